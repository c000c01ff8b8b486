import PyProof.Rows.All
import Wide.All
import OpenK.AllK
import Wide.FinOn
import KE.KStateDown
import HandS.ForMost
import HandS.Defaults
import HandS.Head0
import HandS.Head1
import HandS.Head2
import HandS.HeadEnd
import HandS.HeadHook1
import HandS.HeadHook2
import HandS.HeadHook3
import HandS.HeadHook4
import PySem.Challenge.RW_suretricks_k97_across_deals_columns_shuf
import HandS.More
import HandS.Wide
import HandS.IsInst
import HandS.SortInts
import HandS.DictComp
import HandS.Rev
import HandS.DictEq
import HandS.Deep
import HandS.Style
import HandS.TupSets
import HandS.Conv
import KE.KSortedM
import HandS.Zip
import HandS.Small
import HandS.Star
import PyProof.DictUpdate
import PyProof.DictDisplay
import HandS.Codes
import HandS.WideBits
import PyProof.AutoIntOps
import KE.SortData
import KE.KMathGC
import KE.DataMinMax
import HandS.NoneIn
import HandS.TupLen
import KE.KDictDisplayH
section
set_option Elab.async false
set_option linter.all false
set_option maxRecDepth 100000
set_option maxHeartbeats 0
/-! Printed by asm2.py: the defs' facts as data; the head's run. -/
namespace TL
open PySem PySem.Spec PyProof.Rows L2
def topS (i : Nat) : Stmt := PySem.Challenge.pw_suretricks_k97_across_deals_columns_shuf.main.body.getD i (.Pass ⟨0, 0, 0, 0⟩)

abbrev s_is_whole : Stmt := topS 1
abbrev s_is_count : Stmt := topS 2
abbrev s_is_one_of : Stmt := topS 3
abbrev s_is_pack : Stmt := topS 20
abbrev s_check_pack : Stmt := topS 21
abbrev s_is_move_there : Stmt := topS 22
abbrev s_check_many : Stmt := topS 23
abbrev s_whole_pack : Stmt := topS 25
abbrev s_moved_there : Stmt := topS 26
abbrev s_moved : Stmt := topS 27
abbrev s_deals_check_many : Stmt := topS 36
abbrev s_check_heaps : Stmt := topS 38
abbrev s_heaps_there : Stmt := topS 40
abbrev s_dealt : Stmt := topS 41
abbrev s_is_order : Stmt := topS 42
abbrev s_heap_move : Stmt := topS 43
abbrev s_monge_move : Stmt := topS 44
abbrev s_milk_move : Stmt := topS 45
abbrev s_are_lengths : Stmt := topS 46
abbrev s_check_lengths : Stmt := topS 47
abbrev s_spelled_there : Stmt := topS 48
abbrev s_spelled : Stmt := topS 49
abbrev s_set_to_spell : Stmt := topS 50
abbrev s_check_step : Stmt := topS 52
abbrev s_check_some : Stmt := topS 53
abbrev s_order_there : Stmt := topS 54
abbrev s_out_order : Stmt := topS 56
abbrev s_place_there : Stmt := topS 57
abbrev s_last_place : Stmt := topS 58
abbrev s_out_turn : Stmt := topS 59
abbrev s_set_for : Stmt := topS 60
abbrev s_cut_there : Stmt := topS 62
abbrev s_cut_by : Stmt := topS 63
abbrev s_check_ranks : Stmt := topS 65
abbrev s_suits_of : Stmt := topS 66
abbrev s_ranks_of : Stmt := topS 67
abbrev s_colours_of : Stmt := topS 68
abbrev s_check_move : Stmt := topS 70
abbrev s_check_other : Stmt := topS 71
abbrev s_then_there : Stmt := topS 72
abbrev s_one_then : Stmt := topS 73
abbrev s_back_there : Stmt := topS 74
abbrev s_move_back : Stmt := topS 75
abbrev s_rings_there : Stmt := topS 76
abbrev s_common : Stmt := topS 77
abbrev s_moves_order_there : Stmt := topS 78
abbrev s_order_of : Stmt := topS 80
abbrev s_all_in_turn : Stmt := topS 81
abbrev s_is_even : Stmt := topS 82
abbrev s_check_at : Stmt := topS 83
abbrev s_cut_move : Stmt := topS 84
abbrev s_about_move : Stmt := topS 85
abbrev s_faros_check_many : Stmt := topS 87
abbrev s_check_kind : Stmt := topS 89
abbrev s_faro_there : Stmt := topS 90
abbrev s_faro_move : Stmt := topS 91
abbrev s_is_ring : Stmt := topS 93
abbrev s_check_ring : Stmt := topS 94
abbrev s_windows_there : Stmt := topS 95
abbrev s_check_length : Stmt := topS 96
abbrev s_are_unlike : Stmt := topS 97
abbrev s_does_tell : Stmt := topS 98
abbrev s_is_window : Stmt := topS 99
abbrev s_places_for : Stmt := topS 100
abbrev s_check_signs : Stmt := topS 102
abbrev s_power_of : Stmt := topS 103
abbrev s_greedy_ring : Stmt := topS 104
abbrev s_words_there : Stmt := topS 105
abbrev s_least_ring : Stmt := topS 106
abbrev s_heaps_check_heaps : Stmt := topS 108
abbrev s_is_order_there : Stmt := topS 110
abbrev s_columns_there : Stmt := topS 111
abbrev s_columns : Stmt := topS 112
abbrev s_gathered_there : Stmt := topS 113
abbrev s_deal_move : Stmt := topS 114
abbrev s_pack_of_ring : Stmt := topS 117
abbrev s_signs_there : Stmt := topS 118
abbrev s_tells_by : Stmt := topS 119
abbrev s_cards_for : Stmt := topS 120
abbrev s__law_purse : Stmt := topS 122
abbrev s__law_mixed : Stmt := topS 123
abbrev s__law_draw0 : Stmt := topS 124
abbrev s__law_one_of : Stmt := topS 125
abbrev s__law_exact : Stmt := topS 126
abbrev s__law_shuffled : Stmt := topS 127
abbrev s__law_pack : Stmt := topS 128
abbrev s__law_deals_right : Stmt := topS 129
abbrev s__law_rings_right : Stmt := topS 130
abbrev s_law : Stmt := topS 131
def D_1 : He.DefD := ⟨("is_whole", none), "is_whole", "is_whole", defArgs s_is_whole, defBody s_is_whole, defScope s_is_whole, [], []⟩
def D_2 : He.DefD := ⟨("is_count", none), "is_count", "is_count", defArgs s_is_count, defBody s_is_count, defScope s_is_count, [.int 0], []⟩
def D_3 : He.DefD := ⟨("is_one_of", none), "is_one_of", "is_one_of", defArgs s_is_one_of, defBody s_is_one_of, defScope s_is_one_of, [], []⟩
def D_4 : He.DefD := ⟨("is_pack", none), "is_pack", "is_pack", defArgs s_is_pack, defBody s_is_pack, defScope s_is_pack, [], []⟩
def D_5 : He.DefD := ⟨("check_pack", none), "check_pack", "check_pack", defArgs s_check_pack, defBody s_check_pack, defScope s_check_pack, [], []⟩
def D_6 : He.DefD := ⟨("is_move_there", none), "is_move_there", "is_move_there", defArgs s_is_move_there, defBody s_is_move_there, defScope s_is_move_there, [], []⟩
def D_7 : He.DefD := ⟨("check_many_packs", none), "check_many", "check_many", defArgs s_check_many, defBody s_check_many, defScope s_check_many, [], []⟩
def D_8 : He.DefD := ⟨("whole_pack", none), "whole_pack", "whole_pack", defArgs s_whole_pack, defBody s_whole_pack, defScope s_whole_pack, [], []⟩
def D_9 : He.DefD := ⟨("moved_there", none), "moved_there", "moved_there", defArgs s_moved_there, defBody s_moved_there, defScope s_moved_there, [], []⟩
def D_10 : He.DefD := ⟨("moved", none), "moved", "moved", defArgs s_moved, defBody s_moved, defScope s_moved, [], []⟩
def D_11 : He.DefD := ⟨("check_many_deals", none), "check_many", "check_many", defArgs s_deals_check_many, defBody s_deals_check_many, defScope s_deals_check_many, [], []⟩
def D_12 : He.DefD := ⟨("check_heaps_deals", none), "check_heaps", "check_heaps", defArgs s_check_heaps, defBody s_check_heaps, defScope s_check_heaps, [], []⟩
def D_13 : He.DefD := ⟨("heaps_there", none), "heaps_there", "heaps_there", defArgs s_heaps_there, defBody s_heaps_there, defScope s_heaps_there, [], []⟩
def D_14 : He.DefD := ⟨("dealt", none), "dealt", "dealt", defArgs s_dealt, defBody s_dealt, defScope s_dealt, [], []⟩
def D_15 : He.DefD := ⟨("is_order", none), "is_order", "is_order", defArgs s_is_order, defBody s_is_order, defScope s_is_order, [], []⟩
def D_16 : He.DefD := ⟨("heap_move", none), "heap_move", "heap_move", defArgs s_heap_move, defBody s_heap_move, defScope s_heap_move, [], []⟩
def D_17 : He.DefD := ⟨("monge_move", none), "monge_move", "monge_move", defArgs s_monge_move, defBody s_monge_move, defScope s_monge_move, [], []⟩
def D_18 : He.DefD := ⟨("milk_move", none), "milk_move", "milk_move", defArgs s_milk_move, defBody s_milk_move, defScope s_milk_move, [], []⟩
def D_19 : He.DefD := ⟨("are_lengths", none), "are_lengths", "are_lengths", defArgs s_are_lengths, defBody s_are_lengths, defScope s_are_lengths, [], []⟩
def D_20 : He.DefD := ⟨("check_lengths", none), "check_lengths", "check_lengths", defArgs s_check_lengths, defBody s_check_lengths, defScope s_check_lengths, [], []⟩
def D_21 : He.DefD := ⟨("spelled_there", none), "spelled_there", "spelled_there", defArgs s_spelled_there, defBody s_spelled_there, defScope s_spelled_there, [], []⟩
def D_22 : He.DefD := ⟨("spelled", none), "spelled", "spelled", defArgs s_spelled, defBody s_spelled, defScope s_spelled, [], []⟩
def D_23 : He.DefD := ⟨("set_to_spell", none), "set_to_spell", "set_to_spell", defArgs s_set_to_spell, defBody s_set_to_spell, defScope s_set_to_spell, [], []⟩
def D_24 : He.DefD := ⟨("check_step", none), "check_step", "check_step", defArgs s_check_step, defBody s_check_step, defScope s_check_step, [], []⟩
def D_25 : He.DefD := ⟨("check_some", none), "check_some", "check_some", defArgs s_check_some, defBody s_check_some, defScope s_check_some, [], []⟩
def D_26 : He.DefD := ⟨("order_there_counts", none), "order_there", "order_there", defArgs s_order_there, defBody s_order_there, defScope s_order_there, [], []⟩
def D_27 : He.DefD := ⟨("out_order", none), "out_order", "out_order", defArgs s_out_order, defBody s_out_order, defScope s_out_order, [], []⟩
def D_28 : He.DefD := ⟨("place_there", none), "place_there", "place_there", defArgs s_place_there, defBody s_place_there, defScope s_place_there, [], []⟩
def D_29 : He.DefD := ⟨("last_place", none), "last_place", "last_place", defArgs s_last_place, defBody s_last_place, defScope s_last_place, [], []⟩
def D_30 : He.DefD := ⟨("out_turn", none), "out_turn", "out_turn", defArgs s_out_turn, defBody s_out_turn, defScope s_out_turn, [], []⟩
def D_31 : He.DefD := ⟨("set_for", none), "set_for", "set_for", defArgs s_set_for, defBody s_set_for, defScope s_set_for, [], []⟩
def D_32 : He.DefD := ⟨("cut_there", none), "cut_there", "cut_there", defArgs s_cut_there, defBody s_cut_there, defScope s_cut_there, [], []⟩
def D_33 : He.DefD := ⟨("cut_by", none), "cut_by", "cut_by", defArgs s_cut_by, defBody s_cut_by, defScope s_cut_by, [], []⟩
def D_34 : He.DefD := ⟨("check_ranks", none), "check_ranks", "check_ranks", defArgs s_check_ranks, defBody s_check_ranks, defScope s_check_ranks, [], []⟩
def D_35 : He.DefD := ⟨("suits_of", none), "suits_of", "suits_of", defArgs s_suits_of, defBody s_suits_of, defScope s_suits_of, [], []⟩
def D_36 : He.DefD := ⟨("ranks_of", none), "ranks_of", "ranks_of", defArgs s_ranks_of, defBody s_ranks_of, defScope s_ranks_of, [], []⟩
def D_37 : He.DefD := ⟨("colours_of", none), "colours_of", "colours_of", defArgs s_colours_of, defBody s_colours_of, defScope s_colours_of, [], []⟩
def D_38 : He.DefD := ⟨("check_move", none), "check_move", "check_move", defArgs s_check_move, defBody s_check_move, defScope s_check_move, [], []⟩
def D_39 : He.DefD := ⟨("check_other", none), "check_other", "check_other", defArgs s_check_other, defBody s_check_other, defScope s_check_other, [], []⟩
def D_40 : He.DefD := ⟨("then_there", none), "then_there", "then_there", defArgs s_then_there, defBody s_then_there, defScope s_then_there, [], []⟩
def D_41 : He.DefD := ⟨("one_then", none), "one_then", "one_then", defArgs s_one_then, defBody s_one_then, defScope s_one_then, [], []⟩
def D_42 : He.DefD := ⟨("back_there", none), "back_there", "back_there", defArgs s_back_there, defBody s_back_there, defScope s_back_there, [], []⟩
def D_43 : He.DefD := ⟨("move_back", none), "move_back", "move_back", defArgs s_move_back, defBody s_move_back, defScope s_move_back, [], []⟩
def D_44 : He.DefD := ⟨("rings_there", none), "rings_there", "rings_there", defArgs s_rings_there, defBody s_rings_there, defScope s_rings_there, [], []⟩
def D_45 : He.DefD := ⟨("common", none), "common", "common", defArgs s_common, defBody s_common, defScope s_common, [], []⟩
def D_46 : He.DefD := ⟨("order_there_moves", none), "order_there", "order_there", defArgs s_moves_order_there, defBody s_moves_order_there, defScope s_moves_order_there, [], []⟩
def D_47 : He.DefD := ⟨("order_of", none), "order_of", "order_of", defArgs s_order_of, defBody s_order_of, defScope s_order_of, [], []⟩
def D_48 : He.DefD := ⟨("all_in_turn", none), "all_in_turn", "all_in_turn", defArgs s_all_in_turn, defBody s_all_in_turn, defScope s_all_in_turn, [], []⟩
def D_49 : He.DefD := ⟨("is_even", none), "is_even", "is_even", defArgs s_is_even, defBody s_is_even, defScope s_is_even, [], []⟩
def D_50 : He.DefD := ⟨("check_at", none), "check_at", "check_at", defArgs s_check_at, defBody s_check_at, defScope s_check_at, [], []⟩
def D_51 : He.DefD := ⟨("cut_move", none), "cut_move", "cut_move", defArgs s_cut_move, defBody s_cut_move, defScope s_cut_move, [], []⟩
def D_52 : He.DefD := ⟨("about_move", none), "about_move", "about_move", defArgs s_about_move, defBody s_about_move, defScope s_about_move, [], []⟩
def D_53 : He.DefD := ⟨("check_many_faros", none), "check_many", "check_many", defArgs s_faros_check_many, defBody s_faros_check_many, defScope s_faros_check_many, [], []⟩
def D_54 : He.DefD := ⟨("check_kind", none), "check_kind", "check_kind", defArgs s_check_kind, defBody s_check_kind, defScope s_check_kind, [], []⟩
def D_55 : He.DefD := ⟨("faro_there", none), "faro_there", "faro_there", defArgs s_faro_there, defBody s_faro_there, defScope s_faro_there, [], []⟩
def D_56 : He.DefD := ⟨("faro_move", none), "faro_move", "faro_move", defArgs s_faro_move, defBody s_faro_move, defScope s_faro_move, [], []⟩
def D_57 : He.DefD := ⟨("is_ring", none), "is_ring", "is_ring", defArgs s_is_ring, defBody s_is_ring, defScope s_is_ring, [], []⟩
def D_58 : He.DefD := ⟨("check_ring", none), "check_ring", "check_ring", defArgs s_check_ring, defBody s_check_ring, defScope s_check_ring, [], []⟩
def D_59 : He.DefD := ⟨("windows_there", none), "windows_there", "windows_there", defArgs s_windows_there, defBody s_windows_there, defScope s_windows_there, [], []⟩
def D_60 : He.DefD := ⟨("check_length", none), "check_length", "check_length", defArgs s_check_length, defBody s_check_length, defScope s_check_length, [], []⟩
def D_61 : He.DefD := ⟨("are_unlike", none), "are_unlike", "are_unlike", defArgs s_are_unlike, defBody s_are_unlike, defScope s_are_unlike, [], []⟩
def D_62 : He.DefD := ⟨("does_tell", none), "does_tell", "does_tell", defArgs s_does_tell, defBody s_does_tell, defScope s_does_tell, [], []⟩
def D_63 : He.DefD := ⟨("is_window", none), "is_window", "is_window", defArgs s_is_window, defBody s_is_window, defScope s_is_window, [], []⟩
def D_64 : He.DefD := ⟨("places_for", none), "places_for", "places_for", defArgs s_places_for, defBody s_places_for, defScope s_places_for, [], []⟩
def D_65 : He.DefD := ⟨("check_signs", none), "check_signs", "check_signs", defArgs s_check_signs, defBody s_check_signs, defScope s_check_signs, [], []⟩
def D_66 : He.DefD := ⟨("power_of", none), "power_of", "power_of", defArgs s_power_of, defBody s_power_of, defScope s_power_of, [], []⟩
def D_67 : He.DefD := ⟨("greedy_ring", none), "greedy_ring", "greedy_ring", defArgs s_greedy_ring, defBody s_greedy_ring, defScope s_greedy_ring, [], []⟩
def D_68 : He.DefD := ⟨("words_there", none), "words_there", "words_there", defArgs s_words_there, defBody s_words_there, defScope s_words_there, [], []⟩
def D_69 : He.DefD := ⟨("least_ring", none), "least_ring", "least_ring", defArgs s_least_ring, defBody s_least_ring, defScope s_least_ring, [], []⟩
def D_70 : He.DefD := ⟨("check_heaps_heaps", none), "check_heaps", "check_heaps", defArgs s_heaps_check_heaps, defBody s_heaps_check_heaps, defScope s_heaps_check_heaps, [], []⟩
def D_71 : He.DefD := ⟨("is_order_there", none), "is_order_there", "is_order_there", defArgs s_is_order_there, defBody s_is_order_there, defScope s_is_order_there, [], []⟩
def D_72 : He.DefD := ⟨("columns_there", none), "columns_there", "columns_there", defArgs s_columns_there, defBody s_columns_there, defScope s_columns_there, [], []⟩
def D_73 : He.DefD := ⟨("columns", none), "columns", "columns", defArgs s_columns, defBody s_columns, defScope s_columns, [], []⟩
def D_74 : He.DefD := ⟨("gathered_there", none), "gathered_there", "gathered_there", defArgs s_gathered_there, defBody s_gathered_there, defScope s_gathered_there, [], []⟩
def D_75 : He.DefD := ⟨("deal_move", none), "deal_move", "deal_move", defArgs s_deal_move, defBody s_deal_move, defScope s_deal_move, [], []⟩
def D_76 : He.DefD := ⟨("pack_of_ring", none), "pack_of_ring", "pack_of_ring", defArgs s_pack_of_ring, defBody s_pack_of_ring, defScope s_pack_of_ring, [], []⟩
def D_77 : He.DefD := ⟨("signs_there", none), "signs_there", "signs_there", defArgs s_signs_there, defBody s_signs_there, defScope s_signs_there, [], []⟩
def D_78 : He.DefD := ⟨("tells_by", none), "tells_by", "tells_by", defArgs s_tells_by, defBody s_tells_by, defScope s_tells_by, [], []⟩
def D_79 : He.DefD := ⟨("cards_for", none), "cards_for", "cards_for", defArgs s_cards_for, defBody s_cards_for, defScope s_cards_for, [], []⟩
def D_80 : He.DefD := ⟨("_law_purse", none), "_law_purse", "_law_purse", defArgs s__law_purse, defBody s__law_purse, defScope s__law_purse, [], []⟩
def D_81 : He.DefD := ⟨("_law_mixed", none), "_law_mixed", "_law_mixed", defArgs s__law_mixed, defBody s__law_mixed, defScope s__law_mixed, [], []⟩
def D_82 : He.DefD := ⟨("_law_draw", none), "_law_draw", "_law_draw", defArgs s__law_draw0, defBody s__law_draw0, defScope s__law_draw0, [], []⟩
def D_83 : He.DefD := ⟨("_law_one_of", none), "_law_one_of", "_law_one_of", defArgs s__law_one_of, defBody s__law_one_of, defScope s__law_one_of, [], []⟩
def D_84 : He.DefD := ⟨("_law_exact", none), "_law_exact", "_law_exact", defArgs s__law_exact, defBody s__law_exact, defScope s__law_exact, [], []⟩
def D_85 : He.DefD := ⟨("_law_shuffled", none), "_law_shuffled", "_law_shuffled", defArgs s__law_shuffled, defBody s__law_shuffled, defScope s__law_shuffled, [], []⟩
def D_86 : He.DefD := ⟨("_law_pack", none), "_law_pack", "_law_pack", defArgs s__law_pack, defBody s__law_pack, defScope s__law_pack, [], []⟩
def D_87 : He.DefD := ⟨("_law_deals_right", none), "_law_deals_right", "_law_deals_right", defArgs s__law_deals_right, defBody s__law_deals_right, defScope s__law_deals_right, [], []⟩
def D_88 : He.DefD := ⟨("_law_rings_right", none), "_law_rings_right", "_law_rings_right", defArgs s__law_rings_right, defBody s__law_rings_right, defScope s__law_rings_right, [], []⟩
def D_89 : He.DefD := ⟨("law", none), "law", "law", defArgs s_law, defBody s_law, defScope s_law, [], []⟩
def fnL_0 : List He.DefD := [D_1, D_2, D_3, D_4, D_5, D_6, D_7, D_8, D_9, D_10, D_11, D_12, D_13, D_14, D_15, D_16, D_17, D_18, D_19, D_20, D_21, D_22, D_23, D_24, D_25, D_26, D_27, D_28, D_29, D_30]
def fnL_1 : List He.DefD := [D_31, D_32, D_33, D_34, D_35, D_36, D_37, D_38, D_39, D_40, D_41, D_42, D_43, D_44, D_45, D_46, D_47, D_48, D_49, D_50, D_51, D_52, D_53, D_54, D_55, D_56, D_57, D_58, D_59, D_60]
def fnL_2 : List He.DefD := [D_61, D_62, D_63, D_64, D_65, D_66, D_67, D_68, D_69, D_70, D_71, D_72, D_73, D_74, D_75, D_76, D_77, D_78, D_79, D_80, D_81, D_82, D_83, D_84, D_85, D_86, D_87, D_88, D_89]
def fnL_ : List He.DefD := fnL_0 ++ fnL_1 ++ fnL_2
def faL_0 : List He.Fa := [.glo "law", .glo "is_whole", .glo "is_count", .glo "is_pack", .glo "check_many_packs", .glo "check_pack", .glo "is_move_there", .glo "moved_there", .glo "check_heaps_deals", .glo "heaps_there", .glo "check_many_deals", .glo "is_order", .glo "are_lengths", .glo "check_lengths", .glo "spelled_there", .glo "check_step", .glo "order_there_counts", .glo "check_some", .glo "place_there", .glo "cut_there", .glo "check_ranks", .glo "check_move", .glo "check_other", .glo "then_there", .glo "back_there", .glo "rings_there", .glo "common", .glo "order_there_moves", .glo "check_at", .glo "check_many_faros"]
def faL_1 : List He.Fa := [.glo "is_one_of", .glo "check_kind", .glo "faro_there", .glo "is_ring", .glo "check_ring", .glo "check_length", .glo "are_unlike", .glo "windows_there", .glo "is_window", .glo "check_signs", .glo "power_of", .glo "words_there", .glo "check_heaps_heaps", .glo "columns_there", .glo "is_order_there", .glo "gathered_there", .glo "colours_of", .glo "ranks_of", .glo "suits_of", .glo "does_tell", .glo "signs_there", .glo "places_for", .glo "_law_mixed", .glo "_law_draw", .glo "_law_exact", .glo "_law_shuffled", .glo "_law_pack", .glo "dealt", .glo "columns", .glo "heap_move"]
def faL_2 : List He.Fa := [.glo "one_then", .glo "about_move", .glo "deal_move", .glo "moved", .glo "milk_move", .glo "monge_move", .glo "whole_pack", .glo "is_even", .glo "out_order", .glo "set_for", .glo "out_turn", .glo "last_place", .glo "spelled", .glo "set_to_spell", .glo "move_back", .glo "faro_move", .glo "order_of", .glo "_law_one_of", .glo "least_ring", .glo "greedy_ring", .glo "pack_of_ring", .glo "tells_by", .glo "cut_by", .glo "cut_move", .glo "cards_for", .glo "all_in_turn", .glo "_law_purse", .glo "_law_deals_right", .glo "_law_rings_right", .free "len"]
def faL_3 : List He.Fa := [.free "isinstance", .free "all", .free "any", .free "sorted", .free "list", .free "tuple", .free "dict", .free "set", .free "range", .free "zip", .free "enumerate", .free "max", .free "min", .free "sum", .free "abs", .free "int", .free "str", .free "bool", .glo "SIGNS"]
def faL_ : List He.Fa := faL_0 ++ faL_1 ++ faL_2 ++ faL_3
def exL_ (K : PySem.W.Frag) : Bool := (He.tupB K "SIGNS" [.str ⟨#[99, 111, 108, 111, 117, 114, 115]⟩, .str ⟨#[114, 97, 110, 107, 115]⟩, .str ⟨#[115, 117, 105, 116, 115]⟩])
theorem exL_0 {K : PySem.W.Frag} (h : exL_ K = true) : (He.tupB K "SIGNS" [.str ⟨#[99, 111, 108, 111, 117, 114, 115]⟩, .str ⟨#[114, 97, 110, 107, 115]⟩, .str ⟨#[115, 117, 105, 116, 115]⟩]) = true := h
def nmL_0 : List PySem.Str := ["__name__", "is_whole", "is_count", "is_one_of", "TrickError", "InvalidMany", "InvalidAt", "InvalidRanks", "InvalidHeaps", "InvalidLengths", "InvalidLength", "InvalidKind", "InvalidBy", "InvalidPack", "InvalidMove", "InvalidOtherMove", "InvalidMoves", "InvalidPlace", "is_pack", "check_pack", "is_move_there", "check_many", "check_many_packs", "whole_pack", "moved_there", "moved", "InvalidSigns", "InvalidOrder", "InvalidStep", "InvalidRing"]
def nmL_1 : List PySem.Str := ["InvalidWindow", "InvalidSign", "check_many_deals", "check_heaps", "check_heaps_deals", "heaps_there", "dealt", "is_order", "heap_move", "monge_move", "milk_move", "are_lengths", "check_lengths", "spelled_there", "spelled", "set_to_spell", "check_step", "check_some", "order_there", "order_there_counts", "out_order", "place_there", "last_place", "out_turn", "set_for", "cut_there", "cut_by", "check_ranks", "suits_of", "ranks_of"]
def nmL_2 : List PySem.Str := ["colours_of", "check_move", "check_other", "then_there", "one_then", "back_there", "move_back", "rings_there", "common", "order_there_moves", "order_of", "all_in_turn", "is_even", "check_at", "cut_move", "about_move", "check_many_faros", "check_kind", "faro_there", "faro_move", "is_ring", "check_ring", "windows_there", "check_length", "are_unlike", "does_tell", "is_window", "places_for", "check_signs", "power_of"]
def nmL_3 : List PySem.Str := ["greedy_ring", "words_there", "least_ring", "check_heaps_heaps", "is_order_there", "columns_there", "columns", "gathered_there", "deal_move", "SIGNS", "pack_of_ring", "signs_there", "tells_by", "cards_for", "_law_purse", "_law_mixed", "_law_draw", "_law_one_of", "_law_exact", "_law_shuffled", "_law_pack", "_law_deals_right", "_law_rings_right"]
def nmL_ : List PySem.Str := nmL_0 ++ nmL_1 ++ nmL_2 ++ nmL_3
abbrev RR : PySem.W.OpenRow := PySem.W.OpenLaw.row PySem.Challenge.rw_suretricks_k97_across_deals_columns_shuf
abbrev hkR : PySem.W.Hook := He.hookX 2 faL_ fnL_ [] [] exL_
def obR (s : PySem.W.SharedT) : He.AlX := He.obsX 2 faL_ fnL_ [] [] exL_ (HandSHeadRun.getT s)
theorem obR_eq (s : PySem.W.SharedT) : obR s = hkR.obs s.abs := He.obsX_eq (HandSHeadRun.getT_eq s)
abbrev qR : PySem.Program := PySem.W.view RR.prog [131]
theorem run1 (w : World) (os : OsState) : (HandSHeadRun.endF (HandSHeadRun.stepQ (HandSHeadRun.denQ HandSHeadRun.tabQ) RR.prog w) 8000 RR.prog w os).map (fun s => HandSHeadRun.looksF RR.prog (PySem.W.boot_heap w.params) s.abs) = some true := by
  kernel_rfl
theorem run2 (w : World) (os : OsState) : (HandSHeadRun.endF (HandSHeadRun.stepQ (HandSHeadRun.denQ HandSHeadRun.tabQ) RR.prog w) 8000 RR.prog w os).map (fun s => HandSHeadRun.seenQ qR nmL_ (PySem.importedModules RR.prog.main.body) (fun s => PySem.W.xlAt qR [] s && PySem.W.recOk RR.toRowW.records s) s.abs) = some (PySem.W.openGood qR nmL_) := by
  kernel_rfl
theorem run3 (w : World) (os : OsState) : (HandSHeadRun.endF (HandSHeadRun.stepQ (HandSHeadRun.denQ HandSHeadRun.tabQ) RR.prog w) 8000 RR.prog w os).map obR = some (hkR.val w) := by
  kernel_rfl
theorem map3 {α β γ δ : Type} {x : Option α} {f : α → β} {g : α → γ} {h : α → δ} {b : β} {c : γ} {d : δ} (e1 : x.map f = some b) (e2 : x.map g = some c) (e3 : x.map h = some d) : x.map (fun s => (f s, g s, h s)) = some (b, c, d) := by
  cases x with
  | none => cases e1
  | some s =>
    injection e1 with e1
    injection e2 with e2
    injection e3 with e3
    show some (f s, g s, h s) = _
    rw [e1, e2, e3]
theorem runR (w : World) : HandSHeadRun.RunEq RR qR hkR obR 8000 nmL_ w := by
  intro os
  have e1 := run1 w os
  have e2 := run2 w os
  have e3 := run3 w os
  revert e1 e2 e3
  generalize HandSHeadRun.endF (HandSHeadRun.stepQ (HandSHeadRun.denQ HandSHeadRun.tabQ) RR.prog w) 8000 RR.prog w os = x
  intro e1 e2 e3
  exact map3 e1 e2 e3
end TL
end
section
set_option Elab.async false
set_option linter.all false
set_option maxRecDepth 100000
/-! TL1: trees, worlds, what a value is told to be, results with picks. -/
namespace TL
open PySem PySem.Spec PyProof.Rows L2

/-- a value as a tree; ref n: an object of the store that may change; scr a: the thing at a, of which nothing is told here -/
inductive T where
  | non | bl (b : Bool) | int (i : Int) | str (x : Str)
  | lst (xs : List T) | tup (xs : List T) | dic (ks : List Key) (xs : List T)
  | ref (n : Nat) | scr (a : Addr)

/-- an object of the store -/
inductive MO where
  | lst (xs : List T) | dic (ks : List Key) (xs : List T) | ins (c : Str) (fs : List Str) (xs : List T)
  | purse (k : Nat) | dtp (ks : List (List Key)) (xs : List T)

structure Sto where
  m : List (Nat × MO)
  nx : Nat

def lkM (n : Nat) : List (Nat × MO) → Option MO
  | [] => none
  | (k, o) :: r => if Nat.beq k n then some o else lkM n r
def stM (n : Nat) (o : MO) : List (Nat × MO) → List (Nat × MO)
  | [] => []
  | (k, u) :: r => if Nat.beq k n then (k, o) :: r else (k, u) :: stM n o r
def dlM (n : Nat) : List (Nat × MO) → List (Nat × MO)
  | [] => []
  | (k, u) :: r => if Nat.beq k n then dlM n r else (k, u) :: dlM n r
def Sto.get (M : Sto) (n : Nat) : Option MO := lkM n M.m
def Sto.set (M : Sto) (n : Nat) (o : MO) : Sto := ⟨stM n o M.m, M.nx⟩
def Sto.del (M : Sto) (n : Nat) : Sto := ⟨dlM n M.m, M.nx⟩
def Sto.add (M : Sto) (o : MO) : Sto := ⟨M.m ++ [(M.nx, o)], M.nx + 1⟩

theorem lkM_set {n k : Nat} {o : MO} : ∀ {l : List (Nat × MO)}, (∃ u, lkM n l = some u) → lkM k (stM n o l) = if k = n then some o else lkM k l
  | [], h => by obtain ⟨_, h⟩ := h; cases h
  | (j, u) :: r, h => by
    unfold stM
    by_cases e : Nat.beq j n = true
    · rw [if_pos e]
      have e2 := Nat.eq_of_beq_eq_true e
      subst e2
      unfold lkM
      by_cases e3 : Nat.beq j k = true
      · rw [if_pos e3, if_pos (Nat.eq_of_beq_eq_true e3).symm]
      · rw [if_neg e3, if_neg (fun z => e3 (by rw [z]; exact Nat.beq_refl _))]
        show lkM k r = (if Nat.beq j k then some u else lkM k r)
        rw [if_neg e3]
    · rw [if_neg e]
      have h' : ∃ u, lkM n r = some u := by
        obtain ⟨u', h⟩ := h
        unfold lkM at h
        rw [if_neg e] at h
        exact ⟨u', h⟩
      have ih := lkM_set (k := k) (o := o) h'
      show (if Nat.beq j k then some u else lkM k (stM n o r)) = _
      rw [ih]
      show _ = if k = n then some o else (if Nat.beq j k then some u else lkM k r)
      by_cases e3 : Nat.beq j k = true
      · have e4 := Nat.eq_of_beq_eq_true e3
        subst e4
        rw [if_pos e3, if_neg (fun z => e (by rw [z]; exact Nat.beq_refl _)), if_pos e3]
      · rw [if_neg e3, if_neg e3]
theorem lkM_del {n k : Nat} : ∀ {l : List (Nat × MO)}, lkM k (dlM n l) = if k = n then none else lkM k l
  | [] => by show none = _; split <;> rfl
  | (j, u) :: r => by
    unfold dlM
    have ih := lkM_del (n := n) (k := k) (l := r)
    by_cases e : Nat.beq j n = true
    · rw [if_pos e, ih]
      have e2 := Nat.eq_of_beq_eq_true e
      subst e2
      show _ = if k = j then none else (if Nat.beq j k then some u else lkM k r)
      by_cases e3 : k = j
      · rw [if_pos e3, if_pos e3]
      · rw [if_neg e3, if_neg e3, if_neg (fun z => e3 (Nat.eq_of_beq_eq_true z).symm)]
    · rw [if_neg e]
      show (if Nat.beq j k then some u else lkM k (dlM n r)) = if k = n then none else (if Nat.beq j k then some u else lkM k r)
      rw [ih]
      by_cases e3 : Nat.beq j k = true
      · have e4 := Nat.eq_of_beq_eq_true e3
        subst e4
        rw [if_pos e3, if_neg (fun z => e (by rw [z]; exact Nat.beq_refl _)), if_pos e3]
      · rw [if_neg e3, if_neg e3]
theorem lkM_add {n k : Nat} {o : MO} : ∀ {l : List (Nat × MO)}, lkM n l = none → lkM k (l ++ [(n, o)]) = if k = n then some o else lkM k l
  | [], _ => by
    show (if Nat.beq n k then some o else none) = _
    by_cases e : k = n
    · rw [if_pos e, e, if_pos (Nat.beq_refl _)]
    · rw [if_neg e, if_neg (fun z => e (Nat.eq_of_beq_eq_true z).symm)]; rfl
  | (j, u) :: r, h => by
    have h2 : ¬ Nat.beq j n = true ∧ lkM n r = none := by
      unfold lkM at h
      by_cases e : Nat.beq j n = true
      · rw [if_pos e] at h; cases h
      · rw [if_neg e] at h; exact ⟨e, h⟩
    have ih := lkM_add (k := k) (o := o) h2.2
    show (if Nat.beq j k then some u else lkM k (r ++ [(n, o)])) = if k = n then some o else (if Nat.beq j k then some u else lkM k r)
    rw [ih]
    by_cases e3 : Nat.beq j k = true
    · have e4 := Nat.eq_of_beq_eq_true e3
      subst e4
      rw [if_pos e3, if_neg (fun z => h2.1 (by rw [z]; exact Nat.beq_refl _)), if_pos e3]
    · rw [if_neg e3, if_neg e3]

/-! ### results -/
inductive Res (α : Type) where
  | ok (a : α) (M : Sto)
  | stuck
  | pick (m : Nat) (f : Nat → Res α)
def Res.all {α : Type} (Φ : α → Sto → Prop) : Res α → Prop
  | .ok a M => Φ a M
  | .stuck => False
  | .pick m f => ∀ r, r < m → (f r).all Φ
def Res.bind {α β : Type} (a : Res α) (k : α → Sto → Res β) : Res β :=
  match a with
  | .ok a M => k a M
  | .stuck => .stuck
  | .pick m f => .pick m fun r => (f r).bind k
theorem Res.all_bind {α β : Type} {Φ : β → Sto → Prop} {k : α → Sto → Res β} : ∀ {a : Res α}, (a.bind k).all Φ → a.all fun x M => (k x M).all Φ
  | .ok _ _, h => h
  | .stuck, h => h
  | .pick _ _, h => fun r hr => all_bind (h r hr)
theorem Res.bind_all {α β : Type} {Φ : β → Sto → Prop} {k : α → Sto → Res β} : ∀ {a : Res α}, (a.all fun x M => (k x M).all Φ) → (a.bind k).all Φ
  | .ok _ _, h => h
  | .stuck, h => h
  | .pick _ _, h => fun r hr => bind_all (h r hr)
theorem Res.all_mono {α : Type} {Φ Ψ : α → Sto → Prop} (h : ∀ x M, Φ x M → Ψ x M) : ∀ {a : Res α}, a.all Φ → a.all Ψ
  | .ok _ _, q => h _ _ q
  | .stuck, q => q
  | .pick _ _, q => fun r hr => all_mono h (q r hr)

/-! ### worlds -/
structure Wd where
  H : Hp
  ρ : Nat → Addr
  M : Sto
  R : Addr → Prop
def Ex (w : Wd) (a : Addr) : Prop := w.R a ∨ ∃ n o, w.M.get n = some o ∧ w.ρ n = a
def listO : HO → Prop
  | .lst _ => True
  | .tup _ => True
  | _ => False

mutual
inductive Rep (w : Wd) : V → T → Prop
  | non : Rep w .non .non
  | bl (b : Bool) : Rep w (.bl b) (.bl b)
  | int (i : Int) : Rep w (.int i) (.int i)
  | str (x : Str) : Rep w (.str x) (.str x)
  | lst {a : Addr} {xs : List V} {ts : List T} : ¬ Ex w a → Rd w.H a (.lst xs) → RepL w xs ts → Rep w (.ref a) (.lst ts)
  | tup {a : Addr} {xs : List V} {ts : List T} : ¬ Ex w a → w.H a = some (.tup xs) → RepL w xs ts → Rep w (.ref a) (.tup ts)
  | dic {a : Addr} {kvs : List (Key × V)} {ks : List Key} {ts : List T} : ¬ Ex w a → Rd w.H a (.dK kvs) → kvs.map Prod.fst = ks → ks.Nodup → RepL w (kvs.map Prod.snd) ts → Rep w (.ref a) (.dic ks ts)
  | ref (n : Nat) : n < w.M.nx → Rep w (.ref (w.ρ n)) (.ref n)
  | scr (a : Addr) : Rep w (.ref a) (.scr a)
inductive RepL (w : Wd) : List V → List T → Prop
  | nil : RepL w [] []
  | cons {v : V} {t : T} {vs : List V} {ts : List T} : Rep w v t → RepL w vs ts → RepL w (v :: vs) (t :: ts)
end

structure Keep (w w' : Wd) : Prop where
  keep : ∀ a u, listO u → w.H a = some u → ¬ Ex w a → w'.H a = some u ∧ ¬ Ex w' a
  keepF : ∀ a o u, listO u → w.H a = some (.frz o u) → ¬ Ex w a → w'.H a = some (.frz o u) ∧ ¬ Ex w' a
  keepD : ∀ a kvs, Rd w.H a (.dK kvs) → ¬ Ex w a → Rd w'.H a (.dK kvs) ∧ ¬ Ex w' a
  nx : w.M.nx ≤ w'.M.nx
  rho : ∀ n, n < w.M.nx → w'.ρ n = w.ρ n
structure Ext (w w' : Wd) : Prop where
  keep : ∀ a u, listO u → w.H a = some u → ¬ Ex w a → w'.H a = some u ∧ ¬ Ex w' a
  keepF : ∀ a o u, listO u → w.H a = some (.frz o u) → ¬ Ex w a → w'.H a = some (.frz o u) ∧ ¬ Ex w' a
  keepD : ∀ a kvs, Rd w.H a (.dK kvs) → ¬ Ex w a → Rd w'.H a (.dK kvs) ∧ ¬ Ex w' a
  dom : ∀ a, w.H a ≠ none → w'.H a ≠ none
  nx : w.M.nx ≤ w'.M.nx
  rho : ∀ n, n < w.M.nx → w'.ρ n = w.ρ n
  R : ∀ a, w.R a → w'.R a
  Rk : ∀ a, w.R a → w'.H a = w.H a
  frz : ∀ a o u, w.H a = some (.frz o u) → w'.H a = some (.frz o u)
theorem Ext.toKeep {w w' : Wd} (x : Ext w w') : Keep w w' := ⟨x.keep, x.keepF, x.keepD, x.nx, x.rho⟩
theorem Keep.rd {w w' : Wd} (x : Keep w w') {a : Addr} {u : HO} (hu : listO u) (h : Rd w.H a u) (n : ¬ Ex w a) : Rd w'.H a u ∧ ¬ Ex w' a := by
  rcases h with h | ⟨o, h⟩
  · exact ⟨.inl (x.keep a u hu h n).1, (x.keep a u hu h n).2⟩
  · exact ⟨.inr ⟨o, (x.keepF a o u hu h n).1⟩, (x.keepF a o u hu h n).2⟩
theorem Ext.rd {w w' : Wd} (x : Ext w w') {a : Addr} {u : HO} (hu : listO u) (h : Rd w.H a u) (n : ¬ Ex w a) : Rd w'.H a u ∧ ¬ Ex w' a := x.toKeep.rd hu h n
theorem Ext.refl (w : Wd) : Ext w w := ⟨fun _ _ _ h n => ⟨h, n⟩, fun _ _ _ _ h n => ⟨h, n⟩, fun _ _ h n => ⟨h, n⟩, fun _ h => h, Nat.le_refl _, fun _ _ => rfl, fun _ h => h, fun _ _ => rfl, fun _ _ _ h => h⟩
theorem Ext.trans {a b c : Wd} (x : Ext a b) (y : Ext b c) : Ext a c :=
  ⟨fun p u hp h n => let ⟨h1, n1⟩ := x.keep p u hp h n; y.keep p u hp h1 n1, fun p o u hu h n => let ⟨h1, n1⟩ := x.keepF p o u hu h n; y.keepF p o u hu h1 n1, fun p u h n => let ⟨h1, n1⟩ := x.keepD p u h n; y.keepD p u h1 n1, fun p h => y.dom p (x.dom p h), Nat.le_trans x.nx y.nx,
   fun n h => (y.rho n (Nat.lt_of_lt_of_le h x.nx)).trans (x.rho n h), fun p h => y.R p (x.R p h), fun p h => (y.Rk p (x.R p h)).trans (x.Rk p h), fun p o u h => y.frz p o u (x.frz p o u h)⟩

mutual
theorem Rep.kept {w w' : Wd} (x : Keep w w') : ∀ {v : V} {t : T}, Rep w v t → Rep w' v t
  | _, _, .non => .non
  | _, _, .bl b => .bl b
  | _, _, .int i => .int i
  | _, _, .str s => .str s
  | _, _, .scr a => .scr a
  | _, _, .lst n h r => let ⟨h', n'⟩ := x.rd (u := .lst _) True.intro h n; .lst n' h' (RepL.kept x r)
  | _, _, .tup n h r => let ⟨h', n'⟩ := x.keep _ (.tup _) True.intro h n; .tup n' h' (RepL.kept x r)
  | _, _, .dic n h e d r => let ⟨h', n'⟩ := x.keepD _ _ h n; .dic n' h' e d (RepL.kept x r)
  | _, _, .ref n h => by rw [← x.rho n h]; exact .ref n (Nat.lt_of_lt_of_le h x.nx)
theorem RepL.kept {w w' : Wd} (x : Keep w w') : ∀ {vs : List V} {ts : List T}, RepL w vs ts → RepL w' vs ts
  | _, _, .nil => .nil
  | _, _, .cons r l => .cons (Rep.kept x r) (RepL.kept x l)
end
theorem Rep.mono {w w' : Wd} (x : Ext w w') {v : V} {t : T} (r : Rep w v t) : Rep w' v t := r.kept x.toKeep
theorem RepL.mono {w w' : Wd} (x : Ext w w') {vs : List V} {ts : List T} (r : RepL w vs ts) : RepL w' vs ts := r.kept x.toKeep
theorem RepL.length {w : Wd} : ∀ {vs : List V} {ts : List T}, RepL w vs ts → vs.length = ts.length
  | _, _, .nil => rfl
  | _, _, .cons _ l => by rw [List.length_cons, List.length_cons, RepL.length l]
theorem RepL.get {w : Wd} : ∀ {vs : List V} {ts : List T} {i : Nat} {t : T}, RepL w vs ts → ts[i]? = some t → ∃ v, vs[i]? = some v ∧ Rep w v t
  | _, _, i, _, .nil, e => by simp at e
  | _, _, 0, _, .cons r _, e => by simp at e; subst e; exact ⟨_, rfl, r⟩
  | _, _, i + 1, t, .cons _ l, e => by
    obtain ⟨v, h1, h2⟩ := RepL.get (i := i) (t := t) l (by simpa using e)
    exact ⟨v, by simpa using h1, h2⟩
theorem RepL.append {w : Wd} : ∀ {vs us : List V} {ts ss : List T}, RepL w vs ts → RepL w us ss → RepL w (vs ++ us) (ts ++ ss)
  | _, _, _, _, .nil, s => s
  | _, _, _, _, .cons r l, s => .cons r (RepL.append l s)
theorem RepL.take {w : Wd} : ∀ {vs : List V} {ts : List T} (n : Nat), RepL w vs ts → RepL w (vs.take n) (ts.take n)
  | _, _, 0, _ => .nil
  | _, _, _ + 1, .nil => .nil
  | _, _, n + 1, .cons r l => .cons r (RepL.take n l)
theorem RepL.drop {w : Wd} : ∀ {vs : List V} {ts : List T} (n : Nat), RepL w vs ts → RepL w (vs.drop n) (ts.drop n)
  | _, _, 0, r => r
  | _, _, _ + 1, .nil => .nil
  | _, _, n + 1, .cons _ l => RepL.drop n l
theorem RepL.set {w : Wd} {v : V} {t : T} (q : Rep w v t) : ∀ {vs : List V} {ts : List T} (i : Nat), RepL w vs ts → RepL w (vs.set i v) (ts.set i t)
  | _, _, _, .nil => .nil
  | _, _, 0, .cons _ l => .cons q l
  | _, _, i + 1, .cons r l => .cons r (RepL.set q i l)
theorem RepL.reverse {w : Wd} : ∀ {vs : List V} {ts : List T}, RepL w vs ts → RepL w vs.reverse ts.reverse
  | _, _, .nil => .nil
  | _, _, .cons r l => by rw [List.reverse_cons, List.reverse_cons]; exact RepL.append (RepL.reverse l) (.cons r .nil)
theorem RepL.ints {w : Wd} : ∀ (ns : List Int), RepL w (ns.map V.int) (ns.map T.int)
  | [] => .nil
  | n :: r => .cons (.int n) (RepL.ints r)
theorem RepL.ints_of {w : Wd} : ∀ {vs : List V} {ns : List Int}, RepL w vs (ns.map T.int) → vs = ns.map V.int
  | _, [], .nil => rfl
  | _, n :: r, .cons (.int _) l => by rw [RepL.ints_of l]; rfl

/-- what stands for an object of the store -/
def MRep (mg : Str → Option Value) (w : Wd) (ho : Option HO) : MO → Prop
  | .lst ts => ∃ vs, ho = some (.lst vs) ∧ RepL w vs ts
  | .dic ks ts => ∃ kvs : List (Key × V), ho = some (.dK kvs) ∧ kvs.map Prod.fst = ks ∧ ks.Nodup ∧ RepL w (kvs.map Prod.snd) ts
  | .ins c fs ts => ∃ (C dx : Addr) (kvs : List (Str × V)), mg c = some (.ref C) ∧ ho = some (.ins C dx kvs) ∧ kvs.map Prod.fst = fs ∧ RepL w (kvs.map Prod.snd) ts
  | .purse k => ∃ p0 p1 p2 p3 : Int, ho = some (.lst [.int p0, .int p1, .int p2, .int p3]) ∧ 0 ≤ p0 ∧ p0 < 10 ^ 480 ∧ 0 ≤ p1 ∧ p1 < 2147483629 ∧ 0 ≤ p2 ∧ p2 ≤ k ∧ 0 ≤ p3 ∧ p3 ≤ 63
  | .dtp ks ts => ∃ kvs : List (List Key × V), ho = some (.dT kvs) ∧ kvs.map Prod.fst = ks ∧ RepL w (kvs.map Prod.snd) ts
theorem MRep.kept {mg : Str → Option Value} {w w' : Wd} {ho : Option HO} {o : MO} (x : Keep w w') (h : MRep mg w ho o) : MRep mg w' ho o := by
  cases o with
  | lst ts => obtain ⟨vs, e, r⟩ := h; exact ⟨vs, e, r.kept x⟩
  | dic ks ts => obtain ⟨kvs, e, e2, d, r⟩ := h; exact ⟨kvs, e, e2, d, r.kept x⟩
  | ins c fs ts => obtain ⟨C, dx, kvs, g, e, e2, r⟩ := h; exact ⟨C, dx, kvs, g, e, e2, r.kept x⟩
  | purse k => exact h
  | dtp ks ts => obtain ⟨kvs, e, e2, r⟩ := h; exact ⟨kvs, e, e2, r.kept x⟩
theorem MRep.mono {mg : Str → Option Value} {w w' : Wd} {ho : Option HO} {o : MO} (x : Ext w w') (h : MRep mg w ho o) : MRep mg w' ho o := h.kept x.toKeep
structure Good (mg : Str → Option Value) (w : Wd) : Prop where
  own : ∀ n o, w.M.get n = some o → n < w.M.nx ∧ ¬ w.R (w.ρ n) ∧ MRep mg w (w.H (w.ρ n)) o
  inj : ∀ n m o u, w.M.get n = some o → w.M.get m = some u → w.ρ n = w.ρ m → n = m
  Rd : ∀ a, w.R a → w.H a ≠ none
theorem Good.ex_dom {mg : Str → Option Value} {w : Wd} (g : Good mg w) {a : Addr} (h : Ex w a) : w.H a ≠ none := by
  rcases h with h | ⟨n, o, h, e⟩
  · exact g.Rd a h
  · obtain ⟨_, _, r⟩ := g.own n o h
    rw [e] at r
    intro z
    rw [z] at r
    cases o with
    | lst ts => obtain ⟨_, e, _⟩ := r; cases e
    | dic ks ts => obtain ⟨_, e, _⟩ := r; cases e
    | ins c fs ts => obtain ⟨_, _, _, _, e, _⟩ := r; cases e
    | purse k => obtain ⟨_, _, _, _, e, _⟩ := r; cases e
    | dtp ks ts => obtain ⟨_, e, _⟩ := r; cases e
theorem Good.new_none {mg : Str → Option Value} {w : Wd} (g : Good mg w) : w.M.get w.M.nx = none := by
  cases h : w.M.get w.M.nx with
  | none => rfl
  | some o => exact absurd (g.own _ o h).1 (Nat.lt_irrefl _)

/-! ### a new object -/
/-- a plain object at a fresh address -/
def Wd.put (w : Wd) (p : Addr) (o : HO) : Wd := { w with H := upd w.H p o }
theorem rd_upd {H : Hp} {p a : Addr} {o u : HO} (hp : H p = none) (h : Rd H a u) : Rd (upd H p o) a u := by
  have ne : ∀ {x : HO}, H a = some x → a ≠ p := fun e z => by rw [z, hp] at e; cases e
  rcases h with h | ⟨od, h⟩
  · exact .inl (by rw [upd_ne (ne h)]; exact h)
  · exact .inr ⟨od, by rw [upd_ne (ne h)]; exact h⟩
theorem Ext.put {mg : Str → Option Value} {w : Wd} (g : Good mg w) {p : Addr} {o : HO} (hp : w.H p = none) : Ext w (w.put p o) :=
  ⟨fun a u _ h n => ⟨by show upd w.H p o a = _; rw [upd_ne (ne_of_none h hp)]; exact h, n⟩, fun a ob u _ h n => ⟨by show upd w.H p o a = _; rw [upd_ne (ne_of_none h hp)]; exact h, n⟩, fun a u h n => ⟨rd_upd hp h, n⟩, fun a h => by
    show upd w.H p o a ≠ none
    by_cases e : a = p
    · rw [e, upd_same]; exact fun z => nomatch z
    · rw [upd_ne e]; exact h, Nat.le_refl _, fun _ _ => rfl, fun _ h => h, fun a h => by
    show upd w.H p o a = w.H a
    refine upd_ne fun e => g.Rd a h ?_
    rw [e]; exact hp, fun a ob u h => by show upd w.H p o a = _; rw [upd_ne (ne_of_none h hp)]; exact h⟩
theorem Good.put {mg : Str → Option Value} {w : Wd} (g : Good mg w) {p : Addr} {o : HO} (hp : w.H p = none) : Good mg (w.put p o) := by
  have x := Ext.put (o := o) g hp
  refine ⟨fun n u h => ?_, g.inj, fun a h => x.dom a (g.Rd a h)⟩
  obtain ⟨h1, h2, h3⟩ := g.own n u h
  refine ⟨h1, h2, ?_⟩
  have : (w.put p o).H (w.ρ n) = w.H (w.ρ n) := upd_ne fun e => g.ex_dom (.inr ⟨n, u, h, rfl⟩) (by rw [e]; exact hp)
  show MRep mg _ ((w.put p o).H (w.ρ n)) u
  rw [this]
  exact h3.mono x
theorem Good.notEx {mg : Str → Option Value} {w : Wd} (g : Good mg w) {p : Addr} (hp : w.H p = none) : ¬ Ex w p := fun z => g.ex_dom z hp
theorem put_lst {mg : Str → Option Value} {w : Wd} (g : Good mg w) {p : Addr} {vs : List V} {ts : List T} (hp : w.H p = none) (r : RepL w vs ts) : Rep (w.put p (.lst vs)) (.ref p) (.lst ts) :=
  .lst (g.notEx hp) (.inl upd_same) (r.mono (Ext.put g hp))
theorem put_tup {mg : Str → Option Value} {w : Wd} (g : Good mg w) {p : Addr} {vs : List V} {ts : List T} (hp : w.H p = none) (r : RepL w vs ts) : Rep (w.put p (.tup vs)) (.ref p) (.tup ts) :=
  .tup (g.notEx hp) upd_same (r.mono (Ext.put g hp))
theorem put_dic {mg : Str → Option Value} {w : Wd} (g : Good mg w) {p : Addr} {kvs : List (Key × V)} {ks : List Key} {ts : List T} (hp : w.H p = none) (e : kvs.map Prod.fst = ks) (d : ks.Nodup) (r : RepL w (kvs.map Prod.snd) ts) :
    Rep (w.put p (.dK kvs)) (.ref p) (.dic ks ts) :=
  .dic (g.notEx hp) (.inl upd_same) e d (r.mono (Ext.put g hp))

/-! ### an object of the store is written -/
def Wd.wr (w : Wd) (n : Nat) (ho : HO) (o : MO) : Wd := { w with H := upd w.H (w.ρ n) ho, M := w.M.set n o }
section
variable {mg : Str → Option Value} {w : Wd} {n : Nat} {ho : HO} {o u : MO}
theorem get_set (h : w.M.get n = some u) (k : Nat) : (w.M.set n o).get k = if k = n then some o else w.M.get k := lkM_set ⟨u, h⟩
theorem Ex.wr (h : w.M.get n = some u) (a : Addr) : Ex (w.wr n ho o) a ↔ Ex w a := by
  constructor
  · rintro (z | ⟨k, x, e, rfl⟩)
    · exact .inl z
    · rw [show (w.wr n ho o).M.get k = _ from get_set h k] at e
      by_cases hk : k = n
      · subst hk; exact .inr ⟨k, u, h, rfl⟩
      · rw [if_neg hk] at e; exact .inr ⟨k, x, e, rfl⟩
  · rintro (z | ⟨k, x, e, rfl⟩)
    · exact .inl z
    · by_cases hk : k = n
      · exact .inr ⟨k, o, by rw [show (w.wr n ho o).M.get k = _ from get_set h k, if_pos hk], rfl⟩
      · exact .inr ⟨k, x, by rw [show (w.wr n ho o).M.get k = _ from get_set h k, if_neg hk]; exact e, rfl⟩
theorem Ext.wr (g : Good mg w) (h : w.M.get n = some u) : Ext w (w.wr n ho o) :=
  ⟨fun a x _ hr hn => by
    have ne : a ≠ w.ρ n := fun e => hn (.inr ⟨n, u, h, e.symm⟩)
    exact ⟨by show upd _ _ _ a = _; rw [upd_ne ne]; exact hr, fun z => hn ((Ex.wr h a).mp z)⟩, fun a ob x _ hr hn => by
    have ne : a ≠ w.ρ n := fun e => hn (.inr ⟨n, u, h, e.symm⟩)
    exact ⟨by show upd _ _ _ a = _; rw [upd_ne ne]; exact hr, fun z => hn ((Ex.wr h a).mp z)⟩, fun a x hr hn => by
    have ne : a ≠ w.ρ n := fun e => hn (.inr ⟨n, u, h, e.symm⟩)
    refine ⟨?_, fun z => hn ((Ex.wr h a).mp z)⟩
    rcases hr with hr | ⟨od, hr⟩
    · exact .inl (by show upd _ _ _ a = _; rw [upd_ne ne]; exact hr)
    · exact .inr ⟨od, by show upd _ _ _ a = _; rw [upd_ne ne]; exact hr⟩,
   fun a ha => by
    show upd _ _ _ a ≠ none
    by_cases e : a = w.ρ n
    · rw [e, upd_same]; exact fun z => nomatch z
    · rw [upd_ne e]; exact ha,
   Nat.le_refl _, fun _ _ => rfl, fun _ h => h, fun a ha => upd_ne fun e => (g.own n u h).2.1 (by rw [← e]; exact ha), fun a ob y ha => by
    show upd _ _ _ a = _
    rw [upd_ne fun e => ?_]
    · exact ha
    · obtain ⟨_, _, r⟩ := g.own n u h
      rw [← e, ha] at r
      cases u with
      | lst ts => obtain ⟨_, z, _⟩ := r; cases z
      | dic ks ts => obtain ⟨_, z, _⟩ := r; cases z
      | ins c fs ts => obtain ⟨_, _, _, _, z, _⟩ := r; cases z
      | purse k => obtain ⟨_, _, _, _, z, _⟩ := r; cases z
      | dtp ks ts => obtain ⟨_, z, _⟩ := r; cases z⟩
theorem Good.wr (g : Good mg w) (h : w.M.get n = some u) (r : MRep mg (w.wr n ho o) (some ho) o) : Good mg (w.wr n ho o) := by
  have x : Ext w (w.wr n ho o) := Ext.wr g h
  refine ⟨fun k y e => ?_, fun k m y z e1 e2 e3 => ?_, fun a ha => x.dom a (g.Rd a ha)⟩
  · rw [show (w.wr n ho o).M.get k = _ from get_set h k] at e
    by_cases hk : k = n
    · subst hk
      rw [if_pos rfl] at e
      cases e
      refine ⟨(g.own k u h).1, (g.own k u h).2.1, ?_⟩
      show MRep mg _ (upd _ _ _ (w.ρ k)) o
      rw [upd_same]
      exact r
    · rw [if_neg hk] at e
      obtain ⟨h1, h2, h3⟩ := g.own k y e
      refine ⟨h1, h2, ?_⟩
      show MRep mg _ (upd _ _ _ (w.ρ k)) y
      rw [upd_ne fun z => hk (g.inj k n y u e h z)]
      exact h3.mono x
  · have f : ∀ {k : Nat} {y : MO}, (w.wr n ho o).M.get k = some y → ∃ y', w.M.get k = some y' := fun {k y} e => by
      rw [show (w.wr n ho o).M.get k = _ from get_set h k] at e
      by_cases hk : k = n
      · subst hk; exact ⟨u, h⟩
      · rw [if_neg hk] at e; exact ⟨y, e⟩
    obtain ⟨y', h1⟩ := f e1
    obtain ⟨z', h2⟩ := f e2
    exact g.inj k m y' z' h1 h2 e3
end

/-! ### a fresh object becomes one of the store -/
def Wd.new (w : Wd) (p : Addr) (ho : HO) (o : MO) : Wd := { w with H := upd w.H p ho, ρ := fun n => if n = w.M.nx then p else w.ρ n, M := w.M.add o }
section
variable {mg : Str → Option Value} {w : Wd} {p : Addr} {ho : HO} {o : MO}
theorem get_add (g : Good mg w) (k : Nat) : (w.M.add o).get k = if k = w.M.nx then some o else w.M.get k := lkM_add g.new_none
theorem Ex.new (g : Good mg w) (a : Addr) : Ex (w.new p ho o) a ↔ Ex w a ∨ a = p := by
  constructor
  · rintro (z | ⟨k, x, e, rfl⟩)
    · exact .inl (.inl z)
    · rw [show (w.new p ho o).M.get k = _ from get_add g k] at e
      by_cases hk : k = w.M.nx
      · exact .inr (if_pos hk)
      · rw [if_neg hk] at e
        exact .inl (.inr ⟨k, x, e, (if_neg hk).symm⟩)
  · rintro ((z | ⟨k, x, e, rfl⟩) | rfl)
    · exact .inl z
    · have hk : k ≠ w.M.nx := fun z => by rw [z, g.new_none] at e; cases e
      exact .inr ⟨k, x, by rw [show (w.new p ho o).M.get k = _ from get_add g k, if_neg hk]; exact e, if_neg hk⟩
    · exact .inr ⟨w.M.nx, o, by rw [show (w.new a ho o).M.get _ = _ from get_add g _, if_pos rfl], if_pos rfl⟩
theorem Ext.new (g : Good mg w) (hp : w.H p = none) : Ext w (w.new p ho o) := by
  have y := Ext.put (o := ho) g hp
  refine ⟨fun a u hu h n => ?_, fun a ob u hu h n => ?_, fun a u h n => ?_, y.dom, Nat.le_succ _, fun n h => if_neg (Nat.ne_of_lt h), fun _ h => h, y.Rk, y.frz⟩
  · refine ⟨(y.keep a u hu h n).1, fun z => ?_⟩
    rcases (Ex.new g a).mp z with z | z
    · exact n z
    · subst z
      rw [hp] at h; cases h
  · refine ⟨(y.keepF a ob u hu h n).1, fun z => ?_⟩
    rcases (Ex.new g a).mp z with z | z
    · exact n z
    · subst z
      rw [hp] at h; cases h
  · refine ⟨(y.keepD a u h n).1, fun z => ?_⟩
    rcases (Ex.new g a).mp z with z | z
    · exact n z
    · subst z
      rcases h with h | ⟨_, h⟩ <;> (rw [hp] at h; cases h)
theorem Good.new (g : Good mg w) (hp : w.H p = none) (r : MRep mg w (some ho) o) : Good mg (w.new p ho o) := by
  have x : Ext w (w.new p ho o) := Ext.new g hp
  have np : ∀ {n u}, w.M.get n = some u → w.ρ n ≠ p := fun {n u} h e => g.ex_dom (.inr ⟨n, u, h, e⟩) hp
  refine ⟨fun n u h => ?_, fun n m u z h1 h2 e => ?_, fun a h => x.dom a (g.Rd a h)⟩
  · rw [show (w.new p ho o).M.get n = _ from get_add g n] at h
    by_cases hk : n = w.M.nx
    · subst hk
      rw [if_pos rfl] at h
      cases h
      rw [show (w.new p ho o).ρ w.M.nx = p from if_pos rfl]
      refine ⟨Nat.lt_succ_self _, fun z => g.notEx hp (.inl z), ?_⟩
      rw [show (w.new p ho o).H p = some ho from upd_same]
      exact r.mono x
    · rw [if_neg hk] at h
      rw [show (w.new p ho o).ρ n = w.ρ n from if_neg hk]
      refine ⟨Nat.lt_succ_of_lt (g.own n u h).1, (g.own n u h).2.1, ?_⟩
      rw [show (w.new p ho o).H (w.ρ n) = w.H (w.ρ n) from upd_ne (np h)]
      exact (g.own n u h).2.2.mono x
  · have f : ∀ {k : Nat} {y : MO}, (w.new p ho o).M.get k = some y → (k = w.M.nx ∧ (w.new p ho o).ρ k = p) ∨ (∃ y', w.M.get k = some y' ∧ (w.new p ho o).ρ k = w.ρ k) := fun {k y} e => by
      rw [show (w.new p ho o).M.get k = _ from get_add g k] at e
      by_cases hk : k = w.M.nx
      · exact .inl ⟨hk, if_pos hk⟩
      · rw [if_neg hk] at e; exact .inr ⟨y, e, if_neg hk⟩
    rcases f h1 with ⟨a1, a2⟩ | ⟨y1, a1, a2⟩ <;> rcases f h2 with ⟨b1, b2⟩ | ⟨y2, b1, b2⟩
    · rw [a1, b1]
    · exact (np b1 (by rw [← b2, ← e, a2])).elim
    · exact (np a1 (by rw [← a2, e, b2])).elim
    · exact g.inj n m y1 y2 a1 b1 (by rw [← a2, e, b2])
theorem new_ref : Rep (w.new p ho o) (.ref p) (.ref w.M.nx) := by
  have h : Rep (w.new p ho o) (.ref ((w.new p ho o).ρ w.M.nx)) (.ref w.M.nx) := .ref _ (Nat.lt_succ_self _)
  rwa [show (w.new p ho o).ρ w.M.nx = p from if_pos rfl] at h
end

/-! ### one of the store becomes a plain one -/
def Wd.drop (w : Wd) (n : Nat) : Wd := { w with M := w.M.del n }
section
variable {mg : Str → Option Value} {w : Wd} {n : Nat} {o : MO}
theorem get_del (k : Nat) : (w.M.del n).get k = if k = n then none else w.M.get k := lkM_del
theorem Ex.drop {a : Addr} (h : Ex (w.drop n) a) : Ex w a := by
  rcases h with h | ⟨k, x, e, rfl⟩
  · exact .inl h
  · rw [show (w.drop n).M.get k = _ from get_del k] at e
    by_cases hk : k = n
    · rw [if_pos hk] at e; cases e
    · rw [if_neg hk] at e; exact .inr ⟨k, x, e, rfl⟩
theorem Ext.drop : Ext w (w.drop n) :=
  ⟨fun _ _ _ h m => ⟨h, fun z => m (Ex.drop z)⟩, fun _ _ _ _ h m => ⟨h, fun z => m (Ex.drop z)⟩, fun _ _ h m => ⟨h, fun z => m (Ex.drop z)⟩, fun _ h => h, Nat.le_refl _, fun _ _ => rfl, fun _ h => h, fun _ _ => rfl, fun _ _ _ h => h⟩
theorem Good.drop (g : Good mg w) : Good mg (w.drop n) := by
  have f : ∀ {k : Nat} {y : MO}, (w.drop n).M.get k = some y → w.M.get k = some y ∧ k ≠ n := fun {k y} e => by
    rw [show (w.drop n).M.get k = _ from get_del k] at e
    by_cases hk : k = n
    · rw [if_pos hk] at e; cases e
    · rw [if_neg hk] at e; exact ⟨e, hk⟩
  exact ⟨fun k y e => let ⟨h, _⟩ := f e; let ⟨a, b, c⟩ := g.own k y h; ⟨a, b, c.mono Ext.drop⟩, fun k m y z e1 e2 e3 => g.inj k m y z (f e1).1 (f e2).1 e3, g.Rd⟩
theorem drop_notEx (g : Good mg w) (h : w.M.get n = some o) : ¬ Ex (w.drop n) (w.ρ n) := by
  rintro (z | ⟨k, x, e, e2⟩)
  · exact (g.own n o h).2.1 z
  · rw [show (w.drop n).M.get k = _ from get_del k] at e
    by_cases hk : k = n
    · rw [if_pos hk] at e; cases e
    · rw [if_neg hk] at e; exact hk (g.inj k n x o e h e2)
/-- a list, a dict of the store, from then on plain -/
theorem drop_rep (g : Good mg w) {ts : List T} (h : w.M.get n = some (.lst ts)) : Rep (w.drop n) (.ref (w.ρ n)) (.lst ts) := by
  obtain ⟨_, _, vs, e, r⟩ := g.own n _ h
  exact .lst (drop_notEx g h) (.inl e) (r.mono Ext.drop)
theorem drop_repD (g : Good mg w) {ks : List Key} {ts : List T} (h : w.M.get n = some (.dic ks ts)) : Rep (w.drop n) (.ref (w.ρ n)) (.dic ks ts) := by
  obtain ⟨_, _, kvs, e, e2, d, r⟩ := g.own n _ h
  exact .dic (drop_notEx g h) (.inl e) e2 d (r.mono Ext.drop)
end

/-! ### an address is reserved, written, let go -/
/-- D is laid and reserved -/
def Wd.hold (w : Wd) (D : Addr) (ho : HO) : Wd := { w with H := upd w.H D ho, R := fun a => w.R a ∨ a = D }
section
variable {mg : Str → Option Value} {w w0 : Wd} {D : Addr} {ho : HO}
theorem Ex.hold {a : Addr} : Ex (w.hold D ho) a ↔ Ex w a ∨ a = D :=
  ⟨fun z => z.elim (fun y => y.elim (fun q => .inl (.inl q)) .inr) fun q => .inl (.inr q), fun z => z.elim (fun y => y.elim (fun q => .inl (.inl q)) .inr) fun q => .inl (.inr q)⟩
theorem Ext.hold (g : Good mg w) (hp : w.H D = none) : Ext w (w.hold D ho) := by
  have y := Ext.put (o := ho) g hp
  refine ⟨fun a u hu h n => ?_, fun a ob u hu h n => ?_, fun a u h n => ?_, y.dom, Nat.le_refl _, fun _ _ => rfl, fun _ h => .inl h, y.Rk, y.frz⟩
  · refine ⟨(y.keep a u hu h n).1, fun z => ?_⟩
    rcases Ex.hold.mp z with z | z
    · exact n z
    · subst z
      rw [hp] at h; cases h
  · refine ⟨(y.keepF a ob u hu h n).1, fun z => ?_⟩
    rcases Ex.hold.mp z with z | z
    · exact n z
    · subst z
      rw [hp] at h; cases h
  · refine ⟨(y.keepD a u h n).1, fun z => ?_⟩
    rcases Ex.hold.mp z with z | z
    · exact n z
    · subst z
      rcases h with h | ⟨_, h⟩ <;> (rw [hp] at h; cases h)
theorem Good.hold (g : Good mg w) (hp : w.H D = none) : Good mg (w.hold D ho) := by
  have x := Ext.hold (ho := ho) g hp
  refine ⟨fun n u h => ?_, g.inj, fun a h => ?_⟩
  · obtain ⟨h1, h2, h3⟩ := g.own n u h
    have ne : w.ρ n ≠ D := fun e => g.ex_dom (.inr ⟨n, u, h, rfl⟩) (by rw [e]; exact hp)
    refine ⟨h1, fun z => z.elim h2 ne, ?_⟩
    rw [show (w.hold D ho).H ((w.hold D ho).ρ n) = w.H (w.ρ n) from upd_ne ne]
    exact h3.mono x
  · rcases h with h | h
    · exact x.dom a (g.Rd a h)
    · rw [h]; show upd w.H D ho D ≠ none; rw [upd_same]; exact fun z => nomatch z
/-- the reserved one is written -/
def Wd.wrR (w : Wd) (D : Addr) (ho : HO) : Wd := { w with H := upd w.H D ho }
theorem Keep.wrR (hD : w.R D) : Keep w (w.wrR D ho) := by
  have ne : ∀ {a : Addr}, ¬ Ex w a → a ≠ D := fun {a} n e => n (.inl (by rw [e]; exact hD))
  refine ⟨fun a u _ h n => ⟨by show upd w.H D ho a = _; rw [upd_ne (ne n)]; exact h, n⟩, fun a ob u _ h n => ⟨by show upd w.H D ho a = _; rw [upd_ne (ne n)]; exact h, n⟩, fun a u h n => ⟨?_, n⟩, Nat.le_refl _, fun _ _ => rfl⟩
  rcases h with h | ⟨o, h⟩
  · exact .inl (by show upd w.H D ho a = _; rw [upd_ne (ne n)]; exact h)
  · exact .inr ⟨o, by show upd w.H D ho a = _; rw [upd_ne (ne n)]; exact h⟩
theorem Good.wrR (g : Good mg w) (hD : w.R D) : Good mg (w.wrR D ho) := by
  refine ⟨fun n u h => ?_, g.inj, fun a h => ?_⟩
  · obtain ⟨h1, h2, h3⟩ := g.own n u h
    refine ⟨h1, h2, ?_⟩
    rw [show (w.wrR D ho).H ((w.wrR D ho).ρ n) = w.H (w.ρ n) from upd_ne fun e => h2 (by have e : w.ρ n = D := e; rw [e]; exact hD)]
    exact h3.kept (Keep.wrR hD)
  · show upd w.H D ho a ≠ none
    by_cases e : a = D
    · rw [e, upd_same]; exact fun z => nomatch z
    · rw [upd_ne e]; exact g.Rd a h
/-- what stood ahead of D's making stands -/
theorem Ext.wrR (x : Ext w0 w) (g : Good mg w) (g0 : Good mg w0) (hp : w0.H D = none) (hD : w.R D) : Ext w0 (w.wrR D ho) := by
  have k := Keep.wrR (ho := ho) hD
  refine ⟨fun a u hu h n => let ⟨h1, n1⟩ := x.keep a u hu h n; k.keep a u hu h1 n1, fun a ob u hu h n => let ⟨h1, n1⟩ := x.keepF a ob u hu h n; k.keepF a ob u hu h1 n1, fun a u h n => let ⟨h1, n1⟩ := x.keepD a u h n; k.keepD a u h1 n1, fun a h => ?_, x.nx, x.rho, x.R, fun a h => ?_, fun a o u h => ?_⟩
  · show upd w.H D ho a ≠ none
    by_cases e : a = D
    · rw [e, upd_same]; exact fun z => nomatch z
    · rw [upd_ne e]; exact x.dom a h
  · show upd w.H D ho a = _
    rw [upd_ne fun e => g0.Rd a h (by rw [e]; exact hp)]
    exact x.Rk a h
  · show upd w.H D ho a = _
    rw [upd_ne (ne_of_none h hp)]
    exact x.frz a o u h
/-- D is let go, and is not there as yet -/
def Wd.cut (w : Wd) (D : Addr) (R0 : Addr → Prop) : Wd := { w with H := fun b => if b = D then none else w.H b, R := R0 }
theorem cut_put (e : w.H D = some ho) {R0 : Addr → Prop} : ((w.cut D R0).put D ho).H = w.H := by
  funext b
  show upd (fun b => if b = D then none else w.H b) D ho b = w.H b
  by_cases h : b = D
  · rw [h, upd_same, e]
  · rw [upd_ne h]; exact if_neg h
theorem Keep.cut (hD : w.R D) (hR : ∀ a, w0.R a → w.R a) : Keep w (w.cut D w0.R) := by
  have ne : ∀ {a : Addr}, ¬ Ex w a → a ≠ D := fun {a} n e => n (.inl (by rw [e]; exact hD))
  have nx : ∀ {a : Addr}, ¬ Ex w a → ¬ Ex (w.cut D w0.R) a := fun {a} n z => z.elim (fun q => n (.inl (hR a q))) fun q => n (.inr q)
  refine ⟨fun a u _ h n => ⟨?_, nx n⟩, fun a ob u _ h n => ⟨?_, nx n⟩, fun a u h n => ⟨?_, nx n⟩, Nat.le_refl _, fun _ _ => rfl⟩
  · show (if a = D then none else w.H a) = _
    rw [if_neg (ne n)]; exact h
  · show (if a = D then none else w.H a) = _
    rw [if_neg (ne n)]; exact h
  · rcases h with h | ⟨o, h⟩
    · exact .inl (by show (if a = D then none else w.H a) = _; rw [if_neg (ne n)]; exact h)
    · exact .inr ⟨o, by show (if a = D then none else w.H a) = _; rw [if_neg (ne n)]; exact h⟩
theorem Good.cut (g : Good mg w) (x : Ext w0 w) (g0 : Good mg w0) (hp : w0.H D = none) (hD : w.R D) : Good mg (w.cut D w0.R) := by
  refine ⟨fun n u h => ?_, g.inj, fun a h => ?_⟩
  · obtain ⟨h1, h2, h3⟩ := g.own n u h
    refine ⟨h1, fun z => h2 (x.R _ z), ?_⟩
    rw [show (w.cut D w0.R).H ((w.cut D w0.R).ρ n) = w.H (w.ρ n) from if_neg fun e => h2 (by have e : w.ρ n = D := e; rw [e]; exact hD)]
    exact h3.kept (Keep.cut hD x.R)
  · show (if a = D then none else w.H a) ≠ none
    rw [if_neg fun e => g0.Rd a h (by rw [e]; exact hp)]
    exact g.Rd a (x.R a h)
theorem Ext.cut (x : Ext w0 w) (g0 : Good mg w0) (hp : w0.H D = none) (hD : w.R D) : Ext w0 (w.cut D w0.R) := by
  have k := Keep.cut hD x.R
  refine ⟨fun a u hu h n => let ⟨h1, n1⟩ := x.keep a u hu h n; k.keep a u hu h1 n1, fun a ob u hu h n => let ⟨h1, n1⟩ := x.keepF a ob u hu h n; k.keepF a ob u hu h1 n1, fun a u h n => let ⟨h1, n1⟩ := x.keepD a u h n; k.keepD a u h1 n1, fun a h => ?_, x.nx, x.rho, fun _ h => h, fun a h => ?_, fun a o u h => ?_⟩
  · show (if a = D then none else w.H a) ≠ none
    rw [if_neg fun e => h (by rw [e]; exact hp)]
    exact x.dom a h
  · show (if a = D then none else w.H a) = _
    rw [if_neg fun e => g0.Rd a h (by rw [e]; exact hp)]
    exact x.Rk a h
  · show (if a = D then none else w.H a) = _
    rw [if_neg fun e => by rw [e, hp] at h; cases h]
    exact x.frz a o u h
end

/-! ### the names of a frame -/
abbrev Tau := List (Option T)
structure Nm (w : Wd) (σ : L2.St) (τ : Tau) : Prop where
  len : σ.length = τ.length
  at_ : ∀ (i : Nat) (t : T), τ[i]? = some (some t) → ∃ v, σ[i]? = some (some v) ∧ Rep w v t
theorem Nm.mono {w w' : Wd} {σ : L2.St} {τ : Tau} (x : Ext w w') (e : Nm w σ τ) : Nm w' σ τ := ⟨e.len, fun i t h => let ⟨v, a, b⟩ := e.at_ i t h; ⟨v, a, b.mono x⟩⟩
theorem Nm.set {w : Wd} {σ : L2.St} {τ : Tau} (e : Nm w σ τ) {v : V} {t : T} (r : Rep w v t) (i : Nat) : Nm w (σ.set i (some v)) (τ.set i (some t)) := by
  refine ⟨by simp [e.len], fun j u h => ?_⟩
  by_cases hj : i = j
  · subst hj
    by_cases hl : i < τ.length
    · rw [List.getElem?_set_self hl] at h
      cases h
      exact ⟨v, by rw [List.getElem?_set_self (by rw [e.len]; exact hl)], r⟩
    · rw [List.getElem?_eq_none (by simpa using hl)] at h; cases h
  · rw [List.getElem?_set_ne hj] at h
    obtain ⟨v', a, b⟩ := e.at_ j u h
    exact ⟨v', by rw [List.getElem?_set_ne hj]; exact a, b⟩
def wipeT (τ : Tau) : List Nat → Tau
  | [] => τ
  | v :: vs => (wipeT τ vs).set v none
theorem Nm.wipe {w : Wd} {σ : L2.St} {τ : Tau} (e : Nm w σ τ) : ∀ vs : List Nat, Nm w (L2.wipe σ vs) (wipeT τ vs)
  | [] => e
  | i :: vs => by
    have q := Nm.wipe e vs
    refine ⟨by show ((L2.wipe σ vs).set i none).length = ((wipeT τ vs).set i none).length; simp [q.len], fun j u h => ?_⟩
    have h : ((wipeT τ vs).set i none)[j]? = some (some u) := h
    show ∃ v, ((L2.wipe σ vs).set i none)[j]? = _ ∧ _
    by_cases hj : i = j
    · subst hj
      by_cases hl : i < (wipeT τ vs).length
      · rw [List.getElem?_set_self hl] at h; cases h
      · rw [List.getElem?_eq_none (by simpa using hl)] at h; cases h
    · rw [List.getElem?_set_ne hj] at h
      obtain ⟨v', a, b⟩ := q.at_ j u h
      exact ⟨v', by rw [List.getElem?_set_ne hj]; exact a, b⟩
end TL
end
section
set_option Elab.async false
set_option linter.all false
set_option maxRecDepth 100000
/-! TL2: judgements by trees; names, constants, operators, tests, displays, slices. -/
namespace TL
open PySem PySem.Spec PyProof.Rows L2
abbrev Ev (α : Type) := Tau → Sto → Res α

/-- v is a fresh object, made behind w -/
def Fr (mg : Str → Option Value) (w w1 : Wd) (v : V) (t : T) : Prop := ∃ (w2 : Wd) (p : Addr), v = .ref p ∧ Ext w w2 ∧ Good mg w2 ∧ w2.H p = none ∧
  ((∃ vs ts, t = .lst ts ∧ RepL w2 vs ts ∧ w1 = w2.put p (.lst vs)) ∨
   (∃ (kvs : List (Key × V)) (ks : List Key) (ts : List T), t = .dic ks ts ∧ kvs.map Prod.fst = ks ∧ ks.Nodup ∧ RepL w2 (kvs.map Prod.snd) ts ∧ w1 = w2.put p (.dK kvs)))
def post (mg : Str → Option Value) (F : Bool) (Q : VK) (w : Wd) (a : Res T) : Prop :=
  a.all fun t M' => ∀ w1 v, Ext w w1 → Good mg w1 → w1.M = M' → Rep w1 v t → (F = true → Fr mg w w1 v t) → Q v w1.H
def tE (mg : Str → Option Value) (F : Bool) (f : Ev T) : TE := fun σ H Q => ∃ w τ, w.H = H ∧ Good mg w ∧ Nm w σ τ ∧ post mg F Q w (f τ w.M)
def tT (mg : Str → Option Value) (f : Ev Bool) : TT := fun σ H Q => ∃ w τ, w.H = H ∧ Good mg w ∧ Nm w σ τ ∧ (f τ w.M).all fun b M' => ∀ w1, Ext w w1 → Good mg w1 → w1.M = M' → Q b w1.H
def tA (mg : Str → Option Value) (f : Ev (List T)) : TA := fun σ H Q => ∃ w τ, w.H = H ∧ Good mg w ∧ Nm w σ τ ∧ (f τ w.M).all fun ts M' => ∀ w1 vs, Ext w w1 → Good mg w1 → w1.M = M' → RepL w1 vs ts → Q vs w1.H
def SE (F : Bool) (X : Cx) (e : Expr) (f : Ev T) : Prop := PE X e (tE X.mg F f)
def ST (X : Cx) (e : Expr) (f : Ev Bool) : Prop := PT X e (tT X.mg f)
def SW (X : Cx) (e : Expr) (f : Ev Bool) : Prop := PW X e (tT X.mg f)
def SA (X : Cx) (es : List Expr) (f : Ev (List T)) : Prop := PA X es (tA X.mg f)

theorem pe_imp {X : Cx} {e : Expr} {t t' : TE} (h : PE X e t') (i : ∀ σ H Q, t σ H Q → t' σ H Q) : PE X e t := ⟨fun p s σ H Q I q => h.run p s σ H Q I (i _ _ _ q)⟩
theorem pt_imp {X : Cx} {e : Expr} {t t' : TT} (h : PT X e t') (i : ∀ σ H Q, t σ H Q → t' σ H Q) : PT X e t := ⟨fun p s σ H Q I q => h.run p s σ H Q I (i _ _ _ q)⟩
theorem pw_imp {X : Cx} {e : Expr} {t t' : TT} (h : PW X e t') (i : ∀ σ H Q, t σ H Q → t' σ H Q) : PW X e t := ⟨fun wh p s σ H Q I q => h.run wh p s σ H Q I (i _ _ _ q)⟩
theorem pa_imp {X : Cx} {es : List Expr} {t t' : TA} (h : PA X es t') (i : ∀ σ H Q, t σ H Q → t' σ H Q) : PA X es t := ⟨fun pos p s σ H Q I q => h.run pos p s σ H Q I (i _ _ _ q)⟩

theorem Fr.ext {mg : Str → Option Value} {w w' w1 : Wd} {v : V} {t : T} (x : Ext w w') (h : Fr mg w' w1 v t) : Fr mg w w1 v t := by
  obtain ⟨w2, p, e, y, r⟩ := h
  exact ⟨w2, p, e, x.trans y, r⟩
section
variable {mg : Str → Option Value} {F : Bool} {Q : VK} {w w1 : Wd} {a : Res T}
theorem post_ext (h : post mg F Q w a) (x : Ext w w1) : post mg F Q w1 a :=
  Res.all_mono (fun _ _ q w2 v y g e r f => q w2 v (x.trans y) g e r fun hf => (f hf).ext x) h
theorem post_ok {t : T} {v : V} (h : post mg F Q w (.ok t w.M)) (g : Good mg w) (r : Rep w v t) (f : F = false := by first | rfl | assumption) : Q v w.H :=
  h w v (.refl w) g rfl r fun z => by rw [f] at z; cases z
/-- a new list is the answer -/
theorem post_lst {ts : List T} {vs : List V} {p : Addr} (h : post mg F Q w (.ok (.lst ts) w.M)) (g : Good mg w) (hp : w.H p = none) (r : RepL w vs ts) : Q (.ref p) (upd w.H p (.lst vs)) :=
  h (w.put p (.lst vs)) (.ref p) (Ext.put g hp) (g.put hp) rfl (put_lst g hp r) fun _ => ⟨w, p, rfl, .refl w, g, hp, .inl ⟨vs, ts, rfl, r, rfl⟩⟩
theorem post_dic {ks : List Key} {ts : List T} {kvs : List (Key × V)} {p : Addr} (h : post mg F Q w (.ok (.dic ks ts) w.M)) (g : Good mg w) (hp : w.H p = none) (e : kvs.map Prod.fst = ks) (d : ks.Nodup) (r : RepL w (kvs.map Prod.snd) ts) : Q (.ref p) (upd w.H p (.dK kvs)) :=
  h (w.put p (.dK kvs)) (.ref p) (Ext.put g hp) (g.put hp) rfl (put_dic g hp e d r) fun _ => ⟨w, p, rfl, .refl w, g, hp, .inr ⟨kvs, ks, ts, rfl, e, d, r, rfl⟩⟩
theorem post_tup {ts : List T} {vs : List V} {p : Addr} (h : post mg false Q w (.ok (.tup ts) w.M)) (g : Good mg w) (hp : w.H p = none) (r : RepL w vs ts) : Q (.ref p) (upd w.H p (.tup vs)) :=
  h (w.put p (.tup vs)) (.ref p) (Ext.put g hp) (g.put hp) rfl (put_tup g hp r) fun z => nomatch z
end
theorem SE.drop {X : Cx} {e : Expr} {f : Ev T} (h : SE true X e f) : SE false X e f :=
  pe_imp h fun σ H Q ⟨w, τ, e, g, n, q⟩ => ⟨w, τ, e, g, n, Res.all_mono (fun _ _ q w1 v x g1 e1 r _ => q w1 v x g1 e1 r fun z => nomatch z) q⟩

/-! ### names, constants -/
def eVar (i : Nat) : Ev T := fun τ M => match τ[i]? with
  | some (some t) => .ok t M
  | _ => .stuck
def eC (t : T) : Ev T := fun _ M => .ok t M
def eStuck {α : Type} : Ev α := fun _ _ => .stuck
section
variable {X : Cx} {pos : Pos}
theorem se_never {F : Bool} {e : Expr} : SE F X e eStuck := ⟨fun _ _ _ _ _ _ ⟨_, _, _, _, _, q⟩ => q.elim⟩
theorem st_never {e : Expr} : ST X e eStuck := ⟨fun _ _ _ _ _ _ ⟨_, _, _, _, _, q⟩ => q.elim⟩
theorem se_var {i : Nat} {x : Str} (hN : X.N[i]? = some x := by rfl) (hv : Vis X.env.scope x := by first | exact .inl rfl | exact .inr (.inl rfl) | exact .inr (.inr rfl)) (hd : (x == ("__debug__" : Str)) = false := by decide) (hcd : (x == ("__classdict__" : Str)) = false := by decide) : SE false X (.Name x pos) (eVar i) := by
  refine pe_imp (pe_var hN hv hd hcd) fun σ H Q ⟨w, τ, e, g, n, q⟩ => ?_
  subst e
  unfold eVar at q
  split at q
  · rename_i t ht
    obtain ⟨v, h1, h2⟩ := n.at_ i t ht
    exact ⟨v, h1, post_ok q g h2⟩
  · exact q.elim
theorem se_int {i : Int} {j} : SE false X (.Constant (.int i) j pos) (eC (.int i)) := pe_imp pe_int fun σ H Q ⟨w, τ, e, g, n, q⟩ => by subst e; exact post_ok q g (.int i)
theorem se_bl {b : Bool} {j} : SE false X (.Constant (.bool b) j pos) (eC (.bl b)) := pe_imp pe_bl fun σ H Q ⟨w, τ, e, g, n, q⟩ => by subst e; exact post_ok q g (.bl b)
theorem se_non {j} : SE false X (.Constant .none j pos) (eC .non) := pe_imp pe_non fun σ H Q ⟨w, τ, e, g, n, q⟩ => by subst e; exact post_ok q g .non
theorem se_str {x : Str} {j} : SE false X (.Constant (.str x) j pos) (eC (.str x)) := pe_imp pe_str fun σ H Q ⟨w, τ, e, g, n, q⟩ => by subst e; exact post_ok q g (.str x)
theorem se_gint {x : Str} {i : Int} (hg : Gl X x) (hm : ∃ t, X.mg x = some (.int i t)) (hd : (x == ("__debug__" : Str)) = false := by decide) : SE false X (.Name x pos) (eC (.int i)) := by
  obtain ⟨t, hm⟩ := hm
  exact pe_imp (pe_glob hg hm (v := .int i) ⟨t, rfl⟩ hd) fun σ H Q ⟨w, τ, e, g, n, q⟩ => by subst e; exact post_ok q g (.int i)
theorem se_gstr {x : Str} {i : Str} (hg : Gl X x) (hm : ∃ t, X.mg x = some (.str i t)) (hd : (x == ("__debug__" : Str)) = false := by decide) : SE false X (.Name x pos) (eC (.str i)) := by
  obtain ⟨t, hm⟩ := hm
  exact pe_imp (pe_glob hg hm (v := .str i) ⟨t, rfl⟩ hd) fun σ H Q ⟨w, τ, e, g, n, q⟩ => by subst e; exact post_ok q g (.str i)

/-! ### one, two parts -/
def e1 (k : T → Sto → Res T) (a : Ev T) : Ev T := fun τ M => (a τ M).bind k
def e2 (k : T → T → Sto → Res T) (a b : Ev T) : Ev T := fun τ M => (a τ M).bind fun x M1 => (b τ M1).bind fun y M2 => k x y M2
variable {a b c : Expr} {fa fb fc : Ev T} {k : T → T → Sto → Res T} {k1 : T → Sto → Res T} {F : Bool}
theorem two_imp {mg : Str → Option Value} {r : R2} (hr : ∀ w x y a b Q, Good mg w → Rep w x a → Rep w y b → post mg F Q w (k a b w.M) → r x y w.H Q) {σ : L2.St} {H : Hp} {Q : VK}
    (h : tE mg F (e2 k fa fb) σ H Q) : tOp r (tE mg false fa) (tE mg false fb) σ H Q := by
  obtain ⟨w, τ, rfl, g, n, q⟩ := h
  refine ⟨w, τ, rfl, g, n, Res.all_mono (fun s M1 q w1 x x1 g1 e1 r1 _ => ?_) (Res.all_bind q)⟩
  subst e1
  refine ⟨w1, τ, rfl, g1, n.mono x1, Res.all_mono (fun s' M2 q w2 y x2 g2 e2 r2 _ => ?_) (Res.all_bind q)⟩
  subst e2
  exact hr w2 x y s s' Q g2 (r1.mono x2) r2 (post_ext q (x1.trans x2))
theorem one_imp {mg : Str → Option Value} {r : V → Hp → VK → Prop} (hr : ∀ w x a Q, Good mg w → Rep w x a → post mg F Q w (k1 a w.M) → r x w.H Q) {σ : L2.St} {H : Hp} {Q : VK}
    (h : tE mg F (e1 k1 fa) σ H Q) : tUn r (tE mg false fa) σ H Q := by
  obtain ⟨w, τ, rfl, g, n, q⟩ := h
  refine ⟨w, τ, rfl, g, n, Res.all_mono (fun s M1 q w1 x x1 g1 e1 r1 _ => ?_) (Res.all_bind q)⟩
  subst e1
  exact hr w1 x s Q g1 r1 (post_ext q x1)

/-! ### arithmetic -/
def kAdd : T → T → Sto → Res T
  | .int i, .int j, M => .ok (.int (i + j)) M
  | .lst xs, .lst ys, M => if xs.length + ys.length ≤ 16777216 then .ok (.lst (xs ++ ys)) M else .stuck
  | .str x, .str y, M => if x.length + y.length ≤ 16777216 then .ok (.str (x ++ y)) M else .stuck
  | _, _, _ => .stuck
def kAddI : T → T → Sto → Res T
  | .int i, .int j, M => .ok (.int (i + j)) M
  | .str x, .str y, M => if x.length + y.length ≤ 16777216 then .ok (.str (x ++ y)) M else .stuck
  | _, _, _ => .stuck
def kAddL : T → T → Sto → Res T
  | .lst xs, .lst ys, M => if xs.length + ys.length ≤ 16777216 then .ok (.lst (xs ++ ys)) M else .stuck
  | _, _, _ => .stuck
def kSub : T → T → Sto → Res T
  | .int i, .int j, M => .ok (.int (i - j)) M
  | _, _, _ => .stuck
def kMul : T → T → Sto → Res T
  | .int i, .int j, M => if i.natAbs.log2 + j.natAbs.log2 < 1000000 then .ok (.int (i * j)) M else .stuck
  | _, _, _ => .stuck
def kRep : T → T → Sto → Res T
  | .lst xs, .int j, M => if j < 1000000 ∧ -1000000 < j ∧ xs.length * j.toNat ≤ 16777216 then .ok (.lst (List.replicate j.toNat xs).flatten) M else .stuck
  | _, _, _ => .stuck
def kDiv : T → T → Sto → Res T
  | .int i, .int j, M => if 0 < j ∧ j.natAbs.log2 < 9000 then .ok (.int (i / j)) M else .stuck
  | _, _, _ => .stuck
def kMod : T → T → Sto → Res T
  | .int i, .int j, M => if 0 < j then .ok (.int (i % j)) M else .stuck
  | _, _, _ => .stuck
theorem line_eq : (sizeLine : Nat) = 16777216 := sizeLine_eq
theorem se_addI (ha : SE false X a fa) (hb : SE false X b fb) : SE false X (.BinOp a .Add b pos) (e2 kAddI fa fb) := by
  refine pe_imp (pe_op (OpR.or op_add op_add_str) ha hb) fun σ H Q h => two_imp (fun w x y s t Q g r1 r2 q => ?_) h
  unfold kAddI at q
  split at q
  · cases r1; cases r2; exact .inl ⟨_, _, rfl, rfl, post_ok q g (.int _)⟩
  · split at q
    · cases r1; cases r2; exact .inr ⟨_, _, rfl, rfl, by rw [line_eq]; assumption, post_ok q g (.str _)⟩
    · exact q.elim
  · exact q.elim
/-- what a list that is read holds, frozen or not -/
theorem Rd.seq {X : Cx} {pins : List (Addr × Obj)} {σ : L2.St} {H : Hp} {s : Shared} {a : Addr} {xs : List V} (I : L2.Inv X pins σ H s) (r : Rd H a (.lst xs)) :
    ∃ (us : List Value) (n : Nat), Vals xs us ∧ us.length = xs.length ∧ s.heap.get? a = some { cls := .type "list", data := .seq us.toArray n } := by
  obtain ⟨_, us, n, v, g⟩ := (show ObjOk X.prog X.w H s.heap a (.lst xs) from r.ok I.hok)
  exact ⟨us, n, v, v.length.symm, g⟩
def rCatR : R2 := fun x y H Q => ∃ (a b : Addr) (xs ys : List V), x = .ref a ∧ y = .ref b ∧ Rd H a (.lst xs) ∧ Rd H b (.lst ys) ∧ xs.length + ys.length ≤ sizeLine ∧ ∀ p, H p = none → Q (.ref p) (upd H p (.lst (xs ++ ys)))
theorem op_catR {X : Cx} : OpR X (binaryOp .Add) rCatR := fun pins s σ H x y v u Q I rx ry ⟨a, b, xs, ys, ex, ey, ha, hb, hl, q⟩ => by
  subst ex ey
  cases rx
  cases ry
  obtain ⟨us, n, vx, lx, gx⟩ := Rd.seq I ha
  obtain ⟨ws, m, vy, ly, gy⟩ := Rd.seq I hb
  refine PySem.P.add_list gx gy ?_ (by simpa [lx, ly] using hl)
  rw [show us.toArray ++ ws.toArray = (us ++ ws).toArray from by simp]
  have I2 := I.lnew (t' := s.toks) (vx.append vy) (by simpa using hl)
  exact ⟨.ref s.heap.objs.size, upd H s.heap.objs.size (.lst (xs ++ ys)), I2, rfl, q _ I.fresh⟩
theorem se_addL (ha : SE false X a fa) (hb : SE false X b fb) : SE true X (.BinOp a .Add b pos) (e2 kAddL fa fb) := by
  refine pe_imp (pe_op op_catR ha hb) fun σ H Q h => two_imp (fun w x y s t Q g r1 r2 q => ?_) h
  unfold kAddL at q
  split at q
  · split at q
    · rename_i hl
      cases r1 with
      | lst n1 h1 l1 =>
        cases r2 with
        | lst n2 h2 l2 => exact ⟨_, _, _, _, rfl, rfl, h1, h2, by rw [line_eq, l1.length, l2.length]; exact hl, fun p hp => post_lst q g hp (l1.append l2)⟩
    · exact q.elim
  · exact q.elim
theorem se_sub (ha : SE false X a fa) (hb : SE false X b fb) : SE false X (.BinOp a .Sub b pos) (e2 kSub fa fb) := by
  refine pe_imp (pe_op op_sub ha hb) fun σ H Q h => two_imp (fun w x y s t Q g r1 r2 q => ?_) h
  unfold kSub at q
  split at q
  · cases r1; cases r2; exact ⟨_, _, rfl, rfl, post_ok q g (.int _)⟩
  · exact q.elim
theorem se_mul (ha : SE false X a fa) (hb : SE false X b fb) : SE false X (.BinOp a .Mult b pos) (e2 kMul fa fb) := by
  refine pe_imp (pe_op op_mulW ha hb) fun σ H Q h => two_imp (fun w x y s t Q g r1 r2 q => ?_) h
  unfold kMul at q
  split at q
  · split at q
    · cases r1; cases r2; exact ⟨_, _, rfl, rfl, by assumption, post_ok q g (.int _)⟩
    · exact q.elim
  · exact q.elim
theorem RepL.rep {w : Wd} {vs : List V} {ts : List T} (r : RepL w vs ts) : ∀ n : Nat, RepL w (List.replicate n vs).flatten (List.replicate n ts).flatten
  | 0 => .nil
  | n + 1 => by
    rw [List.replicate_succ, List.replicate_succ, List.flatten_cons, List.flatten_cons]
    exact r.append (RepL.rep r n)
/-- the list is a fresh one -/
theorem se_repL (ha : SE true X a fa) (hb : SE false X b fb) : SE true X (.BinOp a .Mult b pos) (e2 kRep fa fb) := by
  refine pe_imp (pe_op op_rep ha hb) fun σ H Q h => ?_
  obtain ⟨w, τ, rfl, g, n, q⟩ := h
  refine ⟨w, τ, rfl, g, n, Res.all_mono (fun s M1 q w1 x x1 g1 e1 r1 f1 => ?_) (Res.all_bind q)⟩
  subst e1
  refine ⟨w1, τ, rfl, g1, n.mono x1, Res.all_mono (fun s' M2 q w2 y x2 g2 e2 r2 _ => ?_) (Res.all_bind q)⟩
  subst e2
  have z := post_ext q (x1.trans x2)
  clear q
  obtain ⟨w3, p, rfl, x3, g3, hp, hf⟩ := f1 rfl
  unfold kRep at z
  split at z
  · split at z
    · rename_i hl
      rcases hf with ⟨vs, ts, e, l1, rfl⟩ | ⟨_, _, _, e, _⟩
      · cases e
        have n1 : ¬ Ex (w3.put p (.lst vs)) p := g3.notEx hp
        have e1 : (w3.put p (.lst vs)).H p = some (.lst vs) := upd_same
        obtain ⟨e2, _⟩ := x2.keep p (.lst vs) True.intro e1 n1
        have l2 := (l1.mono (Ext.put g3 hp)).mono x2
        cases r2
        exact ⟨_, _, _, rfl, rfl, e2, by omega, by omega, by rw [line_eq, l2.length]; exact hl.2.2, fun p hp => post_lst z g2 hp (l2.rep _)⟩
      · cases e
    · exact z.elim
  · exact z.elim
theorem se_fdiv (ha : SE false X a fa) (hb : SE false X b fb) : SE false X (.BinOp a .FloorDiv b pos) (e2 kDiv fa fb) := by
  refine pe_imp (pe_op op_fdivW ha hb) fun σ H Q h => two_imp (fun w x y s t Q g r1 r2 q => ?_) h
  unfold kDiv at q
  split at q
  · split at q
    · cases r1; cases r2; exact ⟨_, _, rfl, rfl, by assumption, post_ok q g (.int _)⟩
    · exact q.elim
  · exact q.elim
theorem se_mod (ha : SE false X a fa) (hb : SE false X b fb) : SE false X (.BinOp a .Mod b pos) (e2 kMod fa fb) := by
  refine pe_imp (pe_op op_mod ha hb) fun σ H Q h => two_imp (fun w x y s t Q g r1 r2 q => ?_) h
  unfold kMod at q
  split at q
  · split at q
    · cases r1; cases r2; exact ⟨_, _, rfl, rfl, by assumption, post_ok q g (.int _)⟩
    · exact q.elim
  · exact q.elim
def kNeg : T → Sto → Res T
  | .int i, M => .ok (.int (-i)) M
  | _, _ => .stuck
theorem se_neg (ha : SE false X a fa) : SE false X (.UnaryOp .USub a pos) (e1 kNeg fa) := by
  refine pe_imp (pe_un un_neg ha) fun σ H Q h => one_imp (fun w x s Q g r1 q => ?_) h
  unfold kNeg at q
  split at q
  · cases r1; exact ⟨_, rfl, post_ok q g (.int _)⟩
  · exact q.elim
end
end TL
end
section
set_option Elab.async false
set_option linter.all false
set_option maxRecDepth 100000
/-! TL3: comparisons, tests, subscripts, slices, displays. -/
namespace TL
open PySem PySem.Spec PyProof.Rows L2

/-! ### data -/
mutual
def toD : T → Option PyData
  | .non => some .none
  | .bl b => some (.bool b)
  | .int i => some (.int i)
  | .str x => some (.str x)
  | .lst xs => match toDs xs with
    | some ds => some (.list ds)
    | none => none
  | .tup xs => match toDs xs with
    | some ds => some (.tuple ds)
    | none => none
  | .dic _ _ => none
  | .ref _ => none
  | .scr _ => none
def toDs : List T → Option (List PyData)
  | [] => some []
  | x :: xs => match toD x, toDs xs with
    | some d, some ds => some (d :: ds)
    | _, _ => none
end
mutual
theorem Rep.dp {K : PySem.W.Frag} {w : Wd} : ∀ {v : V} {t : T} {d : PyData}, Rep w v t → toD t = some d → Dp K w.H v d
  | _, _, _, .non, e => by simp only [toD, Option.some.injEq] at e; subst e; exact .non
  | _, _, _, .bl b, e => by simp only [toD, Option.some.injEq] at e; subst e; exact .bl b
  | _, _, _, .int i, e => by simp only [toD, Option.some.injEq] at e; subst e; exact .int i
  | _, _, _, .str x, e => by simp only [toD, Option.some.injEq] at e; subst e; exact .str x
  | _, _, _, .lst n h r, e => by
    simp only [toD] at e
    split at e
    · rename_i ds hds
      cases e
      exact .lst (.inl h) (RepL.dp r hds)
    · cases e
  | _, _, _, .tup n h r, e => by
    simp only [toD] at e
    split at e
    · rename_i ds hds
      cases e
      exact .tup (.inl (.inl h)) (RepL.dp r hds)
    · cases e
  | _, _, _, .dic _ _ _ _ _, e => by simp [toD] at e
  | _, _, _, .ref _ _, e => by simp [toD] at e
theorem RepL.dp {K : PySem.W.Frag} {w : Wd} : ∀ {vs : List V} {ts : List T} {ds : List PyData}, RepL w vs ts → toDs ts = some ds → DpAll K w.H vs ds
  | _, _, _, .nil, e => by simp only [toDs, Option.some.injEq] at e; subst e; exact .nil
  | _, _, _, .cons r l, e => by
    simp only [toDs] at e
    split at e
    · rename_i d ds h1 h2
      cases e
      exact .cons (Rep.dp r h1) (RepL.dp l h2)
    · cases e
end

/-! ### comparisons -/
def CmpOk (X : Cx) (op : CmpOp) (k : T → T → Sto → Res T) : Prop :=
  ∃ r, OpR X (compareOp op) r ∧ ∀ w x y a b Q, Good X.mg w → Rep w x a → Rep w y b → post X.mg false Q w (k a b w.M) → r x y w.H Q
def eB (f : Ev T) : Ev Bool := fun τ M => (f τ M).bind fun t M' => match t with
  | .bl b => .ok b M'
  | _ => .stuck
theorem tT_of {mg : Str → Option Value} {f : Ev T} {σ : L2.St} {H : Hp} {Q : Bool → Hp → Prop} (h : tT mg (eB f) σ H Q) : tE mg false f σ H (fun x H' => ∃ c, x = .bl c ∧ Q c H') := by
  obtain ⟨w, τ, rfl, g, n, q⟩ := h
  refine ⟨w, τ, rfl, g, n, Res.all_mono (fun t M' q w1 v x1 g1 e1 r1 _ => ?_) (Res.all_bind q)⟩
  subst e1
  split at q
  · cases r1
    exact ⟨_, rfl, q w1 x1 g1 rfl⟩
  · exact q.elim
section
variable {X : Cx} {pos : Pos} {a b c : Expr} {fa fb fc : Ev T} {F : Bool}
theorem se_cmp {op : CmpOp} {k : T → T → Sto → Res T} (C : CmpOk X op k) (ha : SE false X a fa) (hb : SE false X b fb) (hm : behindInMarks op b = false := by first | exact nomark _ | rfl) : SE false X (.Compare a [op] [b] pos) (e2 k fa fb) := by
  obtain ⟨r, ho, hr⟩ := C
  exact pe_imp (pe_cmpR ho ha hb hm) fun σ H Q h => two_imp (fun w x y s t Q g r1 r2 q => hr w x y s t Q g r1 r2 q) h
theorem st_cmp {op : CmpOp} {k : T → T → Sto → Res T} (C : CmpOk X op k) (ha : SE false X a fa) (hb : SE false X b fb) (hm : behindInMarks op b = false := by first | exact nomark _ | rfl) : ST X (.Compare a [op] [b] pos) (eB (e2 k fa fb)) := by
  obtain ⟨r, ho, hr⟩ := C
  exact pt_imp (pt_cmpR ho ha hb hm) fun σ H Q h => two_imp (fun w x y s t Q g r1 r2 q => hr w x y s t Q g r1 r2 q) (tT_of h)
/-- any other expression that tells a truth value -/
theorem st_val {e : Expr} {f : Ev T} (h : SE false X e f) (he : ∀ whole, isTrue e X.env whole = (do let v ← whole; standAt e.pos; holding [v] (truthy v)) := by intro _; rfl) : ST X e (eB f) :=
  pt_imp (pt_val h he) fun σ H Q h => tT_of h

def kLt : T → T → Sto → Res T
  | .int i, .int j, M => .ok (.bl (decide (i < j))) M
  | .str i, .str j, M => .ok (.bl (decide (i.cps.toList < j.cps.toList))) M
  | _, _, _ => .stuck
def kLe : T → T → Sto → Res T
  | .int i, .int j, M => .ok (.bl (decide (i ≤ j))) M
  | .str i, .str j, M => .ok (.bl (!decide (j.cps.toList < i.cps.toList))) M
  | _, _, _ => .stuck
def kGt : T → T → Sto → Res T
  | .int i, .int j, M => .ok (.bl (decide (j < i))) M
  | _, _, _ => .stuck
def kGe : T → T → Sto → Res T
  | .int i, .int j, M => .ok (.bl (decide (j ≤ i))) M
  | _, _, _ => .stuck
theorem c_lt : CmpOk X .Lt kLt := ⟨_, OpR.or op_lt op_lt_str, fun w x y a b Q g r1 r2 q => by
  unfold kLt at q
  split at q
  · cases r1; cases r2; exact .inl ⟨_, _, rfl, rfl, post_ok q g (.bl _)⟩
  · cases r1; cases r2; exact .inr ⟨_, _, rfl, rfl, post_ok q g (.bl _)⟩
  · exact q.elim⟩
theorem c_le : CmpOk X .LtE kLe := ⟨_, OpR.or op_le op_le_str, fun w x y a b Q g r1 r2 q => by
  unfold kLe at q
  split at q
  · cases r1; cases r2; exact .inl ⟨_, _, rfl, rfl, post_ok q g (.bl _)⟩
  · cases r1; cases r2; exact .inr ⟨_, _, rfl, rfl, post_ok q g (.bl _)⟩
  · exact q.elim⟩
theorem c_gt : CmpOk X .Gt kGt := ⟨_, op_gt, fun w x y a b Q g r1 r2 q => by
  unfold kGt at q
  split at q
  · cases r1; cases r2; exact ⟨_, _, rfl, rfl, post_ok q g (.bl _)⟩
  · exact q.elim⟩
theorem c_ge : CmpOk X .GtE kGe := ⟨_, op_ge, fun w x y a b Q g r1 r2 q => by
  unfold kGe at q
  split at q
  · cases r1; cases r2; exact ⟨_, _, rfl, rfl, post_ok q g (.bl _)⟩
  · exact q.elim⟩
def isNonT : T → Bool
  | .non => true
  | _ => false
def kIsN : T → T → Sto → Res T
  | a, .non, M => .ok (.bl (isNonT a)) M
  | .bl a, .bl b, M => .ok (.bl (a == b)) M
  | _, _, _ => .stuck
def kNotN : T → T → Sto → Res T
  | a, .non, M => .ok (.bl (!isNonT a)) M
  | .bl a, .bl b, M => .ok (.bl (a != b)) M
  | _, _, _ => .stuck
theorem rep_none {w : Wd} {v : V} {t : T} (r : Rep w v t) : decide (v = V.non) = isNonT t := by
  cases r <;> rfl

/-! ### and, or, not, if -/
def eAnd (f g : Ev Bool) : Ev Bool := fun τ M => (f τ M).bind fun b M' => if b then g τ M' else .ok false M'
def eOr (f g : Ev Bool) : Ev Bool := fun τ M => (f τ M).bind fun b M' => if b then .ok true M' else g τ M'
def eNot (f : Ev Bool) : Ev Bool := fun τ M => (f τ M).bind fun b M' => .ok (!b) M'
def eIf (c : Ev Bool) (f g : Ev T) : Ev T := fun τ M => (c τ M).bind fun b M' => if b then f τ M' else g τ M'
def vAnd (f g : Ev T) : Ev T := fun τ M => (f τ M).bind fun t M' => match t with
  | .bl true => g τ M'
  | .bl false => .ok (.bl false) M'
  | _ => .stuck
def vOr (f g : Ev T) : Ev T := fun τ M => (f τ M).bind fun t M' => match t with
  | .bl false => g τ M'
  | .bl true => .ok (.bl true) M'
  | _ => .stuck
def kNot : T → Sto → Res T
  | .bl b, M => .ok (.bl (!b)) M
  | _, _ => .stuck
variable {ga gb : Ev Bool} {rest : List Expr}
theorem ST.and1 (h : ST X a ga) : SW X (.BoolOp .And [a] pos) ga := pw_and1 h
theorem ST.or1 (h : ST X a ga) : SW X (.BoolOp .Or [a] pos) ga := pw_or1 h
theorem sw_and (ha : ST X a ga) (hb : SW X (.BoolOp .And (b :: rest) pos) gb) : SW X (.BoolOp .And (a :: b :: rest) pos) (eAnd ga gb) := by
  refine pw_imp (pw_and ha hb) fun σ H Q ⟨w, τ, e, g, n, q⟩ => ?_
  subst e
  refine ⟨w, τ, rfl, g, n, Res.all_mono (fun b M' q w1 x1 g1 e1 => ?_) (Res.all_bind q)⟩
  subst e1
  cases b with
  | true => exact ⟨w1, τ, rfl, g1, n.mono x1, Res.all_mono (fun b M2 q w2 x2 g2 e2 => q w2 (x1.trans x2) g2 e2) q⟩
  | false => exact q w1 x1 g1 rfl
theorem sw_or (ha : ST X a ga) (hb : SW X (.BoolOp .Or (b :: rest) pos) gb) : SW X (.BoolOp .Or (a :: b :: rest) pos) (eOr ga gb) := by
  refine pw_imp (pw_or ha hb) fun σ H Q ⟨w, τ, e, g, n, q⟩ => ?_
  subst e
  refine ⟨w, τ, rfl, g, n, Res.all_mono (fun b M' q w1 x1 g1 e1 => ?_) (Res.all_bind q)⟩
  subst e1
  cases b with
  | false => exact ⟨w1, τ, rfl, g1, n.mono x1, Res.all_mono (fun b M2 q w2 x2 g2 e2 => q w2 (x1.trans x2) g2 e2) q⟩
  | true => exact q w1 x1 g1 rfl
theorem SW.st (h : SW X a ga) : ST X a ga := PW.pt h
theorem st_not (ha : ST X a ga) : ST X (.UnaryOp .Not a pos) (eNot ga) := by
  refine pt_imp (pt_not ha) fun σ H Q ⟨w, τ, e, g, n, q⟩ => ?_
  subst e
  refine ⟨w, τ, rfl, g, n, Res.all_mono (fun b M' q w1 x1 g1 e1 => ?_) (Res.all_bind q)⟩
  subst e1
  exact q w1 x1 g1 rfl
theorem se_if (hc : ST X c ga) (ha : SE F X a fa) (hb : SE F X b fb) : SE F X (.IfExp c a b pos) (eIf ga fa fb) := by
  refine pe_imp (pe_ifExp hc ha hb) fun σ H Q ⟨w, τ, e, g, n, q⟩ => ?_
  subst e
  refine ⟨w, τ, rfl, g, n, Res.all_mono (fun b M' q w1 x1 g1 e1 => ?_) (Res.all_bind q)⟩
  subst e1
  cases b with
  | true => exact ⟨w1, τ, rfl, g1, n.mono x1, post_ext q x1⟩
  | false => exact ⟨w1, τ, rfl, g1, n.mono x1, post_ext q x1⟩
theorem se_one {op} {f : Ev T} (h : SE false X a f) : SE false X (.BoolOp op [a] pos) f := pe_one h
theorem se_and (ha : SE false X a fa) (hb : SE false X (.BoolOp .And (b :: rest) pos) fb) : SE false X (.BoolOp .And (a :: b :: rest) pos) (vAnd fa fb) := by
  refine pe_imp (pe_and ha hb) fun σ H Q ⟨w, τ, e, g, n, q⟩ => ?_
  subst e
  refine ⟨w, τ, rfl, g, n, Res.all_mono (fun t M' q w1 v x1 g1 e1 r1 _ => ?_) (Res.all_bind q)⟩
  subst e1
  split at q
  · cases r1
    exact ⟨true, rfl, w1, τ, rfl, g1, n.mono x1, post_ext q x1⟩
  · cases r1
    exact ⟨false, rfl, post_ok (post_ext q x1) g1 (.bl _)⟩
  · exact q.elim
theorem se_or (ha : SE false X a fa) (hb : SE false X (.BoolOp .Or (b :: rest) pos) fb) : SE false X (.BoolOp .Or (a :: b :: rest) pos) (vOr fa fb) := by
  refine pe_imp (pe_or ha hb) fun σ H Q ⟨w, τ, e, g, n, q⟩ => ?_
  subst e
  refine ⟨w, τ, rfl, g, n, Res.all_mono (fun t M' q w1 v x1 g1 e1 r1 _ => ?_) (Res.all_bind q)⟩
  subst e1
  split at q
  · cases r1
    exact ⟨false, rfl, w1, τ, rfl, g1, n.mono x1, post_ext q x1⟩
  · cases r1
    exact ⟨true, rfl, post_ok (post_ext q x1) g1 (.bl _)⟩
  · exact q.elim
theorem se_not (ha : SE false X a fa) : SE false X (.UnaryOp .Not a pos) (e1 kNot fa) := by
  refine pe_imp (pe_not ha) fun σ H Q ⟨w, τ, e, g, n, q⟩ => ?_
  subst e
  refine ⟨w, τ, rfl, g, n, Res.all_mono (fun t M' q w1 v x1 g1 e1 r1 _ => ?_) (Res.all_bind q)⟩
  subst e1
  unfold kNot at q
  split at q
  · cases r1
    exact ⟨_, rfl, post_ok (post_ext q x1) g1 (.bl _)⟩
  · exact q.elim

/-! ### chains of two -/
def eChain (k k' : T → T → Sto → Res T) (fa fb fc : Ev T) : Ev T := fun τ M => (fa τ M).bind fun x M1 => (fb τ M1).bind fun y M2 => (k x y M2).bind fun z M3 => match z with
  | .bl true => (fc τ M3).bind fun u M4 => k' y u M4
  | .bl false => .ok (.bl false) M3
  | _ => .stuck
theorem chain_imp {X : Cx} {op op' : CmpOp} {k k' : T → T → Sto → Res T} {r r' : R2} (hr : ∀ w x y a b Q, Good X.mg w → Rep w x a → Rep w y b → post X.mg false Q w (k a b w.M) → r x y w.H Q)
    (hr' : ∀ w x y a b Q, Good X.mg w → Rep w x a → Rep w y b → post X.mg false Q w (k' a b w.M) → r' x y w.H Q) {σ : L2.St} {H : Hp} {Q : VK}
    (h : tE X.mg false (eChain k k' fa fb fc) σ H Q) : tChain r r' (tE X.mg false fa) (tE X.mg false fb) (tE X.mg false fc) σ H Q := by
  obtain ⟨w, τ, rfl, g, n, q⟩ := h
  refine ⟨w, τ, rfl, g, n, Res.all_mono (fun s M1 q w1 x x1 g1 e1 r1 _ => ?_) (Res.all_bind q)⟩
  subst e1
  refine ⟨w1, τ, rfl, g1, n.mono x1, Res.all_mono (fun s' M2 q w2 y x2 g2 e2 r2 _ => ?_) (Res.all_bind q)⟩
  subst e2
  refine hr w2 x y s s' _ g2 (r1.mono x2) r2 (Res.all_mono (fun z M3 q w3 v x3 g3 e3 r3 _ => ?_) (Res.all_bind q))
  subst e3
  split at q
  · cases r3
    refine ⟨true, rfl, w3, τ, rfl, g3, ((n.mono x1).mono x2).mono x3, Res.all_mono (fun u M4 q w4 v4 x4 g4 e4 r4 _ => ?_) (Res.all_bind q)⟩
    subst e4
    exact hr' w4 y v4 s' u Q g4 ((r2.mono x3).mono x4) r4 (post_ext q (((x1.trans x2).trans x3).trans x4))
  · cases r3
    exact ⟨false, rfl, post_ok (post_ext q ((x1.trans x2).trans x3)) g3 (.bl _)⟩
  · exact q.elim
theorem se_chain {op op' : CmpOp} {k k' : T → T → Sto → Res T} (C : CmpOk X op k) (C' : CmpOk X op' k') (ha : SE false X a fa) (hb : SE false X b fb) (hc : SE false X c fc) (hm : lastMarks [op, op'] [b, c] = false := by rfl) : SE false X (.Compare a [op, op'] [b, c] pos) (eChain k k' fa fb fc) := by
  obtain ⟨r, ho, hr⟩ := C
  obtain ⟨r', ho', hr'⟩ := C'
  exact pe_imp (pe_chain ho ho' ha hb hc hm) fun σ H Q h => chain_imp (op := op) (op' := op') hr hr' h
theorem st_chain {op op' : CmpOp} {k k' : T → T → Sto → Res T} (C : CmpOk X op k) (C' : CmpOk X op' k') (ha : SE false X a fa) (hb : SE false X b fb) (hc : SE false X c fc) (hm : lastMarks [op, op'] [b, c] = false := by rfl) : ST X (.Compare a [op, op'] [b, c] pos) (eB (eChain k k' fa fb fc)) := by
  obtain ⟨r, ho, hr⟩ := C
  obtain ⟨r', ho', hr'⟩ := C'
  exact pt_imp (pt_chain ho ho' ha hb hc hm) fun σ H Q h => chain_imp (op := op) (op' := op') hr hr' (tT_of h)

/-! ### arguments, displays -/
def eNil : Ev (List T) := fun _ M => .ok [] M
def eCons (f : Ev T) (g : Ev (List T)) : Ev (List T) := fun τ M => (f τ M).bind fun t M1 => (g τ M1).bind fun ts M2 => .ok (t :: ts) M2
variable {e : Expr} {es : List Expr} {fs : Ev (List T)}
theorem sa_nil : SA X [] eNil := pa_imp pa_nil fun σ H Q ⟨w, τ, e, g, n, q⟩ => by subst e; exact q w [] (.refl w) g rfl .nil
theorem sa_cons (ha : SE false X e fa) (hr : SA X es fs) (hs : starEach (e :: es) X.env = (false, eval e X.env) :: starEach es X.env := by rfl) : SA X (e :: es) (eCons fa fs) := by
  refine pa_imp (pa_cons ha hr hs) fun σ H Q ⟨w, τ, e, g, n, q⟩ => ?_
  subst e
  refine ⟨w, τ, rfl, g, n, Res.all_mono (fun t M1 q w1 v x1 g1 e1 r1 _ => ?_) (Res.all_bind q)⟩
  subst e1
  refine ⟨w1, τ, rfl, g1, n.mono x1, Res.all_mono (fun ts M2 q w2 vs x2 g2 e2 r2 => ?_) (Res.all_bind q)⟩
  subst e2
  exact q w2 (v :: vs) (x1.trans x2) g2 rfl (.cons (r1.mono x2) r2)
def eLst (f : Ev (List T)) : Ev T := fun τ M => (f τ M).bind fun ts M' => if ts.length ≤ 16777216 then .ok (.lst ts) M' else .stuck
def eTup (f : Ev (List T)) : Ev T := fun τ M => (f τ M).bind fun ts M' => if ts.length ≤ 16777216 then .ok (.tup ts) M' else .stuck
theorem se_lst (h : SA X es fs) : SE true X (.List es pos) (eLst fs) := by
  refine pe_imp (pe_lst h) fun σ H Q ⟨w, τ, e, g, n, q⟩ => ?_
  subst e
  refine ⟨w, τ, rfl, g, n, Res.all_mono (fun ts M1 q w1 vs x1 g1 e1 r1 => ?_) (Res.all_bind q)⟩
  subst e1
  split at q
  · rename_i hl
    exact ⟨by rw [line_eq, r1.length]; exact hl, fun p hp => post_lst (post_ext q x1) g1 hp r1⟩
  · exact q.elim
theorem se_tup {k} (h : SA X es fs) : SE false X (.Tuple es k pos) (eTup fs) := by
  refine pe_imp (pe_tup h) fun σ H Q ⟨w, τ, e, g, n, q⟩ => ?_
  subst e
  refine ⟨w, τ, rfl, g, n, Res.all_mono (fun ts M1 q w1 vs x1 g1 e1 r1 => ?_) (Res.all_bind q)⟩
  subst e1
  split at q
  · rename_i hl
    exact ⟨by rw [line_eq, r1.length]; exact hl, fun p hp => post_tup (post_ext q x1) g1 hp r1⟩
  · exact q.elim
end
end TL
end
section
set_option Elab.async false
set_option linter.all false
set_option maxRecDepth 100000
/-! TL4: dicts by trees; ==, in, is; subscripts, slices. -/
namespace TL
open PySem PySem.Spec PyProof.Rows L2

/-! ### dicts -/
def toK : T → Option Key
  | .int i => some (.inl i)
  | .str x => some (.inr x)
  | _ => none
def ofK : Key → T
  | .inl i => .int i
  | .inr x => .str x
def lkT (k : Key) : List Key → List T → Option T
  | j :: ks, t :: ts => if j = k then some t else lkT k ks ts
  | _, _ => none
def hasK (k : Key) : List Key → Bool
  | [] => false
  | j :: ks => if j = k then true else hasK k ks
def putKs (k : Key) (ks : List Key) : List Key := if hasK k ks then ks else ks ++ [k]
def putTs (k : Key) (t : T) : List Key → List T → List T
  | j :: ks, u :: ts => if j = k then t :: ts else u :: putTs k t ks ts
  | _, _ => [t]
theorem hasK_iff {k : Key} : ∀ {ks : List Key}, hasK k ks = true ↔ k ∈ ks
  | [] => by simp [hasK]
  | j :: ks => by
    unfold hasK
    by_cases e : j = k
    · rw [if_pos e]; simp [e]
    · rw [if_neg e, hasK_iff, List.mem_cons]
      exact ⟨.inr, fun z => z.elim (fun y => (e y.symm).elim) id⟩
theorem toK_rep {w : Wd} {v : V} {t : T} {k : Key} (r : Rep w v t) (h : toK t = some k) : v = kV k := by
  cases r <;> simp only [toK, Option.some.injEq] at h <;> first | (subst h; rfl) | cases h
theorem ofK_rep {w : Wd} (k : Key) : Rep w (kV k) (ofK k) := by
  cases k with
  | inl i => exact .int i
  | inr x => exact .str x
theorem lk_val {w : Wd} {k : Key} : ∀ {kvs : List (Key × V)} {ts : List T}, RepL w (kvs.map Prod.snd) ts →
    (∃ v t, valV kvs k = some v ∧ lkT k (kvs.map Prod.fst) ts = some t ∧ Rep w v t) ∨ (valV kvs k = none ∧ lkT k (kvs.map Prod.fst) ts = none)
  | [], _, .nil => .inr ⟨rfl, rfl⟩
  | p :: r, t :: ts, .cons q l => by
    by_cases e : p.1 = k
    · exact .inl ⟨p.2, t, valV_pos e, by show (if p.1 = k then some t else _) = _; rw [if_pos e], q⟩
    · have ih := lk_val (k := k) l
      rw [valV_neg e, show lkT k ((p :: r).map Prod.fst) (t :: ts) = lkT k (r.map Prod.fst) ts from if_neg e]
      exact ih
theorem put_rep {w : Wd} {k : Key} {v : V} {t : T} (q : Rep w v t) {kvs : List (Key × V)} {ks : List Key} {ts : List T} (e : kvs.map Prod.fst = ks) (nd : ks.Nodup) (r : RepL w (kvs.map Prod.snd) ts) :
    (putK kvs k v).map Prod.fst = putKs k ks ∧ (putKs k ks).Nodup ∧ RepL w ((putK kvs k v).map Prod.snd) (putTs k t ks ts) := by
  subst e
  have hany : (kvs.any fun kv => decide (kv.1 = k)) = hasK k (kvs.map Prod.fst) := by
    clear r nd
    induction kvs with
    | nil => rfl
    | cons p l ih =>
      rw [List.any_cons, List.map_cons]
      unfold hasK
      by_cases h : p.1 = k
      · rw [if_pos h, decide_eq_true h, Bool.true_or]
      · rw [if_neg h, decide_eq_false h, Bool.false_or]
        exact ih
  unfold putK putKs
  rw [hany]
  by_cases h : hasK k (kvs.map Prod.fst) = true
  · rw [if_pos h, if_pos h]
    clear hany
    refine ⟨?_, nd, ?_⟩
    · rw [List.map_map]
      apply List.map_congr_left
      intro a _
      show (if a.1 = k then (a.1, v) else a).1 = a.1
      split <;> rfl
    · induction kvs generalizing ts with
      | nil => exact absurd h (by simp [hasK])
      | cons p l ih =>
        cases r with
        | cons r1 rl =>
          by_cases e : p.1 = k
          · have hn : ∀ a ∈ l, ¬ a.1 = k := fun a ha z => (List.nodup_cons.mp nd).1 (by rw [e, ← z]; exact List.mem_map_of_mem ha)
            have e2 : (l.map fun kv => if kv.1 = k then (kv.1, v) else kv) = l := by
              conv => rhs; rw [← List.map_id l]
              apply List.map_congr_left
              intro a ha
              rw [if_neg (hn a ha)]; rfl
            rw [List.map_cons, e2, if_pos e, List.map_cons, List.map_cons]
            show RepL w (v :: _) (if p.1 = k then _ else _)
            rw [if_pos e]
            exact .cons q rl
          · rw [List.map_cons, if_neg e, List.map_cons, List.map_cons]
            show RepL w (p.2 :: _) (if p.1 = k then _ else _)
            rw [if_neg e]
            refine .cons r1 (ih rl (List.nodup_cons.mp nd).2 ?_)
            rw [List.map_cons] at h
            unfold hasK at h
            rwa [if_neg e] at h
  · rw [if_neg h, if_neg h]
    have hn : k ∉ kvs.map Prod.fst := fun z => h (hasK_iff.mpr z)
    refine ⟨by rw [List.map_append]; rfl, ?_, ?_⟩
    · rw [List.nodup_append]
      exact ⟨nd, by simp, fun a ha b hb z => by rw [List.mem_singleton] at hb; rw [z, hb] at ha; exact hn ha⟩
    · rw [List.map_append]
      clear hany h nd
      induction kvs generalizing ts with
      | nil =>
        cases r
        exact .cons q .nil
      | cons p l ih =>
        cases r with
        | cons r1 rl =>
          have e : ¬ p.1 = k := fun z => hn (by rw [List.map_cons, z]; exact List.mem_cons_self)
          show RepL w (p.2 :: _) (if p.1 = k then _ else _)
          rw [if_neg e]
          exact .cons r1 (ih rl fun z => hn (List.mem_cons_of_mem _ z))
theorem len_putT {k : Key} {t : T} {ks : List Key} {ts : List T} : True := trivial

/-! ### == -/
theorem op_in_dict {X : Cx} (hu : X.A.units + 1 < cLine) : OpR X (compareOp .In) (fun y x H Q => ∃ a o, x = .ref a ∧ DGet H a y o ∧ Q (.bl o.isSome) H) := by
  intro pins s σ H y x iv u Q I ry rx h
  obtain ⟨a, ov, ex, g, q2⟩ := h
  subst ex
  obtain rfl : u = Value.ref a := rx
  exact d_in hu I g ry fun s3 I3 => ⟨.bl ov.isSome, H, I3, rfl, q2⟩
theorem op_notin_dict {X : Cx} (hu : X.A.units + 1 < cLine) : OpR X (compareOp .NotIn) (fun y x H Q => ∃ a o, x = .ref a ∧ DGet H a y o ∧ Q (.bl (!o.isSome)) H) := by
  intro pins s σ H y x iv u Q I ry rx h
  obtain ⟨a, ov, ex, g, q2⟩ := h
  subst ex
  obtain rfl : u = Value.ref a := rx
  exact d_notIn hu I g ry fun s3 I3 => ⟨.bl (!ov.isSome), H, I3, rfl, q2⟩
/-- what a comparison of two dicts tells -/
def dicEq : List Key → List PyData → List Key → List PyData → Bool
  | k :: ks, d :: ds, ls, es => (match lkD k ls es with
    | some e => PyData.eqv d e
    | none => false) && dicEq ks ds ls es
  | _, _, _, _ => true
where lkD (k : Key) : List Key → List PyData → Option PyData
  | j :: ks, t :: ts => if j = k then some t else lkD k ks ts
  | _, _ => none
theorem lkD_val {K : PySem.W.Frag} {H : Hp} {k : Key} : ∀ {kvs : List (Key × V)} {ds : List PyData}, DpAll K H (kvs.map Prod.snd) ds →
    (∃ v d, valV kvs k = some v ∧ dicEq.lkD k (kvs.map Prod.fst) ds = some d ∧ Dp K H v d ∧ d ∈ ds) ∨ (valV kvs k = none ∧ dicEq.lkD k (kvs.map Prod.fst) ds = none)
  | [], _, .nil => .inr ⟨rfl, rfl⟩
  | p :: r, t :: ts, .cons q l => by
    by_cases e : p.1 = k
    · exact .inl ⟨p.2, t, valV_pos e, by show (if p.1 = k then some t else _) = _; rw [if_pos e], q, List.mem_cons_self⟩
    · have ih := lkD_val (k := k) l
      rw [valV_neg e, show dicEq.lkD k ((p :: r).map Prod.fst) (t :: ts) = dicEq.lkD k (r.map Prod.fst) ts from if_neg e]
      rcases ih with ⟨v, d, h1, h2, h3, h4⟩ | h
      · exact .inl ⟨v, d, h1, h2, h3, List.mem_cons_of_mem _ h4⟩
      · exact .inr h
def rEqDD (K : PySem.W.Frag) : R2 := fun x y H Q => ∃ (a b : Addr) (kvs lvs : List (Key × V)) (ds es : List PyData), x = .ref a ∧ y = .ref b ∧ Rd H a (.dK kvs) ∧ Rd H b (.dK lvs) ∧
  DpAll K H (kvs.map Prod.snd) ds ∧ DpAll K H (lvs.map Prod.snd) es ∧ ds.all SeqAt.shaped = true ∧ es.all SeqAt.shaped = true ∧
  Q (.bl (kvs.length == lvs.length && dicEq (kvs.map Prod.fst) ds (lvs.map Prod.fst) es)) H
theorem hits_of {X : Cx} {pins : List (Addr × Obj)} {s : Shared} {σ : L2.St} {H : Hp} (I : Inv X pins σ H s) {A : Around} (hu : A.units + 64 < cLine) {lvs : List (Key × V)} {es : List PyData} {vb : List (Key × Value)} (rb : KV lvs vb) (he : DpAll X.K H (lvs.map Prod.snd) es)
    (hse : es.all SeqAt.shaped = true) : ∀ {kvs : List (Key × V)} {ds : List PyData} {va : List (Key × Value)}, KV kvs va → DpAll X.K H (kvs.map Prod.snd) ds → ds.all SeqAt.shaped = true →
    PySem.W.KeqHitsP X.prog X.w A s vb va (dicEq (kvs.map Prod.fst) ds (lvs.map Prod.fst) es)
  | [], _, _, .nil, .nil, _ => .nil
  | p :: r, d :: ds, (k, u) :: va, .cons ⟨e1, rv⟩ ra, .cons dv dl, hs => by
    have e1 : p.1 = k := e1
    rw [List.all_cons, Bool.and_eq_true] at hs
    have ih := hits_of I hu rb he hse ra dl hs.2
    show PySem.W.KeqHitsP X.prog X.w A s vb ((k, u) :: va) ((match dicEq.lkD p.1 (lvs.map Prod.fst) es with | some e => PyData.eqv d e | none => false) && _)
    rw [e1]
    have rel := rb.val k
    rcases lkD_val (K := X.K) (H := H) (k := k) he with ⟨v, e, h1, h2, h3, h4⟩ | ⟨h1, h2⟩
    · rw [h1] at rel
      rw [h2]
      obtain ⟨y, hy, ry⟩ := rel.some_of
      have se : SeqAt.shaped e = true := List.all_eq_true.mp hse e h4
      obtain ⟨as, r1⟩ := Dp.reads I d p.2 u dv rv
      obtain ⟨bs, r2⟩ := Dp.reads I e v y h3 ry
      refine .hit hy (SeqAt.EqAt.eqP (SeqAt.eqAt_reads d e A s u y as bs r1 r2 (SeqAt.canLay_of_shaped hs.1) (SeqAt.canLay_of_shaped se) ?_)) ih
      have z := SeqAt.depth_of_shaped hs.1
      have : min d.depth e.depth ≤ 64 := Nat.le_trans (Nat.min_le_left _ _) z
      omega
    · rw [h1] at rel
      rw [h2, Bool.false_and]
      refine .miss ?_
      cases hv : valueAt vb k with
      | none => rfl
      | some y => rw [hv] at rel; exact rel.elim
theorem op_eqDD {X : Cx} (hu : X.A.units + 70 < cLine) : OpR X (compareOp .Eq) (rEqDD X.K) := by
  intro pins s σ H x y v u Q I rx ry h
  obtain ⟨a, b, kvs, lvs, ds, es, rfl, rfl, ha, hb, hd, he, sd, se, q⟩ := h
  obtain rfl : v = Value.ref a := rx
  obtain rfl : u = Value.ref b := ry
  obtain ⟨_, ya, va, ra, da⟩ := ha.ok I.hok
  obtain ⟨_, yb, vb, rb, db⟩ := hb.ok I.hok
  refine PySem.W.rcP_dicts ya yb da db (by omega) (fun _ => hits_of I (A := X.A.in1) (by show X.A.units + 1 + 64 < _; omega) rb he se ra hd sd) _ _ ?_
  rw [← ra.length, ← rb.length]
  exact ⟨.bl _, H, I, rfl, q⟩
end TL
end
section
set_option Elab.async false
set_option linter.all false
set_option maxRecDepth 100000
/-! TL5: ==, in, is; subscripts, slices; calls of built-ins. -/
namespace TL
open PySem PySem.Spec PyProof.Rows L2

def kEq (a b : T) (M : Sto) : Res T := match toD a, toD b with
  | some d, some e => if SeqAt.shaped d && SeqAt.shaped e then .ok (.bl (PyData.eqv d e)) M else .stuck
  | _, _ => match a, b with
    | .dic ks xs, .dic ls ys => match toDs xs, toDs ys with
      | some ds, some es => if ds.all SeqAt.shaped && es.all SeqAt.shaped then .ok (.bl (ks.length == ls.length && dicEq ks ds ls es)) M else .stuck
      | _, _ => .stuck
    | _, _ => .stuck
def kNe (a b : T) (M : Sto) : Res T := match toD a, toD b with
  | some d, some e => if SeqAt.shaped d && SeqAt.shaped e then .ok (.bl (!PyData.eqv d e)) M else .stuck
  | _, _ => .stuck
def flT : T → Option V
  | .non => some .non
  | .bl b => some (.bl b)
  | .int i => some (.int i)
  | .str x => some (.str x)
  | _ => none
def flTs : List T → Option (List V)
  | [] => some []
  | x :: xs => match flT x, flTs xs with
    | some d, some ds => some (d :: ds)
    | _, _ => none
theorem flT_rep {w : Wd} {v u : V} {t : T} (r : Rep w v t) (h : flT t = some u) : v = u ∧ flatV u = true := by
  cases r <;> simp only [flT, Option.some.injEq] at h <;> first | (subst h; exact ⟨rfl, rfl⟩) | cases h
theorem flTs_rep {w : Wd} : ∀ {vs us : List V} {ts : List T}, RepL w vs ts → flTs ts = some us → vs = us ∧ us.all flatV = true
  | _, _, _, .nil, h => by simp only [flTs, Option.some.injEq] at h; subst h; exact ⟨rfl, rfl⟩
  | _, _, _, .cons r l, h => by
    simp only [flTs] at h
    split at h
    · rename_i d ds h1 h2
      cases h
      obtain ⟨e1, f1⟩ := flT_rep r h1
      obtain ⟨e2, f2⟩ := flTs_rep l h2
      subst e1 e2
      exact ⟨rfl, by rw [List.all_cons, f1, f2]; rfl⟩
    · cases h
def kIn0 (a b : T) : Option Bool := match b with
  | .dic ks _ => match toK a with
    | some k => some (hasK k ks)
    | none => none
  | .tup ys => match flT a, flTs ys with
    | some v, some vs => some (inV v vs)
    | _, _ => none
  | .lst ys => match flT a, flTs ys with
    | some v, some vs => some (inV v vs)
    | _, _ => match toD a, toDs ys with
      | some d, some ds => if SeqAt.shaped d && SeqAt.shaped (.list ds) then some (ds.any fun z => PyData.eqv z d) else none
      | _, _ => none
  | _ => none
def kIn (a b : T) (M : Sto) : Res T := match kIn0 a b with
  | some c => .ok (.bl c) M
  | none => .stuck
def kNin (a b : T) (M : Sto) : Res T := match kIn0 a b with
  | some c => .ok (.bl (!c)) M
  | none => .stuck
section
variable {X : Cx}
theorem c_eq {k : Nat} (hr : Room k X.A) : CmpOk X .Eq kEq := ⟨_, OpR.or (op_eqD hr.units) (op_eqDD (by have := hr.un; omega)), fun w x y a b Q g r1 r2 q => by
  unfold kEq at q
  split at q
  · rename_i d e h1 h2
    split at q
    · rename_i hs
      rw [Bool.and_eq_true] at hs
      exact .inl ⟨d, e, r1.dp h1, r2.dp h2, hs.1, hs.2, post_ok q g (.bl _)⟩
    · exact q.elim
  · split at q
    · rename_i ks xs ls ys _
      split at q
      · rename_i ds es h1 h2
        split at q
        · rename_i hs
          rw [Bool.and_eq_true] at hs
          cases r1 with
          | dic n1 d1 e1 nd1 l1 =>
            cases r2 with
            | dic n2 d2 e2 nd2 l2 =>
              subst e1 e2
              refine .inr ⟨_, _, _, _, ds, es, rfl, rfl, d1, d2, l1.dp h1, l2.dp h2, hs.1, hs.2, ?_⟩
              rw [List.length_map, List.length_map] at q
              exact post_ok q g (.bl _)
        · exact q.elim
      · exact q.elim
    · exact q.elim⟩
theorem c_ne {k : Nat} (hr : Room k X.A) : CmpOk X .NotEq kNe := ⟨_, op_neD hr.units, fun w x y a b Q g r1 r2 q => by
  unfold kNe at q
  split at q
  · rename_i d e h1 h2
    split at q
    · rename_i hs
      rw [Bool.and_eq_true] at hs
      exact ⟨d, e, r1.dp h1, r2.dp h2, hs.1, hs.2, post_ok q g (.bl _)⟩
    · exact q.elim
  · exact q.elim⟩
theorem dget_of {w : Wd} {x : V} {a : T} {k : Key} {ad : Addr} {kvs : List (Key × V)} {ks : List Key} {ts : List T} (r1 : Rep w x a) (h : toK a = some k) (d1 : Rd w.H ad (.dK kvs)) : DGet w.H ad x (valV kvs k) :=
  .inl ⟨kvs, k, d1, toK_rep r1 h, rfl⟩
theorem val_has {w : Wd} {k : Key} {kvs : List (Key × V)} : (valV kvs k).isSome = hasK k (kvs.map Prod.fst) := by
  induction kvs with
  | nil => rfl
  | cons p l ih =>
    by_cases e : p.1 = k
    · rw [valV_pos e]; show true = if p.1 = k then _ else _; rw [if_pos e]
    · rw [valV_neg e, ih]; show _ = if p.1 = k then _ else _; rw [if_neg e]
theorem kIn0_ok {K : PySem.W.Frag} {w : Wd} {x y : V} {a b : T} {c : Bool} (r1 : Rep w x a) (r2 : Rep w y b) (h : kIn0 a b = some c) :
    (∃ ad o, y = .ref ad ∧ DGet w.H ad x o ∧ o.isSome = c) ∨ (∃ p xs, y = .ref p ∧ (SqL K w.H p xs ∨ SqT K w.H p xs) ∧ flatV x = true ∧ xs.all flatV = true ∧ inV x xs = c) ∨
    (∃ d ds, Dp K w.H x d ∧ Dp K w.H y (.list ds) ∧ SeqAt.shaped d = true ∧ SeqAt.shaped (.list ds) = true ∧ (ds.any fun z => PyData.eqv z d) = c) := by
  unfold kIn0 at h
  split at h
  · split at h
    · rename_i k hk
      cases h
      cases r2 with
      | dic n2 d2 e2 nd2 l2 =>
        subst e2
        exact .inl ⟨_, _, rfl, dget_of (ks := []) (ts := []) r1 hk d2, val_has (w := w)⟩
    · cases h
  · split at h
    · rename_i v vs h1 h2
      cases h
      cases r2 with
      | tup n2 d2 l2 =>
        obtain ⟨e1, f1⟩ := flT_rep r1 h1
        obtain ⟨e2, f2⟩ := flTs_rep l2 h2
        subst e1 e2
        exact .inr (.inl ⟨_, _, rfl, .inr (.inl (.inl d2)), f1, f2, rfl⟩)
    · cases h
  · split at h
    · rename_i v vs h1 h2
      cases h
      cases r2 with
      | lst n2 d2 l2 =>
        obtain ⟨e1, f1⟩ := flT_rep r1 h1
        obtain ⟨e2, f2⟩ := flTs_rep l2 h2
        subst e1 e2
        exact .inr (.inl ⟨_, _, rfl, .inl (.inl d2), f1, f2, rfl⟩)
    · split at h
      · rename_i d ds h1 h2
        split at h
        · rename_i hs
          rw [Bool.and_eq_true] at hs
          cases h
          cases r2 with
          | lst n2 d2 l2 => exact .inr (.inr ⟨d, ds, r1.dp h1, .lst (.inl d2) (l2.dp h2), hs.1, hs.2, rfl⟩)
        · cases h
      · cases h
  · cases h
theorem c_in {k : Nat} (hr : Room k X.A) : CmpOk X .In kIn := ⟨_, OpR.or (op_in_dict (by have := hr.un; omega)) (OpR.or op_in_seq (op_inD (by have := hr.un; omega))), fun w x y a b Q g r1 r2 q => by
  unfold kIn at q
  split at q
  · rename_i c hc
    have q := post_ok q g (.bl _)
    rcases kIn0_ok (K := X.K) r1 r2 hc with ⟨ad, o, h1, h2, h3⟩ | ⟨p, xs, h1, h2, h3, h4, h5⟩ | ⟨d, ds, h1, h2, h3, h4, h5⟩
    · exact .inl ⟨ad, o, h1, h2, by rw [h3]; exact q⟩
    · exact .inr (.inl ⟨p, xs, h1, h2, h3, h4, by show Q (.bl (if false = true then _ else inV x xs)) w.H; rw [if_neg (by decide), h5]; exact q⟩)
    · exact .inr (.inr ⟨d, ds, h1, h2, h3, h4, by rw [h5]; exact q⟩)
  · exact q.elim⟩
theorem c_nin {k : Nat} (hr : Room k X.A) : CmpOk X .NotIn kNin := ⟨_, OpR.or (op_notin_dict (by have := hr.un; omega)) (OpR.or op_notIn_seq (op_notInD (by have := hr.un; omega))), fun w x y a b Q g r1 r2 q => by
  unfold kNin at q
  split at q
  · rename_i c hc
    have q := post_ok q g (.bl _)
    rcases kIn0_ok (K := X.K) r1 r2 hc with ⟨ad, o, h1, h2, h3⟩ | ⟨p, xs, h1, h2, h3, h4, h5⟩ | ⟨d, ds, h1, h2, h3, h4, h5⟩
    · exact .inl ⟨ad, o, h1, h2, by rw [h3]; exact q⟩
    · exact .inr (.inl ⟨p, xs, h1, h2, h3, h4, by show Q (.bl (if true = true then !inV x xs else _)) w.H; rw [if_pos rfl, h5]; exact q⟩)
    · exact .inr (.inr ⟨d, ds, h1, h2, h3, h4, by rw [h5]; exact q⟩)
  · exact q.elim⟩
theorem op_is_bl : OpR X (compareOp .Is) (fun x y H Q => ∃ a b, x = .bl a ∧ y = .bl b ∧ Q (.bl (a == b)) H) := by
  intro pins s σ H x y v u Q I rx ry h
  obtain ⟨a, b, rfl, rfl, q⟩ := h
  cases rx
  cases ry
  exact is_bool ⟨.bl _, H, I, rfl, q⟩
theorem op_not_bl : OpR X (compareOp .IsNot) (fun x y H Q => ∃ a b, x = .bl a ∧ y = .bl b ∧ Q (.bl (a != b)) H) := by
  intro pins s σ H x y v u Q I rx ry h
  obtain ⟨a, b, rfl, rfl, q⟩ := h
  cases rx
  cases ry
  exact isnot_bool ⟨.bl _, H, I, rfl, q⟩
theorem c_is : CmpOk X .Is kIsN := ⟨_, OpR.or op_isN op_is_bl, fun w x y a b Q g r1 r2 q => by
  unfold kIsN at q
  split at q
  · cases r2
    refine .inl ⟨rfl, ?_⟩
    rw [rep_none r1]
    exact post_ok q g (.bl _)
  · cases r1; cases r2
    exact .inr ⟨_, _, rfl, rfl, post_ok q g (.bl _)⟩
  · exact q.elim⟩
theorem c_isnot : CmpOk X .IsNot kNotN := ⟨_, OpR.or op_notN op_not_bl, fun w x y a b Q g r1 r2 q => by
  unfold kNotN at q
  split at q
  · cases r2
    refine .inl ⟨rfl, ?_⟩
    rw [rep_none r1]
    exact post_ok q g (.bl _)
  · cases r1; cases r2
    exact .inr ⟨_, _, rfl, rfl, post_ok q g (.bl _)⟩
  · exact q.elim⟩

/-! ### subscripts -/
theorem ix_dict (hu : X.A.units + 1 < cLine) : IxR X (fun x y H Q => ∃ a v, x = .ref a ∧ DGet H a y (some v) ∧ Q v H) := by
  intro value slice pins s σ H x y v u Q I rx ry h hs
  obtain ⟨a, z, ex, g, q⟩ := h
  subst ex
  obtain rfl : v = Value.ref a := rx
  have hT := dict_typeIs I g
  have h₂ : wpAny (model X.prog X.w) X.A (getItem (.ref a) u) (EP X pins σ Q) X.xe s := d_getItem hu I g ry fun w' s3 I3 rw' => ⟨z, H, I3, rw', q⟩
  unfold subscriptTail
  refine wpAny_bind ?_
  rw [getitemInPython_of_ne hT.not_modules]
  refine wpAny_bind (wpAny_specialOf hT PySem.F.slot_dict_getitem.lookup ?_)
  have fin : wpAny (model X.prog X.w) X.A (subscripted slice false (.ref a) u) (fun r s₃ => wpAny (model X.prog X.w) X.A (letTemporaryGo value (.ref a) r >>= fun _ => pure r) (EP X pins σ Q) X.xe s₃) X.xe s := by
    rw [hs]
    exact wpAny_operating (wpAny_mono h₂ (fun r s₃ h₃ => wpAny_bind (wpAny_letTemporaryGo (wpAny_pure h₃))) fun _ _ x => x)
  first
    | exact wpAny_pure (wpAny_bind fin)
    | exact wpAny_bind (wpAny_pure (wpAny_bind fin))
    | exact wpAny_bind fin
def kIx (a b : T) (M : Sto) : Res T := match a, b with
  | .lst xs, .int i => match atI xs i with
    | some t => .ok t M
    | none => .stuck
  | .tup xs, .int i => match atI xs i with
    | some t => .ok t M
    | none => .stuck
  | .dic ks xs, k => match toK k with
    | some k => match lkT k ks xs with
      | some t => .ok t M
      | none => .stuck
    | none => .stuck
  | .ref n, i => match M.get n, i with
    | some (.lst xs), .int i => match atI xs i with
      | some t => .ok t M
      | none => .stuck
    | some (.dic ks xs), k => match toK k with
      | some k => match lkT k ks xs with
        | some t => .ok t M
        | none => .stuck
      | none => .stuck
    | _, _ => .stuck
  | _, _ => .stuck
theorem atI_rep {w : Wd} {vs : List V} {ts : List T} {i : Int} {t : T} (r : RepL w vs ts) (h : atI ts i = some t) : ∃ v, atI vs i = some v ∧ Rep w v t := by
  unfold atI at h ⊢
  rw [r.length]
  cases hj : ixN ts.length i with
  | none => rw [hj] at h; cases h
  | some j =>
    rw [hj] at h
    exact r.get h
theorem lk_dget {w : Wd} {k : Key} {x : V} {b : T} {ad : Addr} {kvs : List (Key × V)} {ts : List T} {t : T} (r1 : Rep w x b) (h : toK b = some k) (d : Rd w.H ad (.dK kvs)) (l : RepL w (kvs.map Prod.snd) ts) (hl : lkT k (kvs.map Prod.fst) ts = some t) :
    ∃ v, DGet w.H ad x (some v) ∧ Rep w v t := by
  rcases lk_val (k := k) l with ⟨v, t', h1, h2, h3⟩ | ⟨h1, h2⟩
  · rw [hl] at h2
    cases h2
    exact ⟨v, .inl ⟨kvs, k, d, toK_rep r1 h, h1.symm⟩, h3⟩
  · rw [hl] at h2; cases h2
variable {pos : Pos} {a b : Expr} {fa fb : Ev T} {F : Bool}
theorem se_ix {k : Nat} (hr : Room k X.A) (ha : SE false X a fa) (hb : SE false X b fb) (hs : PlainIx b := by exact fun _ _ => rfl) : SE false X (.Subscript a b pos) (e2 kIx fa fb) := by
  have hix : IxR X (fun x y H Q => rIx X.K x y H Q ∨ ∃ a v, x = .ref a ∧ DGet H a y (some v) ∧ Q v H) := ix_seq.or (ix_dict (by have := hr.un; omega))
  refine pe_imp (pe_ix hix ha hb hs) fun σ H Q h => two_imp (fun w x y s t Q g r1 r2 q => ?_) h
  unfold kIx at q
  split at q
  · split at q
    · rename_i h
      cases r2
      cases r1 with
      | lst n d l =>
        obtain ⟨v, h1, h2⟩ := atI_rep l h
        exact .inl (.inl ⟨_, _, _, v, rfl, rfl, .inl d, h1, post_ok q g h2⟩)
    · exact q.elim
  · split at q
    · rename_i h
      cases r2
      cases r1 with
      | tup n d l =>
        obtain ⟨v, h1, h2⟩ := atI_rep l h
        exact .inl (.inr (.inl ⟨_, _, _, v, rfl, rfl, .inl (.inl d), h1, post_ok q g h2⟩))
    · exact q.elim
  · split at q
    · split at q
      · rename_i hk _ _ h
        cases r1 with
        | dic n d e nd l =>
          subst e
          obtain ⟨v, h1, h2⟩ := lk_dget r2 hk d l h
          exact .inr ⟨_, v, rfl, h1, post_ok q g h2⟩
      · exact q.elim
    · exact q.elim
  · split at q
    · split at q
      · rename_i hm _ _ h
        cases r2
        cases r1 with
        | ref n hn =>
          obtain ⟨_, _, vs, e, l⟩ := g.own _ _ hm
          obtain ⟨v, h1, h2⟩ := atI_rep l h
          exact .inl (.inl ⟨_, _, _, v, rfl, rfl, .of e, h1, post_ok q g h2⟩)
      · exact q.elim
    · split at q
      · split at q
        · rename_i hm _ _ hk _ _ h
          cases r1 with
          | ref n hn =>
            obtain ⟨_, _, kvs, e, e2, nd, l⟩ := g.own _ _ hm
            subst e2
            obtain ⟨v, h1, h2⟩ := lk_dget r2 hk (.inl e) l h
            exact .inr ⟨_, v, rfl, h1, post_ok q g h2⟩
        · exact q.elim
      · exact q.elim
    · exact q.elim
  · exact q.elim

/-! ### slices -/
def cutT (xs : List T) (lo hi : Option Int) : List T := (xs.drop (HT.sIx xs.length 0 lo)).take (HT.sIx xs.length xs.length hi - HT.sIx xs.length 0 lo)
def ePart (f : Ev T) : Ev (Option Int) := fun τ M => (f τ M).bind fun t M' => match t with
  | .int i => .ok (some i) M'
  | _ => .stuck
def eNone : Ev (Option Int) := fun _ M => .ok none M
def tO (mg : Str → Option Value) (f : Ev (Option Int)) : TO := fun σ H Q => ∃ w τ, w.H = H ∧ Good mg w ∧ Nm w σ τ ∧ (f τ w.M).all fun o M' => ∀ w1, Ext w w1 → Good mg w1 → w1.M = M' → Q o w1.H
def SO (X : Cx) (e : Option Expr) (f : Ev (Option Int)) : Prop := ∃ t, PO X e t ∧ ∀ σ H Q, tO X.mg f σ H Q → t σ H Q
theorem so_none : SO X none eNone := ⟨_, po_none, fun σ H Q ⟨w, τ, e, g, n, q⟩ => by subst e; exact q w (.refl w) g rfl⟩
theorem so_some (h : SE false X a fa) : SO X (some a) (ePart fa) := ⟨_, po_some h, fun σ H Q ⟨w, τ, e, g, n, q⟩ => by
  subst e
  refine ⟨w, τ, rfl, g, n, Res.all_mono (fun t M' q w1 v x1 g1 e1 r1 _ => ?_) (Res.all_bind q)⟩
  subst e1
  split at q
  · cases r1
    exact ⟨_, rfl, q w1 x1 g1 rfl⟩
  · exact q.elim⟩
def eSl (f : Ev T) (lo hi : Ev (Option Int)) : Ev T := fun τ M => (f τ M).bind fun t M1 => (lo τ M1).bind fun l M2 => (hi τ M2).bind fun u M3 => match t with
  | .lst xs => .ok (.lst (cutT xs l u)) M3
  | .ref n => match M3.get n with
    | some (.lst xs) => .ok (.lst (cutT xs l u)) M3
    | _ => .stuck
  | _ => .stuck
theorem RepL.cut {w : Wd} {vs : List V} {ts : List T} (r : RepL w vs ts) (lo hi : Option Int) : RepL w (cutV vs lo hi) (cutT ts lo hi) := by
  unfold cutV cutT
  rw [r.length]
  exact (r.drop _).take _
theorem se_sl {lo hi : Option Expr} {fl fh : Ev (Option Int)} {p2 : Pos} (ha : SE false X a fa) (hl : SO X lo fl) (hh : SO X hi fh) : SE true X (.Subscript a (.Slice lo hi none p2) pos) (eSl fa fl fh) := by
  obtain ⟨tl, pl, il⟩ := hl
  obtain ⟨th, ph, ih⟩ := hh
  refine pe_imp (pe_slice sl_list ha pl ph) fun σ H Q ⟨w, τ, e, g, n, q⟩ => ?_
  subst e
  refine ⟨w, τ, rfl, g, n, Res.all_mono (fun t M1 q w1 v x1 g1 e1 r1 _ => ?_) (Res.all_bind q)⟩
  subst e1
  refine il _ _ _ ⟨w1, τ, rfl, g1, n.mono x1, Res.all_mono (fun l M2 q w2 x2 g2 e2 => ?_) (Res.all_bind q)⟩
  subst e2
  refine ih _ _ _ ⟨w2, τ, rfl, g2, (n.mono x1).mono x2, Res.all_mono (fun u M3 q w3 x3 g3 e3 => ?_) (Res.all_bind q)⟩
  subst e3
  have xx := (x1.trans x2).trans x3
  split at q
  · cases (r1.mono x2).mono x3 with
    | lst n d l => exact ⟨_, _, rfl, .inl d, fun p hp => post_lst (post_ext q xx) g3 hp (l.cut _ _)⟩
  · split at q
    · rename_i hm
      cases (r1.mono x2).mono x3 with
      | ref n hn =>
        obtain ⟨_, _, vs, e, l⟩ := g3.own _ _ hm
        exact ⟨_, _, rfl, .of e, fun p hp => post_lst (post_ext q xx) g3 hp (l.cut _ _)⟩
    · exact q.elim
  · exact q.elim
def kRev : T → Sto → Res T
  | .lst xs, M => .ok (.lst xs.reverse) M
  | _, _ => .stuck
theorem se_rev {k : Nat} {p1 p2 p3 : Pos} (ha : SE false X a fa) : SE true X (.Subscript a (.Slice none none (some (.UnaryOp .USub (.Constant (.int 1) k p1) p2)) p3) pos) (e1 kRev fa) := by
  refine pe_imp (pe_revL ha) fun σ H Q ⟨w, τ, e, g, n, q⟩ => ?_
  subst e
  refine ⟨w, τ, rfl, g, n, Res.all_mono (fun t M1 q w1 v x1 g1 e1 r1 _ => ?_) (Res.all_bind q)⟩
  subst e1
  unfold kRev at q
  split at q
  · cases r1 with
    | lst n d l => exact ⟨_, _, rfl, .inl d, fun p hp => post_lst (post_ext q x1) g1 hp l.reverse⟩
  · exact q.elim
end
end TL
end
section
set_option Elab.async false
set_option linter.all false
set_option maxRecDepth 100000
/-! TL6: calls of built-ins. -/
namespace TL
open PySem PySem.Spec PyProof.Rows L2

/-- the built-ins' names are not hidden -/
structure Blt (mg : Str → Option Value) : Prop where
  len : mg "len" = none
  isinstance : mg "isinstance" = none
  all : mg "all" = none
  any : mg "any" = none
  sorted : mg "sorted" = none
  list : mg "list" = none
  tuple : mg "tuple" = none
  dict : mg "dict" = none
  set : mg "set" = none
  range : mg "range" = none
  zip : mg "zip" = none
  enumerate : mg "enumerate" = none
  max : mg "max" = none
  min : mg "min" = none
  sum : mg "sum" = none
  abs : mg "abs" = none
  int : mg "int" = none
  str : mg "str" = none
  bool : mg "bool" = none

def eA (k : List T → Sto → Res T) (f : Ev (List T)) : Ev T := fun τ M => (f τ M).bind k
section
variable {X : Cx} {F : Bool} {fs : Ev (List T)} {e : Expr} {es : List Expr} {p pos : Pos} {x : Str}
theorem args_imp {mg : Str → Option Value} {k : List T → Sto → Res T} {r : List V → Hp → VK → Prop} (hr : ∀ w vs ts Q, Good mg w → RepL w vs ts → post mg F Q w (k ts w.M) → r vs w.H Q) {σ : L2.St} {H : Hp} {Q : VK}
    (h : tE mg F (eA k fs) σ H Q) : tCB r (tA mg fs) σ H Q := by
  obtain ⟨w, τ, rfl, g, n, q⟩ := h
  refine ⟨w, τ, rfl, g, n, Res.all_mono (fun ts M1 q w1 vs x1 g1 e1 r1 => ?_) (Res.all_bind q)⟩
  subst e1
  exact hr w1 vs ts Q g1 r1 (post_ext q x1)
theorem se_callB {id : String} {k : List T → Sto → Res T} {r : List V → Hp → VK → Prop} (hc : CallR X (.builtin id) r) (hr : ∀ w vs ts Q, Good X.mg w → RepL w vs ts → post X.mg F Q w (k ts w.M) → r vs w.H Q)
    (hg : Gl X x) (hm : X.mg x = none) (hv : bootBuiltins x = some (.builtin id)) (hn : x ≠ "__name__") (hdb : (x == ("__debug__" : Str)) = false) (ha : SA X (e :: es) fs)
    (he : starEach (e :: es) X.env = (false, eval e X.env) :: starEach es X.env) (hpl : (backTo pos (starEach es X.env)).any (·.1) = false) : SE F X (.Call (.Name x p) (e :: es) [] pos) (eA k fs) :=
  pe_imp (pe_callB hc hg hm hv ha hn hdb he hpl) fun σ H Q h => args_imp hr h
theorem se_callTy {T' : String} {k : List T → Sto → Res T} {r : List V → Hp → VK → Prop} (hc : CallR X (.type T') r) (hr : ∀ w vs ts Q, Good X.mg w → RepL w vs ts → post X.mg F Q w (k ts w.M) → r vs w.H Q)
    (hg : Gl X x) (hm : X.mg x = none) (hv : bootBuiltins x = some (.type T')) (hn : x ≠ "__name__") (hdb : (x == ("__debug__" : Str)) = false) (ha : SA X (e :: es) fs)
    (he : starEach (e :: es) X.env = (false, eval e X.env) :: starEach es X.env) (hpl : (backTo pos (starEach es X.env)).any (·.1) = false) : SE F X (.Call (.Name x p) (e :: es) [] pos) (eA k fs) :=
  pe_imp (pe_callTy hc hg hm hv ha hn hdb he hpl) fun σ H Q h => args_imp hr h

/-! ### len -/
theorem call_lenDR : CallR X (.builtin "len") (fun xs H Q => ∃ a kvs, xs = [V.ref a] ∧ Rd H a (.dK kvs) ∧ Q (.int kvs.length) H) := by
  intro pins s σ H xs us Q I r h
  obtain ⟨a, kvs, rfl, ha, q⟩ := h
  obtain ⟨u, rfl, ru⟩ := vals1 r
  cases ru
  exact d_len I ha fun t s' I' => ⟨.int kvs.length, H, I', ⟨t, rfl⟩, q⟩
def kLen : List T → Sto → Res T
  | [.lst xs], M => .ok (.int xs.length) M
  | [.tup xs], M => .ok (.int xs.length) M
  | [.dic ks _], M => .ok (.int ks.length) M
  | [.str x], M => if x.length ≤ 16777216 then .ok (.int x.length) M else .stuck
  | [.ref n], M => match M.get n with
    | some (.lst xs) => .ok (.int xs.length) M
    | some (.dic ks _) => .ok (.int ks.length) M
    | _ => .stuck
  | _, _ => .stuck
theorem CallR.or {f : Value} {r r' : List V → Hp → VK → Prop} (h : CallR X f r) (h' : CallR X f r') : CallR X f (fun xs H Q => r xs H Q ∨ r' xs H Q) := by
  intro pins s σ H xs us Q I rr q
  rcases q with q | q
  · exact h pins s σ H xs us Q I rr q
  · exact h' pins s σ H xs us Q I rr q
theorem repL1 {w : Wd} {vs : List V} {t : T} (r : RepL w vs [t]) : ∃ v, vs = [v] ∧ Rep w v t := by
  cases r with
  | cons a b => cases b; exact ⟨_, rfl, a⟩
theorem repL2 {w : Wd} {vs : List V} {t u : T} (r : RepL w vs [t, u]) : ∃ v z, vs = [v, z] ∧ Rep w v t ∧ Rep w z u := by
  cases r with
  | cons a b =>
    obtain ⟨z, rfl, c⟩ := repL1 b
    exact ⟨_, z, rfl, a, c⟩
theorem se_len (B : Blt X.mg) (ha : SA X (e :: es) fs) (hg : Gl X "len" := by rfl)
    (he : starEach (e :: es) X.env = (false, eval e X.env) :: starEach es X.env := by rfl) (hpl : (backTo pos (starEach es X.env)).any (·.1) = false := by rfl) : SE false X (.Call (.Name "len" p) (e :: es) [] pos) (eA kLen fs) := by
  refine se_callB (CallR.or call_len call_lenDR) (fun w vs ts Q g r q => ?_) hg B.len PySem.boot_len (by decide) (by decide) ha he hpl
  unfold kLen at q
  split at q
  · obtain ⟨v, rfl, r1⟩ := repL1 r
    cases r1 with
    | lst n d l => exact .inl ⟨_, _, rfl, .inl ⟨_, .inl d, rfl⟩, by rw [l.length]; exact post_ok q g (.int _)⟩
  · obtain ⟨v, rfl, r1⟩ := repL1 r
    cases r1 with
    | tup n d l => exact .inl ⟨_, _, rfl, .inr ⟨_, .inl (.inl d), rfl⟩, by rw [l.length]; exact post_ok q g (.int _)⟩
  · obtain ⟨v, rfl, r1⟩ := repL1 r
    cases r1 with
    | dic n d e nd l =>
      subst e
      rw [List.length_map] at q
      exact .inr ⟨_, _, rfl, d, post_ok q g (.int _)⟩
  · obtain ⟨v, rfl, r1⟩ := repL1 r
    split at q
    · cases r1
      exact .inl ⟨_, _, rfl, ⟨by rw [line_eq]; assumption, rfl⟩, post_ok q g (.int _)⟩
    · exact q.elim
  · obtain ⟨v, rfl, r1⟩ := repL1 r
    split at q
    · rename_i hm
      cases r1 with
      | ref n hn =>
        obtain ⟨_, _, vs, e, l⟩ := g.own _ _ hm
        exact .inl ⟨_, _, rfl, .inl ⟨_, .of e, rfl⟩, by rw [l.length]; exact post_ok q g (.int _)⟩
    · rename_i hm
      cases r1 with
      | ref n hn =>
        obtain ⟨_, _, kvs, e, e2, nd, l⟩ := g.own _ _ hm
        subst e2
        rw [List.length_map] at q
        exact .inr ⟨_, _, rfl, .inl e, post_ok q g (.int _)⟩
    · exact q.elim
  · exact q.elim

/-! ### all, any, sum -/
def blT : T → Option Bool
  | .bl b => some b
  | _ => none
def blTs : List T → Option (List Bool)
  | [] => some []
  | x :: xs => match x, blTs xs with
    | .bl b, some bs => some (b :: bs)
    | _, _ => none
def inTs : List T → Option (List Int)
  | [] => some []
  | x :: xs => match x, inTs xs with
    | .int b, some bs => some (b :: bs)
    | _, _ => none
theorem blTs_rep {w : Wd} : ∀ {vs : List V} {ts : List T} {bs : List Bool}, RepL w vs ts → blTs ts = some bs → vs = bs.map V.bl
  | _, _, _, .nil, h => by simp only [blTs, Option.some.injEq] at h; subst h; rfl
  | _, _, _, .cons r l, h => by
    simp only [blTs] at h
    split at h
    · rename_i b bs h2
      cases h
      cases r
      rw [List.map_cons, blTs_rep l h2]
    · cases h
theorem inTs_rep {w : Wd} : ∀ {vs : List V} {ts : List T} {bs : List Int}, RepL w vs ts → inTs ts = some bs → vs = bs.map V.int
  | _, _, _, .nil, h => by simp only [inTs, Option.some.injEq] at h; subst h; rfl
  | _, _, _, .cons r l, h => by
    simp only [inTs] at h
    split at h
    · rename_i b bs h2
      cases h
      cases r
      rw [List.map_cons, inTs_rep l h2]
    · cases h
theorem inTs_map : ∀ ns : List Int, inTs (ns.map T.int) = some ns
  | [] => rfl
  | n :: r => by rw [List.map_cons]; simp only [inTs]; rw [inTs_map r]
theorem blTs_map : ∀ ns : List Bool, blTs (ns.map T.bl) = some ns
  | [] => rfl
  | n :: r => by rw [List.map_cons]; simp only [blTs]; rw [blTs_map r]
def kAll : List T → Sto → Res T
  | [.lst xs], M => match blTs xs with
    | some bs => .ok (.bl (bs.all id)) M
    | none => .stuck
  | _, _ => .stuck
def kAny : List T → Sto → Res T
  | [.lst xs], M => match blTs xs with
    | some bs => .ok (.bl (bs.any id)) M
    | none => .stuck
  | _, _ => .stuck
def kSum : List T → Sto → Res T
  | [.lst xs], M => match inTs xs with
    | some bs => .ok (.int bs.sum) M
    | none => .stuck
  | _, _ => .stuck
theorem se_all (B : Blt X.mg) (ha : SA X (e :: es) fs) (hc : X.calm = true := by rfl) (hg : Gl X "all" := by rfl)
    (he : starEach (e :: es) X.env = (false, eval e X.env) :: starEach es X.env := by rfl) (hpl : (backTo pos (starEach es X.env)).any (·.1) = false := by rfl) : SE false X (.Call (.Name "all" p) (e :: es) [] pos) (eA kAll fs) := by
  refine se_callB (cr_all hc) (fun w vs ts Q g r q => ?_) hg B.all PyProof.Rows.boot_all (by decide) (by decide) ha he hpl
  unfold kAll at q
  split at q
  · obtain ⟨v, rfl, r1⟩ := repL1 r
    split at q
    · rename_i bs hb
      cases r1 with
      | lst n d l => rw [blTs_rep l hb] at d; exact ⟨_, bs, rfl, .inl d, post_ok q g (.bl _)⟩
    · exact q.elim
  · exact q.elim
theorem se_any (B : Blt X.mg) (ha : SA X (e :: es) fs) (hc : X.calm = true := by rfl) (hg : Gl X "any" := by rfl)
    (he : starEach (e :: es) X.env = (false, eval e X.env) :: starEach es X.env := by rfl) (hpl : (backTo pos (starEach es X.env)).any (·.1) = false := by rfl) : SE false X (.Call (.Name "any" p) (e :: es) [] pos) (eA kAny fs) := by
  refine se_callB (cr_any hc) (fun w vs ts Q g r q => ?_) hg B.any PyProof.Rows.boot_any (by decide) (by decide) ha he hpl
  unfold kAny at q
  split at q
  · obtain ⟨v, rfl, r1⟩ := repL1 r
    split at q
    · rename_i bs hb
      cases r1 with
      | lst n d l => rw [blTs_rep l hb] at d; exact ⟨_, bs, rfl, .inl d, post_ok q g (.bl _)⟩
    · exact q.elim
  · exact q.elim
theorem se_sum (B : Blt X.mg) (ha : SA X (e :: es) fs) (hc : X.calm = true := by rfl) (hg : Gl X "sum" := by rfl)
    (he : starEach (e :: es) X.env = (false, eval e X.env) :: starEach es X.env := by rfl) (hpl : (backTo pos (starEach es X.env)).any (·.1) = false := by rfl) : SE false X (.Call (.Name "sum" p) (e :: es) [] pos) (eA kSum fs) := by
  refine se_callB (cr_sum hc) (fun w vs ts Q g r q => ?_) hg B.sum PyProof.Rows.boot_sum (by decide) (by decide) ha he hpl
  unfold kSum at q
  split at q
  · obtain ⟨v, rfl, r1⟩ := repL1 r
    split at q
    · rename_i bs hb
      cases r1 with
      | lst n d l => rw [inTs_rep l hb] at d; exact ⟨_, bs, rfl, .inl d, post_ok q g (.int _)⟩
    · exact q.elim
  · exact q.elim

/-! ### max, min, abs, int -/
def kMax : List T → Sto → Res T
  | [.int i, .int j], M => .ok (.int (if j > i then j else i)) M
  | _, _ => .stuck
def kMin : List T → Sto → Res T
  | [.int i, .int j], M => .ok (.int (if j < i then j else i)) M
  | _, _ => .stuck
def kAbs : List T → Sto → Res T
  | [.int i], M => .ok (.int (if i < 0 then -i else i)) M
  | _, _ => .stuck
def kInt : List T → Sto → Res T
  | [.int i], M => .ok (.int i) M
  | _, _ => .stuck
theorem se_max (B : Blt X.mg) (ha : SA X (e :: es) fs) (hc : X.calm = true := by rfl) (hg : Gl X "max" := by rfl)
    (he : starEach (e :: es) X.env = (false, eval e X.env) :: starEach es X.env := by rfl) (hpl : (backTo pos (starEach es X.env)).any (·.1) = false := by rfl) : SE false X (.Call (.Name "max" p) (e :: es) [] pos) (eA kMax fs) := by
  refine se_callB (call_max2 hc) (fun w vs ts Q g r q => ?_) hg B.max PyProof.Rows.boot_max (by decide) (by decide) ha he hpl
  unfold kMax at q
  split at q
  · obtain ⟨v, z, rfl, r1, r2⟩ := repL2 r
    cases r1; cases r2
    exact ⟨_, _, rfl, post_ok q g (.int _)⟩
  · exact q.elim
theorem se_min (B : Blt X.mg) (ha : SA X (e :: es) fs) (hc : X.calm = true := by rfl) (hg : Gl X "min" := by rfl)
    (he : starEach (e :: es) X.env = (false, eval e X.env) :: starEach es X.env := by rfl) (hpl : (backTo pos (starEach es X.env)).any (·.1) = false := by rfl) : SE false X (.Call (.Name "min" p) (e :: es) [] pos) (eA kMin fs) := by
  refine se_callB (call_min2 hc) (fun w vs ts Q g r q => ?_) hg B.min PyProof.Rows.boot_min (by decide) (by decide) ha he hpl
  unfold kMin at q
  split at q
  · obtain ⟨v, z, rfl, r1, r2⟩ := repL2 r
    cases r1; cases r2
    exact ⟨_, _, rfl, post_ok q g (.int _)⟩
  · exact q.elim
theorem se_abs (B : Blt X.mg) (ha : SA X (e :: es) fs) (hg : Gl X "abs" := by rfl)
    (he : starEach (e :: es) X.env = (false, eval e X.env) :: starEach es X.env := by rfl) (hpl : (backTo pos (starEach es X.env)).any (·.1) = false := by rfl) : SE false X (.Call (.Name "abs" p) (e :: es) [] pos) (eA kAbs fs) := by
  refine se_callB call_abs (fun w vs ts Q g r q => ?_) hg B.abs PyProof.Rows.boot_abs (by decide) (by decide) ha he hpl
  unfold kAbs at q
  split at q
  · obtain ⟨v, rfl, r1⟩ := repL1 r
    cases r1
    exact ⟨_, rfl, post_ok q g (.int _)⟩
  · exact q.elim
theorem se_intC (B : Blt X.mg) (ha : SA X (e :: es) fs) (hg : Gl X "int" := by rfl)
    (he : starEach (e :: es) X.env = (false, eval e X.env) :: starEach es X.env := by rfl) (hpl : (backTo pos (starEach es X.env)).any (·.1) = false := by rfl) : SE false X (.Call (.Name "int" p) (e :: es) [] pos) (eA kInt fs) := by
  refine se_callTy call_int1 (fun w vs ts Q g r q => ?_) hg B.int PyProof.Rows.boot_int (by decide) (by decide) ha he hpl
  unfold kInt at q
  split at q
  · obtain ⟨v, rfl, r1⟩ := repL1 r
    cases r1
    exact .inl ⟨_, rfl, post_ok q g (.int _)⟩
  · exact q.elim

/-! ### list, tuple -/
def kList : List T → Sto → Res T
  | [.lst xs], M => .ok (.lst xs) M
  | [.tup xs], M => .ok (.lst xs) M
  | [.dic ks _], M => .ok (.lst (ks.map ofK)) M
  | [.ref n], M => match M.get n with
    | some (.lst xs) => .ok (.lst xs) M
    | _ => .stuck
  | _, _ => .stuck
theorem RepL.keys {w : Wd} : ∀ kvs : List (Key × V), RepL w (kvs.map fun kv => kV kv.1) ((kvs.map Prod.fst).map ofK)
  | [] => .nil
  | p :: r => .cons (ofK_rep p.1) (RepL.keys r)
theorem se_listC (B : Blt X.mg) (ha : SA X (e :: es) fs) (hc : X.calm = true := by rfl) (hg : Gl X "list" := by rfl)
    (he : starEach (e :: es) X.env = (false, eval e X.env) :: starEach es X.env := by rfl) (hpl : (backTo pos (starEach es X.env)).any (·.1) = false := by rfl) : SE true X (.Call (.Name "list" p) (e :: es) [] pos) (eA kList fs) := by
  refine se_callTy (CallR.or call_list_of (call_listD hc)) (fun w vs ts Q g r q => ?_) hg B.list PyProof.Rows.boot_list (by decide) (by decide) ha he hpl
  unfold kList at q
  split at q
  · obtain ⟨v, rfl, r1⟩ := repL1 r
    cases r1 with
    | lst n d l => exact .inl ⟨_, _, rfl, .inl (.inl d), fun p hp => post_lst q g hp l⟩
  · obtain ⟨v, rfl, r1⟩ := repL1 r
    cases r1 with
    | tup n d l => exact .inl ⟨_, _, rfl, .inr (.inl (.inl d)), fun p hp => post_lst q g hp l⟩
  · obtain ⟨v, rfl, r1⟩ := repL1 r
    cases r1 with
    | dic n d e nd l =>
      subst e
      exact .inr ⟨_, _, rfl, d, fun p hp => post_lst q g hp (RepL.keys _)⟩
  · obtain ⟨v, rfl, r1⟩ := repL1 r
    split at q
    · rename_i hm
      cases r1 with
      | ref n hn =>
        obtain ⟨_, _, vs, e, l⟩ := g.own _ _ hm
        exact .inl ⟨_, _, rfl, .inl (.of e), fun p hp => post_lst q g hp l⟩
    · exact q.elim
  · exact q.elim
def kTupC : List T → Sto → Res T
  | [.lst xs], M => .ok (.tup xs) M
  | [.ref n], M => match M.get n with
    | some (.lst xs) => .ok (.tup xs) M
    | _ => .stuck
  | _, _ => .stuck
theorem se_tupC (B : Blt X.mg) (ha : SA X (e :: es) fs) (hg : Gl X "tuple" := by rfl)
    (he : starEach (e :: es) X.env = (false, eval e X.env) :: starEach es X.env := by rfl) (hpl : (backTo pos (starEach es X.env)).any (·.1) = false := by rfl) : SE false X (.Call (.Name "tuple" p) (e :: es) [] pos) (eA kTupC fs) := by
  refine se_callTy call_tuple_of (fun w vs ts Q g r q => ?_) hg B.tuple PyProof.Rows.boot_tuple (by decide) (by decide) ha he hpl
  unfold kTupC at q
  split at q
  · obtain ⟨v, rfl, r1⟩ := repL1 r
    cases r1 with
    | lst n d l => exact ⟨_, _, rfl, .inl ⟨.inl d, fun p hp => post_tup q g hp l⟩⟩
  · obtain ⟨v, rfl, r1⟩ := repL1 r
    split at q
    · rename_i xs hm
      cases r1 with
      | ref n hn =>
        obtain ⟨_, _, vs, e, l⟩ := g.own _ _ hm
        exact ⟨_, _, rfl, .inl ⟨.of e, fun p hp => post_tup q g hp l⟩⟩
    · exact q.elim
  · exact q.elim

/-! ### sorted, of ints -/
def insI (n : Int) : List Int → List Int
  | [] => [n]
  | m :: r => if n ≤ m then n :: m :: r else m :: insI n r
def srtI : List Int → List Int
  | [] => []
  | n :: r => insI n (srtI r)
theorem insI_perm (n : Int) : ∀ l : List Int, (insI n l).Perm (n :: l)
  | [] => .refl _
  | m :: r => by
    unfold insI
    split
    · exact .refl _
    · exact ((insI_perm n r).cons m).trans (.swap n m r)
theorem srtI_perm : ∀ l : List Int, (srtI l).Perm l
  | [] => .refl _
  | n :: r => (insI_perm n _).trans ((srtI_perm r).cons n)
theorem insI_sorted (n : Int) : ∀ l : List Int, l.Pairwise (· ≤ ·) → (insI n l).Pairwise (· ≤ ·)
  | [], _ => by simp [insI]
  | m :: r, h => by
    unfold insI
    rw [List.pairwise_cons] at h
    split
    · rename_i hn
      rw [List.pairwise_cons]
      refine ⟨fun a ha => ?_, List.pairwise_cons.mpr h⟩
      rcases List.mem_cons.mp ha with rfl | ha
      · exact hn
      · exact Int.le_trans hn (h.1 a ha)
    · rename_i hn
      rw [List.pairwise_cons]
      refine ⟨fun a ha => ?_, insI_sorted n r h.2⟩
      rcases List.mem_cons.mp ((insI_perm n r).mem_iff.mp ha) with rfl | ha
      · omega
      · exact h.1 a ha
theorem srtI_sorted : ∀ l : List Int, (srtI l).Pairwise (· ≤ ·)
  | [] => .nil
  | n :: r => insI_sorted n _ (srtI_sorted r)
theorem srtI_eq {a b : List Int} (p : a.Perm b) (h : a.Pairwise (· ≤ ·)) : a = srtI b := PySem.W.ksm_same (p.trans (srtI_perm b).symm) h (srtI_sorted b)
def intKs : List Key → Option (List Int)
  | [] => some []
  | .inl i :: r => match intKs r with
    | some l => some (i :: l)
    | none => none
  | .inr _ :: _ => none
theorem intKs_eq : ∀ {ks : List Key} {l : List Int}, intKs ks = some l → ks = l.map Sum.inl
  | [], _, h => by cases h; rfl
  | .inl i :: r, l, h => by
    simp only [intKs] at h
    split at h
    · rename_i l' h'
      cases h
      rw [List.map_cons, intKs_eq h']
    · cases h
  | .inr _ :: _, _, h => by cases h
def kSorted : List T → Sto → Res T
  | [.lst xs], M => match inTs xs with
    | some ns => .ok (.lst ((srtI ns).map T.int)) M
    | none => .stuck
  | [.dic ks _], M => match intKs ks with
    | some ns => if ns.length < 64 then .ok (.lst ((srtI ns).map T.int)) M else .stuck
    | none => .stuck
  | [.ref n], M => match M.get n with
    | some (.lst xs) => match inTs xs with
      | some ns => .ok (.lst ((srtI ns).map T.int)) M
      | none => .stuck
    | some (.dic ks _) => match intKs ks with
      | some ns => if ns.length < 64 then .ok (.lst ((srtI ns).map T.int)) M else .stuck
      | none => .stuck
    | _ => .stuck
  | _, _ => .stuck
theorem se_sorted (B : Blt X.mg) (ha : SA X (e :: es) fs) (hc : X.calm = true := by rfl) (hg : Gl X "sorted" := by rfl)
    (he : starEach (e :: es) X.env = (false, eval e X.env) :: starEach es X.env := by rfl) (hpl : (backTo pos (starEach es X.env)).any (·.1) = false := by rfl) : SE true X (.Call (.Name "sorted" p) (e :: es) [] pos) (eA kSorted fs) := by
  refine se_callB (CallR.or cr_sortedI (call_sortedDI hc)) (fun w vs ts Q g r q => ?_) hg B.sorted PyProof.Rows.boot_sorted (by decide) (by decide) ha he hpl
  unfold kSorted at q
  split at q
  · obtain ⟨v, rfl, r1⟩ := repL1 r
    split at q
    · rename_i ns hb
      cases r1 with
      | lst n d l =>
        rw [inTs_rep l hb] at d
        exact .inl ⟨_, ns, rfl, .inl d, fun ns' p h1 h2 hp => by rw [srtI_eq h1 h2]; exact post_lst q g hp (RepL.ints _)⟩
    · exact q.elim
  · obtain ⟨v, rfl, r1⟩ := repL1 r
    split at q
    · rename_i ns hb
      split at q
      · cases r1 with
        | dic n d e nd l =>
          subst e
          exact .inr ⟨_, _, ns, rfl, d, intKs_eq hb, by assumption, fun ns' p h1 h2 hp => by rw [srtI_eq h1 h2]; exact post_lst q g hp (RepL.ints _)⟩
      · exact q.elim
    · exact q.elim
  · obtain ⟨v, rfl, r1⟩ := repL1 r
    split at q
    · rename_i hm
      split at q
      · rename_i ns hb
        cases r1 with
        | ref n hn =>
          obtain ⟨_, _, vs, e, l⟩ := g.own _ _ hm
          rw [inTs_rep l hb] at e
          exact .inl ⟨_, ns, rfl, .of e, fun ns' p h1 h2 hp => by rw [srtI_eq h1 h2]; exact post_lst q g hp (RepL.ints _)⟩
      · exact q.elim
    · rename_i hm
      split at q
      · rename_i ns hb
        split at q
        · cases r1 with
          | ref n hn =>
            obtain ⟨_, _, kvs, e, e2, nd, l⟩ := g.own _ _ hm
            subst e2
            exact .inr ⟨_, _, ns, rfl, .inl e, intKs_eq hb, by assumption, fun ns' p h1 h2 hp => by rw [srtI_eq h1 h2]; exact post_lst q g hp (RepL.ints _)⟩
        · exact q.elim
      · exact q.elim
    · exact q.elim
  · exact q.elim
end
end TL
end
section
set_option Elab.async false
set_option linter.all false
set_option maxRecDepth 100000
/-! TL7: new objects of the store, freezing; targets; statements; loops. -/
namespace TL
open PySem PySem.Spec PyProof.Rows L2

/-! ### new, frozen -/
def eNew (f : Ev T) : Ev T := fun τ M => (f τ M).bind fun t M' => match t with
  | .lst ts => .ok (.ref M'.nx) (M'.add (.lst ts))
  | .dic ks ts => .ok (.ref M'.nx) (M'.add (.dic ks ts))
  | _ => .stuck
theorem SE.new {X : Cx} {e : Expr} {f : Ev T} (h : SE true X e f) : SE false X e (eNew f) := by
  refine pe_imp h fun σ H Q ⟨w, τ, e, g, n, q⟩ => ?_
  subst e
  refine ⟨w, τ, rfl, g, n, Res.all_mono (fun t M' q w1 v x g1 e1 r1 f => ?_) (Res.all_bind q)⟩
  obtain ⟨w2, p, rfl, y, g2, hp, h | h⟩ := f rfl
  · obtain ⟨vs, ts, rfl, r, rfl⟩ := h
    subst e1
    exact q (w2.new p (.lst vs) (.lst ts)) (.ref p) (y.trans (Ext.new g2 hp)) (g2.new hp ⟨vs, rfl, r⟩) rfl new_ref fun z => nomatch z
  · obtain ⟨kvs, ks, ts, rfl, e, nd, r, rfl⟩ := h
    subst e1
    exact q (w2.new p (.dK kvs) (.dic ks ts)) (.ref p) (y.trans (Ext.new g2 hp)) (g2.new hp ⟨kvs, rfl, e, nd, r⟩) rfl new_ref fun z => nomatch z

def frzM (f : T → Sto → Option (T × Sto)) : List T → Sto → Option (List T × Sto)
  | [], M => some ([], M)
  | t :: ts, M => match f t M with
    | some (u, M1) => match frzM f ts M1 with
      | some (us, M2) => some (u :: us, M2)
      | none => none
    | none => none
def frzD : Nat → T → Sto → Option (T × Sto)
  | 0 => fun _ _ => none
  | d + 1 => fun t M => match t with
    | .lst ts => match frzM (frzD d) ts M with
      | some (us, M') => some (.lst us, M')
      | none => none
    | .tup ts => match frzM (frzD d) ts M with
      | some (us, M') => some (.tup us, M')
      | none => none
    | .dic ks ts => match frzM (frzD d) ts M with
      | some (us, M') => some (.dic ks us, M')
      | none => none
    | .ref n => match M.get n with
      | some (.lst ts) => match frzM (frzD d) ts (M.del n) with
        | some (us, M') => some (.lst us, M')
        | none => none
      | some (.dic ks ts) => match frzM (frzD d) ts (M.del n) with
        | some (us, M') => some (.dic ks us, M')
        | none => none
      | _ => none
    | t => some (t, M)
section
variable {mg : Str → Option Value}
abbrev FrzOk (mg : Str → Option Value) (f : T → Sto → Option (T × Sto)) : Prop := ∀ (t : T) (w : Wd) (v : V) (t' : T) (M' : Sto), f t w.M = some (t', M') → Good mg w → Rep w v t → ∃ w', w'.H = w.H ∧ Ext w w' ∧ Good mg w' ∧ w'.M = M' ∧ Rep w' v t'
theorem frzM_ok {f : T → Sto → Option (T × Sto)} (F : FrzOk mg f) : ∀ {ts : List T} {w : Wd} {vs : List V} {ts' : List T} {M' : Sto}, frzM f ts w.M = some (ts', M') → Good mg w → RepL w vs ts → ∃ w', w'.H = w.H ∧ Ext w w' ∧ Good mg w' ∧ w'.M = M' ∧ RepL w' vs ts'
  | [], w, vs, ts', M', h, g, r => by
    cases h
    cases r
    exact ⟨w, rfl, .refl w, g, rfl, .nil⟩
  | t :: ts, w, vs, ts', M', h, g, r => by
    unfold frzM at h
    split at h
    · rename_i u M1 h1
      split at h
      · rename_i us M2 h2
        cases h
        cases r with
        | cons a b =>
          obtain ⟨w1, e1, x1, g1, m1, r1⟩ := F _ _ _ _ _ h1 g a
          subst m1
          obtain ⟨w2, e2, x2, g2, m2, r2⟩ := frzM_ok F h2 g1 (b.mono x1)
          exact ⟨w2, e2.trans e1, x1.trans x2, g2, m2, .cons (r1.mono x2) r2⟩
      · cases h
    · cases h
theorem frzD_ok : ∀ (d : Nat), FrzOk mg (frzD d)
  | 0 => fun _ _ _ _ _ h _ _ => nomatch h
  | d + 1 => fun t w v t' M' h g r => by
    have IH := frzD_ok d
    unfold frzD at h
    cases t with
    | lst ts =>
      dsimp only at h
      split at h
      · rename_i us M1 h1
        cases h
        cases r with
        | lst n e l =>
          obtain ⟨w', a, x, g', b, l'⟩ := frzM_ok IH h1 g l
          obtain ⟨e', n'⟩ := x.rd (u := .lst _) True.intro e n
          exact ⟨w', a, x, g', b, .lst n' e' l'⟩
      · cases h
    | tup ts =>
      dsimp only at h
      split at h
      · rename_i us M1 h1
        cases h
        cases r with
        | tup n e l =>
          obtain ⟨w', a, x, g', b, l'⟩ := frzM_ok IH h1 g l
          obtain ⟨e', n'⟩ := x.keep _ (.tup _) True.intro e n
          exact ⟨w', a, x, g', b, .tup n' e' l'⟩
      · cases h
    | dic ks ts =>
      dsimp only at h
      split at h
      · rename_i us M1 h1
        cases h
        cases r with
        | dic n e e2 nd l =>
          obtain ⟨w', a, x, g', b, l'⟩ := frzM_ok IH h1 g l
          obtain ⟨e', n'⟩ := x.keepD _ _ e n
          exact ⟨w', a, x, g', b, .dic n' e' e2 nd l'⟩
      · cases h
    | ref m =>
      dsimp only at h
      split at h
      · rename_i ts hm
        split at h
        · rename_i us M1 h1
          cases h
          cases r with
          | ref _ hn =>
            obtain ⟨_, _, vs0, e, l⟩ := g.own _ _ hm
            have n := drop_notEx g hm
            obtain ⟨w', a, x, g', b, l'⟩ := frzM_ok IH (w := w.drop m) h1 (g.drop (n := m)) (l.mono Ext.drop)
            obtain ⟨e', n'⟩ := x.keep _ (.lst _) True.intro e n
            exact ⟨w', a, Ext.drop.trans x, g', b, .lst n' (.inl e') l'⟩
        · cases h
      · rename_i ks ts hm
        split at h
        · rename_i us M1 h1
          cases h
          cases r with
          | ref _ hn =>
            obtain ⟨_, _, kvs0, e, e2, nd, l⟩ := g.own _ _ hm
            have n := drop_notEx g hm
            obtain ⟨w', a, x, g', b, l'⟩ := frzM_ok IH (w := w.drop m) h1 (g.drop (n := m)) (l.mono Ext.drop)
            obtain ⟨e', n'⟩ := x.keepD _ _ (.inl e) n
            exact ⟨w', a, Ext.drop.trans x, g', b, .dic n' e' e2 nd l'⟩
        · cases h
      · cases h
    | non => cases h; exact ⟨w, rfl, .refl w, g, rfl, r⟩
    | bl _ => cases h; exact ⟨w, rfl, .refl w, g, rfl, r⟩
    | int _ => cases h; exact ⟨w, rfl, .refl w, g, rfl, r⟩
    | str _ => cases h; exact ⟨w, rfl, .refl w, g, rfl, r⟩
    | scr _ => cases h; exact ⟨w, rfl, .refl w, g, rfl, r⟩
end
def eFrz (f : Ev T) : Ev T := fun τ M => (f τ M).bind fun t M' => match frzD 6 t M' with
  | some (t', M2) => .ok t' M2
  | none => .stuck
theorem SE.frz {X : Cx} {e : Expr} {f : Ev T} (h : SE false X e f) : SE false X e (eFrz f) := by
  refine pe_imp h fun σ H Q ⟨w, τ, e, g, n, q⟩ => ?_
  subst e
  refine ⟨w, τ, rfl, g, n, Res.all_mono (fun t M' q w1 v x g1 e1 r1 _ => ?_) (Res.all_bind q)⟩
  subst e1
  split at q
  · rename_i t' M2 hf
    obtain ⟨w2, e2, x2, g2, m2, r2⟩ := frzD_ok 6 _ _ _ _ _ hf g1 r1
    rw [← e2]
    exact q w2 v (x.trans x2) g2 m2 r2 fun z => nomatch z
  · exact q.elim

/-! ### targets -/
abbrev Tg := T → Tau → Sto → Res Tau
def tG (mg : Str → Option Value) (sl : List Nat) (g : Tg) : TG := fun v σ H Q => ∃ w τ t, w.H = H ∧ Good mg w ∧ Nm w σ τ ∧ Rep w v t ∧
  (g t τ w.M).all fun τ' M' => ∀ w1 σ', Ext w w1 → Good mg w1 → w1.M = M' → Nm w1 σ' τ' → (σ'.length = σ.length ∧ ∀ j, j ∉ sl → σ'[j]? = σ[j]?) → Q σ' w1.H
def SG (sl : List Nat) (X : Cx) (tg : Expr) (g : Tg) : Prop := PG X tg (tG X.mg sl g)
theorem pg_imp {X : Cx} {e : Expr} {t t' : TG} (h : PG X e t') (i : ∀ v σ H Q, t v σ H Q → t' v σ H Q) : PG X e t := ⟨fun v u p s σ H Q I r q => h.run v u p s σ H Q I r (i _ _ _ _ q)⟩
def gN (i : Nat) : Tg := fun t τ M => .ok (τ.set i (some t)) M
section
variable {X : Cx} {pos : Pos}
theorem sg_name {i : Nat} {x : Str} (hN : X.N.Nodup) (hi : X.N[i]? = some x := by rfl) (hx : Loc X.env.scope x := by first | exact .inl rfl | exact .inr rfl) (hf : X.fn x = true ∨ X.env.scope.names.lookup x = some .local := by first | exact .inl rfl | exact .inr rfl) : SG [i] X (.Name x pos) (gN i) := by
  refine pg_imp (pg_name hN hi hx hf) fun v σ H Q ⟨w, τ, t, e, g, n, r, q⟩ => ?_
  subst e
  exact q w _ (.refl w) g rfl (n.set r i) ⟨List.length_set, fun j hj => List.getElem?_set_ne (fun z => hj (by rw [z]; exact List.mem_singleton_self _))⟩
def gT1 (g : Tg) : List T → Tau → Sto → Res Tau := fun ts τ M => match ts with
  | [t] => g t τ M
  | _ => .stuck
def tGs (mg : Str → Option Value) (sl : List Nat) (g : List T → Tau → Sto → Res Tau) : TGs := fun vs σ H Q => ∃ w τ ts, w.H = H ∧ Good mg w ∧ Nm w σ τ ∧ RepL w vs ts ∧
  (g ts τ w.M).all fun τ' M' => ∀ w1 σ', Ext w w1 → Good mg w1 → w1.M = M' → Nm w1 σ' τ' → (σ'.length = σ.length ∧ ∀ j, j ∉ sl → σ'[j]? = σ[j]?) → Q σ' w1.H
def SGs (sl : List Nat) (X : Cx) (tgs : List Expr) (g : List T → Tau → Sto → Res Tau) : Prop := PGs X tgs (tGs X.mg sl g)
def gNil : List T → Tau → Sto → Res Tau := fun ts τ M => match ts with
  | [] => .ok τ M
  | _ => .stuck
def gCons (g : Tg) (gs : List T → Tau → Sto → Res Tau) : List T → Tau → Sto → Res Tau := fun ts τ M => match ts with
  | t :: ts => (g t τ M).bind fun τ' M' => gs ts τ' M'
  | _ => .stuck
theorem pgs_imp {es : List Expr} {t t' : TGs} (h : PGs X es t') (i : ∀ v σ H Q, t v σ H Q → t' v σ H Q) : PGs X es t := ⟨fun v u p s σ H Q I r q => h.run v u p s σ H Q I r (i _ _ _ _ q)⟩
theorem sgs_nil : SGs [] X [] gNil := by
  refine pgs_imp pgs_nil fun vs σ H Q ⟨w, τ, ts, e, g, n, r, q⟩ => ?_
  subst e
  cases r with
  | nil => exact ⟨rfl, q w σ (.refl w) g rfl n ⟨rfl, fun _ _ => rfl⟩⟩
  | cons _ _ => exact q.elim
theorem sgs_cons {sl sl' : List Nat} {e : Expr} {es : List Expr} {g : Tg} {gs : List T → Tau → Sto → Res Tau} (h1 : SG sl X e g) (h2 : SGs sl' X es gs) (hs : (assignEach (e :: es) X.env).map (·.2) = assign e X.env :: (assignEach es X.env).map (·.2) := by rfl) : SGs (sl ++ sl') X (e :: es) (gCons g gs) := by
  refine pgs_imp (pgs_cons h1 h2 hs) fun vs σ H Q ⟨w, τ, ts, e, g0, n, r, q⟩ => ?_
  subst e
  cases r with
  | nil => exact q.elim
  | cons a b =>
    refine ⟨_, _, rfl, w, τ, _, rfl, g0, n, a, Res.all_mono (fun τ1 M1 q w1 σ1 x1 g1 e1 n1 k1 => ?_) (Res.all_bind q)⟩
    subst e1
    refine ⟨w1, τ1, _, rfl, g1, n1, b.mono x1, Res.all_mono (fun τ2 M2 q w2 σ2 x2 g2 e2 n2 k2 => ?_) q⟩
    exact q w2 σ2 (x1.trans x2) g2 e2 n2 ⟨k2.1.trans k1.1, fun j hj => (k2.2 j fun z => hj (List.mem_append_right _ z)).trans (k1.2 j fun z => hj (List.mem_append_left _ z))⟩
def gTup (k : Nat) (gs : List T → Tau → Sto → Res Tau) : Tg := fun t τ M => match t with
  | .tup ts => if ts.length = k then gs ts τ M else .stuck
  | _ => .stuck
theorem sg_tup {sl : List Nat} {es : List Expr} {k : Nat} {gs : List T → Tau → Sto → Res Tau} {n : Nat} (h : SGs sl X es gs) (hc : X.calm = true := by rfl) (hn : (assignEach es X.env).length = n := by rfl) (hst : (assignEach es X.env).findIdx? (·.1) = none := by rfl) : SG sl X (.Tuple es k pos) (gTup n gs) := by
  refine pg_imp (pg_tup hc h hn hst) fun v σ H Q ⟨w, τ, t, e, g0, nm, r, q⟩ => ?_
  subst e
  unfold gTup at q
  split at q
  · split at q
    · rename_i hl
      cases r with
      | tup n0 d l => exact ⟨_, _, rfl, .inl (.inl d), by rw [l.length]; exact hl, w, τ, _, rfl, g0, nm, l, q⟩
    · exact q.elim
  · exact q.elim
end
end TL
end
section
set_option Elab.async false
set_option linter.all false
set_option maxRecDepth 100000
/-! TL8: statements, blocks, what a loop walks, for, while. -/
namespace TL
open PySem PySem.Spec PyProof.Rows L2

inductive Fl where
  | nx (τ : Tau) | rt (t : T) | bk (τ : Tau) | ct (τ : Tau)
def ends (mg : Str → Option Value) (F : Bool) (D : Ends) (w w1 : Wd) : Fl → Prop
  | .nx τ => ∀ σ, Nm w1 σ τ → D.nx σ w1.H
  | .rt t => ∀ v, Rep w1 v t → (F = true → Fr mg w w1 v t) → D.rt v w1.H
  | .bk τ => ∀ σ, Nm w1 σ τ → D.bk σ w1.H
  | .ct τ => ∀ σ, Nm w1 σ τ → D.ct σ w1.H
def postS (mg : Str → Option Value) (F : Bool) (D : Ends) (w : Wd) (a : Res Fl) : Prop := a.all fun fl M' => ∀ w1, Ext w w1 → Good mg w1 → w1.M = M' → ends mg F D w w1 fl
def tS (mg : Str → Option Value) (F : Bool) (f : Ev Fl) : TS := fun D σ H => ∃ w τ, w.H = H ∧ Good mg w ∧ Nm w σ τ ∧ postS mg F D w (f τ w.M)
def SS (F : Bool) (X : Cx) (st : Stmt) (f : Ev Fl) : Prop := PS X st (tS X.mg F f)
def SB (F : Bool) (X : Cx) (sts : List Stmt) (f : Ev Fl) : Prop := PSs X sts (tS X.mg F f)
theorem ps_imp {X : Cx} {st : Stmt} {t t' : TS} (h : PS X st t') (i : ∀ D σ H, t D σ H → t' D σ H) : PS X st t := ⟨fun p s σ H D I q => h.run p s σ H D I (i _ _ _ q)⟩
theorem pss_imp {X : Cx} {sts : List Stmt} {t t' : TS} (h : PSs X sts t') (i : ∀ D σ H, t D σ H → t' D σ H) : PSs X sts t := ⟨fun p s σ H D I q => h.run p s σ H D I (i _ _ _ q)⟩
theorem ends.ext {mg : Str → Option Value} {F : Bool} {D : Ends} {w w' w1 : Wd} {fl : Fl} (x : Ext w w') (h : ends mg F D w w1 fl) : ends mg F D w' w1 fl := by
  cases fl with
  | nx τ => exact h
  | rt t => exact fun v r f => h v r fun z => (f z).ext x
  | bk τ => exact h
  | ct τ => exact h
theorem postS_ext {mg : Str → Option Value} {F : Bool} {D : Ends} {w w1 : Wd} {a : Res Fl} (h : postS mg F D w a) (x : Ext w w1) : postS mg F D w1 a :=
  Res.all_mono (fun _ _ q w2 y g e => (q w2 (x.trans y) g e).ext x) h
section
variable {X : Cx} {F : Bool} {pos : Pos} {st : Stmt} {sts : List Stmt} {e a b c : Expr} {f g : Ev Fl} {fe : Ev T}

def sNil : Ev Fl := fun τ M => .ok (.nx τ) M
def sSeq (f g : Ev Fl) : Ev Fl := fun τ M => (f τ M).bind fun fl M' => match fl with
  | .nx τ' => g τ' M'
  | fl => .ok fl M'
theorem sb_nil : SB F X [] sNil := pss_imp pss_nil fun D σ H ⟨w, τ, e, g, n, q⟩ => by subst e; exact q w (.refl w) g rfl σ n
theorem sb_cons (h1 : SS F X st f) (h2 : SB F X sts g) : SB F X (st :: sts) (sSeq f g) := by
  refine pss_imp (pss_cons h1 h2) fun D σ H ⟨w, τ, e, g0, n, q⟩ => ?_
  subst e
  refine ⟨w, τ, rfl, g0, n, Res.all_mono (fun fl M' q w1 x1 g1 e1 => ?_) (Res.all_bind q)⟩
  subst e1
  cases fl with
  | nx τ' => exact fun σ' n' => ⟨w1, τ', rfl, g1, n', postS_ext q x1⟩
  | rt t => exact q w1 x1 g1 rfl
  | bk τ' => exact q w1 x1 g1 rfl
  | ct τ' => exact q w1 x1 g1 rfl
theorem sb_one (h1 : SS F X st f) : SB F X [st] f := pss_one h1
theorem ss_never : SS F X st eStuck := ps_imp ps_never fun D σ H ⟨_, _, _, _, _, q⟩ => q
theorem sb_never : SB F X sts eStuck := pss_imp pss_never fun D σ H ⟨_, _, _, _, _, q⟩ => q

def sPass : Ev Fl := fun τ M => .ok (.nx τ) M
theorem ss_pass : SS F X (.Pass pos) sPass := ps_imp ps_pass fun D σ H ⟨w, τ, e, g, n, q⟩ => by subst e; exact q w (.refl w) g rfl σ n
def sBrk : Ev Fl := fun τ M => .ok (.bk τ) M
theorem ss_break : SS F X (.Break pos) sBrk := ps_imp ps_break fun D σ H ⟨w, τ, e, g, n, q⟩ => by subst e; exact q w (.refl w) g rfl σ n
def sCt : Ev Fl := fun τ M => .ok (.ct τ) M
theorem ss_continue : SS F X (.Continue pos) sCt := ps_imp ps_continue fun D σ H ⟨w, τ, e, g, n, q⟩ => by subst e; exact q w (.refl w) g rfl σ n
def sExpr (f : Ev T) : Ev Fl := fun τ M => (f τ M).bind fun _ M' => .ok (.nx τ) M'
theorem ss_expr (he : SE false X e fe) (hs : swapsWith e none pos.line X.env = pure false := by rfl) : SS F X (.Expr e pos) (sExpr fe) := by
  refine ps_imp (ps_expr he hs) fun D σ H ⟨w, τ, e, g, n, q⟩ => ?_
  subst e
  refine ⟨w, τ, rfl, g, n, Res.all_mono (fun t M' q w1 v x1 g1 e1 r1 _ => ?_) (Res.all_bind q)⟩
  exact q w1 x1 g1 e1 σ (n.mono x1)
def sRet (f : Ev T) : Ev Fl := fun τ M => (f τ M).bind fun t M' => .ok (.rt t) M'
theorem ss_ret (he : SE F X e fe) : SS F X (.Return (some e) pos) (sRet fe) := by
  refine ps_imp (ps_ret he) fun D σ H ⟨w, τ, e, g, n, q⟩ => ?_
  subst e
  refine ⟨w, τ, rfl, g, n, Res.all_mono (fun t M' q w1 v x1 g1 e1 r1 f1 => ?_) (Res.all_bind q)⟩
  exact q w1 x1 g1 e1 v r1 f1
def sRetN : Ev Fl := fun τ M => .ok (.rt .non) M
theorem ss_retN : SS false X (.Return none pos) sRetN := ps_imp ps_retN fun D σ H ⟨w, τ, e, g, n, q⟩ => by subst e; exact q w (.refl w) g rfl .non .non fun z => nomatch z
def sIf (c : Ev Bool) (f g : Ev Fl) : Ev Fl := fun τ M => (c τ M).bind fun b M' => if b then f τ M' else g τ M'
theorem ss_if {as bs : List Stmt} {fc : Ev Bool} (hc : ST X c fc) (ha : SB F X as f) (hb : SB F X bs g) : SS F X (.If c as bs pos) (sIf fc f g) := by
  refine ps_imp (ps_if hc ha hb) fun D σ H ⟨w, τ, e, g0, n, q⟩ => ?_
  subst e
  refine ⟨w, τ, rfl, g0, n, Res.all_mono (fun b M' q w1 x1 g1 e1 => ?_) (Res.all_bind q)⟩
  subst e1
  cases b with
  | true => exact ⟨w1, τ, rfl, g1, n.mono x1, postS_ext q x1⟩
  | false => exact ⟨w1, τ, rfl, g1, n.mono x1, postS_ext q x1⟩
/-! assignments -/
def sAsg (f : Ev T) (g : Tg) : Ev Fl := fun τ M => (f τ M).bind fun t M1 => (g t τ M1).bind fun τ' M2 => .ok (.nx τ') M2
theorem asg_imp {mg : Str → Option Value} {sl : List Nat} {g : Tg} {D : Ends} {σ : L2.St} {H : Hp} (h : tS mg F (sAsg fe g) D σ H) : tAsg (tE mg false fe) (tG mg sl g) D σ H := by
  obtain ⟨w, τ, rfl, g0, n, q⟩ := h
  refine ⟨w, τ, rfl, g0, n, Res.all_mono (fun t M' q w1 v x1 g1 e1 r1 _ => ?_) (Res.all_bind q)⟩
  subst e1
  refine ⟨w1, τ, t, rfl, g1, n.mono x1, r1, Res.all_mono (fun τ' M2 q w2 σ' x2 g2 e2 n2 _ => ?_) (Res.all_bind q)⟩
  exact q w2 (x1.trans x2) g2 e2 σ' n2
theorem ss_asg {sl : List Nat} {tg : Expr} {g : Tg} (he : SE false X e fe) (hg : SG sl X tg g) (hs : swapsWithSole [tg] e pos.line X.env = pure false := by rfl) (hw : swappedStores [tg] e X.env = pure none := by rfl) (h1 : (assignEach [tg] X.env).map (·.2) = [assign tg X.env] := by rfl) : SS F X (.Assign [tg] e pos) (sAsg fe g) :=
  ps_imp (ps_asg he hg hs hw h1) fun D σ H h => asg_imp h
theorem gName_imp {mg : Str → Option Value} {i : Nat} {v : V} {σ : L2.St} {H : Hp} {Q : L2.St → Hp → Prop} (h : tG mg [i] (gN i) v σ H Q) : L2.gName i v σ H Q := by
  obtain ⟨w, τ, t, rfl, g, n, r, q⟩ := h
  exact q w _ (.refl w) g rfl (n.set r i) ⟨List.length_set, fun j hj => List.getElem?_set_ne (fun z => hj (by rw [z]; exact List.mem_singleton_self _))⟩
theorem ss_set {i : Nat} {x : Str} {pos' : Pos} (hN : X.N.Nodup) (he : SE false X e fe) (hi : X.N[i]? = some x := by rfl) (hx : Loc X.env.scope x := by first | exact .inl rfl | exact .inr rfl) (hs : swapsWith e (some (.Name x pos')) pos.line X.env = pure false := by rfl)
    (hf : X.fn x = true ∨ X.env.scope.names.lookup x = some .local := by first | exact .inl rfl | exact .inr rfl) : SS F X (.Assign [.Name x pos'] e pos) (sAsg fe (gN i)) :=
  ps_imp (ps_set hN hi hx he hs hf) fun D σ H h => by
    have q := asg_imp (sl := [i]) h
    obtain ⟨w, τ, rfl, g, n, q⟩ := q
    exact ⟨w, τ, rfl, g, n, Res.all_mono (fun t M' q w1 v x1 g1 e1 r1 f1 => gName_imp (q w1 v x1 g1 e1 r1 f1)) q⟩

/-! ### what a loop walks -/
/-- what stood stands, whatever is done with reserved ones -/
structure KF (w w' : Wd) : Prop extends Keep w w' where
  frz : ∀ a o u, w.H a = some (.frz o u) → w'.H a = some (.frz o u)
theorem Ext.toKF {w w' : Wd} (x : Ext w w') : KF w w' := ⟨x.toKeep, x.frz⟩
theorem KF.trans {a b c : Wd} (x : KF a b) (y : KF b c) : KF a c :=
  ⟨⟨fun p u hp h n => let ⟨h1, n1⟩ := x.keep p u hp h n; y.keep p u hp h1 n1, fun p o u hu h n => let ⟨h1, n1⟩ := x.keepF p o u hu h n; y.keepF p o u hu h1 n1, fun p u h n => let ⟨h1, n1⟩ := x.keepD p u h n; y.keepD p u h1 n1, Nat.le_trans x.nx y.nx,
   fun n h => (y.rho n (Nat.lt_of_lt_of_le h x.nx)).trans (x.rho n h)⟩, fun p o u h => y.frz p o u (x.frz p o u h)⟩
theorem KF.refl (w : Wd) : KF w w := (Ext.refl w).toKF
theorem KF.wrR {w : Wd} {D : Addr} {ho : HO} (hD : w.R D) (h : ∀ o u, w.H D ≠ some (.frz o u)) : KF w (w.wrR D ho) :=
  ⟨Keep.wrR hD, fun a o u e => by
    show upd w.H D ho a = _
    rw [upd_ne fun z => h o u (by rw [← z]; exact e)]
    exact e⟩
theorem Nm.kept {w w' : Wd} {σ : L2.St} {τ : Tau} (x : Keep w w') (e : Nm w σ τ) : Nm w' σ τ := ⟨e.len, fun i t h => let ⟨v, a, b⟩ := e.at_ i t h; ⟨v, a, b.kept x⟩⟩
structure Yld (mg : Str → Option Value) (J : It) (w0 : Wd) (ts : List T) : Prop where
  go : ∀ i w, KF w0 w → Good mg w → i < ts.length → J.go i w.H
  yl : ∀ i w x H', KF w0 w → Good mg w → J.yld i w.H x H' → ∀ t, ts[i]? = some t → ∃ w', w'.H = H' ∧ Ext w w' ∧ Good mg w' ∧ w'.M = w.M ∧ Rep w' x t
  stop : ∀ i w, KF w0 w → Good mg w → ts.length ≤ i → J.stop i w.H
def tI (mg : Str → Option Value) (f : Ev (List T)) : TI := fun σ H R => ∃ w τ, w.H = H ∧ Good mg w ∧ Nm w σ τ ∧ (f τ w.M).all fun ts M' => ∀ w1 J, Ext w w1 → Good mg w1 → w1.M = M' → Yld mg J w1 ts → R J w1.H
def SI (X : Cx) (tg e : Expr) (f : Ev (List T)) : Prop := PI X tg e (tI X.mg f)
theorem pi_imp {tg : Expr} {t t' : TI} (h : PI X tg e t') (i : ∀ σ H R, t σ H R → t' σ H R) : PI X tg e t := ⟨fun p s σ H R I q => h.run p s σ H R I (i _ _ _ q)⟩
def iLst (f : Ev T) : Ev (List T) := fun τ M => (f τ M).bind fun t M' => match t with
  | .lst ts => .ok ts M'
  | _ => .stuck
def iTpl (f : Ev T) : Ev (List T) := fun τ M => (f τ M).bind fun t M' => match t with
  | .tup ts => .ok ts M'
  | _ => .stuck
theorem sqL_fun {K : PySem.W.Frag} {w : Wd} {a : Addr} {xs : List V} {i : Nat} {x : V} (d : Rd w.H a (.lst xs)) (h : ∀ xs, SqL K w.H a xs → xs[i]? = some x) : xs[i]? = some x := h xs (.inl d)
theorem yld_list {K : PySem.W.Frag} {mg : Str → Option Value} {w : Wd} {a : Addr} {xs : List V} {ts : List T} (n : ¬ Ex w a) (d : Rd w.H a (.lst xs)) (l : RepL w xs ts) : Yld mg (Itl K a) w ts where
  go := fun i w1 x1 g1 hi => by
    obtain ⟨v, hv, _⟩ := l.get (List.getElem?_eq_getElem hi)
    exact ⟨xs, v, .inl (x1.rd (u := .lst _) True.intro d n).1, hv⟩
  yl := fun i w1 x H' x1 g1 hy t ht => by
    obtain ⟨rfl, h⟩ := hy
    obtain ⟨v, hv, r⟩ := l.get ht
    have e := (sqL_fun (x1.rd (u := .lst _) True.intro d n).1 h).symm.trans hv
    cases e
    exact ⟨w1, rfl, .refl w1, g1, rfl, r.kept x1.toKeep⟩
  stop := fun i w1 x1 g1 hi => ⟨xs, .inl (x1.rd (u := .lst _) True.intro d n).1, by rw [l.length]; exact hi⟩
theorem yld_tup {K : PySem.W.Frag} {mg : Str → Option Value} {w : Wd} {a : Addr} {xs : List V} {ts : List T} (n : ¬ Ex w a) (d : Rd w.H a (.tup xs)) (l : RepL w xs ts) : Yld mg (Itt K a) w ts where
  go := fun i w1 x1 g1 hi => by
    obtain ⟨v, hv, _⟩ := l.get (List.getElem?_eq_getElem hi)
    exact ⟨xs, v, .inl (x1.rd (u := .tup _) True.intro d n).1, hv⟩
  yl := fun i w1 x H' x1 g1 hy t ht => by
    obtain ⟨rfl, h⟩ := hy
    obtain ⟨v, hv, r⟩ := l.get ht
    have e := (h xs (.inl (x1.rd (u := .tup _) True.intro d n).1)).symm.trans hv
    cases e
    exact ⟨w1, rfl, .refl w1, g1, rfl, r.kept x1.toKeep⟩
  stop := fun i w1 x1 g1 hi => ⟨xs, .inl (x1.rd (u := .tup _) True.intro d n).1, by rw [l.length]; exact hi⟩
theorem si_list {tg : Expr} (he : SE false X e fe) : SI X tg e (iLst fe) := by
  refine pi_imp (pi_list he) fun σ H R ⟨w, τ, e, g, n, q⟩ => ?_
  subst e
  refine ⟨w, τ, rfl, g, n, Res.all_mono (fun t M' q w1 v x1 g1 e1 r1 _ => ?_) (Res.all_bind q)⟩
  subst e1
  split at q
  · cases r1 with
    | lst n d l => exact ⟨_, rfl, ⟨_, .inl d⟩, q w1 _ x1 g1 rfl (yld_list n d l)⟩
  · exact q.elim
theorem si_tup {tg : Expr} (he : SE false X e fe) : SI X tg e (iTpl fe) := by
  refine pi_imp (pi_tup he) fun σ H R ⟨w, τ, e, g, n, q⟩ => ?_
  subst e
  refine ⟨w, τ, rfl, g, n, Res.all_mono (fun t M' q w1 v x1 g1 e1 r1 _ => ?_) (Res.all_bind q)⟩
  subst e1
  split at q
  · cases r1 with
    | tup n d l => exact ⟨_, rfl, ⟨_, .inl (.inl d)⟩, q w1 _ x1 g1 rfl (yld_tup n (.inl d) l)⟩
  · exact q.elim
/-- lo, lo + 1, .. -/
def rgT (lo : Int) (n : Nat) : List T := (List.range n).map fun i => T.int (lo + (i : Nat))
theorem rgT_length (lo : Int) (n : Nat) : (rgT lo n).length = n := by unfold rgT; rw [List.length_map, List.length_range]
theorem yld_rng {mg : Str → Option Value} {w : Wd} (lo : Int) (n : Nat) : Yld mg (Itr lo n) w (rgT lo n) where
  go := fun i w1 x1 g1 hi => by rw [rgT_length] at hi; exact hi
  yl := fun i w1 x H' x1 g1 hy t ht => by
    obtain ⟨rfl, rfl⟩ := hy
    unfold rgT at ht
    rw [List.getElem?_map] at ht
    by_cases hi : i < n
    · rw [List.getElem?_range hi] at ht
      cases ht
      exact ⟨w1, rfl, .refl w1, g1, rfl, .int _⟩
    · rw [List.getElem?_eq_none (by simpa using hi)] at ht; cases ht
  stop := fun i w1 x1 g1 hi => by rw [rgT_length] at hi; exact hi
def iRg1 (f : Ev T) : Ev (List T) := fun τ M => (f τ M).bind fun t M' => match t with
  | .int j => if j < 4611686018427387904 ∧ -4611686018427387904 ≤ j then .ok (rgT 0 j.toNat) M' else .stuck
  | _ => .stuck
def iRg2 (f g : Ev T) : Ev (List T) := fun τ M => (f τ M).bind fun t M1 => (g τ M1).bind fun u M2 => match t, u with
  | .int i, .int j => if j < 4611686018427387904 ∧ -4611686018427387904 ≤ j ∧ i < 4611686018427387904 ∧ -4611686018427387904 ≤ i then .ok (rgT i (j - i).toNat) M2 else .stuck
  | _, _ => .stuck
theorem si_range1 {tg : Expr} {p : Pos} (B : Blt X.mg) (ha : SE false X a fe) (hg : Gl X "range" := by rfl) (hs : starEach [a] X.env = [(false, eval a X.env)] := by rfl) : SI X tg (.Call (.Name "range" p) [a] [] pos) (iRg1 fe) := by
  refine pi_imp (pi_range1 hg B.range (pa_cons ha pa_nil hs) hs) fun σ H R ⟨w, τ, e, g, n, q⟩ => ?_
  subst e
  refine ⟨w, τ, rfl, g, n, Res.all_mono (fun t M' q w1 v x1 g1 e1 r1 _ => ?_) (Res.all_bind q)⟩
  subst e1
  split at q
  · split at q
    · rename_i hj
      cases r1
      exact ⟨_, rfl, by omega, by omega, q w1 _ x1 g1 rfl (yld_rng _ _)⟩
    · exact q.elim
  · exact q.elim
theorem si_range2 {tg : Expr} {fb : Ev T} {p : Pos} (B : Blt X.mg) (ha : SE false X a fe) (hb : SE false X b fb) (hg : Gl X "range" := by rfl) (hs : starEach [a, b] X.env = [(false, eval a X.env), (false, eval b X.env)] := by rfl) (hs2 : starEach [b] X.env = [(false, eval b X.env)] := by rfl) :
    SI X tg (.Call (.Name "range" p) [a, b] [] pos) (iRg2 fe fb) := by
  refine pi_imp (pi_range2 hg B.range (pa_cons ha (pa_cons hb pa_nil hs2) (by rw [hs, hs2])) hs hs2) fun σ H R ⟨w, τ, e, g, n, q⟩ => ?_
  subst e
  refine ⟨w, τ, rfl, g, n, Res.all_mono (fun t M' q w1 v x1 g1 e1 r1 _ => ?_) (Res.all_bind q)⟩
  subst e1
  refine ⟨w1, τ, rfl, g1, n.mono x1, Res.all_mono (fun u M2 q w2 z x2 g2 e2 r2 _ => ?_) (Res.all_bind q)⟩
  subst e2
  split at q
  · split at q
    · rename_i hj
      cases r1.mono x2
      cases r2
      exact ⟨_, _, rfl, ⟨by omega, by omega, by omega, by omega⟩, q w2 _ (x1.trans x2) g2 rfl (yld_rng _ _)⟩
    · exact q.elim
  · exact q.elim
/-- a pair is laid at each turn -/
theorem yld_pair {mg : Str → Option Value} {w w1 : Wd} {T0 : Addr} {a b : V} {s t : T} (g : Good mg w) (hp : w.H T0 = none) (ra : Rep w a s) (rb : Rep w b t) :
    ∃ w', w'.H = upd w.H T0 (.tup [a, b]) ∧ Ext w w' ∧ Good mg w' ∧ w'.M = w.M ∧ Rep w' (.ref T0) (.tup [s, t]) :=
  ⟨w.put T0 (.tup [a, b]), rfl, Ext.put g hp, g.put hp, rfl, put_tup g hp (.cons ra (.cons rb .nil))⟩
def enT (ts : List T) : List T := (List.zip (rgT 0 ts.length) ts).map fun p => T.tup [p.1, p.2]
def zpT (ts us : List T) : List T := (List.zip ts us).map fun p => T.tup [p.1, p.2]
def enFrom : Nat → List T → List T
  | _, [] => []
  | i, t :: ts => .tup [.int (i : Nat), t] :: enFrom (i + 1) ts
theorem enFrom_length : ∀ (i : Nat) (ts : List T), (enFrom i ts).length = ts.length
  | _, [] => rfl
  | i, t :: ts => by show (enFrom (i + 1) ts).length + 1 = ts.length + 1; rw [enFrom_length]
theorem enFrom_get : ∀ (i : Nat) (ts : List T) (j : Nat), (enFrom i ts)[j]? = (ts[j]?).map fun t => T.tup [.int ((i + j : Nat) : Int), t]
  | _, [], _ => rfl
  | i, t :: ts, 0 => rfl
  | i, t :: ts, j + 1 => by
    show (enFrom (i + 1) ts)[j]? = _
    rw [enFrom_get (i + 1) ts j, show i + 1 + j = i + (j + 1) by omega]
    rfl
theorem yld_enum {K : PySem.W.Frag} {mg : Str → Option Value} {w : Wd} {a : Addr} {xs : List V} {ts : List T} (n : ¬ Ex w a) (d : Rd w.H a (.lst xs)) (l : RepL w xs ts) : Yld mg (Ite K a) w (enFrom 0 ts) where
  go := fun i w1 x1 g1 hi => by
    rw [enFrom_length] at hi
    obtain ⟨v, hv, _⟩ := l.get (List.getElem?_eq_getElem hi)
    exact ⟨xs, v, .inl (x1.rd (u := .lst _) True.intro d n).1, hv⟩
  yl := fun i w1 x H' x1 g1 hy t ht => by
    obtain ⟨T0, y, rfl, hp, rfl, h⟩ := hy
    rw [enFrom_get] at ht
    cases ht0 : ts[i]? with
    | none => rw [ht0] at ht; cases ht
    | some u =>
      rw [ht0] at ht
      cases ht
      obtain ⟨v, hv, r⟩ := l.get ht0
      have e := (sqL_fun (x1.rd (u := .lst _) True.intro d n).1 h).symm.trans hv
      cases e
      rw [Nat.zero_add]
      exact yld_pair (w1 := w1) g1 hp (.int _) (r.kept x1.toKeep)
  stop := fun i w1 x1 g1 hi => by
    rw [enFrom_length] at hi
    exact ⟨xs, .inl (x1.rd (u := .lst _) True.intro d n).1, by rw [l.length]; exact hi⟩
def iEn (f : Ev T) : Ev (List T) := fun τ M => (f τ M).bind fun t M' => match t with
  | .lst ts => .ok (enFrom 0 ts) M'
  | _ => .stuck
theorem si_enum {elts : List Expr} {kk : Nat} {tpos p : Pos} (B : Blt X.mg) (ha : SE false X a fe) (hg : Gl X "enumerate" := by rfl) (hs : starEach [a] X.env = [(false, eval a X.env)] := by rfl) : SI X (.Tuple elts kk tpos) (.Call (.Name "enumerate" p) [a] [] pos) (iEn fe) := by
  refine pi_imp (pi_enum hg B.enumerate (pa_cons ha pa_nil hs) hs) fun σ H R ⟨w, τ, e, g, n, q⟩ => ?_
  subst e
  refine ⟨w, τ, rfl, g, n, Res.all_mono (fun t M' q w1 v x1 g1 e1 r1 _ => ?_) (Res.all_bind q)⟩
  subst e1
  split at q
  · cases r1 with
    | lst n d l => exact ⟨_, _, rfl, .inl d, q w1 _ x1 g1 rfl (yld_enum n d l)⟩
  · exact q.elim
def zpL : List T → List T → List T
  | t :: ts, u :: us => .tup [t, u] :: zpL ts us
  | _, _ => []
theorem zpL_get : ∀ (ts us : List T) (j : Nat), (zpL ts us)[j]? = (match ts[j]?, us[j]? with | some t, some u => some (T.tup [t, u]) | _, _ => none)
  | [], us, j => by simp [zpL]
  | t :: ts, [], j => by simp [zpL]
  | t :: ts, u :: us, 0 => rfl
  | t :: ts, u :: us, j + 1 => by show (zpL ts us)[j]? = _; rw [zpL_get ts us j]; rfl
theorem zpL_length : ∀ (ts us : List T), (zpL ts us).length = min ts.length us.length
  | [], us => by simp [zpL]
  | t :: ts, [] => by simp [zpL]
  | t :: ts, u :: us => by show (zpL ts us).length + 1 = min (ts.length + 1) (us.length + 1); rw [zpL_length]; omega
theorem yld_zip {K : PySem.W.Frag} {mg : Str → Option Value} {w : Wd} {a b : Addr} {xs ys : List V} {ts us : List T} (n : ¬ Ex w a) (d : Rd w.H a (.lst xs)) (l : RepL w xs ts) (n' : ¬ Ex w b) (d' : Rd w.H b (.lst ys)) (l' : RepL w ys us) : Yld mg (Itz K a b) w (zpL ts us) where
  go := fun i w1 x1 g1 hi => by
    rw [zpL_length] at hi
    obtain ⟨v, hv, _⟩ := l.get (List.getElem?_eq_getElem (show i < ts.length by omega))
    obtain ⟨v', hv', _⟩ := l'.get (List.getElem?_eq_getElem (show i < us.length by omega))
    exact ⟨xs, ys, v, v', .inl (x1.rd (u := .lst _) True.intro d n).1, .inl (x1.rd (u := .lst _) True.intro d' n').1, hv, hv'⟩
  yl := fun i w1 x H' x1 g1 hy t ht => by
    obtain ⟨T0, y, z, rfl, hp, rfl, h, h'⟩ := hy
    rw [zpL_get] at ht
    cases ht0 : ts[i]? with
    | none => rw [ht0] at ht; cases ht
    | some s =>
      cases ht1 : us[i]? with
      | none => rw [ht0, ht1] at ht; cases ht
      | some u =>
        rw [ht0, ht1] at ht
        cases ht
        obtain ⟨v, hv, r⟩ := l.get ht0
        obtain ⟨v', hv', r'⟩ := l'.get ht1
        have e := (sqL_fun (x1.rd (u := .lst _) True.intro d n).1 h).symm.trans hv
        have e' := (sqL_fun (x1.rd (u := .lst _) True.intro d' n').1 h').symm.trans hv'
        cases e
        cases e'
        exact yld_pair (w1 := w1) g1 hp (r.kept x1.toKeep) (r'.kept x1.toKeep)
  stop := fun i w1 x1 g1 hi => by
    rw [zpL_length] at hi
    refine ⟨xs, ys, .inl (x1.rd (u := .lst _) True.intro d n).1, .inl (x1.rd (u := .lst _) True.intro d' n').1, ?_⟩
    rw [l.length, l'.length]
    omega
theorem yld_zipT {K : PySem.W.Frag} {mg : Str → Option Value} {w : Wd} {a b : Addr} {xs ys : List V} {ts us : List T} (n : ¬ Ex w a) (d : Rd w.H a (.tup xs)) (l : RepL w xs ts) (n' : ¬ Ex w b) (d' : Rd w.H b (.tup ys)) (l' : RepL w ys us) : Yld mg (RZ.ItzT K a b) w (zpL ts us) where
  go := fun i w1 x1 g1 hi => by
    rw [zpL_length] at hi
    obtain ⟨v, hv, _⟩ := l.get (List.getElem?_eq_getElem (show i < ts.length by omega))
    obtain ⟨v', hv', _⟩ := l'.get (List.getElem?_eq_getElem (show i < us.length by omega))
    exact ⟨xs, ys, v, v', .inl (x1.rd (u := .tup _) True.intro d n).1, .inl (x1.rd (u := .tup _) True.intro d' n').1, hv, hv'⟩
  yl := fun i w1 x H' x1 g1 hy t ht => by
    obtain ⟨T0, y, z, rfl, hp, rfl, h, h'⟩ := hy
    rw [zpL_get] at ht
    cases ht0 : ts[i]? with
    | none => rw [ht0] at ht; cases ht
    | some s =>
      cases ht1 : us[i]? with
      | none => rw [ht0, ht1] at ht; cases ht
      | some u =>
        rw [ht0, ht1] at ht
        cases ht
        obtain ⟨v, hv, r⟩ := l.get ht0
        obtain ⟨v', hv', r'⟩ := l'.get ht1
        have e := (h xs (.inl (x1.rd (u := .tup _) True.intro d n).1)).symm.trans hv
        have e' := (h' ys (.inl (x1.rd (u := .tup _) True.intro d' n').1)).symm.trans hv'
        cases e
        cases e'
        exact yld_pair (w1 := w1) g1 hp (r.kept x1.toKeep) (r'.kept x1.toKeep)
  stop := fun i w1 x1 g1 hi => by
    rw [zpL_length] at hi
    refine ⟨xs, ys, .inl (x1.rd (u := .tup _) True.intro d n).1, .inl (x1.rd (u := .tup _) True.intro d' n').1, ?_⟩
    rw [l.length, l'.length]
    omega
def iZp (f g : Ev T) : Ev (List T) := fun τ M => (f τ M).bind fun t M1 => (g τ M1).bind fun u M2 => match t, u with
  | .lst ts, .lst us => .ok (zpL ts us) M2
  | .tup ts, .tup us => .ok (zpL ts us) M2
  | _, _ => .stuck
theorem si_zip {elts : List Expr} {kk : Nat} {tpos p : Pos} {fb : Ev T} (B : Blt X.mg) (ha : SE false X a fe) (hb : SE false X b fb) (hg : Gl X "zip" := by rfl) (hs : starEach [a, b] X.env = (false, eval a X.env) :: starEach [b] X.env := by rfl) (hs2 : starEach [b] X.env = [(false, eval b X.env)] := by rfl)
    (hpl : (backTo pos (starEach [b] X.env)).any (·.1) = false := by rfl) : SI X (.Tuple elts kk tpos) (.Call (.Name "zip" p) [a, b] [] pos) (iZp fe fb) := by
  refine pi_imp (RZ.pi_zipA hg B.zip (pa_cons ha (pa_cons hb pa_nil hs2) hs) hs hpl) fun σ H R ⟨w, τ, e, g, n, q⟩ => ?_
  subst e
  refine ⟨w, τ, rfl, g, n, Res.all_mono (fun t M' q w1 v x1 g1 e1 r1 _ => ?_) (Res.all_bind q)⟩
  subst e1
  refine ⟨w1, τ, rfl, g1, n.mono x1, Res.all_mono (fun u M2 q w2 z x2 g2 e2 r2 _ => ?_) (Res.all_bind q)⟩
  subst e2
  split at q
  · cases r1.mono x2 with
    | lst n d l =>
      cases r2 with
      | lst n' d' l' => exact ⟨_, _, _, _, rfl, .inl ⟨.inl d, .inl d', q w2 _ (x1.trans x2) g2 rfl (yld_zip n d l n' d' l')⟩⟩
  · cases r1.mono x2 with
    | tup n d l =>
      cases r2 with
      | tup n' d' l' => exact ⟨_, _, _, _, rfl, .inr ⟨.inl (.inl d), .inl (.inl d'), q w2 _ (x1.trans x2) g2 rfl (yld_zipT n (.inl d) l n' (.inl d') l')⟩⟩
  · exact q.elim

/-! ### for -/
def forL (g : Tg) (f : Ev Fl) : List T → Ev Fl
  | [], τ, M => .ok (.nx τ) M
  | t :: ts, τ, M => (g t τ M).bind fun τ1 M1 => (f τ1 M1).bind fun fl M2 => match fl with
    | .nx τ' => forL g f ts τ' M2
    | .ct τ' => forL g f ts τ' M2
    | .bk τ' => .ok (.nx τ') M2
    | .rt t => .ok (.rt t) M2
def sFor (fi : Ev (List T)) (g : Tg) (f : Ev Fl) : Ev Fl := fun τ M => (fi τ M).bind fun ts M' => forL g f ts τ M'
theorem for_imp {mg : Str → Option Value} {sl : List Nat} {gt : Tg} {D : Ends} {w : Wd} {σ : L2.St} {τ : Tau} {J : It} {ts : List T} (g : Good mg w) (n : Nm w σ τ) (y : Yld mg J w ts) (q : postS mg F D w (forL gt f ts τ w.M)) :
    ∃ W : Nat → Nat → L2.St → Hp → Prop, (∃ m, W 0 m σ w.H) ∧ ∀ i m σ H, W i m σ H → (J.stop i H ∧ D.nx σ H) ∨ (J.go i H ∧ ∃ N : L2.St → Hp → Prop, (∀ σ' H', N σ' H' → ∃ m', m' < m ∧ W (i + 1) m' σ' H') ∧
      ∀ x H', J.yld i H x H' → tG mg sl gt x σ H' fun σ2 H2 => tS mg F f { D with nx := N, ct := N, bk := D.nx } σ2 H2) := by
  refine ⟨fun i m σ H => m = ts.length - i ∧ i ≤ ts.length ∧ ∃ w' τ', w'.H = H ∧ Good mg w' ∧ Ext w w' ∧ Nm w' σ τ' ∧ postS mg F D w' (forL gt f (ts.drop i) τ' w'.M),
    ⟨ts.length, by simp, Nat.zero_le _, w, τ, rfl, g, .refl w, n, by rw [List.drop_zero]; exact q⟩, ?_⟩
  rintro i m σ1 H ⟨rfl, hi, w', τ', rfl, g', x, n', q'⟩
  by_cases hl : i < ts.length
  · refine .inr ⟨y.go i w' x.toKF g' hl, fun σ2 H2 => i + 1 ≤ ts.length ∧ ∃ w' τ', w'.H = H2 ∧ Good mg w' ∧ Ext w w' ∧ Nm w' σ2 τ' ∧ postS mg F D w' (forL gt f (ts.drop (i + 1)) τ' w'.M), fun σ2 H2 ⟨h, r⟩ => ⟨ts.length - (i + 1), by omega, rfl, h, r⟩, fun v H' hy => ?_⟩
    rw [List.drop_eq_getElem_cons hl] at q'
    obtain ⟨w1, rfl, x1, g1, m1, r1⟩ := y.yl i w' v H' x.toKF g' hy _ (List.getElem?_eq_getElem hl)
    rw [← m1] at q'
    refine ⟨w1, τ', _, rfl, g1, n'.mono x1, r1, Res.all_mono (fun τ1 M1 q w2 σ2 x2 g2 e2 n2 _ => ?_) (Res.all_bind q')⟩
    subst e2
    refine ⟨w2, τ1, rfl, g2, n2, Res.all_mono (fun fl M2 q w3 x3 g3 e3 => ?_) (Res.all_bind q)⟩
    subst e3
    have xx := (x1.trans x2).trans x3
    cases fl with
    | nx τ2 => exact fun σ3 n3 => ⟨hl, w3, τ2, rfl, g3, x.trans xx, n3, postS_ext q xx⟩
    | ct τ2 => exact fun σ3 n3 => ⟨hl, w3, τ2, rfl, g3, x.trans xx, n3, postS_ext q xx⟩
    | bk τ2 => exact fun σ3 n3 => q w3 xx g3 rfl σ3 n3
    | rt t => exact (q w3 xx g3 rfl).ext (x1.trans x2)
  · have e : ts.drop i = [] := List.drop_of_length_le (by omega)
    rw [e] at q'
    exact .inl ⟨y.stop i w' x.toKF g' (by omega), q' w' (.refl w') g' rfl σ1 n'⟩
theorem ss_for {sl : List Nat} {tg : Expr} {gt : Tg} {fi : Ev (List T)} (hi : SI X tg e fi) (hg : SG sl X tg gt) (hb : SB F X sts f) (hp : PassesOwn (model X.prog X.w) X.A X.env X.xe := by exact PassesOwn.never) (hc : X.calm = true := by rfl)
    (hs : ∀ x, foldedSetIterable e X.env x = pure x := by intro _; rfl) : SS F X (.For tg e sts [] pos) (sFor fi gt f) := by
  refine ps_imp (ps_for hp hc hi hg hb hs) fun D σ H ⟨w, τ, e, g, n, q⟩ => ?_
  subst e
  refine ⟨w, τ, rfl, g, n, Res.all_mono (fun ts M' q w1 J x1 g1 e1 y => ?_) (Res.all_bind q)⟩
  subst e1
  exact for_imp g1 (n.mono x1) y (postS_ext q x1)

/-! ### while -/
def sWhile (c : Ev Bool) (f : Ev Fl) : Nat → Ev Fl
  | 0, _, _ => .stuck
  | k + 1, τ, M => (c τ M).bind fun b M1 => if b then (f τ M1).bind fun fl M2 => match fl with
      | .nx τ' => sWhile c f k τ' M2
      | .ct τ' => sWhile c f k τ' M2
      | .bk τ' => .ok (.nx τ') M2
      | .rt t => .ok (.rt t) M2
    else .ok (.nx τ) M1
theorem ss_while (k : Nat) {fc : Ev Bool} (hc : ST X c fc) (hb : SB F X sts f) (hp : PassesOwn (model X.prog X.w) X.A X.env X.xe := by exact PassesOwn.never) : SS F X (.While c sts [] pos) (sWhile fc f k) := by
  refine ps_imp (ps_while hp hc hb) fun D σ H ⟨w, τ, e, g, n, q⟩ => ?_
  subst e
  refine ⟨fun m σ H => ∃ w' τ', w'.H = H ∧ Good X.mg w' ∧ Ext w w' ∧ Nm w' σ τ' ∧ postS X.mg F D w' (sWhile fc f m τ' w'.M), ⟨k, w, τ, rfl, g, .refl w, n, q⟩, ?_⟩
  rintro m σ1 H ⟨w', τ', rfl, g', x, n', q'⟩
  cases m with
  | zero => exact q'.elim
  | succ m =>
    refine ⟨w', τ', rfl, g', n', Res.all_mono (fun b M1 q w1 x1 g1 e1 => ?_) (Res.all_bind q')⟩
    subst e1
    cases b with
    | false => exact q w1 x1 g1 rfl σ1 (n'.mono x1)
    | true =>
      refine ⟨fun σ2 H2 => ∃ w' τ', w'.H = H2 ∧ Good X.mg w' ∧ Ext w w' ∧ Nm w' σ2 τ' ∧ postS X.mg F D w' (sWhile fc f m τ' w'.M), fun σ2 H2 r => ⟨m, Nat.lt_succ_self m, r⟩, ?_⟩
      refine ⟨w1, τ', rfl, g1, n'.mono x1, Res.all_mono (fun fl M2 q w3 x3 g3 e3 => ?_) (Res.all_bind q)⟩
      subst e3
      have xx := x1.trans x3
      cases fl with
      | nx τ2 => exact fun σ3 n3 => ⟨w3, τ2, rfl, g3, x.trans xx, n3, postS_ext q xx⟩
      | ct τ2 => exact fun σ3 n3 => ⟨w3, τ2, rfl, g3, x.trans xx, n3, postS_ext q xx⟩
      | bk τ2 => exact fun σ3 n3 => q w3 xx g3 rfl σ3 n3
      | rt t => exact (q w3 xx g3 rfl).ext x1
end
end TL
end
section
set_option Elab.async false
set_option linter.all false
set_option maxRecDepth 100000
/-! TL9: comprehensions. -/
namespace TL
open PySem PySem.Spec PyProof.Rows L2

theorem wipe_get {σ : L2.St} {j : Nat} : ∀ {vs : List Nat}, (L2.wipe σ vs)[j]? = if j ∈ vs then (if j < σ.length then some none else none) else σ[j]?
  | [] => by simp [L2.wipe]
  | v :: vs => by
    show ((L2.wipe σ vs).set v none)[j]? = _
    by_cases e : v = j
    · subst e
      rw [if_pos List.mem_cons_self]
      by_cases h : v < σ.length
      · rw [if_pos h, List.getElem?_set_self (by rw [L2.wipe_length]; exact h)]
      · rw [if_neg h, List.getElem?_eq_none (by rw [List.length_set, L2.wipe_length]; omega)]
    · rw [List.getElem?_set_ne e, wipe_get]
      by_cases h : j ∈ vs
      · rw [if_pos h, if_pos (List.mem_cons_of_mem _ h)]
      · rw [if_neg h, if_neg (fun z => (List.mem_cons.mp z).elim (fun q => e q.symm) h)]
theorem wipe_eq {σ σ2 : L2.St} {vs sl : List Nat} (hs : ∀ j ∈ sl, j ∈ vs) (k : σ2.length = (L2.wipe σ vs).length ∧ ∀ j, j ∉ sl → σ2[j]? = (L2.wipe σ vs)[j]?) : L2.wipe σ2 vs = L2.wipe σ vs := by
  obtain ⟨hl, k⟩ := k
  rw [L2.wipe_length] at hl
  apply List.ext_getElem?
  intro j
  rw [wipe_get, wipe_get, hl]
  by_cases h : j ∈ vs
  · rw [if_pos h, if_pos h]
  · rw [if_neg h, if_neg h, k j fun z => h (hs j z), wipe_get, if_neg h]

def STs (X : Cx) (ifs : List Expr) (f : Ev Bool) : Prop := PTs X ifs (tT X.mg f)
def cYes : Ev Bool := fun _ M => .ok true M
theorem pts_imp {X : Cx} {ifs : List Expr} {t t' : TT} (h : PTs X ifs t') (i : ∀ σ H Q, t σ H Q → t' σ H Q) : PTs X ifs t := ⟨fun p s σ H Q I q => h.run p s σ H Q I (i _ _ _ q)⟩
theorem sts_nil {X : Cx} : STs X [] cYes := pts_imp pts_nil fun σ H Q ⟨w, τ, e, g, n, q⟩ => by subst e; exact q w (.refl w) g rfl
theorem sts_one {X : Cx} {c : Expr} {f : Ev Bool} (h : ST X c f) : STs X [c] f := pts_one h

def compL (g : Tg) (c : Ev Bool) (f : Ev T) (τ : Tau) : List T → Sto → Res (List T)
  | [], M => .ok [] M
  | t :: ts, M => (g t τ M).bind fun τ1 M1 => (c τ1 M1).bind fun b M2 => if b then (f τ1 M2).bind fun y M3 => (compL g c f τ ts M3).bind fun ys M4 => .ok (y :: ys) M4 else compL g c f τ ts M2
def eComp (fi : Ev (List T)) (g : Tg) (c : Ev Bool) (f : Ev T) (vs : List Nat) : Ev T := fun τ M => (fi τ M).bind fun ts M1 => if ts.length ≤ 16777216 then (compL g c f (wipeT τ vs) ts M1).bind fun ys M2 => .ok (.lst ys) M2 else .stuck
section
variable {mg : Str → Option Value} {fi : Ev (List T)} {gt : Tg} {fc : Ev Bool} {fe : Ev T} {vs sl : List Nat}
theorem lc_turns {Q : VK} {w1 : Wd} {σ : L2.St} {τ : Tau} {J : It} {ts : List T} {D : Addr} (hs : ∀ j ∈ sl, j ∈ vs) (g1 : Good mg w1) (n : Nm w1 σ τ) (y : Yld mg J w1 ts) (hl : ts.length ≤ 16777216) (hD : w1.H D = none)
    (q : (compL gt fc fe (wipeT τ vs) ts w1.M).all fun ys M' => ∀ w2 v, Ext w1 w2 → Good mg w2 → w2.M = M' → Rep w2 v (.lst ys) → Fr mg w1 w2 v (.lst ys) → Q v w2.H) :
    ∃ W : Nat → Nat → Hp → Prop, (∃ m, W 0 m (upd w1.H D (.lst []))) ∧ ∀ i m H, W i m H →
      (J.stop i H ∧ Q (.ref D) H) ∨ (J.go i H ∧ ∃ Nx : Hp → Prop, (∀ H', Nx H' → ∃ m', m' < m ∧ W (i + 1) m' H') ∧ ∀ x H', J.yld i H x H' → tG mg sl gt x (L2.wipe σ vs) H' fun σ2 H2 => L2.wipe σ2 vs = L2.wipe σ vs ∧ tT mg fc σ2 H2 fun b H3 =>
        if b = true then tE mg false fe σ2 H3 fun y H4 => ∃ acc, H4 D = some (.lst acc) ∧ acc.length < sizeLine ∧ Nx (upd H4 D (.lst (acc ++ [y]))) else Nx H3) := by
  refine ⟨fun i m H => m = ts.length - i ∧ i ≤ ts.length ∧ ∃ wi accV accT, wi.H = H ∧ Good mg wi ∧ Ext w1 wi ∧ wi.R D ∧ wi.H D = some (.lst accV) ∧ RepL wi accV accT ∧ accV.length ≤ i ∧
      ((compL gt fc fe (wipeT τ vs) (ts.drop i) wi.M).all fun ys M' => ∀ w2 v, Ext w1 w2 → Good mg w2 → w2.M = M' → Rep w2 v (.lst (accT ++ ys)) → Fr mg w1 w2 v (.lst (accT ++ ys)) → Q v w2.H),
    ⟨ts.length, by simp, Nat.zero_le _, w1.hold D (.lst []), [], [], rfl, g1.hold hD, Ext.hold g1 hD, .inr rfl, upd_same, .nil, Nat.le_refl _, by rw [List.drop_zero]; exact q⟩, ?_⟩
  rintro i m H ⟨rfl, hi, wi, accV, accT, rfl, gi, xi, RD, eD, rl, hacc, q'⟩
  by_cases hlt : i < ts.length
  · refine .inr ⟨y.go i wi xi.toKF gi hlt, fun H' => i + 1 ≤ ts.length ∧ ∃ wi accV accT, wi.H = H' ∧ Good mg wi ∧ Ext w1 wi ∧ wi.R D ∧ wi.H D = some (.lst accV) ∧ RepL wi accV accT ∧ accV.length ≤ i + 1 ∧
      ((compL gt fc fe (wipeT τ vs) (ts.drop (i + 1)) wi.M).all fun ys M' => ∀ w2 v, Ext w1 w2 → Good mg w2 → w2.M = M' → Rep w2 v (.lst (accT ++ ys)) → Fr mg w1 w2 v (.lst (accT ++ ys)) → Q v w2.H), fun H' ⟨h, r⟩ => ⟨ts.length - (i + 1), by omega, rfl, h, r⟩, fun x H' hy => ?_⟩
    rw [List.drop_eq_getElem_cons hlt] at q'
    obtain ⟨w2, rfl, x2, g2, m2, r2⟩ := y.yl i wi x H' xi.toKF gi hy _ (List.getElem?_eq_getElem hlt)
    rw [← m2] at q'
    refine ⟨w2, wipeT τ vs, _, rfl, g2, (n.wipe vs).mono (xi.trans x2), r2, Res.all_mono (fun τ1 M1 q w3 σ2 x3 g3 e3 n3 k3 => ?_) (Res.all_bind q')⟩
    subst e3
    refine ⟨wipe_eq hs k3, w3, τ1, rfl, g3, n3, Res.all_mono (fun b M2 q w4 x4 g4 e4 => ?_) (Res.all_bind q)⟩
    subst e4
    cases b with
    | false =>
      have xx := (x2.trans x3).trans x4
      exact ⟨hlt, w4, accV, accT, rfl, g4, xi.trans xx, xx.R D RD, (xx.Rk D RD).trans eD, rl.mono xx, by omega, q⟩
    | true =>
      refine ⟨w4, τ1, rfl, g4, n3.mono x4, Res.all_mono (fun t M3 q w5 v x5 g5 e5 r5 _ => ?_) (Res.all_bind q)⟩
      subst e5
      have xx := ((x2.trans x3).trans x4).trans x5
      have RD5 := xx.R D RD
      refine ⟨accV, (xx.Rk D RD).trans eD, by rw [line_eq]; omega, hlt, w5.wrR D (.lst (accV ++ [v])), accV ++ [v], accT ++ [t], rfl, g5.wrR RD5, Ext.wrR (xi.trans xx) g5 g1 hD RD5, RD5, upd_same, ?_, ?_, ?_⟩
      · exact ((rl.mono xx).append (.cons r5 .nil)).kept (Keep.wrR RD5)
      · rw [List.length_append]; show accV.length + 1 ≤ _; omega
      · refine Res.all_mono (fun ys M' h w6 v6 => ?_) (Res.all_bind q)
        rw [List.append_assoc]
        exact h w6 v6
  · have e : ts.drop i = [] := List.drop_of_length_le (by omega)
    rw [e] at q'
    refine .inl ⟨y.stop i wi xi.toKF gi (by omega), ?_⟩
    have q' := q' ((wi.cut D w1.R).put D (.lst accV)) (.ref D)
    rw [List.append_nil] at q'
    have hn : (wi.cut D w1.R).H D = none := if_pos rfl
    have gc := gi.cut xi g1 hD RD
    have rc : RepL (wi.cut D w1.R) accV accT := rl.kept (Keep.cut RD xi.R)
    have q' := q' ((Ext.cut xi g1 hD RD).trans (Ext.put gc hn)) (gc.put hn) rfl (put_lst gc hn rc) ⟨wi.cut D w1.R, D, rfl, Ext.cut xi g1 hD RD, gc, hn, .inl ⟨accV, accT, rfl, rc, rfl⟩⟩
    rw [cut_put eD] at q'
    exact q'
theorem lc_imp {Q : VK} {σ : L2.St} {H : Hp} (hs : ∀ j ∈ sl, j ∈ vs) (h : tE mg true (eComp fi gt fc fe vs) σ H Q) : tLc (tI mg fi) (tG mg sl gt) (tT mg fc) (tE mg false fe) vs σ H Q := by
  obtain ⟨w, τ, rfl, g, n, q⟩ := h
  refine ⟨w, τ, rfl, g, n, Res.all_mono (fun ts M' q w1 J x1 g1 e1 y D hD => ?_) (Res.all_bind q)⟩
  subst e1
  split at q
  · rename_i hl
    refine lc_turns hs g1 (n.mono x1) y hl hD (Res.all_mono (fun ys M2 q w2 v x2 g2 e2 r2 f2 => ?_) (Res.all_bind q))
    exact q w2 v (x1.trans x2) g2 e2 r2 fun _ => f2.ext x1
  · exact q.elim
end
section
variable {X : Cx} {elt tg iter : Expr} {ifs : List Expr} {scope : Scope} {pos : Pos} {fi : Ev (List T)} {gt : Tg} {fc : Ev Bool} {fe : Ev T} {sl : List Nat} {F : Bool}
theorem se_comp (own : List (Str × Nat)) (hN : X.N.Nodup) (hi : SI X tg iter fi) (hg : ∀ (s : Shared) (H : Hp) (C : Addr) (cl : List (Str × Addr)) (fp : List Addr), SG sl (X.blk s H scope (compEnvC scope cl C X.env) fp) tg gt)
    (ht : ∀ (s : Shared) (H : Hp) (C : Addr) (cl : List (Str × Addr)) (fp : List Addr), STs (X.blk s H scope (compEnvC scope cl C X.env) fp) ifs fc) (he : ∀ (s : Shared) (H : Hp) (C : Addr) (cl : List (Str × Addr)) (fp : List Addr), SE false (X.blk s H scope (compEnvC scope cl C X.env) fp) elt fe)
    (ok : blkC X.N X.env.scope scope own = true := by decide +kernel) (hsl : ∀ j ∈ sl, j ∈ own.map (·.2) := by decide) (hc : X.calm = true := by rfl) (hs : ∀ x, foldedSetIterable iter X.env x = pure x := by intro _; rfl) :
    SE true X (.ListComp elt [⟨tg, iter, ifs, 0⟩] scope pos) (eComp fi gt fc fe (own.map (·.2))) :=
  pe_imp (pe_lc (g := tG X.mg sl gt) (tt := tT X.mg fc) (te := tE X.mg false fe) hc hN hi (blkOk_by ok) hg ht he hs) fun σ H Q h => lc_imp hsl h
/-- y = [..] on one line -/
theorem ss_setLc {i : Nat} {y : Str} {py spos : Pos} (own : List (Str × Nat)) (hN : X.N.Nodup) (hi : SI X tg iter fi) (hg : ∀ (s : Shared) (H : Hp) (C : Addr) (cl : List (Str × Addr)) (fp : List Addr), SG sl (X.blk s H scope (compEnvC scope cl C X.env) fp) tg gt)
    (ht : ∀ (s : Shared) (H : Hp) (C : Addr) (cl : List (Str × Addr)) (fp : List Addr), STs (X.blk s H scope (compEnvC scope cl C X.env) fp) ifs fc) (he : ∀ (s : Shared) (H : Hp) (C : Addr) (cl : List (Str × Addr)) (fp : List Addr), SE false (X.blk s H scope (compEnvC scope cl C X.env) fp) elt fe)
    (hsw : swapsWith (.ListComp elt [⟨tg, iter, ifs, 0⟩] scope pos) (some (.Name y py)) spos.line X.env = pure true := by exact sw_true rfl rfl rfl (by decide +kernel))
    (ok : blkC X.N X.env.scope scope own = true := by decide +kernel) (hsl : ∀ j ∈ sl, j ∈ own.map (·.2) := by decide) (hy : X.N[i]? = some y := by rfl) (hyl : X.env.scope.names.lookup y = some .local := by rfl) (hc : X.calm = true := by rfl) (hs : ∀ x, foldedSetIterable iter X.env x = pure x := by intro _; rfl) :
    SS F X (.Assign [.Name y py] (.ListComp elt [⟨tg, iter, ifs, 0⟩] scope pos) spos) (sAsg (eComp fi gt fc fe (own.map (·.2))) (gN i)) := by
  refine ps_imp (ps_setLc (g := tG X.mg sl gt) (tt := tT X.mg fc) (te := tE X.mg false fe) hc hN hy hyl hsw hi (blkOk_by ok) hg ht he hs) fun D σ H ⟨w, τ, e, g, n, q⟩ => ?_
  subst e
  refine lc_imp hsl ⟨w, τ, rfl, g, n, Res.all_mono (fun t M' q w1 v x1 g1 e1 r1 _ => ?_) (Res.all_bind q)⟩
  subst e1
  refine gName_imp ⟨w1, τ, t, rfl, g1, n.mono x1, r1, Res.all_mono (fun τ' M2 q w2 σ' x2 g2 e2 n2 _ => ?_) (Res.all_bind q)⟩
  exact q w2 (x1.trans x2) g2 e2 σ' n2
end
end TL
end
section
set_option Elab.async false
set_option linter.all false
set_option maxRecDepth 100000
/-! TL10: defs, methods, instances, attributes, methods of lists, isinstance, ranges. -/
namespace TL
open PySem PySem.Spec PyProof.Rows L2

/-! ### defs -/
def spRun (mg : Str → Option Value) (F : Bool) (n : Nat) (g : List T → Sto → Res T) : Sp := fun vs H Q _ => vs.length = n ∧ ∃ w ts, w.H = H ∧ Good mg w ∧ RepL w vs ts ∧ post mg F Q w (g ts w.M)
def fnRun (F : Bool) (N : Nat) (body : Ev Fl) : List T → Sto → Res T := fun ts M => (body (ts.map some ++ List.replicate (N - ts.length) none) M).bind fun fl M' => match fl with
  | .nx _ => match F with
    | true => .stuck
    | false => .ok .non M'
  | .rt t => .ok t M'
  | _ => .stuck
theorem nm_start {w : Wd} {N : List Str} {vs : List V} {ts : List T} (r : RepL w vs ts) : Nm w (L2.start N vs) (ts.map some ++ List.replicate (N.length - ts.length) none) := by
  refine ⟨by unfold L2.start; simp [r.length], fun i t h => ?_⟩
  unfold L2.start
  by_cases hi : i < ts.length
  · rw [List.getElem?_append_left (by simpa using hi), List.getElem?_map] at h
    cases ht : ts[i]? with
    | none => rw [ht] at h; cases h
    | some u =>
      rw [ht] at h
      cases h
      obtain ⟨v, h1, h2⟩ := r.get ht
      exact ⟨v, by rw [List.getElem?_append_left (by rw [List.length_map, r.length]; exact hi), List.getElem?_map, h1]; rfl, h2⟩
  · rw [List.getElem?_append_right (by simpa using hi)] at h
    have : ∀ x ∈ List.replicate (N.length - ts.length) (none : Option T), x = none := fun x hx => (List.mem_replicate.mp hx).2
    have h2 := this _ (List.mem_of_getElem? h)
    cases h2
section
variable {P : Program} {w : World} {K : PySem.W.Frag} {mg : Str → Option Value} {base : Heap}
theorem fn_ok {x qual : Str} {params : Arguments} {body : List Stmt} {scope : Scope} {dvs : List V} {kws : List (Str × V)} {f : Addr} {fd : FuncData} {N ps : List Str} {k : Nat} {F : Bool} {fb : Ev Fl}
    (F0 : FunD K x qual params body scope dvs kws f fd) (S : FnScope N ps scope)
    (hb : ∀ (cdv : Value) (A : Around) (outer : List PySem.Env) (s : Shared) (H : Hp) (E : XK), Room k (A.deeper (envOfC qual scope s.heap.objs.size f cdv)) → SB F (cxOf CX0 P w K mg base N qual scope f cdv A outer s H E).nox body fb) :
    FnOk P w K mg base CX0 (k + 1) f fd ps (spRun mg F ps.length (fnRun F N.length fb)) := by
  refine F0.ok S (fun vs H Q E h => h.1) fun cdv A outer s H vs Q E hr h => ?_
  obtain ⟨hl, w0, ts, rfl, g, r, q⟩ := h
  refine ⟨_, PSs.nox (hb cdv A outer s w0.H E hr), w0, _, rfl, g, nm_start r, Res.all_mono (fun fl M' q w1 x1 g1 e1 => ?_) (Res.all_bind q)⟩
  subst e1
  cases fl with
  | nx τ =>
    cases F with
    | true => exact q.elim
    | false => exact fun σ' n' => q w1 .non x1 g1 rfl .non fun z => nomatch z
  | rt t => exact fun v r1 f1 => q w1 v x1 g1 rfl r1 f1
  | bk τ => exact q.elim
  | ct τ => exact q.elim
end

/-- a def is there, and keeps its promise -/
def CallF (P : Program) (w : World) (K : PySem.W.Frag) (mg : Str → Option Value) (base : Heap) (k : Nat) (x : Str) (F : Bool) (n : Nat) (dvs : List V) (g : List T → Sto → Res T) : Prop :=
  ∃ (f : Addr) (fd : FuncData) (ps : List Str) (ds : List Value), mg x = some (.ref f) ∧ PySem.W.keepIn K (.ref f) = true ∧ ps.length = n ∧ Binds K fd ps ds ∧ Vals dvs ds ∧ FnOk P w K mg base CX0 k f fd ps (spRun mg F n g)
def eCall (n : Nat) (dts : List T) (g : List T → Sto → Res T) (fs : Ev (List T)) : Ev T := fun τ M => (fs τ M).bind fun ts M' => if ts.length + dts.length = n then g (ts ++ dts) M' else .stuck
section
variable {X : Cx} {F : Bool} {fs : Ev (List T)} {e o : Expr} {es : List Expr} {p pos apos : Pos} {x m c : Str} {k n : Nat} {g : List T → Sto → Res T} {fe fo : Ev T} {dvs : List V} {dts : List T}
theorem se_call (C : CallF X.prog X.w X.K X.mg X.base k x F n dvs g) (hr : Room k X.A) (ha : SA X (e :: es) fs) (hdt : ∀ w, RepL w dvs dts := by exact fun _ => .nil) (hg : Gl X x := by rfl) (hdb : (x == ("__debug__" : Str)) = false := by decide)
    (he : starEach (e :: es) X.env = (false, eval e X.env) :: starEach es X.env := by rfl) (hpl : (backTo pos (starEach es X.env)).any (·.1) = false := by rfl) : SE F X (.Call (.Name x p) (e :: es) [] pos) (eCall n dts g fs) := by
  obtain ⟨f, fd, ps, ds, hm, hk, hn, hb, hd, Fn⟩ := C
  refine pe_imp (pe_call Fn hr hg hm hk hb hd pass0 ha hdb he hpl) fun σ H Q ⟨w, τ, e, g0, nm, q⟩ => ?_
  subst e
  refine ⟨w, τ, rfl, g0, nm, Res.all_mono (fun ts M' q w1 vs x1 g1 e1 r1 => ?_) (Res.all_bind q)⟩
  subst e1
  split at q
  · rename_i hl
    exact ⟨by rw [List.length_append, r1.length, (hdt w1).length]; exact hl, w1, ts ++ dts, rfl, g1, r1.append (hdt w1), post_ext q x1⟩
  · exact q.elim
theorem se_call0 (C : CallF X.prog X.w X.K X.mg X.base k x F n dvs g) (hr : Room k X.A) (hdt : ∀ w, RepL w dvs dts := by exact fun _ => .nil) (hg : Gl X x := by rfl) (hdb : (x == ("__debug__" : Str)) = false := by decide) : SE F X (.Call (.Name x p) [] [] pos) (eCall n dts g eNil) := by
  obtain ⟨f, fd, ps, ds, hm, hk, hn, hb, hd, Fn⟩ := C
  refine pe_imp (pe_call0 Fn hr hg hm hk hb hd pass0 hdb) fun σ H Q ⟨w, τ, e, g0, nm, q⟩ => ?_
  subst e
  have q : (if ([] : List T).length + dts.length = n then g ([] ++ dts) w.M else .stuck).all _ := q
  show spRun X.mg F n g ([] ++ dvs) w.H Q E0
  split at q
  · rename_i hl
    exact ⟨by rw [List.nil_append, (hdt w).length]; simpa using hl, w, dts, rfl, g0, hdt w, q⟩
  · exact q.elim

/-! ### instances -/
def lkF (f : Str) : List Str → List T → Option T
  | h :: fs, t :: ts => if h = f then some t else lkF f fs ts
  | _, _ => none
def putFs (f : Str) : List Str → List Str
  | [] => [f]
  | h :: fs => if h = f then h :: fs else h :: putFs f fs
def putFt (f : Str) (t : T) : List Str → List T → List T
  | h :: fs, u :: ts => if h = f then t :: ts else u :: putFt f t fs ts
  | _, _ => [t]
theorem lookup_cons' {f g : Str} {v : V} {fs : List (Str × V)} : ((g, v) :: fs).lookup f = if g = f then some v else fs.lookup f := by
  rw [List.lookup_cons]
  by_cases h : g = f
  · subst h; simp
  · have : (f == g) = false := by simpa using fun z => h z.symm
    rw [this, if_neg h]
theorem lkF_val {w : Wd} {f : Str} : ∀ {kvs : List (Str × V)} {ts : List T}, RepL w (kvs.map Prod.snd) ts →
    (∃ v t, kvs.lookup f = some v ∧ lkF f (kvs.map Prod.fst) ts = some t ∧ Rep w v t) ∨ (kvs.lookup f = none ∧ lkF f (kvs.map Prod.fst) ts = none)
  | [], _, .nil => .inr ⟨rfl, rfl⟩
  | (h, u) :: r, t :: ts, .cons q l => by
    rw [lookup_cons']
    show (∃ v t', _ ∧ (if h = f then some t else lkF f (r.map Prod.fst) ts) = some t' ∧ _) ∨ (_ ∧ (if h = f then some t else lkF f (r.map Prod.fst) ts) = none)
    by_cases e : h = f
    · rw [if_pos e, if_pos e]
      exact .inl ⟨u, t, rfl, rfl, q⟩
    · rw [if_neg e, if_neg e]
      exact lkF_val l
theorem putF_rep {w : Wd} {f : Str} {v : V} {t : T} (q : Rep w v t) : ∀ {kvs : List (Str × V)} {ts : List T}, RepL w (kvs.map Prod.snd) ts →
    (L2.putF f v kvs).map Prod.fst = putFs f (kvs.map Prod.fst) ∧ RepL w ((L2.putF f v kvs).map Prod.snd) (putFt f t (kvs.map Prod.fst) ts)
  | [], _, .nil => ⟨rfl, .cons q .nil⟩
  | (h, u) :: r, t' :: ts, .cons q' l => by
    obtain ⟨i1, i2⟩ := putF_rep (f := f) q l
    show (if h = f then (h, v) :: r else (h, u) :: L2.putF f v r).map Prod.fst = (if h = f then h :: r.map Prod.fst else h :: putFs f (r.map Prod.fst)) ∧ RepL w ((if h = f then (h, v) :: r else (h, u) :: L2.putF f v r).map Prod.snd) (if h = f then t :: ts else t' :: putFt f t (r.map Prod.fst) ts)
    by_cases e : h = f
    · rw [if_pos e, if_pos e, if_pos e]; exact ⟨rfl, .cons q l⟩
    · rw [if_neg e, if_neg e, if_neg e]; exact ⟨by rw [List.map_cons, i1], .cons q' i2⟩
/-- what is known of a class -/
def ClsF (K : PySem.W.Frag) (mg : Str → Option Value) (c : Str) (at_ : List Str) : Prop := ∃ C : Addr, mg c = some (.ref C) ∧ Cls K C ∧ (∀ f ∈ at_, NoAttr K C f) ∧
  PySem.W.findIn K (.ref C) "__class__" = some (some (.builtin "object.__class__")) ∧ PySem.W.specialIn K (.builtin "object.__class__") "__get__" = some (some (.builtin "getset_descriptor.__get__")) ∧
  PySem.W.takesIn K (.builtin "object.__class__") = some true ∧ PySem.W.mroIn K C (.type "object") = some true ∧ PySem.W.keepIn K (.ref C) = true
def kFld (c f : Str) : T → Sto → Res T
  | .ref n, M => match M.get n with
    | some (.ins c' fs ts) => if c' = c then match lkF f fs ts with
        | some t => .ok t M
        | none => .stuck
      else .stuck
    | _ => .stuck
  | _, _ => .stuck
theorem se_attr {at_ : List Str} {f : Str} (C : ClsF X.K X.mg c at_) (ho : SE false X o fo) (hf : f ∈ at_ := by decide) (hb : attributeBase o f X.env (eval o X.env) = eval o X.env := by rfl) : SE false X (.Attribute o f pos) (e1 (kFld c f) fo) := by
  obtain ⟨C0, hC, cl, na, _⟩ := C
  refine pe_imp (pe_fld ho hb) fun σ H Q ⟨w, τ, e, g, n, q⟩ => ?_
  subst e
  refine ⟨w, τ, rfl, g, n, Res.all_mono (fun t M' q w1 v x1 g1 e1 r1 _ => ?_) (Res.all_bind q)⟩
  subst e1
  unfold kFld at q
  split at q
  · split at q
    · rename_i hm
      split at q
      · rename_i ec
        rw [ec] at hm
        split at q
        · rename_i t ht
          cases r1 with
          | ref n hn =>
            obtain ⟨_, _, C1, dx, kvs, h1, h2, h3, h4⟩ := g1.own _ _ hm
            rw [hC] at h1
            cases h1
            subst h3
            rcases lkF_val (f := f) h4 with ⟨v, t', a1, a2, a3⟩ | ⟨a1, a2⟩
            · rw [ht] at a2
              cases a2
              exact ⟨_, _, dx, kvs, v, rfl, h2, cl, na f hf, a1, post_ok (post_ext q x1) g1 a3⟩
            · rw [ht] at a2; cases a2
        · exact q.elim
      · exact q.elim
    · exact q.elim
  · exact q.elim
def sFld (c f : Str) (fo fv : Ev T) : Ev Fl := fun τ M => (fv τ M).bind fun t M1 => (fo τ M1).bind fun u M2 => match u with
  | .ref n => match M2.get n with
    | some (.ins c' fs ts) => if c' = c ∧ fs.length < 1000 then .ok (.nx τ) (M2.set n (.ins c (putFs f fs) (putFt f t fs ts))) else .stuck
    | _ => .stuck
  | _ => .stuck
theorem ss_fld {at_ : List Str} {f : Str} {pos' : Pos} (C : ClsF X.K X.mg c at_) (ho : SE false X o fo) (hv : SE false X e fe) (hf : f ∈ at_ := by decide) (hs : swapsWith e (some (.Attribute o f pos')) pos.line X.env = pure false := by rfl) : SS F X (.Assign [.Attribute o f pos'] e pos) (sFld c f fo fe) := by
  obtain ⟨C0, hC, cl, na, _⟩ := C
  refine ps_imp (ps_fld ho hv hs) fun D σ H ⟨w, τ, e, g, n, q⟩ => ?_
  subst e
  refine ⟨w, τ, rfl, g, n, Res.all_mono (fun t M' q w1 v x1 g1 e1 r1 _ => ?_) (Res.all_bind q)⟩
  subst e1
  refine ⟨w1, τ, rfl, g1, n.mono x1, Res.all_mono (fun u M2 q w2 z x2 g2 e2 r2 _ => ?_) (Res.all_bind q)⟩
  subst e2
  split at q
  · split at q
    · rename_i c0 fs0 ts0 hm
      split at q
      · rename_i ec
        obtain ⟨ec, hl⟩ := ec
        rw [ec] at hm
        cases r2 with
        | ref n0 hn =>
          obtain ⟨_, _, C1, dx, kvs, h1, h2, h3, h4⟩ := g2.own _ _ hm
          rw [hC] at h1
          cases h1
          subst h3
          have x3 := Ext.wr (ho := .ins C0 dx (L2.putF f v kvs)) (o := .ins c (putFs f (kvs.map Prod.fst)) (putFt f t (kvs.map Prod.fst) ts0)) g2 hm
          obtain ⟨i1, i2⟩ := putF_rep (f := f) ((r1.mono x2).mono x3) (h4.mono x3)
          have g3 := g2.wr hm (ho := .ins C0 dx (L2.putF f v kvs)) (o := .ins c (putFs f (kvs.map Prod.fst)) (putFt f t (kvs.map Prod.fst) ts0)) ⟨C0, dx, _, hC, rfl, i1, i2⟩
          exact ⟨_, _, dx, kvs, rfl, h2, cl, na f hf, by simpa using hl, q _ ((x1.trans x2).trans x3) g3 rfl σ (((n.mono x1).mono x2).mono x3)⟩
      · exact q.elim
    · exact q.elim
  · exact q.elim
/-- a method is there, and keeps its promise -/
def MethF (P : Program) (w : World) (K : PySem.W.Frag) (mg : Str → Option Value) (base : Heap) (k : Nat) (c m : Str) (F : Bool) (n : Nat) (dvs : List V) (g : List T → Sto → Res T) : Prop :=
  ∃ (C f : Addr) (fd : FuncData) (ps : List Str) (ds : List Value), mg c = some (.ref C) ∧ Cls K C ∧ Meth K C m f ∧ ps.length = n ∧ Binds K fd ps ds ∧ Vals dvs ds ∧ FnOk P w K mg base CX0 k f fd ps (spRun mg F n g)
def eMeth (c m : Str) (n : Nat) (dts : List T) (g : List T → Sto → Res T) (fo : Ev T) (fs : Ev (List T)) : Ev T := fun τ M => (fo τ M).bind fun t M1 => match t with
  | .ref k => match M1.get k with
    | some (.ins c' fls us) => if c' = c then match lkF m fls us with
        | none => (fs τ M1).bind fun ts M2 => if ts.length + dts.length + 1 = n then g (.ref k :: (ts ++ dts)) M2 else .stuck
        | some _ => .stuck
      else .stuck
    | _ => .stuck
  | _ => .stuck
theorem meth_imp {C0 : Addr} {fs : Ev (List T)} (hC : X.mg c = some (.ref C0)) (hdt : ∀ w, RepL w dvs dts) {σ : L2.St} {H : Hp} {Q : VK} {E : XK} (h : tE X.mg F (eMeth c m n dts g fo fs) σ H Q) :
    tMeth C0 m (spRun X.mg F n g) dvs E (tE X.mg false fo) (tA X.mg fs) σ H Q := by
  obtain ⟨w, τ, rfl, g0, nm, q⟩ := h
  refine ⟨w, τ, rfl, g0, nm, Res.all_mono (fun t M' q w1 v x1 g1 e1 r1 _ => ?_) (Res.all_bind q)⟩
  subst e1
  split at q
  · split at q
    · rename_i hm
      split at q
      · rename_i ec
        rw [ec] at hm
        split at q
        · rename_i hn
          have rk := r1
          cases r1 with
          | ref k0 hk =>
            obtain ⟨_, _, C1, dx, kvs, h1, h2, h3, h4⟩ := g1.own _ _ hm
            rw [hC] at h1
            cases h1
            subst h3
            have hl : kvs.lookup m = none := by
              rcases lkF_val (f := m) h4 with ⟨v, t', a1, a2, a3⟩ | ⟨a1, a2⟩
              · rw [hn] at a2; cases a2
              · exact a1
            refine ⟨_, dx, kvs, rfl, h2, hl, w1, τ, rfl, g1, nm.mono x1, Res.all_mono (fun ts M2 q w2 vs x2 g2 e2 r2 => ?_) (Res.all_bind q)⟩
            subst e2
            split at q
            · rename_i hl
              exact ⟨by rw [List.length_cons, List.length_append, r2.length, (hdt w2).length]; exact hl, w2, _, rfl, g2, .cons (rk.mono x2) (r2.append (hdt w2)), post_ext q (x1.trans x2)⟩
            · exact q.elim
        · exact q.elim
      · exact q.elim
    · exact q.elim
  · exact q.elim
theorem se_meth {pl : Sem Bool} (C : MethF X.prog X.w X.K X.mg X.base k c m F n dvs g) (hr : Room k X.A) (ho : SE false X o fo) (ha : SA X (e :: es) fs) (hdt : ∀ w, RepL w dvs dts := by exact fun _ => .nil)
    (hst : starEach (e :: es) X.env = (false, eval e X.env) :: starEach es X.env := by rfl) (hpl : (backTo pos (starEach es X.env)).any (·.1) = false := by rfl)
    (ht : eval (.Call (.Attribute o m apos) (e :: es) [] pos) X.env = (do
      let ov ← eval o X.env
      standAt apos.atName
      let (f, first) ← holding [ov] (getMethod ov m pl)
      callWith pos f first (backTo pos (starEach (e :: es) X.env)) (backToKw pos (keywordEach [] X.env))) := by rfl) : SE F X (.Call (.Attribute o m apos) (e :: es) [] pos) (eMeth c m n dts g fo fs) := by
  obtain ⟨C0, f, fd, ps, ds, hC, cl, hm, hn, hb, hd, Fn⟩ := C
  exact pe_imp (pe_meth ho cl hm Fn hr hb hd pass0 ha hst hpl ht) fun σ H Q h => meth_imp hC hdt h
theorem se_meth0 {pl : Sem Bool} (C : MethF X.prog X.w X.K X.mg X.base k c m F n dvs g) (hr : Room k X.A) (ho : SE false X o fo) (hdt : ∀ w, RepL w dvs dts := by exact fun _ => .nil)
    (ht : eval (.Call (.Attribute o m apos) [] [] pos) X.env = (do
      let ov ← eval o X.env
      standAt apos.atName
      let (f, first) ← holding [ov] (getMethod ov m pl)
      callWith pos f first (backTo pos (starEach [] X.env)) (backToKw pos (keywordEach [] X.env))) := by rfl) : SE F X (.Call (.Attribute o m apos) [] [] pos) (eMeth c m n dts g fo eNil) := by
  obtain ⟨C0, f, fd, ps, ds, hC, cl, hm, hn, hb, hd, Fn⟩ := C
  refine pe_imp (pe_meth0 ho cl hm Fn hr hb hd pass0 ht) fun σ H Q h => ?_
  obtain ⟨w, τ, rfl, g0, nm, q⟩ := meth_imp (E := E0) hC hdt h
  refine ⟨w, τ, rfl, g0, nm, Res.all_mono (fun t M' q w1 v x1 g1 e1 r1 f1 => ?_) q⟩
  obtain ⟨a, dx, fs, h1, h2, h3, w2, τ2, e2, g2, n2, q2⟩ := q w1 v x1 g1 e1 r1 f1
  refine ⟨a, dx, fs, h1, h2, h3, ?_⟩
  show spRun _ _ _ _ _ w1.H Q E0
  rw [← e2]
  exact q2 w2 [] (.refl w2) g2 rfl .nil
/-- a class makes instances -/
def MakeF (P : Program) (w : World) (K : PySem.W.Frag) (mg : Str → Option Value) (base : Heap) (k : Nat) (c : Str) (n : Nat) (dvs : List V) (g : List T → Sto → Res T) : Prop :=
  ∃ (C f : Addr) (fd : FuncData) (ps : List Str) (ds : List Value), mg c = some (.ref C) ∧ Mk K C f ∧ ps.length = n ∧ Binds K fd ps ds ∧ Vals dvs ds ∧ FnOk P w K mg base CX0 k f fd ps (spRun mg false n g)
def eMake (c : Str) (n : Nat) (dts : List T) (g : List T → Sto → Res T) (fs : Ev (List T)) : Ev T := fun τ M => (fs τ M).bind fun ts M1 => if ts.length + dts.length + 1 = n then (g (.ref M1.nx :: (ts ++ dts)) (M1.add (.ins c [] []))).bind fun t M2 => match t with
    | .non => .ok (.ref M1.nx) M2
    | _ => .stuck
  else .stuck
theorem se_make (C : MakeF X.prog X.w X.K X.mg X.base k c n dvs g) (hr : Room (k + 1) X.A) (ha : SA X (e :: es) fs) (hdt : ∀ w, RepL w dvs dts := by exact fun _ => .nil) (hg : Gl X c := by rfl) (hdb : (c == ("__debug__" : Str)) = false := by decide)
    (he : starEach (e :: es) X.env = (false, eval e X.env) :: starEach es X.env := by rfl) (hpl : (backTo pos (starEach es X.env)).any (·.1) = false := by rfl) : SE false X (.Call (.Name c p) (e :: es) [] pos) (eMake c n dts g fs) := by
  obtain ⟨C0, f, fd, ps, ds, hC, mk, hn, hb, hd, Fn⟩ := C
  refine pe_imp (pe_make mk Fn hr hg hC hb hd pass0 ha hdb he hpl) fun σ H Q ⟨w, τ, e, g0, nm, q⟩ => ?_
  subst e
  refine ⟨w, τ, rfl, g0, nm, Res.all_mono (fun ts M' q w1 vs x1 g1 e1 r1 x dx hx hdx hne => ?_) (Res.all_bind q)⟩
  subst e1
  split at q
  · rename_i hl
    have gd := g1.put (o := .own x) hdx
    have xd := Ext.put (o := .own x) g1 hdx
    have hx' : (w1.put dx (.own x)).H x = none := by
      show upd w1.H dx (.own x) x = none
      rw [upd_ne hne.symm]; exact hx
    have gn := gd.new (ho := .ins C0 dx []) (o := .ins c [] []) hx' ⟨C0, dx, [], hC, rfl, rfl, .nil⟩
    have xn : Ext (w1.put dx (.own x)) ((w1.put dx (.own x)).new x (.ins C0 dx []) (.ins c [] [])) := Ext.new gd hx'
    have rr : Rep ((w1.put dx (.own x)).new x (.ins C0 dx []) (.ins c [] [])) (.ref x) (.ref w1.M.nx) := new_ref
    refine ⟨by rw [List.length_cons, List.length_append, r1.length, (hdt w1).length]; exact hl, (w1.put dx (.own x)).new x (.ins C0 dx []) (.ins c [] []), .ref w1.M.nx :: (ts ++ dts), rfl, gn, .cons rr (((r1.mono xd).mono xn).append (hdt _)), Res.all_mono (fun t M2 q w2 v x2 g2 e2 r2 _ => ?_) (Res.all_bind q)⟩
    subst e2
    split at q
    · cases r2
      exact ⟨rfl, q w2 (.ref x) (((x1.trans xd).trans xn).trans x2) g2 rfl (rr.mono x2) fun z => nomatch z⟩
    · exact q.elim
  · exact q.elim

end
end TL
end
section
set_option Elab.async false
set_option linter.all false
set_option maxRecDepth 100000
/-! TL11: methods of lists and dicts, stores at a place, isinstance, ranges, sets' sizes. -/
namespace TL
open PySem PySem.Spec PyProof.Rows L2
section
variable {mg : Str → Option Value} {w : Wd} {n : Nat}
theorem wr_lst {ts ts' : List T} {vs' : List V} {u : MO} (g : Good mg w) (h : w.M.get n = some u) (r : RepL w vs' ts') :
    Ext w (w.wr n (.lst vs') (.lst ts')) ∧ Good mg (w.wr n (.lst vs') (.lst ts')) :=
  ⟨Ext.wr g h, g.wr h ⟨vs', rfl, r.mono (Ext.wr g h)⟩⟩
theorem wr_dic {kvs : List (Key × V)} {ks : List Key} {ts' : List T} {u : MO} (g : Good mg w) (h : w.M.get n = some u) (e : kvs.map Prod.fst = ks) (d : ks.Nodup) (r : RepL w (kvs.map Prod.snd) ts') :
    Ext w (w.wr n (.dK kvs) (.dic ks ts')) ∧ Good mg (w.wr n (.dK kvs) (.dic ks ts')) :=
  ⟨Ext.wr g h, g.wr h ⟨kvs, rfl, e, d, r.mono (Ext.wr g h)⟩⟩
end
def isL : T → Sto → Bool
  | .lst _, _ => true
  | .ref n, M => match M.get n with
    | some (.lst _) => true
    | _ => false
  | _, _ => false
theorem isL_ty {K : PySem.W.Frag} {mg : Str → Option Value} {w : Wd} {v : V} {t : T} (g : Good mg w) (r : Rep w v t) (h : isL t w.M = true) : tyV K "list" v w.H := by
  cases r with
  | lst n d l => exact .inl ⟨rfl, _, .inl d⟩
  | ref n hn =>
    simp only [isL] at h
    split at h
    · rename_i ts hm
      obtain ⟨_, _, vs, e, l⟩ := g.own _ _ hm
      exact .inl ⟨rfl, _, .of e⟩
    · cases h
  | _ => simp [isL] at h
def eBm (k : T → List T → Sto → Res T) (fo : Ev T) (fs : Ev (List T)) : Ev T := fun τ M => (fo τ M).bind fun o M1 => if isL o M1 then (fs τ M1).bind fun ts M2 => k o ts M2 else .stuck
section
variable {X : Cx} {F : Bool} {fs : Ev (List T)} {e o a b : Expr} {es : List Expr} {p pos apos cpos : Pos} {fe fo fa fb : Ev T}
theorem se_bmL {name : Str} {id : String} {k : T → List T → Sto → Res T} {r : V → List V → Hp → VK → Prop} (slot : Slot "list" name id) (hty : typeOf (.builtin id) = pure (.type "method_descriptor")) (hm : MtR X id r)
    (hr : ∀ w x vs o ts Q, Good X.mg w → Rep w x o → RepL w vs ts → post X.mg F Q w (k o ts w.M) → r x vs w.H Q) (ho : SE false X o fo) (ha : SA X (e :: es) fs) (hbase : attributeBase o name X.env (eval o X.env) = eval o X.env)
    (hfew : ((backTo cpos (starEach (e :: es) X.env)).all (fun x => !x.1) && (backToKw cpos (keywordEach [] X.env)).all (fun x => x.1.isSome)
      && decide ((e :: es).length + ([] : List Keyword).length + (if ([] : List Keyword).isEmpty then 0 else 1) < 30)) = true)
    (hline : (apos.endLine == cpos.line) = true) (hs : starEach (e :: es) X.env = (false, eval e X.env) :: starEach es X.env) (hplain : (backTo cpos (starEach es X.env)).any (·.1) = false) :
    SE F X (.Call (.Attribute o name apos) (e :: es) [] cpos) (eBm k fo fs) := by
  refine pe_imp (pe_bm PySem.F.plainAttrs_list slot hty hm ho ha hbase hfew hline hs hplain) fun σ H Q ⟨w, τ, e, g, n, q⟩ => ?_
  subst e
  refine ⟨w, τ, rfl, g, n, Res.all_mono (fun t M' q w1 v x1 g1 e1 r1 _ => ?_) (Res.all_bind q)⟩
  subst e1
  split at q
  · rename_i hL
    refine ⟨isL_ty g1 r1 hL, w1, τ, rfl, g1, n.mono x1, Res.all_mono (fun ts M2 q w2 vs x2 g2 e2 r2 => ?_) (Res.all_bind q)⟩
    subst e2
    exact hr w2 v vs t ts Q g2 (r1.mono x2) r2 (post_ext q (x1.trans x2))
  · exact q.elim
def kApp : T → List T → Sto → Res T
  | .ref n, [t], M => match M.get n with
    | some (.lst ts) => if ts.length < 16777216 then .ok .non (M.set n (.lst (ts ++ [t]))) else .stuck
    | _ => .stuck
  | _, _, _ => .stuck
def kExt : T → List T → Sto → Res T
  | .ref n, [.lst us], M => match M.get n with
    | some (.lst ts) => if ts.length + us.length ≤ 16777216 then .ok .non (M.set n (.lst (ts ++ us))) else .stuck
    | _ => .stuck
  | _, _, _ => .stuck
def kIns : T → List T → Sto → Res T
  | .ref n, [.int i, t], M => match M.get n with
    | some (.lst ts) => if ts.length < 16777216 ∧ 0 ≤ i ∧ i < 9223372036854775808 then .ok .non (M.set n (.lst (ts.take i.toNat ++ [t] ++ ts.drop i.toNat))) else .stuck
    | _ => .stuck
  | _, _, _ => .stuck
def ixV (y : V) : List V → Option Nat
  | [] => none
  | v :: vs => if eqV v y then some 0 else match ixV y vs with
    | some j => some (j + 1)
    | none => none
theorem ixV_ok {y : V} : ∀ {vs : List V} {j : Nat}, ixV y vs = some j → (∃ z, vs[j]? = some z ∧ eqV z y = true) ∧ ∀ (m : Nat) (z' : V), m < j → vs[m]? = some z' → eqV z' y = false
  | [], _, h => by cases h
  | v :: vs, j, h => by
    unfold ixV at h
    split at h
    · rename_i hv
      cases h
      exact ⟨⟨v, rfl, hv⟩, fun m z hm => absurd hm (Nat.not_lt_zero m)⟩
    · rename_i hv
      split at h
      · rename_i j' hj
        cases h
        obtain ⟨h1, h2⟩ := ixV_ok hj
        refine ⟨h1, fun m z hm hz => ?_⟩
        cases m with
        | zero =>
          have e : v = z := by simpa using hz
          rw [← e]
          simpa using hv
        | succ m => exact h2 m z (by omega) (by simpa using hz)
      · cases h
def kIdx : T → List T → Sto → Res T
  | .lst ts, [t], M => match flT t, flTs ts with
    | some v, some vs => match ixV v vs with
      | some j => .ok (.int (j : Nat)) M
      | none => .stuck
    | _, _ => .stuck
  | _, _, _ => .stuck
theorem se_append (ho : SE false X o fo) (ha : SA X (e :: es) fs) (hbase : attributeBase o "append" X.env (eval o X.env) = eval o X.env := by rfl)
    (hfew : ((backTo cpos (starEach (e :: es) X.env)).all (fun x => !x.1) && (backToKw cpos (keywordEach [] X.env)).all (fun x => x.1.isSome) && decide ((e :: es).length + ([] : List Keyword).length + (if ([] : List Keyword).isEmpty then 0 else 1) < 30)) = true := by rfl)
    (hline : (apos.endLine == cpos.line) = true := by rfl) (hs : starEach (e :: es) X.env = (false, eval e X.env) :: starEach es X.env := by rfl) (hplain : (backTo cpos (starEach es X.env)).any (·.1) = false := by rfl) :
    SE false X (.Call (.Attribute o "append" apos) (e :: es) [] cpos) (eBm kApp fo fs) := by
  refine se_bmL PySem.F.slot_list_append PySem.F.type_list_append mt_append (fun w x vs o ts Q g r rs q => ?_) ho ha hbase hfew hline hs hplain
  unfold kApp at q
  split at q
  · obtain ⟨v, rfl, r1⟩ := repL1 rs
    split at q
    · rename_i us hm
      split at q
      · rename_i hl
        cases r with
        | ref n hn =>
          obtain ⟨_, _, ws, e, l⟩ := g.own _ _ hm
          obtain ⟨x2, g2⟩ := wr_lst (ts := us) g hm (l.append (.cons r1 .nil))
          exact ⟨_, ws, v, rfl, rfl, e, by rw [line_eq, l.length]; exact hl, q _ .non x2 g2 rfl .non fun z => nomatch z⟩
      · exact q.elim
    · exact q.elim
  · exact q.elim
/-- the other list may be a frozen one -/
def rExtR : V → List V → Hp → VK → Prop := fun x vs H Q => ∃ (a b : Addr) (xs ys : List V), x = .ref a ∧ vs = [.ref b] ∧ H a = some (.lst xs) ∧ Rd H b (.lst ys) ∧ xs.length + ys.length ≤ sizeLine ∧ Q .non (upd H a (.lst (xs ++ ys)))
theorem mt_extendR : MtM X "list.extend" rExtR := fun pins s σ H x vs v us Q I rx rv ⟨a, b, xs, ys, ex, ev, ha, hb, hl, q⟩ => by
  subst ex ev
  cases rx
  obtain ⟨u, rfl, ru⟩ := rv.one
  cases ru
  obtain ⟨ws, n, vx, lx, gx⟩ := Rd.seq I (.inl ha)
  obtain ⟨zs, m, vy, ly, gy⟩ := Rd.seq I hb
  have sz : ws.toArray.size + zs.toArray.size ≤ sizeLine := by simpa [lx, ly] using hl
  have ok : (!ws.toArray.isEmpty && Builtin.List.listTooLong (ws.toArray.size + zs.toArray.size)) = false := by
    rw [notLongL sz]; exact Bool.and_false _
  have call := AutoSeq1.list_extend_list_list_0 a ws.toArray n b zs.toArray m (by rw [ok]; exact Bool.false_ne_true) (by omega) (by omega)
  refine call_meets PySem.F.slot_list_extend ⟨_, gx, rfl⟩ PySem.F.entry_list_extend (PySem.F.args_list_extend_2 _ _) call ⟨gx, gy, ?_⟩
  exact ⟨.non, upd H a (.lst (xs ++ ys)), I.lset (its' := ws ++ zs) ha gx (by simp) (vx.append vy) (by simpa using hl), rfl, q⟩
theorem se_extend (ho : SE false X o fo) (ha : SA X (e :: es) fs) (hbase : attributeBase o "extend" X.env (eval o X.env) = eval o X.env := by rfl)
    (hfew : ((backTo cpos (starEach (e :: es) X.env)).all (fun x => !x.1) && (backToKw cpos (keywordEach [] X.env)).all (fun x => x.1.isSome) && decide ((e :: es).length + ([] : List Keyword).length + (if ([] : List Keyword).isEmpty then 0 else 1) < 30)) = true := by rfl)
    (hline : (apos.endLine == cpos.line) = true := by rfl) (hs : starEach (e :: es) X.env = (false, eval e X.env) :: starEach es X.env := by rfl) (hplain : (backTo cpos (starEach es X.env)).any (·.1) = false := by rfl) :
    SE false X (.Call (.Attribute o "extend" apos) (e :: es) [] cpos) (eBm kExt fo fs) := by
  refine se_bmL PySem.F.slot_list_extend PySem.F.type_list_extend mt_extendR (fun w x vs o ts Q g r rs q => ?_) ho ha hbase hfew hline hs hplain
  unfold kExt at q
  split at q
  · obtain ⟨v, rfl, r1⟩ := repL1 rs
    split at q
    · rename_i us hm
      split at q
      · rename_i hl
        cases r with
        | ref n hn =>
          obtain ⟨_, _, ws, e, l⟩ := g.own _ _ hm
          cases r1 with
          | lst n1 d1 l1 =>
            obtain ⟨x2, g2⟩ := wr_lst (ts := us) g hm (l.append l1)
            exact ⟨_, _, ws, _, rfl, rfl, e, d1, by rw [line_eq, l.length, l1.length]; exact hl, q _ .non x2 g2 rfl .non fun z => nomatch z⟩
      · exact q.elim
    · exact q.elim
  · exact q.elim
theorem se_insert (ho : SE false X o fo) (ha : SA X (e :: es) fs) (hbase : attributeBase o "insert" X.env (eval o X.env) = eval o X.env := by rfl)
    (hfew : ((backTo cpos (starEach (e :: es) X.env)).all (fun x => !x.1) && (backToKw cpos (keywordEach [] X.env)).all (fun x => x.1.isSome) && decide ((e :: es).length + ([] : List Keyword).length + (if ([] : List Keyword).isEmpty then 0 else 1) < 30)) = true := by rfl)
    (hline : (apos.endLine == cpos.line) = true := by rfl) (hs : starEach (e :: es) X.env = (false, eval e X.env) :: starEach es X.env := by rfl) (hplain : (backTo cpos (starEach es X.env)).any (·.1) = false := by rfl) :
    SE false X (.Call (.Attribute o "insert" apos) (e :: es) [] cpos) (eBm kIns fo fs) := by
  refine se_bmL PySem.F.slot_list_insert PySem.F.type_list_insert mt_insert (fun w x vs o ts Q g r rs q => ?_) ho ha hbase hfew hline hs hplain
  unfold kIns at q
  split at q
  · obtain ⟨v, z, rfl, r1, r2⟩ := repL2 rs
    split at q
    · rename_i us hm
      split at q
      · rename_i hl
        cases r with
        | ref n hn =>
          obtain ⟨_, _, ws, e, l⟩ := g.own _ _ hm
          cases r1
          obtain ⟨x2, g2⟩ := wr_lst (ts := us) g hm (((l.take _).append (.cons r2 .nil)).append (l.drop _))
          exact ⟨_, ws, _, z, rfl, rfl, e, by rw [line_eq, l.length]; exact hl.1, hl.2.1, by omega, q _ .non x2 g2 rfl .non fun z => nomatch z⟩
      · exact q.elim
    · exact q.elim
  · exact q.elim
theorem se_index (ho : SE false X o fo) (ha : SA X (e :: es) fs) (hbase : attributeBase o "index" X.env (eval o X.env) = eval o X.env := by rfl)
    (hfew : ((backTo cpos (starEach (e :: es) X.env)).all (fun x => !x.1) && (backToKw cpos (keywordEach [] X.env)).all (fun x => x.1.isSome) && decide ((e :: es).length + ([] : List Keyword).length + (if ([] : List Keyword).isEmpty then 0 else 1) < 30)) = true := by rfl)
    (hline : (apos.endLine == cpos.line) = true := by rfl) (hs : starEach (e :: es) X.env = (false, eval e X.env) :: starEach es X.env := by rfl) (hplain : (backTo cpos (starEach es X.env)).any (·.1) = false := by rfl) :
    SE false X (.Call (.Attribute o "index" apos) (e :: es) [] cpos) (eBm kIdx fo fs) := by
  refine se_bmL PySem.F.slot_list_index PySem.F.type_list_index mt_index (fun w x vs o ts Q g r rs q => ?_) ho ha hbase hfew hline hs hplain
  unfold kIdx at q
  split at q
  · obtain ⟨v, rfl, r1⟩ := repL1 rs
    split at q
    · rename_i v' vs' h1 h2
      split at q
      · rename_i j hj
        cases r with
        | lst n d l =>
          obtain ⟨e1, f1⟩ := flT_rep r1 h1
          obtain ⟨e2, f2⟩ := flTs_rep l h2
          subst e1 e2
          obtain ⟨⟨z, hz, hzz⟩, hno⟩ := ixV_ok hj
          exact ⟨_, _, v, j, z, rfl, rfl, .inl d, f1, f2, hz, hzz, hno, post_ok q g (.int _)⟩
      · exact q.elim
    · exact q.elim
  · exact q.elim

/-! ### d.get -/
def eGet (fo fe : Ev T) : Ev T := fun τ M => (fo τ M).bind fun o M1 => match o with
  | .dic ks xs => (fe τ M1).bind fun u M2 => match toK u with
    | some k => .ok (match lkT k ks xs with
      | some t => t
      | none => .non) M2
    | none => .stuck
  | _ => .stuck
theorem se_get1 {k : Nat} (hr : Room k X.A) (ho : SE false X o fo) (he : SE false X e fe) (m : M1 X o "get" apos e cpos := by exact ⟨rfl, rfl, rfl, rfl⟩) : SE false X (.Call (.Attribute o "get" apos) [e] [] cpos) (eGet fo fe) := by
  refine pe_imp (pe_dget1 (by have := hr.un; omega) ho he m) fun σ H Q ⟨w, τ, e, g, n, q⟩ => ?_
  subst e
  refine ⟨w, τ, rfl, g, n, Res.all_mono (fun t M' q w1 v x1 g1 e1 r1 _ => ?_) (Res.all_bind q)⟩
  subst e1
  split at q
  · cases r1 with
    | dic n0 d e nd l =>
      subst e
      refine ⟨_, rfl, .inl ⟨_, d⟩, w1, τ, rfl, g1, n.mono x1, Res.all_mono (fun u M2 q w2 z x2 g2 e2 r2 _ => ?_) (Res.all_bind q)⟩
      subst e2
      obtain ⟨d', n'⟩ := x2.keepD _ _ d n0
      have q := post_ext q (x1.trans x2)
      split at q
      · rename_i kk hk
        rcases lk_val (k := kk) (l.mono x2) with ⟨v, t', h1, h2, h3⟩ | ⟨h1, h2⟩
        · rw [h2] at q
          exact ⟨some v, .inl ⟨_, kk, d', toK_rep r2 hk, h1.symm⟩, post_ok q g2 h3⟩
        · rw [h2] at q
          exact ⟨none, .inl ⟨_, kk, d', toK_rep r2 hk, h1.symm⟩, post_ok q g2 .non⟩
      · exact q.elim
  · exact q.elim

/-! ### a store at a place -/
def gAt (fo fi : Ev T) : Tg := fun t τ M => (fo τ M).bind fun o M1 => (fi τ M1).bind fun i M2 => match o with
  | .ref n => match M2.get n, i with
    | some (.lst ts), .int i => match ixN ts.length i with
      | some j => .ok τ (M2.set n (.lst (ts.set j t)))
      | none => .stuck
    | some (.dic ks ts), i => match toK i with
      | some k => if ks.length < 16777216 then .ok τ (M2.set n (.dic (putKs k ks) (putTs k t ks ts))) else .stuck
      | none => .stuck
    | _, _ => .stuck
  | _ => .stuck
theorem PSet.or {t t' : TSet} (h : PSet X t) (h' : PSet X t') : PSet X (fun o i v H Q => t o i v H Q ∨ t' o i v H Q) := by
  intro pins s σ H o i v ov iv u Q I ro ri rv q
  rcases q with q | q
  · exact h pins s σ H o i v ov iv u Q I ro ri rv q
  · exact h' pins s σ H o i v ov iv u Q I ro ri rv q
theorem sg_at {k : Nat} (hr : Room k X.A) (ho : SE false X a fa) (hi : SE false X b fb) (hw : ∀ v, assign (.Subscript a b pos) X.env v = (do
      let ov ← holding [v] (eval a X.env)
      let iv ← holding [v, ov] (eval b X.env)
      standAt pos
      holding [v, ov, iv] (setItem ov iv v)
      release [v, ov, iv] []) := by intro _; rfl) : SG [] X (.Subscript a b pos) (gAt fa fb) := by
  refine pg_imp (pg_sub ho hi (PSet.or set_list (set_dict (by have := hr.un; omega))) hw) fun v σ H Q ⟨w, τ, t, e, g, n, r, q⟩ => ?_
  subst e
  refine ⟨w, τ, rfl, g, n, Res.all_mono (fun o M1 q w1 x x1 g1 e1 r1 _ => ?_) (Res.all_bind q)⟩
  subst e1
  refine ⟨w1, τ, rfl, g1, n.mono x1, Res.all_mono (fun i M2 q w2 y x2 g2 e2 r2 f2 => ?_) (Res.all_bind q)⟩
  subst e2
  clear f2
  have xx := x1.trans x2
  split at q
  · split at q
    · rename_i ts i hm
      split at q
      · rename_i j hj
        have r1 := r1.mono x2
        cases r1 with
        | ref n0 hn =>
          cases r2
          obtain ⟨_, _, ws, e, l⟩ := g2.own _ _ hm
          obtain ⟨x3, g3⟩ := wr_lst (ts := ts) g2 hm (RepL.set (r.mono xx) j l)
          exact .inl ⟨_, ws, _, j, rfl, rfl, e, by rw [l.length]; exact hj, q _ σ (xx.trans x3) g3 rfl ((n.mono xx).mono x3) ⟨rfl, fun _ _ => rfl⟩⟩
      · exact q.elim
    · rename_i ks ts hm
      split at q
      · rename_i kk hk
        split at q
        · rename_i hl
          have r1 := r1.mono x2
          cases r1 with
          | ref n0 hn =>
            obtain ⟨_, _, kvs, e, e2, nd, l⟩ := g2.own _ _ hm
            obtain ⟨p1, p2, p3⟩ := put_rep (k := kk) (r.mono xx) e2 nd l
            obtain ⟨x3, g3⟩ := wr_dic g2 hm p1 p2 p3
            subst e2
            rw [List.length_map] at hl
            exact .inr ⟨_, _, rfl, .inl ⟨kvs, kk, e, toK_rep r2 hk, by rw [line_eq]; exact hl, rfl⟩, q _ σ (xx.trans x3) g3 rfl ((n.mono xx).mono x3) ⟨rfl, fun _ _ => rfl⟩⟩
        · exact q.elim
      · exact q.elim
    · exact q.elim
  · exact q.elim

/-! ### isinstance -/
inductive Cl where
  | int | bool | str | list | tuple | dict
  deriving DecidableEq
def Cl.nm : Cl → String
  | .int => "int" | .bool => "bool" | .str => "str" | .list => "list" | .tuple => "tuple" | .dict => "dict"
def Cl.sr : Cl → Str
  | .int => "int" | .bool => "bool" | .str => "str" | .list => "list" | .tuple => "tuple" | .dict => "dict"
def isC : T → Sto → Cl → Option Bool
  | .non, _, _ => some false
  | .bl _, _, c => some (match c with | .bool => true | .int => true | _ => false)
  | .int _, _, c => some (match c with | .int => true | _ => false)
  | .str _, _, c => some (match c with | .str => true | _ => false)
  | .lst _, _, c => some (match c with | .list => true | _ => false)
  | .tup _, _, c => some (match c with | .tuple => true | _ => false)
  | .dic _ _, _, c => some (match c with | .dict => true | _ => false)
  | .ref n, M, c => match M.get n with
    | some (.lst _) => some (match c with | .list => true | _ => false)
    | some (.dic _ _) => some (match c with | .dict => true | _ => false)
    | _ => none
  | .scr _, _, _ => none
theorem kitN (c : Cl) : kitB "NoneType" c.nm = some false := by cases c <;> decide +kernel
theorem kitBl (c : Cl) : kitB "bool" c.nm = some (match c with | .bool => true | .int => true | _ => false) := by cases c <;> decide +kernel
theorem kitI (c : Cl) : kitB "int" c.nm = some (match c with | .int => true | _ => false) := by cases c <;> decide +kernel
theorem kitS (c : Cl) : kitB "str" c.nm = some (match c with | .str => true | _ => false) := by cases c <;> decide +kernel
theorem kitL (c : Cl) : kitB "list" c.nm = some (match c with | .list => true | _ => false) := by cases c <;> decide +kernel
theorem kitT (c : Cl) : kitB "tuple" c.nm = some (match c with | .tuple => true | _ => false) := by cases c <;> decide +kernel
theorem kitD (c : Cl) : kitB "dict" c.nm = some (match c with | .dict => true | _ => false) := by cases c <;> decide +kernel
theorem isC_ok {K : PySem.W.Frag} {mg : Str → Option Value} {w : Wd} {v : V} {t : T} (g : Good mg w) (r : Rep w v t) {c0 : Cl} {b0 : Bool} (h0 : isC t w.M c0 = some b0) :
    ∃ ty, TyX K w.H v (.type ty) ∧ ∀ c, ∃ b, isC t w.M c = some b ∧ kitB ty c.nm = some b := by
  cases r with
  | non => exact ⟨_, .base .non, fun c => ⟨_, rfl, kitN c⟩⟩
  | bl b => exact ⟨_, .base (.bl b), fun c => ⟨_, rfl, kitBl c⟩⟩
  | int i => exact ⟨_, .base (.int i), fun c => ⟨_, rfl, kitI c⟩⟩
  | str x => exact ⟨_, .base (.str x), fun c => ⟨_, rfl, kitS c⟩⟩
  | lst n d l =>
    rcases d with d | ⟨o, d⟩
    · exact ⟨_, .base (.lst d), fun c => ⟨_, rfl, kitL c⟩⟩
    · exact ⟨_, .base (.frz d), fun c => ⟨_, rfl, kitL c⟩⟩
  | tup n d l => exact ⟨_, .base (.tup d), fun c => ⟨_, rfl, kitT c⟩⟩
  | dic n d e nd l =>
    rcases d with d | ⟨o, d⟩
    · exact ⟨_, .base (.dK d), fun c => ⟨_, rfl, kitD c⟩⟩
    · exact ⟨_, .fDict d, fun c => ⟨_, rfl, kitD c⟩⟩
  | scr a => cases h0
  | ref n hn =>
    simp only [isC] at h0 ⊢
    split at h0
    · rename_i ts hm
      obtain ⟨_, _, vs, e, l⟩ := g.own _ _ hm
      exact ⟨_, .base (.lst e), fun c => ⟨_, rfl, kitL c⟩⟩
    · rename_i ks ts hm
      obtain ⟨_, _, kvs, e, _⟩ := g.own _ _ hm
      exact ⟨_, .base (.dK e), fun c => ⟨_, rfl, kitD c⟩⟩
    · cases h0
def kIsi (c : Cl) : T → Sto → Res T := fun t M => match isC t M c with
  | some b => .ok (.bl b) M
  | none => .stuck
def isAny (t : T) (M : Sto) : List Cl → Option Bool
  | [] => some false
  | c :: cs => match isC t M c with
    | some true => some true
    | some false => isAny t M cs
    | none => none
def kIsiT (cs : List Cl) : T → Sto → Res T := fun t M => match isC t M .int, isAny t M cs with
  | some _, some b => .ok (.bl b) M
  | _, _ => .stuck
theorem boot_cl (c : Cl) : bootBuiltins c.sr = some (.type c.nm) := by cases c <;> decide +kernel
theorem mg_cl {mg : Str → Option Value} (B : Blt mg) (c : Cl) : mg c.sr = none := by
  cases c
  · exact B.int
  · exact B.bool
  · exact B.str
  · exact B.list
  · exact B.tuple
  · exact B.dict
theorem pe_cl (B : Blt X.mg) (c : Cl) {q : Pos} (hg : Gl X c.sr) : PE X (.Name c.sr q) (tC (.ty c.nm)) :=
  pe_bltn hg (mg_cl B c) (boot_cl c) rfl (by cases c <;> decide) (by cases c <;> decide)
theorem se_isi (B : Blt X.mg) (c : Cl) {x : Str} {q : Pos} (ha : SE false X a fa) (hx : x = c.sr := by rfl) (hg : Gl X "isinstance" := by rfl) (hgc : Gl X x := by rfl)
    (hs : starEach [a, .Name x q] X.env = (false, eval a X.env) :: starEach [.Name x q] X.env := by rfl) (hpl : (backTo pos (starEach [.Name x q] X.env)).any (·.1) = false := by rfl) : SE false X (.Call (.Name "isinstance" p) [a, .Name x q] [] pos) (e1 (kIsi c) fa) := by
  subst hx
  refine pe_imp (pe_callB call_isi hg B.isinstance PyProof.Rows.boot_isinstance (pa_cons ha (pa_cons (pe_cl B c hgc) pa_nil) hs) (by decide) (by decide) hs hpl) fun σ H Q ⟨w, τ, e, g, n, q⟩ => ?_
  subst e
  refine ⟨w, τ, rfl, g, n, Res.all_mono (fun t M1 q w1 v x1 g1 e1 r1 _ => ?_) (Res.all_bind q)⟩
  subst e1
  unfold kIsi at q
  split at q
  · rename_i b hb
    obtain ⟨ty, h1, h2⟩ := isC_ok (K := X.K) g1 r1 hb
    obtain ⟨b', h3, h4⟩ := h2 c
    rw [hb] at h3
    cases h3
    exact ⟨v, _, _, _, b, rfl, .ty _, h1, kit_ty h4, post_ok (post_ext q x1) g1 (.bl _)⟩
  · exact q.elim
/-- the names of the classes, from the left -/
def ClNames (X : Cx) : List Expr → List Cl → Prop
  | [], [] => True
  | .Name x q :: es, c :: cs => x = c.sr ∧ Gl X x ∧ ClNames X es cs
  | _, _ => False
theorem pa_cls (B : Blt X.mg) : ∀ {es : List Expr} {cs : List Cl}, ClNames X es cs → PA X es (fun _ H Q => Q (cs.map fun c => V.ty c.nm) H)
  | [], [], _ => pa_imp pa_nil fun _ _ _ h => h
  | .Name x q :: es, c :: cs, ⟨h1, h2, h3⟩ => by
    subst h1
    exact pa_imp (pa_cons (pe_cl B c h2) (pa_cls B h3) rfl) fun _ _ _ h => h
  | [], _ :: _, h => h.elim
  | .Name _ _ :: _, [], h => h.elim
theorem cls_paired : ∀ cs : List Cl, Paired ClsV (cs.map fun c => V.ty c.nm) (cs.map fun c => Value.type c.nm)
  | [] => .nil
  | c :: cs => .cons (.ty _) (cls_paired cs)
theorem kitAny_of {K : PySem.W.Frag} {t : T} {M : Sto} {ty : String} (h : ∀ c, ∃ b, isC t M c = some b ∧ kitB ty c.nm = some b) : ∀ {cs : List Cl} {b : Bool}, isAny t M cs = some b → PySem.W.kitAny K (.type ty) (cs.map fun c => Value.type c.nm) = some b
  | [], b, e => by cases e; rfl
  | c :: cs, b, e => by
    obtain ⟨b', h1, h2⟩ := h c
    unfold isAny at e
    rw [h1] at e
    refine kitAny_cons (b := b') (kit_ty h2) (fun hb => ?_) fun hb => ?_
    · rw [hb] at e; exact kitAny_of h e
    · rw [hb] at e; cases e; rfl
theorem se_isiT (B : Blt X.mg) (cs : List Cl) {k0 : Nat} {q : Pos} (ha : SE false X a fa) (hn : ClNames X es cs := by exact ⟨rfl, rfl, rfl, rfl, trivial⟩) (hl : cs.length ≤ 10 := by decide) (hg : Gl X "isinstance" := by rfl)
    (hs : starEach [a, .Tuple es k0 q] X.env = (false, eval a X.env) :: starEach [.Tuple es k0 q] X.env := by rfl) (hpl : (backTo pos (starEach [.Tuple es k0 q] X.env)).any (·.1) = false := by rfl) : SE false X (.Call (.Name "isinstance" p) [a, .Tuple es k0 q] [] pos) (e1 (kIsiT cs) fa) := by
  refine pe_imp (pe_callB call_isiT hg B.isinstance PyProof.Rows.boot_isinstance (pa_cons ha (pa_cons (pe_tup (pa_cls B hn)) pa_nil rfl) hs) (by decide) (by decide) hs hpl) fun σ H Q ⟨w, τ, e, g, n, q⟩ => ?_
  subst e
  refine ⟨w, τ, rfl, g, n, Res.all_mono (fun t M1 q w1 v x1 g1 e1 r1 _ => ?_) (Res.all_bind q)⟩
  subst e1
  refine ⟨by rw [List.length_map, line_eq]; omega, fun p hp => ?_⟩
  have x2 := Ext.put (o := .tup (cs.map fun c => V.ty c.nm)) g1 hp
  have g2 := g1.put (o := .tup (cs.map fun c => V.ty c.nm)) hp
  unfold kIsiT at q
  split at q
  · rename_i b0 b hb0 hb
    obtain ⟨ty, h1, h2⟩ := isC_ok (K := X.K) (w := w1.put p _) g2 (r1.mono x2) (show isC t (w1.put p _).M .int = some b0 from hb0)
    exact ⟨v, p, _, _, _, b, rfl, upd_same, cls_paired cs, h1, kitAny_of h2 hb, post_ok (w := w1.put p _) (post_ext q (x1.trans x2)) g2 (.bl _)⟩
  · exact q.elim
end
end TL
end
section
set_option Elab.async false
set_option linter.all false
set_option maxRecDepth 100000
/-! TL12: ranges as lists, len(set(..)), stars, pairs at once, compares of what stands in the store, dict displays. -/
namespace TL
open PySem PySem.Spec PyProof.Rows L2

section
variable {X : Cx} {F : Bool} {fa fb : Ev T} {a b e : Expr} {es : List Expr} {p q pos : Pos}
/-! ### list(range(..)) -/
theorem rgV_rep {w : Wd} (a b : Int) : RepL w (rgV a b) (rgT a (b - a).toNat) := by
  have e1 : rgV a b = ((List.range (b - a).toNat).map fun i => a + (i : Nat)).map V.int := by unfold rgV; rw [List.map_map]; rfl
  have e2 : rgT a (b - a).toNat = ((List.range (b - a).toNat).map fun i => a + (i : Nat)).map T.int := by unfold rgT; rw [List.map_map]; rfl
  rw [e1, e2]
  exact .ints _
def okRg (i j : Int) : Bool := decide (-4611686018427387904 ≤ i) && decide (i < 4611686018427387904) && decide (-4611686018427387904 ≤ j) && decide (j < 4611686018427387904) && decide ((j - i).toNat ≤ 16777216)
theorem okRg_ok {i j : Int} (h : okRg i j = true) : RgOk i j := by
  unfold okRg at h
  simp only [Bool.and_eq_true, decide_eq_true_eq] at h
  exact ⟨by omega, by omega, by omega, by omega, by omega⟩
def eLrg1 (f : Ev T) : Ev T := fun τ M => (f τ M).bind fun t M' => match t with
  | .int j => if okRg 0 j then .ok (.lst (rgT 0 j.toNat)) M' else .stuck
  | _ => .stuck
def eLrg2 (f g : Ev T) : Ev T := fun τ M => (f τ M).bind fun t M1 => (g τ M1).bind fun u M2 => match t, u with
  | .int i, .int j => if okRg i j then .ok (.lst (rgT i (j - i).toNat)) M2 else .stuck
  | _, _ => .stuck
theorem se_listRg1 {p2 q2 : Pos} (B : Blt X.mg) (ha : SE false X a fa) (hc : X.calm = true := by rfl) (hg : Gl X "list" := by rfl) (hg2 : Gl X "range" := by rfl) (na : starEach [a] X.env = (false, eval a X.env) :: starEach [] X.env := by rfl)
    (na2 : starEach [.Call (.Name "range" p2) [a] [] q2] X.env = (false, eval (.Call (.Name "range" p2) [a] [] q2) X.env) :: starEach [] X.env := by rfl) : SE true X (.Call (.Name "list" p) [.Call (.Name "range" p2) [a] [] q2] [] pos) (eLrg1 fa) := by
  refine pe_imp (pe_listRg hc hg B.list (prg_1 hg2 B.range ha na) na2) fun σ H Q ⟨w, τ, e, g, n, q⟩ => ?_
  subst e
  refine ⟨w, τ, rfl, g, n, Res.all_mono (fun t M' q w1 v x1 g1 e1 r1 _ => ?_) (Res.all_bind q)⟩
  subst e1
  split at q
  · split at q
    · rename_i h
      cases r1
      refine ⟨_, rfl, okRg_ok h, fun p hp => ?_⟩
      have q := post_ext q x1
      have := rgV_rep (w := w1) 0 (by assumption)
      rw [Int.sub_zero] at this
      exact post_lst q g1 hp this
    · exact q.elim
  · exact q.elim
theorem se_listRg2 {p2 q2 : Pos} (B : Blt X.mg) (ha : SE false X a fa) (hb : SE false X b fb) (hc : X.calm = true := by rfl) (hg : Gl X "list" := by rfl) (hg2 : Gl X "range" := by rfl) (na : starEach [a, b] X.env = (false, eval a X.env) :: starEach [b] X.env := by rfl)
    (nb : starEach [b] X.env = (false, eval b X.env) :: starEach [] X.env := by rfl) (hp : (backTo q2 (starEach [b] X.env)).any (·.1) = false := by rfl)
    (na2 : starEach [.Call (.Name "range" p2) [a, b] [] q2] X.env = (false, eval (.Call (.Name "range" p2) [a, b] [] q2) X.env) :: starEach [] X.env := by rfl) : SE true X (.Call (.Name "list" p) [.Call (.Name "range" p2) [a, b] [] q2] [] pos) (eLrg2 fa fb) := by
  refine pe_imp (pe_listRg hc hg B.list (prg_2 hg2 B.range ha hb na nb hp) na2) fun σ H Q ⟨w, τ, e, g, n, q⟩ => ?_
  subst e
  refine ⟨w, τ, rfl, g, n, Res.all_mono (fun t M' q w1 v x1 g1 e1 r1 _ => ?_) (Res.all_bind q)⟩
  subst e1
  refine ⟨w1, τ, rfl, g1, n.mono x1, Res.all_mono (fun u M2 q w2 z x2 g2 e2 r2 _ => ?_) (Res.all_bind q)⟩
  subst e2
  split at q
  · split at q
    · rename_i h
      have r1 := r1.mono x2
      cases r1
      cases r2
      exact ⟨_, _, rfl, rfl, okRg_ok h, fun p hp => post_lst (post_ext q (x1.trans x2)) g2 hp (rgV_rep _ _)⟩
    · exact q.elim
  · exact q.elim
/-! ### len(set(..)) of numbers that are all different -/
def ndI : List Int → Bool
  | [] => true
  | n :: r => !(r.any fun m => decide (m = n)) && ndI r
theorem ndI_ok : ∀ {l : List Int}, ndI l = true → l.Nodup
  | [], _ => List.nodup_nil
  | n :: r, h => by
    unfold ndI at h
    rw [Bool.and_eq_true, Bool.not_eq_true'] at h
    refine List.nodup_cons.mpr ⟨fun m => ?_, ndI_ok h.2⟩
    have := List.any_eq_false.mp h.1 n m
    simp at this
def eLenSet (f : Ev T) : Ev T := fun τ M => (f τ M).bind fun t M' => match t with
  | .lst ts => match inTs ts with
    | some ns => if ndI ns && decide (ns.length ≤ 4000) then .ok (.int (ns.length : Nat)) M' else .stuck
    | none => .stuck
  | _ => .stuck
theorem se_lenSet {p2 q2 : Pos} (B : Blt X.mg) (ha : SE false X a fa) (hc : X.calm = true := by rfl) (hg : Gl X "len" := by rfl) (hg2 : Gl X "set" := by rfl) (na : starEach [a] X.env = (false, eval a X.env) :: starEach [] X.env := by rfl) :
    SE false X (.Call (.Name "len" p) [.Call (.Name "set" p2) [a] [] q2] [] pos) (eLenSet fa) := by
  refine pe_imp (RZ.pe_lenSetI hg B.len hg2 B.set ha hc na) fun σ H Q ⟨w, τ, e, g, n, q⟩ => ?_
  subst e
  refine ⟨w, τ, rfl, g, n, Res.all_mono (fun t M' q w1 v x1 g1 e1 r1 _ => ?_) (Res.all_bind q)⟩
  subst e1
  split at q
  · split at q
    · rename_i ns hns
      split at q
      · rename_i h
        rw [Bool.and_eq_true, decide_eq_true_eq] at h
        cases r1 with
        | lst n0 d l =>
          have e := inTs_rep l hns
          subst e
          exact ⟨_, ns, rfl, .inl d, ndI_ok h.1, h.2, post_ok (post_ext q x1) g1 (.int _)⟩
      · exact q.elim
    · exact q.elim
  · exact q.elim
/-! ### *e -/
def eStar (f : Ev T) (g : Ev (List T)) : Ev (List T) := fun τ M => (f τ M).bind fun t M1 => match t with
  | .lst xs => (g τ M1).bind fun ys M2 => .ok (xs ++ ys) M2
  | .tup xs => (g τ M1).bind fun ys M2 => .ok (xs ++ ys) M2
  | _ => .stuck
theorem sa_star {fs : Ev (List T)} (ha : SE false X e fa) (hr : SA X es fs) (hs : starEach (.Starred e p :: es) X.env = (true, eval e X.env) :: starEach es X.env := by rfl) : SA X (.Starred e p :: es) (eStar fa fs) := by
  refine pa_imp (StX.pa_star ha hr hs) fun σ H Q ⟨w, τ, e, g, n, q⟩ => ?_
  subst e
  refine ⟨w, τ, rfl, g, n, Res.all_mono (fun t M1 q w1 v x1 g1 e1 r1 _ => ?_) (Res.all_bind q)⟩
  subst e1
  split at q
  · cases r1 with
    | lst n0 d l =>
      refine ⟨_, _, rfl, .inr (.inl d), w1, τ, rfl, g1, n.mono x1, Res.all_mono (fun us M2 q w2 vs x2 g2 e2 r2 => ?_) (Res.all_bind q)⟩
      subst e2
      exact q w2 _ (x1.trans x2) g2 rfl ((l.mono x2).append r2)
  · cases r1 with
    | tup n0 d l =>
      refine ⟨_, _, rfl, .inl (.inl (.inl d)), w1, τ, rfl, g1, n.mono x1, Res.all_mono (fun us M2 q w2 vs x2 g2 e2 r2 => ?_) (Res.all_bind q)⟩
      subst e2
      exact q w2 _ (x1.trans x2) g2 rfl ((l.mono x2).append r2)
  · exact q.elim

/-! ### x, y = a, b at once -/
def sPar (i j : Nat) (fs : Ev (List T)) : Ev Fl := fun τ M => (fs τ M).bind fun ts M' => match ts with
  | [t, u] => .ok (.nx ((τ.set i (some t)).set j (some u))) M'
  | _ => .stuck
def sPar3 (i j l : Nat) (fs : Ev (List T)) : Ev Fl := fun τ M => (fs τ M).bind fun ts M' => match ts with
  | [t, u, v] => .ok (.nx (((τ.set i (some t)).set j (some u)).set l (some v))) M'
  | _ => .stuck
theorem ss_par {i j : Nat} {x y : Str} {px py pt : Pos} {kt k2 pt2} {fs : Ev (List T)} (hN : X.N.Nodup) (ha : SA X [a, b] fs) (hi : X.N[i]? = some x := by rfl) (hj : X.N[j]? = some y := by rfl) (hij : i ≠ j := by decide)
    (hx : X.env.scope.names.lookup x = some .local := by rfl) (hy : X.env.scope.names.lookup y = some .local := by rfl)
    (hw : swappedStores [.Tuple [.Name x px, .Name y py] kt pt] (.Tuple [a, b] k2 pt2) X.env = pure (some [x, y]) := by rfl)
    (hs : swapsWithSole [.Tuple [.Name x px, .Name y py] kt pt] (.Tuple [a, b] k2 pt2) pos.line X.env = pure false := by rfl) (hc : X.calm = true := by rfl) :
    SS F X (.Assign [.Tuple [.Name x px, .Name y py] kt pt] (.Tuple [a, b] k2 pt2) pos) (sPar i j fs) := by
  refine ps_imp (ps_par hc hN hi hj hij hx hy ha hw hs) fun D σ H ⟨w, τ, e, g, n, q⟩ => ?_
  subst e
  refine ⟨w, τ, rfl, g, n, Res.all_mono (fun ts M1 q w1 vs x1 g1 e1 r1 => ?_) (Res.all_bind q)⟩
  subst e1
  split at q
  · obtain ⟨v, z, rfl, ra, rb⟩ := repL2 r1
    exact ⟨v, z, rfl, q w1 x1 g1 rfl _ (((n.mono x1).set ra i).set rb j)⟩
  · exact q.elim
theorem repL3 {w : Wd} {vs : List V} {t u s : T} (r : RepL w vs [t, u, s]) : ∃ v z y, vs = [v, z, y] ∧ Rep w v t ∧ Rep w z u ∧ Rep w y s := by
  cases r with
  | cons r1 l => obtain ⟨z, y, rfl, a, b⟩ := repL2 l; exact ⟨_, z, y, rfl, r1, a, b⟩
theorem ss_par3 {i j l : Nat} {x y z : Str} {c : Expr} {px py pz pt : Pos} {kt k2 pt2} {fs : Ev (List T)} (hN : X.N.Nodup) (ha : SA X [a, b, c] fs) (hi : X.N[i]? = some x := by rfl) (hj : X.N[j]? = some y := by rfl) (hl : X.N[l]? = some z := by rfl) (hij : i ≠ j := by decide) (hil : i ≠ l := by decide) (hjl : j ≠ l := by decide)
    (hx : X.env.scope.names.lookup x = some .local := by rfl) (hy : X.env.scope.names.lookup y = some .local := by rfl) (hz : X.env.scope.names.lookup z = some .local := by rfl)
    (hw : swappedStores [.Tuple [.Name x px, .Name y py, .Name z pz] kt pt] (.Tuple [a, b, c] k2 pt2) X.env = pure (some [x, y, z]) := by rfl)
    (hs : swapsWithSole [.Tuple [.Name x px, .Name y py, .Name z pz] kt pt] (.Tuple [a, b, c] k2 pt2) pos.line X.env = pure false := by rfl) (hc : X.calm = true := by rfl) :
    SS F X (.Assign [.Tuple [.Name x px, .Name y py, .Name z pz] kt pt] (.Tuple [a, b, c] k2 pt2) pos) (sPar3 i j l fs) := by
  refine ps_imp (ps_par3 hc hN hi hj hl hij hil hjl hx hy hz ha hw hs) fun D σ H ⟨w, τ, e, g, n, q⟩ => ?_
  subst e
  refine ⟨w, τ, rfl, g, n, Res.all_mono (fun ts M1 q w1 vs x1 g1 e1 r1 => ?_) (Res.all_bind q)⟩
  subst e1
  split at q
  · obtain ⟨v, z, y, rfl, ra, rb, rc⟩ := repL3 r1
    exact ⟨v, z, y, rfl, q w1 x1 g1 rfl _ ((((n.mono x1).set ra i).set rb j).set rc l)⟩
  · exact q.elim

/-! ### compares: also of what stands in the store -/
def PureC (X : Cx) (op : CmpOp) (k0 : T → T → Option Bool) : Prop := ∃ r, OpR X (compareOp op) r ∧ ∀ w x y a b c (Q : VK), Rep w x a → Rep w y b → k0 a b = some c → Q (.bl c) w.H → r x y w.H Q
def kVw (k0 : T → T → Option Bool) (a b : T) (M : Sto) : Res T := match k0 a b with
  | some c => .ok (.bl c) M
  | none => match frzD 6 (.tup [a, b]) M with
    | some (.tup [a', b'], _) => match k0 a' b' with
      | some c => .ok (.bl c) M
      | none => .stuck
    | _ => .stuck
theorem view2 {mg : Str → Option Value} {w : Wd} {x y : V} {a b a' b' : T} {M' : Sto} (g : Good mg w) (r1 : Rep w x a) (r2 : Rep w y b) (h : frzD 6 (.tup [a, b]) w.M = some (.tup [a', b'], M')) : ∃ w', w'.H = w.H ∧ Rep w' x a' ∧ Rep w' y b' := by
  have e : frzD 6 (.tup [a, b]) w.M = (match frzM (frzD 5) [a, b] w.M with
    | some (us, M') => some (.tup us, M')
    | none => none) := rfl
  rw [e] at h
  split at h
  · rename_i us M1 h1
    cases h
    obtain ⟨w', e1, _, _, _, r⟩ := frzM_ok (frzD_ok 5) h1 g (.cons r1 (.cons r2 .nil))
    obtain ⟨v, z, e2, ra, rb⟩ := repL2 r
    cases e2
    exact ⟨w', e1, ra, rb⟩
  · cases h
theorem PureC.ok {op : CmpOp} {k0 : T → T → Option Bool} (h : PureC X op k0) : CmpOk X op (kVw k0) := by
  obtain ⟨r, hr, h⟩ := h
  refine ⟨r, hr, fun w x y a b Q g r1 r2 q => ?_⟩
  unfold kVw at q
  split at q
  · rename_i c hc
    exact h w x y a b c Q r1 r2 hc (post_ok q g (.bl _))
  · split at q
    · rename_i a' b' M' hf
      split at q
      · rename_i c hc
        obtain ⟨w', e, r1', r2'⟩ := view2 g r1 r2 hf
        have := h w' x y a' b' c Q r1' r2' hc
        rw [e] at this
        exact this (post_ok q g (.bl _))
      · exact q.elim
    · exact q.elim
def kEq0 (a b : T) : Option Bool := match toD a, toD b with
  | some d, some e => if SeqAt.shaped d && SeqAt.shaped e then some (PyData.eqv d e) else none
  | _, _ => match a, b with
    | .dic ks xs, .dic ls ys => match toDs xs, toDs ys with
      | some ds, some es => if ds.all SeqAt.shaped && es.all SeqAt.shaped then some (ks.length == ls.length && dicEq ks ds ls es) else none
      | _, _ => none
    | _, _ => none
def kNe0 (a b : T) : Option Bool := match toD a, toD b with
  | some d, some e => if SeqAt.shaped d && SeqAt.shaped e then some (!PyData.eqv d e) else none
  | _, _ => none
theorem p_eq {k : Nat} (hr : Room k X.A) : PureC X .Eq kEq0 := ⟨_, OpR.or (op_eqD hr.units) (op_eqDD (by have := hr.un; omega)), fun w x y a b c Q r1 r2 h q => by
  unfold kEq0 at h
  split at h
  · rename_i d e h1 h2
    split at h
    · rename_i hs
      cases h
      rw [Bool.and_eq_true] at hs
      exact .inl ⟨d, e, r1.dp h1, r2.dp h2, hs.1, hs.2, q⟩
    · cases h
  · split at h
    · rename_i ks xs ls ys _
      split at h
      · rename_i ds es h1 h2
        split at h
        · rename_i hs
          rw [Bool.and_eq_true] at hs
          cases h
          cases r1 with
          | dic n1 d1 e1 nd1 l1 =>
            cases r2 with
            | dic n2 d2 e2 nd2 l2 =>
              subst e1 e2
              refine .inr ⟨_, _, _, _, ds, es, rfl, rfl, d1, d2, l1.dp h1, l2.dp h2, hs.1, hs.2, ?_⟩
              rw [List.length_map, List.length_map] at q
              exact q
        · cases h
      · cases h
    · cases h⟩
theorem p_ne {k : Nat} (hr : Room k X.A) : PureC X .NotEq kNe0 := ⟨_, op_neD hr.units, fun w x y a b c Q r1 r2 h q => by
  unfold kNe0 at h
  split at h
  · rename_i d e h1 h2
    split at h
    · rename_i hs
      cases h
      rw [Bool.and_eq_true] at hs
      exact ⟨d, e, r1.dp h1, r2.dp h2, hs.1, hs.2, q⟩
    · cases h
  · cases h⟩
theorem p_in {k : Nat} (hr : Room k X.A) : PureC X .In kIn0 := ⟨_, OpR.or (op_in_dict (by have := hr.un; omega)) (OpR.or op_in_seq (op_inD (by have := hr.un; omega))), fun w x y a b c Q r1 r2 h q => by
  rcases kIn0_ok (K := X.K) r1 r2 h with ⟨ad, o, e, hd, hc⟩ | ⟨p, xs, e, hs, f1, f2, hc⟩ | ⟨d, ds, h1, h2, h3, h4, hc⟩
  · subst hc; exact .inl ⟨ad, o, e, hd, q⟩
  · subst hc; exact .inr (.inl ⟨p, xs, e, hs, f1, f2, by show Q (.bl (if false = true then _ else inV x xs)) w.H; rw [if_neg (by decide)]; exact q⟩)
  · subst hc; exact .inr (.inr ⟨d, ds, h1, h2, h3, h4, q⟩)⟩
theorem p_nin {k : Nat} (hr : Room k X.A) : PureC X .NotIn (fun a b => (kIn0 a b).map not) := ⟨_, OpR.or (op_notin_dict (by have := hr.un; omega)) (OpR.or op_notIn_seq (op_notInD (by have := hr.un; omega))), fun w x y a b c Q r1 r2 h q => by
  cases hh : kIn0 a b with
  | none => simp only [hh] at h; cases h
  | some c0 =>
    simp only [hh, Option.map_some, Option.some.injEq] at h
    subst h
    rcases kIn0_ok (K := X.K) r1 r2 hh with ⟨ad, o, e, hd, hc⟩ | ⟨p, xs, e, hs, f1, f2, hc⟩ | ⟨d, ds, h1, h2, h3, h4, hc⟩
    · subst hc; exact .inl ⟨ad, o, e, hd, q⟩
    · subst hc; exact .inr (.inl ⟨p, xs, e, hs, f1, f2, by show Q (.bl (if true = true then !inV x xs else _)) w.H; rw [if_pos rfl]; exact q⟩)
    · subst hc; exact .inr (.inr ⟨d, ds, h1, h2, h3, h4, q⟩)⟩
end
end TL
end
section
set_option Elab.async false
set_option linter.all false
set_option maxRecDepth 100000
/-! TL13: {**d, k: v}. -/
namespace PySem
open Sem (wp)
section
variable {prog : Program} {w : World} {K : Type} [DecidableEq K] {knd : KeyKind prog w K} {A : Around} {E : Value → Shared → Prop} {s : Shared}
/-- a key's entry is written, or laid behind the others -/
theorem dictOf_put {h : Heap} {d : Addr} {acc : List (K × Value)} {k : K} {key v : Value} (hk : knd.is k key = true) (D : h.DictOf knd d acc) (small : acc.length ≤ sizeLine) :
    ∃ (ob : Obj) (es : Array DictEntry) (n : Nat), h.get? d = some ob ∧ ob.data = .dict es n ∧ KeysOf knd es ∧ es.size ≤ sizeLine ∧
      ∀ r, (es.findIdx? fun e => knd.is k e.key) = r → (match r with
        | some j => (h.update d (Obj.mapDict (·.modify j fun e => { e with val := v }))).DictOf knd d (stored acc k v)
        | none => (h.update d (Obj.mapDictKeys (·.push ⟨knd.hash k, key, v⟩))).DictOf knd d (stored acc k v)) := by
  obtain ⟨ob, ⟨l⟩, n, g, ex, dt, ks, pr, nd⟩ := D
  have same : (l.findIdx? fun e => knd.is k e.key) = acc.findIdx? fun p => decide (p.1 = k) := pr.findIdx k
  refine ⟨ob, ⟨l⟩, n, g, dt, ks, by have := pr.length; simpa [this] using small, fun r hr => ?_⟩
  have hr : (l.findIdx? fun e => knd.is k e.key) = r := by simpa using hr
  cases r with
  | some j =>
    have old : (acc.any fun p => decide (p.1 = k)) = true := any_of_findIdx_some (same ▸ hr)
    have p2 := pr.modify nd hr v
    refine ⟨_, _, n, Heap.get?_update_self _ g (Obj.isFreed_of_dict (Obj.data_mapDict dt _)), ex.mapDict _, Obj.data_mapDict dt _, ks.modify _ _, ?_, ?_⟩
    · unfold stored
      rw [if_pos old]
      simpa using p2
    · unfold stored
      rw [if_pos old, keys_map_store]
      exact nd
  | none =>
    have out : k ∉ acc.map (·.1) := not_mem_of_findIdx_none (same ▸ hr)
    have fresh : (acc.any fun p => decide (p.1 = k)) = false := by
      rw [List.any_eq_false]
      intro p hp z
      exact out (of_decide_eq_true z ▸ List.mem_map_of_mem hp)
    have p2 := pr.append hk (knd.hash k) v
    refine ⟨_, _, n + 1, Heap.get?_update_self _ g (Obj.isFreed_of_dict (Obj.data_mapDictKeys dt _)), ex.mapDictKeys _, Obj.data_mapDictKeys dt _, ks.push hk _, ?_, ?_⟩
    · unfold stored
      rw [fresh]
      simpa using p2
    · unfold stored
      rw [fresh]
      have : ((acc ++ [(k, v)]).map (·.1)).Nodup := by
        rw [List.map_append, List.nodup_append]
        exact ⟨nd, List.nodup_cons.mpr ⟨List.not_mem_nil, List.nodup_nil⟩, fun a ha b hb z => out (by rw [z, List.mem_singleton.mp hb] at ha; exact ha)⟩
      simpa using this
theorem put_walk {d : Addr} {acc : List (K × Value)} {k : K} {key v : Value} {Q : Unit → Shared → Prop} (hk : knd.is k key = true) (D : s.heap.DictOf knd d acc) (small : acc.length ≤ sizeLine)
    (then_ : ∀ h1, h1.DictOf knd d (stored acc k v) → Heap.SameBut d s.heap h1 → Q () { s with heap := h1 }) : wpAny (model prog w) A (dictPut d (knd.hash k) key v) Q E s := by
  obtain ⟨ob, es, n, g, dt, ks, sz, both⟩ := dictOf_put (v := v) hk D small
  unfold dictPut
  refine wpAny_bind (wpAny_dictFind_of hk g dt ks ?_)
  have := both _ rfl
  split
  · rename_i j hj
    rw [hj] at this
    exact wpAny_updateDict g dt (then_ _ this (Heap.SameBut.update ..))
  · rename_i hj
    rw [hj] at this
    exact wpAny_updateDictKeys (hz := sz) g dt (then_ _ this (Heap.SameBut.update ..))
/-- all that stands in one dict is put into another one -/
theorem merge_walk {d o : Addr} {acc src : List (K × Value)} {Q : Unit → Shared → Prop} (apart : d ≠ o) (noSys : (o == sysModules) = false) (noRef : ∀ k a, knd.is k (.ref a) = false)
    (D : s.heap.DictOf knd d acc) (S : s.heap.DictOf knd o src) (small : acc.length + src.length ≤ sizeLine)
    (then_ : ∀ h1, h1.DictOf knd d (merged acc src) → h1.DictOf knd o src → Heap.SameBut d s.heap h1 → Q () { s with heap := h1 }) : wpAny (model prog w) A (mergeMapping d (.ref o) false) Q E s := by
  obtain ⟨ob, es0, n0, g0, _, dt0, _, _, _⟩ := id D
  obtain ⟨so, es, n, gS, exS, dtS, ksS, prS, ndS⟩ := id S
  have lenS : src.length = es.size := by have := prS.length; simpa using this.symm
  unfold mergeMapping
  refine wpAny_bind (wpAny_isInstance S.typeIs isSubtype_dict_dict ?_)
  rw [if_pos rfl]
  refine wpAny_bind (wpAny_specialOf S.typeIs F.slot_dict_iter.lookup ?_)
  simp only [beq_self_eq_true]
  refine wpAny_bind (wpAny_pure ?_)
  simp only [noSys, Bool.false_eq_true, if_false]
  -- the turns, from the i-th entry on
  have turns : ∀ (m i : Nat) (h1 : Heap), i + m = es.size → h1.DictOf knd d (merged acc (src.take i)) → h1.get? o = some so → Heap.SameBut d s.heap h1 →
      wpAny (model prog w) A (forIn (List.range' i m) PUnit.unit fun j (_ : PUnit) => (do
          match (← dictEntries o)[j]? with
            | some e => do
              holding [e.key, e.val] (dictPut d e.hash e.key e.val)
              if (← dictEpoch o) != n then do
                (unsupported "dict.changed-during-merge" : Sem PUnit)
                pure (ForInStep.yield PUnit.unit)
              else pure (ForInStep.yield PUnit.unit)
            | _ => do
              (unsupported "dict.changed-during-merge" : Sem PUnit)
              pure (ForInStep.yield PUnit.unit) : Sem (ForInStep PUnit))) (fun _ t => wpAny (model prog w) A (pure ()) Q E t) E { s with heap := h1 } := by
    intro m
    induction m with
    | zero =>
      intro i h1 hi D1 g1 sb
      have all : src.take i = src := List.take_of_length_le (by omega)
      rw [all] at D1
      exact wpAny_pure (wpAny_pure (then_ h1 D1 ⟨so, es, n, g1, exS, dtS, ksS, prS, ndS⟩ sb))
    | succ m ih =>
      intro i h1 hi D1 g1 sb
      have lt : i < es.size := by omega
      obtain ⟨⟨k, v⟩, at_i⟩ : ∃ p, src[i]? = some p := ⟨src[i]'(by omega), List.getElem?_eq_getElem _⟩
      have e_i : es[i]? = some es[i] := Array.getElem?_eq_getElem lt
      obtain ⟨isK, isV⟩ := prS.get? (e := es[i]) (by simpa using e_i) at_i
      obtain ⟨k2, isK2, hash⟩ := ksS es[i] (Array.getElem_mem lt)
      have kk := knd.inj _ _ _ isK2 isK
      subst kk
      rw [List.range'_succ, List.forIn_cons]
      refine wpAny_bind (wpAny_bind (wpAny_dictEntries g1 dtS ?_))
      rw [e_i]
      have sm : (merged acc (src.take i)).length ≤ sizeLine := by
        have a := merged_length_le acc (src.take i)
        rw [List.length_take] at a
        omega
      refine wpAny_bind (wpAny_holding ?_)
      rw [hash, isV]
      refine put_walk isK D1 sm fun h2 D2 sb2 => ?_
      have g2 : h2.get? o = some so := (sb2.2 o apart.symm).trans g1
      refine wpAny_bind (wpAny_dictEpoch g2 dtS ?_)
      rw [if_neg (by simp)]
      rw [← merged_take_succ acc src i (k2, v) at_i] at D2
      exact wpAny_pure (ih (i + 1) h2 (by omega) D2 g2 (sb.trans sb2))
  have go := turns es.size 0 s.heap (Nat.zero_add _) (by simpa [merged] using D) gS (Heap.SameBut.refl _ _)
  rw [← List.range_eq_range'] at go
  have main : wpAny (model prog w) A (do
      let all ← dictEntries o
      let ep ← dictEpoch o
      for j in List.range all.size do
        let some e := (← dictEntries o)[j]? | unsupported "dict.changed-during-merge"
        holding [e.key, e.val] do
          dictPut d e.hash e.key e.val
        if (← dictEpoch o) != ep then unsupported "dict.changed-during-merge") Q E s :=
    wpAny_bind (wpAny_dictEntries gS dtS (wpAny_bind (wpAny_dictEpoch gS dtS (wpAny_bind go))))
  refine wpAny_bind (wpAny_dictEntries g0 dt0 ?_)
  split
  · refine wpAny_bind (wpAny_dictEntries gS dtS (wpAny_bind ?_))
    rw [← Array.forIn_toList]
    refine wpAny_forIn_list _ (fun left _ t => t = s ∧ ∀ e ∈ left, e ∈ es) _ ?_ ?_ _ _ ⟨rfl, fun e he => Array.mem_toList_iff.mp he⟩
    · rintro e left u t ⟨rfl, sub⟩
      split
      · rename_i a z
        obtain ⟨k2, isK, _⟩ := ksS e (sub e List.mem_cons_self)
        rw [z, noRef] at isK
        cases isK
      · exact wpAny_pure ⟨rfl, fun e he => sub e (List.mem_cons_of_mem _ he)⟩
    · rintro u t ⟨rfl, _⟩
      exact main
  · exact main
end
end PySem
end
section
set_option Elab.async false
set_option linter.all false
set_option maxRecDepth 100000
/-! TL14: dict displays by trees. -/
namespace TL
open PySem PySem.Spec PyProof.Rows L2

def tDStar (tm : TE) (trs : List (TE × TE)) : TE := fun σ H Q => ∀ p, H p = none → tm σ (upd H p (.dK [])) fun x H1 => H1 p = some (.dK []) ∧ ∃ (a : Addr) (kvs : List (Key × V)), x = .ref a ∧ a ≠ p ∧ Rd H1 a (.dK kvs) ∧ kvs.length ≤ 1000000 ∧
  ∀ q, q ≠ p → (upd H1 p (.dK kvs)) q = none → tPairs trs σ (upd (upd H1 p (.dK kvs)) q (.dK [])) fun ps H2 => H2 p = some (.dK kvs) ∧ H2 q = some (.dK []) ∧ ∃ more : List (Key × V), ps = more.map (fun kv => (kV kv.1, kv.2)) ∧ more.length ≤ 15 ∧
    Q (.ref p) (upd (upd H2 q (.dK (mergeK [] more))) p (.dK (mergeK kvs (mergeK [] more))))
theorem mix_nr {P : Program} {w : World} : ∀ (k : Key) (a : Addr), (mixKind P w).is k (.ref a) = false := fun k a => by
  cases h : (mixKind P w).is k (.ref a) with
  | false => rfl
  | true =>
    exact (by
      rcases keyIs_shape h with ⟨i, t, _, e⟩ | ⟨x, t, _, e⟩ <;> cases e)
theorem pe_dstar {X : Cx} {m k v : Expr} {pos : Pos} {tm : TE} {trs : List (TE × TE)} (hm : PE X m tm) (h : PPs X pos [some k] [v] trs) : PE X (.Dict [none, some k] [m, v] pos) (tDStar tm trs) := by
  refine ⟨fun pins s σ H Q I q => ?_⟩
  have hn := I.hok.fresh (Nat.le_refl s.heap.objs.size)
  have I1 := I.laid (a := s.heap.objs.size) (o := .dK []) (h' := s.heap.push { cls := .type "dict", data := .dict #[] }) (t' := s.toks) (fun _ _ q => Heap.get?_push_of_some _ q) (Nat.le_refl _) (dk_empty s.heap I.big)
  rw [arm_eval_Dict]
  refine wpAny_bind (wpAny_standAt ?_)
  have e0 : (evalEachOpt [none, some k] X.env).zip ((evalEach [m, v] X.env).map fun v => do let x ← v; standAt pos; pure x) = [(none, do let x ← eval m X.env; standAt pos; pure x), (some (eval k X.env), do let x ← eval v X.env; standAt pos; pure x)] := rfl
  rw [e0]
  conv in dictDisplay _ => (unfold dictDisplay; simp [List.forIn_cons, List.forIn_nil])
  refine wpAny_bind (wpAny_alloc ?_)
  refine wpAny_bind (wpAny_holding (wpAny_bind (thn (hm.run pins _ σ _ _ I1 (q _ hn)) fun mv s1 ⟨x, H1, I2, rx, e1, a, kvs, ex, hne, hd1, hl1, q1⟩ => wpAny_bind (wpAny_standAt (wpAny_pure ?_)))))
  subst ex
  obtain rfl : mv = .ref a := rx
  obtain ⟨_, hsp, vs0, r0, dd0⟩ := dk_of I2.hok e1
  cases r0
  obtain ⟨hz1, hsa, vs1, r1, dd1⟩ := dk_rd I2.hok hd1
  have hnd : (vs1.map (·.1)).Nodup := by obtain ⟨_, _, _, _, _, _, _, _, z⟩ := dd1; exact z
  have hlv : vs1.length = kvs.length := (Paired.length r1).symm
  refine wpAny_bind (wpAny_onRaise (wpAny_tryCatch (wpAny_onRaise (wpAny_holding (merge_walk (Ne.symm hne) hsa mix_nr dd0 dd1 (by rw [hlv]; simpa using hz1) (fun h' d1 d2 sb => ?_))))))
  rw [merged_nil_of_nodup vs1 hnd] at d1
  have he1 : ∃ q, h'.get? s.heap.objs.size = some q := let ⟨q, _, _, hq, _⟩ := d1; ⟨q, hq⟩
  have I3 := d_write (t' := s1.toks) I2 (by rw [e1]; exact True.intro) sb he1 (dk_new hz1 hsp r1 d1)
  have hn3 := I3.hok.fresh (Nat.le_refl h'.objs.size)
  have hqp : h'.objs.size ≠ s.heap.objs.size := fun e => by rw [e, upd_same] at hn3; cases hn3
  have I4 := I3.laid (a := h'.objs.size) (o := .dK []) (h' := h'.push { cls := .type "dict", data := .dict #[] }) (t' := s1.toks) (fun _ _ q => Heap.get?_push_of_some _ q) (Nat.le_refl _) (dk_empty h' I3.big)
  refine wpAny_bind (wpAny_holding (wpAny_subDict (knd := mixKind X.prog X.w) (Nat.succ_le_succ (Nat.zero_le 14)) (thn (h.run pins _ σ _ _ I4 (q1 _ hqp hn3)) fun ws s2 ⟨ps, H2, I5, rel, e2, e3, more, ep, hl, q2⟩ => ?_)))
  subst ep
  obtain ⟨rs, c, rk⟩ := carries_of (P := X.prog) (w := X.w) rel
  obtain ⟨_, hsq, vs2, r2, dd2⟩ := dk_of I5.hok e3
  cases r2
  refine ⟨rs, c, dd2, fun h2 dd3 sb2 => ?_⟩
  have hz : (mergeK [] more).length ≤ 15 := by
    have h1 := length_mergeK more []
    rw [List.length_nil] at h1
    omega
  have hz' : (mergeK [] more).length ≤ sizeLine := by rw [sizeLine_eq]; omega
  have he2 : ∃ q, h2.get? h'.objs.size = some q := let ⟨q, _, _, hq, _⟩ := dd3; ⟨q, hq⟩
  have I6 := d_write (t' := s2.toks + ws.length) I5 (by rw [e3]; exact True.intro) sb2 he2 (dk_new hz' hsq (rk.merge .nil) dd3)
  have e4 : (upd H2 h'.objs.size (.dK (mergeK [] more))) s.heap.objs.size = some (.dK kvs) := by rw [upd_ne hqp.symm]; exact e2
  have e5 : (upd H2 h'.objs.size (.dK (mergeK [] more))) h'.objs.size = some (.dK (mergeK [] more)) := upd_same
  obtain ⟨_, _, vs4, r4, dd4⟩ := dk_of I6.hok e4
  obtain ⟨_, _, vs5, r5, dd5⟩ := dk_of I6.hok e5
  have hl4 : vs4.length = kvs.length := (Paired.length r4).symm
  have hl5 : vs5.length = (mergeK [] more).length := (Paired.length r5).symm
  have hz6 : (mergeK kvs (mergeK [] more)).length ≤ sizeLine := by
    have h1 := length_mergeK (mergeK [] more) kvs
    rw [sizeLine_eq]; omega
  refine wpAny_bind (wpAny_onRaise (wpAny_holding (merge_walk (Ne.symm hqp) hsq mix_nr dd4 dd5 (by rw [hl4, hl5, sizeLine_eq]; omega) (fun h3 d6 d7 sb3 => wpAny_pure ?_))))
  have he3 : ∃ q, h3.get? s.heap.objs.size = some q := let ⟨q, _, _, hq, _⟩ := d6; ⟨q, hq⟩
  exact ⟨.ref s.heap.objs.size, _, d_write I6 (by rw [e4]; exact True.intro) sb3 he3 (dk_new hz6 hsp (r5.merge r4) d6), rfl, q2⟩
end TL
namespace TL
open PySem PySem.Spec PyProof.Rows L2
def mrg : List Key → List T → List (Key × T) → List Key × List T
  | ks, ts, [] => (ks, ts)
  | ks, ts, (k, t) :: r => mrg (putKs k ks) (putTs k t ks ts) r
def RepK (w : Wd) (more : List (Key × V)) (kts : List (Key × T)) : Prop := more.map Prod.fst = kts.map Prod.fst ∧ RepL w (more.map Prod.snd) (kts.map Prod.snd)
theorem merge_rep {w : Wd} : ∀ {kts : List (Key × T)} {more kvs : List (Key × V)} {ks : List Key} {ts : List T}, RepK w more kts → kvs.map Prod.fst = ks → ks.Nodup → RepL w (kvs.map Prod.snd) ts →
    (mergeK kvs more).map Prod.fst = (mrg ks ts kts).1 ∧ (mrg ks ts kts).1.Nodup ∧ RepL w ((mergeK kvs more).map Prod.snd) (mrg ks ts kts).2
  | [], [], kvs, ks, ts, _, e, nd, r => ⟨e, nd, r⟩
  | (k, t) :: r, (k', v) :: more, kvs, ks, ts, h, e, nd, l => by
    obtain ⟨h1, h2⟩ := h
    simp only [List.map_cons, List.cons.injEq] at h1
    obtain ⟨rfl, h1⟩ := h1
    cases h2 with
    | cons a b =>
      obtain ⟨p1, p2, p3⟩ := put_rep (k := k') a e nd l
      exact merge_rep (kts := r) (more := more) ⟨h1, b⟩ p1 p2 p3
  | [], _ :: _, _, _, _, h, _, _, _ => by have := h.1; simp at this
  | _ :: _, [], _, _, _, h, _, _, _ => by have := h.1; simp at this
def dispL : List (Ev T × Ev T) → Ev (List (Key × T))
  | [], _, M => .ok [] M
  | (fk, fv) :: r, τ, M => (fk τ M).bind fun t M1 => (fv τ M1).bind fun u M2 => match toK t with
    | some k => (dispL r τ M2).bind fun kts M3 => .ok ((k, u) :: kts) M3
    | none => .stuck
def eDisp (prs : List (Ev T × Ev T)) : Ev T := fun τ M => (dispL prs τ M).bind fun kts M' => if kts.length ≤ 15 then .ok (.dic (mrg [] [] kts).1 (mrg [] [] kts).2) M' else .stuck
def eDStar (fm : Ev T) (prs : List (Ev T × Ev T)) : Ev T := fun τ M => (fm τ M).bind fun t M1 => match t with
  | .dic ks ts => if ks.length ≤ 1000000 then (dispL prs τ M1).bind fun kts M2 => if kts.length ≤ 15 then .ok (.dic (mrg ks ts (List.zip (mrg [] [] kts).1 (mrg [] [] kts).2)).1 (mrg ks ts (List.zip (mrg [] [] kts).1 (mrg [] [] kts).2)).2) M2 else .stuck else .stuck
  | _ => .stuck
def toTrs (mg : Str → Option Value) (prs : List (Ev T × Ev T)) : List (TE × TE) := prs.map fun p => (tE mg false p.1, tE mg false p.2)
def SPs (X : Cx) (pos : Pos) (ks : List (Option Expr)) (vs : List Expr) (prs : List (Ev T × Ev T)) : Prop := PPs X pos ks vs (toTrs X.mg prs)
section
variable {X : Cx} {pos : Pos} {k v m : Expr} {ks : List (Option Expr)} {vs : List Expr} {fk fv fm : Ev T} {prs : List (Ev T × Ev T)}
theorem sps_nil : SPs X pos [] [] [] := pps_nil
theorem sps_cons (hk : SE false X k fk) (hv : SE false X v fv) (hr : SPs X pos ks vs prs) : SPs X pos (some k :: ks) (v :: vs) ((fk, fv) :: prs) := pps_cons hk hv hr
theorem pairs_imp {mg : Str → Option Value} : ∀ {prs : List (Ev T × Ev T)} {w : Wd} {σ : L2.St} {τ : Tau} {Q : List (V × V) → Hp → Prop}, Good mg w → Nm w σ τ →
    ((dispL prs τ w.M).all fun kts M' => ∀ w1 (more : List (Key × V)), Ext w w1 → Good mg w1 → w1.M = M' → RepK w1 more kts → Q (more.map fun kv => (kV kv.1, kv.2)) w1.H) → tPairs (toTrs mg prs) σ w.H Q
  | [], w, σ, τ, Q, g, n, q => q w [] (.refl w) g rfl ⟨rfl, .nil⟩
  | (fk, fv) :: r, w, σ, τ, Q, g, n, q => by
    refine ⟨w, τ, rfl, g, n, Res.all_mono (fun t M1 q w1 x x1 g1 e1 r1 _ => ?_) (Res.all_bind q)⟩
    subst e1
    refine ⟨w1, τ, rfl, g1, n.mono x1, Res.all_mono (fun u M2 q w2 y x2 g2 e2 r2 _ => ?_) (Res.all_bind q)⟩
    subst e2
    split at q
    · rename_i kk hk
      have ex := toK_rep r1 hk
      subst ex
      refine pairs_imp g2 ((n.mono x1).mono x2) (Res.all_mono (fun kts M3 q w3 more x3 g3 e3 r3 => ?_) (Res.all_bind q))
      subst e3
      exact q w3 ((kk, y) :: more) ((x1.trans x2).trans x3) g3 rfl ⟨by simp only [List.map_cons]; rw [r3.1], .cons (r2.mono x3) r3.2⟩
    · exact q.elim
theorem upd_cut {w : Wd} {D : Addr} {R0 : Addr → Prop} {ho : HO} : upd (w.cut D R0).H D ho = upd w.H D ho := by
  funext b
  by_cases h : b = D
  · rw [h, upd_same, upd_same]
  · rw [upd_ne h, upd_ne h]; exact if_neg h
theorem se_disp (h : SPs X pos ks vs prs) (hall : ks.all (·.isSome) = true := by rfl) (hl : ks.length = vs.length := by rfl) (h0 : ks ≠ [] := by exact List.cons_ne_nil _ _) (h15 : ks.length ≤ 15 := by decide) : SE true X (.Dict ks vs pos) (eDisp prs) := by
  refine pe_imp (pe_disp h hall hl h0 h15) fun σ H Q ⟨w, τ, e, g, n, q⟩ => ?_
  subst e
  intro p hp
  have gh := g.hold (ho := .dK []) hp
  have xh := Ext.hold (ho := .dK []) g hp
  refine pairs_imp (w := w.hold p (.dK [])) gh (n.mono xh) (Res.all_mono (fun kts M' q w1 more x1 g1 e1 rk => ?_) (Res.all_bind q))
  subst e1
  split at q
  · rename_i hl15
    have RD : w1.R p := x1.R p (.inr rfl)
    have xx := xh.trans x1
    have gc := g1.cut xx g hp RD
    have xc := Ext.cut xx g hp RD
    have hn : (w1.cut p w.R).H p = none := if_pos rfl
    have kc := Keep.cut (w0 := w) RD xx.R
    have rk' : RepK (w1.cut p w.R) more kts := ⟨rk.1, rk.2.kept kc⟩
    obtain ⟨m1, m2, m3⟩ := merge_rep rk' (kvs := []) rfl List.nodup_nil .nil
    refine ⟨(x1.Rk p (.inr rfl)).trans upd_same, more, rfl, ?_, ?_⟩
    · have := congrArg List.length rk.1
      rw [List.length_map, List.length_map] at this
      omega
    · have := post_dic (post_ext (w1 := w1.cut p w.R) q xc) gc hn m1 m2 m3
      rw [upd_cut] at this
      exact this
  · exact q.elim
theorem se_dstar (hm : SE false X m fm) (h : SPs X pos [some k] [v] prs) : SE true X (.Dict [none, some k] [m, v] pos) (eDStar fm prs) := by
  refine pe_imp (pe_dstar hm h) fun σ H Q ⟨w, τ, e, g, n, q⟩ => ?_
  subst e
  intro p hp
  have gh := g.hold (ho := .dK []) hp
  have xh := Ext.hold (ho := .dK []) g hp
  refine ⟨w.hold p (.dK []), τ, rfl, gh, n.mono xh, Res.all_mono (fun t M' q w1 x x1 g1 e1 r1 ff => ?_) (Res.all_bind q)⟩
  clear ff
  subst e1
  have RD : w1.R p := x1.R p (.inr rfl)
  have eD := (x1.Rk p (.inr rfl)).trans upd_same
  refine ⟨eD, ?_⟩
  split at q
  · rename_i ks ts
    split at q
    · rename_i hks
      cases r1 with
      | @dic a kvs _ _ nE d e1 nd l =>
      have hne : a ≠ p := fun e => nE (.inl (by rw [e]; exact RD))
      refine ⟨a, kvs, rfl, hne, d, by rw [← e1, List.length_map] at hks; exact hks, fun q0 hq0 hn0 => ?_⟩
      -- p is written, q0 laid
      have RD2 : (w1.wrR p (.dK kvs)).R p := RD
      have g2 : Good X.mg (w1.wrR p (.dK kvs)) := g1.wrR RD
      have x2 : Ext w (w1.wrR p (.dK kvs)) := Ext.wrR (xh.trans x1) g1 g hp RD
      have gh2 := g2.hold (ho := .dK []) hn0
      have xh2 := Ext.hold (ho := .dK []) g2 hn0
      refine pairs_imp (w := (w1.wrR p (.dK kvs)).hold q0 (.dK [])) gh2 ((n.mono x2).mono xh2) (Res.all_mono (fun kts M' q w3 more x3 g3 e3 rk => ?_) (Res.all_bind q))
      subst e3
      split at q
      · rename_i hl15
        have R3p : w3.R p := x3.R p (.inl RD)
        have R3q : w3.R q0 := x3.R q0 (.inr rfl)
        have e3p : w3.H p = some (.dK kvs) := (x3.Rk p (.inl RD)).trans (by show upd (upd w1.H p (.dK kvs)) q0 (.dK []) p = _; rw [upd_ne hq0.symm, upd_same])
        have e3q : w3.H q0 = some (.dK []) := (x3.Rk q0 (.inr rfl)).trans upd_same
        refine ⟨e3p, e3q, more, rfl, by have := congrArg List.length rk.1; rw [List.length_map, List.length_map] at this; omega, ?_⟩
        have l3 : RepL w3 (kvs.map Prod.snd) ts := ((l.kept (Keep.wrR (ho := .dK kvs) RD)).mono xh2).mono x3
        have x23 := xh2.trans x3
        have kA := Keep.cut (w0 := w1.wrR p (.dK kvs)) R3q x23.R
        have gA := g3.cut x23 g2 hn0 R3q
        have xA := Ext.cut x23 g2 hn0 R3q
        have hA : (w3.cut q0 (w1.wrR p (.dK kvs)).R).H q0 = none := if_pos rfl
        obtain ⟨m1, m2, m3⟩ := merge_rep (ks := []) ((⟨rk.1, rk.2.kept kA⟩ : RepK (w3.cut q0 (w1.wrR p (.dK kvs)).R) more kts)) (kvs := []) rfl List.nodup_nil .nil
        have xB := Ext.put (o := .dK (mergeK [] more)) gA hA
        have gB := gA.put (o := .dK (mergeK [] more)) hA
        have RB : ((w3.cut q0 (w1.wrR p (.dK kvs)).R).put q0 (.dK (mergeK [] more))).R p := RD
        have xwB := (x2.trans xA).trans xB
        have kC := Keep.cut (w0 := w) RB xwB.R
        have gC := gB.cut xwB g hp RB
        have xC := Ext.cut xwB g hp RB
        have hC : (((w3.cut q0 (w1.wrR p (.dK kvs)).R).put q0 (.dK (mergeK [] more))).cut p w.R).H p = none := if_pos rfl
        have rk2 : RepK (((w3.cut q0 (w1.wrR p (.dK kvs)).R).put q0 (.dK (mergeK [] more))).cut p w.R) (mergeK [] more) (List.zip (mrg [] [] kts).1 (mrg [] [] kts).2) := by
          have hlen : (mrg [] [] kts).1.length = (mrg [] [] kts).2.length := by
            have a := m3.length
            rw [List.length_map] at a
            rw [← a, ← m1, List.length_map]
          refine ⟨by rw [m1, List.map_fst_zip (Nat.le_of_eq hlen)], ?_⟩
          rw [List.map_snd_zip (Nat.le_of_eq hlen.symm)]
          exact (m3.mono xB).kept kC
        obtain ⟨o1, o2, o3⟩ := merge_rep rk2 e1 nd (((l3.kept kA).mono xB).kept kC)
        have := post_dic (post_ext (w1 := ((w3.cut q0 (w1.wrR p (.dK kvs)).R).put q0 (.dK (mergeK [] more))).cut p w.R) q xC) gC hC o1 o2 o3
        rw [upd_cut] at this
        have e9 : ((w3.cut q0 (w1.wrR p (.dK kvs)).R).put q0 (.dK (mergeK [] more))).H = upd w3.H q0 (.dK (mergeK [] more)) := upd_cut
        rw [e9] at this
        exact this
      · exact q.elim
    · exact q.elim
  · exact q.elim
end
end TL
end
section
set_option Elab.async false
set_option linter.all false
set_option maxRecDepth 100000
/-! TL15: dict comprehensions; going through a dict's keys; isinstance of an own class. -/
namespace TL
open PySem PySem.Spec PyProof.Rows L2

def dcompL (g : Tg) (c : Ev Bool) (fk fv : Ev T) (τ : Tau) : List T → List Key → List T → Sto → Res (List Key × List T)
  | [], ks, us, M => .ok (ks, us) M
  | t :: ts, ks, us, M => (g t τ M).bind fun τ1 M1 => (c τ1 M1).bind fun b M2 => if b then (fk τ1 M2).bind fun y M3 => (fv τ1 M3).bind fun z M4 => match toK y with
      | some k => if ks.length < 16777216 then dcompL g c fk fv τ ts (putKs k ks) (putTs k z ks us) M4 else .stuck
      | none => .stuck
    else dcompL g c fk fv τ ts ks us M2
def eDcomp (fi : Ev (List T)) (g : Tg) (c : Ev Bool) (fk fv : Ev T) (vs : List Nat) : Ev T := fun τ M => (fi τ M).bind fun ts M1 => (dcompL g c fk fv (wipeT τ vs) ts [] [] M1).bind fun r M2 => .ok (.dic r.1 r.2) M2
section
variable {mg : Str → Option Value} {fi : Ev (List T)} {gt : Tg} {fc : Ev Bool} {fk fv : Ev T} {vs sl : List Nat}
theorem dc_turns {Q : VK} {w1 : Wd} {σ : L2.St} {τ : Tau} {J : It} {ts : List T} {D : Addr} (hs : ∀ j ∈ sl, j ∈ vs) (g1 : Good mg w1) (n : Nm w1 σ τ) (y : Yld mg J w1 ts) (hD : w1.H D = none)
    (q : (dcompL gt fc fk fv (wipeT τ vs) ts [] [] w1.M).all fun r M' => ∀ w2 v, Ext w1 w2 → Good mg w2 → w2.M = M' → Rep w2 v (.dic r.1 r.2) → Fr mg w1 w2 v (.dic r.1 r.2) → Q v w2.H) :
    ∃ W : Nat → Nat → Hp → Prop, (∃ m, W 0 m (upd w1.H D (.dK []))) ∧ ∀ i m H, W i m H →
      (J.stop i H ∧ Q (.ref D) H) ∨ (J.go i H ∧ ∃ Nx : Hp → Prop, (∀ H', Nx H' → ∃ m', m' < m ∧ W (i + 1) m' H') ∧ ∀ x H', J.yld i H x H' → tG mg sl gt x (L2.wipe σ vs) H' fun σ2 H2 => L2.wipe σ2 vs = L2.wipe σ vs ∧ tT mg fc σ2 H2 fun b H3 =>
        if b = true then tE mg false fk σ2 H3 fun y H4 => tE mg false fv σ2 H4 fun z H5 => ∃ kvs k, y = L2.kV k ∧ H5 D = some (.dK kvs) ∧ kvs.length < sizeLine ∧ Nx (upd H5 D (.dK (putK kvs k z))) else Nx H3) := by
  refine ⟨fun i m H => m = ts.length - i ∧ i ≤ ts.length ∧ ∃ wi kvs ks us, wi.H = H ∧ Good mg wi ∧ Ext w1 wi ∧ wi.R D ∧ wi.H D = some (.dK kvs) ∧ kvs.map Prod.fst = ks ∧ ks.Nodup ∧ RepL wi (kvs.map Prod.snd) us ∧
      ((dcompL gt fc fk fv (wipeT τ vs) (ts.drop i) ks us wi.M).all fun r M' => ∀ w2 v, Ext w1 w2 → Good mg w2 → w2.M = M' → Rep w2 v (.dic r.1 r.2) → Fr mg w1 w2 v (.dic r.1 r.2) → Q v w2.H),
    ⟨ts.length, by simp, Nat.zero_le _, w1.hold D (.dK []), [], [], [], rfl, g1.hold hD, Ext.hold g1 hD, .inr rfl, upd_same, rfl, List.nodup_nil, .nil, by rw [List.drop_zero]; exact q⟩, ?_⟩
  rintro i m H ⟨rfl, hi, wi, kvs, ks, us, rfl, gi, xi, RD, eD, ek, nd, rl, q'⟩
  by_cases hlt : i < ts.length
  · refine .inr ⟨y.go i wi xi.toKF gi hlt, fun H' => i + 1 ≤ ts.length ∧ ∃ wi kvs ks us, wi.H = H' ∧ Good mg wi ∧ Ext w1 wi ∧ wi.R D ∧ wi.H D = some (.dK kvs) ∧ kvs.map Prod.fst = ks ∧ ks.Nodup ∧ RepL wi (kvs.map Prod.snd) us ∧
      ((dcompL gt fc fk fv (wipeT τ vs) (ts.drop (i + 1)) ks us wi.M).all fun r M' => ∀ w2 v, Ext w1 w2 → Good mg w2 → w2.M = M' → Rep w2 v (.dic r.1 r.2) → Fr mg w1 w2 v (.dic r.1 r.2) → Q v w2.H), fun H' ⟨h, r⟩ => ⟨ts.length - (i + 1), by omega, rfl, h, r⟩, fun x H' hy => ?_⟩
    rw [List.drop_eq_getElem_cons hlt] at q'
    obtain ⟨w2, rfl, x2, g2, m2, r2⟩ := y.yl i wi x H' xi.toKF gi hy _ (List.getElem?_eq_getElem hlt)
    rw [← m2] at q'
    refine ⟨w2, wipeT τ vs, _, rfl, g2, (n.wipe vs).mono (xi.trans x2), r2, Res.all_mono (fun τ1 M1 q w3 σ2 x3 g3 e3 n3 k3 => ?_) (Res.all_bind q')⟩
    subst e3
    refine ⟨wipe_eq hs k3, w3, τ1, rfl, g3, n3, Res.all_mono (fun b M2 q w4 x4 g4 e4 => ?_) (Res.all_bind q)⟩
    subst e4
    cases b with
    | false =>
      have xx := (x2.trans x3).trans x4
      exact ⟨hlt, w4, kvs, ks, us, rfl, g4, xi.trans xx, xx.R D RD, (xx.Rk D RD).trans eD, ek, nd, rl.mono xx, q⟩
    | true =>
      refine ⟨w4, τ1, rfl, g4, n3.mono x4, Res.all_mono (fun t M3 q w5 v x5 g5 e5 r5 _ => ?_) (Res.all_bind q)⟩
      subst e5
      refine ⟨w5, τ1, rfl, g5, (n3.mono x4).mono x5, Res.all_mono (fun t2 M4 q w6 z x6 g6 e6 r6 _ => ?_) (Res.all_bind q)⟩
      subst e6
      split at q
      · rename_i k hk
        split at q
        · rename_i hl
          have xx := (((x2.trans x3).trans x4).trans x5).trans x6
          have RD6 := xx.R D RD
          obtain ⟨p1, p2, p3⟩ := put_rep (k := k) r6 ek nd (rl.mono xx)
          subst ek
          rw [List.length_map] at hl
          refine ⟨kvs, k, toK_rep r5 hk, (xx.Rk D RD).trans eD, by rw [line_eq]; exact hl, hlt, w6.wrR D (.dK (putK kvs k z)), putK kvs k z, _, _, rfl, g6.wrR RD6, Ext.wrR (xi.trans xx) g6 g1 hD RD6, RD6, upd_same, p1, p2, p3.kept (Keep.wrR RD6), q⟩
        · exact q.elim
      · exact q.elim
  · have e : ts.drop i = [] := List.drop_of_length_le (by omega)
    rw [e] at q'
    refine .inl ⟨y.stop i wi xi.toKF gi (by omega), ?_⟩
    have q' := q' ((wi.cut D w1.R).put D (.dK kvs)) (.ref D)
    have hn : (wi.cut D w1.R).H D = none := if_pos rfl
    have gc := gi.cut xi g1 hD RD
    have rc : RepL (wi.cut D w1.R) (kvs.map Prod.snd) us := rl.kept (Keep.cut RD xi.R)
    have q' := q' ((Ext.cut xi g1 hD RD).trans (Ext.put gc hn)) (gc.put hn) rfl (put_dic gc hn ek nd rc) ⟨wi.cut D w1.R, D, rfl, Ext.cut xi g1 hD RD, gc, hn, .inr ⟨kvs, ks, us, rfl, ek, nd, rc, rfl⟩⟩
    rw [cut_put eD] at q'
    exact q'
theorem dc_imp {Q : VK} {σ : L2.St} {H : Hp} (hs : ∀ j ∈ sl, j ∈ vs) (h : tE mg true (eDcomp fi gt fc fk fv vs) σ H Q) : tDc (tI mg fi) (tG mg sl gt) (tT mg fc) (tE mg false fk) (tE mg false fv) vs σ H Q := by
  obtain ⟨w, τ, rfl, g, n, q⟩ := h
  refine ⟨w, τ, rfl, g, n, Res.all_mono (fun ts M' q w1 J x1 g1 e1 y D hD => ?_) (Res.all_bind q)⟩
  subst e1
  refine dc_turns hs g1 (n.mono x1) y hD (Res.all_mono (fun r M2 q w2 v x2 g2 e2 r2 f2 => ?_) (Res.all_bind q))
  exact q w2 v (x1.trans x2) g2 e2 r2 fun _ => f2.ext x1
end
section
variable {X : Cx} {kx vx tg iter : Expr} {ifs : List Expr} {scope : Scope} {pos : Pos} {fi : Ev (List T)} {gt : Tg} {fc : Ev Bool} {fk fv : Ev T} {sl : List Nat} {F : Bool}
theorem se_dcomp (own : List (Str × Nat)) (hN : X.N.Nodup) (hi : SI X tg iter fi) (hg : ∀ (s : Shared) (H : Hp) (C : Addr) (cl : List (Str × Addr)) (fp : List Addr), SG sl (X.blk s H scope (compEnvC scope cl C X.env) fp) tg gt)
    (ht : ∀ (s : Shared) (H : Hp) (C : Addr) (cl : List (Str × Addr)) (fp : List Addr), STs (X.blk s H scope (compEnvC scope cl C X.env) fp) ifs fc) (hk : ∀ (s : Shared) (H : Hp) (C : Addr) (cl : List (Str × Addr)) (fp : List Addr), SE false (X.blk s H scope (compEnvC scope cl C X.env) fp) kx fk)
    (he : ∀ (s : Shared) (H : Hp) (C : Addr) (cl : List (Str × Addr)) (fp : List Addr), SE false (X.blk s H scope (compEnvC scope cl C X.env) fp) vx fv)
    (ok : blkC X.N X.env.scope scope own = true := by decide +kernel) (hsl : ∀ j ∈ sl, j ∈ own.map (·.2) := by decide) (hc : X.calm = true := by rfl) (hs : ∀ x, foldedSetIterable iter X.env x = pure x := by intro _; rfl) :
    SE true X (.DictComp kx vx [⟨tg, iter, ifs, 0⟩] scope pos) (eDcomp fi gt fc fk fv (own.map (·.2))) :=
  pe_imp (pe_dc (g := tG X.mg sl gt) (tt := tT X.mg fc) (tk := tE X.mg false fk) (tv := tE X.mg false fv) hc hN hi (blkOk_by ok) hg ht hk he hs) fun σ H Q h => dc_imp hsl h
end
end TL
end
section
set_option Elab.async false
set_option linter.all false
set_option maxRecDepth 100000
/-! TL16: going through a dict's keys, the dict locked. -/
namespace TL
open PySem PySem.Spec PyProof.Rows L2

/-! ### a plain dict locked, let go -/
def Wd.lk (w : Wd) (d : Addr) (o : Obj) (kvs : List (Key × V)) : Wd := { w with H := upd w.H d (.frz o (.dK kvs)) }
def Wd.ul (w : Wd) (d : Addr) (kvs : List (Key × V)) : Wd := { w with H := upd w.H d (.dK kvs) }
section
variable {mg : Str → Option Value} {w w1 : Wd} {d : Addr} {o : Obj} {kvs : List (Key × V)}
theorem Ext.lk (g : Good mg w) (h : w.H d = some (.dK kvs)) (n : ¬ Ex w d) : Ext w (w.lk d o kvs) := by
  have ne : ∀ {a : Addr} {u : HO}, (∀ ks, u ≠ .dK ks) → w.H a = some u → a ≠ d := fun {a u} hu e z => by rw [z, h] at e; cases e; exact hu _ rfl
  refine ⟨fun a u hu e m => ⟨by show upd w.H d _ a = _; rw [upd_ne (ne (fun ks z => by rw [z] at hu; exact hu) e)]; exact e, m⟩, fun a ob u _ e m => ⟨by show upd w.H d _ a = _; rw [upd_ne (ne (u := .frz ob u) (fun ks z => HO.noConfusion z) e)]; exact e, m⟩, fun a u e m => ⟨?_, m⟩, fun a e => ?_, Nat.le_refl _, fun _ _ => rfl, fun _ h => h, fun a e => upd_ne fun z => n (.inl (by rw [← z]; exact e)), fun a o' u e => ?_⟩
  · by_cases z : a = d
    · subst z
      rcases e with e | ⟨_, e⟩
      · rw [h] at e; cases e; exact .inr ⟨o, upd_same⟩
      · rw [h] at e; cases e
    · rcases e with e | ⟨o', e⟩
      · exact .inl (by show upd w.H d _ a = _; rw [upd_ne z]; exact e)
      · exact .inr ⟨o', by show upd w.H d _ a = _; rw [upd_ne z]; exact e⟩
  · show upd w.H d _ a ≠ none
    by_cases z : a = d
    · rw [z, upd_same]; exact fun z => nomatch z
    · rw [upd_ne z]; exact e
  · show upd w.H d _ a = _
    rw [upd_ne (ne (u := .frz o' u) (fun ks z => HO.noConfusion z) e)]; exact e
theorem Good.lk (g : Good mg w) (h : w.H d = some (.dK kvs)) (n : ¬ Ex w d) : Good mg (w.lk d o kvs) := by
  have x := Ext.lk (o := o) g h n
  refine ⟨fun m u e => ?_, g.inj, fun a e => x.dom a (g.Rd a e)⟩
  obtain ⟨h1, h2, h3⟩ := g.own m u e
  refine ⟨h1, h2, ?_⟩
  rw [show (w.lk d o kvs).H ((w.lk d o kvs).ρ m) = w.H (w.ρ m) from upd_ne fun z => n (.inr ⟨m, u, e, z⟩)]
  exact h3.mono x
theorem Keep.ul (h : w1.H d = some (.frz o (.dK kvs))) : Keep w1 (w1.ul d kvs) := by
  refine ⟨fun a u hu e m => ⟨?_, m⟩, fun a ob u hu e m => ⟨?_, m⟩, fun a u e m => ⟨?_, m⟩, Nat.le_refl _, fun _ _ => rfl⟩
  · show upd w1.H d _ a = _
    rw [upd_ne (fun z => by rw [z, h] at e; cases e; exact hu)]
    exact e
  · show upd w1.H d _ a = _
    rw [upd_ne (fun z => by rw [z, h] at e; cases e; exact hu)]
    exact e
  · by_cases z : a = d
    · subst z
      rcases e with e | ⟨_, e⟩
      · rw [h] at e; cases e
      · rw [h] at e; cases e; exact .inl upd_same
    · rcases e with e | ⟨o', e⟩
      · exact .inl (by show upd w1.H d _ a = _; rw [upd_ne z]; exact e)
      · exact .inr ⟨o', by show upd w1.H d _ a = _; rw [upd_ne z]; exact e⟩
theorem Good.ul (g : Good mg w1) (h : w1.H d = some (.frz o (.dK kvs))) (n : ¬ Ex w1 d) : Good mg (w1.ul d kvs) := by
  refine ⟨fun m u e => ?_, g.inj, fun a e => ?_⟩
  · obtain ⟨h1, h2, h3⟩ := g.own m u e
    refine ⟨h1, h2, ?_⟩
    rw [show (w1.ul d kvs).H ((w1.ul d kvs).ρ m) = w1.H (w1.ρ m) from upd_ne fun z => n (.inr ⟨m, u, e, z⟩)]
    exact h3.kept (Keep.ul h)
  · show upd w1.H d _ a ≠ none
    by_cases z : a = d
    · rw [z, upd_same]; exact fun z => nomatch z
    · rw [upd_ne z]; exact g.Rd a e
theorem Ext.ul (g : Good mg w) (h : w.H d = some (.dK kvs)) (n : ¬ Ex w d) (x : Ext (w.lk d o kvs) w1) : Ext w (w1.ul d kvs) := by
  have x0 := Ext.lk (o := o) g h n
  have xx := x0.trans x
  have h1 : w1.H d = some (.frz o (.dK kvs)) := x.frz d _ _ upd_same
  have k := Keep.ul h1
  refine ⟨fun a u hu e m => let ⟨a1, a2⟩ := xx.keep a u hu e m; k.keep a u hu a1 a2, fun a ob u hu e m => let ⟨a1, a2⟩ := xx.keepF a ob u hu e m; k.keepF a ob u hu a1 a2, fun a u e m => let ⟨a1, a2⟩ := xx.keepD a u e m; k.keepD a u a1 a2, fun a e => ?_, xx.nx, xx.rho, xx.R, fun a e => ?_, fun a o' u e => ?_⟩
  · show upd w1.H d _ a ≠ none
    by_cases z : a = d
    · rw [z, upd_same]; exact fun z => nomatch z
    · rw [upd_ne z]; exact xx.dom a e
  · show upd w1.H d _ a = _
    rw [upd_ne fun z => n (.inl (by rw [← z]; exact e))]
    exact xx.Rk a e
  · show upd w1.H d _ a = _
    rw [upd_ne fun z => by rw [z, h] at e; cases e]
    exact xx.frz a o' u e
theorem notEx_ul (g : Good mg w) (h : w.H d = some (.dK kvs)) (n : ¬ Ex w d) (x : Ext (w.lk d o kvs) w1) : ¬ Ex w1 d :=
  (x.keepD d kvs (.inr ⟨o, upd_same⟩) n).2
theorem put_ul {w2 : Wd} {p : Addr} {u : HO} (hne : p ≠ d) : (w2.put p u).ul d kvs = (w2.ul d kvs).put p u := by
  unfold Wd.put Wd.ul
  congr 1
  funext b
  show upd (upd w2.H p u) d _ b = upd (upd w2.H d _) p u b
  by_cases z : b = d
  · subst z; rw [upd_same, upd_ne (Ne.symm hne), upd_same]
  · rw [upd_ne z]
    by_cases y : b = p
    · subst y; rw [upd_same, upd_same]
    · rw [upd_ne y, upd_ne y, upd_ne z]
theorem Fr.ul {v : V} {t : T} (g : Good mg w) (h : w.H d = some (.dK kvs)) (n : ¬ Ex w d) (f : Fr mg (w.lk d o kvs) w1 v t) : Fr mg w (w1.ul d kvs) v t := by
  obtain ⟨w2, p, rfl, x, g2, hp, r⟩ := f
  have h2 : w2.H d = some (.frz o (.dK kvs)) := x.frz d _ _ upd_same
  have n2 := notEx_ul g h n x
  have hne : p ≠ d := fun z => by rw [z, h2] at hp; cases hp
  refine ⟨w2.ul d kvs, p, rfl, Ext.ul g h n x, g2.ul h2 n2, by show upd w2.H d _ p = none; rw [upd_ne hne]; exact hp, ?_⟩
  rcases r with ⟨vs, ts, e, l, rfl⟩ | ⟨kv, ks, ts, e, e2, nd, l, rfl⟩
  · exact .inl ⟨vs, ts, e, l.kept (Keep.ul h2), put_ul hne⟩
  · exact .inr ⟨kv, ks, ts, e, e2, nd, l.kept (Keep.ul h2), put_ul hne⟩
end

/-! ### where the dict lies -/
structure LocI (X : Cx) (tg e : Expr) (Loc : L2.St → Hp → Addr → Prop) (fi : Tau → Sto → Option (List Key)) : Prop where
  run : PI X tg e (fun σ H R => ∃ d o kvs, Loc σ H d ∧ H d = some (.frz o (.dK kvs)) ∧ R (Itk d o kvs) H)
  lock : ∀ σ H d kvs o, Loc σ H d → H d = some (.dK kvs) → Loc σ (upd H d (.frz o (.dK kvs))) d
  find : ∀ w σ τ ks, Nm w σ τ → fi τ w.M = some ks → ∃ d kvs, Loc σ w.H d ∧ Rd w.H d (.dK kvs) ∧ ¬ Ex w d ∧ kvs.map Prod.fst = ks
def iK (fi : Tau → Sto → Option (List Key)) : Ev (List T) := fun τ M => match fi τ M with
  | some ks => .ok (ks.map ofK) M
  | none => .stuck
theorem yld_keys {mg : Str → Option Value} {w : Wd} {d : Addr} {o : Obj} {kvs : List (Key × V)} (h : w.H d = some (.frz o (.dK kvs))) : Yld mg (Itk d o kvs) w ((kvs.map Prod.fst).map ofK) where
  go := fun i w1 x1 g1 hi => ⟨x1.frz d _ _ h, by simpa using hi⟩
  yl := fun i w1 x H' x1 g1 hy t ht => by
    obtain ⟨rfl, k, v, e, rfl⟩ := hy
    rw [List.map_map, List.getElem?_map, e] at ht
    cases ht
    exact ⟨w1, rfl, .refl w1, g1, rfl, ofK_rep k⟩
  stop := fun i w1 x1 g1 hi => ⟨x1.frz d _ _ h, by simpa using hi⟩
section
variable {X : Cx} {tg e : Expr} {Loc : L2.St → Hp → Addr → Prop} {fi : Tau → Sto → Option (List Key)} {F : Bool}
theorem lock_imp {t : TE} {f : Ev T} (L : LocI X tg e Loc fi) (hf : ∀ τ M, fi τ M = none → f τ M = .stuck)
    (K : ∀ (w : Wd) σ τ Q d o kvs, Good X.mg w → Nm w σ τ → Loc σ w.H d → w.H d = some (.frz o (.dK kvs)) → fi τ w.M = some (kvs.map Prod.fst) → post X.mg F Q w (f τ w.M) → t σ w.H Q) {σ : L2.St} {H : Hp} {Q : VK}
    (h : tE X.mg F f σ H Q) : tLockE t σ H Q ∨ t σ H Q := by
  obtain ⟨w, τ, rfl, g, n, q⟩ := h
  cases hfi : fi τ w.M with
  | none => rw [hf _ _ hfi] at q; exact q.elim
  | some ks =>
    obtain ⟨d, kvs, hl, hd, nE, ek⟩ := L.find w σ τ ks n hfi
    subst ek
    rcases hd with hd | ⟨o, hd⟩
    · refine .inl ⟨d, .dK kvs, hd, True.intro, fun od => ?_⟩
      refine K (w.lk d od kvs) σ τ _ d od kvs (g.lk hd nE) (n.mono (Ext.lk g hd nE)) (L.lock _ _ _ _ _ hl hd) upd_same hfi (Res.all_mono (fun t M' q w1 v x1 g1 e1 r1 f1 => ?_) q)
      have h1 : w1.H d = some (.frz od (.dK kvs)) := x1.frz d _ _ upd_same
      exact ⟨h1, q (w1.ul d kvs) v (Ext.ul g hd nE x1) (g1.ul h1 (notEx_ul g hd nE x1)) e1 (r1.kept (Keep.ul h1)) fun z => (f1 z).ul g hd nE⟩
    · exact .inr (K w σ τ Q d o kvs g n hl hd hfi q)
theorem pe_orE {e : Expr} {t t' : TE} (h : PE X e t) (h' : PE X e t') : PE X e (fun σ H Q => t σ H Q ∨ t' σ H Q) := ⟨fun p s σ H Q I q => q.elim (h.run p s σ H Q I) (h'.run p s σ H Q I)⟩
theorem ps_orE {st : Stmt} {t t' : TS} (h : PS X st t) (h' : PS X st t') : PS X st (fun D σ H => t D σ H ∨ t' D σ H) := ⟨fun p s σ H D I q => q.elim (h.run p s σ H D I) (h'.run p s σ H D I)⟩
theorem lockS_imp {t : TS} {f : Ev Fl} (L : LocI X tg e Loc fi) (hf : ∀ τ M, fi τ M = none → f τ M = .stuck)
    (K : ∀ (w : Wd) σ τ D d o kvs, Good X.mg w → Nm w σ τ → Loc σ w.H d → w.H d = some (.frz o (.dK kvs)) → fi τ w.M = some (kvs.map Prod.fst) → postS X.mg F D w (f τ w.M) → t D σ w.H) {D : Ends} {σ : L2.St} {H : Hp}
    (h : tS X.mg F f D σ H) : tLock t D σ H ∨ t D σ H := by
  obtain ⟨w, τ, rfl, g, n, q⟩ := h
  cases hfi : fi τ w.M with
  | none => rw [hf _ _ hfi] at q; exact q.elim
  | some ks =>
    obtain ⟨d, kvs, hl, hd, nE, ek⟩ := L.find w σ τ ks n hfi
    subst ek
    rcases hd with hd | ⟨o, hd⟩
    · refine .inl ⟨d, .dK kvs, hd, True.intro, fun od => ?_⟩
      refine K (w.lk d od kvs) σ τ _ d od kvs (g.lk hd nE) (n.mono (Ext.lk g hd nE)) (L.lock _ _ _ _ _ hl hd) upd_same hfi (Res.all_mono (fun fl M' q w1 x1 g1 e1 => ?_) q)
      have h1 : w1.H d = some (.frz od (.dK kvs)) := x1.frz d _ _ upd_same
      have q := q (w1.ul d kvs) (Ext.ul g hd nE x1) (g1.ul h1 (notEx_ul g hd nE x1)) e1
      have nk : ∀ {σ' τ'}, Nm w1 σ' τ' → Nm (w1.ul d kvs) σ' τ' := fun {σ' τ'} m => ⟨m.len, fun i t z => let ⟨v, a, b⟩ := m.at_ i t z; ⟨v, a, b.kept (Keep.ul h1)⟩⟩
      cases fl with
      | nx τ' => exact fun σ' m => ⟨h1, q σ' (nk m)⟩
      | ct τ' => exact fun σ' m => ⟨h1, q σ' (nk m)⟩
      | bk τ' => exact fun σ' m => ⟨h1, q σ' (nk m)⟩
      | rt t => exact fun v r f => ⟨h1, q v (r.kept (Keep.ul h1)) fun z => (f z).ul g hd nE⟩
    · exact .inr (K w σ τ D d o kvs g n hl hd hfi q)
end
section
variable {X : Cx} {elt kx vx tg iter : Expr} {ifs : List Expr} {sts : List Stmt} {scope : Scope} {pos : Pos} {fi : Tau → Sto → Option (List Key)} {Loc : L2.St → Hp → Addr → Prop} {gt : Tg} {fc : Ev Bool} {fe fk fv : Ev T} {f : Ev Fl} {sl : List Nat} {F : Bool}
theorem se_compK (own : List (Str × Nat)) (hN : X.N.Nodup) (L : LocI X tg iter Loc fi) (hg : ∀ (s : Shared) (H : Hp) (C : Addr) (cl : List (Str × Addr)) (fp : List Addr), SG sl (X.blk s H scope (compEnvC scope cl C X.env) fp) tg gt)
    (ht : ∀ (s : Shared) (H : Hp) (C : Addr) (cl : List (Str × Addr)) (fp : List Addr), STs (X.blk s H scope (compEnvC scope cl C X.env) fp) ifs fc) (he : ∀ (s : Shared) (H : Hp) (C : Addr) (cl : List (Str × Addr)) (fp : List Addr), SE false (X.blk s H scope (compEnvC scope cl C X.env) fp) elt fe)
    (ok : blkC X.N X.env.scope scope own = true := by decide +kernel) (hsl : ∀ j ∈ sl, j ∈ own.map (·.2) := by decide) (hc : X.calm = true := by rfl) (hs : ∀ x, foldedSetIterable iter X.env x = pure x := by intro _; rfl) :
    SE true X (.ListComp elt [⟨tg, iter, ifs, 0⟩] scope pos) (eComp (iK fi) gt fc fe (own.map (·.2))) := by
  have P := pe_lc (pos := pos) (g := tG X.mg sl gt) (tt := tT X.mg fc) (te := tE X.mg false fe) hc hN L.run (blkOk_by ok) hg ht he hs
  refine pe_imp (pe_orE (pe_lock P) P) fun σ H Q h => lock_imp L (fun τ M h => by unfold eComp iK; rw [h]; rfl) (fun w σ τ Q d o kvs g n hl hd hfi q => ?_) h
  refine ⟨d, o, kvs, hl, hd, fun D hD => ?_⟩
  have e1 : iK fi τ w.M = .ok ((kvs.map Prod.fst).map ofK) w.M := by unfold iK; rw [hfi]
  unfold eComp at q
  rw [e1] at q
  have q : post X.mg true Q w (if ((kvs.map Prod.fst).map ofK).length ≤ 16777216 then (compL gt fc fe (wipeT τ (own.map (·.2))) ((kvs.map Prod.fst).map ofK) w.M).bind fun ys M2 => .ok (.lst ys) M2 else .stuck) := q
  split at q
  · rename_i hl
    refine lc_turns hsl g n (yld_keys hd) hl hD (Res.all_mono (fun ys M2 q w2 v x2 g2 e2 r2 f2 => ?_) (Res.all_bind q))
    exact q w2 v x2 g2 e2 r2 fun _ => f2
  · exact q.elim
theorem se_dcompK (own : List (Str × Nat)) (hN : X.N.Nodup) (L : LocI X tg iter Loc fi) (hg : ∀ (s : Shared) (H : Hp) (C : Addr) (cl : List (Str × Addr)) (fp : List Addr), SG sl (X.blk s H scope (compEnvC scope cl C X.env) fp) tg gt)
    (ht : ∀ (s : Shared) (H : Hp) (C : Addr) (cl : List (Str × Addr)) (fp : List Addr), STs (X.blk s H scope (compEnvC scope cl C X.env) fp) ifs fc) (hk : ∀ (s : Shared) (H : Hp) (C : Addr) (cl : List (Str × Addr)) (fp : List Addr), SE false (X.blk s H scope (compEnvC scope cl C X.env) fp) kx fk)
    (he : ∀ (s : Shared) (H : Hp) (C : Addr) (cl : List (Str × Addr)) (fp : List Addr), SE false (X.blk s H scope (compEnvC scope cl C X.env) fp) vx fv)
    (ok : blkC X.N X.env.scope scope own = true := by decide +kernel) (hsl : ∀ j ∈ sl, j ∈ own.map (·.2) := by decide) (hc : X.calm = true := by rfl) (hs : ∀ x, foldedSetIterable iter X.env x = pure x := by intro _; rfl) :
    SE true X (.DictComp kx vx [⟨tg, iter, ifs, 0⟩] scope pos) (eDcomp (iK fi) gt fc fk fv (own.map (·.2))) := by
  have P := pe_dc (pos := pos) (g := tG X.mg sl gt) (tt := tT X.mg fc) (tk := tE X.mg false fk) (tv := tE X.mg false fv) hc hN L.run (blkOk_by ok) hg ht hk he hs
  refine pe_imp (pe_orE (pe_lock P) P) fun σ H Q h => lock_imp L (fun τ M h => by unfold eDcomp iK; rw [h]; rfl) (fun w σ τ Q d o kvs g n hl hd hfi q => ?_) h
  refine ⟨d, o, kvs, hl, hd, fun D hD => ?_⟩
  have e1 : iK fi τ w.M = .ok ((kvs.map Prod.fst).map ofK) w.M := by unfold iK; rw [hfi]
  unfold eDcomp at q
  rw [e1] at q
  have q : post X.mg true Q w ((dcompL gt fc fk fv (wipeT τ (own.map (·.2))) ((kvs.map Prod.fst).map ofK) [] [] w.M).bind fun r M2 => .ok (.dic r.1 r.2) M2) := q
  refine dc_turns hsl g n (yld_keys hd) hD (Res.all_mono (fun r M2 q w2 v x2 g2 e2 r2 f2 => ?_) (Res.all_bind q))
  exact q w2 v x2 g2 e2 r2 fun _ => f2
theorem ss_forK (L : LocI X tg iter Loc fi) (hg : SG sl X tg gt) (hb : SB F X sts f) (hp : PassesOwn (model X.prog X.w) X.A X.env X.xe := by exact PassesOwn.never) (hc : X.calm = true := by rfl)
    (hs : ∀ x, foldedSetIterable iter X.env x = pure x := by intro _; rfl) : SS F X (.For tg iter sts [] pos) (sFor (iK fi) gt f) := by
  have P := ps_for (pos := pos) hp hc L.run hg hb hs
  refine ps_imp (ps_orE (ps_lock P) P) fun D σ H h => lockS_imp L (fun τ M h => by unfold sFor iK; rw [h]; rfl) (fun w σ τ D d o kvs g n hl hd hfi q => ?_) h
  refine ⟨d, o, kvs, hl, hd, ?_⟩
  have e1 : iK fi τ w.M = .ok ((kvs.map Prod.fst).map ofK) w.M := by unfold iK; rw [hfi]
  unfold sFor at q
  rw [e1] at q
  exact for_imp g n (yld_keys hd) q
end
/-! ### the dict is a name's, or stands under a key of a name's dict -/
def pkVar (i : Nat) : Tau → Sto → Option (List Key) := fun τ _ => match τ[i]? with
  | some (some (.dic ks _)) => some ks
  | _ => none
def pkIx (i : Nat) (c : Str) : Tau → Sto → Option (List Key) := fun τ _ => match τ[i]? with
  | some (some (.dic ks ts)) => match lkT (.inr c) ks ts with
    | some (.dic ls _) => some ls
    | _ => none
  | _ => none
section
variable {X : Cx} {tg : Expr} {pos p2 : Pos}
theorem lo_var {i : Nat} {x : Str} (hN : X.N[i]? = some x := by rfl) (hv : Vis X.env.scope x := by first | exact .inl rfl | exact .inr (.inl rfl) | exact .inr (.inr rfl)) (hd : (x == ("__debug__" : Str)) = false := by decide) (hcd : (x == ("__classdict__" : Str)) = false := by decide) :
    LocI X tg (.Name x pos) (fun σ _ d => σ[i]? = some (some (.ref d))) (pkVar i) where
  run := pi_imp (pi_keys (pe_var hN hv hd hcd)) fun σ H R ⟨d, o, kvs, hl, hf, r⟩ => ⟨_, hl, d, o, rfl, .inl ⟨kvs, hf, r⟩⟩
  lock := fun σ H d kvs o hl _ => hl
  find := fun w σ τ ks n h => by
    unfold pkVar at h
    split at h
    · rename_i ls ts ht
      cases h
      obtain ⟨v, h1, r⟩ := n.at_ i _ ht
      cases r with
      | dic nE d e nd l => exact ⟨_, _, h1, d, nE, e⟩
    · cases h
theorem lo_ix {k i : Nat} {x c : Str} {j} {p3 : Pos} (hr : Room k X.A) (hN : X.N[i]? = some x := by rfl) (hv : Vis X.env.scope x := by first | exact .inl rfl | exact .inr (.inl rfl) | exact .inr (.inr rfl)) (hd : (x == ("__debug__" : Str)) = false := by decide) (hcd : (x == ("__classdict__" : Str)) = false := by decide) :
    LocI X tg (.Subscript (.Name x pos) (.Constant (.str c) j p2) p3) (fun σ H d => ∃ a kvs, σ[i]? = some (some (.ref a)) ∧ Rd H a (.dK kvs) ∧ valV kvs (.inr c) = some (.ref d)) (pkIx i c) where
  run := pi_imp (pi_keys (pe_ix (ix_dict (by have := hr.un; omega)) (pe_var hN hv hd hcd) pe_str (fun _ _ => rfl))) fun σ H R ⟨d, o, kvs, ⟨a, kv, h1, h2, h3⟩, hf, r⟩ => ⟨_, h1, a, .ref d, rfl, .inl ⟨kv, .inr c, h2, rfl, h3.symm⟩, d, o, rfl, .inl ⟨kvs, hf, r⟩⟩
  lock := fun σ H d kvs o ⟨a, kv, h1, h2, h3⟩ hd => by
    refine ⟨a, kv, h1, ?_, h3⟩
    by_cases z : a = d
    · subst z
      rcases h2 with h2 | ⟨_, h2⟩
      · rw [hd] at h2; cases h2; exact .inr ⟨o, upd_same⟩
      · rw [hd] at h2; cases h2
    · rcases h2 with h2 | ⟨o', h2⟩
      · exact .inl (by rw [upd_ne z]; exact h2)
      · exact .inr ⟨o', by rw [upd_ne z]; exact h2⟩
  find := fun w σ τ ks n h => by
    unfold pkIx at h
    split at h
    · rename_i ls ts ht
      split at h
      · rename_i ls2 us hk
        cases h
        obtain ⟨v, h1, r⟩ := n.at_ i _ ht
        cases r with
        | dic nE d e nd l =>
          subst e
          rcases lk_val (k := .inr c) l with ⟨v, t', a1, a2, a3⟩ | ⟨a1, a2⟩
          · rw [hk] at a2
            cases a2
            cases a3 with
            | dic nE2 d2 e2 nd2 l2 => exact ⟨_, _, ⟨_, _, h1, d, a1⟩, d2, nE2, e2⟩
          · rw [hk] at a2; cases a2
      · cases h
    · cases h
end
end TL
end
section
set_option Elab.async false
set_option linter.all false
set_option maxRecDepth 100000
/-! TL17: isinstance of an own class. -/
namespace TL
open PySem PySem.Spec PyProof.Rows L2
def kIsO (c : Str) : T → Sto → Res T
  | .ref n, M => match M.get n with
    | some (.ins c' _ _) => if c' = c then .ok (.bl true) M else .stuck
    | _ => .stuck
  | _, _ => .stuck
section
variable {X : Cx} {a : Expr} {fa : Ev T} {c : Str} {p q0 pos : Pos} {at_ : List Str}
theorem se_isiO (B : Blt X.mg) (C : ClsF X.K X.mg c at_) (ha : SE false X a fa) (hg : Gl X "isinstance" := by rfl) (hgc : Gl X c := by rfl) (hdb : (c == ("__debug__" : Str)) = false := by decide)
    (hs : starEach [a, .Name c q0] X.env = (false, eval a X.env) :: starEach [.Name c q0] X.env := by rfl) (hpl : (backTo pos (starEach [.Name c q0] X.env)).any (·.1) = false := by rfl) : SE false X (.Call (.Name "isinstance" p) [a, .Name c q0] [] pos) (e1 (kIsO c) fa) := by
  obtain ⟨C0, hm, cl, _, hcl, hsp, htk, hmr, hkp⟩ := C
  have I0 : C8.InsC X.K C0 := ⟨cl, hcl, hsp, htk, hmr, if_pos (beq_self_eq_true _)⟩
  refine pe_imp (pe_callB (C8.call_isC I0) hg B.isinstance PyProof.Rows.boot_isinstance (pa_cons ha (pa_cons (pe_glob hgc hm (v := .ref C0) rfl hdb) pa_nil) hs) (by decide) (by decide) hs hpl) fun σ H Q ⟨w, τ, e, g, n, q⟩ => ?_
  subst e
  refine ⟨w, τ, rfl, g, n, Res.all_mono (fun t M1 q' w1 v x1 g1 e1 r1 _ => ?_) (Res.all_bind q)⟩
  clear q
  subst e1
  unfold kIsO at q'
  split at q'
  · split at q'
    · rename_i c' fs ts hM
      split at q'
      · rename_i hc
        subst hc
        cases r1 with
        | ref n0 hn =>
          obtain ⟨_, _, C1, dx, kvs, h1, h2, _⟩ := g1.own _ _ hM
          rw [hm] at h1
          cases h1
          exact ⟨_, dx, kvs, rfl, h2, post_ok (post_ext q' x1) g1 (.bl _)⟩
      · exact q'.elim
    · exact q'.elim
  · exact q'.elim
end
end TL
end
section
set_option Elab.async false
set_option linter.all false
set_option maxRecDepth 100000
/-! TL18: {}; a def of which nothing is asked; what is known of the names. -/
namespace TL
open PySem PySem.Spec PyProof.Rows L2
section
variable {X : Cx} {elt tg iter : Expr} {ifs : List Expr} {scope : Scope} {pos : Pos} {fi : Tau → Sto → Option (List Key)} {Loc : L2.St → Hp → Addr → Prop} {gt : Tg} {fc : Ev Bool} {fe : Ev T} {sl : List Nat} {F : Bool}
theorem ss_setLcK {i : Nat} {y : Str} {py spos : Pos} (own : List (Str × Nat)) (hN : X.N.Nodup) (L : LocI X tg iter Loc fi) (hg : ∀ (s : Shared) (H : Hp) (C : Addr) (cl : List (Str × Addr)) (fp : List Addr), SG sl (X.blk s H scope (compEnvC scope cl C X.env) fp) tg gt)
    (ht : ∀ (s : Shared) (H : Hp) (C : Addr) (cl : List (Str × Addr)) (fp : List Addr), STs (X.blk s H scope (compEnvC scope cl C X.env) fp) ifs fc) (he : ∀ (s : Shared) (H : Hp) (C : Addr) (cl : List (Str × Addr)) (fp : List Addr), SE false (X.blk s H scope (compEnvC scope cl C X.env) fp) elt fe)
    (hsw : swapsWith (.ListComp elt [⟨tg, iter, ifs, 0⟩] scope pos) (some (.Name y py)) spos.line X.env = pure true := by exact sw_true rfl rfl rfl (by decide +kernel))
    (ok : blkC X.N X.env.scope scope own = true := by decide +kernel) (hsl : ∀ j ∈ sl, j ∈ own.map (·.2) := by decide) (hy : X.N[i]? = some y := by rfl) (hyl : X.env.scope.names.lookup y = some .local := by rfl) (hc : X.calm = true := by rfl) (hs : ∀ x, foldedSetIterable iter X.env x = pure x := by intro _; rfl) :
    SS F X (.Assign [.Name y py] (.ListComp elt [⟨tg, iter, ifs, 0⟩] scope pos) spos) (sAsg (eComp (iK fi) gt fc fe (own.map (·.2))) (gN i)) := by
  have P := ps_setLc (pos := pos) (py := py) (spos := spos) (g := tG X.mg sl gt) (tt := tT X.mg fc) (te := tE X.mg false fe) hc hN hy hyl hsw L.run (blkOk_by ok) hg ht he hs
  refine ps_imp (ps_orE (ps_lock P) P) fun D σ H h => lockS_imp L (fun τ M h => by unfold sAsg eComp iK; rw [h]; rfl) (fun w σ τ D d o kvs g n hl hd hfi q => ?_) h
  refine ⟨d, o, kvs, hl, hd, fun D0 hD => ?_⟩
  have e1 : iK fi τ w.M = .ok ((kvs.map Prod.fst).map ofK) w.M := by unfold iK; rw [hfi]
  unfold sAsg eComp at q
  rw [e1] at q
  have q : postS X.mg F D w ((if ((kvs.map Prod.fst).map ofK).length ≤ 16777216 then (compL gt fc fe (wipeT τ (own.map (·.2))) ((kvs.map Prod.fst).map ofK) w.M).bind fun ys M2 => Res.ok (T.lst ys) M2 else .stuck).bind fun t M1 => (gN i t τ M1).bind fun τ' M2 => .ok (.nx τ') M2) := q
  split at q
  · rename_i hl
    refine lc_turns (Q := fun x H1 => L2.gName i x σ H1 D.nx) hsl g n (yld_keys hd) hl hD (Res.all_mono (fun ys M2 q w2 v x2 g2 e2 r2 f2 => ?_) (Res.all_bind (Res.all_bind q)))
    subst e2
    refine gName_imp (mg := X.mg) ⟨w2, τ, _, rfl, g2, n.mono x2, r2, fun w3 σ' x3 g3 e3 n3 _ => ?_⟩
    exact q w3 (x2.trans x3) g3 e3 σ' n3
  · exact q.elim
end
def eDnew : Ev T := fun _ M => .ok (.dic [] []) M
section
variable {X : Cx} {pos : Pos}
theorem se_dnew : SE true X (.Dict [] [] pos) eDnew := by
  refine pe_imp pe_dnewK fun σ H Q ⟨w, τ, e, g, n, q⟩ => ?_
  subst e
  intro p hp
  exact post_dic (kvs := []) q g hp rfl List.nodup_nil .nil
end
section
variable {P : Program} {w : World} {K : PySem.W.Frag} {mg : Str → Option Value} {base : Heap}
def gNo : List T → Sto → Res T := fun _ _ => .stuck
theorem fn_ok0 {x qual : Str} {params : Arguments} {body : List Stmt} {scope : Scope} {dvs : List V} {kws : List (Str × V)} {f : Addr} {fd : FuncData} {N ps : List Str} {k : Nat} {F : Bool}
    (F0 : FunD K x qual params body scope dvs kws f fd) (S : FnScope N ps scope) : FnOk P w K mg base CX0 (k + 1) f fd ps (spRun mg F ps.length gNo) := by
  refine F0.ok S (fun vs H Q E h => h.1) fun cdv A outer s H vs Q E hr h => ?_
  obtain ⟨hl, w0, ts, e, g, r, q⟩ := h
  exact q.elim
theorem fn_okN {x qual : Str} {params : Arguments} {body : List Stmt} {scope : Scope} {dvs : List V} {kws : List (Str × V)} {f : Addr} {fd : FuncData} (N ps : List Str) (F : Bool) (k n m : Nat) (fb : Ev Fl)
    (F0 : FunD K x qual params body scope dvs kws f fd) (S : FnScope N ps scope) (hn : N.length = n) (hm : ps.length = m)
    (hb : ∀ (cdv : Value) (A : Around) (outer : List PySem.Env) (s : Shared) (H : Hp) (E : XK), Room k (A.deeper (envOfC qual scope s.heap.objs.size f cdv)) → SB F (cxOf CX0 P w K mg base N qual scope f cdv A outer s H E).nox body fb) :
    FnOk P w K mg base CX0 (k + 1) f fd ps (spRun mg F m (fnRun F n fb)) := by
  subst hn hm
  exact fn_ok F0 S hb
theorem fn_ok0N {x qual : Str} {params : Arguments} {body : List Stmt} {scope : Scope} {dvs : List V} {kws : List (Str × V)} {f : Addr} {fd : FuncData} (N ps : List Str) (F : Bool) (k m : Nat)
    (F0 : FunD K x qual params body scope dvs kws f fd) (S : FnScope N ps scope) (hm : ps.length = m) : FnOk P w K mg base CX0 (k + 1) f fd ps (spRun mg F m gNo) := by
  subst hm
  exact fn_ok0 F0 S
/-- what the def at hand is -/
structure Def (K : PySem.W.Frag) (mg : Str → Option Value) (x qual : Str) (st : Stmt) (ps : List Str) (dvs : List V) (f : Addr) (fd : FuncData) (ds : List Value) : Prop where
  fun_ : FunD K x qual (defArgs st) (defBody st) (defScope st) dvs [] f fd
  at_ : mg x = some (.ref f)
  binds : Binds K fd ps ds
  vals : Vals dvs ds
theorem Def.call {x qual : Str} {st : Stmt} {ps : List Str} {dvs : List V} {f : Addr} {fd : FuncData} {ds : List Value} {k : Nat} {F : Bool} {g : List T → Sto → Res T} (D : Def K mg x qual st ps dvs f fd ds)
    (h : FnOk P w K mg base CX0 k f fd ps (spRun mg F ps.length g)) : CallF P w K mg base k x F ps.length dvs g := ⟨f, fd, ps, ds, D.at_, D.fun_.kp, rfl, D.binds, D.vals, h⟩
/-- by another name -/
theorem Def.call_as {x qual y : Str} {st : Stmt} {ps : List Str} {dvs : List V} {f : Addr} {fd : FuncData} {ds : List Value} {k : Nat} {F : Bool} {g : List T → Sto → Res T} (D : Def K mg x qual st ps dvs f fd ds) (hy : mg y = some (.ref f))
    (h : FnOk P w K mg base CX0 k f fd ps (spRun mg F ps.length g)) : CallF P w K mg base k y F ps.length dvs g := ⟨f, fd, ps, ds, hy, D.fun_.kp, rfl, D.binds, D.vals, h⟩
structure DefM (K : PySem.W.Frag) (mg : Str → Option Value) (c m qual : Str) (st : Stmt) (ps : List Str) (dvs : List V) (C f : Addr) (fd : FuncData) (ds : List Value) : Prop where
  fun_ : FunD K m qual (defArgs st) (defBody st) (defScope st) dvs [] f fd
  at_ : mg c = some (.ref C)
  cls : Cls K C
  meth : Meth K C m f
  binds : Binds K fd ps ds
  vals : Vals dvs ds
theorem DefM.call {c m qual : Str} {st : Stmt} {ps : List Str} {dvs : List V} {C f : Addr} {fd : FuncData} {ds : List Value} {k : Nat} {F : Bool} {g : List T → Sto → Res T} (D : DefM K mg c m qual st ps dvs C f fd ds)
    (h : FnOk P w K mg base CX0 k f fd ps (spRun mg F ps.length g)) : MethF P w K mg base k c m F ps.length dvs g := ⟨C, f, fd, ps, ds, D.at_, D.cls, D.meth, rfl, D.binds, D.vals, h⟩
end
end TL
end
section
set_option Elab.async false
set_option linter.all false
set_option maxRecDepth 100000
/-! TL19: the script; powers, bit_length; purses and draws. -/
namespace TL
open PySem PySem.Spec PyProof.Rows L2

/-! ### the script: a list that is a tree, or one of the written part -/
abbrev Osc := Option (Addr × List Int)
def ScrOk (K : PySem.W.Frag) (o : Osc) : Prop := ∀ a ns, o = some (a, ns) → ∀ H, SqL K H a (ns.map V.int)
def ofScr (o : Osc) : T → Option (List T)
  | .lst xs => some xs
  | .scr a => match o with
    | some (a', ns) => if a = a' then some (ns.map T.int) else none
    | none => none
  | _ => none
theorem ofScr_ok {K : PySem.W.Frag} {o : Osc} (hO : ScrOk K o) {w : Wd} {v : V} {t : T} {ts : List T} (r : Rep w v t) (h : ofScr o t = some ts) : ∃ a xs, v = .ref a ∧ SqL K w.H a xs ∧ RepL w xs ts := by
  unfold ofScr at h
  split at h
  · cases h
    cases r with
    | lst n d l => exact ⟨_, _, rfl, .inl d, l⟩
  · split at h
    · split at h
      · rename_i e
        cases h
        cases r
        subst e
        exact ⟨_, _, rfl, hO _ _ rfl _, .ints _⟩
      · cases h
    · cases h
  · cases h
def kLenS (o : Osc) : List T → Sto → Res T := fun ts M => match ts with
  | [t] => match ofScr o t with
    | some xs => .ok (.int xs.length) M
    | none => .stuck
  | _ => .stuck
def eSlS (o : Osc) (f : Ev T) (lo hi : Ev (Option Int)) : Ev T := fun τ M => (f τ M).bind fun t M1 => (lo τ M1).bind fun l M2 => (hi τ M2).bind fun u M3 => match ofScr o t with
  | some xs => .ok (.lst (cutT xs l u)) M3
  | none => .stuck
section
variable {X : Cx} {F : Bool} {a b e : Expr} {es : List Expr} {fs : Ev (List T)} {fa fb : Ev T} {p pos apos : Pos} {o : Osc}
theorem se_lenS (hO : ScrOk X.K o) (B : Blt X.mg) (ha : SA X (e :: es) fs) (hg : Gl X "len" := by rfl)
    (he : starEach (e :: es) X.env = (false, eval e X.env) :: starEach es X.env := by rfl) (hpl : (backTo pos (starEach es X.env)).any (·.1) = false := by rfl) : SE false X (.Call (.Name "len" p) (e :: es) [] pos) (eA (kLenS o) fs) := by
  refine se_callB call_len (fun w vs ts Q g r q => ?_) hg B.len PySem.boot_len (by decide) (by decide) ha he hpl
  unfold kLenS at q
  split at q
  · obtain ⟨v, rfl, r1⟩ := repL1 r
    split at q
    · rename_i h
      obtain ⟨a, xs, rfl, d, l⟩ := ofScr_ok hO r1 h
      exact ⟨_, _, rfl, .inl ⟨_, d, rfl⟩, by rw [l.length]; exact post_ok q g (.int _)⟩
    · exact q.elim
  · exact q.elim
theorem se_slS {lo hi : Option Expr} {fl fh : Ev (Option Int)} {p2 : Pos} (hO : ScrOk X.K o) (ha : SE false X a fa) (hl : SO X lo fl) (hh : SO X hi fh) : SE true X (.Subscript a (.Slice lo hi none p2) pos) (eSlS o fa fl fh) := by
  obtain ⟨tl, pl, il⟩ := hl
  obtain ⟨th, ph, ih⟩ := hh
  refine pe_imp (pe_slice sl_list ha pl ph) fun σ H Q ⟨w, τ, e, g, n, q⟩ => ?_
  subst e
  refine ⟨w, τ, rfl, g, n, Res.all_mono (fun t M1 q w1 v x1 g1 e1 r1 _ => ?_) (Res.all_bind q)⟩
  subst e1
  refine il _ _ _ ⟨w1, τ, rfl, g1, n.mono x1, Res.all_mono (fun l M2 q w2 x2 g2 e2 => ?_) (Res.all_bind q)⟩
  subst e2
  refine ih _ _ _ ⟨w2, τ, rfl, g2, (n.mono x1).mono x2, Res.all_mono (fun u M3 q w3 x3 g3 e3 => ?_) (Res.all_bind q)⟩
  subst e3
  have xx := (x1.trans x2).trans x3
  split at q
  · rename_i h
    obtain ⟨a, xs, rfl, d, l⟩ := ofScr_ok hO ((r1.mono x2).mono x3) h
    exact ⟨_, _, rfl, d, fun p hp => post_lst (post_ext q xx) g3 hp (l.cut _ _)⟩
  · exact q.elim

/-! ### powers, bit_length -/
def kPow : T → T → Sto → Res T
  | .int i, .int j, M => if 1 < i ∧ 0 < j ∧ Builtin.Int.intTooBig (((Builtin.Int.intBits i : Nat) : Int) * j) = false then .ok (.int (i ^ j.toNat)) M else .stuck
  | _, _, _ => .stuck
def CPowW (i j : Int) : Prop := 1 < i ∧ 0 < j ∧ Builtin.Int.intTooBig (((Builtin.Int.intBits i : Nat) : Int) * j) = false
theorem op_powW : OpR X (binaryOp .Pow) (rI CPowW fun i j => .int (i ^ j.toNat)) := opI fun i j t u s Q E hc q =>
  PySem.AutoIntOps.pow_4 (by have := hc.2.1; omega) (by have := hc.2.1; simp; omega) (by have := hc.1; simp; omega) (by have := hc.1; simp; omega) (by rw [hc.2.2]; exact Bool.false_ne_true) q
theorem se_pow (ha : SE false X a fa) (hb : SE false X b fb) : SE false X (.BinOp a .Pow b pos) (e2 kPow fa fb) := by
  refine pe_imp (pe_op op_powW ha hb) fun σ H Q h => two_imp (fun w x y s t Q g r1 r2 q => ?_) h
  unfold kPow at q
  split at q
  · split at q
    · cases r1; cases r2; exact ⟨_, _, rfl, rfl, by assumption, post_ok q g (.int _)⟩
    · exact q.elim
  · exact q.elim
def kBits : T → Sto → Res T
  | .int i, M => .ok (.int (Builtin.Int.intBits i : Nat)) M
  | _, _ => .stuck
theorem se_bits (ha : SE false X a fa) (hbase : attributeBase a "bit_length" X.env (eval a X.env) = eval a X.env := by rfl) (hline : (apos.endLine == pos.line) = true := by rfl) : SE false X (.Call (.Attribute a "bit_length" apos) [] [] pos) (e1 kBits fa) := by
  refine pe_imp (pe_bits ha hbase hline) fun σ H Q ⟨w, τ, e, g, n, q⟩ => ?_
  subst e
  refine ⟨w, τ, rfl, g, n, Res.all_mono (fun t M1 q w1 v x1 g1 e1 r1 _ => ?_) (Res.all_bind q)⟩
  subst e1
  have q := post_ext q x1
  unfold kBits at q
  split at q
  · cases r1; exact ⟨_, rfl, post_ok q g1 (.int _)⟩
  · exact q.elim
end

/-! ### one of the store is told otherwise -/
theorem upd_self {H : Hp} {a : Addr} {o : HO} (h : H a = some o) : upd H a o = H := by
  funext b
  by_cases e : b = a
  · rw [e, upd_same, h]
  · rw [upd_ne e]
theorem wr_self {w : Wd} {n : Nat} {ho : HO} {o : MO} (h : w.H (w.ρ n) = some ho) : (w.wr n ho o).H = w.H := upd_self h
/-- the numbers of a purse -/
structure Prs (k : Nat) (p0 p1 p2 p3 : Int) : Prop where
  a0 : 0 ≤ p0
  a1 : p0 < 10 ^ 480
  b0 : 0 ≤ p1
  b1 : p1 < 2147483629
  c0 : 0 ≤ p2
  c1 : p2 ≤ k
  d0 : 0 ≤ p3
  d1 : p3 ≤ 63
def pT (p0 p1 p2 p3 : Int) : List T := [.int p0, .int p1, .int p2, .int p3]
theorem repL_ints4 {w : Wd} {vs : List V} {p0 p1 p2 p3 : Int} (r : RepL w vs (pT p0 p1 p2 p3)) : vs = [.int p0, .int p1, .int p2, .int p3] :=
  RepL.ints_of (ns := [p0, p1, p2, p3]) r
def eTag (f : Ev T) : Ev T := fun τ M => (f τ M).bind fun t M1 => match t with
  | .ref n => match M1.get n with
    | some (.lst [.int p0, .int p1, .int p2, .int p3]) => if (0 ≤ p0 ∧ p0 < 10 ^ 480 ∧ 0 ≤ p1 ∧ p1 < 2147483629 ∧ p2 = 0 ∧ 0 ≤ p3 ∧ p3 ≤ 63) then .ok (.ref n) (M1.set n (.purse 0)) else .stuck
    | _ => .stuck
  | _ => .stuck
theorem SE.tag {X : Cx} {e : Expr} {f : Ev T} (h : SE false X e f) : SE false X e (eTag f) := by
  refine pe_imp h fun σ H Q ⟨w, τ, e, g, n, q⟩ => ?_
  subst e
  refine ⟨w, τ, rfl, g, n, Res.all_mono (fun t M1 q w1 v x1 g1 e1 r1 ff => ?_) (Res.all_bind q)⟩
  clear ff
  subst e1
  split at q
  · rename_i m
    split at q
    · rename_i p0 p1 p2 p3 hm
      split at q
      · rename_i hb
        obtain ⟨h1, h2, h3, h4, h5, h6, h7⟩ := hb
        obtain ⟨_, _, vs, e, l⟩ := g1.own _ _ hm
        have ev := repL_ints4 l
        subst ev
        have x2 : Ext w1 (w1.wr m (.lst [.int p0, .int p1, .int p2, .int p3]) (.purse 0)) := Ext.wr g1 hm
        have g2 : Good X.mg (w1.wr m (.lst [.int p0, .int p1, .int p2, .int p3]) (.purse 0)) := Good.wr g1 hm ⟨p0, p1, p2, p3, rfl, h1, h2, h3, h4, by omega, by subst h5; exact Int.le_refl _, h6, h7⟩
        have := q _ v (x1.trans x2) g2 rfl (r1.mono x2) fun z => nomatch z
        rw [wr_self e] at this
        exact this
      · exact q.elim
    · exact q.elim
  · exact q.elim
/-- a draw: any number below m -/
def rDraw : List T → Sto → Res T := fun ts M => match ts with
  | [.ref n, .int m] => match M.get n with
    | some (.purse k) => if 0 < m ∧ m < 134217728 ∧ k < 1000000 then .pick m.toNat fun d => .ok (.int (d : Nat)) (M.set n (.purse (k + 1))) else .stuck
    | _ => .stuck
  | _ => .stuck
theorem set_set {M : Sto} {n : Nat} {o o' : MO} : (M.set n o).set n o' = M.set n o' := by
  have : ∀ l : List (Nat × MO), stM n o' (stM n o l) = stM n o' l := fun l => by
    induction l with
    | nil => rfl
    | cons p l ih =>
      obtain ⟨k, u⟩ := p
      have e1 : ∀ (o : MO) (k : Nat) (u : MO) (l : List (Nat × MO)), stM n o ((k, u) :: l) = if Nat.beq k n then (k, o) :: l else (k, u) :: stM n o l := fun _ _ _ _ => rfl
      rw [e1, e1]
      by_cases e : Nat.beq k n = true
      · rw [if_pos e, if_pos e, e1, if_pos e]
      · rw [if_neg e, if_neg e, e1, if_neg e, ih]
  unfold Sto.set
  rw [this]
theorem draw_ok {P : Program} {w : World} {K : PySem.W.Frag} {mg : Str → Option Value} {base : Heap} {f : Addr} {fd : FuncData} {ps : List Str} {k : Nat} {r0 : List T → Sto → Res T} (F0 : FnOk P w K mg base CX0 k f fd ps (spRun mg false 2 r0))
    (hr : ∀ (n k : Nat) (m p0 p1 p2 p3 : Int) (M : Sto), M.get n = some (.lst (pT p0 p1 p2 p3)) → Prs k p0 p1 p2 p3 → 0 < m → m < 134217728 → k < 1000000 → ∃ d q0 q2, 0 ≤ d ∧ d < m ∧ Prs (k + 1) q0 p1 q2 p3 ∧ r0 [.ref n, .int m] M = .ok (.int d) (M.set n (.lst (pT q0 p1 q2 p3)))) :
    FnOk P w K mg base CX0 k f fd ps (spRun mg false 2 rDraw) := by
  refine F0.imp fun vs H Q E ⟨hl, w0, ts, e, g, r, q⟩ => ⟨hl, ?_⟩
  subst e
  unfold rDraw at q
  split at q
  · rename_i n m
    split at q
    · rename_i k hm
      split at q
      · rename_i hc
        obtain ⟨hc1, hc2, hc3⟩ := hc
        obtain ⟨_, _, p0, p1, p2, p3, e, b1, b2, b3, b4, b5, b6, b7, b8⟩ := g.own _ _ hm
        have x1 : Ext w0 (w0.wr n (.lst [.int p0, .int p1, .int p2, .int p3]) (.lst (pT p0 p1 p2 p3))) := Ext.wr g hm
        have g1 : Good mg (w0.wr n (.lst [.int p0, .int p1, .int p2, .int p3]) (.lst (pT p0 p1 p2 p3))) := Good.wr g hm ⟨_, rfl, RepL.ints [p0, p1, p2, p3]⟩
        have hg : (w0.M.set n (.lst (pT p0 p1 p2 p3))).get n = some (.lst (pT p0 p1 p2 p3)) := by rw [get_set hm, if_pos rfl]
        refine ⟨w0.wr n (.lst [.int p0, .int p1, .int p2, .int p3]) (.lst (pT p0 p1 p2 p3)), _, wr_self e, g1, r.mono x1, ?_⟩
        obtain ⟨d, q0, q2, d1, d2, pr, er⟩ := hr n k m p0 p1 p2 p3 (w0.M.set n (.lst (pT p0 p1 p2 p3))) hg ⟨b1, b2, b3, b4, b5, b6, b7, b8⟩ hc1 hc2 hc3
        rw [show (w0.wr n (.lst [.int p0, .int p1, .int p2, .int p3]) (.lst (pT p0 p1 p2 p3))).M = w0.M.set n (.lst (pT p0 p1 p2 p3)) from rfl, er, set_set]
        intro w2 v x2 g2 e2 r2 _
        have q := q d.toNat (by omega)
        dsimp only at q
        have hd : ((d.toNat : Nat) : Int) = d := Int.toNat_of_nonneg d1
        rw [hd] at q
        have hm2 : w2.M.get n = some (.lst (pT q0 p1 q2 p3)) := by rw [e2, get_set hm, if_pos rfl]
        obtain ⟨_, _, vs2, e3, l3⟩ := g2.own _ _ hm2
        have ev := repL_ints4 l3
        subst ev
        have x3 : Ext w2 (w2.wr n (.lst [.int q0, .int p1, .int q2, .int p3]) (.purse (k + 1))) := Ext.wr g2 hm2
        have g3 : Good mg (w2.wr n (.lst [.int q0, .int p1, .int q2, .int p3]) (.purse (k + 1))) := Good.wr g2 hm2 ⟨q0, p1, q2, p3, rfl, pr.a0, pr.a1, pr.b0, pr.b1, pr.c0, pr.c1, pr.d0, pr.d1⟩
        have := q (w2.wr n (.lst [.int q0, .int p1, .int q2, .int p3]) (.purse (k + 1))) v ((x1.trans x2).trans x3) g3 (by show w2.M.set n _ = _; rw [e2, set_set]) (r2.mono x3) fun z => nomatch z
        rw [wr_self e3] at this
        exact this
      · exact q.elim
    · exact q.elim
  · exact q.elim
end TL
end
section
set_option Elab.async false
set_option linter.all false
set_option maxRecDepth 100000
/-! TL20: a loop's body cut in two: behind the cut nothing is known but some plain names and the purses. -/
namespace TL
open PySem PySem.Spec PyProof.Rows L2

def tSb (mg : Str → Option Value) (n : Nat) (F : Bool) (f : Ev Fl) : TS := fun D σ H => ∃ wb w τ, wb.M.nx = n ∧ w.H = H ∧ Good mg w ∧ Ext wb w ∧ Nm w σ τ ∧ postS mg F D wb (f τ w.M)
def SBb (n : Nat) (F : Bool) (X : Cx) (sts : List Stmt) (f : Ev Fl) : Prop := PSs X sts (tSb X.mg n F f)
mutual
def flatR (n : Nat) : T → Bool
  | .non => true
  | .bl _ => true
  | .int _ => true
  | .str _ => true
  | .ref k => decide (k < n)
  | .lst xs => flatRs n xs
  | .tup xs => flatRs n xs
  | .dic _ xs => flatRs n xs
  | .scr _ => false
termination_by structural t => t
def flatRs (n : Nat) : List T → Bool
  | [] => true
  | x :: xs => flatR n x && flatRs n xs
termination_by structural ts => ts
end
def memN (i : Nat) : List Nat → Bool
  | [] => false
  | k :: ks => if Nat.beq k i then true else memN i ks
def canT (n : Nat) (ks : List Nat) : Nat → Tau → Tau
  | _, [] => []
  | i, x :: r => (if memN i ks then (match x with
    | some t => if flatR n t then some t else none
    | none => none) else none) :: canT n ks (i + 1) r
def canL (n K : Nat) : List (Nat × MO) → Option (List (Nat × MO))
  | [] => some []
  | (k, o) :: r => if k < n then (match o with
      | .purse j => if j ≤ K then (canL n K r).map fun l => (k, .purse K) :: l else none
      | _ => none)
    else canL n K r
def sCan (n : Nat) (ks : List Nat) (K : Nat) (f : Ev Fl) : Ev Fl := fun τ M => match canL n K M.m with
  | some l => f (canT n ks 0 τ) ⟨l, n⟩
  | none => .stuck
theorem canL_get {n K : Nat} : ∀ {m l : List (Nat × MO)} {k : Nat} {o : MO}, canL n K m = some l → lkM k l = some o → k < n ∧ o = .purse K ∧ ∃ j, j ≤ K ∧ lkM k m = some (.purse j)
  | [], l, k, o, h, e => by cases h; cases e
  | (i, u) :: r, l, k, o, h, e => by
    unfold canL at h
    by_cases hi : i < n
    · rw [if_pos hi] at h
      split at h
      · rename_i j
        split at h
        · rename_i hj
          cases hr : canL n K r with
          | none => rw [hr] at h; cases h
          | some l' =>
            rw [hr] at h
            cases h
            have e : (if Nat.beq i k then some (MO.purse K) else lkM k l') = some o := e
            show k < n ∧ o = .purse K ∧ ∃ j', j' ≤ K ∧ (if Nat.beq i k then some (MO.purse j) else lkM k r) = some (.purse j')
            by_cases hb : Nat.beq i k = true
            · rw [if_pos hb] at e
              cases e
              have := Nat.eq_of_beq_eq_true hb
              subst this
              exact ⟨hi, rfl, j, hj, by rw [if_pos hb]⟩
            · rw [if_neg hb] at e
              rw [if_neg hb]
              exact canL_get hr e
        · cases h
      · cases h
    · rw [if_neg hi] at h
      obtain ⟨h1, h2, j, h3, h4⟩ := canL_get h e
      refine ⟨h1, h2, j, h3, ?_⟩
      show (if Nat.beq i k then some u else lkM k r) = _
      rw [if_neg fun z => by have := Nat.eq_of_beq_eq_true z; omega]
      exact h4
theorem canT_get {n : Nat} {ks : List Nat} : ∀ {τ : Tau} {i j : Nat} {t : T}, (canT n ks i τ)[j]? = some (some t) → τ[j]? = some (some t) ∧ flatR n t = true
  | [], _, _, _, h => by simp [canT] at h
  | x :: r, i, 0, t, h => by
    have h : (if memN i ks then (match x with
      | some t => if flatR n t then some t else none
      | none => none) else none) = some t := by simpa [canT] using h
    split at h
    · split at h
      · rename_i u
        split at h
        · rename_i hf
          cases h
          exact ⟨rfl, hf⟩
        · cases h
      · cases h
    · cases h
  | x :: r, i, j + 1, t, h => by
    have h : (canT n ks (i + 1) r)[j]? = some (some t) := by simpa [canT] using h
    obtain ⟨a, b⟩ := canT_get h
    exact ⟨by simpa using a, b⟩
theorem canT_length {n : Nat} {ks : List Nat} : ∀ {τ : Tau} {i : Nat}, (canT n ks i τ).length = τ.length
  | [], _ => rfl
  | x :: r, i => by show (canT n ks (i + 1) r).length + 1 = r.length + 1; rw [canT_length]
def Wd.can (w : Wd) (n : Nat) (l : List (Nat × MO)) : Wd := { w with M := ⟨l, n⟩ }
section
variable {mg : Str → Option Value} {w wb : Wd} {n K : Nat} {l : List (Nat × MO)}
theorem Ex.can (h : canL n K w.M.m = some l) {a : Addr} (e : Ex (w.can n l) a) : Ex w a := by
  rcases e with e | ⟨k, o, e, rfl⟩
  · exact .inl e
  · obtain ⟨_, _, j, _, h4⟩ := canL_get h e
    exact .inr ⟨k, _, h4, rfl⟩
theorem Ext.can (h : canL n K w.M.m = some l) (x : Ext wb w) (hn : wb.M.nx = n) : Ext wb (w.can n l) :=
  ⟨fun a u hu e m => let ⟨a1, a2⟩ := x.keep a u hu e m; ⟨a1, fun z => a2 (Ex.can h z)⟩, fun a o u hu e m => let ⟨a1, a2⟩ := x.keepF a o u hu e m; ⟨a1, fun z => a2 (Ex.can h z)⟩, fun a u e m => let ⟨a1, a2⟩ := x.keepD a u e m; ⟨a1, fun z => a2 (Ex.can h z)⟩,
   x.dom, Nat.le_of_eq hn, x.rho, x.R, x.Rk, x.frz⟩
theorem Good.can (g : Good mg w) (h : canL n K w.M.m = some l) : Good mg (w.can n l) := by
  refine ⟨fun k o e => ?_, fun k m o u e1 e2 e3 => ?_, g.Rd⟩
  · obtain ⟨h1, rfl, j, h3, h4⟩ := canL_get h e
    obtain ⟨_, a2, p0, p1, p2, p3, a3, b1, b2, b3, b4, b5, b6, b7, b8⟩ := g.own k _ h4
    exact ⟨h1, a2, p0, p1, p2, p3, a3, b1, b2, b3, b4, b5, by omega, b7, b8⟩
  · obtain ⟨_, _, j, _, h4⟩ := canL_get h e1
    obtain ⟨_, _, j', _, h4'⟩ := canL_get h e2
    exact g.inj k m _ _ h4 h4' e3
mutual
theorem flat_rep (hc : canL n K w.M.m = some l) : ∀ {v : V} {t : T}, Rep w v t → flatR n t = true → Rep (w.can n l) v t
  | _, _, .non, _ => .non
  | _, _, .bl b, _ => .bl b
  | _, _, .int i, _ => .int i
  | _, _, .str x, _ => .str x
  | _, _, .ref k hk, h => .ref (w := w.can n l) k (of_decide_eq_true h)
  | _, _, .lst m d r, h => .lst (fun z => m (Ex.can hc z)) d (flat_repL hc r h)
  | _, _, .tup m d r, h => .tup (fun z => m (Ex.can hc z)) d (flat_repL hc r h)
  | _, _, .dic m d e1 e2 r, h => .dic (fun z => m (Ex.can hc z)) d e1 e2 (flat_repL hc r h)
theorem flat_repL (hc : canL n K w.M.m = some l) : ∀ {vs : List V} {ts : List T}, RepL w vs ts → flatRs n ts = true → RepL (w.can n l) vs ts
  | _, _, .nil, _ => .nil
  | _, _, .cons r q, h => .cons (flat_rep hc r (Bool.and_eq_true _ _ ▸ h).1) (flat_repL hc q (Bool.and_eq_true _ _ ▸ h).2)
end
theorem Nm.can {σ : L2.St} {τ : Tau} {ks : List Nat} (hc : canL n K w.M.m = some l) (e : Nm w σ τ) : Nm (w.can n l) σ (canT n ks 0 τ) :=
  ⟨by rw [canT_length]; exact e.len, fun i t h => by
    obtain ⟨a, b⟩ := canT_get h
    obtain ⟨v, h1, h2⟩ := e.at_ i t a
    exact ⟨v, h1, flat_rep hc h2 b⟩⟩
end
section
variable {X : Cx} {F : Bool} {pos : Pos} {st : Stmt} {sts : List Stmt} {e : Expr} {f g : Ev Fl} {n : Nat}
theorem sbb_cons (h1 : SS F X st f) (h2 : SBb n F X sts g) : SBb n F X (st :: sts) (sSeq f g) := by
  refine pss_imp (pss_cons h1 h2) fun D σ H ⟨wb, w, τ, hn, e, gd, xb, nm, q⟩ => ?_
  subst e
  refine ⟨w, τ, rfl, gd, nm, Res.all_mono (fun fl M1 q w1 x1 g1 e1 => ?_) (Res.all_bind q)⟩
  subst e1
  cases fl with
  | nx τ' => exact fun σ' n' => ⟨wb, w1, τ', hn, rfl, g1, xb.trans x1, n', q⟩
  | rt t => exact (q w1 (xb.trans x1) g1 rfl).ext xb
  | bk τ' => exact (q w1 (xb.trans x1) g1 rfl).ext xb
  | ct τ' => exact (q w1 (xb.trans x1) g1 rfl).ext xb
theorem sbb_of (h : SB F X sts f) : SBb n F X sts f := by
  refine pss_imp h fun D σ H ⟨wb, w, τ, hn, e, gd, xb, nm, q⟩ => ?_
  subst e
  exact ⟨w, τ, rfl, gd, nm, postS_ext q xb⟩
theorem sbb_can (ks : List Nat) (K : Nat) (h : SBb n F X sts f) : SBb n F X sts (sCan n ks K f) := by
  refine pss_imp h fun D σ H ⟨wb, w, τ, hn, e, gd, xb, nm, q⟩ => ?_
  subst e
  unfold sCan at q
  split at q
  · rename_i l hl
    exact ⟨wb, w.can n l, canT n ks 0 τ, hn, rfl, gd.can hl, Ext.can hl xb hn, nm.can hl, q⟩
  · exact q.elim
def sForB (fi : Ev (List T)) (g : Tg) (fb : Nat → Ev Fl) : Ev Fl := fun τ M => (fi τ M).bind fun ts M' => forL g (fb M'.nx) ts τ M'
theorem for_impB {mg : Str → Option Value} {sl : List Nat} {gt : Tg} {fb : Nat → Ev Fl} {D : Ends} {w : Wd} {σ : L2.St} {τ : Tau} {J : It} {ts : List T} (g : Good mg w) (nm : Nm w σ τ) (y : Yld mg J w ts) (q : postS mg F D w (forL gt (fb w.M.nx) ts τ w.M)) :
    ∃ W : Nat → Nat → L2.St → Hp → Prop, (∃ m, W 0 m σ w.H) ∧ ∀ i m σ H, W i m σ H → (J.stop i H ∧ D.nx σ H) ∨ (J.go i H ∧ ∃ N : L2.St → Hp → Prop, (∀ σ' H', N σ' H' → ∃ m', m' < m ∧ W (i + 1) m' σ' H') ∧
      ∀ x H', J.yld i H x H' → tG mg sl gt x σ H' fun σ2 H2 => ∃ n, tSb mg n F (fb n) { D with nx := N, ct := N, bk := D.nx } σ2 H2) := by
  refine ⟨fun i m σ H => m = ts.length - i ∧ i ≤ ts.length ∧ ∃ w' τ', w'.H = H ∧ Good mg w' ∧ Ext w w' ∧ Nm w' σ τ' ∧ postS mg F D w (forL gt (fb w.M.nx) (ts.drop i) τ' w'.M),
    ⟨ts.length, by simp, Nat.zero_le _, w, τ, rfl, g, .refl w, nm, by rw [List.drop_zero]; exact q⟩, ?_⟩
  rintro i m σ1 H ⟨rfl, hi, w', τ', rfl, g', x, n', q'⟩
  by_cases hl : i < ts.length
  · refine .inr ⟨y.go i w' x.toKF g' hl, fun σ2 H2 => i + 1 ≤ ts.length ∧ ∃ w' τ', w'.H = H2 ∧ Good mg w' ∧ Ext w w' ∧ Nm w' σ2 τ' ∧ postS mg F D w (forL gt (fb w.M.nx) (ts.drop (i + 1)) τ' w'.M), fun σ2 H2 ⟨h, r⟩ => ⟨ts.length - (i + 1), by omega, rfl, h, r⟩, fun v H' hy => ?_⟩
    rw [List.drop_eq_getElem_cons hl] at q'
    obtain ⟨w1, rfl, x1, g1, m1, r1⟩ := y.yl i w' v H' x.toKF g' hy _ (List.getElem?_eq_getElem hl)
    rw [← m1] at q'
    refine ⟨w1, τ', _, rfl, g1, n'.mono x1, r1, Res.all_mono (fun τ1 M1 q w2 σ2 x2 g2 e2 n2 _ => ?_) (Res.all_bind q')⟩
    subst e2
    refine ⟨w.M.nx, w, w2, τ1, rfl, rfl, g2, (x.trans x1).trans x2, n2, Res.all_mono (fun fl M2 q w3 x3 g3 e3 => ?_) (Res.all_bind q)⟩
    subst e3
    cases fl with
    | nx τ2 => exact fun σ3 n3 => ⟨hl, w3, τ2, rfl, g3, x3, n3, q⟩
    | ct τ2 => exact fun σ3 n3 => ⟨hl, w3, τ2, rfl, g3, x3, n3, q⟩
    | bk τ2 => exact fun σ3 n3 => q w3 x3 g3 rfl σ3 n3
    | rt t => exact q w3 x3 g3 rfl
  · have e : ts.drop i = [] := List.drop_of_length_le (by omega)
    rw [e] at q'
    exact .inl ⟨y.stop i w' x.toKF g' (by omega), q' w' x g' rfl σ1 n'⟩
theorem ss_forB {sl : List Nat} {tg : Expr} {gt : Tg} {fi : Ev (List T)} {fb : Nat → Ev Fl} (hi : SI X tg e fi) (hg : SG sl X tg gt) (hb : ∀ n, SBb n F X sts (fb n)) (hp : PassesOwn (model X.prog X.w) X.A X.env X.xe := by exact PassesOwn.never) (hc : X.calm = true := by rfl)
    (hs : ∀ x, foldedSetIterable e X.env x = pure x := by intro _; rfl) : SS F X (.For tg e sts [] pos) (sForB fi gt fb) := by
  have hB : PSs X sts (fun D σ H => ∃ n, tSb X.mg n F (fb n) D σ H) := ⟨fun p s σ H D I ⟨n, q⟩ => (hb n).run p s σ H D I q⟩
  refine ps_imp (ps_for hp hc hi hg hB hs) fun D σ H ⟨w, τ, e, g, n, q⟩ => ?_
  subst e
  refine ⟨w, τ, rfl, g, n, Res.all_mono (fun ts M' q w1 J x1 g1 e1 y => ?_) (Res.all_bind q)⟩
  subst e1
  exact for_impB g1 (n.mono x1) y (postS_ext q x1)
end
/-! ### sequences, taken apart -/
theorem Res.bind_assoc {α β γ : Type} {k : α → Sto → Res β} {h : β → Sto → Res γ} : ∀ (a : Res α), (a.bind k).bind h = a.bind fun x M => (k x M).bind h
  | .ok _ _ => rfl
  | .stuck => rfl
  | .pick m f => by
    show Res.pick m (fun r => ((f r).bind k).bind h) = Res.pick m (fun r => (f r).bind fun x M => (k x M).bind h)
    congr 1
    funext r
    exact bind_assoc (f r)
theorem sSeq_assoc (a b c : Ev Fl) : sSeq (sSeq a b) c = sSeq a (sSeq b c) := by
  funext τ M
  show ((a τ M).bind _).bind _ = (a τ M).bind _
  rw [Res.bind_assoc]
  congr 1
  funext fl M'
  cases fl <;> rfl
theorem sCan_seq (n : Nat) (ks : List Nat) (K : Nat) (f : Ev Fl) : sCan n ks K f = sSeq (sCan n ks K sNil) f := by
  funext τ M
  show sCan n ks K f τ M = ((sCan n ks K sNil) τ M).bind _
  unfold sCan
  split <;> rfl
theorem seq_all {a b : Ev Fl} {τ : Tau} {M : Sto} {Φ : Fl → Sto → Prop} (h : (a τ M).all fun fl M' => match fl with
    | .nx τ' => (b τ' M').all Φ
    | fl => Φ fl M') : (sSeq a b τ M).all Φ := by
  refine Res.bind_all (Res.all_mono (fun fl M' q => ?_) h)
  cases fl <;> exact q
def Res.allB {α : Type} (φ : α → Sto → Bool) : Res α → Bool
  | .ok a M => φ a M
  | .stuck => false
  | .pick m f => (List.range m).all fun r => (f r).allB φ
theorem Res.allB_ok {α : Type} {φ : α → Sto → Bool} : ∀ {a : Res α}, a.allB φ = true → a.all fun x M => φ x M = true
  | .ok _ _, h => h
  | .stuck, h => nomatch h
  | .pick m f, h => fun r hr => allB_ok (List.all_eq_true.mp h r (List.mem_range.mpr hr))
end TL
end
section
set_option Elab.async false
set_option linter.all false
set_option maxRecDepth 100000
/-! TL21: x += e, x[i] += e. -/
namespace TL
open PySem PySem.Spec PyProof.Rows L2
def kAddN : T → T → Sto → Res T
  | .int i, .int j, M => .ok (.int (i + j)) M
  | _, _, _ => .stuck
def kSubN : T → T → Sto → Res T
  | .int i, .int j, M => .ok (.int (i - j)) M
  | _, _, _ => .stuck
def IpOk (X : Cx) (op : Operator) (k : T → T → Sto → Res T) : Prop := ∃ r : TIp, PIp X op r ∧ ∀ w x y a b Q, Good X.mg w → Rep w x a → Rep w y b → post X.mg false Q w (k a b w.M) → r x y w.H Q
section
variable {X : Cx} {F : Bool} {e o a b : Expr} {pos : Pos} {fe fo fa fb : Ev T} {k : T → T → Sto → Res T} {op : Operator}
theorem i_add : IpOk X .Add kAddN := ⟨_, ip_add, fun w x y a b Q g r1 r2 q => by
  unfold kAddN at q
  split at q
  · cases r1; cases r2; exact ⟨_, _, rfl, rfl, post_ok q g (.int _)⟩
  · exact q.elim⟩
theorem i_sub : IpOk X .Sub kSubN := ⟨_, ip_sub, fun w x y a b Q g r1 r2 q => by
  unfold kSubN at q
  split at q
  · cases r1; cases r2; exact ⟨_, _, rfl, rfl, post_ok q g (.int _)⟩
  · exact q.elim⟩
def sAug (k : T → T → Sto → Res T) (i : Nat) (fe : Ev T) : Ev Fl := fun τ M => match τ[i]? with
  | some (some t) => (fe τ M).bind fun u M1 => (k t u M1).bind fun z M2 => .ok (.nx (τ.set i (some z))) M2
  | _ => .stuck
theorem ss_aug {i : Nat} {x : Str} {pos' : Pos} (hN : X.N.Nodup) (ho : IpOk X op k) (he : SE false X e fe) (hi : X.N[i]? = some x := by rfl) (hx : Loc X.env.scope x := by first | exact .inl rfl | exact .inr rfl)
    (hf : X.fn x = true ∨ X.env.scope.names.lookup x = some .local := by first | exact .inl rfl | exact .inr rfl) : SS F X (.AugAssign (.Name x pos') op e pos) (sAug k i fe) := by
  obtain ⟨r, hr, hk⟩ := ho
  refine ps_imp (ps_aug hN hi hx he hr hf) fun D σ H ⟨w, τ, e, g, n, q⟩ => ?_
  subst e
  unfold sAug at q
  split at q
  · rename_i t ht
    obtain ⟨v, h1, h2⟩ := n.at_ i t ht
    refine ⟨v, h1, w, τ, rfl, g, n, Res.all_mono (fun u M1 q w1 y x1 g1 e1 r1 ff => ?_) (Res.all_bind q)⟩
    clear ff
    subst e1
    refine hk w1 v y t u _ g1 (h2.mono x1) r1 (Res.all_mono (fun z M2 q w2 zv x2 g2 e2 r2 _ => ?_) (Res.all_bind q))
    subst e2
    exact q w2 (x1.trans x2) g2 rfl _ (((n.mono x1).mono x2).set r2 i)
  · exact q.elim

/-! ### x[i] += e -/
def rGetL (K : PySem.W.Frag) : V → V → Hp → VK → Prop := fun o i H Q => ∃ (p : Addr) (xs : List V) (j : Nat) (v : V), o = .ref p ∧ i = .int (j : Nat) ∧ SqL K H p xs ∧ xs[j]? = some v ∧ Q v H
theorem get_listN : PGet X (rGetL X.K) := by
  intro pins s σ H o i ov iv Q I ro ri ⟨p, xs, j, v, eo, ei, hs, hj, q⟩
  subst eo ei
  cases ro
  obtain ⟨t, rfl⟩ := ri
  obtain ⟨its, rv, pl, hz⟩ := I.list hs
  obtain ⟨u, hu, ru⟩ := rv.get hj
  have hl := (List.getElem?_eq_some_iff.mp hu).1
  have big := line63
  have hl2 := rv.length
  exact wpAny_getItem_list pl.isList (by omega) (by omega) (by simpa using hu) ⟨v, H, I, ru, q⟩
def sAugAt (k : T → T → Sto → Res T) (fo fi fe : Ev T) : Ev Fl := fun τ M => (fo τ M).bind fun o M1 => (fi τ M1).bind fun i M2 => match o, i with
  | .ref n, .int i => match M2.get n with
    | some (.lst xs) => if 0 ≤ i then (match xs[i.toNat]? with
      | some x => (fe τ M2).bind fun y M3 => (k x y M3).bind fun z M4 => match M4.get n with
        | some (.lst ys) => (match ixN ys.length i with
          | some j => .ok (.nx τ) (M4.set n (.lst (ys.set j z)))
          | none => .stuck)
        | _ => .stuck
      | none => .stuck) else .stuck
    | _ => .stuck
  | _, _ => .stuck
theorem ss_augAt (ho : IpOk X op k) (ha : SE false X a fa) (hb : SE false X b fb) (he : SE false X e fe) {tpos : Pos}
    (hs : ∀ ov iv new, augStore b ov iv new = (do holding [new, ov, iv] (setItem ov iv new); release [new, ov, iv] []; pure .next) := by intros; rfl) : SS F X (.AugAssign (.Subscript a b tpos) op e pos) (sAugAt k fa fb fe) := by
  obtain ⟨r, hr, hk⟩ := ho
  refine ps_imp (ps_augS ha hb get_listN he hr set_list hs) fun D σ H ⟨w, τ, e, g, n, q⟩ => ?_
  subst e
  refine ⟨w, τ, rfl, g, n, Res.all_mono (fun o M1 q w1 ov x1 g1 e1 r1 ff => ?_) (Res.all_bind q)⟩
  clear ff
  subst e1
  refine ⟨w1, τ, rfl, g1, n.mono x1, Res.all_mono (fun i M2 q w2 iv x2 g2 e2 r2 ff => ?_) (Res.all_bind q)⟩
  clear ff
  subst e2
  have r1 := r1.mono x2
  cases o with
  | ref nn =>
    cases i with
    | int i =>
      dsimp only at q
      split at q
      · rename_i xs hm
        split at q
        · rename_i hi
          split at q
          · rename_i x hx
            cases r1 with
            | ref _ hn =>
              cases r2
              obtain ⟨_, _, vs, ev, l⟩ := g2.own _ _ hm
              obtain ⟨xv, h1, h2⟩ := l.get hx
              refine ⟨w2.ρ nn, vs, i.toNat, xv, rfl, by rw [Int.toNat_of_nonneg hi], .of ev, h1, w2, τ, rfl, g2, (n.mono x1).mono x2, Res.all_mono (fun y M3 q3 w3 yv x3 g3 e3 r3 ff => ?_) (Res.all_bind q)⟩
              clear ff
              subst e3
              refine hk w3 xv yv x y _ g3 (h2.mono x3) r3 (Res.all_mono (fun z M4 q4 w4 zv x4 g4 e4 r4 ff => ?_) (Res.all_bind q3))
              clear ff
              subst e4
              split at q4
              · rename_i ys hm2
                split at q4
                · rename_i j hj
                  obtain ⟨_, _, ws, ew, l2⟩ := g4.own _ _ hm2
                  have er : w4.ρ nn = w2.ρ nn := ((x3.trans x4).rho nn hn)
                  obtain ⟨x5, g5⟩ := wr_lst (ts := ys) g4 hm2 (RepL.set r4 j l2)
                  have xx := ((x1.trans x2).trans x3).trans x4
                  refine ⟨w2.ρ nn, ws, i, j, rfl, rfl, by rw [← er]; exact ew, by rw [l2.length]; exact hj, ?_⟩
                  have := q4 _ (xx.trans x5) g5 rfl σ ((n.mono xx).mono x5)
                  rw [← er]
                  exact this
                · exact q4.elim
              · exact q4.elim
          · exact q.elim
        · exact q.elim
      · exact q.elim
    | _ => exact q.elim
  | _ => exact q.elim
end
end TL
end
section
set_option Elab.async false
set_option linter.all false
set_option maxRecDepth 100000
/-! TL22: sorted(xs), min(xs) of lists of whole numbers' lists. -/
namespace TL
open PySem PySem.Spec PyProof.Rows L2
def leR : List Int → List Int → Bool
  | [], _ => true
  | _ :: _, [] => false
  | x :: xs, y :: ys => if x < y then true else if y < x then false else leR xs ys
theorem leR_iff : ∀ {a b : List Int}, leR a b = true ↔ a ≤ b
  | [], b => by simp [leR]
  | x :: xs, [] => by simp [leR]
  | x :: xs, y :: ys => by
    unfold leR
    rw [List.cons_le_cons_iff]
    by_cases h1 : x < y
    · simp [h1]
    · by_cases h2 : y < x
      · have : x ≠ y := by omega
        simp [h1, h2, this]
      · have : x = y := by omega
        subst this
        simp [leR_iff]
theorem leR_total (a b : List Int) : leR a b = true ∨ leR b a = true := by
  rw [leR_iff, leR_iff]; exact List.le_total a b
theorem leR_trans {a b c : List Int} (h1 : leR a b = true) (h2 : leR b c = true) : leR a c = true := by
  rw [leR_iff] at *; exact List.le_trans h1 h2
theorem leR_anti {a b : List Int} (h1 : leR a b = true) (h2 : leR b a = true) : a = b := by
  rw [leR_iff] at *; exact List.le_antisymm h1 h2
def insR (n : List Int) : List (List Int) → List (List Int)
  | [] => [n]
  | m :: r => if leR n m then n :: m :: r else m :: insR n r
def srtR : List (List Int) → List (List Int)
  | [] => []
  | n :: r => insR n (srtR r)
theorem insR_perm (n : List Int) : ∀ l, (insR n l).Perm (n :: l)
  | [] => .refl _
  | m :: r => by
    unfold insR
    split
    · exact .refl _
    · exact ((insR_perm n r).cons m).trans (.swap n m r)
theorem srtR_perm : ∀ l, (srtR l).Perm l
  | [] => .refl _
  | n :: r => (insR_perm n _).trans ((srtR_perm r).cons n)
theorem insR_srt (n : List Int) : ∀ l, l.Pairwise (fun a b => leR a b = true) → (insR n l).Pairwise (fun a b => leR a b = true)
  | [], _ => List.pairwise_singleton _ _
  | m :: r, h => by
    unfold insR
    cases h with
    | cons h1 h2 =>
      split
      · rename_i hl
        refine .cons (fun b hb => ?_) (.cons h1 h2)
        rcases List.mem_cons.mp hb with e | hb
        · rw [e]; exact hl
        · exact leR_trans hl (h1 b hb)
      · rename_i hl
        refine .cons (fun b hb => ?_) (insR_srt n r h2)
        rcases List.mem_cons.mp ((insR_perm n r).mem_iff.mp hb) with e | hb
        · rw [e]; exact (leR_total n m).resolve_left hl
        · exact h1 b hb
theorem srtR_srt : ∀ l, (srtR l).Pairwise (fun a b => leR a b = true)
  | [] => .nil
  | n :: r => insR_srt n _ (srtR_srt r)
theorem rows_same : ∀ {a b : List (List Int)}, a.Perm b → a.Pairwise (fun a b => leR a b = true) → b.Pairwise (fun a b => leR a b = true) → a = b
  | [], b, p, _, _ => p.nil_eq
  | x :: xs, [], p, _, _ => absurd p.length_eq (by simp)
  | x :: xs, y :: ys, p, h1, h2 => by
    have hx : x = y := by
      cases h1 with
      | cons a1 _ =>
        cases h2 with
        | cons b1 _ =>
          rcases List.mem_cons.mp (p.mem_iff.mp List.mem_cons_self) with e | hx
          · exact e
          · rcases List.mem_cons.mp (p.mem_iff.mpr List.mem_cons_self) with e | hy
            · exact e.symm
            · exact leR_anti (a1 y hy) (b1 x hx)
    subst hx
    cases h1 with
    | cons _ t1 =>
      cases h2 with
      | cons _ t2 => rw [rows_same (List.Perm.cons_inv p) t1 t2]
/-- sorted of rows -/
def rSortedR (K : PySem.W.Frag) : List V → Hp → VK → Prop := fun vs H Q => ∃ (a : Addr) (bs : List (V × List Int)), vs = [.ref a] ∧ SqL K H a (bs.map Prod.fst) ∧ (∀ b ∈ bs, Dp K H b.1 (.list (b.2.map .int))) ∧
  ∀ bs' p, List.Perm bs' bs → bs'.Pairwise (fun p q => leR p.2 q.2 = true) → H p = none → Q (.ref p) (upd H p (.lst (bs'.map Prod.fst)))
def encR (b : V × List Int) : PyData := .list (b.2.map .int)
theorem each_of {P : Value → V × List Int → Prop} : ∀ {bs : List (V × List Int)} {us : List Value}, Vals (bs.map Prod.fst) us → (∀ b ∈ bs, ∀ u, RelV b.1 u → P u b) → PySem.W.EachIs P us bs
  | [], _, r, _ => by cases r; exact .nil
  | b :: bs, _, r, h => by
    rw [List.map_cons] at r
    cases r with
    | cons r1 r2 => exact .cons (h b List.mem_cons_self _ r1) (each_of r2 fun b hb => h b (List.mem_cons_of_mem _ hb))
theorem vals_of_each : ∀ {bs : List (V × List Int)} {us : List Value}, PySem.W.EachIs (fun u (b : V × List Int) => RelV b.1 u) us bs → Vals (bs.map Prod.fst) us
  | [], _, r => by cases r; exact .nil
  | b :: bs, _, r => by
    cases r with
    | cons r1 r2 => exact .cons r1 (vals_of_each r2)
theorem depth_ints (ns : List Int) : (PyData.list (ns.map .int)).depth ≤ 2 := by
  have h : ∀ l : List Int, PyData.depthAll (l.map .int) = 0 := fun l => by
    induction l with
    | nil => rfl
    | cons n r ih => show max 0 (PyData.depthAll (r.map .int)) = 0; rw [ih]; rfl
  show PyData.depthAll (ns.map .int) + 1 ≤ 2
  rw [h]; decide
theorem alike_ints : ∀ a b : List Int, PySem.W.alikeAll (a.map .int) (b.map .int) = true
  | [], _ => by unfold PySem.W.alikeAll; rfl
  | _ :: _, [] => by unfold PySem.W.alikeAll; rfl
  | _ :: r, _ :: s => by
    have := alike_ints r s
    simpa [PySem.W.alikeAll, PySem.W.alike] using this
theorem cr_sortedR {X : Cx} (hu : X.A.units + 10 < cLine) : CallR X (.builtin "sorted") (rSortedR X.K) := by
  intro pins s σ H vs us Q I r ⟨a, bs, e, hs, hd, q⟩
  subst e
  obtain ⟨its, rv, pl, hz⟩ := I.list hs
  rw [Vals.ref1 r]
  have hlen : bs.length = its.length := by have := rv.length; rwa [List.length_map] at this
  refine PySem.W.sorted_data (R := fun u (b : V × List Int) => RelV b.1 u) (enc := encR) (bs := bs) pl.isList (each_of rv fun b _ u h => h) (each_of rv fun b hb u h => (hd b hb).reads I _ _ _ h) (PySem.W.AllAlike.of fun b b' => ?_) (PySem.W.Sortable.others fun b => ⟨fun z => (nomatch z), fun xs z => (nomatch z)⟩) (by rw [List.length_map] at hz; exact hz)
    (fun b _ => by have := depth_ints b.2; show X.A.units + 2 + (PyData.list (b.2.map .int)).depth < cLine; omega) fun out h1 h2 => ?_
  · have := alike_ints b.2 b'.2
    simpa [encR, PySem.W.alike] using this
  · rw [show PySem.W.dataLe false encR = fun p q => decide (p.2 ≤ q.2) from PySem.W.dataLe_rows (fun b : V × List Int => b.2)] at h2
    have pm : (bs.mergeSort fun p q => decide (p.2 ≤ q.2)).Perm bs := List.mergeSort_perm _ _
    have so : (bs.mergeSort fun p q => decide (p.2 ≤ q.2)).Pairwise (fun p q => leR p.2 q.2 = true) := by
      have := List.pairwise_mergeSort (le := fun (p q : V × List Int) => decide (p.2 ≤ q.2)) (fun a b c h1 h2 => decide_eq_true (List.le_trans (of_decide_eq_true h1) (of_decide_eq_true h2)))
        (fun a b => by rw [Bool.or_eq_true, decide_eq_true_eq, decide_eq_true_eq]; exact List.le_total _ _) bs
      exact this.imp fun h => leR_iff.mpr (of_decide_eq_true h)
    generalize (bs.mergeSort fun p q => decide (p.2 ≤ q.2)) = cs at h2 pm so
    obtain ⟨ep, he'⟩ := PyProof.Rows.sortedAll_at s.heap its out.toArray
    have hz2 : (cs.map Prod.fst).length ≤ sizeLine := by rw [List.length_map, pm.length_eq]; rwa [List.length_map] at hz
    exact ⟨.ref _, upd H (s.heap.objs.size + 1) (.lst (cs.map Prod.fst)), I.laid (t' := s.toks) (fun _ _ => PyProof.Rows.sortedAll_old) (Nat.le_succ _) ⟨hz2, out, ep, vals_of_each h2, he'⟩, rfl, q _ _ pm so (I.hok.fresh (Nat.le_succ _))⟩

def rowsT : List T → Option (List (List Int))
  | [] => some []
  | .lst us :: ts => match inTs us, rowsT ts with
    | some ns, some rs => some (ns :: rs)
    | _, _ => none
  | _ :: _ => none
def rowT (r : List Int) : T := .lst (r.map .int)
theorem inTs_eq : ∀ {ts : List T} {ns : List Int}, inTs ts = some ns → ts = ns.map .int
  | [], ns, h => by simp only [inTs, Option.some.injEq] at h; subst h; rfl
  | t :: ts, ns, h => by
    cases t with
    | int i =>
      simp only [inTs] at h
      cases hh : inTs ts with
      | none => rw [hh] at h; cases h
      | some ms =>
        rw [hh] at h
        cases h
        rw [inTs_eq hh]; rfl
    | _ => simp [inTs] at h
theorem rows_rep {w : Wd} : ∀ {vs : List V} {ts : List T} {rs : List (List Int)}, RepL w vs ts → rowsT ts = some rs → ∃ bs : List (V × List Int), bs.map Prod.fst = vs ∧ bs.map Prod.snd = rs ∧ ∀ b ∈ bs, Rep w b.1 (rowT b.2)
  | _, _, _, .nil, h => by cases h; exact ⟨[], rfl, rfl, fun b hb => nomatch hb⟩
  | v :: vs, t :: ts, rs, .cons r l, h => by
    cases t with
    | lst us =>
      simp only [rowsT] at h
      split at h
      · rename_i ns rs' h1 h2
        cases h
        obtain ⟨bs, e1, e2, h3⟩ := rows_rep l h2
        have e := inTs_eq h1
        subst e
        exact ⟨(v, ns) :: bs, by rw [List.map_cons, e1], by rw [List.map_cons, e2], fun b hb => by
          rcases List.mem_cons.mp hb with e | hb
          · rw [e]; exact r
          · exact h3 b hb⟩
      · cases h
    | _ => simp [rowsT] at h
theorem rows_repL {w : Wd} : ∀ {bs : List (V × List Int)}, (∀ b ∈ bs, Rep w b.1 (rowT b.2)) → RepL w (bs.map Prod.fst) ((bs.map Prod.snd).map rowT)
  | [], _ => .nil
  | b :: bs, h => .cons (h b List.mem_cons_self) (rows_repL fun b hb => h b (List.mem_cons_of_mem _ hb))
theorem toDs_ints : ∀ ns : List Int, toDs (ns.map T.int) = some (ns.map .int)
  | [] => rfl
  | n :: r => by simp [toDs, toD, toDs_ints r]
def kSortedR : List T → Sto → Res T
  | [.lst ts], M => match rowsT ts with
    | some rs => .ok (.lst ((srtR rs).map rowT)) M
    | none => .stuck
  | _, _ => .stuck
theorem se_sortedR {X : Cx} {fs : Ev (List T)} {e : Expr} {es : List Expr} {p pos : Pos} {k : Nat} (hr : Room k X.A) (B : Blt X.mg) (ha : SA X (e :: es) fs) (hg : Gl X "sorted" := by rfl)
    (he : starEach (e :: es) X.env = (false, eval e X.env) :: starEach es X.env := by rfl) (hpl : (backTo pos (starEach es X.env)).any (·.1) = false := by rfl) : SE true X (.Call (.Name "sorted" p) (e :: es) [] pos) (eA kSortedR fs) := by
  refine se_callB (cr_sortedR (by have := hr.un; omega)) (fun w vs ts Q g r q => ?_) hg B.sorted PyProof.Rows.boot_sorted (by decide) (by decide) ha he hpl
  unfold kSortedR at q
  split at q
  · rename_i ts
    obtain ⟨v, rfl, r1⟩ := repL1 r
    split at q
    · rename_i rs hrs
      cases r1 with
      | lst n d l =>
        obtain ⟨bs, e1, e2, h3⟩ := rows_rep l hrs
        refine ⟨_, bs, rfl, by rw [e1]; exact .inl d, fun b hb => (h3 b hb).dp (by simp [rowT, toD, toDs_ints]), fun bs' p pm so hp => ?_⟩
        have e3 : bs'.map Prod.snd = srtR rs := by
          have p0 : (bs.map Prod.snd).Perm rs := by rw [e2]
          refine rows_same ((pm.map Prod.snd).trans (p0.trans (srtR_perm rs).symm)) ?_ (srtR_srt rs)
          rw [List.pairwise_map]
          exact so
        rw [← e3] at q
        exact post_lst q g hp (rows_repL (w := w) (bs := bs') fun b hb => h3 b (pm.mem_iff.mp hb))
    · exact q.elim
  · exact q.elim
end TL
end
section
set_option Elab.async false
set_option linter.all false
set_option maxRecDepth 100000
/-! TL23: plain lemmas on comprehensions and loops of trees. -/
namespace TL
open PySem PySem.Spec PyProof.Rows L2
theorem compL_map {g : Tg} {f : Ev T} {τ : Tau} {h : T → T} {M : Sto} : ∀ {ts : List T}, (∀ t ∈ ts, ∃ τ', g t τ M = .ok τ' M ∧ f τ' M = .ok (h t) M) → compL g cYes f τ ts M = .ok (ts.map h) M
  | [], _ => rfl
  | t :: ts, H => by
    obtain ⟨τ', h1, h2⟩ := H t List.mem_cons_self
    have ih := compL_map (ts := ts) fun u hu => H u (List.mem_cons_of_mem _ hu)
    unfold compL
    rw [h1]
    show ((f τ' M).bind _) = _
    rw [h2]
    show ((compL g cYes f τ ts M).bind _) = _
    rw [ih]
    rfl
theorem compL_filter {g : Tg} {c : Ev Bool} {f : Ev T} {τ : Tau} {p : T → Bool} {h : T → T} {M : Sto} : ∀ {ts : List T}, (∀ t ∈ ts, ∃ τ', g t τ M = .ok τ' M ∧ c τ' M = .ok (p t) M ∧ (p t = true → f τ' M = .ok (h t) M)) →
    compL g c f τ ts M = .ok ((ts.filter p).map h) M
  | [], _ => rfl
  | t :: ts, H => by
    obtain ⟨τ', h1, h2, h3⟩ := H t List.mem_cons_self
    have ih := compL_filter (ts := ts) fun u hu => H u (List.mem_cons_of_mem _ hu)
    unfold compL
    rw [h1]
    show ((c τ' M).bind _) = _
    rw [h2]
    show (if p t = true then _ else _) = _
    by_cases hp : p t = true
    · rw [if_pos hp, h3 hp, List.filter_cons_of_pos hp]
      show ((compL g c f τ ts M).bind _) = _
      rw [ih]
      rfl
    · rw [if_neg hp, List.filter_cons_of_neg hp]
      exact ih
/-- a loop that goes on: its state by the place -/
theorem forL_walk {g : Tg} {f : Ev Fl} {P : List T → Tau → Sto → Prop} (step : ∀ t ts τ M, P (t :: ts) τ M → ∃ τ1 M1 τ2 M2, g t τ M = .ok τ1 M1 ∧ (f τ1 M1 = .ok (.nx τ2) M2 ∨ f τ1 M1 = .ok (.ct τ2) M2) ∧ P ts τ2 M2) :
    ∀ {ts : List T} {τ : Tau} {M : Sto}, P ts τ M → ∃ τ' M', forL g f ts τ M = .ok (.nx τ') M' ∧ P [] τ' M'
  | [], τ, M, h => ⟨τ, M, rfl, h⟩
  | t :: ts, τ, M, h => by
    obtain ⟨τ1, M1, τ2, M2, h1, h2, h3⟩ := step t ts τ M h
    obtain ⟨τ', M', h4, h5⟩ := forL_walk step h3
    refine ⟨τ', M', ?_, h5⟩
    unfold forL
    rw [h1]
    show ((f τ1 M1).bind _) = _
    rcases h2 with h2 | h2
    · rw [h2]; exact h4
    · rw [h2]; exact h4
end TL
end
section
set_option Elab.async false
set_option linter.all false
set_option maxRecDepth 100000
/-! TL24: y = {k: v for ..} on one line. -/
namespace TL
open PySem PySem.Spec PyProof.Rows L2
theorem sw_trueD {kx vx : Expr} {gs : List Comprehension} {scope : Scope} {pos py : Pos} {y : Str} {l : Nat} {env : PySem.Env} (hk : env.scope.kind = .function) (hy : env.scope.names.lookup y = some .local) (hl : (py.line == pos.line) = true)
    (ha : (scope.names.any fun (n, k) => n == y && (k == .local || k == .cell)) = false) : swapsWith (.DictComp kx vx gs scope pos) (some (.Name y py)) l env = pure true := by
  have kd : env.kindOf y = some .local := hy
  have bk : env.blockKind = .function := by unfold PySem.Env.blockKind; rw [hk]; rfl
  unfold swapsWith
  simp only [bk, kd, ha, Expr.pos, hl]
  rfl
theorem ps_setDc {X : Cx} {i : Nat} {y : Str} {py : Pos} {kx vx tg iter : Expr} {ifs : List Expr} {scope : Scope} {own : List (Str × Nat)} {pos spos : Pos} {wi : TI} {g : TG} {tt : TT} {tk tv : TE} (hc : X.calm = true) (hN : X.N.Nodup) (hy : X.N[i]? = some y) (hyl : X.env.scope.names.lookup y = some .local)
    (hsw : swapsWith (.DictComp kx vx [⟨tg, iter, ifs, 0⟩] scope pos) (some (.Name y py)) spos.line X.env = pure true) (hi : PI X tg iter wi) (ok : BlkOk X.N X.env.scope scope own)
    (hg : ∀ (s : Shared) (H : Hp) (C : Addr) (cl : List (Str × Addr)) (fp : List Addr), PG (X.blk s H scope (compEnvC scope cl C X.env) fp) tg g) (ht : ∀ (s : Shared) (H : Hp) (C : Addr) (cl : List (Str × Addr)) (fp : List Addr), PTs (X.blk s H scope (compEnvC scope cl C X.env) fp) ifs tt)
    (hk : ∀ (s : Shared) (H : Hp) (C : Addr) (cl : List (Str × Addr)) (fp : List Addr), PE (X.blk s H scope (compEnvC scope cl C X.env) fp) kx tk) (he : ∀ (s : Shared) (H : Hp) (C : Addr) (cl : List (Str × Addr)) (fp : List Addr), PE (X.blk s H scope (compEnvC scope cl C X.env) fp) vx tv)
    (hs : ∀ x, foldedSetIterable iter X.env x = pure x := by intro _; rfl) : PS X (.Assign [.Name y py] (.DictComp kx vx [⟨tg, iter, ifs, 0⟩] scope pos) spos) (tAsg (tDc wi g tt tk tv (own.map (·.2))) (L2.gName i)) := by
  refine ⟨fun pins s σ H D I h => ?_⟩
  rw [exec_Assign_Name_used _ _ _ _ hsw]
  refine wpAny_bind (wpAny_standAt (wpAny_bind ?_))
  refine wpAny_bind (thn (dc_core (use := some (assign (.Name y py) X.env)) (Qf := fun _ t => SP X pins D .next t) hc hN I hi ok hg ht hk he hs h fun d C t m H2 I2 q hn f => ?_) fun _ t hq => wpAny_pure (wpAny_pure hq))
  show wpAny _ _ (assign (.Name y py) X.env (.ref d)) _ _ _
  refine wpAny_assign_Name (store_ok2 (v := V.ref d) I2 hN hy (.inl hyl) rfl (fun t2 I3 ⟨a, sb, ha⟩ => ?_) (.inr hyl))
  obtain ⟨f0, f1, f2, f3, f4, f5⟩ := f
  have ne : C ≠ a := ha.elim (fun z => by rw [z]; exact f1) fun z e => f4 y a z e.symm
  exact ⟨m, hn.sameBut sb ne, fun h3 sb3 => ⟨_, H2, I3.turned (t' := t2.toks) (fun b o hb e => (sb3.2 b hb).trans e) f0 f1 f3 f4 f5, q⟩⟩

theorem ss_setDc {X : Cx} {kx vx tg iter : Expr} {ifs : List Expr} {scope : Scope} {pos : Pos} {fi : Ev (List T)} {gt : Tg} {fc : Ev Bool} {fk fv : Ev T} {sl : List Nat} {F : Bool} {i : Nat} {y : Str} {py spos : Pos} (own : List (Str × Nat)) (hN : X.N.Nodup) (hi : SI X tg iter fi)
    (hg : ∀ (s : Shared) (H : Hp) (C : Addr) (cl : List (Str × Addr)) (fp : List Addr), SG sl (X.blk s H scope (compEnvC scope cl C X.env) fp) tg gt)
    (ht : ∀ (s : Shared) (H : Hp) (C : Addr) (cl : List (Str × Addr)) (fp : List Addr), STs (X.blk s H scope (compEnvC scope cl C X.env) fp) ifs fc) (hk : ∀ (s : Shared) (H : Hp) (C : Addr) (cl : List (Str × Addr)) (fp : List Addr), SE false (X.blk s H scope (compEnvC scope cl C X.env) fp) kx fk)
    (he : ∀ (s : Shared) (H : Hp) (C : Addr) (cl : List (Str × Addr)) (fp : List Addr), SE false (X.blk s H scope (compEnvC scope cl C X.env) fp) vx fv)
    (ok : blkC X.N X.env.scope scope own = true := by decide +kernel)
    (hsw : swapsWith (.DictComp kx vx [⟨tg, iter, ifs, 0⟩] scope pos) (some (.Name y py)) spos.line X.env = pure true := by exact sw_trueD rfl rfl rfl (by decide +kernel))
    (hsl : ∀ j ∈ sl, j ∈ own.map (·.2) := by decide) (hy : X.N[i]? = some y := by rfl) (hyl : X.env.scope.names.lookup y = some .local := by rfl) (hc : X.calm = true := by rfl) (hs : ∀ x, foldedSetIterable iter X.env x = pure x := by intro _; rfl) :
    SS F X (.Assign [.Name y py] (.DictComp kx vx [⟨tg, iter, ifs, 0⟩] scope pos) spos) (sAsg (eDcomp fi gt fc fk fv (own.map (·.2))) (gN i)) := by
  refine ps_imp (ps_setDc (g := tG X.mg sl gt) (tt := tT X.mg fc) (tk := tE X.mg false fk) (tv := tE X.mg false fv) hc hN hy hyl hsw hi (blkOk_by ok) hg ht hk he hs) fun D σ H ⟨w, τ, e, g, n, q⟩ => ?_
  subst e
  refine dc_imp hsl ⟨w, τ, rfl, g, n, Res.all_mono (fun t M' q w1 v x1 g1 e1 r1 _ => ?_) (Res.all_bind q)⟩
  subst e1
  refine gName_imp ⟨w1, τ, t, rfl, g1, n.mono x1, r1, Res.all_mono (fun τ' M2 q w2 σ' x2 g2 e2 n2 _ => ?_) (Res.all_bind q)⟩
  exact q w2 (x1.trans x2) g2 e2 σ' n2
end TL
end
section
set_option Elab.async false
set_option linter.all false
set_option maxRecDepth 100000
/-! TL25: comb. -/
namespace TL
open PySem PySem.Spec PyProof.Rows L2
theorem pe_callG {X : Cx} {x : Str} {id : String} {r : List V → Hp → VK → Prop} {t : TA} {e : Expr} {es : List Expr} {p pos : Pos} (hc : CallR X (.builtin id) r) (hg : Gl X x) (hm : X.mg x = some (.builtin id)) (ha : PA X (e :: es) t) (hdb : (x == ("__debug__" : Str)) = false := by decide)
    (he : starEach (e :: es) X.env = (false, eval e X.env) :: starEach es X.env := by rfl) (hpl : (backTo pos (starEach es X.env)).any (·.1) = false := by rfl) : PE X (.Call (.Name x p) (e :: es) [] pos) (tCB r t) :=
  ⟨fun pins s σ H Q I h => wpAny_Call_Name_kw (ld_glob I hg hm (PyProof.Rows.callWith_builtin1 (thn (ha.run pos pins s σ H _ I h) fun us s1 ⟨vs, H1, I1, r1, q1⟩ => hc pins s1 σ H1 vs us Q I1 r1 q1) he hpl) hdb)⟩
def rComb : List V → Hp → VK → Prop := fun xs H Q => ∃ a b : Int, xs = [.int a, .int b] ∧ 0 ≤ a ∧ 0 ≤ b ∧ a ≤ 18000 ∧ Q (.int (PySem.W.mcComb a b)) H
theorem call_comb {X : Cx} : CallR X (.builtin "math.comb") rComb := by
  intro pins s σ H xs us Q I r ⟨a, b, e, ha, hb, hl, q⟩
  subst e
  obtain ⟨u, w', rfl, ⟨t, rfl⟩, ⟨t', rfl⟩⟩ := vals2 r
  exact PySem.W.mc_comb ha hb (by omega) (.inr hl) fun _ => ⟨.int (PySem.W.mcComb a b), H, I.tok _, ⟨_, rfl⟩, q⟩
def kComb : List T → Sto → Res T
  | [.int a, .int b], M => if 0 ≤ a ∧ 0 ≤ b ∧ a ≤ 18000 then .ok (.int (PySem.W.mcComb a b)) M else .stuck
  | _, _ => .stuck
theorem se_comb {X : Cx} {x : Str} {fs : Ev (List T)} {e : Expr} {es : List Expr} {p pos : Pos} (hm : X.mg x = some (.builtin "math.comb")) (ha : SA X (e :: es) fs) (hg : Gl X x := by rfl) (hdb : (x == ("__debug__" : Str)) = false := by decide)
    (he : starEach (e :: es) X.env = (false, eval e X.env) :: starEach es X.env := by rfl) (hpl : (backTo pos (starEach es X.env)).any (·.1) = false := by rfl) : SE false X (.Call (.Name x p) (e :: es) [] pos) (eA kComb fs) := by
  refine pe_imp (pe_callG call_comb hg hm ha hdb he hpl) fun σ H Q h => args_imp (fun w vs ts Q g r q => ?_) h
  unfold kComb at q
  split at q
  · obtain ⟨v, z, rfl, r1, r2⟩ := repL2 r
    split at q
    · rename_i hc
      cases r1
      cases r2
      exact ⟨_, _, rfl, hc.1, hc.2.1, hc.2.2, post_ok q g (.int _)⟩
    · exact q.elim
  · exact q.elim
theorem comb_try : PySem.W.mcComb 5 2 = 10 := by decide +kernel
end TL
end
section
set_option Elab.async false
set_option linter.all false
set_option maxRecDepth 100000
/-! TL26: min of rows. -/
namespace TL
open PySem PySem.Spec PyProof.Rows L2
theorem dataLt_rows (a b : List Int) : PySem.W.dataLt (.list (a.map .int)) (.list (b.map .int)) = decide (a < b) := by
  have h : PySem.W.dataLe false (fun b : List Int => PyData.list (b.map .int)) = fun p q => decide (p ≤ q) := PySem.W.dataLe_rows (fun b : List Int => b)
  have h2 : (!PySem.W.dataLt (.list (a.map .int)) (.list (b.map .int))) = decide (b ≤ a) := congrFun (congrFun h b) a
  by_cases hh : a < b
  · have : ¬ b ≤ a := fun r => List.not_lt.mpr r hh
    rw [decide_eq_true hh]
    rw [decide_eq_false this] at h2
    simpa using h2
  · have : b ≤ a := List.not_lt.mp hh
    rw [decide_eq_false hh]
    rw [decide_eq_true this] at h2
    simpa using h2
def minR (r : List Int) : List (List Int) → List Int
  | [] => r
  | s :: rs => minR (if leR r s then r else s) rs
theorem minD_rows (r : List Int) : ∀ rs : List (List Int), PySem.W.minD (.list (r.map .int)) (rs.map fun b => .list (b.map .int)) = .list ((minR r rs).map .int) := by
  intro rs
  induction rs generalizing r with
  | nil => rfl
  | cons s rs ih =>
    show PySem.W.minD (if PySem.W.dataLt (.list (s.map .int)) (.list (r.map .int)) then _ else _) _ = _
    rw [dataLt_rows]
    show _ = PyData.list ((minR (if leR r s then r else s) rs).map .int)
    by_cases h : s < r
    · have h' : ¬ leR r s = true := fun z => List.not_lt.mpr (leR_iff.mp z) h
      rw [if_pos (decide_eq_true h), if_neg h', ih]
    · have h' : leR r s = true := leR_iff.mpr (List.not_lt.mp h)
      rw [if_neg (by simpa using h), if_pos h', ih]
/-- min of rows: any of the least -/
def rMinR (K : PySem.W.Frag) : List V → Hp → VK → Prop := fun vs H Q => ∃ (a : Addr) (b : V × List Int) (bs : List (V × List Int)), vs = [.ref a] ∧ SqL K H a ((b :: bs).map Prod.fst) ∧ (∀ c ∈ b :: bs, Dp K H c.1 (.list (c.2.map .int))) ∧
  ∀ c ∈ b :: bs, c.2 = minR b.2 (bs.map Prod.snd) → Q c.1 H
theorem each_reads {X : Cx} {pins σ H s} (I : Inv X pins σ H s) : ∀ {bs : List (V × List Int)} {us : List Value}, Vals (bs.map Prod.fst) us → (∀ b ∈ bs, Dp X.K H b.1 (.list (b.2.map .int))) → ∃ as, ReadsAll s.heap us (bs.map fun b => .list (b.2.map .int)) as
  | [], _, r, _ => by cases r; exact ⟨_, .nil⟩
  | b :: bs, _, r, h => by
    rw [List.map_cons] at r
    cases r with
    | cons r1 r2 =>
      obtain ⟨as, h1⟩ := (h b List.mem_cons_self).reads I _ _ _ r1
      obtain ⟨as2, h2⟩ := each_reads I r2 fun b hb => h b (List.mem_cons_of_mem _ hb)
      exact ⟨_, .cons h1 h2⟩
theorem at_each : ∀ {bs : List (V × List Int)} {us : List Value} {i : Nat} {u : Value}, Vals (bs.map Prod.fst) us → us[i]? = some u → ∃ b ∈ bs, RelV b.1 u
  | [], _, _, _, r, h => by cases r; simp at h
  | b :: bs, _, i, u, r, h => by
    rw [List.map_cons] at r
    cases r with
    | cons r1 r2 =>
      cases i with
      | zero => simp at h; subst h; exact ⟨b, List.mem_cons_self, r1⟩
      | succ i =>
        obtain ⟨c, hc, r⟩ := at_each r2 (by simpa using h)
        exact ⟨c, List.mem_cons_of_mem _ hc, r⟩
theorem depthAll_rows : ∀ rs : List (List Int), PyData.depthAll (rs.map fun b => .list (b.map .int)) ≤ 2
  | [] => Nat.zero_le _
  | r :: rs => by
    have h1 := depth_ints r
    have h2 := depthAll_rows rs
    show max (PyData.list (r.map .int)).depth (PyData.depthAll (rs.map fun b => .list (b.map .int))) ≤ 2
    omega
theorem ints_inj : ∀ {a b : List Int}, a.map PyData.int = b.map PyData.int → a = b
  | [], [], _ => rfl
  | [], _ :: _, h => by simp at h
  | _ :: _, [], h => by simp at h
  | x :: xs, y :: ys, h => by
    rw [List.map_cons, List.map_cons] at h
    injection h with h1 h2
    injection h1 with h1
    rw [h1, ints_inj h2]
theorem cr_minR {X : Cx} (hc : X.calm = true) (hu : X.A.units + 10 < cLine) : CallR X (.builtin "min") (rMinR X.K) := by
  intro pins s σ H vs us Q I r ⟨a, b, bs, e, hs, hd, q⟩
  subst e
  obtain ⟨its, rv, pl, hz⟩ := I.list hs
  rw [Vals.ref1 r]
  obtain ⟨as, hr⟩ := each_reads I rv hd
  have hr' : ReadsAll s.heap its.toArray.toList (PyData.list (b.2.map .int) :: (bs.map Prod.snd).map fun b => .list (b.map .int)) as := by
    rw [List.map_map]; exact hr
  have hl2 : ∀ x ∈ (PyData.list (b.2.map .int) :: (bs.map Prod.snd).map fun b => PyData.list (b.map .int)), ∃ r : List Int, x = .list (r.map .int) := fun x hx => by
    rcases List.mem_cons.mp hx with e | hx
    · exact ⟨_, e⟩
    · obtain ⟨c, _, e⟩ := List.mem_map.mp hx
      exact ⟨_, e.symm⟩
  have al : PySem.W.AlikeAll (PyData.list (b.2.map .int) :: (bs.map Prod.snd).map fun b => PyData.list (b.map .int)) := ⟨fun x hx y hy => by
    obtain ⟨r1, rfl⟩ := hl2 x hx
    obtain ⟨r2, rfl⟩ := hl2 y hy
    have := alike_ints r1 r2
    simpa [PySem.W.alike] using this, fun x hx => by
    obtain ⟨r1, rfl⟩ := hl2 x hx
    exact fun z => (nomatch z)⟩
  have dp := depthAll_rows (b.2 :: bs.map Prod.snd)
  refine PySem.W.min_list_data (I.ok.hd hc) pl.isList hr' al (by
    have : PyData.depthAll (PyData.list (b.2.map .int) :: (bs.map Prod.snd).map fun b => PyData.list (b.map .int)) ≤ 2 := dp
    omega) fun i v h' tk bs' hv rd hk => ?_
  rw [minD_rows] at rd
  have hv' : its[i]? = some v := by simpa using hv
  obtain ⟨c, hc', rc⟩ := at_each rv hv'
  obtain ⟨as2, h2⟩ := (hd c hc').reads I _ _ _ rc
  have e := (PySem.Reads.unique (PySem.W.reads_keeps hk h2) _ _ rd).1
  injection e with e
  exact ⟨_, H, I.kept hk, rc, q c hc' (ints_inj e)⟩
def kMinR : List T → Sto → Res T
  | [.lst ts], M => match rowsT ts with
    | some (r :: rs) => .ok (rowT (minR r rs)) M
    | _ => .stuck
  | _, _ => .stuck
theorem se_minR {X : Cx} {fs : Ev (List T)} {e : Expr} {es : List Expr} {p pos : Pos} {k : Nat} (hr : Room k X.A) (B : Blt X.mg) (ha : SA X (e :: es) fs) (hc : X.calm = true := by rfl) (hg : Gl X "min" := by rfl)
    (he : starEach (e :: es) X.env = (false, eval e X.env) :: starEach es X.env := by rfl) (hpl : (backTo pos (starEach es X.env)).any (·.1) = false := by rfl) : SE false X (.Call (.Name "min" p) (e :: es) [] pos) (eA kMinR fs) := by
  refine se_callB (cr_minR hc (by have := hr.un; omega)) (fun w vs ts Q g r q => ?_) hg B.min PyProof.Rows.boot_min (by decide) (by decide) ha he hpl
  unfold kMinR at q
  split at q
  · rename_i ts
    obtain ⟨v, rfl, r1⟩ := repL1 r
    split at q
    · rename_i rw_ rs hrs
      cases r1 with
      | lst n d l =>
        obtain ⟨bs, e1, e2, h3⟩ := rows_rep l hrs
        cases bs with
        | nil => cases e2
        | cons b bs =>
          rw [List.map_cons] at e2
          injection e2 with e2 e4
          subst e2 e4
          refine ⟨_, b, bs, rfl, by rw [e1]; exact .inl d, fun c hc => (h3 c hc).dp (by simp [rowT, toD, toDs_ints]), fun c hc e => ?_⟩
          have := h3 c hc
          rw [e] at this
          exact post_ok q g this
    · exact q.elim
  · exact q.elim
end TL
end
section
set_option Elab.async false
set_option linter.all false
set_option maxRecDepth 100000
/-! TL27: l.index(x) of rows. -/
namespace TL
open PySem PySem.Spec PyProof.Rows L2
section
variable {X : Cx} {o e : Expr} {es : List Expr} {apos cpos : Pos} {fo : Ev T} {fs : Ev (List T)}
def ixD (d : PyData) : List PyData → Option Nat
  | [] => none
  | z :: zs => if PyData.eqv z d then some 0 else match ixD d zs with
    | some j => some (j + 1)
    | none => none
theorem ixD_ok {y : PyData} : ∀ {vs : List PyData} {j : Nat}, ixD y vs = some j → (∃ z, vs[j]? = some z ∧ PyData.eqv z y = true) ∧ ∀ (m : Nat) (z' : PyData), m < j → vs[m]? = some z' → PyData.eqv z' y = false
  | [], _, h => by cases h
  | v :: vs, j, h => by
    unfold ixD at h
    by_cases hv : PyData.eqv v y = true
    · rw [if_pos hv] at h
      cases h
      exact ⟨⟨v, rfl, hv⟩, fun m z hm => absurd hm (Nat.not_lt_zero m)⟩
    · rw [if_neg hv] at h
      split at h
      · rename_i j' hj
        cases h
        obtain ⟨h1, h2⟩ := ixD_ok hj
        refine ⟨h1, fun m z hm hz => ?_⟩
        cases m with
        | zero =>
          have e : v = z := by simpa using hz
          rw [← e]
          simpa using hv
        | succ m => exact h2 m z (by omega) (by simpa using hz)
      · cases h
def kIdxD : T → List T → Sto → Res T
  | .lst ts, [t], M => match toD t, toDs ts with
    | some d, some ds => if SeqAt.shaped d && SeqAt.shaped (.list ds) then match ixD d ds with
        | some j => .ok (.int (j : Nat)) M
        | none => .stuck
      else .stuck
    | _, _ => .stuck
  | _, _, _ => .stuck
theorem se_indexD {k : Nat} (hr : Room k X.A) (ho : SE false X o fo) (ha : SA X (e :: es) fs) (hbase : attributeBase o "index" X.env (eval o X.env) = eval o X.env := by rfl)
    (hfew : ((backTo cpos (starEach (e :: es) X.env)).all (fun x => !x.1) && (backToKw cpos (keywordEach [] X.env)).all (fun x => x.1.isSome) && decide ((e :: es).length + ([] : List Keyword).length + (if ([] : List Keyword).isEmpty then 0 else 1) < 30)) = true := by rfl)
    (hline : (apos.endLine == cpos.line) = true := by rfl) (hs : starEach (e :: es) X.env = (false, eval e X.env) :: starEach es X.env := by rfl) (hplain : (backTo cpos (starEach es X.env)).any (·.1) = false := by rfl) :
    SE false X (.Call (.Attribute o "index" apos) (e :: es) [] cpos) (eBm kIdxD fo fs) := by
  refine se_bmL PySem.F.slot_list_index PySem.F.type_list_index (mt_indexD (by have := hr.un; omega)) (fun w x vs o ts Q g r rs q => ?_) ho ha hbase hfew hline hs hplain
  unfold kIdxD at q
  split at q
  · rename_i ts0 t0
    obtain ⟨v, rfl, r1⟩ := repL1 rs
    split at q
    · rename_i d ds h1 h2
      split at q
      · rename_i hsh
        rw [Bool.and_eq_true] at hsh
        split at q
        · rename_i j hj
          obtain ⟨⟨z, hz, hzz⟩, hno⟩ := ixD_ok hj
          have dl : Dp X.K w.H x (.list ds) := Rep.dp (t := .lst ts0) r (by simp only [toD, h2])
          cases r with
          | lst n dd l => exact ⟨_, v, d, ds, j, z, rfl, rfl, dl, r1.dp h1, hsh.2, hsh.1, hz, hzz, hno, post_ok q g (.int _)⟩
        · exact q.elim
      · exact q.elim
    · exact q.elim
  · exact q.elim
end
/-! ### x, y = a list -/
def gTupL (k : Nat) (gs : List T → Tau → Sto → Res Tau) : Tg := fun t τ M => match t with
  | .lst ts => if ts.length = k then gs ts τ M else .stuck
  | _ => .stuck
theorem sg_tupL {X : Cx} {pos : Pos} {sl : List Nat} {es : List Expr} {k : Nat} {gs : List T → Tau → Sto → Res Tau} {n : Nat} (h : SGs sl X es gs) (hc : X.calm = true := by rfl) (hn : (assignEach es X.env).length = n := by rfl) (hst : (assignEach es X.env).findIdx? (·.1) = none := by rfl) : SG sl X (.Tuple es k pos) (gTupL n gs) := by
  refine pg_imp (pg_unl hc h hn hst) fun v σ H Q ⟨w, τ, t, e, g0, nm, r, q⟩ => ?_
  subst e
  unfold gTupL at q
  split at q
  · split at q
    · rename_i hl
      cases r with
      | lst n0 d l => exact ⟨_, _, rfl, .inl d, by rw [l.length]; exact hl, w, τ, _, rfl, g0, nm, l, q⟩
    · exact q.elim
  · exact q.elim
end TL
end
section
set_option Elab.async false
set_option linter.all false
set_option maxRecDepth 100000
/-! TL28: plain lemmas on how tree programs run. -/
namespace TL
open PySem PySem.Spec PyProof.Rows L2
/-- an equation that is not seen to be one by looking -/
theorem nr {α : Sort u} {a b : α} (h : a = b) : a = b := h
section
variable {α β : Type} {τ : Tau} {M : Sto}
@[simp] theorem bind_ok {a : α} {k : α → Sto → Res β} : Res.bind (.ok a M) k = k a M := nr rfl
@[simp] theorem bind_stuck {k : α → Sto → Res β} : Res.bind .stuck k = .stuck := nr rfl
@[simp] theorem bind_pick {m : Nat} {f : Nat → Res α} {k : α → Sto → Res β} : Res.bind (.pick m f) k = .pick m fun r => (f r).bind k := nr rfl
@[simp] theorem all_ok {Φ : α → Sto → Prop} {a : α} : Res.all Φ (.ok a M) = Φ a M := nr rfl
@[simp] theorem all_pick {Φ : α → Sto → Prop} {m : Nat} {f : Nat → Res α} : Res.all Φ (.pick m f) = ∀ r, r < m → (f r).all Φ := nr rfl
@[simp] theorem all_stuck {Φ : α → Sto → Prop} : Res.all Φ (.stuck : Res α) = False := nr rfl
/-- all that may come of a run; a structure, so that nothing is run by looking at it -/
structure Wp {α : Type} (x : Res α) (Φ : α → Sto → Prop) : Prop where
  ok : x.all Φ
@[simp] theorem wp_ok {Φ : α → Sto → Prop} {a : α} : Wp (.ok a M) Φ ↔ Φ a M := ⟨fun h => h.ok, fun h => ⟨h⟩⟩
@[simp] theorem wp_pick {Φ : α → Sto → Prop} {m : Nat} {f : Nat → Res α} : Wp (.pick m f) Φ ↔ ∀ r, r < m → Wp (f r) Φ := ⟨fun h r hr => ⟨h.ok r hr⟩, fun h => ⟨fun r hr => (h r hr).ok⟩⟩
theorem wp_bind {Φ : β → Sto → Prop} {k : α → Sto → Res β} {a : Res α} : Wp (a.bind k) Φ ↔ Wp a fun x M => Wp (k x M) Φ :=
  ⟨fun h => ⟨Res.all_mono (fun _ _ q => ⟨q⟩) (Res.all_bind h.ok)⟩, fun h => ⟨Res.bind_all (Res.all_mono (fun _ _ q => q.ok) h.ok)⟩⟩
theorem Wp.mono {Φ Ψ : α → Sto → Prop} {a : Res α} (h : Wp a Φ) (i : ∀ x M, Φ x M → Ψ x M) : Wp a Ψ := ⟨Res.all_mono i h.ok⟩
theorem all_bind' {Φ : β → Sto → Prop} {k : α → Sto → Res β} {a : Res α} : (a.bind k).all Φ ↔ a.all fun x M => (k x M).all Φ := ⟨Res.all_bind, Res.bind_all⟩
variable {a b c : Ev T} {p q r : Ev Bool} {f g : Ev Fl} {fs : Ev (List T)} {i : Nat} {t : T}
@[simp] theorem eVar_run : eVar i τ M = (match τ[i]? with | some (some t) => .ok t M | _ => .stuck) := nr rfl
@[simp] theorem eC_run : eC t τ M = .ok t M := nr rfl
@[simp] theorem e1_run {k} : e1 k a τ M = (a τ M).bind k := nr rfl
@[simp] theorem e2_run {k} : e2 k a b τ M = (a τ M).bind fun x M1 => (b τ M1).bind fun y M2 => k x y M2 := nr rfl
@[simp] theorem eB_run : eB a τ M = (a τ M).bind fun t M' => match t with | .bl b => .ok b M' | _ => .stuck := nr rfl
@[simp] theorem eAnd_run : eAnd p q τ M = (p τ M).bind fun b M' => if b then q τ M' else .ok false M' := nr rfl
@[simp] theorem eOr_run : eOr p q τ M = (p τ M).bind fun b M' => if b then .ok true M' else q τ M' := nr rfl
@[simp] theorem eNot_run : eNot p τ M = (p τ M).bind fun b M' => .ok (!b) M' := nr rfl
@[simp] theorem eIf_run : eIf p a b τ M = (p τ M).bind fun x M' => if x then a τ M' else b τ M' := nr rfl
@[simp] theorem vAnd_run : vAnd a b τ M = (a τ M).bind fun t M' => match t with | .bl true => b τ M' | .bl false => .ok (.bl false) M' | _ => .stuck := nr rfl
@[simp] theorem vOr_run : vOr a b τ M = (a τ M).bind fun t M' => match t with | .bl false => b τ M' | .bl true => .ok (.bl true) M' | _ => .stuck := nr rfl
@[simp] theorem eNil_run : eNil τ M = .ok [] M := nr rfl
@[simp] theorem eCons_run : eCons a fs τ M = (a τ M).bind fun t M1 => (fs τ M1).bind fun ts M2 => .ok (t :: ts) M2 := nr rfl
@[simp] theorem eLst_run : eLst fs τ M = (fs τ M).bind fun ts M' => if ts.length ≤ 16777216 then .ok (.lst ts) M' else .stuck := nr rfl
@[simp] theorem eTup_run : eTup fs τ M = (fs τ M).bind fun ts M' => if ts.length ≤ 16777216 then .ok (.tup ts) M' else .stuck := nr rfl
@[simp] theorem eA_run {k} : eA k fs τ M = (fs τ M).bind k := nr rfl
@[simp] theorem ePart_run : ePart a τ M = (a τ M).bind fun t M' => match t with | .int i => .ok (some i) M' | _ => .stuck := nr rfl
@[simp] theorem eNone_run : eNone τ M = .ok none M := nr rfl
@[simp] theorem eSl_run {lo hi} : eSl a lo hi τ M = (a τ M).bind fun t M1 => (lo τ M1).bind fun l M2 => (hi τ M2).bind fun u M3 => match t with
  | .lst xs => .ok (.lst (cutT xs l u)) M3
  | .ref n => match M3.get n with
    | some (.lst xs) => .ok (.lst (cutT xs l u)) M3
    | _ => .stuck
  | _ => .stuck := nr rfl
@[simp] theorem sNil_run : sNil τ M = .ok (.nx τ) M := nr rfl
@[simp] theorem sPass_run : sPass τ M = .ok (.nx τ) M := nr rfl
@[simp] theorem sSeq_run : sSeq f g τ M = (f τ M).bind fun fl M' => match fl with | .nx τ' => g τ' M' | fl => .ok fl M' := nr rfl
@[simp] theorem sExpr_run : sExpr a τ M = (a τ M).bind fun _ M' => .ok (.nx τ) M' := nr rfl
@[simp] theorem sRet_run : sRet a τ M = (a τ M).bind fun t M' => .ok (.rt t) M' := nr rfl
@[simp] theorem sIf_run : sIf p f g τ M = (p τ M).bind fun b M' => if b then f τ M' else g τ M' := nr rfl
@[simp] theorem sAsg_run {g : Tg} : sAsg a g τ M = (a τ M).bind fun t M1 => (g t τ M1).bind fun τ' M2 => .ok (.nx τ') M2 := nr rfl
@[simp] theorem gN_run : gN i t τ M = .ok (τ.set i (some t)) M := nr rfl
@[simp] theorem gTup_run {k gs} {ts : List T} : gTup k gs (.tup ts) τ M = if ts.length = k then gs ts τ M else .stuck := nr rfl
@[simp] theorem gCons_run {g : Tg} {gs} {ts : List T} : gCons g gs (t :: ts) τ M = (g t τ M).bind fun τ' M' => gs ts τ' M' := nr rfl
@[simp] theorem gNil_run : gNil [] τ M = .ok τ M := nr rfl
@[simp] theorem cYes_run : cYes τ M = .ok true M := nr rfl
@[simp] theorem eCall_run {n dts k} : eCall n dts k fs τ M = (fs τ M).bind fun ts M' => if ts.length + dts.length = n then k (ts ++ dts) M' else .stuck := nr rfl
@[simp] theorem iLst_run : iLst a τ M = (a τ M).bind fun t M' => match t with | .lst ts => .ok ts M' | _ => .stuck := nr rfl
@[simp] theorem iTpl_run : iTpl a τ M = (a τ M).bind fun t M' => match t with | .tup ts => .ok ts M' | _ => .stuck := nr rfl
@[simp] theorem iEn_run : iEn a τ M = (a τ M).bind fun t M' => match t with | .lst ts => .ok (enFrom 0 ts) M' | _ => .stuck := nr rfl
@[simp] theorem iRg1_run : iRg1 a τ M = (a τ M).bind fun t M' => match t with | .int j => if j < 4611686018427387904 ∧ -4611686018427387904 ≤ j then .ok (rgT 0 j.toNat) M' else .stuck | _ => .stuck := nr rfl
@[simp] theorem eLrg1_run : eLrg1 a τ M = (a τ M).bind fun t M' => match t with | .int j => if okRg 0 j then .ok (.lst (rgT 0 j.toNat)) M' else .stuck | _ => .stuck := nr rfl
@[simp] theorem eLenSet_run : eLenSet a τ M = (a τ M).bind fun t M' => match t with
  | .lst ts => (match inTs ts with
    | some ns => if ndI ns && decide (ns.length ≤ 4000) then .ok (.int (ns.length : Nat)) M' else .stuck
    | none => .stuck)
  | _ => .stuck := nr rfl
@[simp] theorem sFor_run {fi} {g : Tg} : sFor fi g f τ M = (fi τ M).bind fun ts M' => forL g f ts τ M' := nr rfl
@[simp] theorem eBm_run {k} : eBm k a fs τ M = (a τ M).bind fun o M1 => if isL o M1 then (fs τ M1).bind fun ts M2 => k o ts M2 else .stuck := nr rfl
@[simp] theorem eComp_run {fi} {g : Tg} {vs} : eComp fi g p a vs τ M = (fi τ M).bind fun ts M1 => if ts.length ≤ 16777216 then (compL g p a (wipeT τ vs) ts M1).bind fun ys M2 => .ok (.lst ys) M2 else .stuck := nr rfl
end
/-! ### values -/
abbrev li (xs : List Int) : T := .lst (xs.map T.int)
theorem toD_li (xs : List Int) : toD (li xs) = some (.list (xs.map .int)) := by simp [toD, toDs_ints]
theorem canAll_ints : ∀ xs : List Int, PyData.canLayAll0 (xs.map .int) = true
  | [] => rfl
  | x :: xs => by
    have := canAll_ints xs
    simpa [PyData.canLayAll0, PyData.canLay0] using this
theorem shaped_li (xs : List Int) : SeqAt.shaped (.list (xs.map .int)) = true := by
  have h1 : (PyData.list (xs.map .int)).canLay0 = true := canAll_ints xs
  have h2 := depth_ints xs
  unfold SeqAt.shaped
  rw [h1, Bool.true_and, decide_eq_true_eq]
  omega
theorem eqvAll_ints : ∀ xs ys : List Int, PyData.eqvAll (xs.map .int) (ys.map .int) = decide (xs = ys)
  | [], [] => rfl
  | [], _ :: _ => rfl
  | _ :: _, [] => rfl
  | x :: xs, y :: ys => by
    have := eqvAll_ints xs ys
    show (PyData.eqv (.int x) (.int y) && PyData.eqvAll (xs.map .int) (ys.map .int)) = _
    rw [this]
    show ((x == y) && _) = _
    by_cases h1 : x = y <;> by_cases h2 : xs = ys <;> simp [h1, h2]
@[simp] theorem kEq_li (xs ys : List Int) : kEq0 (.lst (xs.map T.int)) (.lst (ys.map T.int)) = some (decide (xs = ys)) := by
  unfold kEq0
  rw [toD_li, toD_li]
  show (if SeqAt.shaped _ && SeqAt.shaped _ then some (PyData.eqvAll (xs.map .int) (ys.map .int)) else none) = _
  rw [shaped_li, shaped_li, eqvAll_ints]; rfl
@[simp] theorem kNe_li (xs ys : List Int) : kNe0 (.lst (xs.map T.int)) (.lst (ys.map T.int)) = some (!decide (xs = ys)) := by
  unfold kNe0
  rw [toD_li, toD_li]
  show (if SeqAt.shaped _ && SeqAt.shaped _ then some (!PyData.eqvAll (xs.map .int) (ys.map .int)) else none) = _
  rw [shaped_li, shaped_li, eqvAll_ints]; rfl
@[simp] theorem kEq_int (i j : Int) : kEq0 (.int i) (.int j) = some (decide (i = j)) := by
  show some (i == j) = _
  congr 1
@[simp] theorem kNe_int (i j : Int) : kNe0 (.int i) (.int j) = some (!decide (i = j)) := by
  show some (!(i == j)) = _
  congr 1
theorem kVw_some {k0 : T → T → Option Bool} {a b : T} {M : Sto} {c : Bool} (h : k0 a b = some c) : kVw k0 a b M = .ok (.bl c) M := by unfold kVw; rw [h]
@[simp] theorem vEq_li {xs ys : List Int} {M : Sto} : kVw kEq0 (.lst (xs.map T.int)) (.lst (ys.map T.int)) M = .ok (.bl (decide (xs = ys))) M := kVw_some (kEq_li _ _)
@[simp] theorem vNe_li {xs ys : List Int} {M : Sto} : kVw kNe0 (.lst (xs.map T.int)) (.lst (ys.map T.int)) M = .ok (.bl (!decide (xs = ys))) M := kVw_some (kNe_li _ _)
@[simp] theorem vEq_int {i j : Int} {M : Sto} : kVw kEq0 (.int i) (.int j) M = .ok (.bl (decide (i = j))) M := kVw_some (kEq_int _ _)
@[simp] theorem vNe_int {i j : Int} {M : Sto} : kVw kNe0 (.int i) (.int j) M = .ok (.bl (!decide (i = j))) M := kVw_some (kNe_int _ _)
theorem flTs_ints : ∀ xs : List Int, flTs (xs.map T.int) = some (xs.map V.int)
  | [] => rfl
  | x :: xs => by show (match flT (T.int x), flTs (xs.map T.int) with | some d, some ds => some (d :: ds) | _, _ => none) = _; rw [flTs_ints xs]; rfl
theorem eqV_int (i j : Int) : eqV (.int i) (.int j) = decide (i = j) := by
  unfold eqV
  first | rfl | simp
theorem inV_ints (i : Int) : ∀ xs : List Int, inV (.int i) (xs.map V.int) = decide (i ∈ xs)
  | [] => by simp [inV]
  | x :: xs => by
    have := inV_ints i xs
    unfold inV at this ⊢
    rw [List.map_cons, List.any_cons, this, eqV_int]
    by_cases h : x = i <;> by_cases h2 : i ∈ xs <;> simp [h, h2, eq_comm]
    · intro e; exact absurd e.symm h
@[simp] theorem kIn_li (i : Int) (xs : List Int) : kIn0 (.int i) (.lst (xs.map T.int)) = some (decide (i ∈ xs)) := by
  unfold kIn0
  show (match flT (T.int i), flTs (xs.map T.int) with | some v, some vs => some (inV v vs) | _, _ => _) = _
  rw [flTs_ints]
  show some (inV (.int i) (xs.map V.int)) = _
  rw [inV_ints]
@[simp] theorem vIn_li {i : Int} {xs : List Int} {M : Sto} : kVw kIn0 (.int i) (.lst (xs.map T.int)) M = .ok (.bl (decide (i ∈ xs))) M := kVw_some (kIn_li _ _)
@[simp] theorem vNin_li {i : Int} {xs : List Int} {M : Sto} : kVw (fun a b => (kIn0 a b).map not) (.int i) (.lst (xs.map T.int)) M = .ok (.bl (!decide (i ∈ xs))) M := kVw_some (by show (kIn0 (.int i) (.lst (xs.map T.int))).map not = _; rw [kIn_li]; rfl)
theorem kIx_li {xs : List T} {i : Int} {M : Sto} {t : T} (h0 : 0 ≤ i) (h : xs[i.toNat]? = some t) : kIx (.lst xs) (.int i) M = .ok t M := by
  have hl : i.toNat < xs.length := by
    rcases Nat.lt_or_ge i.toNat xs.length with h1 | h1
    · exact h1
    · rw [List.getElem?_eq_none h1] at h; cases h
  have : atI xs i = some t := by
    unfold atI ixN
    rw [if_pos h0, if_pos (by omega)]
    exact h
  show (match atI xs i with | some t => Res.ok t M | none => .stuck) = _
  rw [this]
@[simp] theorem kLen_lst {xs : List T} {M : Sto} : kLen [.lst xs] M = .ok (.int xs.length) M := nr rfl
@[simp] theorem kIsi_int {i : Int} {M : Sto} {c : Cl} : kIsi c (.int i) M = .ok (.bl (match c with | .int => true | _ => false)) M := nr rfl
@[simp] theorem kIsi_lst {xs : List T} {M : Sto} {c : Cl} : kIsi c (.lst xs) M = .ok (.bl (match c with | .list => true | _ => false)) M := nr rfl
@[simp] theorem kIsi_tup {xs : List T} {M : Sto} {c : Cl} : kIsi c (.tup xs) M = .ok (.bl (match c with | .tuple => true | _ => false)) M := nr rfl
@[simp] theorem kIsi_str {x : Str} {M : Sto} {c : Cl} : kIsi c (.str x) M = .ok (.bl (match c with | .str => true | _ => false)) M := nr rfl
@[simp] theorem kIsi_bl {x : Bool} {M : Sto} {c : Cl} : kIsi c (.bl x) M = .ok (.bl (match c with | .bool => true | .int => true | _ => false)) M := nr rfl
@[simp] theorem kIsi_non {M : Sto} {c : Cl} : kIsi c .non M = .ok (.bl false) M := nr rfl
@[simp] theorem kNot_bl {b : Bool} {M : Sto} : kNot (.bl b) M = .ok (.bl (!b)) M := nr rfl
@[simp] theorem kAddI_int {i j : Int} {M : Sto} : kAddI (.int i) (.int j) M = .ok (.int (i + j)) M := nr rfl
@[simp] theorem kSub_int {i j : Int} {M : Sto} : kSub (.int i) (.int j) M = .ok (.int (i - j)) M := nr rfl
@[simp] theorem kLt_int {i j : Int} {M : Sto} : kLt (.int i) (.int j) M = .ok (.bl (decide (i < j))) M := nr rfl
@[simp] theorem kLe_int {i j : Int} {M : Sto} : kLe (.int i) (.int j) M = .ok (.bl (decide (i ≤ j))) M := nr rfl
@[simp] theorem kGt_int {i j : Int} {M : Sto} : kGt (.int i) (.int j) M = .ok (.bl (decide (j < i))) M := nr rfl
@[simp] theorem kGe_int {i j : Int} {M : Sto} : kGe (.int i) (.int j) M = .ok (.bl (decide (j ≤ i))) M := nr rfl
@[simp] theorem kMax_int {i j : Int} {M : Sto} : kMax [.int i, .int j] M = .ok (.int (if j > i then j else i)) M := nr rfl
@[simp] theorem kMin_int {i j : Int} {M : Sto} : kMin [.int i, .int j] M = .ok (.int (if j < i then j else i)) M := nr rfl
@[simp] theorem kAddL_lst {xs ys : List T} {M : Sto} : kAddL (.lst xs) (.lst ys) M = if xs.length + ys.length ≤ 16777216 then .ok (.lst (xs ++ ys)) M else .stuck := nr rfl
@[simp] theorem kRev_lst {xs : List T} {M : Sto} : kRev (.lst xs) M = .ok (.lst xs.reverse) M := nr rfl
@[simp] theorem kAll_bls {bs : List Bool} {M : Sto} : kAll [.lst (bs.map T.bl)] M = .ok (.bl (bs.all id)) M := by
  show (match blTs (bs.map T.bl) with | some bs => Res.ok (T.bl (bs.all id)) M | none => .stuck) = _
  rw [blTs_map]
@[simp] theorem kSorted_li {xs : List Int} {M : Sto} : kSorted [.lst (xs.map T.int)] M = .ok (.lst ((srtI xs).map T.int)) M := by
  show (match inTs (xs.map T.int) with | some ns => Res.ok (T.lst ((srtI ns).map T.int)) M | none => .stuck) = _
  rw [inTs_map]
@[simp] theorem kIsN_non {a : T} {M : Sto} : kIsN a .non M = .ok (.bl (isNonT a)) M := by cases a <;> rfl
@[simp] theorem kNotN_non {a : T} {M : Sto} : kNotN a .non M = .ok (.bl (!isNonT a)) M := by cases a <;> rfl
@[simp] theorem inTs_li {xs : List Int} : inTs (xs.map T.int) = some xs := inTs_map xs
theorem rgT_ints {n : Nat} : rgT 0 n = ((List.range n).map fun (i : Nat) => (i : Int)).map T.int := by
  unfold rgT
  rw [List.map_map]
  exact List.map_congr_left fun i _ => by simp
theorem ndI_iff : ∀ {l : List Int}, ndI l = true ↔ l.Nodup
  | [] => by simp [ndI]
  | n :: r => by
    unfold ndI
    rw [Bool.and_eq_true, ndI_iff, List.nodup_cons]
    refine and_congr ?_ Iff.rfl
    simp only [Bool.not_eq_true', List.any_eq_false, decide_eq_true_eq]
    exact ⟨fun h hm => h n hm rfl, fun h m hm e => h (e ▸ hm)⟩
/-- slices with bounds that are counts -/
theorem cut_to {xs : List T} {i : Int} (h : 0 ≤ i) : cutT xs none (some i) = xs.take i.toNat := by
  unfold cutT HT.sIx
  simp only [if_neg (show ¬ i < 0 by omega), Nat.sub_zero, List.drop_zero]
  rw [← List.take_eq_take_min]
theorem cut_from {xs : List T} {i : Int} (h : 0 ≤ i) : cutT xs (some i) none = xs.drop i.toNat := by
  unfold cutT HT.sIx
  simp only [if_neg (show ¬ i < 0 by omega)]
  rcases Nat.le_total i.toNat xs.length with h1 | h1
  · rw [Nat.min_eq_left h1, ← List.length_drop, List.take_length]
  · rw [Nat.min_eq_right h1, List.drop_length, List.drop_eq_nil_of_le h1, List.take_nil]
/-- the place of the first -/
theorem ixV_ints {c : Int} : ∀ {xs : List Int}, c ∈ xs → ixV (.int c) (xs.map V.int) = some (xs.idxOf c)
  | [], h => nomatch h
  | x :: xs, h => by
    rw [List.map_cons]
    unfold ixV
    rw [eqV_int]
    by_cases e : x = c
    · simp [e]
    · have hm : c ∈ xs := by
        rcases List.mem_cons.mp h with e2 | hm
        · exact absurd e2.symm e
        · exact hm
      rw [if_neg (by simpa using e), ixV_ints hm]
      simp [List.idxOf_cons, beq_eq_false_iff_ne.mpr e]
theorem kIdx_li {c : Int} {xs : List Int} {M : Sto} (h : c ∈ xs) : kIdx (.lst (xs.map T.int)) [.int c] M = .ok (.int (xs.idxOf c : Nat)) M := by
  show (match flT (T.int c), flTs (xs.map T.int) with | some v, some vs => (match ixV v vs with | some j => Res.ok (T.int (j : Nat)) M | none => .stuck) | _, _ => .stuck) = _
  rw [flTs_ints]
  show (match ixV (.int c) (xs.map V.int) with | some j => Res.ok (T.int (j : Nat)) M | none => .stuck) = _
  rw [ixV_ints h]
end TL
end
section
set_option Elab.async false
set_option linter.all false
set_option maxRecDepth 100000
/-! TL29: loops that draw; the store's purse and what stands behind. -/
namespace TL
open PySem PySem.Spec PyProof.Rows L2
/-- what a loop's turn may end in -/
def Turn (P : Tau → Sto → Prop) (Φ : Fl → Sto → Prop) : Fl → Sto → Prop
  | .nx τ, M => P τ M
  | .ct τ, M => P τ M
  | .bk τ, M => Φ (.nx τ) M
  | .rt t, M => Φ (.rt t) M
theorem forL_all {g : Tg} {f : Ev Fl} {P : List T → Tau → Sto → Prop} {Φ : Fl → Sto → Prop} (step : ∀ t ts τ M, P (t :: ts) τ M → Wp ((g t τ M).bind f) (Turn (P ts) Φ)) (fin : ∀ τ M, P [] τ M → Φ (.nx τ) M) :
    ∀ {ts : List T} {τ : Tau} {M : Sto}, P ts τ M → Wp (forL g f ts τ M) Φ
  | [], τ, M, h => ⟨fin τ M h⟩
  | t :: ts, τ, M, h => by
    have s := step t ts τ M h
    unfold forL
    rw [wp_bind] at s ⊢
    refine s.mono fun τ1 M1 q => ?_
    rw [wp_bind]
    refine q.mono fun fl M2 q => ?_
    cases fl with
    | nx τ2 => exact forL_all step fin q
    | ct τ2 => exact forL_all step fin q
    | bk τ2 => exact ⟨q⟩
    | rt t => exact ⟨q⟩
theorem while_all {c : Ev Bool} {f : Ev Fl} {P : Nat → Tau → Sto → Prop} {Φ : Fl → Sto → Prop}
    (step : ∀ k τ M, P k τ M → Wp (c τ M) fun b M1 => if b then ∃ k', k = k' + 1 ∧ Wp (f τ M1) (Turn (P k') Φ) else Φ (.nx τ) M1) :
    ∀ {k n : Nat} {τ : Tau} {M : Sto}, k < n → P k τ M → Wp (sWhile c f n τ M) Φ
  | k, 0, _, _, hk, _ => absurd hk (Nat.not_lt_zero _)
  | k, n + 1, τ, M, hk, h => by
    have s := step k τ M h
    unfold sWhile
    rw [wp_bind]
    refine s.mono fun b M1 q => ?_
    cases b with
    | false => exact ⟨q⟩
    | true =>
      obtain ⟨k', e, q⟩ := q
      show Wp (Res.bind (f τ M1) _) Φ
      rw [wp_bind]
      refine q.mono fun fl M2 q => ?_
      cases fl with
      | nx τ2 => exact while_all step (k := k') (by omega) q
      | ct τ2 => exact while_all step (k := k') (by omega) q
      | bk τ2 => exact ⟨q⟩
      | rt t => exact ⟨q⟩
/-! ### stores -/
theorem lk_app {n : Nat} {a b : List (Nat × MO)} : lkM n (a ++ b) = (match lkM n a with | some o => some o | none => lkM n b) := by
  induction a with
  | nil => rfl
  | cons p a ih =>
    obtain ⟨k, o⟩ := p
    show (if Nat.beq k n then some o else lkM n (a ++ b)) = (match (if Nat.beq k n then some o else lkM n a) with | some o => some o | none => lkM n b)
    by_cases h : Nat.beq k n = true
    · rw [if_pos h, if_pos h]
    · rw [if_neg h, if_neg h, ih]
theorem st_app_l {n : Nat} {o : MO} {a b : List (Nat × MO)} (h : ∃ u, lkM n a = some u) : stM n o (a ++ b) = stM n o a ++ b := by
  induction a with
  | nil => obtain ⟨u, h⟩ := h; cases h
  | cons p a ih =>
    obtain ⟨k, v⟩ := p
    show (if Nat.beq k n then (k, o) :: (a ++ b) else (k, v) :: stM n o (a ++ b)) = (if Nat.beq k n then (k, o) :: a else (k, v) :: stM n o a) ++ b
    obtain ⟨u, h⟩ := h
    have h : (if Nat.beq k n then some v else lkM n a) = some u := h
    by_cases e : Nat.beq k n = true
    · rw [if_pos e, if_pos e]; rfl
    · rw [if_neg e] at h
      rw [if_neg e, if_neg e, ih ⟨u, h⟩]; rfl
theorem st_app_r {n : Nat} {o : MO} {a b : List (Nat × MO)} (h : lkM n a = none) : stM n o (a ++ b) = a ++ stM n o b := by
  induction a with
  | nil => rfl
  | cons p a ih =>
    obtain ⟨k, v⟩ := p
    have h : (if Nat.beq k n then some v else lkM n a) = none := h
    show (if Nat.beq k n then (k, o) :: (a ++ b) else (k, v) :: stM n o (a ++ b)) = _
    by_cases e : Nat.beq k n = true
    · rw [if_pos e] at h; cases h
    · rw [if_neg e] at h
      rw [if_neg e, ih h]; rfl
theorem dl_app {n : Nat} {a b : List (Nat × MO)} : dlM n (a ++ b) = dlM n a ++ dlM n b := by
  induction a with
  | nil => rfl
  | cons p a ih =>
    obtain ⟨k, v⟩ := p
    show (if Nat.beq k n then dlM n (a ++ b) else (k, v) :: dlM n (a ++ b)) = (if Nat.beq k n then dlM n a else (k, v) :: dlM n a) ++ dlM n b
    by_cases e : Nat.beq k n = true
    · rw [if_pos e, if_pos e, ih]
    · rw [if_neg e, if_neg e, ih]; rfl
theorem dl_none {n : Nat} {a : List (Nat × MO)} (h : lkM n a = none) : dlM n a = a := by
  induction a with
  | nil => rfl
  | cons p a ih =>
    obtain ⟨k, v⟩ := p
    have h : (if Nat.beq k n then some v else lkM n a) = none := h
    show (if Nat.beq k n then dlM n a else (k, v) :: dlM n a) = _
    by_cases e : Nat.beq k n = true
    · rw [if_pos e] at h; cases h
    · rw [if_neg e] at h
      rw [if_neg e, ih h]
theorem lk_st {n k : Nat} {o : MO} {a : List (Nat × MO)} (h : k ≠ n) : lkM k (stM n o a) = lkM k a := by
  induction a with
  | nil => rfl
  | cons p a ih =>
    obtain ⟨j, v⟩ := p
    show lkM k (if Nat.beq j n then (j, o) :: a else (j, v) :: stM n o a) = (if Nat.beq j k then some v else lkM k a)
    by_cases e : Nat.beq j n = true
    · rw [if_pos e]
      have := Nat.eq_of_beq_eq_true e
      show (if Nat.beq j k then some o else lkM k a) = _
      have e2 : ¬ Nat.beq j k = true := fun z => h ((Nat.eq_of_beq_eq_true z).symm.trans this)
      rw [if_neg e2, if_neg e2]
    · rw [if_neg e]
      show (if Nat.beq j k then some v else lkM k (stM n o a)) = _
      rw [ih]
theorem lk_st_same {n : Nat} {o u : MO} {a : List (Nat × MO)} (h : lkM n a = some u) : lkM n (stM n o a) = some o := by
  have := lkM_set (k := n) (o := o) (l := a) ⟨u, h⟩
  rwa [if_pos rfl] at this
theorem st_st {n : Nat} {o o' : MO} {a : List (Nat × MO)} : stM n o' (stM n o a) = stM n o' a := by
  have := set_set (M := ⟨a, 0⟩) (n := n) (o := o) (o' := o')
  exact congrArg Sto.m this
/-- the store with its purse n at j, and more behind -/
def PB (M : Sto) (n j : Nat) (r : List (Nat × MO)) (nx : Nat) : Sto := ⟨stM n (.purse j) M.m ++ r, nx⟩
structure Pu (M : Sto) (n k : Nat) : Prop where
  at_ : M.get n = some (.purse k)
  free : ∀ i, M.nx ≤ i → M.get i = none
section
variable {M : Sto} {n k j : Nat} {r : List (Nat × MO)} {nx : Nat}
theorem Pu.lt (h : Pu M n k) : n < M.nx := by
  rcases Nat.lt_or_ge n M.nx with h1 | h1
  · exact h1
  · have := h.free n h1
    rw [h.at_] at this; cases this
theorem PB_purse (h : Pu M n k) : (PB M n j r nx).get n = some (.purse j) := by
  show lkM n (stM n (.purse j) M.m ++ r) = _
  rw [lk_app, lk_st_same (show lkM n M.m = some _ from h.at_)]
theorem PB_draw (h : Pu M n k) : (PB M n j r nx).set n (.purse (j + 1)) = PB M n (j + 1) r nx := by
  show (⟨stM n _ (stM n (.purse j) M.m ++ r), nx⟩ : Sto) = ⟨_, nx⟩
  rw [st_app_l ⟨_, lk_st_same (show lkM n M.m = some _ from h.at_)⟩, st_st]
theorem lk_out (h : Pu M n k) {i : Nat} (hi : M.nx ≤ i) : lkM i (stM n (.purse j) M.m) = none := by
  rw [lk_st (by have := h.lt; omega)]
  exact h.free i hi
theorem PB_get (h : Pu M n k) {i : Nat} (hi : M.nx ≤ i) : (PB M n j r nx).get i = lkM i r := by
  show lkM i (stM n (.purse j) M.m ++ r) = _
  rw [lk_app, lk_out h hi]
theorem PB_set (h : Pu M n k) {i : Nat} {o : MO} (hi : M.nx ≤ i) : (PB M n j r nx).set i o = PB M n j (stM i o r) nx := by
  show (⟨stM i o (stM n (.purse j) M.m ++ r), nx⟩ : Sto) = ⟨_, nx⟩
  rw [st_app_r (lk_out h hi)]
theorem PB_del (h : Pu M n k) {i : Nat} (hi : M.nx ≤ i) : (PB M n j r nx).del i = PB M n j (dlM i r) nx := by
  show (⟨dlM i (stM n (.purse j) M.m ++ r), nx⟩ : Sto) = ⟨_, nx⟩
  rw [dl_app, dl_none (lk_out h hi)]
theorem PB_add {o : MO} : (PB M n j r nx).add o = PB M n j (r ++ [(nx, o)]) (nx + 1) := by
  show (⟨(stM n (.purse j) M.m ++ r) ++ [(nx, o)], nx + 1⟩ : Sto) = ⟨_, _⟩
  rw [List.append_assoc]
theorem st_id {n : Nat} {o : MO} {a : List (Nat × MO)} (h : lkM n a = some o) : stM n o a = a := by
  induction a with
  | nil => rfl
  | cons p a ih =>
    obtain ⟨k, v⟩ := p
    have h : (if Nat.beq k n then some v else lkM n a) = some o := h
    show (if Nat.beq k n then (k, o) :: a else (k, v) :: stM n o a) = _
    by_cases e : Nat.beq k n = true
    · rw [if_pos e] at h ⊢
      cases h; rfl
    · rw [if_neg e] at h ⊢
      rw [ih h]
theorem PB_self (h : Pu M n k) : M = PB M n k [] M.nx := by
  show M = ⟨stM n (.purse k) M.m ++ [], M.nx⟩
  rw [List.append_nil, st_id (show lkM n M.m = some _ from h.at_)]
theorem PB_PB (h : Pu M n k) {j' : Nat} {r' : List (Nat × MO)} {nx' : Nat} : PB (PB M n j r nx) n j' r' nx' = PB M n j' (r ++ r') nx' := by
  show (⟨stM n _ (stM n (.purse j) M.m ++ r) ++ r', nx'⟩ : Sto) = ⟨_, nx'⟩
  rw [st_app_l ⟨_, lk_st_same (show lkM n M.m = some _ from h.at_)⟩, st_st, List.append_assoc]
/-- all of r stands at or behind M.nx, and ahead of nx -/
def Beh (a nx : Nat) (r : List (Nat × MO)) : Prop := ∀ p ∈ r, a ≤ p.1 ∧ p.1 < nx
theorem lk_beh {a i : Nat} (hb : Beh a nx r) (hi : nx ≤ i) : lkM i r = none := by
  induction r with
  | nil => rfl
  | cons p r ih =>
    obtain ⟨c, o⟩ := p
    have h1 := (hb (c, o) List.mem_cons_self).2
    show (if Nat.beq c i then some o else lkM i r) = none
    rw [if_neg fun z => by have := Nat.eq_of_beq_eq_true z; simp at h1; omega]
    exact ih fun p hp => hb p (List.mem_cons_of_mem _ hp)
theorem Pu.pb (h : Pu M n k) (hb : Beh M.nx nx r) (hn : M.nx ≤ nx) : Pu (PB M n j r nx) n j :=
  ⟨PB_purse h, fun i hi => by rw [PB_get h (Nat.le_trans hn hi)]; exact lk_beh hb hi⟩
theorem draw_run (h : Pu M n k) {m : Int} (h0 : 0 < m) (h1 : m < 134217728) (hj : j < 1000000) : rDraw [.ref n, .int m] (PB M n j r nx) = .pick m.toNat fun d => .ok (.int (d : Nat)) (PB M n (j + 1) r nx) := by
  unfold rDraw
  simp only [PB_purse h]
  rw [if_pos ⟨h0, h1, hj⟩]
  simp only [PB_draw h]
/-- the purse may have been used, more may stand behind -/
def Bp (M : Sto) (n K : Nat) (M' : Sto) : Prop := ∃ j r, j ≤ K ∧ M.nx ≤ M'.nx ∧ Beh M.nx M'.nx r ∧ M' = PB M n j r M'.nx
end
/-! ### orders of a list -/
def insEv (x : Int) : List Int → List (List Int)
  | [] => [[x]]
  | y :: l => (x :: y :: l) :: (insEv x l).map (y :: ·)
def permsI : List Int → List (List Int)
  | [] => [[]]
  | x :: l => (permsI l).flatMap (insEv x)
theorem mem_insEv {x : Int} : ∀ {a b : List Int}, a ++ x :: b ∈ insEv x (a ++ b)
  | [], [] => by simp [insEv]
  | [], _ :: _ => by simp [insEv]
  | y :: a, b => by
    show y :: (a ++ x :: b) ∈ insEv x (y :: (a ++ b))
    unfold insEv
    exact List.mem_cons_of_mem _ (List.mem_map.mpr ⟨_, mem_insEv, rfl⟩)
theorem mem_permsI : ∀ {l p : List Int}, p.Perm l → p ∈ permsI l
  | [], p, h => by rw [List.Perm.eq_nil h]; simp [permsI]
  | x :: l, p, h => by
    obtain ⟨a, b, e⟩ := List.append_of_mem (h.mem_iff.mpr (List.mem_cons_self (a := x) (l := l)))
    subst e
    have h2 : (a ++ b).Perm l := (List.perm_middle.symm.trans h).cons_inv
    exact List.mem_flatMap.mpr ⟨_, mem_permsI h2, mem_insEv⟩
end TL
end
section
set_option Elab.async false
set_option linter.all false
set_option maxRecDepth 100000
/-! TL31: behind a call whose answer is plain, what the call laid into the store is forgotten. -/
namespace TL
open PySem PySem.Spec PyProof.Rows L2
def gcL (n : Nat) : List (Nat × MO) → List (Nat × MO)
  | [] => []
  | (k, o) :: r => if k < n then (k, o) :: gcL n r else gcL n r
def gcM (n : Nat) (M : Sto) : Sto := ⟨gcL n M.m, M.nx⟩
theorem lk_gc {n k : Nat} : ∀ {l : List (Nat × MO)}, lkM k (gcL n l) = if k < n then lkM k l else none
  | [] => by show none = _; split <;> rfl
  | (j, u) :: r => by
    have ih := lk_gc (n := n) (k := k) (l := r)
    unfold gcL
    by_cases h : j < n
    · rw [if_pos h]
      have h' := h
      show (if Nat.beq j k then some u else lkM k (gcL n r)) = if k < n then (if Nat.beq j k then some u else lkM k r) else none
      rw [ih]
      by_cases e : Nat.beq j k = true
      · have e2 := Nat.eq_of_beq_eq_true e
        subst e2
        rw [if_pos e, if_pos e, if_pos h']
      · rw [if_neg e, if_neg e]
    · rw [if_neg h, ih]
      have h' := h
      show _ = if k < n then (if Nat.beq j k then some u else lkM k r) else none
      by_cases e : Nat.beq j k = true
      · have e2 := Nat.eq_of_beq_eq_true e
        subst e2
        rw [if_neg h', if_neg h']
      · rw [if_neg e]
def Wd.gc (w : Wd) (n : Nat) : Wd := { w with M := gcM n w.M }
section
variable {mg : Str → Option Value} {w : Wd} {n : Nat}
theorem get_gc (k : Nat) : (gcM n w.M).get k = if k < n then w.M.get k else none := lk_gc
theorem Ex.gc {a : Addr} (h : Ex (w.gc n) a) : Ex w a := by
  rcases h with h | ⟨k, x, e, rfl⟩
  · exact .inl h
  · rw [show (w.gc n).M.get k = _ from get_gc k] at e
    by_cases hk : k < n
    · rw [if_pos hk] at e; exact .inr ⟨k, x, e, rfl⟩
    · rw [if_neg hk] at e; cases e
theorem Ext.gc : Ext w (w.gc n) :=
  ⟨fun _ _ _ h m => ⟨h, fun z => m (Ex.gc z)⟩, fun _ _ _ _ h m => ⟨h, fun z => m (Ex.gc z)⟩, fun _ _ h m => ⟨h, fun z => m (Ex.gc z)⟩, fun _ h => h, Nat.le_refl _, fun _ _ => rfl, fun _ h => h, fun _ _ => rfl, fun _ _ _ h => h⟩
theorem Good.gc (g : Good mg w) : Good mg (w.gc n) := by
  have f : ∀ {k : Nat} {y : MO}, (w.gc n).M.get k = some y → w.M.get k = some y := fun {k y} e => by
    rw [show (w.gc n).M.get k = _ from get_gc k] at e
    by_cases hk : k < n
    · rw [if_pos hk] at e; exact e
    · rw [if_neg hk] at e; cases e
  exact ⟨fun k y e => let ⟨a, b, c⟩ := g.own k y (f e); ⟨a, b, c.mono Ext.gc⟩, fun k m y z e1 e2 e3 => g.inj k m y z (f e1) (f e2) e3, g.Rd⟩
end
def gcRun (g : List T → Sto → Res T) : List T → Sto → Res T := fun ts M => (g ts M).bind fun t M' => .ok t (gcM M.nx M')
theorem fn_gc {P : Program} {w : World} {K : PySem.W.Frag} {mg : Str → Option Value} {base : Heap} {CX : CXT} {k n : Nat} {f : Addr} {fd : FuncData} {ps : List Str} {g : List T → Sto → Res T} (F : FnOk P w K mg base CX k f fd ps (spRun mg false n g)) :
    FnOk P w K mg base CX k f fd ps (spRun mg false n (gcRun g)) :=
  F.imp fun vs H Q E q0 => by
    obtain ⟨hl, w, ts, e, gd, r, q⟩ := q0
    refine ⟨hl, w, ts, e, gd, r, Res.all_mono (fun t M' q => ?_) (Res.all_bind q)⟩
    intro w1 v x1 g1 e1 r1 _
    subst e1
    exact q (w1.gc w.M.nx) v (x1.trans Ext.gc) (Good.gc g1) rfl (r1.mono Ext.gc) fun z => nomatch z
end TL
end
section
set_option Elab.async false
set_option linter.all false
set_option maxRecDepth 100000
/-! TL32: slices with a step; range(i, j, c). -/
namespace TL
open PySem PySem.Spec PyProof.Rows L2
def stepIx (lo hi st : Option Int) (n : Nat) : List Nat := sliceRange (sliceBounds lo hi st n).1 (sliceBounds lo hi st n).2.1 (sliceBounds lo hi st n).2.2
def pickV {α : Type} (xs : List α) (lo hi st : Option Int) : List α := (stepIx lo hi st xs.length).filterMap (xs[·]?)
def tSlSt (K : PySem.W.Frag) (te : TE) (tl th ts : TO) : TE := fun σ H Q => te σ H fun x H1 => tl σ H1 fun l H2 => th σ H2 fun u H3 => ts σ H3 fun s H4 => ∃ a xs, x = .ref a ∧ SqL K H4 a xs ∧ s ≠ some 0 ∧ ∀ p, H4 p = none → Q (.ref p) (upd H4 p (.lst (pickV xs l u s)))
theorem vals_pick : ∀ {xs : List V} {us : List Value}, Vals xs us → ∀ is : List Nat, Vals (is.filterMap (xs[·]?)) (is.filterMap (us[·]?))
  | xs, us, r, [] => .nil
  | xs, us, r, i :: is => by
    have ih := vals_pick r is
    cases hx : xs[i]? with
    | none =>
      have hu : us[i]? = none := by
        rw [List.getElem?_eq_none_iff] at hx ⊢
        have := r.length
        omega
      rw [List.filterMap_cons_none hx, List.filterMap_cons_none hu]; exact ih
    | some x =>
      obtain ⟨u, hu, ru⟩ := r.get hx
      rw [List.filterMap_cons_some hx, List.filterMap_cons_some hu]
      exact .cons ru ih
theorem pe_slSt {X : Cx} {e st : Expr} {lo hi : Option Expr} {te : TE} {tl th ts : TO} {p2 pos : Pos} (he : PE X e te) (hl : PO X lo tl) (hu : PO X hi th) (hs : PO X (some st) ts) : PE X (.Subscript e (.Slice lo hi (some st) p2) pos) (tSlSt X.K te tl th ts) := by
  refine ⟨fun pins s σ H Q I h => ?_⟩
  refine Subscript_ (thn (he.run pins s σ H _ I h) fun v s1 ⟨x, H1, I1, r1, q1⟩ => ?_)
  refine wpAny_Slice (thn (hl.run pins s1 σ H1 _ I1 q1) fun vl s2 ⟨l, H2, I2, pl, q2⟩ => thn (hu.run pins s2 σ H2 _ I2 q2) fun vu s3 ⟨u, H3, I3, pu, q3⟩ => thn (hs.run pins s3 σ H3 _ I3 q3) fun vs s4 ⟨o, H4, I4, ps, q4⟩ => ?_)
  obtain ⟨a, xs, ex, hx, h0, q⟩ := q4
  subst ex
  cases r1
  have I5 : Inv X pins σ H4 { s4 with heap := s4.heap.push { cls := .type "slice", data := .fields #[vl, vu, vs] } } := I4.kept (t' := s4.toks) fun b ob q => Heap.get?_push_of_some _ q
  obtain ⟨its, r, ht, hz⟩ := I5.list hx
  have hlen := r.length
  show wpAny (model X.prog X.w) X.A (subscriptTail e (.Slice lo hi (some st) p2) (.ref a) (.ref s4.heap.objs.size)) (EP X pins σ Q) X.xe { s4 with heap := s4.heap.push { cls := .type "slice", data := .fields #[vl, vu, vs] } }
  refine tail_any (ops := [.ref a, .ref s4.heap.objs.size]) ht.isList.typeIs (PySem.slot_list_getitem.lookup) ?_ (by with_unfolding_all rfl)
  refine wpAny_getItem_list_slice ht.isList (Heap.IsSliceOf.new _ vl vu vs) pl pu ps h0 ?_ (by rw [List.size_toArray]; omega)
  have epick : slicePick its.toArray l u o = ((stepIx l u o its.length).filterMap (its[·]?)).toArray := by
    unfold slicePick stepIx
    simp
  have hle := slicePick_size_le its.toArray l u o
  rw [epick] at hle ⊢
  have rv := vals_pick r (stepIx l u o its.length)
  have hpl : pickV xs l u o = (stepIx l u o its.length).filterMap (xs[·]?) := by unfold pickV; rw [hlen]
  have hle2 : (pickV xs l u o).length ≤ sizeLine := by
    rw [hpl, rv.length]
    simp only [List.size_toArray] at hle
    omega
  refine ⟨.ref _, _, I5.laid (t' := s4.toks) (o := .lst (pickV xs l u o)) (fun b ob q => Heap.get?_push_of_some _ q) (Nat.le_refl _) ?_, rfl, q _ (I5.hok.fresh (Nat.le_refl _))⟩
  exact ⟨hle2, _, 0, by rw [hpl]; exact rv, Heap.get?_push_size _ rfl⟩
theorem RepL.pick {w : Wd} {vs : List V} {ts : List T} (r : RepL w vs ts) : ∀ is : List Nat, RepL w (is.filterMap (vs[·]?)) (is.filterMap (ts[·]?))
  | [] => .nil
  | i :: is => by
    have ih := r.pick is
    cases ht : ts[i]? with
    | none =>
      have hv : vs[i]? = none := by
        rw [List.getElem?_eq_none_iff] at ht ⊢
        have := r.length
        omega
      rw [List.filterMap_cons_none hv, List.filterMap_cons_none ht]; exact ih
    | some t =>
      obtain ⟨v, hv, rv⟩ := r.get ht
      rw [List.filterMap_cons_some hv, List.filterMap_cons_some ht]
      exact .cons rv ih
def eSlSt (f : Ev T) (lo hi st : Ev (Option Int)) : Ev T := fun τ M => (f τ M).bind fun t M1 => (lo τ M1).bind fun l M2 => (hi τ M2).bind fun u M3 => (st τ M3).bind fun s M4 => match t, s with
  | .lst xs, some c => if c = 0 then .stuck else .ok (.lst (pickV xs l u (some c))) M4
  | _, _ => .stuck
section
variable {X : Cx} {a b c st : Expr} {fa fb fc fe : Ev T} {pos : Pos}
theorem se_slSt {lo hi : Option Expr} {fl fh fs : Ev (Option Int)} {p2 : Pos} (ha : SE false X a fa) (hl : SO X lo fl) (hh : SO X hi fh) (hs : SO X (some st) fs) : SE true X (.Subscript a (.Slice lo hi (some st) p2) pos) (eSlSt fa fl fh fs) := by
  obtain ⟨tl, pl, il⟩ := hl
  obtain ⟨th, ph, ih⟩ := hh
  obtain ⟨ts, ps, is⟩ := hs
  refine pe_imp (pe_slSt ha pl ph ps) fun σ H Q ⟨w, τ, e, g, n, q⟩ => ?_
  subst e
  refine ⟨w, τ, rfl, g, n, Res.all_mono (fun t M1 q w1 v x1 g1 e1 r1 _ => ?_) (Res.all_bind q)⟩
  subst e1
  refine il _ _ _ ⟨w1, τ, rfl, g1, n.mono x1, Res.all_mono (fun l M2 q w2 x2 g2 e2 => ?_) (Res.all_bind q)⟩
  subst e2
  refine ih _ _ _ ⟨w2, τ, rfl, g2, (n.mono x1).mono x2, Res.all_mono (fun u M3 q w3 x3 g3 e3 => ?_) (Res.all_bind q)⟩
  subst e3
  refine is _ _ _ ⟨w3, τ, rfl, g3, ((n.mono x1).mono x2).mono x3, Res.all_mono (fun s M4 q w4 x4 g4 e4 => ?_) (Res.all_bind q)⟩
  subst e4
  have xx := ((x1.trans x2).trans x3).trans x4
  split at q
  · rename_i xs c
    split at q
    · exact q.elim
    · rename_i hc
      cases ((r1.mono x2).mono x3).mono x4 with
      | lst n d l =>
        refine ⟨_, _, rfl, .inl d, fun z => hc (Option.some.inj z), fun p hp => post_lst (post_ext q xx) g4 hp ?_⟩
        unfold pickV
        rw [l.length]
        exact l.pick _
  · exact q.elim
/-- lo, lo + c, .. -/
def rgC (lo c : Int) (n : Nat) : List T := (List.range n).map fun i => T.int (lo + (i : Nat) * c)
theorem rgC_length (lo c : Int) (n : Nat) : (rgC lo c n).length = n := by unfold rgC; rw [List.length_map, List.length_range]
theorem yld_rngC {mg : Str → Option Value} {w : Wd} (lo c : Int) (n : Nat) : Yld mg (Itc lo c n) w (rgC lo c n) where
  go := fun i w1 x1 g1 hi => by rw [rgC_length] at hi; exact hi
  yl := fun i w1 x H' x1 g1 hy t ht => by
    obtain ⟨rfl, rfl⟩ := hy
    unfold rgC at ht
    by_cases hi : i < n
    · rw [List.getElem?_map, List.getElem?_range hi] at ht
      cases ht
      exact ⟨w1, rfl, .refl w1, g1, rfl, .int _⟩
    · rw [List.getElem?_eq_none (by simpa using hi)] at ht; cases ht
  stop := fun i w1 x1 g1 hi => by rw [rgC_length] at hi; exact hi
def iRg3 (f g h : Ev T) : Ev (List T) := fun τ M => (f τ M).bind fun t M1 => (g τ M1).bind fun u M2 => (h τ M2).bind fun v M3 => match t, u, v with
  | .int i, .int j, .int c => if c ≠ 0 ∧ c.natAbs < 1073741824 ∧ Builtin.Range.small i j c = true ∧ 0 ≤ Builtin.Range.rangeSize i j c then .ok (rgC i c (Builtin.Range.rangeSize i j c).toNat) M3 else .stuck
  | _, _, _ => .stuck
theorem si_range3 {tg : Expr} {p : Pos} (B : Blt X.mg) (ha : SE false X a fa) (hb : SE false X b fb) (hc : SE false X c fc) (hg : Gl X "range" := by rfl) (hs : starEach [a, b, c] X.env = (false, eval a X.env) :: starEach [b, c] X.env := by rfl)
    (hs2 : starEach [b, c] X.env = (false, eval b X.env) :: starEach [c] X.env := by rfl) (hs3 : starEach [c] X.env = (false, eval c X.env) :: starEach [] X.env := by rfl) (hpl : (backTo pos (starEach [b, c] X.env)).any (·.1) = false := by rfl) :
    SI X tg (.Call (.Name "range" p) [a, b, c] [] pos) (iRg3 fa fb fc) := by
  refine pi_imp (pi_range3 hg B.range (pa_cons ha (pa_cons hb (pa_cons hc pa_nil hs3) hs2) hs) hs hpl) fun σ H R ⟨w, τ, e, g, n, q⟩ => ?_
  subst e
  refine ⟨w, τ, rfl, g, n, Res.all_mono (fun t M' q w1 v x1 g1 e1 r1 _ => ?_) (Res.all_bind q)⟩
  subst e1
  refine ⟨w1, τ, rfl, g1, n.mono x1, Res.all_mono (fun u M2 q w2 z x2 g2 e2 r2 _ => ?_) (Res.all_bind q)⟩
  subst e2
  refine ⟨w2, τ, rfl, g2, (n.mono x1).mono x2, Res.all_mono (fun y M3 q w3 z3 x3 g3 e3 r3 _ => ?_) (Res.all_bind q)⟩
  subst e3
  split at q
  · split at q
    · rename_i hj
      cases (r1.mono x2).mono x3
      cases r2.mono x3
      cases r3
      exact ⟨_, _, _, _, rfl, ⟨hj.1, hj.2.1, hj.2.2.1, by omega⟩, q w3 _ ((x1.trans x2).trans x3) g3 rfl (yld_rngC _ _ _)⟩
    · exact q.elim
  · exact q.elim
end
end TL
end
section
set_option Elab.async false
set_option linter.all false
set_option maxRecDepth 100000
/-! TL33: [elt for .. in .. for .. in ..]. -/
namespace TL
open PySem PySem.Spec PyProof.Rows L2
def comp1A (g : Tg) (c : Ev Bool) (f : Ev T) (τ : Tau) : List T → List T → Sto → Res (List T)
  | [], acc, M => .ok acc M
  | t :: ts, acc, M => (g t τ M).bind fun τ1 M1 => (c τ1 M1).bind fun b M2 => if b then (f τ1 M2).bind fun y M3 => if acc.length < 16777216 then comp1A g c f τ ts (acc ++ [y]) M3 else .stuck else comp1A g c f τ ts acc M2
def comp2A (g : Tg) (c : Ev Bool) (fi1 : Ev (List T)) (g1 : Tg) (c1 : Ev Bool) (f : Ev T) (vs1 : List Nat) (τ : Tau) : List T → List T → Sto → Res (List T)
  | [], acc, M => .ok acc M
  | t :: ts, acc, M => (g t τ M).bind fun τ1 M1 => (c τ1 M1).bind fun b M2 => if b then (fi1 τ1 M2).bind fun us M3 => (comp1A g1 c1 f (wipeT τ1 vs1) us acc M3).bind fun acc' M4 => comp2A g c fi1 g1 c1 f vs1 τ ts acc' M4 else comp2A g c fi1 g1 c1 f vs1 τ ts acc M2
def eComp2 (fi : Ev (List T)) (g : Tg) (c : Ev Bool) (fi1 : Ev (List T)) (g1 : Tg) (c1 : Ev Bool) (f : Ev T) (vs vs1 : List Nat) : Ev T := fun τ M => (fi τ M).bind fun ts M1 => (comp2A g c fi1 g1 c1 f vs1 (wipeT τ vs) ts [] M1).bind fun ys M2 => .ok (.lst ys) M2
section
variable {mg : Str → Option Value} {fi fi1 : Ev (List T)} {gt gt1 : Tg} {fc fc1 : Ev Bool} {fe : Ev T} {vs vs1 sl sl1 : List Nat}
def AccSt (mg : Str → Option Value) (wb : Wd) (D : Addr) (H : Hp) (P : List T → Sto → Prop) : Prop := ∃ wi accV accT, wi.H = H ∧ Good mg wi ∧ Ext wb wi ∧ wi.R D ∧ wi.H D = some (.lst accV) ∧ RepL wi accV accT ∧ P accT wi.M
def AccS2 (mg : Str → Option Value) (wb wc : Wd) (D : Addr) (H : Hp) (P : List T → Sto → Prop) : Prop := ∃ wi accV accT, wi.H = H ∧ Good mg wi ∧ Ext wb wi ∧ KF wc wi ∧ wi.R D ∧ wi.H D = some (.lst accV) ∧ RepL wi accV accT ∧ P accT wi.M
theorem lc2_turns {Q : VK} {w1 : Wd} {σ : L2.St} {τ : Tau} {J : It} {ts : List T} {D : Addr} (hs : ∀ j ∈ sl, j ∈ vs) (hs1 : ∀ j ∈ sl1, j ∈ vs1) (g1 : Good mg w1) (n : Nm w1 σ τ) (y : Yld mg J w1 ts) (hD : w1.H D = none)
    (q : (comp2A gt fc fi1 gt1 fc1 fe vs1 (wipeT τ vs) ts [] w1.M).all fun ys M' => ∀ w2 v, Ext w1 w2 → Good mg w2 → w2.M = M' → Rep w2 v (.lst ys) → Fr mg w1 w2 v (.lst ys) → Q v w2.H) :
    ∃ W : Nat → Nat → Hp → Prop, (∃ m, W 0 m (upd w1.H D (.lst []))) ∧ ∀ i m H, W i m H →
      (J.stop i H ∧ Q (.ref D) H) ∨ (J.go i H ∧ ∃ Nx : Hp → Prop, (∀ H', Nx H' → ∃ m', m' < m ∧ W (i + 1) m' H') ∧ ∀ x H', J.yld i H x H' → tG mg sl gt x (L2.wipe σ vs) H' fun σ2 H2 => L2.wipe σ2 vs = L2.wipe σ vs ∧ tT mg fc σ2 H2 fun b H3 =>
        if b = true then tI mg fi1 σ2 H3 fun J1 H4 => ∃ W1 : Nat → Nat → Hp → Prop, (∃ m, W1 0 m H4) ∧ ∀ j k H, W1 j k H →
          (J1.stop j H ∧ Nx H) ∨ (J1.go j H ∧ ∃ Nx1 : Hp → Prop, (∀ H', Nx1 H' → ∃ k', k' < k ∧ W1 (j + 1) k' H') ∧ ∀ x H', J1.yld j H x H' → tG mg sl1 gt1 x (L2.wipe σ2 vs1) H' fun σ3 H5 => L2.wipe σ3 vs1 = L2.wipe σ2 vs1 ∧ tT mg fc1 σ3 H5 fun b H6 =>
            if b = true then tE mg false fe σ3 H6 fun y H7 => ∃ acc, H7 D = some (.lst acc) ∧ acc.length < sizeLine ∧ Nx1 (upd H7 D (.lst (acc ++ [y]))) else Nx1 H6)
        else Nx H3) := by
  let Fin : List T → Sto → Prop := fun ys M' => ∀ w2 v, Ext w1 w2 → Good mg w2 → w2.M = M' → Rep w2 v (.lst ys) → Fr mg w1 w2 v (.lst ys) → Q v w2.H
  refine ⟨fun i m H => m = ts.length - i ∧ i ≤ ts.length ∧ AccSt mg w1 D H fun acc M => (comp2A gt fc fi1 gt1 fc1 fe vs1 (wipeT τ vs) (ts.drop i) acc M).all Fin,
    ⟨ts.length, by simp, Nat.zero_le _, w1.hold D (.lst []), [], [], rfl, g1.hold hD, Ext.hold g1 hD, .inr rfl, upd_same, .nil, by rw [List.drop_zero]; exact q⟩, ?_⟩
  rintro i m H ⟨rfl, hi, wi, accV, accT, rfl, gi, xi, RD, eD, rl, q'⟩
  by_cases hlt : i < ts.length
  · refine .inr ⟨y.go i wi xi.toKF gi hlt, fun H' => i + 1 ≤ ts.length ∧ AccSt mg w1 D H' fun acc M => (comp2A gt fc fi1 gt1 fc1 fe vs1 (wipeT τ vs) (ts.drop (i + 1)) acc M).all Fin, fun H' ⟨h, r⟩ => ⟨ts.length - (i + 1), by omega, rfl, h, r⟩, fun x H' hy => ?_⟩
    rw [List.drop_eq_getElem_cons hlt] at q'
    obtain ⟨w2, rfl, x2, g2, m2, r2⟩ := y.yl i wi x H' xi.toKF gi hy _ (List.getElem?_eq_getElem hlt)
    rw [← m2] at q'
    refine ⟨w2, wipeT τ vs, _, rfl, g2, (n.wipe vs).mono (xi.trans x2), r2, Res.all_mono (fun τ1 M1 q w3 σ2 x3 g3 e3 n3 k3 => ?_) (Res.all_bind q')⟩
    subst e3
    refine ⟨wipe_eq hs k3, w3, τ1, rfl, g3, n3, Res.all_mono (fun b M2 q w4 x4 g4 e4 => ?_) (Res.all_bind q)⟩
    subst e4
    have xx := (x2.trans x3).trans x4
    cases b with
    | false => exact ⟨hlt, w4, accV, accT, rfl, g4, xi.trans xx, xx.R D RD, (xx.Rk D RD).trans eD, rl.mono xx, q⟩
    | true =>
      refine ⟨w4, τ1, rfl, g4, n3.mono x4, Res.all_mono (fun us M3 q w5 J1 x5 g5 e5 y1 => ?_) (Res.all_bind q)⟩
      subst e5
      have xx5 := xx.trans x5
      refine ⟨fun j k H => k = us.length - j ∧ j ≤ us.length ∧ AccS2 mg w1 w5 D H fun acc M => (comp1A gt1 fc1 fe (wipeT τ1 vs1) (us.drop j) acc M).all fun acc' M' => (comp2A gt fc fi1 gt1 fc1 fe vs1 (wipeT τ vs) (ts.drop (i + 1)) acc' M').all Fin,
        ⟨us.length, by simp, Nat.zero_le _, w5, accV, accT, rfl, g5, xi.trans xx5, .refl w5, xx5.R D RD, (xx5.Rk D RD).trans eD, rl.mono xx5, by rw [List.drop_zero]; exact Res.all_bind q⟩, ?_⟩
      rintro j k H ⟨rfl, hj, wj, bV, bT, rfl, gj, xij, xj, RDj, eDj, rlj, qj⟩
      by_cases hltj : j < us.length
      · refine .inr ⟨y1.go j wj xj gj hltj, fun H' => j + 1 ≤ us.length ∧ AccS2 mg w1 w5 D H' fun acc M => (comp1A gt1 fc1 fe (wipeT τ1 vs1) (us.drop (j + 1)) acc M).all fun acc' M' => (comp2A gt fc fi1 gt1 fc1 fe vs1 (wipeT τ vs) (ts.drop (i + 1)) acc' M').all Fin, fun H' ⟨h, r⟩ => ⟨us.length - (j + 1), by omega, rfl, h, r⟩, fun x H' hy => ?_⟩
        rw [List.drop_eq_getElem_cons hltj] at qj
        obtain ⟨w6, rfl, x6, g6, m6, r6⟩ := y1.yl j wj x H' xj gj hy _ (List.getElem?_eq_getElem hltj)
        rw [← m6] at qj
        refine ⟨w6, wipeT τ1 vs1, _, rfl, g6, ((((n3.mono x4).mono x5).kept xj.toKeep).wipe vs1).mono x6, r6, Res.all_mono (fun τ3 M4 q w7 σ3 x7 g7 e7 n7 k7 => ?_) (Res.all_bind qj)⟩
        subst e7
        refine ⟨wipe_eq hs1 k7, w7, τ3, rfl, g7, n7, Res.all_mono (fun b M5 q w8 x8 g8 e8 => ?_) (Res.all_bind q)⟩
        subst e8
        have x68 := (x6.trans x7).trans x8
        cases b with
        | false => exact ⟨hltj, w8, bV, bT, rfl, g8, xij.trans x68, xj.trans x68.toKF, x68.R D RDj, (x68.Rk D RDj).trans eDj, rlj.mono x68, q⟩
        | true =>
          refine ⟨w8, τ3, rfl, g8, n7.mono x8, Res.all_mono (fun t M6 q w9 v x9 g9 e9 r9 _ => ?_) (Res.all_bind q)⟩
          subst e9
          have x69 := x68.trans x9
          have RD9 := x69.R D RDj
          split at q
          · rename_i hsz
            refine ⟨bV, (x69.Rk D RDj).trans eDj, by rw [line_eq, rlj.length]; exact hsz, hltj, w9.wrR D (.lst (bV ++ [v])), bV ++ [v], bT ++ [t], rfl, g9.wrR RD9, Ext.wrR (xij.trans x69) g9 g1 hD RD9, ?_, RD9, upd_same, ?_, q⟩
            · exact (xj.trans x69.toKF).trans (KF.wrR RD9 fun o u z => by rw [(x69.Rk D RDj).trans eDj] at z; cases z)
            · exact ((rlj.mono x69).append (.cons r9 .nil)).kept (Keep.wrR RD9)
          · exact q.elim
      · have e : us.drop j = [] := List.drop_of_length_le (by omega)
        rw [e] at qj
        exact .inl ⟨y1.stop j wj xj gj (by omega), hlt, wj, bV, bT, rfl, gj, xij, RDj, eDj, rlj, qj⟩
  · have e : ts.drop i = [] := List.drop_of_length_le (by omega)
    rw [e] at q'
    refine .inl ⟨y.stop i wi xi.toKF gi (by omega), ?_⟩
    have q' : Fin accT wi.M := q'
    have hn : (wi.cut D w1.R).H D = none := if_pos rfl
    have gc := gi.cut xi g1 hD RD
    have rc : RepL (wi.cut D w1.R) accV accT := rl.kept (Keep.cut RD xi.R)
    have q' := q' ((wi.cut D w1.R).put D (.lst accV)) (.ref D) ((Ext.cut xi g1 hD RD).trans (Ext.put gc hn)) (gc.put hn) rfl (put_lst gc hn rc) ⟨wi.cut D w1.R, D, rfl, Ext.cut xi g1 hD RD, gc, hn, .inl ⟨accV, accT, rfl, rc, rfl⟩⟩
    rw [cut_put eD] at q'
    exact q'
theorem lc2_imp {Q : VK} {σ : L2.St} {H : Hp} (hs : ∀ j ∈ sl, j ∈ vs) (hs1 : ∀ j ∈ sl1, j ∈ vs1) (h : tE mg true (eComp2 fi gt fc fi1 gt1 fc1 fe vs vs1) σ H Q) : tLc2 (tI mg fi) (tG mg sl gt) (tT mg fc) (tI mg fi1) (tG mg sl1 gt1) (tT mg fc1) (tE mg false fe) vs vs1 σ H Q := by
  obtain ⟨w, τ, rfl, g, n, q⟩ := h
  refine ⟨w, τ, rfl, g, n, Res.all_mono (fun ts M' q w1 J x1 g1 e1 y D hD => ?_) (Res.all_bind q)⟩
  subst e1
  refine lc2_turns hs hs1 g1 (n.mono x1) y hD (Res.all_mono (fun ys M2 q w2 v x2 g2 e2 r2 f2 => ?_) (Res.all_bind q))
  exact q w2 v (x1.trans x2) g2 e2 r2 fun _ => f2.ext x1
end
section
variable {X : Cx} {elt tg iter tg1 iter1 : Expr} {ifs ifs1 : List Expr} {scope : Scope} {pos : Pos} {fi fi1 : Ev (List T)} {gt gt1 : Tg} {fc fc1 : Ev Bool} {fe : Ev T} {sl sl1 : List Nat} {F : Bool}
theorem se_comp2 (own : List (Str × Nat)) (vs1 : List Nat) (hN : X.N.Nodup) (hi : SI X tg iter fi) (hg : ∀ (s : Shared) (H : Hp) (C : Addr) (cl : List (Str × Addr)) (fp : List Addr), SG sl (X.blk s H scope (compEnvC scope cl C X.env) fp) tg gt)
    (ht : ∀ (s : Shared) (H : Hp) (C : Addr) (cl : List (Str × Addr)) (fp : List Addr), STs (X.blk s H scope (compEnvC scope cl C X.env) fp) ifs fc)
    (hi1 : ∀ (s : Shared) (H : Hp) (C : Addr) (cl : List (Str × Addr)) (fp : List Addr), SI (X.blk s H scope (compEnvC scope cl C X.env) fp) tg1 iter1 fi1)
    (hg1 : ∀ (s : Shared) (H : Hp) (C : Addr) (cl : List (Str × Addr)) (fp : List Addr), SG sl1 (X.blk s H scope (compEnvC scope cl C X.env) fp) tg1 gt1)
    (ht1 : ∀ (s : Shared) (H : Hp) (C : Addr) (cl : List (Str × Addr)) (fp : List Addr), STs (X.blk s H scope (compEnvC scope cl C X.env) fp) ifs1 fc1)
    (he : ∀ (s : Shared) (H : Hp) (C : Addr) (cl : List (Str × Addr)) (fp : List Addr), SE false (X.blk s H scope (compEnvC scope cl C X.env) fp) elt fe)
    (ok : blkC X.N X.env.scope scope own = true := by decide +kernel) (hsl : ∀ j ∈ sl, j ∈ own.map (·.2) := by decide) (hsl1 : ∀ j ∈ sl1, j ∈ vs1 := by decide) (hv : ∀ i ∈ vs1, i ∈ own.map (·.2) := by decide) (hc : X.calm = true := by rfl) (hs : ∀ x, foldedSetIterable iter X.env x = pure x := by intro _; rfl) (hs1 : ∀ env x, foldedSetIterable iter1 env x = pure x := by intro _ _; rfl) :
    SE true X (.ListComp elt [⟨tg, iter, ifs, 0⟩, ⟨tg1, iter1, ifs1, 0⟩] scope pos) (eComp2 fi gt fc fi1 gt1 fc1 fe (own.map (·.2)) vs1) :=
  pe_imp (pe_lc2 (g := tG X.mg sl gt) (tt := tT X.mg fc) (wi1 := tI X.mg fi1) (g1 := tG X.mg sl1 gt1) (tt1 := tT X.mg fc1) (te := tE X.mg false fe) hc hN hi (blkOk_by ok) hv hg ht hi1 hg1 ht1 he hs hs1) fun σ H Q h => lc2_imp hsl hsl1 h
end
end TL
end
section
set_option Elab.async false
set_option linter.all false
set_option maxRecDepth 100000
/-! TL34: {k: v for .., .. in x.items()}, the dict locked. -/
namespace TL
open PySem PySem.Spec PyProof.Rows L2
def itmL : List Key → List T → List T
  | k :: ks, t :: ts => .tup [ofK k, t] :: itmL ks ts
  | _, _ => []
theorem itmL_get : ∀ {ks : List Key} {ts : List T}, ks.length = ts.length → ∀ j : Nat, (itmL ks ts)[j]? = (match ks[j]?, ts[j]? with | some k, some t => some (T.tup [ofK k, t]) | _, _ => none)
  | [], [], _, j => by simp [itmL]
  | k :: ks, t :: ts, h, 0 => rfl
  | k :: ks, t :: ts, h, j + 1 => by
    show (itmL ks ts)[j]? = _
    rw [itmL_get (by simpa using h) j]
    rfl
theorem itmL_length : ∀ {ks : List Key} {ts : List T}, ks.length = ts.length → (itmL ks ts).length = ts.length
  | [], [], _ => rfl
  | k :: ks, t :: ts, h => by show (itmL ks ts).length + 1 = ts.length + 1; rw [itmL_length (by simpa using h)]
theorem yld_items {mg : Str → Option Value} {w : Wd} {d : Addr} {o : Obj} {kvs : List (Key × V)} {ts : List T} (h : w.H d = some (.frz o (.dK kvs))) (l : RepL w (kvs.map Prod.snd) ts) : Yld mg (Iti d o kvs) w (itmL (kvs.map Prod.fst) ts) := by
  have hl : (kvs.map Prod.fst).length = ts.length := by rw [List.length_map, ← l.length, List.length_map]
  have hl2 : (itmL (kvs.map Prod.fst) ts).length = kvs.length := by rw [itmL_length hl, ← hl, List.length_map]
  refine ⟨fun i w1 x1 g1 hi => ⟨x1.frz d _ _ h, by rw [hl2] at hi; exact hi⟩, fun i w1 x H' x1 g1 hy t ht => ?_, fun i w1 x1 g1 hi => ⟨x1.frz d _ _ h, by rw [hl2] at hi; exact hi⟩⟩
  obtain ⟨T0, k, v, e, rfl, hp, rfl⟩ := hy
  rw [itmL_get hl] at ht
  have e1 : (kvs.map Prod.fst)[i]? = some k := by rw [List.getElem?_map, e]; rfl
  have e2 : (kvs.map Prod.snd)[i]? = some v := by rw [List.getElem?_map, e]; rfl
  cases ht0 : ts[i]? with
  | none => rw [e1, ht0] at ht; cases ht
  | some u =>
    rw [e1, ht0] at ht
    cases ht
    obtain ⟨v', hv, r⟩ := l.get ht0
    rw [e2] at hv
    cases hv
    exact yld_pair (w1 := w1) g1 hp (ofK_rep k) (r.kept x1.toKeep)
def iItm (i : Nat) : Ev (List T) := fun τ M => match τ[i]? with
  | some (some (.dic ks ts)) => .ok (itmL ks ts) M
  | _ => .stuck
section
variable {X : Cx} {kx vx : Expr} {ifs : List Expr} {elts : List Expr} {kk : Nat} {tpos : Pos} {scope : Scope} {pos apos cpos p1 : Pos} {gt : Tg} {fc : Ev Bool} {fk fv : Ev T} {sl : List Nat}
theorem se_dcompI {i : Nat} {x : Str} (own : List (Str × Nat)) (hN : X.N.Nodup) (hg : ∀ (s : Shared) (H : Hp) (C : Addr) (cl : List (Str × Addr)) (fp : List Addr), SG sl (X.blk s H scope (compEnvC scope cl C X.env) fp) (.Tuple elts kk tpos) gt)
    (ht : ∀ (s : Shared) (H : Hp) (C : Addr) (cl : List (Str × Addr)) (fp : List Addr), STs (X.blk s H scope (compEnvC scope cl C X.env) fp) ifs fc) (hk : ∀ (s : Shared) (H : Hp) (C : Addr) (cl : List (Str × Addr)) (fp : List Addr), SE false (X.blk s H scope (compEnvC scope cl C X.env) fp) kx fk)
    (he : ∀ (s : Shared) (H : Hp) (C : Addr) (cl : List (Str × Addr)) (fp : List Addr), SE false (X.blk s H scope (compEnvC scope cl C X.env) fp) vx fv)
    (ok : blkC X.N X.env.scope scope own = true := by decide +kernel) (hx : X.N[i]? = some x := by rfl) (hv : Vis X.env.scope x := by first | exact .inl rfl | exact .inr (.inl rfl) | exact .inr (.inr rfl)) (hd : (x == ("__debug__" : Str)) = false := by decide) (hcd : (x == ("__classdict__" : Str)) = false := by decide)
    (hbase : attributeBase (.Name x p1) "items" X.env (eval (.Name x p1) X.env) = eval (.Name x p1) X.env := by rfl) (hline : (apos.endLine == cpos.line) = true := by rfl)
    (hsl : ∀ j ∈ sl, j ∈ own.map (·.2) := by decide) (hc : X.calm = true := by rfl) (hs : ∀ y, foldedSetIterable (.Call (.Attribute (.Name x p1) "items" apos) [] [] cpos) X.env y = pure y := by intro _; rfl) :
    SE true X (.DictComp kx vx [⟨.Tuple elts kk tpos, .Call (.Attribute (.Name x p1) "items" apos) [] [] cpos, ifs, 0⟩] scope pos) (eDcomp (iItm i) gt fc fk fv (own.map (·.2))) := by
  have L : PI X (.Tuple elts kk tpos) (.Call (.Attribute (.Name x p1) "items" apos) [] [] cpos) (fun σ H R => ∃ d o kvs, σ[i]? = some (some (.ref d)) ∧ H d = some (.frz o (.dK kvs)) ∧ R (Iti d o kvs) H) :=
    pi_imp (pi_items (pe_var hx hv hd hcd) hbase hline) fun σ H R ⟨d, o, kvs, hl, hf, r⟩ => ⟨_, hl, d, o, kvs, rfl, hf, r⟩
  have P := pe_dc (pos := pos) (g := tG X.mg sl gt) (tt := tT X.mg fc) (tk := tE X.mg false fk) (tv := tE X.mg false fv) hc hN L (blkOk_by ok) hg ht hk he hs
  have K : ∀ (w : Wd) (σ : L2.St) τ Q d o kvs ts, Good X.mg w → Nm w σ τ → σ[i]? = some (some (.ref d)) → w.H d = some (.frz o (.dK kvs)) → RepL w (kvs.map Prod.snd) ts → τ[i]? = some (some (.dic (kvs.map Prod.fst) ts)) → post X.mg true Q w (eDcomp (iItm i) gt fc fk fv (own.map (·.2)) τ w.M) →
      tDc (fun σ H R => ∃ d o kvs, σ[i]? = some (some (.ref d)) ∧ H d = some (.frz o (.dK kvs)) ∧ R (Iti d o kvs) H) (tG X.mg sl gt) (tT X.mg fc) (tE X.mg false fk) (tE X.mg false fv) (own.map (·.2)) σ w.H Q := fun w σ τ Q d o kvs ts g n hl hd rl ht q => by
    refine ⟨d, o, kvs, hl, hd, fun D hD => ?_⟩
    have e1 : iItm i τ w.M = .ok (itmL (kvs.map Prod.fst) ts) w.M := by unfold iItm; rw [ht]
    unfold eDcomp at q
    rw [e1] at q
    have q : post X.mg true Q w ((dcompL gt fc fk fv (wipeT τ (own.map (·.2))) (itmL (kvs.map Prod.fst) ts) [] [] w.M).bind fun r M2 => .ok (.dic r.1 r.2) M2) := q
    refine dc_turns hsl g n (yld_items hd rl) hD (Res.all_mono (fun r M2 q w2 v x2 g2 e2 r2 f2 => ?_) (Res.all_bind q))
    exact q w2 v x2 g2 e2 r2 fun _ => f2
  refine pe_imp (pe_orE (pe_lock P) P) fun σ H Q h => ?_
  obtain ⟨w, τ, rfl, g, n, q⟩ := h
  have hf : (∃ ks ts, τ[i]? = some (some (.dic ks ts))) ∨ iItm i τ w.M = .stuck := by
    unfold iItm
    split
    · rename_i ks ts h; exact .inl ⟨ks, ts, h⟩
    · exact .inr rfl
  rcases hf with ⟨ks, ts, hti⟩ | hf
  · obtain ⟨v, h1, r⟩ := n.at_ i _ hti
    cases r with
    | dic nE dR e nd l =>
      rename_i a kvs
      subst e
      rcases dR with hd | ⟨o, hd⟩
      · refine .inl ⟨a, .dK kvs, hd, True.intro, fun od => ?_⟩
        refine K (w.lk a od kvs) σ τ _ a od kvs ts (g.lk hd nE) (n.mono (Ext.lk g hd nE)) h1 upd_same (l.mono (Ext.lk g hd nE)) hti (Res.all_mono (fun t M' q w1 v x1 g1 e1 r1 f1 => ?_) q)
        have h1 : w1.H a = some (.frz od (.dK kvs)) := x1.frz a _ _ upd_same
        exact ⟨h1, q (w1.ul a kvs) v (Ext.ul g hd nE x1) (g1.ul h1 (notEx_ul g hd nE x1)) e1 (r1.kept (Keep.ul h1)) fun z => (f1 z).ul g hd nE⟩
      · exact .inr (K w σ τ Q a o kvs ts g n h1 hd l hti q)
  · have q : post X.mg true Q w (((iItm i τ w.M).bind fun ts M1 => (dcompL gt fc fk fv (wipeT τ (own.map (·.2))) ts [] [] M1).bind fun r M2 => .ok (.dic r.1 r.2) M2)) := q
    rw [hf] at q
    exact q.elim
end
end TL
end
section
set_option Elab.async false
set_option linter.all false
set_option maxRecDepth 100000
/-! TL35: dict(pairs), d.get(k, x), xs.pop(), list(range(a, b, c)). -/
namespace TL
open PySem PySem.Spec PyProof.Rows L2
/-! ### dict(pairs) -/
def pairKs : List T → Option (List (Key × T))
  | [] => some []
  | .tup [a, t] :: r => match toK a, pairKs r with
    | some k, some l => some ((k, t) :: l)
    | _, _ => none
  | _ => none
def kDictP : List T → Sto → Res T
  | [.lst xs], M => match pairKs xs with
    | some kts => .ok (.dic (mrg [] [] kts).1 (mrg [] [] kts).2) M
    | none => .stuck
  | _, _ => .stuck
theorem pairKs_rep {K : PySem.W.Frag} {w : Wd} : ∀ {xs : List T} {vs : List V} {kts : List (Key × T)}, RepL w vs xs → pairKs xs = some kts →
    ∃ (ps : List Addr) (kvs : List (Key × V)), vs = ps.map V.ref ∧ Paired (fun p kv => SqT K w.H p [kV kv.1, kv.2]) ps kvs ∧ RepK w kvs kts
  | [], _, _, .nil, h => by cases h; exact ⟨[], [], rfl, .nil, rfl, .nil⟩
  | .tup [a, t] :: r, _, _, .cons q l, h => by
    unfold pairKs at h
    split at h
    · rename_i k ll h1 h2
      cases h
      obtain ⟨ps, kvs, e, p, m1, m2⟩ := pairKs_rep (K := K) l h2
      cases q with
      | tup n d rl =>
        cases rl with
        | cons ra rl =>
          cases rl with
          | cons rb rl =>
            cases rl
            have := toK_rep ra h1
            subst this e
            exact ⟨_ :: ps, (k, _) :: kvs, rfl, .cons (.inl (.inl d)) p, by rw [List.map_cons, List.map_cons, m1], .cons rb m2⟩
    · cases h
  | .non :: _, _, _, _, h | .bl _ :: _, _, _, _, h | .int _ :: _, _, _, _, h | .str _ :: _, _, _, _, h | .lst _ :: _, _, _, _, h | .dic _ _ :: _, _, _, _, h | .ref _ :: _, _, _, _, h | .scr _ :: _, _, _, _, h => by cases h
  | .tup [] :: _, _, _, _, h | .tup [_] :: _, _, _, _, h | .tup (_ :: _ :: _ :: _) :: _, _, _, _, h => by cases h
section
variable {X : Cx} {F : Bool} {fs : Ev (List T)} {e o f a b c : Expr} {es : List Expr} {p pos apos cpos : Pos} {fe fo fa fb fc ff : Ev T}
theorem se_dictP (B : Blt X.mg) (ha : SA X (e :: es) fs) (hc : X.calm = true := by rfl) (hg : Gl X "dict" := by rfl)
    (he : starEach (e :: es) X.env = (false, eval e X.env) :: starEach es X.env := by rfl) (hpl : (backTo pos (starEach es X.env)).any (·.1) = false := by rfl) : SE true X (.Call (.Name "dict" p) (e :: es) [] pos) (eA kDictP fs) := by
  refine se_callTy (call_dictP hc) (fun w vs ts Q g r q => ?_) hg B.dict PyProof.Rows.boot_dict (by decide) (by decide) ha he hpl
  unfold kDictP at q
  split at q
  · obtain ⟨v, rfl, r1⟩ := repL1 r
    split at q
    · rename_i kts hk
      cases r1 with
      | lst n d l =>
        obtain ⟨ps, kvs, e, pp, rk⟩ := pairKs_rep (K := X.K) l hk
        subst e
        obtain ⟨m1, m2, m3⟩ := merge_rep (kvs := []) rk rfl List.nodup_nil .nil
        exact ⟨_, ps, kvs, rfl, .inl d, pp, fun p hp => post_dic q g hp m1 m2 m3⟩
    · exact q.elim
  · exact q.elim
/-! ### d.get(k, x) -/
def isDic (n : Nat) (M : Sto) : Bool := match M.get n with
  | some (.dic _ _) => true
  | _ => false
theorem isDic_at {mg : Str → Option Value} {w : Wd} {n : Nat} (g : Good mg w) (h : isDic n w.M = true) : IsD w.H (w.ρ n) := by
  unfold isDic at h
  split at h
  · rename_i ks ts hm
    obtain ⟨_, _, kvs, e, _⟩ := g.own _ _ hm
    exact .inl ⟨kvs, .of e⟩
  · cases h
def eGet2 (fo fe ff : Ev T) : Ev T := fun τ M => (fo τ M).bind fun o M1 => match o with
  | .dic ks xs => (fe τ M1).bind fun u M2 => (ff τ M2).bind fun z M3 => match toK u with
    | some k => .ok (match lkT k ks xs with
      | some t => t
      | none => z) M3
    | none => .stuck
  | .ref n => if isDic n M1 then (fe τ M1).bind fun u M2 => (ff τ M2).bind fun z M3 => match M3.get n, toK u with
    | some (.dic ks xs), some k => .ok (match lkT k ks xs with
      | some t => t
      | none => z) M3
    | _, _ => .stuck
    else .stuck
  | _ => .stuck
theorem get_imp {w : Wd} {y : V} {u : T} {k : Key} {z : V} {zt : T} {ad : Addr} {kvs : List (Key × V)} {ts : List T} (h : toK u = some k) (r : Rep w y u) (d : Rd w.H ad (.dK kvs)) (l : RepL w (kvs.map Prod.snd) ts) (rz : Rep w z zt) :
    ∃ o, DGet w.H ad y o ∧ Rep w (o.getD z) (match lkT k (kvs.map Prod.fst) ts with | some t => t | none => zt) := by
  rcases lk_val (k := k) l with ⟨v, t', h1, h2, h3⟩ | ⟨h1, h2⟩
  · exact ⟨some v, .inl ⟨_, k, d, toK_rep r h, h1.symm⟩, by rw [h2]; exact h3⟩
  · exact ⟨none, .inl ⟨_, k, d, toK_rep r h, h1.symm⟩, by rw [h2]; exact rz⟩
theorem se_get2 {k : Nat} (hr : Room k X.A) (ho : SE false X o fo) (he : SE false X e fe) (hf : SE false X f ff) (m : M2 X o "get" apos e f cpos := by exact ⟨rfl, rfl, rfl, rfl⟩) : SE false X (.Call (.Attribute o "get" apos) [e, f] [] cpos) (eGet2 fo fe ff) := by
  refine pe_imp (pe_dget2 (by have := hr.un; omega) ho he hf m) fun σ H Q ⟨w, τ, e, g, n, q⟩ => ?_
  subst e
  refine ⟨w, τ, rfl, g, n, Res.all_mono (fun t M' q w1 v x1 g1 e1 r1 _ => ?_) (Res.all_bind q)⟩
  subst e1
  split at q
  · cases r1 with
    | dic n0 d e nd l =>
      subst e
      refine ⟨_, rfl, .inl ⟨_, d⟩, w1, τ, rfl, g1, n.mono x1, Res.all_mono (fun u M2 q w2 y x2 g2 e2 r2 _ => ?_) (Res.all_bind q)⟩
      subst e2
      refine ⟨w2, τ, rfl, g2, (n.mono x1).mono x2, Res.all_mono (fun z M3 q w3 zv x3 g3 e3 r3 _ => ?_) (Res.all_bind q)⟩
      subst e3
      obtain ⟨d', n'⟩ := (x2.trans x3).keepD _ _ d n0
      have q := post_ext q ((x1.trans x2).trans x3)
      split at q
      · rename_i kk hk
        obtain ⟨ov, h1, h2⟩ := get_imp hk (r2.mono x3) d' (l.mono (x2.trans x3)) r3
        exact ⟨ov, h1, post_ok q g3 h2⟩
      · exact q.elim
  · rename_i nn
    cases r1 with
    | ref n0 hn =>
      split at q
      · rename_i hd
        refine ⟨_, rfl, isDic_at g1 hd, w1, τ, rfl, g1, n.mono x1, Res.all_mono (fun u M2 q w2 y x2 g2 e2 r2 _ => ?_) (Res.all_bind q)⟩
        subst e2
        refine ⟨w2, τ, rfl, g2, (n.mono x1).mono x2, Res.all_mono (fun z M3 q w3 zv x3 g3 e3 r3 _ => ?_) (Res.all_bind q)⟩
        subst e3
        have q := post_ext q ((x1.trans x2).trans x3)
        split at q
        · rename_i ks ts kk hm hk
          obtain ⟨_, _, kvs, ea, ek, _, l⟩ := g3.own _ _ hm
          subst ek
          obtain ⟨ov, h1, h2⟩ := get_imp hk (r2.mono x3) (.of ea) l r3
          rw [(x2.trans x3).rho _ hn] at h1
          exact ⟨ov, h1, post_ok q g3 h2⟩
        · exact q.elim
      · exact q.elim
  · exact q.elim
/-! ### xs.pop() -/
def kPop : T → Sto → Res T
  | .ref n, M => match M.get n with
    | some (.lst us) => match us[us.length - 1]? with
      | some t => .ok t (M.set n (.lst us.dropLast))
      | none => .stuck
    | _ => .stuck
  | _, _ => .stuck
theorem RepL.dropLast {w : Wd} : ∀ {vs : List V} {ts : List T}, RepL w vs ts → RepL w vs.dropLast ts.dropLast := fun {vs ts} r => by
  rw [List.dropLast_eq_take, List.dropLast_eq_take, r.length]
  exact r.take _
theorem se_pop (ho : SE false X o fo) (hbase : attributeBase o "pop" X.env (eval o X.env) = eval o X.env := by rfl)
    (hline : (apos.endLine == cpos.line) = true := by rfl) :
    SE false X (.Call (.Attribute o "pop" apos) [] [] cpos) (e1 kPop fo) := by
  refine pe_imp (pe_bm0 PySem.F.plainAttrs_list PySem.F.slot_list_pop PySem.F.type_list_pop mt_pop ho hbase hline) fun σ H Q ⟨w, τ, e, g, n, q⟩ => ?_
  subst e
  refine ⟨w, τ, rfl, g, n, Res.all_mono (fun t M' q w1 v x1 g1 e1 r1 _ => ?_) (Res.all_bind q)⟩
  subst e1
  unfold kPop at q
  split at q
  · split at q
    · rename_i us hm
      split at q
      · rename_i t ht
        cases r1 with
        | ref n hn =>
          obtain ⟨_, _, ws, e, l⟩ := g1.own _ _ hm
          obtain ⟨x2, g2⟩ := wr_lst (ts := us) g1 hm l.dropLast
          obtain ⟨v, hv, rv⟩ := l.get ht
          refine ⟨.inl ⟨rfl, _, .of e⟩, _, ws, v, rfl, rfl, e, by rw [l.length]; exact hv, ?_⟩
          exact post_ext q x1 _ v x2 g2 rfl (rv.mono x2) fun z => nomatch z
      · exact q.elim
    · exact q.elim
  · exact q.elim
/-! ### list(range(a, b, c)) -/
def rgCV (i c : Int) (n : Nat) : List V := (List.range n).map fun j => V.int (i + (j : Nat) * c)
theorem vals_rgC {a c : Int} {n : Nat} {acc : Array Value} (h : ItemsOf (fun i v => ∃ t, v = .int (a + i * c) t) acc n) : Vals (rgCV a c n) acc.toList := by
  have e : acc.toList.length = n := by rw [Array.length_toList]; exact h.1
  unfold rgCV
  rw [← e]
  refine vals_of_get acc.toList _ fun j u hj => ?_
  obtain ⟨t, rfl⟩ := h.2 j u (by rw [← hj, Array.getElem?_toList])
  exact ⟨t, rfl⟩
def tLstRg3 (ta : TA) : TE := fun σ H Q => ta σ H fun vs H1 => ∃ (i j c : Int) (n : Nat), vs = [.int i, .int j, .int c] ∧ RgC i j c n ∧ n ≤ 2 ^ 24 ∧ ∀ q, H1 q = none → Q (.ref q) (upd H1 q (.lst (rgCV i c n)))
theorem pe_listRg3 {ta : TA} {p2 q2 : Pos} (hc : X.calm = true) (hgl : Gl X "list") (hml : X.mg "list" = none) (hg : Gl X "range") (hm : X.mg "range" = none) (ha : PA X [a, b, c] ta)
    (na : starEach [.Call (.Name "range" p2) [a, b, c] [] q2] X.env = (false, eval (.Call (.Name "range" p2) [a, b, c] [] q2) X.env) :: starEach [] X.env := by rfl)
    (hs : starEach [a, b, c] X.env = (false, eval a X.env) :: starEach [b, c] X.env := by rfl) (hpl : (backTo q2 (starEach [b, c] X.env)).any (·.1) = false := by rfl) :
    PE X (.Call (.Name "list" p) [.Call (.Name "range" p2) [a, b, c] [] q2] [] pos) (tLstRg3 ta) := by
  refine ⟨fun pins s σ H Q I h => ?_⟩
  refine Call_ (ld_blt I hgl hml boot_list (PyProof.Rows.callWith_type1 (args_cons (thn (Q := fun x s' => ∃ r i j k t u v n H', x = .ref r ∧ IsRange s'.heap r i j k t u v ∧ Inv X pins σ H' s' ∧ RgC i j k n ∧ n ≤ 2 ^ 24 ∧ ∀ q, H' q = none → Q (.ref q) (upd H' q (.lst (rgCV i k n)))) ?_ fun x s1 ⟨r, i, j, k, t, u, v, n, H1, ex, hr, I1, ok, hn, q⟩ => args_nil ?_) na) na))
  · refine Call_ (ld_blt I hg hm boot_range (PyProof.Rows.callWith_type1 (thn (ha.run q2 pins s σ H _ I h) fun us s1 ⟨vs, H1, I1, r1, q1⟩ => ?_) hs hpl))
    obtain ⟨i, j, k, n, e, ⟨c0, c1, c2, c3⟩, hn, q⟩ := q1
    subst e
    cases r1 with
    | cons r rr =>
      cases rr with
      | cons r' rr =>
        cases rr with
        | cons r'' rr =>
          cases rr
          obtain ⟨t, rfl⟩ := r
          obtain ⟨t', rfl⟩ := r'
          obtain ⟨t'', rfl⟩ := r''
          refine call_range_3 c0 ?_ (.inl (PyProof.noPylong_small c1))
          have I2 : Inv X pins σ H1 { s1 with heap := s1.heap.push { cls := .type "range", data := .fields #[.int i t, .int j t', .int k t''] } } := I1.kept (t' := s1.toks) fun b o e => Heap.get?_push_of_some _ e
          exact ⟨_, i, j, k, t, t', t'', n, H1, rfl, IsRange.new .., I2, ⟨c0, c1, c2, c3⟩, hn, q⟩
  · subst ex
    obtain ⟨c0, c1, c2, c3⟩ := ok
    refine call_list_range (n := n) (I1.ok.hd hc) hr c2 c3 hn fun h' tk acc c' hk e' hi => ?_
    refine ⟨.ref s1.heap.objs.size, upd H1 s1.heap.objs.size (.lst (rgCV i k n)), I1.laid hk (Nat.le_refl _) (show ObjOk X.prog X.w _ _ _ (.lst (rgCV i k n)) from ⟨?_, acc.toList, c', vals_rgC hi, ?_⟩), rfl, q _ (I1.hok.fresh (Nat.le_refl _))⟩
    · unfold rgCV; rw [List.length_map, List.length_range, sizeLine_eq]; omega
    · rw [Array.toArray_toList]; exact e'
def eLrg3 (f g h : Ev T) : Ev T := fun τ M => (f τ M).bind fun t M1 => (g τ M1).bind fun u M2 => (h τ M2).bind fun v M3 => match t, u, v with
  | .int i, .int j, .int c => if c ≠ 0 ∧ c.natAbs < 1073741824 ∧ Builtin.Range.small i j c = true ∧ 0 ≤ Builtin.Range.rangeSize i j c ∧ Builtin.Range.rangeSize i j c ≤ 16777216 then .ok (.lst (rgC i c (Builtin.Range.rangeSize i j c).toNat)) M3 else .stuck
  | _, _, _ => .stuck
theorem rgCV_rep {w : Wd} (i c : Int) (n : Nat) : RepL w (rgCV i c n) (rgC i c n) := by
  have h := RepL.ints (w := w) ((List.range n).map fun j => i + (j : Nat) * c)
  rw [List.map_map, List.map_map] at h
  exact h
theorem se_listRg3 {p2 q2 : Pos} (B : Blt X.mg) (ha : SE false X a fa) (hb : SE false X b fb) (hcc : SE false X c fc) (hc : X.calm = true := by rfl) (hg : Gl X "list" := by rfl) (hg2 : Gl X "range" := by rfl) (hs : starEach [a, b, c] X.env = (false, eval a X.env) :: starEach [b, c] X.env := by rfl)
    (hs2 : starEach [b, c] X.env = (false, eval b X.env) :: starEach [c] X.env := by rfl) (hs3 : starEach [c] X.env = (false, eval c X.env) :: starEach [] X.env := by rfl) (hpl : (backTo q2 (starEach [b, c] X.env)).any (·.1) = false := by rfl)
    (na2 : starEach [.Call (.Name "range" p2) [a, b, c] [] q2] X.env = (false, eval (.Call (.Name "range" p2) [a, b, c] [] q2) X.env) :: starEach [] X.env := by rfl) : SE true X (.Call (.Name "list" p) [.Call (.Name "range" p2) [a, b, c] [] q2] [] pos) (eLrg3 fa fb fc) := by
  refine pe_imp (pe_listRg3 hc hg B.list hg2 B.range (pa_cons ha (pa_cons hb (pa_cons hcc pa_nil hs3) hs2) hs) na2 hs hpl) fun σ H Q ⟨w, τ, e, g, n, q⟩ => ?_
  subst e
  refine ⟨w, τ, rfl, g, n, Res.all_mono (fun t M' q w1 v x1 g1 e1 r1 _ => ?_) (Res.all_bind q)⟩
  subst e1
  refine ⟨w1, τ, rfl, g1, n.mono x1, Res.all_mono (fun u M2 q w2 z x2 g2 e2 r2 _ => ?_) (Res.all_bind q)⟩
  subst e2
  refine ⟨w2, τ, rfl, g2, (n.mono x1).mono x2, Res.all_mono (fun y M3 q w3 z3 x3 g3 e3 r3 _ => ?_) (Res.all_bind q)⟩
  subst e3
  split at q
  · split at q
    · rename_i hj
      cases (r1.mono x2).mono x3
      cases r2.mono x3
      cases r3
      exact ⟨_, _, _, _, rfl, ⟨hj.1, hj.2.1, hj.2.2.1, by omega⟩, by omega, fun p hp => post_lst (post_ext q ((x1.trans x2).trans x3)) g3 hp (rgCV_rep _ _ _)⟩
    · exact q.elim
  · exact q.elim
end
end TL
end
section
set_option Elab.async false
set_option linter.all false
set_option maxRecDepth 100000
/-! TL36: sum(lists, start). -/
namespace PySem
open Sem (wp)
namespace SumL
theorem args_sum2 (a b : Value) : argsOk "sum" ⟨[a, b], []⟩ := by unfold argsOk; kernel_rfl
def catA (st : Array Value) (rows : Nat → Array Value) : Nat → Array Value
  | 0 => st
  | i + 1 => catA st rows i ++ rows i
section
variable {prog : Program} {w : World} {A : Around} {R : Result → Shared → Prop} {I : Addr} {fp wr : List Addr} {n : Nat} {P : Nat → Value → Prop} {St : Nat → Heap → Prop}
theorem code_loop (W : Walks prog w A.in1 I fp wr n P St) (as : Nat → Addr) (st : Array Value) (rows : Nat → Array Value) (hval : ∀ i v, P i v → v = .ref (as i)) (S : Addr) (hSf : S ∉ fp)
    (ha : ∀ j, j < n → as j ∉ wr ∧ as j ≠ S) (hsz : ∀ i, i ≤ n → (catA st rows i).size ≤ sizeLine) (hal : ∀ i h, St i h → ∀ b ∈ wr, ∃ o, h.get? b = some o) :
    ∀ (k i : Nat) (s : Shared) (T : Addr) (c : Nat), n - i = k → i ≤ n → St i s.heap → s.heap.get? S = some { cls := .type "list", dict := none, data := .seq #[.ref T] c, slots := #[] } →
    s.heap.PlainList T (catA st rows i) → T ∉ wr → T ≠ S → (∀ j, j < n → s.heap.PlainList (as j) (rows j)) →
    (∀ h' tk T', (∀ b o, b ∉ wr → b ≠ S → s.heap.get? b = some o → h'.get? b = some o) → h'.PlainList T' (catA st rows n) → (i = n → T' = T) → (i < n → S < T') → R (.ok (.ret (.ref T'))) { s with heap := h', toks := tk }) →
    codeAny (model prog w) A (.builtin "sum.loop" ⟨[.ref I, .ref S, rawInt 2, rawInt 0], []⟩) R s := by
  have hSw : S ∉ wr := fun h => hSf (W.sub _ h)
  intro k
  induction k with
  | zero =>
    intro i s T c hk hi hst hS hT hTw hTS hrows hR
    have hin : i = n := by omega
    subst hin
    refine codeAny_builtin F.entry_sum_loop ?_
    rw [Around.under_plainId F.plain_sum_loop _]
    show wpAny _ A.in1 (seqItems? (.ref S) >>= _) _ _ s
    refine wpAny_bind (wpAny_seqItems hS rfl ?_)
    show wpAny _ A.in1 (tryCatch (pyNext (.ref I)) _ >>= _) _ _ s
    refine wpAny_bind (wpAny_tryCatch (W.done s _ _ hst fun h' tk hk' => ?_))
    exact wpAny_pure (hR h' tk T (fun b o hbw _ e => hk' b o hbw e) (hT.at fun o e => hk' T o hTw e) (fun _ => rfl) fun h => absurd h (Nat.lt_irrefl _))
  | succ k ih =>
    intro i s T c hk hi hst hS hT hTw hTS hrows hR
    have hlt : i < n := by omega
    refine codeAny_builtin F.entry_sum_loop ?_
    rw [Around.under_plainId F.plain_sum_loop _]
    show wpAny _ A.in1 (seqItems? (.ref S) >>= _) _ _ s
    refine wpAny_bind (wpAny_seqItems hS rfl ?_)
    show wpAny _ A.in1 (tryCatch (pyNext (.ref I)) _ >>= _) _ _ s
    refine wpAny_bind (wpAny_tryCatch (W.item i s _ _ hlt hst fun v h' tk hP hst' hk' => ?_))
    have := hval i v hP
    subst this
    have hS' := hk' S _ hSw hS
    obtain ⟨n1, hT'⟩ := hT.at fun o e => hk' T o hTw e
    obtain ⟨n2, hq'⟩ := (hrows i hlt).at fun o e => hk' (as i) o (ha i hlt).1 e
    show wpAny _ A.in1 ((holding [Value.ref (as i)] (binaryOp .Add (.ref T) (.ref (as i)))).attempt >>= _) _ _ _
    refine wpAny_bind (wpAny_attempt (wpAny_holding (PySem.P.add_list (n := n1) (n2 := n2) hT' hq' ?_ (by have := hsz (i + 1) hlt; rw [show catA st rows (i + 1) = catA st rows i ++ rows i from rfl, Array.size_append] at this; exact this))))
    have hlS : S < h'.objs.size := Heap.lt_size hS'
    have hS1 := Heap.get?_push_of_some { cls := .type "list", data := .seq (catA st rows i ++ rows i) } hS'
    show wpAny _ A.in1 (updateSeq S (fun _ => #[.ref h'.objs.size]) >>= _) _ _ _
    refine wpAny_bind ?_
    refine wpAny_updateSeq hS1 rfl ?_
    have hS2 := Heap.get?_update_self (Obj.mapSeq fun _ => #[Value.ref h'.objs.size]) hS1 rfl
    refine wpAny_bind (wpAny_letGo ?_)
    refine wpAny_bind ?_
    have keep : ∀ b o, b ≠ S → (h'.push { cls := .type "list", data := .seq (catA st rows i ++ rows i) }).get? b = some o →
        (((h'.push { cls := .type "list", data := .seq (catA st rows i ++ rows i) }).update S (Obj.mapSeq fun _ => #[Value.ref h'.objs.size])).update S (Obj.mapSeq fun _ => #[Value.ref h'.objs.size])).get? b = some o := fun b o hb e =>
      (Heap.get?_update_other _ _ (Ne.symm hb)).trans ((Heap.get?_update_other _ _ (Ne.symm hb)).trans e)
    refine wpAny_updateSeq hS2 rfl (wpAny_pure ⟨plainId_quiet F.plain_sum_loop _, ih (i + 1) _ h'.objs.size _ (by omega) hlt (W.frame _ _ _ hst' fun b hb o e => ?_) (Heap.get?_update_self _ hS2 rfl) ?_ ?_ ?_ ?_ fun h'' tk'' T'' hk'' hT'' e1 e2 => ?_⟩)
    · exact keep b o (fun h => hSf (by rw [← h]; exact hb)) (Heap.get?_push_of_some _ e)
    · exact ⟨_, keep _ _ (Nat.ne_of_gt hlS) (Heap.get?_push_size _ rfl)⟩
    · intro hm
      obtain ⟨o, e⟩ := hal _ _ hst' _ hm
      exact Nat.lt_irrefl _ (Heap.lt_size e)
    · exact Nat.ne_of_gt hlS
    · intro j hj
      exact ((hrows j hj).at fun o e => hk' _ o (ha j hj).1 e).at fun o e => keep _ o (ha j hj).2 (Heap.get?_push_of_some _ e)
    · refine hR h'' tk'' T'' (fun b o hbw hbS e => hk'' b o hbw hbS (keep b o hbS (Heap.get?_push_of_some _ (hk' b o hbw e)))) hT'' (fun h => absurd h (Nat.ne_of_lt hlt)) fun _ => ?_
      by_cases h : i + 1 = n
      · rw [e1 h]; exact hlS
      · exact e2 (by omega)
end
section
variable {prog : Program} {w : World} {A : Around} {E : Value → Shared → Prop} {s : Shared}
theorem call_sumL {l b : Addr} {st : Array Value} {items : Array Value} {as : Nat → Addr} {rows : Nat → Array Value} {Q : Value → Shared → Prop} (hh : A.handled = none) (hl : s.heap.IsList l items) (hb : s.heap.PlainList b st)
    (hi : ∀ (i : Nat) v, items[i]? = some v → v = .ref (as i)) (hr : ∀ j, j < items.size → s.heap.PlainList (as j) (rows j)) (hsz : ∀ i, i ≤ items.size → (catA st rows i).size ≤ sizeLine)
    (hQ : ∀ h' tk T', (∀ b o, s.heap.get? b = some o → h'.get? b = some o) → h'.PlainList T' (catA st rows items.size) → (items.size = 0 → T' = b) → (0 < items.size → s.heap.objs.size ≤ T') → Q (.ref T') { s with heap := h', toks := tk }) :
    wpAny (model prog w) A (call (.builtin "sum") [.ref l, .ref b]) Q E s := by
  refine call_function_tree F.kind_sum F.plain_sum F.entry_sum (args_sum2 _ _) ?_
  unfold Builtin.«sum»
  simp only [List.length_cons, List.length_nil]
  rw [if_neg (by decide)]
  refine wpAny_bind (wpAny_of_eq (show Builtin.Builtins.bindParams "sum" ["start"] 0 { pos := [.ref b] } = pure [some (.ref b)] from rfl) ?_)
  have hlt : l < s.heap.objs.size := by obtain ⟨_, e, _⟩ := hl; exact Heap.lt_size e
  have hbt : b < s.heap.objs.size := by obtain ⟨_, e⟩ := hb; exact Heap.lt_size e
  refine wpAny_bind (wpAny_pyIter_list hl ?_)
  refine wpAny_bind (wpAny_pure ?_)
  simp only [List.forIn_cons, List.forIn_nil]
  have hT : ({ s with heap := s.heap.push { cls := .type "list_iterator", data := .fields #[.ref l, .int 0 0] } } : Shared).TypeIs (.ref b) "list" := by
    obtain ⟨_, e⟩ := hb
    exact ⟨_, Heap.get?_push_of_some _ e, rfl⟩
  refine wpAny_bind (wpAny_bind (wpAny_bind (wpAny_isInstance (T := "list") (b := false) hT F.sub_list_str ?_)))
  simp only [Bool.false_eq_true, if_false]
  refine wpAny_pure (wpAny_bind (wpAny_bind (wpAny_isInstance (T := "list") (b := false) hT F.sub_list_bytes ?_)))
  simp only [Bool.false_eq_true, if_false]
  refine wpAny_pure (wpAny_bind (wpAny_bind (wpAny_isInstance (T := "list") (b := false) hT F.sub_list_bytearray ?_)))
  simp only [Bool.false_eq_true, if_false]
  refine wpAny_pure (wpAny_pure ?_)
  refine wpAny_bind (wpAny_newObj_type ?_)
  have sz : (s.heap.push { cls := .type "list_iterator", data := .fields #[.ref l, .int 0 0] }).objs.size = s.heap.objs.size + 1 := Heap.size_push ..
  have k2 : ∀ c o, s.heap.get? c = some o → ((s.heap.push { cls := .type "list_iterator", data := .fields #[.ref l, .int 0 0] }).push { cls := .type "list", data := .seq #[.ref b] }).get? c = some o := fun c o e => Heap.get?_push_of_some _ (Heap.get?_push_of_some _ e)
  have hS : ((s.heap.push { cls := .type "list_iterator", data := .fields #[.ref l, .int 0 0] }).push { cls := .type "list", data := .seq #[.ref b] }).get? (s.heap.push { cls := .type "list_iterator", data := .fields #[.ref l, .int 0 0] }).objs.size = some { cls := .type "list", data := .seq #[.ref b] } := Heap.get?_push_size _ rfl
  have hne : l ≠ s.heap.objs.size := Nat.ne_of_lt hlt
  have hnew : ∀ c o, s.heap.get? c = some o → c < s.heap.objs.size := fun c o e => Heap.lt_size e
  have far : ∀ c : Addr, c < s.heap.objs.size → c ≠ s.heap.objs.size ∧ c ≠ s.heap.objs.size + 1 := fun c h => ⟨Nat.ne_of_lt h, Nat.ne_of_lt (Nat.lt_succ_of_lt h)⟩
  refine wpAny_pure ⟨plainId_quiet F.plain_sum_loop _, code_loop (Walks.list (A := A.in1) hh s.heap.objs.size l hne items) as st rows hi ((s.heap.push { cls := .type "list_iterator", data := .fields #[.ref l, .int 0 0] }).objs.size) ?_ ?_ hsz ?_ items.size 0 _ b _ rfl (Nat.zero_le _)
    ⟨⟨_, Heap.get?_push_of_some _ (Heap.get?_push_size _ rfl), rfl, rfl⟩, (hl.push _).push _⟩ hS
    (hb.at fun o e => k2 b o e) ?_ ?_ ?_ ?_⟩
  · intro h
    rw [sz] at h
    rcases List.mem_cons.mp h with h | h
    · exact absurd h (Nat.succ_ne_self _)
    · rw [List.mem_singleton] at h; exact (far l hlt).2 h.symm
  · intro j hj
    obtain ⟨_, e⟩ := hr j hj
    have := far _ (Heap.lt_size e)
    exact ⟨fun h => by rw [List.mem_singleton] at h; exact this.1 h, by rw [sz]; exact this.2⟩
  · intro i h st b hb
    rw [List.mem_singleton] at hb
    subst hb
    obtain ⟨⟨o, e, _⟩, _⟩ := st
    exact ⟨o, e⟩
  · rw [List.mem_singleton]; exact (far b hbt).1
  · rw [sz]; exact (far b hbt).2
  · intro j hj
    exact (hr j hj).at fun o e => k2 _ o e
  · intro h' tk T' hk hT' e1 e2
    refine hQ h' tk T' (fun c o e => hk c o ?_ ?_ (k2 c o e)) hT' (fun h => e1 h.symm) fun h => ?_
    · rw [List.mem_singleton]; exact (far c (hnew c o e)).1
    · rw [sz]; exact (far c (hnew c o e)).2
    · have := e2 h; rw [sz] at this; exact Nat.le_of_lt (Nat.lt_of_succ_lt this)
end
end SumL
end PySem
namespace TL
open PySem PySem.Spec PyProof.Rows L2
theorem catA_list {st : Array Value} (rvs : List (List Value)) : ∀ i, i ≤ rvs.length → (SumL.catA st (fun j => (rvs.getD j []).toArray) i).toList = st.toList ++ (rvs.take i).flatten
  | 0, _ => by simp [SumL.catA]
  | i + 1, h => by
    have hi : i < rvs.length := h
    have e : rvs.getD i [] = rvs[i] := by rw [List.getD_eq_getElem?_getD, List.getElem?_eq_getElem hi]; rfl
    show (SumL.catA st (fun j => (rvs.getD j []).toArray) i ++ (rvs.getD i []).toArray).toList = _
    rw [Array.toList_append, catA_list rvs i (by omega), List.take_succ_eq_append_getElem hi, List.flatten_append, e]
    simp
theorem catA_le {st : Array Value} (rvs : List (List Value)) (i : Nat) (h : i ≤ rvs.length) : (SumL.catA st (fun j => (rvs.getD j []).toArray) i).size ≤ st.size + rvs.flatten.length := by
  rw [← Array.length_toList, catA_list rvs i h, List.length_append, Array.length_toList]
  have : (rvs.take i).flatten.length ≤ rvs.flatten.length := by
    conv => rhs; rw [← List.take_append_drop i rvs, List.flatten_append, List.length_append]
    omega
  omega
theorem rows_seq {X : Cx} {pins : List (Addr × Obj)} {σ : L2.St} {H : Hp} {s : Shared} (I : L2.Inv X pins σ H s) : ∀ {ps : List Addr} {rows : List (List V)}, Paired (fun p r => Rd H p (.lst r)) ps rows →
    ∃ rvs : List (List Value), rvs.length = ps.length ∧ (∀ j, j < ps.length → s.heap.PlainList (ps.getD j 0) (rvs.getD j []).toArray) ∧ Vals rows.flatten rvs.flatten
  | [], [], .nil => ⟨[], rfl, fun j h => absurd h (Nat.not_lt_zero _), .nil⟩
  | p :: ps, r :: rows, .cons d l => by
    obtain ⟨us, n, vx, lx, gx⟩ := Rd.seq I d
    obtain ⟨rvs, e, h, v⟩ := rows_seq I l
    refine ⟨us :: rvs, by rw [List.length_cons, List.length_cons, e], fun j hj => ?_, by rw [List.flatten_cons, List.flatten_cons]; exact vx.append v⟩
    cases j with
    | zero => exact ⟨n, gx⟩
    | succ j => exact h j (by rw [List.length_cons] at hj; omega)
def rSumL : List V → Hp → VK → Prop := fun vs H Q => ∃ (a b : Addr) (ps : List Addr) (rows : List (List V)) (st : List V), vs = [.ref a, .ref b] ∧ Rd H a (.lst (ps.map V.ref)) ∧ Rd H b (.lst st) ∧
  Paired (fun p r => Rd H p (.lst r)) ps rows ∧ st.length + rows.flatten.length ≤ sizeLine ∧ (ps = [] → Q (.ref b) H) ∧ (ps ≠ [] → ∀ p, H p = none → Q (.ref p) (upd H p (.lst (st ++ rows.flatten))))
theorem cr_sumL {X : Cx} (hc : X.calm = true) : CallR X (.builtin "sum") rSumL := by
  intro pins s σ H vs us Q I r h
  obtain ⟨a, b, ps, rows, st, rfl, ha, hb, hp, hl, q1, q2⟩ := h
  cases r with
  | cons r1 r =>
    cases r with
    | cons r2 r =>
      cases r
      cases r1
      cases r2
      obtain ⟨as, n, va, la, ga⟩ := Rd.seq I ha
      obtain ⟨bs, m, vb, lb, gb⟩ := Rd.seq I hb
      have ea := refs_at va
      subst ea
      obtain ⟨rvs, e, hr, v⟩ := rows_seq I hp
      have hsz : (ps.map Value.ref).toArray.size = ps.length := by simp
      refine SumL.call_sumL (st := bs.toArray) (as := fun i => ps.getD i 0) (rows := fun j => (rvs.getD j []).toArray) (I.ok.hd hc) ⟨_, ga, rfl, _, rfl⟩ ⟨_, gb⟩ (fun i v hv => ?_) (fun j hj => hr j (by rw [hsz] at hj; exact hj)) (fun i hi => ?_) fun h' tk T' hk hT e1 e2 => ?_
      · have hv : (ps.map Value.ref)[i]? = some v := by simpa using hv
        rw [List.getElem?_map] at hv
        obtain ⟨p, h1, h2⟩ := Option.map_eq_some_iff.mp hv
        rw [← h2, List.getD_eq_getElem?_getD, h1]; rfl
      · rw [hsz, ← e] at hi
        have h1 := catA_le (st := bs.toArray) rvs i hi
        have h2 : rvs.flatten.length = rows.flatten.length := v.length.symm
        have h3 : bs.toArray.size = bs.length := by simp
        rw [h2, h3, lb] at h1
        exact Nat.le_trans h1 hl
      · rw [hsz] at hT e1 e2
        by_cases h0 : ps = []
        · have := e1 (by rw [h0]; rfl)
          subst this
          exact ⟨.ref T', H, I.kept hk, rfl, q1 h0⟩
        · have hpos : 0 < ps.length := List.length_pos_iff.mpr h0
          obtain ⟨n', gT⟩ := hT
          refine ⟨.ref T', upd H T' (.lst (st ++ rows.flatten)), I.laid hk (e2 hpos) (show ObjOk X.prog X.w _ _ _ (.lst (st ++ rows.flatten)) from ⟨by rw [List.length_append]; exact hl, bs ++ rvs.flatten, n', vb.append v, ?_⟩), rfl, q2 h0 _ (I.hok.fresh (e2 hpos))⟩
          have := catA_list (st := bs.toArray) rvs ps.length (by rw [e]; exact Nat.le_refl _)
          rw [List.take_of_length_le (by rw [e]; exact Nat.le_refl _)] at this
          rw [gT, show SumL.catA bs.toArray (fun j => (rvs.getD j []).toArray) ps.length = (bs ++ rvs.flatten).toArray from by rw [← this, Array.toArray_toList]]
def lrows : List T → Option (List (List T))
  | [] => some []
  | .lst r :: xs => match lrows xs with
    | some l => some (r :: l)
    | none => none
  | _ => none
def kSumL : List T → Sto → Res T
  | [.lst xs, .lst ys], M => match lrows xs with
    | some rr => if ys.length + rr.flatten.length ≤ 16777216 then .ok (.lst (ys ++ rr.flatten)) M else .stuck
    | none => .stuck
  | _, _ => .stuck
theorem lrows_rep {w : Wd} : ∀ {xs : List T} {vs : List V} {rr : List (List T)}, RepL w vs xs → lrows xs = some rr →
    ∃ (ps : List Addr) (rows : List (List V)), vs = ps.map V.ref ∧ Paired (fun p r => Rd w.H p (.lst r)) ps rows ∧ RepL w rows.flatten rr.flatten ∧ (ps = [] → rr = [])
  | [], _, _, .nil, h => by cases h; exact ⟨[], [], rfl, .nil, .nil, fun _ => rfl⟩
  | .lst r :: xs, _, _, .cons q l, h => by
    unfold lrows at h
    split at h
    · rename_i ll h1
      cases h
      obtain ⟨ps, rows, e, p, m, _⟩ := lrows_rep l h1
      subst e
      cases q with
      | lst n d rl => exact ⟨_ :: ps, _ :: rows, rfl, .cons d p, by rw [List.flatten_cons, List.flatten_cons]; exact rl.append m, fun h => by cases h⟩
    · cases h
  | .non :: _, _, _, _, h | .bl _ :: _, _, _, _, h | .int _ :: _, _, _, _, h | .str _ :: _, _, _, _, h | .tup _ :: _, _, _, _, h | .dic _ _ :: _, _, _, _, h | .ref _ :: _, _, _, _, h | .scr _ :: _, _, _, _, h => by cases h
theorem se_sumL {X : Cx} {fs : Ev (List T)} {e : Expr} {es : List Expr} {p pos : Pos} (B : Blt X.mg) (ha : SA X (e :: es) fs) (hc : X.calm = true := by rfl) (hg : Gl X "sum" := by rfl)
    (he : starEach (e :: es) X.env = (false, eval e X.env) :: starEach es X.env := by rfl) (hpl : (backTo pos (starEach es X.env)).any (·.1) = false := by rfl) : SE false X (.Call (.Name "sum" p) (e :: es) [] pos) (eA kSumL fs) := by
  refine se_callB (cr_sumL hc) (fun w vs ts Q g r q => ?_) hg B.sum PyProof.Rows.boot_sum (by decide) (by decide) ha he hpl
  unfold kSumL at q
  split at q
  · split at q
    · rename_i rr hr
      split at q
      · rename_i hl
        cases r with
        | cons r1 r =>
          cases r with
          | cons r2 r =>
            cases r
            have r2' := r2
            cases r1 with
            | lst n1 d1 l1 =>
              cases r2 with
              | lst n2 d2 l2 =>
                obtain ⟨ps, rows, e, pp, m, h0⟩ := lrows_rep l1 hr
                subst e
                refine ⟨_, _, ps, rows, _, rfl, d1, d2, pp, by rw [line_eq, l2.length, m.length]; exact hl, fun h => ?_, fun h p hp => post_lst q g hp (l2.append m)⟩
                rw [h0 h, List.flatten_nil, List.append_nil] at q
                exact post_ok q g r2'
      · exact q.elim
    · exact q.elim
  · exact q.elim
end TL
end
section
set_option Elab.async false
set_option linter.all false
set_option maxRecDepth 100000
/-! TL37: dicts with tuple keys. -/
namespace TL
open PySem PySem.Spec PyProof.Rows L2
/-! ### a display of one pair -/
def tDispT (tk tv : TE) : TE := fun σ H Q => ∀ p, H p = none → tk σ (upd H p (.dT [])) fun x H1 => tv σ H1 fun y H2 => H2 p = some (.dT []) ∧ ∃ (b : Addr) (ks : List Key), x = .ref b ∧ H2 b = some (.tup (ks.map kV)) ∧ Q (.ref p) (upd H2 p (.dT [(ks, y)]))
theorem pe_dispT {X : Cx} {pos : Pos} {k v : Expr} {tk tv : TE} (hr : (tupleKind (mixKind X.prog X.w)).room X.A) (hk : PE X k tk) (hv : PE X v tv) : PE X (.Dict [some k] [v] pos) (tDispT tk tv) := by
  refine ⟨fun pins s σ H Q I q => ?_⟩
  have hn := I.hok.fresh (Nat.le_refl s.heap.objs.size)
  have I1 := I.laid (a := s.heap.objs.size) (o := .dT []) (h' := s.heap.push { cls := .type "dict", data := .dict #[] }) (t' := s.toks) (fun _ _ q => Heap.get?_push_of_some _ q) (Nat.le_refl _) (dt_empty s.heap I.big)
  rw [arm_eval_Dict, zip_pairTrees [some k] [v] X.env pos rfl rfl, dictDisplay_pairs _ (by simp [pairTrees]) (by simp [pairTrees])]
  refine wpAny_bind (wpAny_standAt (wpAny_bind (wpAny_subDictH (knd := tupleKind (mixKind X.prog X.w)) (Q := fun d s' => wpAny (model X.prog X.w) X.A (pure (Value.ref d)) (EP X pins σ Q) X.xe s') hr (by simp [pairTrees]) ?_)))
  refine pairTrees_cons_walk (thn (hk.run pins _ σ _ _ I1 (q _ hn)) fun u s1 ⟨x, H1, I2, rx, q1⟩ => thn (hv.run pins s1 σ H1 _ I2 q1) fun vv s2 ⟨y, H2, I3, ry, e, b, ks, ex, eb, q2⟩ => pairTrees_nil_walk ?_)
  subst ex
  cases (show u = Value.ref b from rx)
  obtain ⟨z, hd, xs, rel, dd⟩ := dt_of I3.hok e
  cases rel
  refine ⟨[(ks, b, vv)], ⟨rfl, rfl, key_of I3.hok eb, True.intro⟩, dd, fun h' tk hm hs => wpAny_pure ⟨.ref s.heap.objs.size, _, ?_, rfl, q2⟩⟩
  obtain ⟨o, es, ep, hq, h2, h3, h4, _, h5⟩ := hm
  refine d_write I3 (by rw [e]; exact True.intro) hs ⟨o, hq⟩ ⟨by rw [sizeLine_eq]; simp, hd, [(ks, b, vv)], .cons ⟨rfl, ?_, ry⟩ .nil, o, es, ep, hq, h2, h3, h4, h5⟩
  rw [upd_ne (ne_of eb e (fun z => nomatch z))]
  exact eb
/-! ### keys that are tuples -/
abbrev TK := List Key
def toKs : List T → Option TK
  | [] => some []
  | t :: r => match toK t, toKs r with
    | some k, some ks => some (k :: ks)
    | _, _ => none
def kyTup : T → Option TK
  | .tup ts => toKs ts
  | _ => none
theorem toKs_rep {w : Wd} : ∀ {vs : List V} {ts : List T} {ks : TK}, RepL w vs ts → toKs ts = some ks → vs = ks.map kV
  | _, [], _, .nil, h => by cases h; rfl
  | _, t :: r, _, .cons q l, h => by
    unfold toKs at h
    split at h
    · rename_i k kk h1 h2
      cases h
      rw [toK_rep q h1, toKs_rep l h2]; rfl
    · cases h
theorem kyTup_rep {w : Wd} {v : V} {t : T} {ks : TK} (r : Rep w v t) (h : kyTup t = some ks) : ∃ b, v = .ref b ∧ w.H b = some (.tup (ks.map kV)) := by
  unfold kyTup at h
  split at h
  · cases r with
    | tup n d l =>
      rw [toKs_rep l h] at d
      exact ⟨_, rfl, d⟩
  · cases h
def hasP (k : TK) : List TK → Bool
  | [] => false
  | j :: ks => if j = k then true else hasP k ks
theorem val_hasP {k : TK} {kvs : List (TK × V)} : (valV kvs k).isSome = hasP k (kvs.map Prod.fst) := by
  induction kvs with
  | nil => rfl
  | cons p l ih =>
    by_cases e : p.1 = k
    · rw [valV_pos e]; show true = if p.1 = k then _ else _; rw [if_pos e]
    · rw [valV_neg e, ih]; show _ = if p.1 = k then _ else _; rw [if_neg e]
def kNinP (a b : T) (M : Sto) : Res T := match kyTup a, b with
  | some k, .ref n => match M.get n with
    | some (.dtp ks _) => .ok (.bl (!hasP k ks)) M
    | _ => .stuck
  | _, _ => .stuck
def kLenP : List T → Sto → Res T
  | [.ref n], M => match M.get n with
    | some (.dtp ks _) => .ok (.int ks.length) M
    | _ => .stuck
  | _, _ => .stuck
def gAtP (fo fi : Ev T) : Tg := fun t τ M => (fo τ M).bind fun o M1 => (fi τ M1).bind fun i M2 => match o, kyTup i with
  | .ref n, some k => match M2.get n with
    | some (.dtp ks ts) => if hasP k ks = false ∧ ks.length < 16777216 then .ok τ (M2.set n (.dtp (ks ++ [k]) (ts ++ [t]))) else .stuck
    | _ => .stuck
  | _, _ => .stuck
def eDtNew (fk fv : Ev T) : Ev T := fun τ M => (fk τ M).bind fun t M1 => (fv τ M1).bind fun u M2 => match kyTup t with
  | some k => .ok (.ref M2.nx) (M2.add (.dtp [k] [u]))
  | none => .stuck
section
variable {X : Cx} {a b k v e : Expr} {es : List Expr} {fa fb fk fv : Ev T} {fs : Ev (List T)} {p pos : Pos}
theorem c_ninP {j : Nat} (hr : Room j X.A) : CmpOk X .NotIn kNinP := ⟨_, op_notin_dict (by have := hr.un; omega), fun w x y a b Q g r1 r2 q => by
  unfold kNinP at q
  split at q
  · rename_i kk n hk
    split at q
    · rename_i ks ts hm
      obtain ⟨ad, e1, e2⟩ := kyTup_rep r1 hk
      cases r2 with
      | ref n hn =>
        obtain ⟨_, _, kvs, e, ek, l⟩ := g.own _ _ hm
        subst ek
        rw [← val_hasP] at q
        exact ⟨_, valV kvs kk, rfl, .inr ⟨kvs, kk, ad, .inl e, e1, e2, rfl⟩, post_ok q g (.bl _)⟩
    · exact q.elim
  · exact q.elim⟩
theorem se_lenP (B : Blt X.mg) (ha : SA X (e :: es) fs) (hg : Gl X "len" := by rfl)
    (he : starEach (e :: es) X.env = (false, eval e X.env) :: starEach es X.env := by rfl) (hpl : (backTo pos (starEach es X.env)).any (·.1) = false := by rfl) : SE false X (.Call (.Name "len" p) (e :: es) [] pos) (eA kLenP fs) := by
  refine se_callB call_len_dT (fun w vs ts Q g r q => ?_) hg B.len PySem.boot_len (by decide) (by decide) ha he hpl
  unfold kLenP at q
  split at q
  · obtain ⟨v, rfl, r1⟩ := repL1 r
    split at q
    · rename_i ks ts hm
      cases r1 with
      | ref n hn =>
        obtain ⟨_, _, kvs, e, ek, l⟩ := g.own _ _ hm
        subst ek
        rw [List.length_map] at q
        exact ⟨_, kvs, rfl, e, post_ok q g (.int _)⟩
    · exact q.elim
  · exact q.elim
theorem sg_atP {j : Nat} (hr : Room j X.A) (ho : SE false X a fa) (hi : SE false X b fb) (hw : ∀ v, assign (.Subscript a b pos) X.env v = (do
      let ov ← holding [v] (eval a X.env)
      let iv ← holding [v, ov] (eval b X.env)
      standAt pos
      holding [v, ov, iv] (setItem ov iv v)
      release [v, ov, iv] []) := by intro _; rfl) : SG [] X (.Subscript a b pos) (gAtP fa fb) := by
  refine pg_imp (pg_sub ho hi (set_dict (by have := hr.un; omega)) hw) fun v σ H Q ⟨w, τ, t, e, g, n, r, q⟩ => ?_
  subst e
  refine ⟨w, τ, rfl, g, n, Res.all_mono (fun o M1 q w1 x x1 g1 e1 r1 f1 => ?_) (Res.all_bind q)⟩
  subst e1
  clear f1
  refine ⟨w1, τ, rfl, g1, n.mono x1, Res.all_mono (fun i M2 q w2 y x2 g2 e2 r2 f2 => ?_) (Res.all_bind q)⟩
  subst e2
  clear f2
  have xx := x1.trans x2
  split at q
  · rename_i nn kk hk _
    split at q
    · rename_i ks ts hm
      split at q
      · rename_i hh
        have r1 := r1.mono x2
        cases r1 with
        | ref n0 hn =>
          obtain ⟨ad, e1, e2⟩ := kyTup_rep r2 hk
          obtain ⟨_, _, kvs, e, ek, l⟩ := g2.own _ _ hm
          subst ek
          have hnew : valV kvs kk = none := by
            have := val_hasP (k := kk) (kvs := kvs)
            rw [hh.1] at this
            cases hv : valV kvs kk with
            | none => rfl
            | some _ => rw [hv] at this; cases this
          have x3 : Ext w2 (w2.wr nn (.dT (kvs ++ [(kk, v)])) (.dtp (kvs.map Prod.fst ++ [kk]) (ts ++ [t]))) := Ext.wr g2 hm
          have g3 : Good X.mg (w2.wr nn (.dT (kvs ++ [(kk, v)])) (.dtp (kvs.map Prod.fst ++ [kk]) (ts ++ [t]))) :=
            g2.wr hm ⟨_, rfl, by rw [List.map_append]; rfl, by rw [List.map_append]; exact ((l.append (.cons (r.mono xx) .nil))).mono x3⟩
          have hl := hh.2
          rw [List.length_map] at hl
          refine ⟨_, _, rfl, .inr ⟨kvs, kk, ad, e, e1, e2, by rw [line_eq]; exact hl, rfl⟩, ?_⟩
          rw [putK_new v hnew]
          exact q _ σ (xx.trans x3) g3 rfl ((n.mono xx).mono x3) ⟨rfl, fun _ _ => rfl⟩
      · exact q.elim
    · exact q.elim
  · exact q.elim
theorem se_dtNew {j : Nat} (hr : Room j X.A) (hk : SE false X k fk) (hv : SE false X v fv) : SE false X (.Dict [some k] [v] pos) (eDtNew fk fv) := by
  refine pe_imp (pe_dispT (show X.A.units < cLine by have := hr.un; omega) hk hv) fun σ H Q ⟨w, τ, e, g, n, q⟩ => ?_
  subst e
  intro p hp
  have gh := g.hold (ho := .dT []) hp
  have xh := Ext.hold (ho := .dT []) g hp
  refine ⟨w.hold p (.dT []), τ, rfl, gh, n.mono xh, Res.all_mono (fun t M1 q w1 x x1 g1 e1 r1 _ => ?_) (Res.all_bind q)⟩
  subst e1
  refine ⟨w1, τ, rfl, g1, (n.mono xh).mono x1, Res.all_mono (fun u M2 q w2 y x2 g2 e2 r2 _ => ?_) (Res.all_bind q)⟩
  subst e2
  split at q
  · rename_i kk hkk
    have xy := x1.trans x2
    have RD : w2.R p := xy.R p (.inr rfl)
    have xx := xh.trans xy
    have gc := g2.cut xx g hp RD
    have xc := Ext.cut xx g hp RD
    have hn : (w2.cut p w.R).H p = none := if_pos rfl
    have kc := Keep.cut (w0 := w) RD xx.R
    obtain ⟨ad, e1, e2⟩ := kyTup_rep (r1.mono x2) hkk
    refine ⟨(xy.Rk p (.inr rfl)).trans upd_same, ad, kk, e1, e2, ?_⟩
    have x3 : Ext (w2.cut p w.R) ((w2.cut p w.R).new p (.dT [(kk, y)]) (.dtp [kk] [u])) := Ext.new gc hn
    have g3 : Good X.mg ((w2.cut p w.R).new p (.dT [(kk, y)]) (.dtp [kk] [u])) := gc.new hn ⟨[(kk, y)], rfl, rfl, .cons (r2.kept kc) .nil⟩
    have := q _ (.ref p) (xc.trans x3) g3 rfl new_ref fun z => nomatch z
    rw [show ((w2.cut p w.R).new p (.dT [(kk, y)]) (.dtp [kk] [u])).H = upd (w2.cut p w.R).H p (.dT [(kk, y)]) from rfl, upd_cut] at this
    exact this
  · exact q.elim
end
end TL
end
section
set_option Elab.async false
set_option linter.all false
set_option maxRecDepth 100000
/-! TL38: a word among the words of a module's own tuple. -/
namespace TL
open PySem PySem.Spec PyProof.Rows L2
def kInC (a : Addr) (ks : List Str) : T → T → Sto → Res T
  | .str x, .scr b, M => if b = a then .ok (.bl (inV (.str x) (ks.map V.str))) M else .stuck
  | _, _, _ => .stuck
def bOneOf (a : Addr) (ks : List Str) : Ev Fl := sRet (vAnd (e1 (kIsi .str) (eVar 0)) (e2 (kInC a ks) (eVar 0) (eVar 1)))
def rOneOf (a : Addr) (ks : List Str) : List T → Sto → Res T := fnRun false 2 (bOneOf a ks)
def eOneOf (ks : List Str) (f : Ev T) : Ev T := fun τ M => (f τ M).bind fun t M' => match t with
  | .str x => .ok (.bl (inV (.str x) (ks.map V.str))) M'
  | _ => .stuck
def OneOfF (P : Program) (w : World) (K : PySem.W.Frag) (mg : Str → Option Value) (base : Heap) (k : Nat) (f x : Str) (ks : List Str) : Prop :=
  ∃ a, mg x = some (.ref a) ∧ CallF P w K mg base k f false 2 [] (rOneOf a ks)
section
variable {X : Cx} {a : Addr} {ks : List Str} {e : Expr} {fe : Ev T} {x f : Str} {p q0 pos : Pos} {k : Nat}
theorem all_flat_str : ∀ ks : List Str, (ks.map V.str).all flatV = true
  | [] => rfl
  | _ :: r => by rw [List.map_cons, List.all_cons, all_flat_str r]; rfl
theorem c_inC (hK : ∀ H, SqT X.K H a (ks.map V.str)) : CmpOk X .In (kInC a ks) := ⟨_, op_in_seq, fun w x y s t Q g r1 r2 q => by
  unfold kInC at q
  split at q
  · split at q
    · rename_i h
      subst h
      cases r1
      cases r2
      exact ⟨_, _, rfl, .inr (hK _), rfl, all_flat_str ks, by rw [if_neg (by decide)]; exact post_ok q g (.bl _)⟩
    · exact q.elim
  · exact q.elim⟩
theorem se_scr {pos : Pos} (hm : X.mg x = some (.ref a)) (hg : Gl X x := by rfl) (hdb : (x == ("__debug__" : Str)) = false := by decide) : SE false X (.Name x pos) (eC (.scr a)) :=
  pe_imp (pe_glob hg hm (v := .ref a) rfl hdb) fun σ H Q ⟨w, τ, e, g, n, q⟩ => by
    subst e
    exact post_ok q g (.scr a)
theorem rOneOf_str {s : Str} {M : Sto} : rOneOf a ks [.str s, .scr a] M = .ok (.bl (inV (.str s) (ks.map V.str))) M := by
  have h1 : kIsi .str (.str s) M = .ok (.bl true) M := rfl
  have h2 : kInC a ks (.str s) (.scr a) M = .ok (.bl (inV (.str s) (ks.map V.str))) M := if_pos rfl
  simp [rOneOf, fnRun, bOneOf, List.replicate, h1, h2]
theorem oneOf_run {τ : Tau} {M : Sto} {Φ : T → Sto → Prop} (q : (eOneOf ks fe τ M).all Φ) : (eCall 2 [] (rOneOf a ks) (eCons fe (eCons (eC (.scr a)) eNil)) τ M).all Φ := by
  have q1 := Res.all_bind q
  have e : eCall 2 [] (rOneOf a ks) (eCons fe (eCons (eC (.scr a)) eNil)) τ M = (fe τ M).bind fun t M1 => (rOneOf a ks) [t, .scr a] M1 := by
    unfold eCall eCons eC eNil
    rw [Res.bind_assoc]
    rfl
  rw [e]
  refine Res.bind_all (Res.all_mono (fun t M' q => ?_) q1)
  split at q
  · rw [rOneOf_str]; exact q
  · exact q.elim
theorem se_oneOf (C : OneOfF X.prog X.w X.K X.mg X.base k f x ks) (hr : Room k X.A) (ha : SE false X e fe) (hg : Gl X f := by rfl) (hgx : Gl X x := by rfl) (hdb : (f == ("__debug__" : Str)) = false := by decide) (hdx : (x == ("__debug__" : Str)) = false := by decide)
    (he : starEach [e, .Name x q0] X.env = (false, eval e X.env) :: starEach [.Name x q0] X.env := by rfl) (he2 : starEach [.Name x q0] X.env = (false, eval (.Name x q0) X.env) :: starEach [] X.env := by rfl) (hpl : (backTo pos (starEach [.Name x q0] X.env)).any (·.1) = false := by rfl) :
    SE false X (.Call (.Name f p) [e, .Name x q0] [] pos) (eOneOf ks fe) := by
  obtain ⟨a, hm, C⟩ := C
  refine pe_imp (se_call C hr (sa_cons ha (sa_cons (se_scr hm hgx hdx) sa_nil he2) he) (fun _ => .nil) hg hdb he hpl) fun σ H Q ⟨w, τ, e, g, n, q⟩ => ⟨w, τ, e, g, n, oneOf_run q⟩
end
end TL
end
section
set_option Elab.async false
set_option linter.all false
set_option maxRecDepth 100000
/-! TL39: len(set(..)) of tuples of numbers. -/
namespace TL
open PySem PySem.Spec PyProof.Rows L2
def tLenSetT (K : PySem.W.Frag) (ta : TE) : TE := fun σ H Q => ta σ H fun x H1 => ∃ (l : Addr) (ks : List (Addr × List Int)), x = V.ref l ∧ SqL K H1 l (ks.map fun p => V.ref p.1) ∧ (∀ p ∈ ks, SqT K H1 p.1 (p.2.map V.int)) ∧ ks.length < 64 ∧
  ∀ n : Nat, (∃ L : List (List Int), L.Nodup ∧ (∀ x ∈ L, x ∈ ks.map (·.2)) ∧ (∀ p ∈ ks, p.2 ∈ L) ∧ L.length = n) → Q (.int n) H1
theorem pe_lenSetT {X : Cx} {a : Expr} {ta : TE} {p p2 q pos : Pos} (hc : X.calm = true) (hu : X.A.units + 64 < cLine) (hg : Gl X "len") (hm : X.mg "len" = none) (hg2 : Gl X "set") (hm2 : X.mg "set" = none) (ha : PE X a ta)
    (na : starEach [a] X.env = (false, eval a X.env) :: starEach [] X.env := by rfl) : PE X (.Call (.Name "len" p) [.Call (.Name "set" p2) [a] [] q] [] pos) (tLenSetT X.K ta) := by
  refine ⟨fun pins s σ H Q I h => ?_⟩
  refine Call_ (ld_blt I hg hm PySem.boot_len ?_)
  refine PyProof.Rows.callWith_builtin1 (PyProof.Rows.args_cons ?_ rfl) rfl rfl
  refine Call_ (ld_blt I hg2 hm2 PyProof.Rows.boot_set ?_)
  refine PyProof.Rows.callWith_type1 (PyProof.Rows.args_cons (thn (ha.run pins s σ H _ I h) fun v s1 ⟨x, H1, I1, r1, q1⟩ => PyProof.Rows.args_nil ?_) na) na rfl
  obtain ⟨l, ks, rfl, hq, hk, hf, q1⟩ := q1
  cases r1
  obtain ⟨its, rv, pl, hz⟩ := I1.list hq
  refine call_set_tups (P := X.prog) (w := X.w) ks (I1.ok.hd hc) pl.isList (by simpa using refs_of_vals rv) (fun p hp => I1.isT (hk p hp)) hf (by show X.A.units + 3 < cLine; omega) fun h' tk L es ep t R g k => ?_
  refine PyProof.Rows.args_nil ?_
  obtain ⟨o, ho, hex, hd⟩ := R.ob
  have I2 : Inv X pins σ H1 { s1 with heap := h', toks := tk } := I1.kept k
  have hn : es.size = L.length := SetTR.size (s := { s1 with heap := h', toks := tk }) R
  refine call_len_set ho hex hd (SetTR.fits (s := { s1 with heap := h', toks := tk }) R) (by rw [hn]; have := R.few; omega) ⟨.int es.size, H1, I2.tok _, ⟨_, rfl⟩, q1 _ ⟨L.map (·.2), R.nd, fun x hx => ?_, fun p hp => ?_, by rw [List.length_map, hn]⟩⟩
  · obtain ⟨p, hp, e⟩ := List.mem_map.mp hx
    exact List.mem_map.mpr ⟨p, List.mem_of_mem_take (g.sub p hp), e⟩
  · exact g.all p (by rw [List.take_length]; exact hp)
/-- how many are different -/
def ddL : List (List Int) → List (List Int)
  | [] => []
  | r :: rs => if (ddL rs).any fun q => decide (q = r) then ddL rs else r :: ddL rs
theorem ddL_mem {x : List Int} : ∀ {l : List (List Int)}, x ∈ ddL l ↔ x ∈ l
  | [] => Iff.rfl
  | r :: rs => by
    unfold ddL
    split
    · rename_i h
      obtain ⟨q, hq, e⟩ := List.any_eq_true.mp h
      have e : q = r := of_decide_eq_true e
      subst e
      rw [ddL_mem, List.mem_cons]
      exact ⟨.inr, fun z => z.elim (fun e => by subst e; exact ddL_mem.mp hq) id⟩
    · rw [List.mem_cons, List.mem_cons, ddL_mem]
theorem ddL_nodup : ∀ (l : List (List Int)), (ddL l).Nodup
  | [] => List.nodup_nil
  | r :: rs => by
    unfold ddL
    split
    · exact ddL_nodup rs
    · rename_i h
      refine List.nodup_cons.mpr ⟨fun m => h (List.any_eq_true.mpr ⟨r, m, decide_eq_true rfl⟩), ddL_nodup rs⟩
theorem len_same {L M : List (List Int)} (h1 : L.Nodup) (h2 : M.Nodup) (h : ∀ x, x ∈ L ↔ x ∈ M) : L.length = M.length :=
  ((List.perm_ext_iff_of_nodup h1 h2).mpr h).length_eq
def rowsI : List T → Option (List (List Int))
  | [] => some []
  | .tup r :: xs => match inTs r, rowsI xs with
    | some ns, some l => some (ns :: l)
    | _, _ => none
  | _ => none
def eLenSetT (f : Ev T) : Ev T := fun τ M => (f τ M).bind fun t M' => match t with
  | .lst ts => match rowsI ts with
    | some rs => if rs.length < 64 then .ok (.int ((ddL rs).length : Nat)) M' else .stuck
    | none => .stuck
  | _ => .stuck
theorem rowsI_rep {K : PySem.W.Frag} {w : Wd} : ∀ {xs : List T} {vs : List V} {rs : List (List Int)}, RepL w vs xs → rowsI xs = some rs →
    ∃ ks : List (Addr × List Int), vs = (ks.map fun p => V.ref p.1) ∧ (∀ p ∈ ks, SqT K w.H p.1 (p.2.map V.int)) ∧ ks.map (·.2) = rs
  | [], _, _, .nil, h => by cases h; exact ⟨[], rfl, fun p hp => absurd hp List.not_mem_nil, rfl⟩
  | .tup r :: xs, _, _, .cons q l, h => by
    unfold rowsI at h
    split at h
    · rename_i ns ll h1 h2
      cases h
      obtain ⟨ks, e, hp, m⟩ := rowsI_rep (K := K) l h2
      subst e
      cases q with
      | tup n d rl =>
        rw [inTs_rep rl h1] at d
        refine ⟨(_, ns) :: ks, rfl, fun p hm => ?_, by rw [List.map_cons, m]⟩
        rcases List.mem_cons.mp hm with e | hm
        · subst e; exact .inl (.inl d)
        · exact hp p hm
    · cases h
  | .non :: _, _, _, _, h | .bl _ :: _, _, _, _, h | .int _ :: _, _, _, _, h | .str _ :: _, _, _, _, h | .lst _ :: _, _, _, _, h | .dic _ _ :: _, _, _, _, h | .ref _ :: _, _, _, _, h | .scr _ :: _, _, _, _, h => by cases h
theorem se_lenSetT {X : Cx} {a : Expr} {fa : Ev T} {k : Nat} {p pos p2 q2 : Pos} (hr : Room k X.A) (B : Blt X.mg) (ha : SE false X a fa) (hc : X.calm = true := by rfl) (hg : Gl X "len" := by rfl) (hg2 : Gl X "set" := by rfl) (na : starEach [a] X.env = (false, eval a X.env) :: starEach [] X.env := by rfl) :
    SE false X (.Call (.Name "len" p) [.Call (.Name "set" p2) [a] [] q2] [] pos) (eLenSetT fa) := by
  refine pe_imp (pe_lenSetT hc (by have := hr.un; omega) hg B.len hg2 B.set ha na) fun σ H Q ⟨w, τ, e, g, n, q⟩ => ?_
  subst e
  refine ⟨w, τ, rfl, g, n, Res.all_mono (fun t M' q w1 v x1 g1 e1 r1 _ => ?_) (Res.all_bind q)⟩
  subst e1
  split at q
  · split at q
    · rename_i rs hrs
      split at q
      · rename_i h
        cases r1 with
        | lst n0 d l =>
          obtain ⟨ks, e, hk, m⟩ := rowsI_rep (K := X.K) l hrs
          subst e m
          rw [List.length_map] at h
          refine ⟨_, ks, rfl, .inl d, hk, h, fun m ⟨L, h1, h2, h3, h4⟩ => ?_⟩
          have : L.length = (ddL (ks.map (·.2))).length := len_same h1 (ddL_nodup _) fun x => by
            rw [ddL_mem]
            exact ⟨h2 x, fun hx => by obtain ⟨p, hp, e⟩ := List.mem_map.mp hx; rw [← e]; exact h3 p hp⟩
          rw [← h4, this]
          exact post_ok (post_ext q x1) g1 (.int _)
      · exact q.elim
    · exact q.elim
  · exact q.elim
end TL
end
section
set_option Elab.async false
set_option linter.all false
set_option maxRecDepth 100000
/-! TL40: a call that is handed plain things runs in an empty store; the store is then as it was. Lists of the store are lent, where the answer is no list. -/
namespace TL
open PySem PySem.Spec PyProof.Rows L2
def isLst : MO → Bool
  | .lst _ => true
  | _ => false
/-- all is held (b = false), or all but the lists (b = true) -/
def Wd.lend (w : Wd) (b : Bool) : Wd := { w with M := ⟨[], 0⟩, R := fun a => w.R a ∨ ∃ n o, w.M.get n = some o ∧ (b && isLst o) = false ∧ w.ρ n = a }
def Wd.back (w1 w : Wd) : Wd := { w1 with M := w.M, ρ := w.ρ, R := w.R }
section
variable {mg : Str → Option Value} {w w1 : Wd} {b : Bool}
theorem Ex.lend {a : Addr} (h : Ex (w.lend b) a) : Ex w a := by
  rcases h with h | ⟨n, o, e, _⟩
  · rcases h with h | ⟨n, o, e, _, e2⟩
    · exact .inl h
    · exact .inr ⟨n, o, e, e2⟩
  · cases (show (none : Option MO) = some o from e)
theorem Ex.back {a : Addr} : Ex (w1.back w) a ↔ Ex w a := Iff.rfl
theorem Good.lend (g : Good mg w) : Good mg (w.lend b) where
  own := fun n o e => by cases (show (none : Option MO) = some o from e)
  inj := fun n m o u e _ _ => by cases (show (none : Option MO) = some o from e)
  Rd := fun a h => by
    rcases h with h | ⟨n, o, e, _, e2⟩
    · exact g.Rd a h
    · exact g.ex_dom (.inr ⟨n, o, e, e2⟩)
theorem Ext.back (x : Ext (w.lend b) w1) : Ext w (w1.back w) :=
  ⟨fun a u hu h n => ⟨(x.keep a u hu h fun z => n z.lend).1, n⟩, fun a o u hu h n => ⟨(x.keepF a o u hu h fun z => n z.lend).1, n⟩, fun a kvs h n => ⟨(x.keepD a kvs h fun z => n z.lend).1, n⟩,
   x.dom, Nat.le_refl _, fun _ _ => rfl, fun _ h => h, fun a h => x.Rk a (.inl h), x.frz⟩
theorem lend_own (g : Good mg w) {n : Nat} {ts : List T} (h : w.M.get n = some (.lst ts)) : ¬ Ex (w.lend true) (w.ρ n) := by
  rintro (z | ⟨m, o, e, _⟩)
  · rcases z with z | ⟨m, o, e, e1, e2⟩
    · exact (g.own _ _ h).2.1 z
    · have := g.inj m n o _ e h e2
      subst this
      rw [h] at e
      cases e
      cases e1
  · cases (show (none : Option MO) = some o from e)
theorem Good.back (g : Good mg w) (x : Ext (w.lend b) w1) : Good mg (w1.back w) where
  own := fun n o e => by
    obtain ⟨h1, h2, h3⟩ := g.own n o e
    have hH : w1.H (w.ρ n) = w.H (w.ρ n) := by
      cases hb : (b && isLst o) with
      | false => exact x.Rk _ (.inr ⟨n, o, e, hb, rfl⟩)
      | true =>
        rw [Bool.and_eq_true] at hb
        obtain ⟨hb, ho⟩ := hb
        subst hb
        cases o with
        | lst ts =>
          obtain ⟨vs, ev, _⟩ := h3
          rw [ev]
          exact (x.keep _ (.lst vs) True.intro ev (lend_own g e)).1
        | _ => cases ho
    refine ⟨h1, h2, ?_⟩
    show MRep mg (w1.back w) (w1.H (w.ρ n)) o
    rw [hH]
    exact h3.mono (Ext.back x)
  inj := g.inj
  Rd := fun a h => x.dom a (g.Rd a h)
end
/-! ### plain trees -/
mutual
def plainT : T → Bool
  | .ref _ => false
  | .scr _ => false
  | .lst xs => plainTs xs
  | .tup xs => plainTs xs
  | .dic _ xs => plainTs xs
  | _ => true
termination_by structural t => t
def plainTs : List T → Bool
  | [] => true
  | x :: xs => plainT x && plainTs xs
termination_by structural ts => ts
end
def atomT : T → Bool
  | .non => true
  | .bl _ => true
  | .int _ => true
  | .str _ => true
  | _ => false
mutual
theorem plain_rep {w w' : Wd} (hk : ∀ a u, listO u → w.H a = some u → ¬ Ex w a → w'.H a = some u ∧ ¬ Ex w' a) (hf : ∀ a o u, listO u → w.H a = some (.frz o u) → ¬ Ex w a → w'.H a = some (.frz o u) ∧ ¬ Ex w' a)
    (hd : ∀ a kvs, Rd w.H a (.dK kvs) → ¬ Ex w a → Rd w'.H a (.dK kvs) ∧ ¬ Ex w' a) : ∀ {v : V} {t : T}, Rep w v t → plainT t = true → Rep w' v t
  | _, _, .non, _ => .non
  | _, _, .bl b, _ => .bl b
  | _, _, .int i, _ => .int i
  | _, _, .str s, _ => .str s
  | _, _, .lst n h r, p => by
    rcases h with h | ⟨o, h⟩
    · obtain ⟨h', n'⟩ := hk _ (.lst _) True.intro h n
      exact .lst n' (.inl h') (plain_repL hk hf hd r p)
    · obtain ⟨h', n'⟩ := hf _ o (.lst _) True.intro h n
      exact .lst n' (.inr ⟨o, h'⟩) (plain_repL hk hf hd r p)
  | _, _, .tup n h r, p => by
    obtain ⟨h', n'⟩ := hk _ (.tup _) True.intro h n
    exact .tup n' h' (plain_repL hk hf hd r p)
  | _, _, .dic n h e d r, p => by
    obtain ⟨h', n'⟩ := hd _ _ h n
    exact .dic n' h' e d (plain_repL hk hf hd r p)
  | _, _, .ref n h, p => by cases p
  | _, _, .scr a, p => by cases p
theorem plain_repL {w w' : Wd} (hk : ∀ a u, listO u → w.H a = some u → ¬ Ex w a → w'.H a = some u ∧ ¬ Ex w' a) (hf : ∀ a o u, listO u → w.H a = some (.frz o u) → ¬ Ex w a → w'.H a = some (.frz o u) ∧ ¬ Ex w' a)
    (hd : ∀ a kvs, Rd w.H a (.dK kvs) → ¬ Ex w a → Rd w'.H a (.dK kvs) ∧ ¬ Ex w' a) : ∀ {vs : List V} {ts : List T}, RepL w vs ts → plainTs ts = true → RepL w' vs ts
  | _, _, .nil, _ => .nil
  | _, _, .cons q l, p => by
    have p := p
    unfold plainTs at p
    rw [Bool.and_eq_true] at p
    exact .cons (plain_rep hk hf hd q p.1) (plain_repL hk hf hd l p.2)
end
theorem plain_lend {w : Wd} {b : Bool} {vs : List V} {ts : List T} (r : RepL w vs ts) (p : plainTs ts = true) : RepL (w.lend b) vs ts :=
  plain_repL (w := w) (w' := w.lend b) (fun a u _ h n => ⟨h, fun z => n z.lend⟩) (fun a o u _ h n => ⟨h, fun z => n z.lend⟩) (fun a u h n => ⟨h, fun z => n z.lend⟩) r p
theorem plain_back {w w1 : Wd} {v : V} {t : T} (x : Ext (w.lend false) w1) (r : Rep w1 v t) (p : plainT t = true) : Rep (w1.back w) v t := by
  have ne : ∀ a, ¬ Ex w1 a → ¬ Ex (w1.back w) a := fun a n z => by
    rcases z with z | ⟨m, o, e, e2⟩
    · exact n (.inl (x.R a (.inl z)))
    · exact n (.inl (x.R a (.inr ⟨m, o, e, rfl, e2⟩)))
  exact plain_rep (w := w1) (w' := w1.back w) (fun a u _ h n => ⟨h, ne a n⟩) (fun a o u _ h n => ⟨h, ne a n⟩) (fun a u h n => ⟨h, ne a n⟩) r p
theorem atom_rep {w w' : Wd} {v : V} {t : T} (r : Rep w v t) (h : atomT t = true) : Rep w' v t := by
  cases r with
  | non => exact .non
  | bl b => exact .bl b
  | int i => exact .int i
  | str s => exact .str s
  | _ => cases h
/-! ### what is lent, seen as plain -/
def lookM (f : T → Option T) : List T → Option (List T)
  | [] => some []
  | t :: ts => match f t, lookM f ts with
    | some u, some us => some (u :: us)
    | _, _ => none
def look (M : Sto) : Nat → T → Option T
  | 0, _ => none
  | k + 1, t => match t with
    | .ref n => match M.get n with
      | some (.lst ts) => (lookM (look M k) ts).map T.lst
      | _ => none
    | .lst ts => (lookM (look M k) ts).map T.lst
    | .tup ts => (lookM (look M k) ts).map T.tup
    | .dic ks ts => (lookM (look M k) ts).map (T.dic ks)
    | .scr _ => none
    | t => some t
theorem lookM_ok {w w' : Wd} {f : T → Option T} (h : ∀ v t u, f t = some u → Rep w v t → Rep w' v u) : ∀ {vs : List V} {ts us : List T}, lookM f ts = some us → RepL w vs ts → RepL w' vs us
  | _, [], _, e, .nil => by cases e; exact .nil
  | _, t :: ts, _, e, .cons q l => by
    unfold lookM at e
    split at e
    · rename_i u us h1 h2
      cases e
      exact .cons (h _ _ _ h1 q) (lookM_ok h h2 l)
    · cases e
theorem look_ok {mg : Str → Option Value} {w : Wd} (g : Good mg w) : ∀ (k : Nat) (v : V) (t u : T), look w.M k t = some u → Rep w v t → Rep (w.lend true) v u
  | 0, _, _, _, e, _ => by cases e
  | k + 1, v, t, u, e, r => by
    unfold look at e
    cases r with
    | ref n hn =>
      simp only at e
      split at e
      · rename_i ts hm
        obtain ⟨us, h1, h2⟩ := Option.map_eq_some_iff.mp e
        subst h2
        obtain ⟨_, _, vs, ev, l⟩ := g.own _ _ hm
        exact .lst (lend_own g hm) (.inl ev) (lookM_ok (look_ok g k) h1 l)
      · cases e
    | lst n d l =>
      obtain ⟨us, h1, h2⟩ := Option.map_eq_some_iff.mp e
      subst h2
      exact .lst (fun z => n z.lend) d (lookM_ok (look_ok g k) h1 l)
    | tup n d l =>
      obtain ⟨us, h1, h2⟩ := Option.map_eq_some_iff.mp e
      subst h2
      exact .tup (fun z => n z.lend) d (lookM_ok (look_ok g k) h1 l)
    | dic n d e1 nd l =>
      obtain ⟨us, h1, h2⟩ := Option.map_eq_some_iff.mp e
      subst h2
      exact .dic (fun z => n z.lend) d e1 nd (lookM_ok (look_ok g k) h1 l)
    | non => cases e; exact .non
    | bl b => cases e; exact .bl b
    | int i => cases e; exact .int i
    | str s => cases e; exact .str s
    | scr a => cases e
/-! ### the call -/
def lone (g : List T → Sto → Res T) : List T → Sto → Res T := fun ts M => match plainTs ts with
  | true => match g ts ⟨[], 0⟩ with
    | .ok t _ => if plainT t then .ok t M else .stuck
    | _ => .stuck
  | false => match lookM (look M 8) ts with
    | some us => match g us ⟨[], 0⟩ with
      | .ok t _ => if atomT t then .ok t M else .stuck
      | _ => .stuck
    | none => .stuck
theorem fn_lone {P : Program} {w : World} {K : PySem.W.Frag} {mg : Str → Option Value} {base : Heap} {CX : CXT} {k n : Nat} {f : Addr} {fd : FuncData} {ps : List Str} {g : List T → Sto → Res T} (F : FnOk P w K mg base CX k f fd ps (spRun mg false n g)) :
    FnOk P w K mg base CX k f fd ps (spRun mg false n (lone g)) :=
  F.imp fun vs H Q E q0 => by
    obtain ⟨hl, w, ts, e, gd, r, q⟩ := q0
    unfold lone at q
    split at q
    · rename_i hp
      refine ⟨hl, w.lend false, ts, e, gd.lend, plain_lend r hp, ?_⟩
      split at q
      · rename_i t M' hg
        show post mg false Q (w.lend false) (g ts ⟨[], 0⟩)
        rw [hg]
        split at q
        · rename_i ht
          exact fun w1 v x1 g1 e1 r1 _ => q (w1.back w) v (Ext.back x1) (Good.back gd x1) rfl (plain_back x1 r1 ht) fun z => nomatch z
        · exact q.elim
      · exact q.elim
    · split at q
      · rename_i us hu
        refine ⟨hl, w.lend true, us, e, gd.lend, lookM_ok (look_ok gd 8) hu r, ?_⟩
        split at q
        · rename_i t M' hg
          show post mg false Q (w.lend true) (g us ⟨[], 0⟩)
          rw [hg]
          split at q
          · rename_i ht
            exact fun w1 v x1 g1 e1 r1 _ => q (w1.back w) v (Ext.back x1) (Good.back gd x1) rfl (atom_rep r1 ht) fun z => nomatch z
          · exact q.elim
        · exact q.elim
      · exact q.elim
end TL
end
section
set_option Elab.async false
set_option linter.all false
set_option maxRecDepth 100000
/-! Printed by gen.py: the defs of the law's text as functions of trees. -/
set_option maxHeartbeats 0
namespace TL
open PySem PySem.Spec PyProof.Rows L2
section
variable {P : Program} {w : World} {K : PySem.W.Frag} {mg : Str → Option Value} {base : Heap} {f : Addr} {fd : FuncData}

/-! ### is_whole -/
theorem sc_is_whole : FnScope ["value"] ["value"] (defScope s_is_whole) := ⟨rfl, rfl, rfl, by decide +kernel, rfl, by decide +kernel, by decide +kernel⟩
def b_is_whole : Ev Fl :=
    (sRet (vAnd (e1 (kIsi .int) (eVar 0)) (e1 kNot (e1 (kIsi .bool) (eVar 0)))))
def r_is_whole : List T → Sto → Res T := fnRun false 1 (b_is_whole)
theorem ok_is_whole (B : Blt mg)  (F0 : FunD K "is_whole" "is_whole" (defArgs s_is_whole) (defBody s_is_whole) (defScope s_is_whole) [] [] f fd) : FnOk P w K mg base CX0 1 f fd ["value"] (spRun mg false 1 (r_is_whole)) := by
  have sc := sc_is_whole
  refine fn_okN ["value"] ["value"] false 0 1 1 (b_is_whole) F0 sc rfl rfl ?_
  exact fun cdv A outer s H E hr =>
    (sb_one (ss_ret (se_and (se_isi B .int (se_var (i := 0))) (se_one (se_not (se_isi B .bool (se_var (i := 0))))))))
/-! ### is_count -/
theorem sc_is_count : FnScope ["value", "least"] ["value", "least"] (defScope s_is_count) := ⟨rfl, rfl, rfl, by decide +kernel, rfl, by decide +kernel, by decide +kernel⟩
def b_is_count : Ev Fl :=
    (sRet (vAnd (eCall 1 [] (r_is_whole) (eCons (eVar 0) eNil)) (e2 kGe (eVar 0) (eA kMax (eCons (eVar 1) (eCons (eC (.int 0)) eNil))))))
def r_is_count : List T → Sto → Res T := fnRun false 2 (b_is_count)
theorem ok_is_count (B : Blt mg) (C_is_whole_0 : CallF P w K mg base 1 "is_whole" false 1 [] (r_is_whole)) (F0 : FunD K "is_count" "is_count" (defArgs s_is_count) (defBody s_is_count) (defScope s_is_count) [.int 0] [] f fd) : FnOk P w K mg base CX0 2 f fd ["value", "least"] (spRun mg false 2 (r_is_count)) := by
  have sc := sc_is_count
  refine fn_okN ["value", "least"] ["value", "least"] false 1 2 2 (b_is_count) F0 sc rfl rfl ?_
  exact fun cdv A outer s H E hr =>
    (sb_one (ss_ret (se_and (se_call C_is_whole_0 (hr.mono (by decide)) (sa_cons (se_var (i := 0)) sa_nil)) (se_one (se_cmp c_ge (se_var (i := 0)) (se_max B (sa_cons (se_var (i := 1)) (sa_cons se_int sa_nil))))))))
/-! ### is_one_of -/
theorem sc_is_one_of : FnScope ["value", "words"] ["value", "words"] (defScope s_is_one_of) := ⟨rfl, rfl, rfl, by decide +kernel, rfl, by decide +kernel, by decide +kernel⟩
def b_is_one_of : Ev Fl :=
    (sRet (vAnd (e1 (kIsi .str) (eVar 0)) (e2 (kVw kIn0) (eVar 0) (eVar 1))))
def r_is_one_of : List T → Sto → Res T := fnRun false 2 (b_is_one_of)
theorem ok_is_one_of (B : Blt mg)  (F0 : FunD K "is_one_of" "is_one_of" (defArgs s_is_one_of) (defBody s_is_one_of) (defScope s_is_one_of) [] [] f fd) : FnOk P w K mg base CX0 1 f fd ["value", "words"] (spRun mg false 2 (r_is_one_of)) := by
  have sc := sc_is_one_of
  refine fn_okN ["value", "words"] ["value", "words"] false 0 2 2 (b_is_one_of) F0 sc rfl rfl ?_
  exact fun cdv A outer s H E hr =>
    (sb_one (ss_ret (se_and (se_isi B .str (se_var (i := 0))) (se_one (se_cmp (p_in hr).ok (se_var (i := 0)) (se_var (i := 1)))))))
theorem ok_oneOf {a : Addr} {ks : List Str} (hK : ∀ H, SqT K H a (ks.map V.str)) (B : Blt mg) (F0 : FunD K "is_one_of" "is_one_of" (defArgs s_is_one_of) (defBody s_is_one_of) (defScope s_is_one_of) [] [] f fd) : FnOk P w K mg base CX0 1 f fd ["value", "words"] (spRun mg false 2 (rOneOf a ks)) := by
  have sc := sc_is_one_of
  refine fn_okN ["value", "words"] ["value", "words"] false 0 2 2 (bOneOf a ks) F0 sc rfl rfl ?_
  exact fun cdv A outer s H E hr =>
    (sb_one (ss_ret (se_and (se_isi B .str (se_var (i := 0))) (se_one (se_cmp (c_inC hK) (se_var (i := 0)) (se_var (i := 1)))))))
/-! ### is_pack -/
theorem sc_is_pack : FnScope ["value", "card"] ["value"] (defScope s_is_pack) := ⟨rfl, rfl, rfl, by decide +kernel, rfl, by decide +kernel, by decide +kernel⟩
def b_is_pack : Ev Fl :=
    (sSeq (sIf (eOr (eNot (eB (e1 (kIsi .list) (eVar 0)))) (eNot (eB (eA kAll (eCons (eComp (iLst (eVar 0)) (gN 1) cYes (eCall 2 [.int 0] (r_is_count) (eCons (eVar 1) eNil)) [1]) eNil))))) (sRet (eC (.bl false))) sNil)
    (sRet (e2 (kVw kEq0) (eLenSet (eVar 0)) (eA kLen (eCons (eVar 0) eNil)))))
def r_is_pack : List T → Sto → Res T := fnRun false 2 (b_is_pack)
theorem ok_is_pack (B : Blt mg) (C_is_count_1 : CallF P w K mg base 2 "is_count" false 2 [.int 0] (r_is_count)) (F0 : FunD K "is_pack" "is_pack" (defArgs s_is_pack) (defBody s_is_pack) (defScope s_is_pack) [] [] f fd) : FnOk P w K mg base CX0 3 f fd ["value"] (spRun mg false 1 (r_is_pack)) := by
  have sc := sc_is_pack
  refine fn_okN ["value", "card"] ["value"] false 2 2 1 (b_is_pack) F0 sc rfl rfl ?_
  exact fun cdv A outer s H E hr =>
    (sb_cons (ss_if (SW.st (sw_or (st_not (st_val (se_isi B .list (se_var (i := 0))))) (ST.or1 (st_not (st_val (se_all B (sa_cons (SE.drop (se_comp [("card", 1)] sc.nd (si_list (se_var (i := 0))) (fun _ _ _ _ _ => (sg_name (i := 1) sc.nd)) (fun _ _ _ _ _ => sts_nil) (fun _ _ _ _ _ => (se_call C_is_count_1 (hr.mono (by decide)) (sa_cons (se_var (i := 1)) sa_nil) (fun _ => .cons (.int 0) .nil))) (by first | (show blkC ["value", "card"] (defScope s_is_pack) _ _ = true; decide +kernel) | (show blkC ["value", "card"] (relabel _ (envOfC "" (defScope s_is_pack) 0 0 .none)) _ _ = true; decide +kernel)))) sa_nil))))))) (sb_one (ss_ret se_bl)) sb_nil)
    (sb_one (ss_ret (se_cmp (p_eq hr).ok (se_lenSet B (se_var (i := 0))) (se_len B (sa_cons (se_var (i := 0)) sa_nil))))))
/-! ### check_pack -/
theorem sc_check_pack : FnScope ["value"] ["value"] (defScope s_check_pack) := ⟨rfl, rfl, rfl, by decide +kernel, rfl, by decide +kernel, by decide +kernel⟩
def b_check_pack : Ev Fl :=
    (sIf (eNot (eB (eCall 1 [] (r_is_pack) (eCons (eVar 0) eNil)))) eStuck sNil)
def r_check_pack : List T → Sto → Res T := fnRun false 1 (b_check_pack)
theorem ok_check_pack (B : Blt mg) (C_is_pack_0 : CallF P w K mg base 3 "is_pack" false 1 [] (r_is_pack)) (F0 : FunD K "check_pack" "check_pack" (defArgs s_check_pack) (defBody s_check_pack) (defScope s_check_pack) [] [] f fd) : FnOk P w K mg base CX0 4 f fd ["value"] (spRun mg false 1 (r_check_pack)) := by
  have sc := sc_check_pack
  refine fn_okN ["value"] ["value"] false 3 1 1 (b_check_pack) F0 sc rfl rfl ?_
  exact fun cdv A outer s H E hr =>
    (sb_one (ss_if (st_not (st_val (se_call C_is_pack_0 (hr.mono (by decide)) (sa_cons (se_var (i := 0)) sa_nil)))) (sb_one ss_never) sb_nil))
/-! ### is_move_there -/
theorem sc_is_move_there : FnScope ["many", "value", "place"] ["many", "value"] (defScope s_is_move_there) := ⟨rfl, rfl, rfl, by decide +kernel, rfl, by decide +kernel, by decide +kernel⟩
def b_is_move_there : Ev Fl :=
    (sSeq (sIf (eOr (eNot (eB (e1 (kIsi .list) (eVar 1)))) (eOr (eB (e2 (kVw kNe0) (eA kLen (eCons (eVar 1) eNil)) (eVar 0))) (eNot (eB (eA kAll (eCons (eComp (iLst (eVar 1)) (gN 2) cYes (eCall 2 [.int 0] (r_is_count) (eCons (eVar 2) eNil)) [2]) eNil)))))) (sRet (eC (.bl false))) sNil)
    (sRet (e2 (kVw kEq0) (eA kSorted (eCons (eVar 1) eNil)) (eLrg1 (eVar 0)))))
def r_is_move_there : List T → Sto → Res T := fnRun false 3 (b_is_move_there)
theorem ok_is_move_there (B : Blt mg) (C_is_count_1 : CallF P w K mg base 2 "is_count" false 2 [.int 0] (r_is_count)) (F0 : FunD K "is_move_there" "is_move_there" (defArgs s_is_move_there) (defBody s_is_move_there) (defScope s_is_move_there) [] [] f fd) : FnOk P w K mg base CX0 3 f fd ["many", "value"] (spRun mg false 2 (r_is_move_there)) := by
  have sc := sc_is_move_there
  refine fn_okN ["many", "value", "place"] ["many", "value"] false 2 3 2 (b_is_move_there) F0 sc rfl rfl ?_
  exact fun cdv A outer s H E hr =>
    (sb_cons (ss_if (SW.st (sw_or (st_not (st_val (se_isi B .list (se_var (i := 1))))) (sw_or (st_cmp (p_ne hr).ok (se_len B (sa_cons (se_var (i := 1)) sa_nil)) (se_var (i := 0))) (ST.or1 (st_not (st_val (se_all B (sa_cons (SE.drop (se_comp [("place", 2)] sc.nd (si_list (se_var (i := 1))) (fun _ _ _ _ _ => (sg_name (i := 2) sc.nd)) (fun _ _ _ _ _ => sts_nil) (fun _ _ _ _ _ => (se_call C_is_count_1 (hr.mono (by decide)) (sa_cons (se_var (i := 2)) sa_nil) (fun _ => .cons (.int 0) .nil))) (by first | (show blkC ["many", "value", "place"] (defScope s_is_move_there) _ _ = true; decide +kernel) | (show blkC ["many", "value", "place"] (relabel _ (envOfC "" (defScope s_is_move_there) 0 0 .none)) _ _ = true; decide +kernel)))) sa_nil)))))))) (sb_one (ss_ret se_bl)) sb_nil)
    (sb_one (ss_ret (se_cmp (p_eq hr).ok (SE.drop (se_sorted B (sa_cons (se_var (i := 1)) sa_nil))) (SE.drop (se_listRg1 B (se_var (i := 0))))))))
/-! ### check_many -/
theorem sc_check_many : FnScope ["many"] ["many"] (defScope s_check_many) := ⟨rfl, rfl, rfl, by decide +kernel, rfl, by decide +kernel, by decide +kernel⟩
def b_check_many : Ev Fl :=
    (sIf (eNot (eB (eCall 2 [.int 0] (r_is_count) (eCons (eVar 0) eNil)))) eStuck sNil)
def r_check_many : List T → Sto → Res T := fnRun false 1 (b_check_many)
theorem ok_check_many (B : Blt mg) (C_is_count_1 : CallF P w K mg base 2 "is_count" false 2 [.int 0] (r_is_count)) (F0 : FunD K "check_many" "check_many" (defArgs s_check_many) (defBody s_check_many) (defScope s_check_many) [] [] f fd) : FnOk P w K mg base CX0 3 f fd ["many"] (spRun mg false 1 (r_check_many)) := by
  have sc := sc_check_many
  refine fn_okN ["many"] ["many"] false 2 1 1 (b_check_many) F0 sc rfl rfl ?_
  exact fun cdv A outer s H E hr =>
    (sb_one (ss_if (st_not (st_val (se_call C_is_count_1 (hr.mono (by decide)) (sa_cons (se_var (i := 0)) sa_nil) (fun _ => .cons (.int 0) .nil)))) (sb_one ss_never) sb_nil))
/-! ### whole_pack -/
theorem sc_whole_pack : FnScope ["many"] ["many"] (defScope s_whole_pack) := ⟨rfl, rfl, rfl, by decide +kernel, rfl, by decide +kernel, by decide +kernel⟩
def b_whole_pack : Ev Fl :=
    (sSeq (sExpr (eCall 1 [] (r_check_many) (eCons (eVar 0) eNil)))
    (sRet (eLrg1 (eVar 0))))
def r_whole_pack : List T → Sto → Res T := fnRun false 1 (b_whole_pack)
theorem ok_whole_pack (B : Blt mg) (C_check_many_packs_0 : CallF P w K mg base 3 "check_many_packs" false 1 [] (r_check_many)) (F0 : FunD K "whole_pack" "whole_pack" (defArgs s_whole_pack) (defBody s_whole_pack) (defScope s_whole_pack) [] [] f fd) : FnOk P w K mg base CX0 4 f fd ["many"] (spRun mg false 1 (r_whole_pack)) := by
  have sc := sc_whole_pack
  refine fn_okN ["many"] ["many"] false 3 1 1 (b_whole_pack) F0 sc rfl rfl ?_
  exact fun cdv A outer s H E hr =>
    (sb_cons (ss_expr (se_call C_check_many_packs_0 (hr.mono (by decide)) (sa_cons (se_var (i := 0)) sa_nil)))
    (sb_one (ss_ret (SE.drop (se_listRg1 B (se_var (i := 0)))))))
/-! ### moved_there -/
theorem sc_moved_there : FnScope ["pack", "move", "place"] ["pack", "move"] (defScope s_moved_there) := ⟨rfl, rfl, rfl, by decide +kernel, rfl, by decide +kernel, by decide +kernel⟩
def b_moved_there : Ev Fl :=
    (sRet (eComp (iLst (eVar 1)) (gN 2) cYes (e2 kIx (eVar 0) (eVar 2)) [2]))
def r_moved_there : List T → Sto → Res T := fnRun false 3 (b_moved_there)
theorem ok_moved_there (B : Blt mg)  (F0 : FunD K "moved_there" "moved_there" (defArgs s_moved_there) (defBody s_moved_there) (defScope s_moved_there) [] [] f fd) : FnOk P w K mg base CX0 1 f fd ["pack", "move"] (spRun mg false 2 (r_moved_there)) := by
  have sc := sc_moved_there
  refine fn_okN ["pack", "move", "place"] ["pack", "move"] false 0 3 2 (b_moved_there) F0 sc rfl rfl ?_
  exact fun cdv A outer s H E hr =>
    (sb_one (ss_ret (SE.drop (se_comp [("place", 2)] sc.nd (si_list (se_var (i := 1))) (fun _ _ _ _ _ => (sg_name (i := 2) sc.nd)) (fun _ _ _ _ _ => sts_nil) (fun _ _ _ _ _ => (se_ix hr (se_var (i := 0)) (se_var (i := 2)))) (by first | (show blkC ["pack", "move", "place"] (defScope s_moved_there) _ _ = true; decide +kernel) | (show blkC ["pack", "move", "place"] (relabel _ (envOfC "" (defScope s_moved_there) 0 0 .none)) _ _ = true; decide +kernel))))))
/-! ### moved -/
theorem sc_moved : FnScope ["pack", "move"] ["pack", "move"] (defScope s_moved) := ⟨rfl, rfl, rfl, by decide +kernel, rfl, by decide +kernel, by decide +kernel⟩
def b_moved : Ev Fl :=
    (sSeq (sExpr (eCall 1 [] (r_check_pack) (eCons (eVar 0) eNil)))
    (sSeq (sIf (eNot (eB (eCall 2 [] (r_is_move_there) (eCons (eA kLen (eCons (eVar 0) eNil)) (eCons (eVar 1) eNil))))) eStuck sNil)
    (sRet (eCall 2 [] (r_moved_there) (eCons (eVar 0) (eCons (eVar 1) eNil))))))
def r_moved : List T → Sto → Res T := fnRun false 2 (b_moved)
theorem ok_moved (B : Blt mg) (C_check_pack_0 : CallF P w K mg base 4 "check_pack" false 1 [] (r_check_pack)) (C_is_move_there_0 : CallF P w K mg base 3 "is_move_there" false 2 [] (r_is_move_there)) (C_moved_there_0 : CallF P w K mg base 1 "moved_there" false 2 [] (r_moved_there)) (F0 : FunD K "moved" "moved" (defArgs s_moved) (defBody s_moved) (defScope s_moved) [] [] f fd) : FnOk P w K mg base CX0 5 f fd ["pack", "move"] (spRun mg false 2 (r_moved)) := by
  have sc := sc_moved
  refine fn_okN ["pack", "move"] ["pack", "move"] false 4 2 2 (b_moved) F0 sc rfl rfl ?_
  exact fun cdv A outer s H E hr =>
    (sb_cons (ss_expr (se_call C_check_pack_0 (hr.mono (by decide)) (sa_cons (se_var (i := 0)) sa_nil)))
    (sb_cons (ss_if (st_not (st_val (se_call C_is_move_there_0 (hr.mono (by decide)) (sa_cons (se_len B (sa_cons (se_var (i := 0)) sa_nil)) (sa_cons (se_var (i := 1)) sa_nil))))) (sb_one ss_never) sb_nil)
    (sb_one (ss_ret (se_call C_moved_there_0 (hr.mono (by decide)) (sa_cons (se_var (i := 0)) (sa_cons (se_var (i := 1)) sa_nil)))))))
/-! ### check_many -/
theorem sc_deals_check_many : FnScope ["many"] ["many"] (defScope s_deals_check_many) := ⟨rfl, rfl, rfl, by decide +kernel, rfl, by decide +kernel, by decide +kernel⟩
def b_deals_check_many : Ev Fl :=
    (sIf (eNot (eB (eCall 2 [.int 0] (r_is_count) (eCons (eVar 0) eNil)))) eStuck sNil)
def r_deals_check_many : List T → Sto → Res T := fnRun false 1 (b_deals_check_many)
theorem ok_deals_check_many (B : Blt mg) (C_is_count_1 : CallF P w K mg base 2 "is_count" false 2 [.int 0] (r_is_count)) (F0 : FunD K "check_many" "check_many" (defArgs s_deals_check_many) (defBody s_deals_check_many) (defScope s_deals_check_many) [] [] f fd) : FnOk P w K mg base CX0 3 f fd ["many"] (spRun mg false 1 (r_deals_check_many)) := by
  have sc := sc_deals_check_many
  refine fn_okN ["many"] ["many"] false 2 1 1 (b_deals_check_many) F0 sc rfl rfl ?_
  exact fun cdv A outer s H E hr =>
    (sb_one (ss_if (st_not (st_val (se_call C_is_count_1 (hr.mono (by decide)) (sa_cons (se_var (i := 0)) sa_nil) (fun _ => .cons (.int 0) .nil)))) (sb_one ss_never) sb_nil))
/-! ### check_heaps -/
theorem sc_check_heaps : FnScope ["heaps"] ["heaps"] (defScope s_check_heaps) := ⟨rfl, rfl, rfl, by decide +kernel, rfl, by decide +kernel, by decide +kernel⟩
def b_check_heaps : Ev Fl :=
    (sIf (eNot (eB (eCall 2 [] (r_is_count) (eCons (eVar 0) (eCons (eC (.int 1)) eNil))))) eStuck sNil)
def r_check_heaps : List T → Sto → Res T := fnRun false 1 (b_check_heaps)
theorem ok_check_heaps (B : Blt mg) (C_is_count_0 : CallF P w K mg base 2 "is_count" false 2 [] (r_is_count)) (F0 : FunD K "check_heaps" "check_heaps" (defArgs s_check_heaps) (defBody s_check_heaps) (defScope s_check_heaps) [] [] f fd) : FnOk P w K mg base CX0 3 f fd ["heaps"] (spRun mg false 1 (r_check_heaps)) := by
  have sc := sc_check_heaps
  refine fn_okN ["heaps"] ["heaps"] false 2 1 1 (b_check_heaps) F0 sc rfl rfl ?_
  exact fun cdv A outer s H E hr =>
    (sb_one (ss_if (st_not (st_val (se_call C_is_count_0 (hr.mono (by decide)) (sa_cons (se_var (i := 0)) (sa_cons se_int sa_nil))))) (sb_one ss_never) sb_nil))
/-! ### heaps_there -/
theorem sc_heaps_there : FnScope ["pack", "heaps", "first"] ["pack", "heaps"] (defScope s_heaps_there) := ⟨rfl, rfl, rfl, by decide +kernel, rfl, by decide +kernel, by decide +kernel⟩
def b_heaps_there : Ev Fl :=
    (sRet (eComp (iRg1 (eVar 1)) (gN 2) cYes (e1 kRev (eSlSt (eVar 0) (ePart (eVar 2)) eNone (ePart (eVar 1)))) [2]))
def r_heaps_there : List T → Sto → Res T := fnRun false 3 (b_heaps_there)
theorem ok_heaps_there (B : Blt mg)  (F0 : FunD K "heaps_there" "heaps_there" (defArgs s_heaps_there) (defBody s_heaps_there) (defScope s_heaps_there) [] [] f fd) : FnOk P w K mg base CX0 1 f fd ["pack", "heaps"] (spRun mg false 2 (r_heaps_there)) := by
  have sc := sc_heaps_there
  refine fn_okN ["pack", "heaps", "first"] ["pack", "heaps"] false 0 3 2 (b_heaps_there) F0 sc rfl rfl ?_
  exact fun cdv A outer s H E hr =>
    (sb_one (ss_ret (SE.drop (se_comp [("first", 2)] sc.nd (si_range1 B (se_var (i := 1))) (fun _ _ _ _ _ => (sg_name (i := 2) sc.nd)) (fun _ _ _ _ _ => sts_nil) (fun _ _ _ _ _ => (SE.drop (se_rev (k := 0) (SE.drop (se_slSt (se_var (i := 0)) (so_some (se_var (i := 2))) so_none (so_some (se_var (i := 1)))))))) (by first | (show blkC ["pack", "heaps", "first"] (defScope s_heaps_there) _ _ = true; decide +kernel) | (show blkC ["pack", "heaps", "first"] (relabel _ (envOfC "" (defScope s_heaps_there) 0 0 .none)) _ _ = true; decide +kernel))))))
/-! ### dealt -/
theorem sc_dealt : FnScope ["pack", "heaps"] ["pack", "heaps"] (defScope s_dealt) := ⟨rfl, rfl, rfl, by decide +kernel, rfl, by decide +kernel, by decide +kernel⟩
def b_dealt : Ev Fl :=
    (sSeq (sExpr (eCall 1 [] (r_check_pack) (eCons (eVar 0) eNil)))
    (sSeq (sExpr (eCall 1 [] (r_check_heaps) (eCons (eVar 1) eNil)))
    (sRet (eCall 2 [] (r_heaps_there) (eCons (eVar 0) (eCons (eVar 1) eNil))))))
def r_dealt : List T → Sto → Res T := fnRun false 2 (b_dealt)
theorem ok_dealt (B : Blt mg) (C_check_pack_0 : CallF P w K mg base 4 "check_pack" false 1 [] (r_check_pack)) (C_check_heaps_deals_0 : CallF P w K mg base 3 "check_heaps_deals" false 1 [] (r_check_heaps)) (C_heaps_there_0 : CallF P w K mg base 1 "heaps_there" false 2 [] (r_heaps_there)) (F0 : FunD K "dealt" "dealt" (defArgs s_dealt) (defBody s_dealt) (defScope s_dealt) [] [] f fd) : FnOk P w K mg base CX0 5 f fd ["pack", "heaps"] (spRun mg false 2 (r_dealt)) := by
  have sc := sc_dealt
  refine fn_okN ["pack", "heaps"] ["pack", "heaps"] false 4 2 2 (b_dealt) F0 sc rfl rfl ?_
  exact fun cdv A outer s H E hr =>
    (sb_cons (ss_expr (se_call C_check_pack_0 (hr.mono (by decide)) (sa_cons (se_var (i := 0)) sa_nil)))
    (sb_cons (ss_expr (se_call C_check_heaps_deals_0 (hr.mono (by decide)) (sa_cons (se_var (i := 1)) sa_nil)))
    (sb_one (ss_ret (se_call C_heaps_there_0 (hr.mono (by decide)) (sa_cons (se_var (i := 0)) (sa_cons (se_var (i := 1)) sa_nil)))))))
/-! ### is_order -/
theorem sc_is_order : FnScope ["heaps", "value", "heap"] ["heaps", "value"] (defScope s_is_order) := ⟨rfl, rfl, rfl, by decide +kernel, rfl, by decide +kernel, by decide +kernel⟩
def b_is_order : Ev Fl :=
    (sSeq (sIf (eOr (eNot (eB (e1 (kIsi .list) (eVar 1)))) (eOr (eB (e2 (kVw kNe0) (eA kLen (eCons (eVar 1) eNil)) (eVar 0))) (eNot (eB (eA kAll (eCons (eComp (iLst (eVar 1)) (gN 2) cYes (eCall 2 [.int 0] (r_is_count) (eCons (eVar 2) eNil)) [2]) eNil)))))) (sRet (eC (.bl false))) sNil)
    (sRet (e2 (kVw kEq0) (eA kSorted (eCons (eVar 1) eNil)) (eLrg1 (eVar 0)))))
def r_is_order : List T → Sto → Res T := fnRun false 3 (b_is_order)
theorem ok_is_order (B : Blt mg) (C_is_count_1 : CallF P w K mg base 2 "is_count" false 2 [.int 0] (r_is_count)) (F0 : FunD K "is_order" "is_order" (defArgs s_is_order) (defBody s_is_order) (defScope s_is_order) [] [] f fd) : FnOk P w K mg base CX0 3 f fd ["heaps", "value"] (spRun mg false 2 (r_is_order)) := by
  have sc := sc_is_order
  refine fn_okN ["heaps", "value", "heap"] ["heaps", "value"] false 2 3 2 (b_is_order) F0 sc rfl rfl ?_
  exact fun cdv A outer s H E hr =>
    (sb_cons (ss_if (SW.st (sw_or (st_not (st_val (se_isi B .list (se_var (i := 1))))) (sw_or (st_cmp (p_ne hr).ok (se_len B (sa_cons (se_var (i := 1)) sa_nil)) (se_var (i := 0))) (ST.or1 (st_not (st_val (se_all B (sa_cons (SE.drop (se_comp [("heap", 2)] sc.nd (si_list (se_var (i := 1))) (fun _ _ _ _ _ => (sg_name (i := 2) sc.nd)) (fun _ _ _ _ _ => sts_nil) (fun _ _ _ _ _ => (se_call C_is_count_1 (hr.mono (by decide)) (sa_cons (se_var (i := 2)) sa_nil) (fun _ => .cons (.int 0) .nil))) (by first | (show blkC ["heaps", "value", "heap"] (defScope s_is_order) _ _ = true; decide +kernel) | (show blkC ["heaps", "value", "heap"] (relabel _ (envOfC "" (defScope s_is_order) 0 0 .none)) _ _ = true; decide +kernel)))) sa_nil)))))))) (sb_one (ss_ret se_bl)) sb_nil)
    (sb_one (ss_ret (se_cmp (p_eq hr).ok (SE.drop (se_sorted B (sa_cons (se_var (i := 1)) sa_nil))) (SE.drop (se_listRg1 B (se_var (i := 0))))))))
/-! ### heap_move -/
theorem sc_heap_move : FnScope ["many", "heaps", "order", "rows", "heap", "place"] ["many", "heaps", "order"] (defScope s_heap_move) := ⟨rfl, rfl, rfl, by decide +kernel, rfl, by decide +kernel, by decide +kernel⟩
def b_heap_move : Ev Fl :=
    (sSeq (sExpr (eCall 1 [] (r_deals_check_many) (eCons (eVar 0) eNil)))
    (sSeq (sExpr (eCall 1 [] (r_check_heaps) (eCons (eVar 1) eNil)))
    (sSeq (sIf (eNot (eB (eCall 2 [] (r_is_order) (eCons (eVar 1) (eCons (eVar 2) eNil))))) eStuck sNil)
    (sSeq (sAsg (eCall 2 [] (r_heaps_there) (eCons (eLrg1 (eVar 0)) (eCons (eVar 1) eNil))) (gN 3))
    (sRet (eComp2 (iLst (eVar 2)) (gN 4) cYes (iLst (e2 kIx (eVar 3) (eVar 4))) (gN 5) cYes (eVar 5) [4, 5] [5]))))))
def r_heap_move : List T → Sto → Res T := fnRun false 6 (b_heap_move)
theorem ok_heap_move (B : Blt mg) (C_check_many_deals_0 : CallF P w K mg base 3 "check_many_deals" false 1 [] (r_deals_check_many)) (C_check_heaps_deals_0 : CallF P w K mg base 3 "check_heaps_deals" false 1 [] (r_check_heaps)) (C_is_order_0 : CallF P w K mg base 3 "is_order" false 2 [] (r_is_order)) (C_heaps_there_0 : CallF P w K mg base 1 "heaps_there" false 2 [] (r_heaps_there)) (F0 : FunD K "heap_move" "heap_move" (defArgs s_heap_move) (defBody s_heap_move) (defScope s_heap_move) [] [] f fd) : FnOk P w K mg base CX0 4 f fd ["many", "heaps", "order"] (spRun mg false 3 (r_heap_move)) := by
  have sc := sc_heap_move
  refine fn_okN ["many", "heaps", "order", "rows", "heap", "place"] ["many", "heaps", "order"] false 3 6 3 (b_heap_move) F0 sc rfl rfl ?_
  exact fun cdv A outer s H E hr =>
    (sb_cons (ss_expr (se_call C_check_many_deals_0 (hr.mono (by decide)) (sa_cons (se_var (i := 0)) sa_nil)))
    (sb_cons (ss_expr (se_call C_check_heaps_deals_0 (hr.mono (by decide)) (sa_cons (se_var (i := 1)) sa_nil)))
    (sb_cons (ss_if (st_not (st_val (se_call C_is_order_0 (hr.mono (by decide)) (sa_cons (se_var (i := 1)) (sa_cons (se_var (i := 2)) sa_nil))))) (sb_one ss_never) sb_nil)
    (sb_cons (ss_set (i := 3) sc.nd (se_call C_heaps_there_0 (hr.mono (by decide)) (sa_cons (SE.drop (se_listRg1 B (se_var (i := 0)))) (sa_cons (se_var (i := 1)) sa_nil))))
    (sb_one (ss_ret (SE.drop (se_comp2 [("heap", 4), ("place", 5)] [5] sc.nd (si_list (se_var (i := 2))) (fun _ _ _ _ _ => (sg_name (i := 4) sc.nd)) (fun _ _ _ _ _ => sts_nil) (fun _ _ _ _ _ => (si_list (se_ix hr (se_var (i := 3)) (se_var (i := 4))))) (fun _ _ _ _ _ => (sg_name (i := 5) sc.nd)) (fun _ _ _ _ _ => sts_nil) (fun _ _ _ _ _ => (se_var (i := 5))) (by first | (show blkC ["many", "heaps", "order", "rows", "heap", "place"] (defScope s_heap_move) _ _ = true; decide +kernel) | (show blkC ["many", "heaps", "order", "rows", "heap", "place"] (relabel _ (envOfC "" (defScope s_heap_move) 0 0 .none)) _ _ = true; decide +kernel))))))))))
/-! ### monge_move -/
theorem sc_monge_move : FnScope ["many", "over", "place"] ["many"] (defScope s_monge_move) := ⟨rfl, rfl, rfl, by decide +kernel, rfl, by decide +kernel, by decide +kernel⟩
def b_monge_move : Ev Fl :=
    (sSeq (sExpr (eCall 1 [] (r_deals_check_many) (eCons (eVar 0) eNil)))
    (sSeq (sAsg (eLrg3 (e2 kSub (eVar 0) (eC (.int 1))) (e1 kNeg (eC (.int 1))) (e1 kNeg (eC (.int 2)))) (gN 1))
    (sRet (e2 kAddL (eVar 1) (eComp (iRg1 (eVar 0)) (gN 2) (eB (e2 (kVw kEq0) (e2 kMod (e2 kSub (e2 kSub (eVar 0) (eC (.int 1))) (eVar 2)) (eC (.int 2))) (eC (.int 1)))) (eVar 2) [2])))))
def r_monge_move : List T → Sto → Res T := fnRun false 3 (b_monge_move)
theorem ok_monge_move (B : Blt mg) (C_check_many_deals_0 : CallF P w K mg base 3 "check_many_deals" false 1 [] (r_deals_check_many)) (F0 : FunD K "monge_move" "monge_move" (defArgs s_monge_move) (defBody s_monge_move) (defScope s_monge_move) [] [] f fd) : FnOk P w K mg base CX0 4 f fd ["many"] (spRun mg false 1 (r_monge_move)) := by
  have sc := sc_monge_move
  refine fn_okN ["many", "over", "place"] ["many"] false 3 3 1 (b_monge_move) F0 sc rfl rfl ?_
  exact fun cdv A outer s H E hr =>
    (sb_cons (ss_expr (se_call C_check_many_deals_0 (hr.mono (by decide)) (sa_cons (se_var (i := 0)) sa_nil)))
    (sb_cons (ss_set (i := 1) sc.nd (SE.drop (se_listRg3 B (se_sub (se_var (i := 0)) se_int) (se_neg se_int) (se_neg se_int))))
    (sb_one (ss_ret (SE.drop (se_addL (se_var (i := 1)) (SE.drop (se_comp [("place", 2)] sc.nd (si_range1 B (se_var (i := 0))) (fun _ _ _ _ _ => (sg_name (i := 2) sc.nd)) (fun _ _ _ _ _ => (sts_one (st_cmp (p_eq hr).ok (se_mod (se_sub (se_sub (se_var (i := 0)) se_int) (se_var (i := 2))) se_int) se_int))) (fun _ _ _ _ _ => (se_var (i := 2))) (by first | (show blkC ["many", "over", "place"] (defScope s_monge_move) _ _ = true; decide +kernel) | (show blkC ["many", "over", "place"] (relabel _ (envOfC "" (defScope s_monge_move) 0 0 .none)) _ _ = true; decide +kernel))))))))))
/-! ### milk_move -/
theorem sc_milk_move : FnScope ["many", "found", "place"] ["many"] (defScope s_milk_move) := ⟨rfl, rfl, rfl, by decide +kernel, rfl, by decide +kernel, by decide +kernel⟩
def b_milk_move : Ev Fl :=
    (sSeq (sExpr (eCall 1 [] (r_deals_check_many) (eCons (eVar 0) eNil)))
    (sSeq (sAsg (eLst eNil) (gN 1))
    (sSeq (sFor (iRg1 (e2 kDiv (eVar 0) (eC (.int 2)))) (gN 2) (sAsg (eLst (eCons (e2 kSub (e2 kSub (eVar 0) (eC (.int 1))) (eVar 2)) (eCons (eVar 2) (eStar (eVar 1) eNil)))) (gN 1)))
    (sRet (eIf (eB (e2 (kVw kEq0) (e2 kMod (eVar 0) (eC (.int 2))) (eC (.int 1)))) (eLst (eCons (e2 kDiv (eVar 0) (eC (.int 2))) (eStar (eVar 1) eNil))) (eVar 1))))))
def r_milk_move : List T → Sto → Res T := fnRun false 3 (b_milk_move)
theorem ok_milk_move (B : Blt mg) (C_check_many_deals_0 : CallF P w K mg base 3 "check_many_deals" false 1 [] (r_deals_check_many)) (F0 : FunD K "milk_move" "milk_move" (defArgs s_milk_move) (defBody s_milk_move) (defScope s_milk_move) [] [] f fd) : FnOk P w K mg base CX0 4 f fd ["many"] (spRun mg false 1 (r_milk_move)) := by
  have sc := sc_milk_move
  refine fn_okN ["many", "found", "place"] ["many"] false 3 3 1 (b_milk_move) F0 sc rfl rfl ?_
  exact fun cdv A outer s H E hr =>
    (sb_cons (ss_expr (se_call C_check_many_deals_0 (hr.mono (by decide)) (sa_cons (se_var (i := 0)) sa_nil)))
    (sb_cons (ss_set (i := 1) sc.nd (SE.drop (se_lst sa_nil)))
    (sb_cons (ss_for (si_range1 B (se_fdiv (se_var (i := 0)) se_int)) (sg_name (i := 2) sc.nd) (sb_one (ss_set (i := 1) sc.nd (SE.drop (se_lst (sa_cons (se_sub (se_sub (se_var (i := 0)) se_int) (se_var (i := 2))) (sa_cons (se_var (i := 2)) (sa_star (se_var (i := 1)) sa_nil))))))))
    (sb_one (ss_ret (se_if (st_cmp (p_eq hr).ok (se_mod (se_var (i := 0)) se_int) se_int) (SE.drop (se_lst (sa_cons (se_fdiv (se_var (i := 0)) se_int) (sa_star (se_var (i := 1)) sa_nil)))) (se_var (i := 1))))))))
/-! ### are_lengths -/
theorem sc_are_lengths : FnScope ["pack", "value", "length"] ["pack", "value"] (defScope s_are_lengths) := ⟨rfl, rfl, rfl, by decide +kernel, rfl, by decide +kernel, by decide +kernel⟩
def b_are_lengths : Ev Fl :=
    (sRet (vAnd (e1 (kIsi .list) (eVar 1)) (vAnd (e2 kLe (eA kLen (eCons (eVar 1) eNil)) (eA kLen (eCons (eVar 0) eNil))) (eA kAll (eCons (eComp (iLst (eVar 1)) (gN 2) cYes (eCall 2 [] (r_is_count) (eCons (eVar 2) (eCons (eC (.int 1)) eNil))) [2]) eNil)))))
def r_are_lengths : List T → Sto → Res T := fnRun false 3 (b_are_lengths)
theorem ok_are_lengths (B : Blt mg) (C_is_count_0 : CallF P w K mg base 2 "is_count" false 2 [] (r_is_count)) (F0 : FunD K "are_lengths" "are_lengths" (defArgs s_are_lengths) (defBody s_are_lengths) (defScope s_are_lengths) [] [] f fd) : FnOk P w K mg base CX0 3 f fd ["pack", "value"] (spRun mg false 2 (r_are_lengths)) := by
  have sc := sc_are_lengths
  refine fn_okN ["pack", "value", "length"] ["pack", "value"] false 2 3 2 (b_are_lengths) F0 sc rfl rfl ?_
  exact fun cdv A outer s H E hr =>
    (sb_one (ss_ret (se_and (se_isi B .list (se_var (i := 1))) (se_and (se_cmp c_le (se_len B (sa_cons (se_var (i := 1)) sa_nil)) (se_len B (sa_cons (se_var (i := 0)) sa_nil))) (se_one (se_all B (sa_cons (SE.drop (se_comp [("length", 2)] sc.nd (si_list (se_var (i := 1))) (fun _ _ _ _ _ => (sg_name (i := 2) sc.nd)) (fun _ _ _ _ _ => sts_nil) (fun _ _ _ _ _ => (se_call C_is_count_0 (hr.mono (by decide)) (sa_cons (se_var (i := 2)) (sa_cons se_int sa_nil)))) (by first | (show blkC ["pack", "value", "length"] (defScope s_are_lengths) _ _ = true; decide +kernel) | (show blkC ["pack", "value", "length"] (relabel _ (envOfC "" (defScope s_are_lengths) 0 0 .none)) _ _ = true; decide +kernel)))) sa_nil)))))))
/-! ### check_lengths -/
theorem sc_check_lengths : FnScope ["pack", "lengths"] ["pack", "lengths"] (defScope s_check_lengths) := ⟨rfl, rfl, rfl, by decide +kernel, rfl, by decide +kernel, by decide +kernel⟩
def b_check_lengths : Ev Fl :=
    (sSeq (sExpr (eCall 1 [] (r_check_pack) (eCons (eVar 0) eNil)))
    (sIf (eNot (eB (eCall 2 [] (r_are_lengths) (eCons (eVar 0) (eCons (eVar 1) eNil))))) eStuck sNil))
def r_check_lengths : List T → Sto → Res T := fnRun false 2 (b_check_lengths)
theorem ok_check_lengths (B : Blt mg) (C_check_pack_0 : CallF P w K mg base 4 "check_pack" false 1 [] (r_check_pack)) (C_are_lengths_0 : CallF P w K mg base 3 "are_lengths" false 2 [] (r_are_lengths)) (F0 : FunD K "check_lengths" "check_lengths" (defArgs s_check_lengths) (defBody s_check_lengths) (defScope s_check_lengths) [] [] f fd) : FnOk P w K mg base CX0 5 f fd ["pack", "lengths"] (spRun mg false 2 (r_check_lengths)) := by
  have sc := sc_check_lengths
  refine fn_okN ["pack", "lengths"] ["pack", "lengths"] false 4 2 2 (b_check_lengths) F0 sc rfl rfl ?_
  exact fun cdv A outer s H E hr =>
    (sb_cons (ss_expr (se_call C_check_pack_0 (hr.mono (by decide)) (sa_cons (se_var (i := 0)) sa_nil)))
    (sb_one (ss_if (st_not (st_val (se_call C_are_lengths_0 (hr.mono (by decide)) (sa_cons (se_var (i := 0)) (sa_cons (se_var (i := 1)) sa_nil))))) (sb_one ss_never) sb_nil)))
/-! ### spelled_there -/
theorem sc_spelled_there : FnScope ["row", "lengths", "length", "left", "shown", "under"] ["row", "lengths"] (defScope s_spelled_there) := ⟨rfl, rfl, rfl, by decide +kernel, rfl, by decide +kernel, by decide +kernel⟩
def b_spelled_there : Ev Fl :=
    (sSeq (sPar 3 4 (eCons (eA kList (eCons (eVar 0) eNil)) (eCons (eNew (eLst eNil)) eNil)))
    (sSeq (sFor (iLst (eVar 1)) (gN 2) (sSeq (sAsg (e2 kMod (e2 kSub (eVar 2) (eC (.int 1))) (eA kLen (eCons (eVar 3) eNil))) (gN 5))
    (sSeq (sAsg (e2 kAddL (eSl (eVar 3) (ePart (eVar 5)) eNone) (eSl (eVar 3) eNone (ePart (eVar 5)))) (gN 3))
    (sSeq (sExpr (eBm kApp (eVar 4) (eCons (e2 kIx (eVar 3) (eC (.int 0))) eNil)))
    (sAsg (eSl (eVar 3) (ePart (eC (.int 1))) eNone) (gN 3))))))
    (sRet (eTup (eCons (eFrz (eVar 4)) (eCons (eVar 3) eNil))))))
def r_spelled_there : List T → Sto → Res T := lone (fnRun false 6 (b_spelled_there))
theorem ok_spelled_there (B : Blt mg)  (F0 : FunD K "spelled_there" "spelled_there" (defArgs s_spelled_there) (defBody s_spelled_there) (defScope s_spelled_there) [] [] f fd) : FnOk P w K mg base CX0 1 f fd ["row", "lengths"] (spRun mg false 2 (r_spelled_there)) := by
  have sc := sc_spelled_there
  refine fn_lone ?_
  refine fn_okN ["row", "lengths", "length", "left", "shown", "under"] ["row", "lengths"] false 0 6 2 (b_spelled_there) F0 sc rfl rfl ?_
  exact fun cdv A outer s H E hr =>
    (sb_cons (ss_par (i := 3) (j := 4) sc.nd (sa_cons (SE.drop (se_listC B (sa_cons (se_var (i := 0)) sa_nil))) (sa_cons (SE.new (se_lst sa_nil)) sa_nil)))
    (sb_cons (ss_for (si_list (se_var (i := 1))) (sg_name (i := 2) sc.nd) (sb_cons (ss_set (i := 5) sc.nd (se_mod (se_sub (se_var (i := 2)) se_int) (se_len B (sa_cons (se_var (i := 3)) sa_nil))))
    (sb_cons (ss_set (i := 3) sc.nd (SE.drop (se_addL (SE.drop (se_sl (se_var (i := 3)) (so_some (se_var (i := 5))) so_none)) (SE.drop (se_sl (se_var (i := 3)) so_none (so_some (se_var (i := 5))))))))
    (sb_cons (ss_expr (se_append (se_var (i := 4)) (sa_cons (se_ix hr (se_var (i := 3)) se_int) sa_nil)))
    (sb_one (ss_set (i := 3) sc.nd (SE.drop (se_sl (se_var (i := 3)) (so_some se_int) so_none))))))))
    (sb_one (ss_ret (se_tup (sa_cons (SE.frz (se_var (i := 4))) (sa_cons (se_var (i := 3)) sa_nil)))))))
/-! ### spelled -/
theorem sc_spelled : FnScope ["pack", "lengths"] ["pack", "lengths"] (defScope s_spelled) := ⟨rfl, rfl, rfl, by decide +kernel, rfl, by decide +kernel, by decide +kernel⟩
def b_spelled : Ev Fl :=
    (sSeq (sExpr (eCall 2 [] (r_check_lengths) (eCons (eVar 0) (eCons (eVar 1) eNil))))
    (sRet (eCall 2 [] (r_spelled_there) (eCons (eVar 0) (eCons (eVar 1) eNil)))))
def r_spelled : List T → Sto → Res T := fnRun false 2 (b_spelled)
theorem ok_spelled (B : Blt mg) (C_check_lengths_0 : CallF P w K mg base 5 "check_lengths" false 2 [] (r_check_lengths)) (C_spelled_there_0 : CallF P w K mg base 1 "spelled_there" false 2 [] (r_spelled_there)) (F0 : FunD K "spelled" "spelled" (defArgs s_spelled) (defBody s_spelled) (defScope s_spelled) [] [] f fd) : FnOk P w K mg base CX0 6 f fd ["pack", "lengths"] (spRun mg false 2 (r_spelled)) := by
  have sc := sc_spelled
  refine fn_okN ["pack", "lengths"] ["pack", "lengths"] false 5 2 2 (b_spelled) F0 sc rfl rfl ?_
  exact fun cdv A outer s H E hr =>
    (sb_cons (ss_expr (se_call C_check_lengths_0 (hr.mono (by decide)) (sa_cons (se_var (i := 0)) (sa_cons (se_var (i := 1)) sa_nil))))
    (sb_one (ss_ret (se_call C_spelled_there_0 (hr.mono (by decide)) (sa_cons (se_var (i := 0)) (sa_cons (se_var (i := 1)) sa_nil))))))
/-! ### set_to_spell -/
theorem sc_set_to_spell : FnScope ["pack", "lengths", "found", "shown", "left", "card", "place"] ["pack", "lengths"] (defScope s_set_to_spell) := ⟨rfl, rfl, rfl, by decide +kernel, rfl, by decide +kernel, by decide +kernel⟩
def b_set_to_spell : Ev Fl :=
    (sSeq (sExpr (eCall 2 [] (r_check_lengths) (eCons (eVar 0) (eCons (eVar 1) eNil))))
    (sSeq (sAsg (eCall 2 [] (r_spelled_there) (eCons (eLrg1 (eA kLen (eCons (eVar 0) eNil))) (eCons (eVar 1) eNil))) (gTup 2 (gCons (gN 3) (gCons (gN 4) gNil))))
    (sSeq (sAsg (eNew (eA kList (eCons (eVar 0) eNil))) (gN 2))
    (sSeq (sFor (iZp (eVar 0) (e2 kAddL (eVar 3) (eVar 4))) (gTup 2 (gCons (gN 5) (gCons (gN 6) gNil))) (sAsg (eVar 5) (gAt (eVar 2) (eVar 6))))
    (sRet (eFrz (eVar 2)))))))
def r_set_to_spell : List T → Sto → Res T := lone (fnRun false 7 (b_set_to_spell))
theorem ok_set_to_spell (B : Blt mg) (C_check_lengths_0 : CallF P w K mg base 5 "check_lengths" false 2 [] (r_check_lengths)) (C_spelled_there_0 : CallF P w K mg base 1 "spelled_there" false 2 [] (r_spelled_there)) (F0 : FunD K "set_to_spell" "set_to_spell" (defArgs s_set_to_spell) (defBody s_set_to_spell) (defScope s_set_to_spell) [] [] f fd) : FnOk P w K mg base CX0 6 f fd ["pack", "lengths"] (spRun mg false 2 (r_set_to_spell)) := by
  have sc := sc_set_to_spell
  refine fn_lone ?_
  refine fn_okN ["pack", "lengths", "found", "shown", "left", "card", "place"] ["pack", "lengths"] false 5 7 2 (b_set_to_spell) F0 sc rfl rfl ?_
  exact fun cdv A outer s H E hr =>
    (sb_cons (ss_expr (se_call C_check_lengths_0 (hr.mono (by decide)) (sa_cons (se_var (i := 0)) (sa_cons (se_var (i := 1)) sa_nil))))
    (sb_cons (ss_asg (se_call C_spelled_there_0 (hr.mono (by decide)) (sa_cons (SE.drop (se_listRg1 B (se_len B (sa_cons (se_var (i := 0)) sa_nil)))) (sa_cons (se_var (i := 1)) sa_nil))) (sg_tup (n := 2) (sgs_cons (sg_name (i := 3) sc.nd) (sgs_cons (sg_name (i := 4) sc.nd) sgs_nil))))
    (sb_cons (ss_set (i := 2) sc.nd (SE.new (se_listC B (sa_cons (se_var (i := 0)) sa_nil))))
    (sb_cons (ss_for (si_zip B (se_var (i := 0)) (SE.drop (se_addL (se_var (i := 3)) (se_var (i := 4))))) (sg_tup (n := 2) (sgs_cons (sg_name (i := 5) sc.nd) (sgs_cons (sg_name (i := 6) sc.nd) sgs_nil))) (sb_one (ss_asg (se_var (i := 5)) (sg_at hr (se_var (i := 2)) (se_var (i := 6))))))
    (sb_one (ss_ret (SE.frz (se_var (i := 2)))))))))
/-! ### check_step -/
theorem sc_check_step : FnScope ["step"] ["step"] (defScope s_check_step) := ⟨rfl, rfl, rfl, by decide +kernel, rfl, by decide +kernel, by decide +kernel⟩
def b_check_step : Ev Fl :=
    (sIf (eNot (eB (eCall 2 [] (r_is_count) (eCons (eVar 0) (eCons (eC (.int 1)) eNil))))) eStuck sNil)
def r_check_step : List T → Sto → Res T := fnRun false 1 (b_check_step)
theorem ok_check_step (B : Blt mg) (C_is_count_0 : CallF P w K mg base 2 "is_count" false 2 [] (r_is_count)) (F0 : FunD K "check_step" "check_step" (defArgs s_check_step) (defBody s_check_step) (defScope s_check_step) [] [] f fd) : FnOk P w K mg base CX0 3 f fd ["step"] (spRun mg false 1 (r_check_step)) := by
  have sc := sc_check_step
  refine fn_okN ["step"] ["step"] false 2 1 1 (b_check_step) F0 sc rfl rfl ?_
  exact fun cdv A outer s H E hr =>
    (sb_one (ss_if (st_not (st_val (se_call C_is_count_0 (hr.mono (by decide)) (sa_cons (se_var (i := 0)) (sa_cons se_int sa_nil))))) (sb_one ss_never) sb_nil))
/-! ### check_some -/
theorem sc_check_some : FnScope ["many"] ["many"] (defScope s_check_some) := ⟨rfl, rfl, rfl, by decide +kernel, rfl, by decide +kernel, by decide +kernel⟩
def b_check_some : Ev Fl :=
    (sIf (eNot (eB (eCall 2 [] (r_is_count) (eCons (eVar 0) (eCons (eC (.int 1)) eNil))))) eStuck sNil)
def r_check_some : List T → Sto → Res T := fnRun false 1 (b_check_some)
theorem ok_check_some (B : Blt mg) (C_is_count_0 : CallF P w K mg base 2 "is_count" false 2 [] (r_is_count)) (F0 : FunD K "check_some" "check_some" (defArgs s_check_some) (defBody s_check_some) (defScope s_check_some) [] [] f fd) : FnOk P w K mg base CX0 3 f fd ["many"] (spRun mg false 1 (r_check_some)) := by
  have sc := sc_check_some
  refine fn_okN ["many"] ["many"] false 2 1 1 (b_check_some) F0 sc rfl rfl ?_
  exact fun cdv A outer s H E hr =>
    (sb_one (ss_if (st_not (st_val (se_call C_is_count_0 (hr.mono (by decide)) (sa_cons (se_var (i := 0)) (sa_cons se_int sa_nil))))) (sb_one ss_never) sb_nil))
/-! ### order_there -/
theorem sc_order_there : FnScope ["many", "step", "left", "found", "at"] ["many", "step"] (defScope s_order_there) := ⟨rfl, rfl, rfl, by decide +kernel, rfl, by decide +kernel, by decide +kernel⟩
def b_order_there : Ev Fl :=
    (sSeq (sPar3 2 3 4 (eCons (eLrg1 (eVar 0)) (eCons (eNew (eLst eNil)) (eCons (eC (.int 0)) eNil))))
    (sSeq (sWhile (eB (e2 (kVw kNe0) (eVar 2) (eLst eNil))) (sSeq (sAsg (e2 kMod (e2 kSub (e2 kAddI (eVar 4) (eVar 1)) (eC (.int 1))) (eA kLen (eCons (eVar 2) eNil))) (gN 4))
    (sSeq (sExpr (eBm kApp (eVar 3) (eCons (e2 kIx (eVar 2) (eVar 4)) eNil)))
    (sAsg (e2 kAddL (eSl (eVar 2) eNone (ePart (eVar 4))) (eSl (eVar 2) (ePart (e2 kAddI (eVar 4) (eC (.int 1)))) eNone)) (gN 2)))) 60)
    (sRet (eFrz (eVar 3)))))
def r_order_there : List T → Sto → Res T := lone (fnRun false 5 (b_order_there))
theorem ok_order_there (B : Blt mg)  (F0 : FunD K "order_there" "order_there" (defArgs s_order_there) (defBody s_order_there) (defScope s_order_there) [] [] f fd) : FnOk P w K mg base CX0 1 f fd ["many", "step"] (spRun mg false 2 (r_order_there)) := by
  have sc := sc_order_there
  refine fn_lone ?_
  refine fn_okN ["many", "step", "left", "found", "at"] ["many", "step"] false 0 5 2 (b_order_there) F0 sc rfl rfl ?_
  exact fun cdv A outer s H E hr =>
    (sb_cons (ss_par3 (i := 2) (j := 3) (l := 4) sc.nd (sa_cons (SE.drop (se_listRg1 B (se_var (i := 0)))) (sa_cons (SE.new (se_lst sa_nil)) (sa_cons se_int sa_nil))))
    (sb_cons (ss_while 60 (st_cmp (p_ne hr).ok (se_var (i := 2)) (SE.drop (se_lst sa_nil))) (sb_cons (ss_set (i := 4) sc.nd (se_mod (se_sub (se_addI (se_var (i := 4)) (se_var (i := 1))) se_int) (se_len B (sa_cons (se_var (i := 2)) sa_nil))))
    (sb_cons (ss_expr (se_append (se_var (i := 3)) (sa_cons (se_ix hr (se_var (i := 2)) (se_var (i := 4))) sa_nil)))
    (sb_one (ss_set (i := 2) sc.nd (SE.drop (se_addL (SE.drop (se_sl (se_var (i := 2)) so_none (so_some (se_var (i := 4))))) (SE.drop (se_sl (se_var (i := 2)) (so_some (se_addI (se_var (i := 4)) se_int)) so_none)))))))))
    (sb_one (ss_ret (SE.frz (se_var (i := 3)))))))
/-! ### out_order -/
theorem sc_out_order : FnScope ["many", "step"] ["many", "step"] (defScope s_out_order) := ⟨rfl, rfl, rfl, by decide +kernel, rfl, by decide +kernel, by decide +kernel⟩
def b_out_order : Ev Fl :=
    (sSeq (sExpr (eCall 1 [] (r_deals_check_many) (eCons (eVar 0) eNil)))
    (sSeq (sExpr (eCall 1 [] (r_check_step) (eCons (eVar 1) eNil)))
    (sRet (eCall 2 [] (r_order_there) (eCons (eVar 0) (eCons (eVar 1) eNil))))))
def r_out_order : List T → Sto → Res T := fnRun false 2 (b_out_order)
theorem ok_out_order (B : Blt mg) (C_check_many_deals_0 : CallF P w K mg base 3 "check_many_deals" false 1 [] (r_deals_check_many)) (C_check_step_0 : CallF P w K mg base 3 "check_step" false 1 [] (r_check_step)) (C_order_there_counts_0 : CallF P w K mg base 1 "order_there_counts" false 2 [] (r_order_there)) (F0 : FunD K "out_order" "out_order" (defArgs s_out_order) (defBody s_out_order) (defScope s_out_order) [] [] f fd) : FnOk P w K mg base CX0 4 f fd ["many", "step"] (spRun mg false 2 (r_out_order)) := by
  have sc := sc_out_order
  refine fn_okN ["many", "step"] ["many", "step"] false 3 2 2 (b_out_order) F0 sc rfl rfl ?_
  exact fun cdv A outer s H E hr =>
    (sb_cons (ss_expr (se_call C_check_many_deals_0 (hr.mono (by decide)) (sa_cons (se_var (i := 0)) sa_nil)))
    (sb_cons (ss_expr (se_call C_check_step_0 (hr.mono (by decide)) (sa_cons (se_var (i := 1)) sa_nil)))
    (sb_one (ss_ret (se_call C_order_there_counts_0 (hr.mono (by decide)) (sa_cons (se_var (i := 0)) (sa_cons (se_var (i := 1)) sa_nil)))))))
/-! ### place_there -/
theorem sc_place_there : FnScope ["many", "step", "turn", "size", "here", "turns"] ["many", "step", "turn"] (defScope s_place_there) := ⟨rfl, rfl, rfl, by decide +kernel, rfl, by decide +kernel, by decide +kernel⟩
def b_place_there : Ev Fl :=
    (sSeq (sAsg (e2 kSub (eVar 0) (eVar 2)) (gN 3))
    (sSeq (sAsg (e2 kMod (e2 kSub (eVar 1) (eC (.int 1))) (eVar 3)) (gN 4))
    (sSeq (sIf (eB (e2 (kVw kEq0) (eVar 1) (eC (.int 1)))) (sRet (e2 kAddI (eVar 4) (eVar 2))) sNil)
    (sSeq (sWhile (eB (e2 kLt (eVar 3) (eVar 0))) (sSeq (sAsg (eA kMin (eCons (e2 kDiv (e2 kSub (e2 kSub (eVar 3) (eVar 4)) (eC (.int 1))) (e2 kSub (eVar 1) (eC (.int 1)))) (eCons (e2 kSub (eVar 0) (eVar 3)) eNil))) (gN 5))
    (sIf (eB (e2 (kVw kEq0) (eVar 5) (eC (.int 0)))) (sSeq (sAsg (e2 kAddI (eVar 3) (eC (.int 1))) (gN 3))
    (sAsg (e2 kMod (e2 kAddI (eVar 4) (eVar 1)) (eVar 3)) (gN 4))) (sPar 3 4 (eCons (e2 kAddI (eVar 3) (eVar 5)) (eCons (e2 kAddI (eVar 4) (e2 kMul (eVar 5) (eVar 1))) eNil))))) 60)
    (sRet (eVar 4))))))
def r_place_there : List T → Sto → Res T := fnRun false 6 (b_place_there)
theorem ok_place_there (B : Blt mg)  (F0 : FunD K "place_there" "place_there" (defArgs s_place_there) (defBody s_place_there) (defScope s_place_there) [] [] f fd) : FnOk P w K mg base CX0 1 f fd ["many", "step", "turn"] (spRun mg false 3 (r_place_there)) := by
  have sc := sc_place_there
  refine fn_okN ["many", "step", "turn", "size", "here", "turns"] ["many", "step", "turn"] false 0 6 3 (b_place_there) F0 sc rfl rfl ?_
  exact fun cdv A outer s H E hr =>
    (sb_cons (ss_set (i := 3) sc.nd (se_sub (se_var (i := 0)) (se_var (i := 2))))
    (sb_cons (ss_set (i := 4) sc.nd (se_mod (se_sub (se_var (i := 1)) se_int) (se_var (i := 3))))
    (sb_cons (ss_if (st_cmp (p_eq hr).ok (se_var (i := 1)) se_int) (sb_one (ss_ret (se_addI (se_var (i := 4)) (se_var (i := 2))))) sb_nil)
    (sb_cons (ss_while 60 (st_cmp c_lt (se_var (i := 3)) (se_var (i := 0))) (sb_cons (ss_set (i := 5) sc.nd (se_min B (sa_cons (se_fdiv (se_sub (se_sub (se_var (i := 3)) (se_var (i := 4))) se_int) (se_sub (se_var (i := 1)) se_int)) (sa_cons (se_sub (se_var (i := 0)) (se_var (i := 3))) sa_nil))))
    (sb_one (ss_if (st_cmp (p_eq hr).ok (se_var (i := 5)) se_int) (sb_cons (ss_set (i := 3) sc.nd (se_addI (se_var (i := 3)) se_int))
    (sb_one (ss_set (i := 4) sc.nd (se_mod (se_addI (se_var (i := 4)) (se_var (i := 1))) (se_var (i := 3)))))) (sb_one (ss_par (i := 3) (j := 4) sc.nd (sa_cons (se_addI (se_var (i := 3)) (se_var (i := 5))) (sa_cons (se_addI (se_var (i := 4)) (se_mul (se_var (i := 5)) (se_var (i := 1)))) sa_nil))))))))
    (sb_one (ss_ret (se_var (i := 4))))))))
/-! ### last_place -/
theorem sc_last_place : FnScope ["many", "step"] ["many", "step"] (defScope s_last_place) := ⟨rfl, rfl, rfl, by decide +kernel, rfl, by decide +kernel, by decide +kernel⟩
def b_last_place : Ev Fl :=
    (sSeq (sExpr (eCall 1 [] (r_check_some) (eCons (eVar 0) eNil)))
    (sSeq (sExpr (eCall 1 [] (r_check_step) (eCons (eVar 1) eNil)))
    (sRet (eCall 3 [] (r_place_there) (eCons (eVar 0) (eCons (eVar 1) (eCons (e2 kSub (eVar 0) (eC (.int 1))) eNil)))))))
def r_last_place : List T → Sto → Res T := fnRun false 2 (b_last_place)
theorem ok_last_place (B : Blt mg) (C_check_some_0 : CallF P w K mg base 3 "check_some" false 1 [] (r_check_some)) (C_check_step_0 : CallF P w K mg base 3 "check_step" false 1 [] (r_check_step)) (C_place_there_0 : CallF P w K mg base 1 "place_there" false 3 [] (r_place_there)) (F0 : FunD K "last_place" "last_place" (defArgs s_last_place) (defBody s_last_place) (defScope s_last_place) [] [] f fd) : FnOk P w K mg base CX0 4 f fd ["many", "step"] (spRun mg false 2 (r_last_place)) := by
  have sc := sc_last_place
  refine fn_okN ["many", "step"] ["many", "step"] false 3 2 2 (b_last_place) F0 sc rfl rfl ?_
  exact fun cdv A outer s H E hr =>
    (sb_cons (ss_expr (se_call C_check_some_0 (hr.mono (by decide)) (sa_cons (se_var (i := 0)) sa_nil)))
    (sb_cons (ss_expr (se_call C_check_step_0 (hr.mono (by decide)) (sa_cons (se_var (i := 1)) sa_nil)))
    (sb_one (ss_ret (se_call C_place_there_0 (hr.mono (by decide)) (sa_cons (se_var (i := 0)) (sa_cons (se_var (i := 1)) (sa_cons (se_sub (se_var (i := 0)) se_int) sa_nil))))))))
/-! ### out_turn -/
theorem sc_out_turn : FnScope ["many", "step", "place", "size", "here"] ["many", "step", "place"] (defScope s_out_turn) := ⟨rfl, rfl, rfl, by decide +kernel, rfl, by decide +kernel, by decide +kernel⟩
def b_out_turn : Ev Fl :=
    (sSeq (sExpr (eCall 1 [] (r_check_some) (eCons (eVar 0) eNil)))
    (sSeq (sExpr (eCall 1 [] (r_check_step) (eCons (eVar 1) eNil)))
    (sSeq (sIf (eOr (eNot (eB (eCall 2 [.int 0] (r_is_count) (eCons (eVar 2) eNil)))) (eB (e2 kGe (eVar 2) (eVar 0)))) eStuck sNil)
    (sSeq (sPar 3 4 (eCons (eVar 0) (eCons (eVar 2) eNil)))
    (sSeq (sWhile (eB (e2 (kVw kNe0) (eVar 4) (e2 kMod (e2 kSub (eVar 1) (eC (.int 1))) (eVar 3)))) (sPar 4 3 (eCons (e2 kMod (e2 kSub (eVar 4) (eVar 1)) (eVar 3)) (eCons (e2 kSub (eVar 3) (eC (.int 1))) eNil))) 60)
    (sRet (e2 kSub (eVar 0) (eVar 3))))))))
def r_out_turn : List T → Sto → Res T := fnRun false 5 (b_out_turn)
theorem ok_out_turn (B : Blt mg) (C_check_some_0 : CallF P w K mg base 3 "check_some" false 1 [] (r_check_some)) (C_check_step_0 : CallF P w K mg base 3 "check_step" false 1 [] (r_check_step)) (C_is_count_1 : CallF P w K mg base 2 "is_count" false 2 [.int 0] (r_is_count)) (F0 : FunD K "out_turn" "out_turn" (defArgs s_out_turn) (defBody s_out_turn) (defScope s_out_turn) [] [] f fd) : FnOk P w K mg base CX0 4 f fd ["many", "step", "place"] (spRun mg false 3 (r_out_turn)) := by
  have sc := sc_out_turn
  refine fn_okN ["many", "step", "place", "size", "here"] ["many", "step", "place"] false 3 5 3 (b_out_turn) F0 sc rfl rfl ?_
  exact fun cdv A outer s H E hr =>
    (sb_cons (ss_expr (se_call C_check_some_0 (hr.mono (by decide)) (sa_cons (se_var (i := 0)) sa_nil)))
    (sb_cons (ss_expr (se_call C_check_step_0 (hr.mono (by decide)) (sa_cons (se_var (i := 1)) sa_nil)))
    (sb_cons (ss_if (SW.st (sw_or (st_not (st_val (se_call C_is_count_1 (hr.mono (by decide)) (sa_cons (se_var (i := 2)) sa_nil) (fun _ => .cons (.int 0) .nil)))) (ST.or1 (st_cmp c_ge (se_var (i := 2)) (se_var (i := 0)))))) (sb_one ss_never) sb_nil)
    (sb_cons (ss_par (i := 3) (j := 4) sc.nd (sa_cons (se_var (i := 0)) (sa_cons (se_var (i := 2)) sa_nil)))
    (sb_cons (ss_while 60 (st_cmp (p_ne hr).ok (se_var (i := 4)) (se_mod (se_sub (se_var (i := 1)) se_int) (se_var (i := 3)))) (sb_one (ss_par (i := 4) (j := 3) sc.nd (sa_cons (se_mod (se_sub (se_var (i := 4)) (se_var (i := 1))) (se_var (i := 3))) (sa_cons (se_sub (se_var (i := 3)) se_int) sa_nil)))))
    (sb_one (ss_ret (se_sub (se_var (i := 0)) (se_var (i := 3))))))))))
/-! ### set_for -/
theorem sc_set_for : FnScope ["pack", "step", "found", "card", "place"] ["pack", "step"] (defScope s_set_for) := ⟨rfl, rfl, rfl, by decide +kernel, rfl, by decide +kernel, by decide +kernel⟩
def b_set_for : Ev Fl :=
    (sSeq (sExpr (eCall 1 [] (r_check_pack) (eCons (eVar 0) eNil)))
    (sSeq (sExpr (eCall 1 [] (r_check_step) (eCons (eVar 1) eNil)))
    (sSeq (sAsg (eNew (eA kList (eCons (eVar 0) eNil))) (gN 2))
    (sSeq (sFor (iZp (eVar 0) (eCall 2 [] (r_order_there) (eCons (eA kLen (eCons (eVar 0) eNil)) (eCons (eVar 1) eNil)))) (gTup 2 (gCons (gN 3) (gCons (gN 4) gNil))) (sAsg (eVar 3) (gAt (eVar 2) (eVar 4))))
    (sRet (eFrz (eVar 2)))))))
def r_set_for : List T → Sto → Res T := lone (fnRun false 5 (b_set_for))
theorem ok_set_for (B : Blt mg) (C_check_pack_0 : CallF P w K mg base 4 "check_pack" false 1 [] (r_check_pack)) (C_check_step_0 : CallF P w K mg base 3 "check_step" false 1 [] (r_check_step)) (C_order_there_counts_0 : CallF P w K mg base 1 "order_there_counts" false 2 [] (r_order_there)) (F0 : FunD K "set_for" "set_for" (defArgs s_set_for) (defBody s_set_for) (defScope s_set_for) [] [] f fd) : FnOk P w K mg base CX0 5 f fd ["pack", "step"] (spRun mg false 2 (r_set_for)) := by
  have sc := sc_set_for
  refine fn_lone ?_
  refine fn_okN ["pack", "step", "found", "card", "place"] ["pack", "step"] false 4 5 2 (b_set_for) F0 sc rfl rfl ?_
  exact fun cdv A outer s H E hr =>
    (sb_cons (ss_expr (se_call C_check_pack_0 (hr.mono (by decide)) (sa_cons (se_var (i := 0)) sa_nil)))
    (sb_cons (ss_expr (se_call C_check_step_0 (hr.mono (by decide)) (sa_cons (se_var (i := 1)) sa_nil)))
    (sb_cons (ss_set (i := 2) sc.nd (SE.new (se_listC B (sa_cons (se_var (i := 0)) sa_nil))))
    (sb_cons (ss_for (si_zip B (se_var (i := 0)) (se_call C_order_there_counts_0 (hr.mono (by decide)) (sa_cons (se_len B (sa_cons (se_var (i := 0)) sa_nil)) (sa_cons (se_var (i := 1)) sa_nil)))) (sg_tup (n := 2) (sgs_cons (sg_name (i := 3) sc.nd) (sgs_cons (sg_name (i := 4) sc.nd) sgs_nil))) (sb_one (ss_asg (se_var (i := 3)) (sg_at hr (se_var (i := 2)) (se_var (i := 4))))))
    (sb_one (ss_ret (SE.frz (se_var (i := 2)))))))))
/-! ### cut_there -/
theorem sc_cut_there : FnScope ["pack", "by", "at"] ["pack", "by"] (defScope s_cut_there) := ⟨rfl, rfl, rfl, by decide +kernel, rfl, by decide +kernel, by decide +kernel⟩
def b_cut_there : Ev Fl :=
    (sSeq (sAsg (eIf (eB (e2 (kVw kNe0) (eVar 0) (eLst eNil))) (e2 kMod (eVar 1) (eA kLen (eCons (eVar 0) eNil))) (eC (.int 0))) (gN 2))
    (sRet (e2 kAddL (eSl (eVar 0) (ePart (eVar 2)) eNone) (eSl (eVar 0) eNone (ePart (eVar 2))))))
def r_cut_there : List T → Sto → Res T := fnRun false 3 (b_cut_there)
theorem ok_cut_there (B : Blt mg)  (F0 : FunD K "cut_there" "cut_there" (defArgs s_cut_there) (defBody s_cut_there) (defScope s_cut_there) [] [] f fd) : FnOk P w K mg base CX0 1 f fd ["pack", "by"] (spRun mg false 2 (r_cut_there)) := by
  have sc := sc_cut_there
  refine fn_okN ["pack", "by", "at"] ["pack", "by"] false 0 3 2 (b_cut_there) F0 sc rfl rfl ?_
  exact fun cdv A outer s H E hr =>
    (sb_cons (ss_set (i := 2) sc.nd (se_if (st_cmp (p_ne hr).ok (se_var (i := 0)) (SE.drop (se_lst sa_nil))) (se_mod (se_var (i := 1)) (se_len B (sa_cons (se_var (i := 0)) sa_nil))) se_int))
    (sb_one (ss_ret (SE.drop (se_addL (SE.drop (se_sl (se_var (i := 0)) (so_some (se_var (i := 2))) so_none)) (SE.drop (se_sl (se_var (i := 0)) so_none (so_some (se_var (i := 2))))))))))
/-! ### cut_by -/
theorem sc_cut_by : FnScope ["pack", "by"] ["pack", "by"] (defScope s_cut_by) := ⟨rfl, rfl, rfl, by decide +kernel, rfl, by decide +kernel, by decide +kernel⟩
def b_cut_by : Ev Fl :=
    (sSeq (sExpr (eCall 1 [] (r_check_pack) (eCons (eVar 0) eNil)))
    (sSeq (sIf (eNot (eB (eCall 1 [] (r_is_whole) (eCons (eVar 1) eNil)))) eStuck sNil)
    (sRet (eCall 2 [] (r_cut_there) (eCons (eVar 0) (eCons (eVar 1) eNil))))))
def r_cut_by : List T → Sto → Res T := fnRun false 2 (b_cut_by)
theorem ok_cut_by (B : Blt mg) (C_check_pack_0 : CallF P w K mg base 4 "check_pack" false 1 [] (r_check_pack)) (C_is_whole_0 : CallF P w K mg base 1 "is_whole" false 1 [] (r_is_whole)) (C_cut_there_0 : CallF P w K mg base 1 "cut_there" false 2 [] (r_cut_there)) (F0 : FunD K "cut_by" "cut_by" (defArgs s_cut_by) (defBody s_cut_by) (defScope s_cut_by) [] [] f fd) : FnOk P w K mg base CX0 5 f fd ["pack", "by"] (spRun mg false 2 (r_cut_by)) := by
  have sc := sc_cut_by
  refine fn_okN ["pack", "by"] ["pack", "by"] false 4 2 2 (b_cut_by) F0 sc rfl rfl ?_
  exact fun cdv A outer s H E hr =>
    (sb_cons (ss_expr (se_call C_check_pack_0 (hr.mono (by decide)) (sa_cons (se_var (i := 0)) sa_nil)))
    (sb_cons (ss_if (st_not (st_val (se_call C_is_whole_0 (hr.mono (by decide)) (sa_cons (se_var (i := 1)) sa_nil)))) (sb_one ss_never) sb_nil)
    (sb_one (ss_ret (se_call C_cut_there_0 (hr.mono (by decide)) (sa_cons (se_var (i := 0)) (sa_cons (se_var (i := 1)) sa_nil)))))))
/-! ### check_ranks -/
theorem sc_check_ranks : FnScope ["pack", "ranks"] ["pack", "ranks"] (defScope s_check_ranks) := ⟨rfl, rfl, rfl, by decide +kernel, rfl, by decide +kernel, by decide +kernel⟩
def b_check_ranks : Ev Fl :=
    (sSeq (sExpr (eCall 1 [] (r_check_pack) (eCons (eVar 0) eNil)))
    (sIf (eNot (eB (eCall 2 [] (r_is_count) (eCons (eVar 1) (eCons (eC (.int 1)) eNil))))) eStuck sNil))
def r_check_ranks : List T → Sto → Res T := fnRun false 2 (b_check_ranks)
theorem ok_check_ranks (B : Blt mg) (C_check_pack_0 : CallF P w K mg base 4 "check_pack" false 1 [] (r_check_pack)) (C_is_count_0 : CallF P w K mg base 2 "is_count" false 2 [] (r_is_count)) (F0 : FunD K "check_ranks" "check_ranks" (defArgs s_check_ranks) (defBody s_check_ranks) (defScope s_check_ranks) [] [] f fd) : FnOk P w K mg base CX0 5 f fd ["pack", "ranks"] (spRun mg false 2 (r_check_ranks)) := by
  have sc := sc_check_ranks
  refine fn_okN ["pack", "ranks"] ["pack", "ranks"] false 4 2 2 (b_check_ranks) F0 sc rfl rfl ?_
  exact fun cdv A outer s H E hr =>
    (sb_cons (ss_expr (se_call C_check_pack_0 (hr.mono (by decide)) (sa_cons (se_var (i := 0)) sa_nil)))
    (sb_one (ss_if (st_not (st_val (se_call C_is_count_0 (hr.mono (by decide)) (sa_cons (se_var (i := 1)) (sa_cons se_int sa_nil))))) (sb_one ss_never) sb_nil)))
/-! ### suits_of -/
theorem sc_suits_of : FnScope ["pack", "ranks", "card"] ["pack", "ranks"] (defScope s_suits_of) := ⟨rfl, rfl, rfl, by decide +kernel, rfl, by decide +kernel, by decide +kernel⟩
def b_suits_of : Ev Fl :=
    (sSeq (sExpr (eCall 2 [] (r_check_ranks) (eCons (eVar 0) (eCons (eVar 1) eNil))))
    (sRet (eComp (iLst (eVar 0)) (gN 2) cYes (e2 kDiv (eVar 2) (eVar 1)) [2])))
def r_suits_of : List T → Sto → Res T := fnRun false 3 (b_suits_of)
theorem ok_suits_of (B : Blt mg) (C_check_ranks_0 : CallF P w K mg base 5 "check_ranks" false 2 [] (r_check_ranks)) (F0 : FunD K "suits_of" "suits_of" (defArgs s_suits_of) (defBody s_suits_of) (defScope s_suits_of) [] [] f fd) : FnOk P w K mg base CX0 6 f fd ["pack", "ranks"] (spRun mg false 2 (r_suits_of)) := by
  have sc := sc_suits_of
  refine fn_okN ["pack", "ranks", "card"] ["pack", "ranks"] false 5 3 2 (b_suits_of) F0 sc rfl rfl ?_
  exact fun cdv A outer s H E hr =>
    (sb_cons (ss_expr (se_call C_check_ranks_0 (hr.mono (by decide)) (sa_cons (se_var (i := 0)) (sa_cons (se_var (i := 1)) sa_nil))))
    (sb_one (ss_ret (SE.drop (se_comp [("card", 2)] sc.nd (si_list (se_var (i := 0))) (fun _ _ _ _ _ => (sg_name (i := 2) sc.nd)) (fun _ _ _ _ _ => sts_nil) (fun _ _ _ _ _ => (se_fdiv (se_var (i := 2)) (se_var (i := 1)))) (by first | (show blkC ["pack", "ranks", "card"] (defScope s_suits_of) _ _ = true; decide +kernel) | (show blkC ["pack", "ranks", "card"] (relabel _ (envOfC "" (defScope s_suits_of) 0 0 .none)) _ _ = true; decide +kernel)))))))
/-! ### ranks_of -/
theorem sc_ranks_of : FnScope ["pack", "ranks", "card"] ["pack", "ranks"] (defScope s_ranks_of) := ⟨rfl, rfl, rfl, by decide +kernel, rfl, by decide +kernel, by decide +kernel⟩
def b_ranks_of : Ev Fl :=
    (sSeq (sExpr (eCall 2 [] (r_check_ranks) (eCons (eVar 0) (eCons (eVar 1) eNil))))
    (sRet (eComp (iLst (eVar 0)) (gN 2) cYes (e2 kMod (eVar 2) (eVar 1)) [2])))
def r_ranks_of : List T → Sto → Res T := fnRun false 3 (b_ranks_of)
theorem ok_ranks_of (B : Blt mg) (C_check_ranks_0 : CallF P w K mg base 5 "check_ranks" false 2 [] (r_check_ranks)) (F0 : FunD K "ranks_of" "ranks_of" (defArgs s_ranks_of) (defBody s_ranks_of) (defScope s_ranks_of) [] [] f fd) : FnOk P w K mg base CX0 6 f fd ["pack", "ranks"] (spRun mg false 2 (r_ranks_of)) := by
  have sc := sc_ranks_of
  refine fn_okN ["pack", "ranks", "card"] ["pack", "ranks"] false 5 3 2 (b_ranks_of) F0 sc rfl rfl ?_
  exact fun cdv A outer s H E hr =>
    (sb_cons (ss_expr (se_call C_check_ranks_0 (hr.mono (by decide)) (sa_cons (se_var (i := 0)) (sa_cons (se_var (i := 1)) sa_nil))))
    (sb_one (ss_ret (SE.drop (se_comp [("card", 2)] sc.nd (si_list (se_var (i := 0))) (fun _ _ _ _ _ => (sg_name (i := 2) sc.nd)) (fun _ _ _ _ _ => sts_nil) (fun _ _ _ _ _ => (se_mod (se_var (i := 2)) (se_var (i := 1)))) (by first | (show blkC ["pack", "ranks", "card"] (defScope s_ranks_of) _ _ = true; decide +kernel) | (show blkC ["pack", "ranks", "card"] (relabel _ (envOfC "" (defScope s_ranks_of) 0 0 .none)) _ _ = true; decide +kernel)))))))
/-! ### colours_of -/
theorem sc_colours_of : FnScope ["pack", "ranks", "card"] ["pack", "ranks"] (defScope s_colours_of) := ⟨rfl, rfl, rfl, by decide +kernel, rfl, by decide +kernel, by decide +kernel⟩
def b_colours_of : Ev Fl :=
    (sSeq (sExpr (eCall 2 [] (r_check_ranks) (eCons (eVar 0) (eCons (eVar 1) eNil))))
    (sRet (eComp (iLst (eVar 0)) (gN 2) cYes (e2 kMod (e2 kDiv (eVar 2) (eVar 1)) (eC (.int 2))) [2])))
def r_colours_of : List T → Sto → Res T := fnRun false 3 (b_colours_of)
theorem ok_colours_of (B : Blt mg) (C_check_ranks_0 : CallF P w K mg base 5 "check_ranks" false 2 [] (r_check_ranks)) (F0 : FunD K "colours_of" "colours_of" (defArgs s_colours_of) (defBody s_colours_of) (defScope s_colours_of) [] [] f fd) : FnOk P w K mg base CX0 6 f fd ["pack", "ranks"] (spRun mg false 2 (r_colours_of)) := by
  have sc := sc_colours_of
  refine fn_okN ["pack", "ranks", "card"] ["pack", "ranks"] false 5 3 2 (b_colours_of) F0 sc rfl rfl ?_
  exact fun cdv A outer s H E hr =>
    (sb_cons (ss_expr (se_call C_check_ranks_0 (hr.mono (by decide)) (sa_cons (se_var (i := 0)) (sa_cons (se_var (i := 1)) sa_nil))))
    (sb_one (ss_ret (SE.drop (se_comp [("card", 2)] sc.nd (si_list (se_var (i := 0))) (fun _ _ _ _ _ => (sg_name (i := 2) sc.nd)) (fun _ _ _ _ _ => sts_nil) (fun _ _ _ _ _ => (se_mod (se_fdiv (se_var (i := 2)) (se_var (i := 1))) se_int)) (by first | (show blkC ["pack", "ranks", "card"] (defScope s_colours_of) _ _ = true; decide +kernel) | (show blkC ["pack", "ranks", "card"] (relabel _ (envOfC "" (defScope s_colours_of) 0 0 .none)) _ _ = true; decide +kernel)))))))
/-! ### check_move -/
theorem sc_check_move : FnScope ["value"] ["value"] (defScope s_check_move) := ⟨rfl, rfl, rfl, by decide +kernel, rfl, by decide +kernel, by decide +kernel⟩
def b_check_move : Ev Fl :=
    (sIf (eOr (eNot (eB (e1 (kIsi .list) (eVar 0)))) (eNot (eB (eCall 2 [] (r_is_move_there) (eCons (eA kLen (eCons (eVar 0) eNil)) (eCons (eVar 0) eNil)))))) eStuck sNil)
def r_check_move : List T → Sto → Res T := fnRun false 1 (b_check_move)
theorem ok_check_move (B : Blt mg) (C_is_move_there_0 : CallF P w K mg base 3 "is_move_there" false 2 [] (r_is_move_there)) (F0 : FunD K "check_move" "check_move" (defArgs s_check_move) (defBody s_check_move) (defScope s_check_move) [] [] f fd) : FnOk P w K mg base CX0 4 f fd ["value"] (spRun mg false 1 (r_check_move)) := by
  have sc := sc_check_move
  refine fn_okN ["value"] ["value"] false 3 1 1 (b_check_move) F0 sc rfl rfl ?_
  exact fun cdv A outer s H E hr =>
    (sb_one (ss_if (SW.st (sw_or (st_not (st_val (se_isi B .list (se_var (i := 0))))) (ST.or1 (st_not (st_val (se_call C_is_move_there_0 (hr.mono (by decide)) (sa_cons (se_len B (sa_cons (se_var (i := 0)) sa_nil)) (sa_cons (se_var (i := 0)) sa_nil)))))))) (sb_one ss_never) sb_nil))
/-! ### check_other -/
theorem sc_check_other : FnScope ["move", "other"] ["move", "other"] (defScope s_check_other) := ⟨rfl, rfl, rfl, by decide +kernel, rfl, by decide +kernel, by decide +kernel⟩
def b_check_other : Ev Fl :=
    (sIf (eNot (eB (eCall 2 [] (r_is_move_there) (eCons (eA kLen (eCons (eVar 0) eNil)) (eCons (eVar 1) eNil))))) eStuck sNil)
def r_check_other : List T → Sto → Res T := fnRun false 2 (b_check_other)
theorem ok_check_other (B : Blt mg) (C_is_move_there_0 : CallF P w K mg base 3 "is_move_there" false 2 [] (r_is_move_there)) (F0 : FunD K "check_other" "check_other" (defArgs s_check_other) (defBody s_check_other) (defScope s_check_other) [] [] f fd) : FnOk P w K mg base CX0 4 f fd ["move", "other"] (spRun mg false 2 (r_check_other)) := by
  have sc := sc_check_other
  refine fn_okN ["move", "other"] ["move", "other"] false 3 2 2 (b_check_other) F0 sc rfl rfl ?_
  exact fun cdv A outer s H E hr =>
    (sb_one (ss_if (st_not (st_val (se_call C_is_move_there_0 (hr.mono (by decide)) (sa_cons (se_len B (sa_cons (se_var (i := 0)) sa_nil)) (sa_cons (se_var (i := 1)) sa_nil))))) (sb_one ss_never) sb_nil))
/-! ### then_there -/
theorem sc_then_there : FnScope ["move", "other", "place"] ["move", "other"] (defScope s_then_there) := ⟨rfl, rfl, rfl, by decide +kernel, rfl, by decide +kernel, by decide +kernel⟩
def b_then_there : Ev Fl :=
    (sRet (eComp (iLst (eVar 1)) (gN 2) cYes (e2 kIx (eVar 0) (eVar 2)) [2]))
def r_then_there : List T → Sto → Res T := fnRun false 3 (b_then_there)
theorem ok_then_there (B : Blt mg)  (F0 : FunD K "then_there" "then_there" (defArgs s_then_there) (defBody s_then_there) (defScope s_then_there) [] [] f fd) : FnOk P w K mg base CX0 1 f fd ["move", "other"] (spRun mg false 2 (r_then_there)) := by
  have sc := sc_then_there
  refine fn_okN ["move", "other", "place"] ["move", "other"] false 0 3 2 (b_then_there) F0 sc rfl rfl ?_
  exact fun cdv A outer s H E hr =>
    (sb_one (ss_ret (SE.drop (se_comp [("place", 2)] sc.nd (si_list (se_var (i := 1))) (fun _ _ _ _ _ => (sg_name (i := 2) sc.nd)) (fun _ _ _ _ _ => sts_nil) (fun _ _ _ _ _ => (se_ix hr (se_var (i := 0)) (se_var (i := 2)))) (by first | (show blkC ["move", "other", "place"] (defScope s_then_there) _ _ = true; decide +kernel) | (show blkC ["move", "other", "place"] (relabel _ (envOfC "" (defScope s_then_there) 0 0 .none)) _ _ = true; decide +kernel))))))
/-! ### one_then -/
theorem sc_one_then : FnScope ["move", "other"] ["move", "other"] (defScope s_one_then) := ⟨rfl, rfl, rfl, by decide +kernel, rfl, by decide +kernel, by decide +kernel⟩
def b_one_then : Ev Fl :=
    (sSeq (sExpr (eCall 1 [] (r_check_move) (eCons (eVar 0) eNil)))
    (sSeq (sExpr (eCall 2 [] (r_check_other) (eCons (eVar 0) (eCons (eVar 1) eNil))))
    (sRet (eCall 2 [] (r_then_there) (eCons (eVar 0) (eCons (eVar 1) eNil))))))
def r_one_then : List T → Sto → Res T := fnRun false 2 (b_one_then)
theorem ok_one_then (B : Blt mg) (C_check_move_0 : CallF P w K mg base 4 "check_move" false 1 [] (r_check_move)) (C_check_other_0 : CallF P w K mg base 4 "check_other" false 2 [] (r_check_other)) (C_then_there_0 : CallF P w K mg base 1 "then_there" false 2 [] (r_then_there)) (F0 : FunD K "one_then" "one_then" (defArgs s_one_then) (defBody s_one_then) (defScope s_one_then) [] [] f fd) : FnOk P w K mg base CX0 5 f fd ["move", "other"] (spRun mg false 2 (r_one_then)) := by
  have sc := sc_one_then
  refine fn_okN ["move", "other"] ["move", "other"] false 4 2 2 (b_one_then) F0 sc rfl rfl ?_
  exact fun cdv A outer s H E hr =>
    (sb_cons (ss_expr (se_call C_check_move_0 (hr.mono (by decide)) (sa_cons (se_var (i := 0)) sa_nil)))
    (sb_cons (ss_expr (se_call C_check_other_0 (hr.mono (by decide)) (sa_cons (se_var (i := 0)) (sa_cons (se_var (i := 1)) sa_nil))))
    (sb_one (ss_ret (se_call C_then_there_0 (hr.mono (by decide)) (sa_cons (se_var (i := 0)) (sa_cons (se_var (i := 1)) sa_nil)))))))
/-! ### back_there -/
theorem sc_back_there : FnScope ["move", "found", "at", "place"] ["move"] (defScope s_back_there) := ⟨rfl, rfl, rfl, by decide +kernel, rfl, by decide +kernel, by decide +kernel⟩
def b_back_there : Ev Fl :=
    (sSeq (sAsg (eNew (e2 kRep (eLst (eCons (eC (.int 0)) eNil)) (eA kLen (eCons (eVar 0) eNil)))) (gN 1))
    (sSeq (sFor (iEn (eVar 0)) (gTup 2 (gCons (gN 2) (gCons (gN 3) gNil))) (sAsg (eVar 2) (gAt (eVar 1) (eVar 3))))
    (sRet (eFrz (eVar 1)))))
def r_back_there : List T → Sto → Res T := lone (fnRun false 4 (b_back_there))
theorem ok_back_there (B : Blt mg)  (F0 : FunD K "back_there" "back_there" (defArgs s_back_there) (defBody s_back_there) (defScope s_back_there) [] [] f fd) : FnOk P w K mg base CX0 1 f fd ["move"] (spRun mg false 1 (r_back_there)) := by
  have sc := sc_back_there
  refine fn_lone ?_
  refine fn_okN ["move", "found", "at", "place"] ["move"] false 0 4 1 (b_back_there) F0 sc rfl rfl ?_
  exact fun cdv A outer s H E hr =>
    (sb_cons (ss_set (i := 1) sc.nd (SE.new (se_repL (se_lst (sa_cons se_int sa_nil)) (se_len B (sa_cons (se_var (i := 0)) sa_nil)))))
    (sb_cons (ss_for (si_enum B (se_var (i := 0))) (sg_tup (n := 2) (sgs_cons (sg_name (i := 2) sc.nd) (sgs_cons (sg_name (i := 3) sc.nd) sgs_nil))) (sb_one (ss_asg (se_var (i := 2)) (sg_at hr (se_var (i := 1)) (se_var (i := 3))))))
    (sb_one (ss_ret (SE.frz (se_var (i := 1)))))))
/-! ### move_back -/
theorem sc_move_back : FnScope ["move"] ["move"] (defScope s_move_back) := ⟨rfl, rfl, rfl, by decide +kernel, rfl, by decide +kernel, by decide +kernel⟩
def b_move_back : Ev Fl :=
    (sSeq (sExpr (eCall 1 [] (r_check_move) (eCons (eVar 0) eNil)))
    (sRet (eCall 1 [] (r_back_there) (eCons (eVar 0) eNil))))
def r_move_back : List T → Sto → Res T := fnRun false 1 (b_move_back)
theorem ok_move_back (B : Blt mg) (C_check_move_0 : CallF P w K mg base 4 "check_move" false 1 [] (r_check_move)) (C_back_there_0 : CallF P w K mg base 1 "back_there" false 1 [] (r_back_there)) (F0 : FunD K "move_back" "move_back" (defArgs s_move_back) (defBody s_move_back) (defScope s_move_back) [] [] f fd) : FnOk P w K mg base CX0 5 f fd ["move"] (spRun mg false 1 (r_move_back)) := by
  have sc := sc_move_back
  refine fn_okN ["move"] ["move"] false 4 1 1 (b_move_back) F0 sc rfl rfl ?_
  exact fun cdv A outer s H E hr =>
    (sb_cons (ss_expr (se_call C_check_move_0 (hr.mono (by decide)) (sa_cons (se_var (i := 0)) sa_nil)))
    (sb_one (ss_ret (se_call C_back_there_0 (hr.mono (by decide)) (sa_cons (se_var (i := 0)) sa_nil)))))
/-! ### rings_there -/
theorem sc_rings_there : FnScope ["move", "place", "back", "seen", "found", "ring", "at"] ["move"] (defScope s_rings_there) := ⟨rfl, rfl, rfl, by decide +kernel, rfl, by decide +kernel, by decide +kernel⟩
def b_rings_there : Ev Fl :=
    (sSeq (sPar3 2 3 4 (eCons (eCall 1 [] (r_back_there) (eCons (eVar 0) eNil)) (eCons (eNew eDnew) (eCons (eNew (eLst eNil)) eNil))))
    (sSeq (sFor (iRg1 (eA kLen (eCons (eVar 0) eNil))) (gN 1) (sSeq (sPar 5 6 (eCons (eNew (eLst eNil)) (eCons (eVar 1) eNil)))
    (sSeq (sWhile (eB (e2 (kVw (fun a b => (kIn0 a b).map not)) (eVar 6) (eVar 3))) (sSeq (sAsg (eC (.bl true)) (gAt (eVar 3) (eVar 6)))
    (sSeq (sExpr (eBm kApp (eVar 5) (eCons (eVar 6) eNil)))
    (sAsg (e2 kIx (eVar 2) (eVar 6)) (gN 6)))) 60)
    (sIf (eB (e2 (kVw kNe0) (eVar 5) (eLst eNil))) (sExpr (eBm kApp (eVar 4) (eCons (eFrz (eVar 5)) eNil))) sNil))))
    (sRet (eFrz (eVar 4)))))
def r_rings_there : List T → Sto → Res T := lone (fnRun false 7 (b_rings_there))
theorem ok_rings_there (B : Blt mg) (C_back_there_0 : CallF P w K mg base 1 "back_there" false 1 [] (r_back_there)) (F0 : FunD K "rings_there" "rings_there" (defArgs s_rings_there) (defBody s_rings_there) (defScope s_rings_there) [] [] f fd) : FnOk P w K mg base CX0 2 f fd ["move"] (spRun mg false 1 (r_rings_there)) := by
  have sc := sc_rings_there
  refine fn_lone ?_
  refine fn_okN ["move", "place", "back", "seen", "found", "ring", "at"] ["move"] false 1 7 1 (b_rings_there) F0 sc rfl rfl ?_
  exact fun cdv A outer s H E hr =>
    (sb_cons (ss_par3 (i := 2) (j := 3) (l := 4) sc.nd (sa_cons (se_call C_back_there_0 (hr.mono (by decide)) (sa_cons (se_var (i := 0)) sa_nil)) (sa_cons (SE.new se_dnew) (sa_cons (SE.new (se_lst sa_nil)) sa_nil))))
    (sb_cons (ss_for (si_range1 B (se_len B (sa_cons (se_var (i := 0)) sa_nil))) (sg_name (i := 1) sc.nd) (sb_cons (ss_par (i := 5) (j := 6) sc.nd (sa_cons (SE.new (se_lst sa_nil)) (sa_cons (se_var (i := 1)) sa_nil)))
    (sb_cons (ss_while 60 (st_cmp (p_nin hr).ok (se_var (i := 6)) (se_var (i := 3))) (sb_cons (ss_asg se_bl (sg_at hr (se_var (i := 3)) (se_var (i := 6))))
    (sb_cons (ss_expr (se_append (se_var (i := 5)) (sa_cons (se_var (i := 6)) sa_nil)))
    (sb_one (ss_set (i := 6) sc.nd (se_ix hr (se_var (i := 2)) (se_var (i := 6))))))))
    (sb_one (ss_if (st_cmp (p_ne hr).ok (se_var (i := 5)) (SE.drop (se_lst sa_nil))) (sb_one (ss_expr (se_append (se_var (i := 4)) (sa_cons (SE.frz (se_var (i := 5))) sa_nil)))) sb_nil)))))
    (sb_one (ss_ret (SE.frz (se_var (i := 4)))))))
/-! ### common -/
theorem sc_common : FnScope ["one", "other"] ["one", "other"] (defScope s_common) := ⟨rfl, rfl, rfl, by decide +kernel, rfl, by decide +kernel, by decide +kernel⟩
def b_common : Ev Fl :=
    (sSeq (sWhile (eB (e2 (kVw kNe0) (eVar 1) (eC (.int 0)))) (sPar 0 1 (eCons (eVar 1) (eCons (e2 kMod (eVar 0) (eVar 1)) eNil))) 60)
    (sRet (eVar 0)))
def r_common : List T → Sto → Res T := fnRun false 2 (b_common)
theorem ok_common (B : Blt mg)  (F0 : FunD K "common" "common" (defArgs s_common) (defBody s_common) (defScope s_common) [] [] f fd) : FnOk P w K mg base CX0 1 f fd ["one", "other"] (spRun mg false 2 (r_common)) := by
  have sc := sc_common
  refine fn_okN ["one", "other"] ["one", "other"] false 0 2 2 (b_common) F0 sc rfl rfl ?_
  exact fun cdv A outer s H E hr =>
    (sb_cons (ss_while 60 (st_cmp (p_ne hr).ok (se_var (i := 1)) se_int) (sb_one (ss_par (i := 0) (j := 1) sc.nd (sa_cons (se_var (i := 1)) (sa_cons (se_mod (se_var (i := 0)) (se_var (i := 1))) sa_nil)))))
    (sb_one (ss_ret (se_var (i := 0)))))
/-! ### order_there -/
theorem sc_moves_order_there : FnScope ["move", "found", "ring"] ["move"] (defScope s_moves_order_there) := ⟨rfl, rfl, rfl, by decide +kernel, rfl, by decide +kernel, by decide +kernel⟩
def b_moves_order_there : Ev Fl :=
    (sSeq (sAsg (eC (.int 1)) (gN 1))
    (sSeq (sFor (iLst (eCall 1 [] (r_rings_there) (eCons (eVar 0) eNil))) (gN 2) (sAsg (e2 kDiv (e2 kMul (eVar 1) (eA kLen (eCons (eVar 2) eNil))) (eCall 2 [] (r_common) (eCons (eVar 1) (eCons (eA kLen (eCons (eVar 2) eNil)) eNil)))) (gN 1)))
    (sRet (eVar 1))))
def r_moves_order_there : List T → Sto → Res T := fnRun false 3 (b_moves_order_there)
theorem ok_moves_order_there (B : Blt mg) (C_rings_there_0 : CallF P w K mg base 2 "rings_there" false 1 [] (r_rings_there)) (C_common_0 : CallF P w K mg base 1 "common" false 2 [] (r_common)) (F0 : FunD K "order_there" "order_there" (defArgs s_moves_order_there) (defBody s_moves_order_there) (defScope s_moves_order_there) [] [] f fd) : FnOk P w K mg base CX0 3 f fd ["move"] (spRun mg false 1 (r_moves_order_there)) := by
  have sc := sc_moves_order_there
  refine fn_okN ["move", "found", "ring"] ["move"] false 2 3 1 (b_moves_order_there) F0 sc rfl rfl ?_
  exact fun cdv A outer s H E hr =>
    (sb_cons (ss_set (i := 1) sc.nd se_int)
    (sb_cons (ss_for (si_list (se_call C_rings_there_0 (hr.mono (by decide)) (sa_cons (se_var (i := 0)) sa_nil))) (sg_name (i := 2) sc.nd) (sb_one (ss_set (i := 1) sc.nd (se_fdiv (se_mul (se_var (i := 1)) (se_len B (sa_cons (se_var (i := 2)) sa_nil))) (se_call C_common_0 (hr.mono (by decide)) (sa_cons (se_var (i := 1)) (sa_cons (se_len B (sa_cons (se_var (i := 2)) sa_nil)) sa_nil)))))))
    (sb_one (ss_ret (se_var (i := 1))))))
/-! ### order_of -/
theorem sc_order_of : FnScope ["move"] ["move"] (defScope s_order_of) := ⟨rfl, rfl, rfl, by decide +kernel, rfl, by decide +kernel, by decide +kernel⟩
def b_order_of : Ev Fl :=
    (sSeq (sExpr (eCall 1 [] (r_check_move) (eCons (eVar 0) eNil)))
    (sRet (eCall 1 [] (r_moves_order_there) (eCons (eVar 0) eNil))))
def r_order_of : List T → Sto → Res T := fnRun false 1 (b_order_of)
theorem ok_order_of (B : Blt mg) (C_check_move_0 : CallF P w K mg base 4 "check_move" false 1 [] (r_check_move)) (C_order_there_moves_0 : CallF P w K mg base 3 "order_there_moves" false 1 [] (r_moves_order_there)) (F0 : FunD K "order_of" "order_of" (defArgs s_order_of) (defBody s_order_of) (defScope s_order_of) [] [] f fd) : FnOk P w K mg base CX0 5 f fd ["move"] (spRun mg false 1 (r_order_of)) := by
  have sc := sc_order_of
  refine fn_okN ["move"] ["move"] false 4 1 1 (b_order_of) F0 sc rfl rfl ?_
  exact fun cdv A outer s H E hr =>
    (sb_cons (ss_expr (se_call C_check_move_0 (hr.mono (by decide)) (sa_cons (se_var (i := 0)) sa_nil)))
    (sb_one (ss_ret (se_call C_order_there_moves_0 (hr.mono (by decide)) (sa_cons (se_var (i := 0)) sa_nil)))))
/-! ### all_in_turn -/
theorem sc_all_in_turn : FnScope ["many", "moves", "found", "move"] ["many", "moves"] (defScope s_all_in_turn) := ⟨rfl, rfl, rfl, by decide +kernel, rfl, by decide +kernel, by decide +kernel⟩
def b_all_in_turn : Ev Fl :=
    (sSeq (sExpr (eCall 1 [] (r_check_many) (eCons (eVar 0) eNil)))
    (sSeq (sIf (eOr (eNot (eB (e1 (kIsi .list) (eVar 1)))) (eNot (eB (eA kAll (eCons (eComp (iLst (eVar 1)) (gN 3) cYes (eCall 2 [] (r_is_move_there) (eCons (eVar 0) (eCons (eVar 3) eNil))) [3]) eNil))))) eStuck sNil)
    (sSeq (sAsg (eLrg1 (eVar 0)) (gN 2))
    (sSeq (sFor (iLst (eVar 1)) (gN 3) (sAsg (eCall 2 [] (r_then_there) (eCons (eVar 2) (eCons (eVar 3) eNil))) (gN 2)))
    (sRet (eVar 2))))))
def r_all_in_turn : List T → Sto → Res T := fnRun false 4 (b_all_in_turn)
theorem ok_all_in_turn (B : Blt mg) (C_check_many_packs_0 : CallF P w K mg base 3 "check_many_packs" false 1 [] (r_check_many)) (C_is_move_there_0 : CallF P w K mg base 3 "is_move_there" false 2 [] (r_is_move_there)) (C_then_there_0 : CallF P w K mg base 1 "then_there" false 2 [] (r_then_there)) (F0 : FunD K "all_in_turn" "all_in_turn" (defArgs s_all_in_turn) (defBody s_all_in_turn) (defScope s_all_in_turn) [] [] f fd) : FnOk P w K mg base CX0 4 f fd ["many", "moves"] (spRun mg false 2 (r_all_in_turn)) := by
  have sc := sc_all_in_turn
  refine fn_okN ["many", "moves", "found", "move"] ["many", "moves"] false 3 4 2 (b_all_in_turn) F0 sc rfl rfl ?_
  exact fun cdv A outer s H E hr =>
    (sb_cons (ss_expr (se_call C_check_many_packs_0 (hr.mono (by decide)) (sa_cons (se_var (i := 0)) sa_nil)))
    (sb_cons (ss_if (SW.st (sw_or (st_not (st_val (se_isi B .list (se_var (i := 1))))) (ST.or1 (st_not (st_val (se_all B (sa_cons (SE.drop (se_comp [("move", 3)] sc.nd (si_list (se_var (i := 1))) (fun _ _ _ _ _ => (sg_name (i := 3) sc.nd)) (fun _ _ _ _ _ => sts_nil) (fun _ _ _ _ _ => (se_call C_is_move_there_0 (hr.mono (by decide)) (sa_cons (se_var (i := 0)) (sa_cons (se_var (i := 3)) sa_nil)))) (by first | (show blkC ["many", "moves", "found", "move"] (defScope s_all_in_turn) _ _ = true; decide +kernel) | (show blkC ["many", "moves", "found", "move"] (relabel _ (envOfC "" (defScope s_all_in_turn) 0 0 .none)) _ _ = true; decide +kernel)))) sa_nil))))))) (sb_one ss_never) sb_nil)
    (sb_cons (ss_set (i := 2) sc.nd (SE.drop (se_listRg1 B (se_var (i := 0)))))
    (sb_cons (ss_for (si_list (se_var (i := 1))) (sg_name (i := 3) sc.nd) (sb_one (ss_set (i := 2) sc.nd (se_call C_then_there_0 (hr.mono (by decide)) (sa_cons (se_var (i := 2)) (sa_cons (se_var (i := 3)) sa_nil))))))
    (sb_one (ss_ret (se_var (i := 2))))))))
/-! ### is_even -/
theorem sc_is_even : FnScope ["move"] ["move"] (defScope s_is_even) := ⟨rfl, rfl, rfl, by decide +kernel, rfl, by decide +kernel, by decide +kernel⟩
def b_is_even : Ev Fl :=
    (sSeq (sExpr (eCall 1 [] (r_check_move) (eCons (eVar 0) eNil)))
    (sRet (e2 (kVw kEq0) (e2 kMod (e2 kSub (eA kLen (eCons (eVar 0) eNil)) (eA kLen (eCons (eCall 1 [] (r_rings_there) (eCons (eVar 0) eNil)) eNil))) (eC (.int 2))) (eC (.int 0)))))
def r_is_even : List T → Sto → Res T := fnRun false 1 (b_is_even)
theorem ok_is_even (B : Blt mg) (C_check_move_0 : CallF P w K mg base 4 "check_move" false 1 [] (r_check_move)) (C_rings_there_0 : CallF P w K mg base 2 "rings_there" false 1 [] (r_rings_there)) (F0 : FunD K "is_even" "is_even" (defArgs s_is_even) (defBody s_is_even) (defScope s_is_even) [] [] f fd) : FnOk P w K mg base CX0 5 f fd ["move"] (spRun mg false 1 (r_is_even)) := by
  have sc := sc_is_even
  refine fn_okN ["move"] ["move"] false 4 1 1 (b_is_even) F0 sc rfl rfl ?_
  exact fun cdv A outer s H E hr =>
    (sb_cons (ss_expr (se_call C_check_move_0 (hr.mono (by decide)) (sa_cons (se_var (i := 0)) sa_nil)))
    (sb_one (ss_ret (se_cmp (p_eq hr).ok (se_mod (se_sub (se_len B (sa_cons (se_var (i := 0)) sa_nil)) (se_len B (sa_cons (se_call C_rings_there_0 (hr.mono (by decide)) (sa_cons (se_var (i := 0)) sa_nil)) sa_nil))) se_int) se_int))))
/-! ### check_at -/
theorem sc_check_at : FnScope ["many", "at"] ["many", "at"] (defScope s_check_at) := ⟨rfl, rfl, rfl, by decide +kernel, rfl, by decide +kernel, by decide +kernel⟩
def b_check_at : Ev Fl :=
    (sSeq (sExpr (eCall 1 [] (r_check_many) (eCons (eVar 0) eNil)))
    (sIf (eOr (eNot (eB (eCall 2 [.int 0] (r_is_count) (eCons (eVar 1) eNil)))) (eB (e2 kGt (eVar 1) (eVar 0)))) eStuck sNil))
def r_check_at : List T → Sto → Res T := fnRun false 2 (b_check_at)
theorem ok_check_at (B : Blt mg) (C_check_many_packs_0 : CallF P w K mg base 3 "check_many_packs" false 1 [] (r_check_many)) (C_is_count_1 : CallF P w K mg base 2 "is_count" false 2 [.int 0] (r_is_count)) (F0 : FunD K "check_at" "check_at" (defArgs s_check_at) (defBody s_check_at) (defScope s_check_at) [] [] f fd) : FnOk P w K mg base CX0 4 f fd ["many", "at"] (spRun mg false 2 (r_check_at)) := by
  have sc := sc_check_at
  refine fn_okN ["many", "at"] ["many", "at"] false 3 2 2 (b_check_at) F0 sc rfl rfl ?_
  exact fun cdv A outer s H E hr =>
    (sb_cons (ss_expr (se_call C_check_many_packs_0 (hr.mono (by decide)) (sa_cons (se_var (i := 0)) sa_nil)))
    (sb_one (ss_if (SW.st (sw_or (st_not (st_val (se_call C_is_count_1 (hr.mono (by decide)) (sa_cons (se_var (i := 1)) sa_nil) (fun _ => .cons (.int 0) .nil)))) (ST.or1 (st_cmp c_gt (se_var (i := 1)) (se_var (i := 0)))))) (sb_one ss_never) sb_nil)))
/-! ### cut_move -/
theorem sc_cut_move : FnScope ["many", "at"] ["many", "at"] (defScope s_cut_move) := ⟨rfl, rfl, rfl, by decide +kernel, rfl, by decide +kernel, by decide +kernel⟩
def b_cut_move : Ev Fl :=
    (sSeq (sExpr (eCall 2 [] (r_check_at) (eCons (eVar 0) (eCons (eVar 1) eNil))))
    (sRet (e2 kAddL (eLrg2 (eVar 1) (eVar 0)) (eLrg1 (eVar 1)))))
def r_cut_move : List T → Sto → Res T := fnRun false 2 (b_cut_move)
theorem ok_cut_move (B : Blt mg) (C_check_at_0 : CallF P w K mg base 4 "check_at" false 2 [] (r_check_at)) (F0 : FunD K "cut_move" "cut_move" (defArgs s_cut_move) (defBody s_cut_move) (defScope s_cut_move) [] [] f fd) : FnOk P w K mg base CX0 5 f fd ["many", "at"] (spRun mg false 2 (r_cut_move)) := by
  have sc := sc_cut_move
  refine fn_okN ["many", "at"] ["many", "at"] false 4 2 2 (b_cut_move) F0 sc rfl rfl ?_
  exact fun cdv A outer s H E hr =>
    (sb_cons (ss_expr (se_call C_check_at_0 (hr.mono (by decide)) (sa_cons (se_var (i := 0)) (sa_cons (se_var (i := 1)) sa_nil))))
    (sb_one (ss_ret (SE.drop (se_addL (SE.drop (se_listRg2 B (se_var (i := 1)) (se_var (i := 0)))) (SE.drop (se_listRg1 B (se_var (i := 1)))))))))
/-! ### about_move -/
theorem sc_about_move : FnScope ["many", "at"] ["many", "at"] (defScope s_about_move) := ⟨rfl, rfl, rfl, by decide +kernel, rfl, by decide +kernel, by decide +kernel⟩
def b_about_move : Ev Fl :=
    (sSeq (sExpr (eCall 2 [] (r_check_at) (eCons (eVar 0) (eCons (eVar 1) eNil))))
    (sRet (e2 kAddL (e1 kRev (eLrg1 (eVar 1))) (eLrg2 (eVar 1) (eVar 0)))))
def r_about_move : List T → Sto → Res T := fnRun false 2 (b_about_move)
theorem ok_about_move (B : Blt mg) (C_check_at_0 : CallF P w K mg base 4 "check_at" false 2 [] (r_check_at)) (F0 : FunD K "about_move" "about_move" (defArgs s_about_move) (defBody s_about_move) (defScope s_about_move) [] [] f fd) : FnOk P w K mg base CX0 5 f fd ["many", "at"] (spRun mg false 2 (r_about_move)) := by
  have sc := sc_about_move
  refine fn_okN ["many", "at"] ["many", "at"] false 4 2 2 (b_about_move) F0 sc rfl rfl ?_
  exact fun cdv A outer s H E hr =>
    (sb_cons (ss_expr (se_call C_check_at_0 (hr.mono (by decide)) (sa_cons (se_var (i := 0)) (sa_cons (se_var (i := 1)) sa_nil))))
    (sb_one (ss_ret (SE.drop (se_addL (SE.drop (se_rev (k := 0) (SE.drop (se_listRg1 B (se_var (i := 1)))))) (SE.drop (se_listRg2 B (se_var (i := 1)) (se_var (i := 0)))))))))
/-! ### check_many -/
theorem sc_faros_check_many : FnScope ["many"] ["many"] (defScope s_faros_check_many) := ⟨rfl, rfl, rfl, by decide +kernel, rfl, by decide +kernel, by decide +kernel⟩
def b_faros_check_many : Ev Fl :=
    (sIf (eNot (eB (eCall 2 [.int 0] (r_is_count) (eCons (eVar 0) eNil)))) eStuck sNil)
def r_faros_check_many : List T → Sto → Res T := fnRun false 1 (b_faros_check_many)
theorem ok_faros_check_many (B : Blt mg) (C_is_count_1 : CallF P w K mg base 2 "is_count" false 2 [.int 0] (r_is_count)) (F0 : FunD K "check_many" "check_many" (defArgs s_faros_check_many) (defBody s_faros_check_many) (defScope s_faros_check_many) [] [] f fd) : FnOk P w K mg base CX0 3 f fd ["many"] (spRun mg false 1 (r_faros_check_many)) := by
  have sc := sc_faros_check_many
  refine fn_okN ["many"] ["many"] false 2 1 1 (b_faros_check_many) F0 sc rfl rfl ?_
  exact fun cdv A outer s H E hr =>
    (sb_one (ss_if (st_not (st_val (se_call C_is_count_1 (hr.mono (by decide)) (sa_cons (se_var (i := 0)) sa_nil) (fun _ => .cons (.int 0) .nil)))) (sb_one ss_never) sb_nil))
/-! ### check_kind -/
theorem sc_check_kind : FnScope ["many", "kind"] ["many", "kind"] (defScope s_check_kind) := ⟨rfl, rfl, rfl, by decide +kernel, rfl, by decide +kernel, by decide +kernel⟩
def b_check_kind : Ev Fl :=
    (sSeq (sExpr (eCall 1 [] (r_faros_check_many) (eCons (eVar 0) eNil)))
    (sIf (eNot (eB (eCall 2 [] (r_is_one_of) (eCons (eVar 1) (eCons (eTup (eCons (eC (.str ⟨#[105, 110]⟩)) (eCons (eC (.str ⟨#[111, 117, 116]⟩)) eNil))) eNil))))) eStuck sNil))
def r_check_kind : List T → Sto → Res T := fnRun false 2 (b_check_kind)
theorem ok_check_kind (B : Blt mg) (C_check_many_faros_0 : CallF P w K mg base 3 "check_many_faros" false 1 [] (r_faros_check_many)) (C_is_one_of_0 : CallF P w K mg base 1 "is_one_of" false 2 [] (r_is_one_of)) (F0 : FunD K "check_kind" "check_kind" (defArgs s_check_kind) (defBody s_check_kind) (defScope s_check_kind) [] [] f fd) : FnOk P w K mg base CX0 4 f fd ["many", "kind"] (spRun mg false 2 (r_check_kind)) := by
  have sc := sc_check_kind
  refine fn_okN ["many", "kind"] ["many", "kind"] false 3 2 2 (b_check_kind) F0 sc rfl rfl ?_
  exact fun cdv A outer s H E hr =>
    (sb_cons (ss_expr (se_call C_check_many_faros_0 (hr.mono (by decide)) (sa_cons (se_var (i := 0)) sa_nil)))
    (sb_one (ss_if (st_not (st_val (se_call C_is_one_of_0 (hr.mono (by decide)) (sa_cons (se_var (i := 1)) (sa_cons (se_tup (sa_cons se_str (sa_cons se_str sa_nil))) sa_nil))))) (sb_one ss_never) sb_nil)))
/-! ### faro_there -/
theorem sc_faro_there : FnScope ["many", "kind", "cut", "found", "upper", "lower", "first", "second", "at", "place"] ["many", "kind"] (defScope s_faro_there) := ⟨rfl, rfl, rfl, by decide +kernel, rfl, by decide +kernel, by decide +kernel⟩
def b_faro_there : Ev Fl :=
    (sSeq (sAsg (eIf (eB (e2 (kVw kEq0) (eVar 1) (eC (.str ⟨#[111, 117, 116]⟩)))) (e2 kDiv (e2 kAddI (eVar 0) (eC (.int 1))) (eC (.int 2))) (e2 kDiv (eVar 0) (eC (.int 2)))) (gN 2))
    (sSeq (sPar 4 5 (eCons (eLrg1 (eVar 2)) (eCons (eLrg2 (eVar 2) (eVar 0)) eNil)))
    (sSeq (sAsg (eIf (eB (e2 (kVw kEq0) (eVar 1) (eC (.str ⟨#[111, 117, 116]⟩)))) (eTup (eCons (eVar 4) (eCons (eVar 5) eNil))) (eTup (eCons (eVar 5) (eCons (eVar 4) eNil)))) (gTup 2 (gCons (gN 6) (gCons (gN 7) gNil))))
    (sSeq (sAsg (eNew (eLst eNil)) (gN 3))
    (sSeq (sFor (iEn (eVar 6)) (gTup 2 (gCons (gN 8) (gCons (gN 9) gNil))) (sExpr (eBm kExt (eVar 3) (eCons (eLst (eCons (eVar 9) (eStar (eSl (eVar 7) (ePart (eVar 8)) (ePart (e2 kAddI (eVar 8) (eC (.int 1))))) eNil))) eNil))))
    (sRet (eFrz (eVar 3))))))))
def r_faro_there : List T → Sto → Res T := lone (fnRun false 10 (b_faro_there))
theorem ok_faro_there (B : Blt mg)  (F0 : FunD K "faro_there" "faro_there" (defArgs s_faro_there) (defBody s_faro_there) (defScope s_faro_there) [] [] f fd) : FnOk P w K mg base CX0 1 f fd ["many", "kind"] (spRun mg false 2 (r_faro_there)) := by
  have sc := sc_faro_there
  refine fn_lone ?_
  refine fn_okN ["many", "kind", "cut", "found", "upper", "lower", "first", "second", "at", "place"] ["many", "kind"] false 0 10 2 (b_faro_there) F0 sc rfl rfl ?_
  exact fun cdv A outer s H E hr =>
    (sb_cons (ss_set (i := 2) sc.nd (se_if (st_cmp (p_eq hr).ok (se_var (i := 1)) se_str) (se_fdiv (se_addI (se_var (i := 0)) se_int) se_int) (se_fdiv (se_var (i := 0)) se_int)))
    (sb_cons (ss_par (i := 4) (j := 5) sc.nd (sa_cons (SE.drop (se_listRg1 B (se_var (i := 2)))) (sa_cons (SE.drop (se_listRg2 B (se_var (i := 2)) (se_var (i := 0)))) sa_nil)))
    (sb_cons (ss_asg (se_if (st_cmp (p_eq hr).ok (se_var (i := 1)) se_str) (se_tup (sa_cons (se_var (i := 4)) (sa_cons (se_var (i := 5)) sa_nil))) (se_tup (sa_cons (se_var (i := 5)) (sa_cons (se_var (i := 4)) sa_nil)))) (sg_tup (n := 2) (sgs_cons (sg_name (i := 6) sc.nd) (sgs_cons (sg_name (i := 7) sc.nd) sgs_nil))))
    (sb_cons (ss_set (i := 3) sc.nd (SE.new (se_lst sa_nil)))
    (sb_cons (ss_for (si_enum B (se_var (i := 6))) (sg_tup (n := 2) (sgs_cons (sg_name (i := 8) sc.nd) (sgs_cons (sg_name (i := 9) sc.nd) sgs_nil))) (sb_one (ss_expr (se_extend (se_var (i := 3)) (sa_cons (SE.drop (se_lst (sa_cons (se_var (i := 9)) (sa_star (SE.drop (se_sl (se_var (i := 7)) (so_some (se_var (i := 8))) (so_some (se_addI (se_var (i := 8)) se_int)))) sa_nil)))) sa_nil)))))
    (sb_one (ss_ret (SE.frz (se_var (i := 3))))))))))
/-! ### faro_move -/
theorem sc_faro_move : FnScope ["many", "kind"] ["many", "kind"] (defScope s_faro_move) := ⟨rfl, rfl, rfl, by decide +kernel, rfl, by decide +kernel, by decide +kernel⟩
def b_faro_move : Ev Fl :=
    (sSeq (sExpr (eCall 2 [] (r_check_kind) (eCons (eVar 0) (eCons (eVar 1) eNil))))
    (sRet (eCall 2 [] (r_faro_there) (eCons (eVar 0) (eCons (eVar 1) eNil)))))
def r_faro_move : List T → Sto → Res T := fnRun false 2 (b_faro_move)
theorem ok_faro_move (B : Blt mg) (C_check_kind_0 : CallF P w K mg base 4 "check_kind" false 2 [] (r_check_kind)) (C_faro_there_0 : CallF P w K mg base 1 "faro_there" false 2 [] (r_faro_there)) (F0 : FunD K "faro_move" "faro_move" (defArgs s_faro_move) (defBody s_faro_move) (defScope s_faro_move) [] [] f fd) : FnOk P w K mg base CX0 5 f fd ["many", "kind"] (spRun mg false 2 (r_faro_move)) := by
  have sc := sc_faro_move
  refine fn_okN ["many", "kind"] ["many", "kind"] false 4 2 2 (b_faro_move) F0 sc rfl rfl ?_
  exact fun cdv A outer s H E hr =>
    (sb_cons (ss_expr (se_call C_check_kind_0 (hr.mono (by decide)) (sa_cons (se_var (i := 0)) (sa_cons (se_var (i := 1)) sa_nil))))
    (sb_one (ss_ret (se_call C_faro_there_0 (hr.mono (by decide)) (sa_cons (se_var (i := 0)) (sa_cons (se_var (i := 1)) sa_nil))))))
/-! ### is_ring -/
theorem sc_is_ring : FnScope ["value", "sign"] ["value"] (defScope s_is_ring) := ⟨rfl, rfl, rfl, by decide +kernel, rfl, by decide +kernel, by decide +kernel⟩
def b_is_ring : Ev Fl :=
    (sRet (vAnd (e1 (kIsi .list) (eVar 0)) (vAnd (e2 (kVw kNe0) (eVar 0) (eLst eNil)) (eA kAll (eCons (eComp (iLst (eVar 0)) (gN 1) cYes (eCall 2 [.int 0] (r_is_count) (eCons (eVar 1) eNil)) [1]) eNil)))))
def r_is_ring : List T → Sto → Res T := fnRun false 2 (b_is_ring)
theorem ok_is_ring (B : Blt mg) (C_is_count_1 : CallF P w K mg base 2 "is_count" false 2 [.int 0] (r_is_count)) (F0 : FunD K "is_ring" "is_ring" (defArgs s_is_ring) (defBody s_is_ring) (defScope s_is_ring) [] [] f fd) : FnOk P w K mg base CX0 3 f fd ["value"] (spRun mg false 1 (r_is_ring)) := by
  have sc := sc_is_ring
  refine fn_okN ["value", "sign"] ["value"] false 2 2 1 (b_is_ring) F0 sc rfl rfl ?_
  exact fun cdv A outer s H E hr =>
    (sb_one (ss_ret (se_and (se_isi B .list (se_var (i := 0))) (se_and (se_cmp (p_ne hr).ok (se_var (i := 0)) (SE.drop (se_lst sa_nil))) (se_one (se_all B (sa_cons (SE.drop (se_comp [("sign", 1)] sc.nd (si_list (se_var (i := 0))) (fun _ _ _ _ _ => (sg_name (i := 1) sc.nd)) (fun _ _ _ _ _ => sts_nil) (fun _ _ _ _ _ => (se_call C_is_count_1 (hr.mono (by decide)) (sa_cons (se_var (i := 1)) sa_nil) (fun _ => .cons (.int 0) .nil))) (by first | (show blkC ["value", "sign"] (defScope s_is_ring) _ _ = true; decide +kernel) | (show blkC ["value", "sign"] (relabel _ (envOfC "" (defScope s_is_ring) 0 0 .none)) _ _ = true; decide +kernel)))) sa_nil)))))))
/-! ### check_ring -/
theorem sc_check_ring : FnScope ["ring"] ["ring"] (defScope s_check_ring) := ⟨rfl, rfl, rfl, by decide +kernel, rfl, by decide +kernel, by decide +kernel⟩
def b_check_ring : Ev Fl :=
    (sIf (eNot (eB (eCall 1 [] (r_is_ring) (eCons (eVar 0) eNil)))) eStuck sNil)
def r_check_ring : List T → Sto → Res T := fnRun false 1 (b_check_ring)
theorem ok_check_ring (B : Blt mg) (C_is_ring_0 : CallF P w K mg base 3 "is_ring" false 1 [] (r_is_ring)) (F0 : FunD K "check_ring" "check_ring" (defArgs s_check_ring) (defBody s_check_ring) (defScope s_check_ring) [] [] f fd) : FnOk P w K mg base CX0 4 f fd ["ring"] (spRun mg false 1 (r_check_ring)) := by
  have sc := sc_check_ring
  refine fn_okN ["ring"] ["ring"] false 3 1 1 (b_check_ring) F0 sc rfl rfl ?_
  exact fun cdv A outer s H E hr =>
    (sb_one (ss_if (st_not (st_val (se_call C_is_ring_0 (hr.mono (by decide)) (sa_cons (se_var (i := 0)) sa_nil)))) (sb_one ss_never) sb_nil))
/-! ### windows_there -/
theorem sc_windows_there : FnScope ["ring", "length", "place", "at"] ["ring", "length"] (defScope s_windows_there) := ⟨rfl, rfl, rfl, by decide +kernel, rfl, by decide +kernel, by decide +kernel⟩
def b_windows_there : Ev Fl :=
    (sRet (eComp (iRg1 (eA kLen (eCons (eVar 0) eNil))) (gN 2) cYes (eComp (iRg1 (eVar 1)) (gN 3) cYes (e2 kIx (eVar 0) (e2 kMod (e2 kAddI (eVar 2) (eVar 3)) (eA kLen (eCons (eVar 0) eNil)))) [3]) [2]))
def r_windows_there : List T → Sto → Res T := fnRun false 4 (b_windows_there)
theorem ok_windows_there (B : Blt mg)  (F0 : FunD K "windows_there" "windows_there" (defArgs s_windows_there) (defBody s_windows_there) (defScope s_windows_there) [] [] f fd) : FnOk P w K mg base CX0 1 f fd ["ring", "length"] (spRun mg false 2 (r_windows_there)) := by
  have sc := sc_windows_there
  refine fn_okN ["ring", "length", "place", "at"] ["ring", "length"] false 0 4 2 (b_windows_there) F0 sc rfl rfl ?_
  exact fun cdv A outer s H E hr =>
    (sb_one (ss_ret (SE.drop (se_comp [("place", 2)] sc.nd (si_range1 B (se_len B (sa_cons (se_var (i := 0)) sa_nil))) (fun _ _ _ _ _ => (sg_name (i := 2) sc.nd)) (fun _ _ _ _ _ => sts_nil) (fun _ _ _ _ _ => (SE.drop (se_comp [("at", 3)] sc.nd (si_range1 B (se_var (i := 1))) (fun _ _ _ _ _ => (sg_name (i := 3) sc.nd)) (fun _ _ _ _ _ => sts_nil) (fun _ _ _ _ _ => (se_ix hr (se_var (i := 0)) (se_mod (se_addI (se_var (i := 2)) (se_var (i := 3))) (se_len B (sa_cons (se_var (i := 0)) sa_nil))))) (by first | (show blkC ["ring", "length", "place", "at"] (defScope s_windows_there) _ _ = true; decide +kernel) | (show blkC ["ring", "length", "place", "at"] (relabel _ (envOfC "" (defScope s_windows_there) 0 0 .none)) _ _ = true; decide +kernel))))) (by first | (show blkC ["ring", "length", "place", "at"] (defScope s_windows_there) _ _ = true; decide +kernel) | (show blkC ["ring", "length", "place", "at"] (relabel _ (envOfC "" (defScope s_windows_there) 0 0 .none)) _ _ = true; decide +kernel))))))
/-! ### check_length -/
theorem sc_check_length : FnScope ["ring", "length"] ["ring", "length"] (defScope s_check_length) := ⟨rfl, rfl, rfl, by decide +kernel, rfl, by decide +kernel, by decide +kernel⟩
def b_check_length : Ev Fl :=
    (sSeq (sExpr (eCall 1 [] (r_check_ring) (eCons (eVar 0) eNil)))
    (sIf (eOr (eNot (eB (eCall 2 [.int 0] (r_is_count) (eCons (eVar 1) eNil)))) (eB (e2 kGt (eVar 1) (eA kLen (eCons (eVar 0) eNil))))) eStuck sNil))
def r_check_length : List T → Sto → Res T := fnRun false 2 (b_check_length)
theorem ok_check_length (B : Blt mg) (C_check_ring_0 : CallF P w K mg base 4 "check_ring" false 1 [] (r_check_ring)) (C_is_count_1 : CallF P w K mg base 2 "is_count" false 2 [.int 0] (r_is_count)) (F0 : FunD K "check_length" "check_length" (defArgs s_check_length) (defBody s_check_length) (defScope s_check_length) [] [] f fd) : FnOk P w K mg base CX0 5 f fd ["ring", "length"] (spRun mg false 2 (r_check_length)) := by
  have sc := sc_check_length
  refine fn_okN ["ring", "length"] ["ring", "length"] false 4 2 2 (b_check_length) F0 sc rfl rfl ?_
  exact fun cdv A outer s H E hr =>
    (sb_cons (ss_expr (se_call C_check_ring_0 (hr.mono (by decide)) (sa_cons (se_var (i := 0)) sa_nil)))
    (sb_one (ss_if (SW.st (sw_or (st_not (st_val (se_call C_is_count_1 (hr.mono (by decide)) (sa_cons (se_var (i := 1)) sa_nil) (fun _ => .cons (.int 0) .nil)))) (ST.or1 (st_cmp c_gt (se_var (i := 1)) (se_len B (sa_cons (se_var (i := 0)) sa_nil)))))) (sb_one ss_never) sb_nil)))
/-! ### are_unlike -/
theorem sc_are_unlike : FnScope ["rows", "row"] ["rows"] (defScope s_are_unlike) := ⟨rfl, rfl, rfl, by decide +kernel, rfl, by decide +kernel, by decide +kernel⟩
def b_are_unlike : Ev Fl :=
    (sRet (e2 (kVw kEq0) (eLenSetT (eComp (iLst (eVar 0)) (gN 1) cYes (eA kTupC (eCons (eVar 1) eNil)) [1])) (eA kLen (eCons (eVar 0) eNil))))
def r_are_unlike : List T → Sto → Res T := fnRun false 2 (b_are_unlike)
theorem ok_are_unlike (B : Blt mg)  (F0 : FunD K "are_unlike" "are_unlike" (defArgs s_are_unlike) (defBody s_are_unlike) (defScope s_are_unlike) [] [] f fd) : FnOk P w K mg base CX0 1 f fd ["rows"] (spRun mg false 1 (r_are_unlike)) := by
  have sc := sc_are_unlike
  refine fn_okN ["rows", "row"] ["rows"] false 0 2 1 (b_are_unlike) F0 sc rfl rfl ?_
  exact fun cdv A outer s H E hr =>
    (sb_one (ss_ret (se_cmp (p_eq hr).ok (se_lenSetT hr B (SE.drop (se_comp [("row", 1)] sc.nd (si_list (se_var (i := 0))) (fun _ _ _ _ _ => (sg_name (i := 1) sc.nd)) (fun _ _ _ _ _ => sts_nil) (fun _ _ _ _ _ => (se_tupC B (sa_cons (se_var (i := 1)) sa_nil))) (by first | (show blkC ["rows", "row"] (defScope s_are_unlike) _ _ = true; decide +kernel) | (show blkC ["rows", "row"] (relabel _ (envOfC "" (defScope s_are_unlike) 0 0 .none)) _ _ = true; decide +kernel))))) (se_len B (sa_cons (se_var (i := 0)) sa_nil)))))
/-! ### does_tell -/
theorem sc_does_tell : FnScope ["ring", "length"] ["ring", "length"] (defScope s_does_tell) := ⟨rfl, rfl, rfl, by decide +kernel, rfl, by decide +kernel, by decide +kernel⟩
def b_does_tell : Ev Fl :=
    (sSeq (sExpr (eCall 2 [] (r_check_length) (eCons (eVar 0) (eCons (eVar 1) eNil))))
    (sRet (eCall 1 [] (r_are_unlike) (eCons (eCall 2 [] (r_windows_there) (eCons (eVar 0) (eCons (eVar 1) eNil))) eNil))))
def r_does_tell : List T → Sto → Res T := fnRun false 2 (b_does_tell)
theorem ok_does_tell (B : Blt mg) (C_check_length_0 : CallF P w K mg base 5 "check_length" false 2 [] (r_check_length)) (C_are_unlike_0 : CallF P w K mg base 1 "are_unlike" false 1 [] (r_are_unlike)) (C_windows_there_0 : CallF P w K mg base 1 "windows_there" false 2 [] (r_windows_there)) (F0 : FunD K "does_tell" "does_tell" (defArgs s_does_tell) (defBody s_does_tell) (defScope s_does_tell) [] [] f fd) : FnOk P w K mg base CX0 6 f fd ["ring", "length"] (spRun mg false 2 (r_does_tell)) := by
  have sc := sc_does_tell
  refine fn_okN ["ring", "length"] ["ring", "length"] false 5 2 2 (b_does_tell) F0 sc rfl rfl ?_
  exact fun cdv A outer s H E hr =>
    (sb_cons (ss_expr (se_call C_check_length_0 (hr.mono (by decide)) (sa_cons (se_var (i := 0)) (sa_cons (se_var (i := 1)) sa_nil))))
    (sb_one (ss_ret (se_call C_are_unlike_0 (hr.mono (by decide)) (sa_cons (se_call C_windows_there_0 (hr.mono (by decide)) (sa_cons (se_var (i := 0)) (sa_cons (se_var (i := 1)) sa_nil))) sa_nil)))))
/-! ### is_window -/
theorem sc_is_window : FnScope ["ring", "value", "sign"] ["ring", "value"] (defScope s_is_window) := ⟨rfl, rfl, rfl, by decide +kernel, rfl, by decide +kernel, by decide +kernel⟩
def b_is_window : Ev Fl :=
    (sSeq (sIf (eOr (eNot (eB (e1 (kIsi .list) (eVar 1)))) (eB (e2 kGt (eA kLen (eCons (eVar 1) eNil)) (eA kLen (eCons (eVar 0) eNil))))) (sRet (eC (.bl false))) sNil)
    (sRet (eA kAll (eCons (eComp (iLst (eVar 1)) (gN 2) cYes (vOr (e2 kIsN (eVar 2) (eC .non)) (eCall 2 [.int 0] (r_is_count) (eCons (eVar 2) eNil))) [2]) eNil))))
def r_is_window : List T → Sto → Res T := fnRun false 3 (b_is_window)
theorem ok_is_window (B : Blt mg) (C_is_count_1 : CallF P w K mg base 2 "is_count" false 2 [.int 0] (r_is_count)) (F0 : FunD K "is_window" "is_window" (defArgs s_is_window) (defBody s_is_window) (defScope s_is_window) [] [] f fd) : FnOk P w K mg base CX0 3 f fd ["ring", "value"] (spRun mg false 2 (r_is_window)) := by
  have sc := sc_is_window
  refine fn_okN ["ring", "value", "sign"] ["ring", "value"] false 2 3 2 (b_is_window) F0 sc rfl rfl ?_
  exact fun cdv A outer s H E hr =>
    (sb_cons (ss_if (SW.st (sw_or (st_not (st_val (se_isi B .list (se_var (i := 1))))) (ST.or1 (st_cmp c_gt (se_len B (sa_cons (se_var (i := 1)) sa_nil)) (se_len B (sa_cons (se_var (i := 0)) sa_nil)))))) (sb_one (ss_ret se_bl)) sb_nil)
    (sb_one (ss_ret (se_all B (sa_cons (SE.drop (se_comp [("sign", 2)] sc.nd (si_list (se_var (i := 1))) (fun _ _ _ _ _ => (sg_name (i := 2) sc.nd)) (fun _ _ _ _ _ => sts_nil) (fun _ _ _ _ _ => (se_or (se_cmp c_is (se_var (i := 2)) se_non) (se_one (se_call C_is_count_1 (hr.mono (by decide)) (sa_cons (se_var (i := 2)) sa_nil) (fun _ => .cons (.int 0) .nil))))) (by first | (show blkC ["ring", "value", "sign"] (defScope s_is_window) _ _ = true; decide +kernel) | (show blkC ["ring", "value", "sign"] (relabel _ (envOfC "" (defScope s_is_window) 0 0 .none)) _ _ = true; decide +kernel)))) sa_nil)))))
/-! ### places_for -/
theorem sc_places_for : FnScope ["ring", "window", "found", "place", "row", "sign", "late"] ["ring", "window"] (defScope s_places_for) := ⟨rfl, rfl, rfl, by decide +kernel, rfl, by decide +kernel, by decide +kernel⟩
def b_places_for : Ev Fl :=
    (sSeq (sExpr (eCall 1 [] (r_check_ring) (eCons (eVar 0) eNil)))
    (sSeq (sIf (eNot (eB (eCall 2 [] (r_is_window) (eCons (eVar 0) (eCons (eVar 1) eNil))))) eStuck sNil)
    (sSeq (sAsg (eNew (eLst eNil)) (gN 2))
    (sSeq (sFor (iEn (eCall 2 [] (r_windows_there) (eCons (eVar 0) (eCons (eA kLen (eCons (eVar 1) eNil)) eNil)))) (gTup 2 (gCons (gN 3) (gCons (gN 4) gNil))) (sIf (eB (eA kAll (eCons (eComp (iZp (eVar 1) (eVar 4)) (gTup 2 (gCons (gN 5) (gCons (gN 6) gNil))) cYes (e2 (kVw kIn0) (eVar 5) (eTup (eCons (eC .non) (eCons (eVar 6) eNil)))) [5, 6]) eNil))) (sExpr (eBm kApp (eVar 2) (eCons (eVar 3) eNil))) sNil))
    (sRet (eFrz (eVar 2)))))))
def r_places_for : List T → Sto → Res T := lone (fnRun false 7 (b_places_for))
theorem ok_places_for (B : Blt mg) (C_check_ring_0 : CallF P w K mg base 4 "check_ring" false 1 [] (r_check_ring)) (C_is_window_0 : CallF P w K mg base 3 "is_window" false 2 [] (r_is_window)) (C_windows_there_0 : CallF P w K mg base 1 "windows_there" false 2 [] (r_windows_there)) (F0 : FunD K "places_for" "places_for" (defArgs s_places_for) (defBody s_places_for) (defScope s_places_for) [] [] f fd) : FnOk P w K mg base CX0 5 f fd ["ring", "window"] (spRun mg false 2 (r_places_for)) := by
  have sc := sc_places_for
  refine fn_lone ?_
  refine fn_okN ["ring", "window", "found", "place", "row", "sign", "late"] ["ring", "window"] false 4 7 2 (b_places_for) F0 sc rfl rfl ?_
  exact fun cdv A outer s H E hr =>
    (sb_cons (ss_expr (se_call C_check_ring_0 (hr.mono (by decide)) (sa_cons (se_var (i := 0)) sa_nil)))
    (sb_cons (ss_if (st_not (st_val (se_call C_is_window_0 (hr.mono (by decide)) (sa_cons (se_var (i := 0)) (sa_cons (se_var (i := 1)) sa_nil))))) (sb_one ss_never) sb_nil)
    (sb_cons (ss_set (i := 2) sc.nd (SE.new (se_lst sa_nil)))
    (sb_cons (ss_for (si_enum B (se_call C_windows_there_0 (hr.mono (by decide)) (sa_cons (se_var (i := 0)) (sa_cons (se_len B (sa_cons (se_var (i := 1)) sa_nil)) sa_nil)))) (sg_tup (n := 2) (sgs_cons (sg_name (i := 3) sc.nd) (sgs_cons (sg_name (i := 4) sc.nd) sgs_nil))) (sb_one (ss_if (st_val (se_all B (sa_cons (SE.drop (se_comp [("sign", 5), ("late", 6)] sc.nd (si_zip B (se_var (i := 1)) (se_var (i := 4))) (fun _ _ _ _ _ => (sg_tup (n := 2) (sgs_cons (sg_name (i := 5) sc.nd) (sgs_cons (sg_name (i := 6) sc.nd) sgs_nil)))) (fun _ _ _ _ _ => sts_nil) (fun _ _ _ _ _ => (se_cmp (p_in hr).ok (se_var (i := 5)) (se_tup (sa_cons se_non (sa_cons (se_var (i := 6)) sa_nil))))) (by first | (show blkC ["ring", "window", "found", "place", "row", "sign", "late"] (defScope s_places_for) _ _ = true; decide +kernel) | (show blkC ["ring", "window", "found", "place", "row", "sign", "late"] (relabel _ (envOfC "" (defScope s_places_for) 0 0 .none)) _ _ = true; decide +kernel)))) sa_nil))) (sb_one (ss_expr (se_append (se_var (i := 2)) (sa_cons (se_var (i := 3)) sa_nil)))) sb_nil)))
    (sb_one (ss_ret (SE.frz (se_var (i := 2)))))))))
/-! ### check_signs -/
theorem sc_check_signs : FnScope ["signs", "length"] ["signs", "length"] (defScope s_check_signs) := ⟨rfl, rfl, rfl, by decide +kernel, rfl, by decide +kernel, by decide +kernel⟩
def b_check_signs : Ev Fl :=
    (sSeq (sIf (eNot (eB (eCall 2 [] (r_is_count) (eCons (eVar 0) (eCons (eC (.int 1)) eNil))))) eStuck sNil)
    (sIf (eNot (eB (eCall 2 [] (r_is_count) (eCons (eVar 1) (eCons (eC (.int 1)) eNil))))) eStuck sNil))
def r_check_signs : List T → Sto → Res T := fnRun false 2 (b_check_signs)
theorem ok_check_signs (B : Blt mg) (C_is_count_0 : CallF P w K mg base 2 "is_count" false 2 [] (r_is_count)) (F0 : FunD K "check_signs" "check_signs" (defArgs s_check_signs) (defBody s_check_signs) (defScope s_check_signs) [] [] f fd) : FnOk P w K mg base CX0 3 f fd ["signs", "length"] (spRun mg false 2 (r_check_signs)) := by
  have sc := sc_check_signs
  refine fn_okN ["signs", "length"] ["signs", "length"] false 2 2 2 (b_check_signs) F0 sc rfl rfl ?_
  exact fun cdv A outer s H E hr =>
    (sb_cons (ss_if (st_not (st_val (se_call C_is_count_0 (hr.mono (by decide)) (sa_cons (se_var (i := 0)) (sa_cons se_int sa_nil))))) (sb_one ss_never) sb_nil)
    (sb_one (ss_if (st_not (st_val (se_call C_is_count_0 (hr.mono (by decide)) (sa_cons (se_var (i := 1)) (sa_cons se_int sa_nil))))) (sb_one ss_never) sb_nil)))
/-! ### power_of -/
theorem sc_power_of : FnScope ["number", "times", "found", "spin"] ["number", "times"] (defScope s_power_of) := ⟨rfl, rfl, rfl, by decide +kernel, rfl, by decide +kernel, by decide +kernel⟩
def b_power_of : Ev Fl :=
    (sSeq (sAsg (eC (.int 1)) (gN 2))
    (sSeq (sFor (iRg1 (eVar 1)) (gN 3) (sAsg (e2 kMul (eVar 2) (eVar 0)) (gN 2)))
    (sRet (eVar 2))))
def r_power_of : List T → Sto → Res T := fnRun false 4 (b_power_of)
theorem ok_power_of (B : Blt mg)  (F0 : FunD K "power_of" "power_of" (defArgs s_power_of) (defBody s_power_of) (defScope s_power_of) [] [] f fd) : FnOk P w K mg base CX0 1 f fd ["number", "times"] (spRun mg false 2 (r_power_of)) := by
  have sc := sc_power_of
  refine fn_okN ["number", "times", "found", "spin"] ["number", "times"] false 0 4 2 (b_power_of) F0 sc rfl rfl ?_
  exact fun cdv A outer s H E hr =>
    (sb_cons (ss_set (i := 2) sc.nd se_int)
    (sb_cons (ss_for (si_range1 B (se_var (i := 1))) (sg_name (i := 3) sc.nd) (sb_one (ss_set (i := 2) sc.nd (se_mul (se_var (i := 2)) (se_var (i := 0))))))
    (sb_one (ss_ret (se_var (i := 2))))))
/-! ### greedy_ring -/
theorem sc_greedy_ring : FnScope ["signs", "length", "known", "found", "whole", "ahead", "some", "sign"] ["signs", "length"] (defScope s_greedy_ring) := ⟨rfl, rfl, rfl, by decide +kernel, rfl, by decide +kernel, by decide +kernel⟩
def b_greedy_ring : Ev Fl :=
    (sSeq (sExpr (eCall 2 [] (r_check_signs) (eCons (eVar 0) (eCons (eVar 1) eNil))))
    (sSeq (sPar 3 4 (eCons (eNew (e2 kRep (eLst (eCons (eC (.int 0)) eNil)) (eVar 1))) (eCons (eCall 2 [] (r_power_of) (eCons (eVar 0) (eCons (eVar 1) eNil))) eNil)))
    (sSeq (sAsg (eDtNew (eA kTupC (eCons (eVar 3) eNil)) (eC (.bl true))) (gN 2))
    (sSeq (sWhile (eB (e2 kLt (eA kLenP (eCons (eVar 2) eNil)) (eVar 4))) (sSeq (sAsg (eSl (eVar 3) (ePart (e2 kAddI (e2 kSub (eA kLen (eCons (eVar 3) eNil)) (eVar 1)) (eC (.int 1)))) eNone) (gN 5))
    (sSeq (sAsg (eComp (iRg3 (e2 kSub (eVar 0) (eC (.int 1))) (e1 kNeg (eC (.int 1))) (e1 kNeg (eC (.int 1)))) (gN 7) (eB (e2 kNinP (eTup (eStar (eVar 5) (eCons (eVar 7) eNil))) (eVar 2))) (eVar 7) [7]) (gN 6))
    (sSeq (sExpr (eBm kApp (eVar 3) (eCons (e2 kIx (eVar 6) (eC (.int 0))) eNil)))
    (sAsg (eC (.bl true)) (gAtP (eVar 2) (eA kTupC (eCons (eLst (eStar (eVar 5) (eCons (e2 kIx (eVar 6) (eC (.int 0))) eNil))) eNil))))))) 60)
    (sRet (eSl (eVar 3) eNone (ePart (eVar 4))))))))
def r_greedy_ring : List T → Sto → Res T := lone (fnRun false 8 (b_greedy_ring))
theorem ok_greedy_ring (B : Blt mg) (C_check_signs_0 : CallF P w K mg base 3 "check_signs" false 2 [] (r_check_signs)) (C_power_of_0 : CallF P w K mg base 1 "power_of" false 2 [] (r_power_of)) (F0 : FunD K "greedy_ring" "greedy_ring" (defArgs s_greedy_ring) (defBody s_greedy_ring) (defScope s_greedy_ring) [] [] f fd) : FnOk P w K mg base CX0 4 f fd ["signs", "length"] (spRun mg false 2 (r_greedy_ring)) := by
  have sc := sc_greedy_ring
  refine fn_lone ?_
  refine fn_okN ["signs", "length", "known", "found", "whole", "ahead", "some", "sign"] ["signs", "length"] false 3 8 2 (b_greedy_ring) F0 sc rfl rfl ?_
  exact fun cdv A outer s H E hr =>
    (sb_cons (ss_expr (se_call C_check_signs_0 (hr.mono (by decide)) (sa_cons (se_var (i := 0)) (sa_cons (se_var (i := 1)) sa_nil))))
    (sb_cons (ss_par (i := 3) (j := 4) sc.nd (sa_cons (SE.new (se_repL (se_lst (sa_cons se_int sa_nil)) (se_var (i := 1)))) (sa_cons (se_call C_power_of_0 (hr.mono (by decide)) (sa_cons (se_var (i := 0)) (sa_cons (se_var (i := 1)) sa_nil))) sa_nil)))
    (sb_cons (ss_set (i := 2) sc.nd (se_dtNew hr (se_tupC B (sa_cons (se_var (i := 3)) sa_nil)) se_bl))
    (sb_cons (ss_while 60 (st_cmp c_lt (se_lenP B (sa_cons (se_var (i := 2)) sa_nil)) (se_var (i := 4))) (sb_cons (ss_set (i := 5) sc.nd (SE.drop (se_sl (se_var (i := 3)) (so_some (se_addI (se_sub (se_len B (sa_cons (se_var (i := 3)) sa_nil)) (se_var (i := 1))) se_int)) so_none)))
    (sb_cons (ss_setLc (i := 6) [("sign", 7)] sc.nd (si_range3 B (se_sub (se_var (i := 0)) se_int) (se_neg se_int) (se_neg se_int)) (fun _ _ _ _ _ => (sg_name (i := 7) sc.nd)) (fun _ _ _ _ _ => (sts_one (st_cmp (c_ninP hr) (se_tup (sa_star (se_var (i := 5)) (sa_cons (se_var (i := 7)) sa_nil))) (se_var (i := 2))))) (fun _ _ _ _ _ => (se_var (i := 7))) (ok := (by first | (show blkC ["signs", "length", "known", "found", "whole", "ahead", "some", "sign"] (defScope s_greedy_ring) _ _ = true; decide +kernel) | (show blkC ["signs", "length", "known", "found", "whole", "ahead", "some", "sign"] (relabel _ (envOfC "" (defScope s_greedy_ring) 0 0 .none)) _ _ = true; decide +kernel))))
    (sb_cons (ss_expr (se_append (se_var (i := 3)) (sa_cons (se_ix hr (se_var (i := 6)) se_int) sa_nil)))
    (sb_one (ss_asg se_bl (sg_atP hr (se_var (i := 2)) (se_tupC B (sa_cons (SE.drop (se_lst (sa_star (se_var (i := 5)) (sa_cons (se_ix hr (se_var (i := 6)) se_int) sa_nil)))) sa_nil)))))))))
    (sb_one (ss_ret (SE.drop (se_sl (se_var (i := 3)) so_none (so_some (se_var (i := 4)))))))))))
/-! ### words_there -/
theorem sc_words_there : FnScope ["signs", "length", "found", "row", "at"] ["signs", "length"] (defScope s_words_there) := ⟨rfl, rfl, rfl, by decide +kernel, rfl, by decide +kernel, by decide +kernel⟩
def b_words_there : Ev Fl :=
    (sSeq (sAsg (eTup (eCons (eNew (eLst eNil)) (eCons (eNew (eLst (eCons (eC (.int 0)) eNil))) eNil))) (gTup 2 (gCons (gN 2) (gCons (gN 3) gNil))))
    (sSeq (sWhile (eB (e2 (kVw kNe0) (eVar 3) (eLst eNil))) (sSeq (sIf (eB (e2 (kVw kEq0) (e2 kMod (eVar 1) (eA kLen (eCons (eVar 3) eNil))) (eC (.int 0)))) (sExpr (eBm kApp (eVar 2) (eCons (eA kList (eCons (eVar 3) eNil)) eNil))) sNil)
    (sSeq (sAsg (eNew (eComp (iRg1 (eVar 1)) (gN 4) cYes (e2 kIx (eVar 3) (e2 kMod (eVar 4) (eA kLen (eCons (eVar 3) eNil)))) [4])) (gN 3))
    (sSeq (sWhile (eAnd (eB (e2 (kVw kNe0) (eVar 3) (eLst eNil))) (eB (e2 (kVw kEq0) (e2 kIx (eVar 3) (e1 kNeg (eC (.int 1)))) (e2 kSub (eVar 0) (eC (.int 1)))))) (sExpr (e1 kPop (eVar 3))) 60)
    (sIf (eB (e2 (kVw kNe0) (eVar 3) (eLst eNil))) (sAsg (e2 kAddI (e2 kIx (eVar 3) (e1 kNeg (eC (.int 1)))) (eC (.int 1))) (gAt (eVar 3) (e1 kNeg (eC (.int 1))))) sNil)))) 60)
    (sRet (eFrz (eVar 2)))))
def r_words_there : List T → Sto → Res T := lone (fnRun false 5 (b_words_there))
theorem ok_words_there (B : Blt mg)  (F0 : FunD K "words_there" "words_there" (defArgs s_words_there) (defBody s_words_there) (defScope s_words_there) [] [] f fd) : FnOk P w K mg base CX0 1 f fd ["signs", "length"] (spRun mg false 2 (r_words_there)) := by
  have sc := sc_words_there
  refine fn_lone ?_
  refine fn_okN ["signs", "length", "found", "row", "at"] ["signs", "length"] false 0 5 2 (b_words_there) F0 sc rfl rfl ?_
  exact fun cdv A outer s H E hr =>
    (sb_cons (ss_asg (se_tup (sa_cons (SE.new (se_lst sa_nil)) (sa_cons (SE.new (se_lst (sa_cons se_int sa_nil))) sa_nil))) (sg_tup (n := 2) (sgs_cons (sg_name (i := 2) sc.nd) (sgs_cons (sg_name (i := 3) sc.nd) sgs_nil))))
    (sb_cons (ss_while 60 (st_cmp (p_ne hr).ok (se_var (i := 3)) (SE.drop (se_lst sa_nil))) (sb_cons (ss_if (st_cmp (p_eq hr).ok (se_mod (se_var (i := 1)) (se_len B (sa_cons (se_var (i := 3)) sa_nil))) se_int) (sb_one (ss_expr (se_append (se_var (i := 2)) (sa_cons (SE.drop (se_listC B (sa_cons (se_var (i := 3)) sa_nil))) sa_nil)))) sb_nil)
    (sb_cons (ss_set (i := 3) sc.nd (SE.new (se_comp [("at", 4)] sc.nd (si_range1 B (se_var (i := 1))) (fun _ _ _ _ _ => (sg_name (i := 4) sc.nd)) (fun _ _ _ _ _ => sts_nil) (fun _ _ _ _ _ => (se_ix hr (se_var (i := 3)) (se_mod (se_var (i := 4)) (se_len B (sa_cons (se_var (i := 3)) sa_nil))))) (by first | (show blkC ["signs", "length", "found", "row", "at"] (defScope s_words_there) _ _ = true; decide +kernel) | (show blkC ["signs", "length", "found", "row", "at"] (relabel _ (envOfC "" (defScope s_words_there) 0 0 .none)) _ _ = true; decide +kernel)))))
    (sb_cons (ss_while 60 (SW.st (sw_and (st_cmp (p_ne hr).ok (se_var (i := 3)) (SE.drop (se_lst sa_nil))) (ST.and1 (st_cmp (p_eq hr).ok (se_ix hr (se_var (i := 3)) (se_neg se_int)) (se_sub (se_var (i := 0)) se_int))))) (sb_one (ss_expr (se_pop (se_var (i := 3))))))
    (sb_one (ss_if (st_cmp (p_ne hr).ok (se_var (i := 3)) (SE.drop (se_lst sa_nil))) (sb_one (ss_asg (se_addI (se_ix hr (se_var (i := 3)) (se_neg se_int)) se_int) (sg_at hr (se_var (i := 3)) (se_neg se_int)))) sb_nil))))))
    (sb_one (ss_ret (SE.frz (se_var (i := 2)))))))
/-! ### least_ring -/
theorem sc_least_ring : FnScope ["signs", "length"] ["signs", "length"] (defScope s_least_ring) := ⟨rfl, rfl, rfl, by decide +kernel, rfl, by decide +kernel, by decide +kernel⟩
def b_least_ring : Ev Fl :=
    (sSeq (sExpr (eCall 2 [] (r_check_signs) (eCons (eVar 0) (eCons (eVar 1) eNil))))
    (sRet (eA kSumL (eCons (eCall 2 [] (r_words_there) (eCons (eVar 0) (eCons (eVar 1) eNil))) (eCons (eLst eNil) eNil)))))
def r_least_ring : List T → Sto → Res T := fnRun false 2 (b_least_ring)
theorem ok_least_ring (B : Blt mg) (C_check_signs_0 : CallF P w K mg base 3 "check_signs" false 2 [] (r_check_signs)) (C_words_there_0 : CallF P w K mg base 1 "words_there" false 2 [] (r_words_there)) (F0 : FunD K "least_ring" "least_ring" (defArgs s_least_ring) (defBody s_least_ring) (defScope s_least_ring) [] [] f fd) : FnOk P w K mg base CX0 4 f fd ["signs", "length"] (spRun mg false 2 (r_least_ring)) := by
  have sc := sc_least_ring
  refine fn_okN ["signs", "length"] ["signs", "length"] false 3 2 2 (b_least_ring) F0 sc rfl rfl ?_
  exact fun cdv A outer s H E hr =>
    (sb_cons (ss_expr (se_call C_check_signs_0 (hr.mono (by decide)) (sa_cons (se_var (i := 0)) (sa_cons (se_var (i := 1)) sa_nil))))
    (sb_one (ss_ret (se_sumL B (sa_cons (se_call C_words_there_0 (hr.mono (by decide)) (sa_cons (se_var (i := 0)) (sa_cons (se_var (i := 1)) sa_nil))) (sa_cons (SE.drop (se_lst sa_nil)) sa_nil))))))
/-! ### check_heaps -/
theorem sc_heaps_check_heaps : FnScope ["heaps"] ["heaps"] (defScope s_heaps_check_heaps) := ⟨rfl, rfl, rfl, by decide +kernel, rfl, by decide +kernel, by decide +kernel⟩
def b_heaps_check_heaps : Ev Fl :=
    (sIf (eNot (eB (eCall 2 [] (r_is_count) (eCons (eVar 0) (eCons (eC (.int 1)) eNil))))) eStuck sNil)
def r_heaps_check_heaps : List T → Sto → Res T := fnRun false 1 (b_heaps_check_heaps)
theorem ok_heaps_check_heaps (B : Blt mg) (C_is_count_0 : CallF P w K mg base 2 "is_count" false 2 [] (r_is_count)) (F0 : FunD K "check_heaps" "check_heaps" (defArgs s_heaps_check_heaps) (defBody s_heaps_check_heaps) (defScope s_heaps_check_heaps) [] [] f fd) : FnOk P w K mg base CX0 3 f fd ["heaps"] (spRun mg false 1 (r_heaps_check_heaps)) := by
  have sc := sc_heaps_check_heaps
  refine fn_okN ["heaps"] ["heaps"] false 2 1 1 (b_heaps_check_heaps) F0 sc rfl rfl ?_
  exact fun cdv A outer s H E hr =>
    (sb_one (ss_if (st_not (st_val (se_call C_is_count_0 (hr.mono (by decide)) (sa_cons (se_var (i := 0)) (sa_cons se_int sa_nil))))) (sb_one ss_never) sb_nil))
/-! ### is_order_there -/
theorem sc_is_order_there : FnScope ["heaps", "value", "column"] ["heaps", "value"] (defScope s_is_order_there) := ⟨rfl, rfl, rfl, by decide +kernel, rfl, by decide +kernel, by decide +kernel⟩
def b_is_order_there : Ev Fl :=
    (sSeq (sIf (eOr (eNot (eB (e1 (kIsi .list) (eVar 1)))) (eOr (eB (e2 (kVw kNe0) (eA kLen (eCons (eVar 1) eNil)) (eVar 0))) (eNot (eB (eA kAll (eCons (eComp (iLst (eVar 1)) (gN 2) cYes (eCall 2 [.int 0] (r_is_count) (eCons (eVar 2) eNil)) [2]) eNil)))))) (sRet (eC (.bl false))) sNil)
    (sRet (e2 (kVw kEq0) (eA kSorted (eCons (eVar 1) eNil)) (eLrg1 (eVar 0)))))
def r_is_order_there : List T → Sto → Res T := fnRun false 3 (b_is_order_there)
theorem ok_is_order_there (B : Blt mg) (C_is_count_1 : CallF P w K mg base 2 "is_count" false 2 [.int 0] (r_is_count)) (F0 : FunD K "is_order_there" "is_order_there" (defArgs s_is_order_there) (defBody s_is_order_there) (defScope s_is_order_there) [] [] f fd) : FnOk P w K mg base CX0 3 f fd ["heaps", "value"] (spRun mg false 2 (r_is_order_there)) := by
  have sc := sc_is_order_there
  refine fn_okN ["heaps", "value", "column"] ["heaps", "value"] false 2 3 2 (b_is_order_there) F0 sc rfl rfl ?_
  exact fun cdv A outer s H E hr =>
    (sb_cons (ss_if (SW.st (sw_or (st_not (st_val (se_isi B .list (se_var (i := 1))))) (sw_or (st_cmp (p_ne hr).ok (se_len B (sa_cons (se_var (i := 1)) sa_nil)) (se_var (i := 0))) (ST.or1 (st_not (st_val (se_all B (sa_cons (SE.drop (se_comp [("column", 2)] sc.nd (si_list (se_var (i := 1))) (fun _ _ _ _ _ => (sg_name (i := 2) sc.nd)) (fun _ _ _ _ _ => sts_nil) (fun _ _ _ _ _ => (se_call C_is_count_1 (hr.mono (by decide)) (sa_cons (se_var (i := 2)) sa_nil) (fun _ => .cons (.int 0) .nil))) (by first | (show blkC ["heaps", "value", "column"] (defScope s_is_order_there) _ _ = true; decide +kernel) | (show blkC ["heaps", "value", "column"] (relabel _ (envOfC "" (defScope s_is_order_there) 0 0 .none)) _ _ = true; decide +kernel)))) sa_nil)))))))) (sb_one (ss_ret se_bl)) sb_nil)
    (sb_one (ss_ret (se_cmp (p_eq hr).ok (SE.drop (se_sorted B (sa_cons (se_var (i := 1)) sa_nil))) (SE.drop (se_listRg1 B (se_var (i := 0))))))))
/-! ### columns_there -/
theorem sc_columns_there : FnScope ["pack", "heaps", "column"] ["pack", "heaps"] (defScope s_columns_there) := ⟨rfl, rfl, rfl, by decide +kernel, rfl, by decide +kernel, by decide +kernel⟩
def b_columns_there : Ev Fl :=
    (sRet (eComp (iRg1 (eVar 1)) (gN 2) cYes (eSlSt (eVar 0) (ePart (eVar 2)) eNone (ePart (eVar 1))) [2]))
def r_columns_there : List T → Sto → Res T := fnRun false 3 (b_columns_there)
theorem ok_columns_there (B : Blt mg)  (F0 : FunD K "columns_there" "columns_there" (defArgs s_columns_there) (defBody s_columns_there) (defScope s_columns_there) [] [] f fd) : FnOk P w K mg base CX0 1 f fd ["pack", "heaps"] (spRun mg false 2 (r_columns_there)) := by
  have sc := sc_columns_there
  refine fn_okN ["pack", "heaps", "column"] ["pack", "heaps"] false 0 3 2 (b_columns_there) F0 sc rfl rfl ?_
  exact fun cdv A outer s H E hr =>
    (sb_one (ss_ret (SE.drop (se_comp [("column", 2)] sc.nd (si_range1 B (se_var (i := 1))) (fun _ _ _ _ _ => (sg_name (i := 2) sc.nd)) (fun _ _ _ _ _ => sts_nil) (fun _ _ _ _ _ => (SE.drop (se_slSt (se_var (i := 0)) (so_some (se_var (i := 2))) so_none (so_some (se_var (i := 1)))))) (by first | (show blkC ["pack", "heaps", "column"] (defScope s_columns_there) _ _ = true; decide +kernel) | (show blkC ["pack", "heaps", "column"] (relabel _ (envOfC "" (defScope s_columns_there) 0 0 .none)) _ _ = true; decide +kernel))))))
/-! ### columns -/
theorem sc_columns : FnScope ["pack", "heaps"] ["pack", "heaps"] (defScope s_columns) := ⟨rfl, rfl, rfl, by decide +kernel, rfl, by decide +kernel, by decide +kernel⟩
def b_columns : Ev Fl :=
    (sSeq (sExpr (eCall 1 [] (r_check_pack) (eCons (eVar 0) eNil)))
    (sSeq (sExpr (eCall 1 [] (r_heaps_check_heaps) (eCons (eVar 1) eNil)))
    (sRet (eCall 2 [] (r_columns_there) (eCons (eVar 0) (eCons (eVar 1) eNil))))))
def r_columns : List T → Sto → Res T := fnRun false 2 (b_columns)
theorem ok_columns (B : Blt mg) (C_check_pack_0 : CallF P w K mg base 4 "check_pack" false 1 [] (r_check_pack)) (C_check_heaps_heaps_0 : CallF P w K mg base 3 "check_heaps_heaps" false 1 [] (r_heaps_check_heaps)) (C_columns_there_0 : CallF P w K mg base 1 "columns_there" false 2 [] (r_columns_there)) (F0 : FunD K "columns" "columns" (defArgs s_columns) (defBody s_columns) (defScope s_columns) [] [] f fd) : FnOk P w K mg base CX0 5 f fd ["pack", "heaps"] (spRun mg false 2 (r_columns)) := by
  have sc := sc_columns
  refine fn_okN ["pack", "heaps"] ["pack", "heaps"] false 4 2 2 (b_columns) F0 sc rfl rfl ?_
  exact fun cdv A outer s H E hr =>
    (sb_cons (ss_expr (se_call C_check_pack_0 (hr.mono (by decide)) (sa_cons (se_var (i := 0)) sa_nil)))
    (sb_cons (ss_expr (se_call C_check_heaps_heaps_0 (hr.mono (by decide)) (sa_cons (se_var (i := 1)) sa_nil)))
    (sb_one (ss_ret (se_call C_columns_there_0 (hr.mono (by decide)) (sa_cons (se_var (i := 0)) (sa_cons (se_var (i := 1)) sa_nil)))))))
/-! ### gathered_there -/
theorem sc_gathered_there : FnScope ["pack", "heaps", "order", "column", "found", "told"] ["pack", "heaps", "order"] (defScope s_gathered_there) := ⟨rfl, rfl, rfl, by decide +kernel, rfl, by decide +kernel, by decide +kernel⟩
def b_gathered_there : Ev Fl :=
    (sSeq (sPar 4 5 (eCons (eNew (eLst eNil)) (eCons (eCall 2 [] (r_columns_there) (eCons (eVar 0) (eCons (eVar 1) eNil))) eNil)))
    (sSeq (sFor (iLst (eVar 2)) (gN 3) (sExpr (eBm kExt (eVar 4) (eCons (e2 kIx (eVar 5) (eVar 3)) eNil))))
    (sRet (eFrz (eVar 4)))))
def r_gathered_there : List T → Sto → Res T := lone (fnRun false 6 (b_gathered_there))
theorem ok_gathered_there (B : Blt mg) (C_columns_there_0 : CallF P w K mg base 1 "columns_there" false 2 [] (r_columns_there)) (F0 : FunD K "gathered_there" "gathered_there" (defArgs s_gathered_there) (defBody s_gathered_there) (defScope s_gathered_there) [] [] f fd) : FnOk P w K mg base CX0 2 f fd ["pack", "heaps", "order"] (spRun mg false 3 (r_gathered_there)) := by
  have sc := sc_gathered_there
  refine fn_lone ?_
  refine fn_okN ["pack", "heaps", "order", "column", "found", "told"] ["pack", "heaps", "order"] false 1 6 3 (b_gathered_there) F0 sc rfl rfl ?_
  exact fun cdv A outer s H E hr =>
    (sb_cons (ss_par (i := 4) (j := 5) sc.nd (sa_cons (SE.new (se_lst sa_nil)) (sa_cons (se_call C_columns_there_0 (hr.mono (by decide)) (sa_cons (se_var (i := 0)) (sa_cons (se_var (i := 1)) sa_nil))) sa_nil)))
    (sb_cons (ss_for (si_list (se_var (i := 2))) (sg_name (i := 3) sc.nd) (sb_one (ss_expr (se_extend (se_var (i := 4)) (sa_cons (se_ix hr (se_var (i := 5)) (se_var (i := 3))) sa_nil)))))
    (sb_one (ss_ret (SE.frz (se_var (i := 4)))))))
/-! ### deal_move -/
theorem sc_deal_move : FnScope ["many", "heaps", "order"] ["many", "heaps", "order"] (defScope s_deal_move) := ⟨rfl, rfl, rfl, by decide +kernel, rfl, by decide +kernel, by decide +kernel⟩
def b_deal_move : Ev Fl :=
    (sSeq (sExpr (eCall 1 [] (r_check_many) (eCons (eVar 0) eNil)))
    (sSeq (sExpr (eCall 1 [] (r_heaps_check_heaps) (eCons (eVar 1) eNil)))
    (sSeq (sIf (eNot (eB (eCall 2 [] (r_is_order_there) (eCons (eVar 1) (eCons (eVar 2) eNil))))) eStuck sNil)
    (sRet (eCall 3 [] (r_gathered_there) (eCons (eLrg1 (eVar 0)) (eCons (eVar 1) (eCons (eVar 2) eNil))))))))
def r_deal_move : List T → Sto → Res T := fnRun false 3 (b_deal_move)
theorem ok_deal_move (B : Blt mg) (C_check_many_packs_0 : CallF P w K mg base 3 "check_many_packs" false 1 [] (r_check_many)) (C_check_heaps_heaps_0 : CallF P w K mg base 3 "check_heaps_heaps" false 1 [] (r_heaps_check_heaps)) (C_is_order_there_0 : CallF P w K mg base 3 "is_order_there" false 2 [] (r_is_order_there)) (C_gathered_there_0 : CallF P w K mg base 2 "gathered_there" false 3 [] (r_gathered_there)) (F0 : FunD K "deal_move" "deal_move" (defArgs s_deal_move) (defBody s_deal_move) (defScope s_deal_move) [] [] f fd) : FnOk P w K mg base CX0 4 f fd ["many", "heaps", "order"] (spRun mg false 3 (r_deal_move)) := by
  have sc := sc_deal_move
  refine fn_okN ["many", "heaps", "order"] ["many", "heaps", "order"] false 3 3 3 (b_deal_move) F0 sc rfl rfl ?_
  exact fun cdv A outer s H E hr =>
    (sb_cons (ss_expr (se_call C_check_many_packs_0 (hr.mono (by decide)) (sa_cons (se_var (i := 0)) sa_nil)))
    (sb_cons (ss_expr (se_call C_check_heaps_heaps_0 (hr.mono (by decide)) (sa_cons (se_var (i := 1)) sa_nil)))
    (sb_cons (ss_if (st_not (st_val (se_call C_is_order_there_0 (hr.mono (by decide)) (sa_cons (se_var (i := 1)) (sa_cons (se_var (i := 2)) sa_nil))))) (sb_one ss_never) sb_nil)
    (sb_one (ss_ret (se_call C_gathered_there_0 (hr.mono (by decide)) (sa_cons (SE.drop (se_listRg1 B (se_var (i := 0)))) (sa_cons (se_var (i := 1)) (sa_cons (se_var (i := 2)) sa_nil)))))))))
/-! ### pack_of_ring -/
theorem sc_pack_of_ring : FnScope ["ring", "ranks", "suit", "found", "told", "rank"] ["ring", "ranks"] (defScope s_pack_of_ring) := ⟨rfl, rfl, rfl, by decide +kernel, rfl, by decide +kernel, by decide +kernel⟩
def b_pack_of_ring : Ev Fl :=
    (sSeq (sExpr (eCall 1 [] (r_check_ring) (eCons (eVar 0) eNil)))
    (sSeq (sIf (eNot (eB (eCall 2 [] (r_is_count) (eCons (eVar 1) (eCons (eC (.int 1)) eNil))))) eStuck sNil)
    (sSeq (sPar 3 4 (eCons (eNew (eLst eNil)) (eCons (eNew eDnew) eNil)))
    (sSeq (sFor (iLst (eVar 0)) (gN 2) (sSeq (sAsg (eGet2 (eVar 4) (eVar 2) (eC (.int 0))) (gN 5))
    (sSeq (sIf (eB (e2 kGe (eVar 5) (eVar 1))) (sRet (eC .non)) sNil)
    (sSeq (sExpr (eBm kApp (eVar 3) (eCons (e2 kAddI (e2 kMul (eVar 2) (eVar 1)) (eVar 5)) eNil)))
    (sAsg (e2 kAddI (eVar 5) (eC (.int 1))) (gAt (eVar 4) (eVar 2)))))))
    (sRet (eFrz (eVar 3)))))))
def r_pack_of_ring : List T → Sto → Res T := lone (fnRun false 6 (b_pack_of_ring))
theorem ok_pack_of_ring (B : Blt mg) (C_check_ring_0 : CallF P w K mg base 4 "check_ring" false 1 [] (r_check_ring)) (C_is_count_0 : CallF P w K mg base 2 "is_count" false 2 [] (r_is_count)) (F0 : FunD K "pack_of_ring" "pack_of_ring" (defArgs s_pack_of_ring) (defBody s_pack_of_ring) (defScope s_pack_of_ring) [] [] f fd) : FnOk P w K mg base CX0 5 f fd ["ring", "ranks"] (spRun mg false 2 (r_pack_of_ring)) := by
  have sc := sc_pack_of_ring
  refine fn_lone ?_
  refine fn_okN ["ring", "ranks", "suit", "found", "told", "rank"] ["ring", "ranks"] false 4 6 2 (b_pack_of_ring) F0 sc rfl rfl ?_
  exact fun cdv A outer s H E hr =>
    (sb_cons (ss_expr (se_call C_check_ring_0 (hr.mono (by decide)) (sa_cons (se_var (i := 0)) sa_nil)))
    (sb_cons (ss_if (st_not (st_val (se_call C_is_count_0 (hr.mono (by decide)) (sa_cons (se_var (i := 1)) (sa_cons se_int sa_nil))))) (sb_one ss_never) sb_nil)
    (sb_cons (ss_par (i := 3) (j := 4) sc.nd (sa_cons (SE.new (se_lst sa_nil)) (sa_cons (SE.new se_dnew) sa_nil)))
    (sb_cons (ss_for (si_list (se_var (i := 0))) (sg_name (i := 2) sc.nd) (sb_cons (ss_set (i := 5) sc.nd (se_get2 hr (se_var (i := 4)) (se_var (i := 2)) se_int))
    (sb_cons (ss_if (st_cmp c_ge (se_var (i := 5)) (se_var (i := 1))) (sb_one (ss_ret se_non)) sb_nil)
    (sb_cons (ss_expr (se_append (se_var (i := 3)) (sa_cons (se_addI (se_mul (se_var (i := 2)) (se_var (i := 1))) (se_var (i := 5))) sa_nil)))
    (sb_one (ss_asg (se_addI (se_var (i := 5)) se_int) (sg_at hr (se_var (i := 4)) (se_var (i := 2)))))))))
    (sb_one (ss_ret (SE.frz (se_var (i := 3)))))))))
/-! ### signs_there -/
theorem sc_signs_there : FnScope ["pack", "ranks", "sign"] ["pack", "ranks", "sign"] (defScope s_signs_there) := ⟨rfl, rfl, rfl, by decide +kernel, rfl, by decide +kernel, by decide +kernel⟩
def b_signs_there : Ev Fl :=
    (sSeq (sExpr (eCall 1 [] (r_check_pack) (eCons (eVar 0) eNil)))
    (sSeq (sIf (eB (e2 (kVw kEq0) (eVar 0) (eLst eNil))) eStuck sNil)
    (sSeq (sExpr (eCall 2 [] (r_check_ranks) (eCons (eVar 0) (eCons (eVar 1) eNil))))
    (sSeq (sIf (eNot (eB (eOneOf [⟨#[99, 111, 108, 111, 117, 114, 115]⟩, ⟨#[114, 97, 110, 107, 115]⟩, ⟨#[115, 117, 105, 116, 115]⟩] (eVar 2)))) eStuck sNil)
    (sSeq (sIf (eB (e2 (kVw kEq0) (eVar 2) (eC (.str ⟨#[99, 111, 108, 111, 117, 114, 115]⟩)))) (sRet (eCall 2 [] (r_colours_of) (eCons (eVar 0) (eCons (eVar 1) eNil)))) sNil)
    (sRet (eIf (eB (e2 (kVw kEq0) (eVar 2) (eC (.str ⟨#[114, 97, 110, 107, 115]⟩)))) (eCall 2 [] (r_ranks_of) (eCons (eVar 0) (eCons (eVar 1) eNil))) (eCall 2 [] (r_suits_of) (eCons (eVar 0) (eCons (eVar 1) eNil))))))))))
def r_signs_there : List T → Sto → Res T := fnRun false 3 (b_signs_there)
theorem ok_signs_there (B : Blt mg) (C_check_pack_0 : CallF P w K mg base 4 "check_pack" false 1 [] (r_check_pack)) (C_check_ranks_0 : CallF P w K mg base 5 "check_ranks" false 2 [] (r_check_ranks)) (W_SIGNS : OneOfF P w K mg base 1 "is_one_of" "SIGNS" [⟨#[99, 111, 108, 111, 117, 114, 115]⟩, ⟨#[114, 97, 110, 107, 115]⟩, ⟨#[115, 117, 105, 116, 115]⟩]) (C_colours_of_0 : CallF P w K mg base 6 "colours_of" false 2 [] (r_colours_of)) (C_ranks_of_0 : CallF P w K mg base 6 "ranks_of" false 2 [] (r_ranks_of)) (C_suits_of_0 : CallF P w K mg base 6 "suits_of" false 2 [] (r_suits_of)) (F0 : FunD K "signs_there" "signs_there" (defArgs s_signs_there) (defBody s_signs_there) (defScope s_signs_there) [] [] f fd) : FnOk P w K mg base CX0 7 f fd ["pack", "ranks", "sign"] (spRun mg false 3 (r_signs_there)) := by
  have sc := sc_signs_there
  refine fn_okN ["pack", "ranks", "sign"] ["pack", "ranks", "sign"] false 6 3 3 (b_signs_there) F0 sc rfl rfl ?_
  exact fun cdv A outer s H E hr =>
    (sb_cons (ss_expr (se_call C_check_pack_0 (hr.mono (by decide)) (sa_cons (se_var (i := 0)) sa_nil)))
    (sb_cons (ss_if (st_cmp (p_eq hr).ok (se_var (i := 0)) (SE.drop (se_lst sa_nil))) (sb_one ss_never) sb_nil)
    (sb_cons (ss_expr (se_call C_check_ranks_0 (hr.mono (by decide)) (sa_cons (se_var (i := 0)) (sa_cons (se_var (i := 1)) sa_nil))))
    (sb_cons (ss_if (st_not (st_val (se_oneOf W_SIGNS (hr.mono (by decide)) (se_var (i := 2))))) (sb_one ss_never) sb_nil)
    (sb_cons (ss_if (st_cmp (p_eq hr).ok (se_var (i := 2)) se_str) (sb_one (ss_ret (se_call C_colours_of_0 (hr.mono (by decide)) (sa_cons (se_var (i := 0)) (sa_cons (se_var (i := 1)) sa_nil))))) sb_nil)
    (sb_one (ss_ret (se_if (st_cmp (p_eq hr).ok (se_var (i := 2)) se_str) (se_call C_ranks_of_0 (hr.mono (by decide)) (sa_cons (se_var (i := 0)) (sa_cons (se_var (i := 1)) sa_nil))) (se_call C_suits_of_0 (hr.mono (by decide)) (sa_cons (se_var (i := 0)) (sa_cons (se_var (i := 1)) sa_nil)))))))))))
/-! ### tells_by -/
theorem sc_tells_by : FnScope ["pack", "ranks", "sign", "length"] ["pack", "ranks", "sign", "length"] (defScope s_tells_by) := ⟨rfl, rfl, rfl, by decide +kernel, rfl, by decide +kernel, by decide +kernel⟩
def b_tells_by : Ev Fl :=
    (sRet (eCall 2 [] (r_does_tell) (eCons (eCall 3 [] (r_signs_there) (eCons (eVar 0) (eCons (eVar 1) (eCons (eVar 2) eNil)))) (eCons (eVar 3) eNil))))
def r_tells_by : List T → Sto → Res T := fnRun false 4 (b_tells_by)
theorem ok_tells_by (B : Blt mg) (C_does_tell_0 : CallF P w K mg base 6 "does_tell" false 2 [] (r_does_tell)) (C_signs_there_0 : CallF P w K mg base 7 "signs_there" false 3 [] (r_signs_there)) (F0 : FunD K "tells_by" "tells_by" (defArgs s_tells_by) (defBody s_tells_by) (defScope s_tells_by) [] [] f fd) : FnOk P w K mg base CX0 8 f fd ["pack", "ranks", "sign", "length"] (spRun mg false 4 (r_tells_by)) := by
  have sc := sc_tells_by
  refine fn_okN ["pack", "ranks", "sign", "length"] ["pack", "ranks", "sign", "length"] false 7 4 4 (b_tells_by) F0 sc rfl rfl ?_
  exact fun cdv A outer s H E hr =>
    (sb_one (ss_ret (se_call C_does_tell_0 (hr.mono (by decide)) (sa_cons (se_call C_signs_there_0 (hr.mono (by decide)) (sa_cons (se_var (i := 0)) (sa_cons (se_var (i := 1)) (sa_cons (se_var (i := 2)) sa_nil)))) (sa_cons (se_var (i := 3)) sa_nil)))))
/-! ### cards_for -/
theorem sc_cards_for : FnScope ["pack", "ranks", "sign", "window", "place"] ["pack", "ranks", "sign", "window"] (defScope s_cards_for) := ⟨rfl, rfl, rfl, by decide +kernel, rfl, by decide +kernel, by decide +kernel⟩
def b_cards_for : Ev Fl :=
    (sRet (eComp (iLst (eCall 2 [] (r_places_for) (eCons (eCall 3 [] (r_signs_there) (eCons (eVar 0) (eCons (eVar 1) (eCons (eVar 2) eNil)))) (eCons (eVar 3) eNil)))) (gN 4) cYes (e2 kIx (eVar 0) (eVar 4)) [4]))
def r_cards_for : List T → Sto → Res T := fnRun false 5 (b_cards_for)
theorem ok_cards_for (B : Blt mg) (C_places_for_0 : CallF P w K mg base 5 "places_for" false 2 [] (r_places_for)) (C_signs_there_0 : CallF P w K mg base 7 "signs_there" false 3 [] (r_signs_there)) (F0 : FunD K "cards_for" "cards_for" (defArgs s_cards_for) (defBody s_cards_for) (defScope s_cards_for) [] [] f fd) : FnOk P w K mg base CX0 8 f fd ["pack", "ranks", "sign", "window"] (spRun mg false 4 (r_cards_for)) := by
  have sc := sc_cards_for
  refine fn_okN ["pack", "ranks", "sign", "window", "place"] ["pack", "ranks", "sign", "window"] false 7 5 4 (b_cards_for) F0 sc rfl rfl ?_
  exact fun cdv A outer s H E hr =>
    (sb_one (ss_ret (SE.drop (se_comp [("place", 4)] sc.nd (si_list (se_call C_places_for_0 (hr.mono (by decide)) (sa_cons (se_call C_signs_there_0 (hr.mono (by decide)) (sa_cons (se_var (i := 0)) (sa_cons (se_var (i := 1)) (sa_cons (se_var (i := 2)) sa_nil)))) (sa_cons (se_var (i := 3)) sa_nil)))) (fun _ _ _ _ _ => (sg_name (i := 4) sc.nd)) (fun _ _ _ _ _ => sts_nil) (fun _ _ _ _ _ => (se_ix hr (se_var (i := 0)) (se_var (i := 4)))) (by first | (show blkC ["pack", "ranks", "sign", "window", "place"] (defScope s_cards_for) _ _ = true; decide +kernel) | (show blkC ["pack", "ranks", "sign", "window", "place"] (relabel _ (envOfC "" (defScope s_cards_for) 0 0 .none)) _ _ = true; decide +kernel))))))
/-! ### _law_purse -/
theorem sc__law_purse : FnScope ["script", "at", "seed"] ["script", "at"] (defScope s__law_purse) := ⟨rfl, rfl, rfl, by decide +kernel, rfl, by decide +kernel, by decide +kernel⟩
def b__law_purse (o : Osc) : Ev Fl :=
    (sSeq (sAsg (eA kSum (eCons (eSlS o (eVar 0) (ePart (eVar 1)) (ePart (e2 kAddI (eVar 1) (eC (.int 1))))) eNil)) (gN 2))
    (sRet (eLst (eCons (e2 kMod (eA kInt (eCons (eA kMax (eCons (e2 kSub (eVar 2) (e2 kPow (eC (.int 10)) (eC (.int 18)))) (eCons (eC (.int 0)) eNil))) eNil)) (e2 kPow (e2 kPow (eC (.int 10)) (eC (.int 60))) (eC (.int 8)))) (eCons (e2 kMod (eA kInt (eCons (eVar 2) eNil)) (eC (.int 2147483629))) (eCons (eC (.int 0)) (eCons (eVar 1) eNil)))))))
def r__law_purse (o : Osc) : List T → Sto → Res T := fnRun true 3 (b__law_purse o)
theorem ok__law_purse {o : Osc} (hO : ScrOk K o) (B : Blt mg)  (F0 : FunD K "_law_purse" "_law_purse" (defArgs s__law_purse) (defBody s__law_purse) (defScope s__law_purse) [] [] f fd) : FnOk P w K mg base CX0 1 f fd ["script", "at"] (spRun mg true 2 (r__law_purse o)) := by
  have sc := sc__law_purse
  refine fn_okN ["script", "at", "seed"] ["script", "at"] true 0 3 2 (b__law_purse o) F0 sc rfl rfl ?_
  exact fun cdv A outer s H E hr =>
    (sb_cons (ss_set (i := 2) sc.nd (se_sum B (sa_cons (SE.drop (se_slS hO (se_var (i := 0)) (so_some (se_var (i := 1))) (so_some (se_addI (se_var (i := 1)) se_int)))) sa_nil)))
    (sb_one (ss_ret (se_lst (sa_cons (se_mod (se_intC B (sa_cons (se_max B (sa_cons (se_sub (se_var (i := 2)) (se_pow se_int se_int)) (sa_cons se_int sa_nil))) sa_nil)) (se_pow (se_pow se_int se_int) se_int)) (sa_cons (se_mod (se_intC B (sa_cons (se_var (i := 2)) sa_nil)) se_int) (sa_cons se_int (sa_cons (se_var (i := 1)) sa_nil))))))))
/-! ### _law_mixed -/
theorem sc__law_mixed : FnScope ["seed", "spin", "at", "mixed"] ["seed", "spin", "at"] (defScope s__law_mixed) := ⟨rfl, rfl, rfl, by decide +kernel, rfl, by decide +kernel, by decide +kernel⟩
def b__law_mixed : Ev Fl :=
    (sSeq (sAsg (e2 kAddI (e2 kMul (eVar 0) (eC (.int 69069))) (e2 kMul (e2 kMul (eC (.int 104729)) (eVar 1)) (eVar 1))) (gN 3))
    (sSeq (sAsg (e2 kMod (eA kInt (eCons (e2 kAddI (e2 kAddI (eVar 3) (e2 kMul (eC (.int 7919)) (eVar 2))) (eVar 1)) eNil)) (eC (.int 2147483647))) (gN 3))
    (sSeq (sAsg (e2 kMod (eA kInt (eCons (e2 kAddI (e2 kMul (eVar 3) (eVar 3)) (eC (.int 40503))) eNil)) (eC (.int 2147483629))) (gN 3))
    (sRet (e2 kMod (eA kInt (eCons (e2 kMul (eVar 3) (eC (.int 48271))) eNil)) (eC (.int 2147483587)))))))
def r__law_mixed : List T → Sto → Res T := fnRun false 4 (b__law_mixed)
theorem ok__law_mixed (B : Blt mg)  (F0 : FunD K "_law_mixed" "_law_mixed" (defArgs s__law_mixed) (defBody s__law_mixed) (defScope s__law_mixed) [] [] f fd) : FnOk P w K mg base CX0 1 f fd ["seed", "spin", "at"] (spRun mg false 3 (r__law_mixed)) := by
  have sc := sc__law_mixed
  refine fn_okN ["seed", "spin", "at", "mixed"] ["seed", "spin", "at"] false 0 4 3 (b__law_mixed) F0 sc rfl rfl ?_
  exact fun cdv A outer s H E hr =>
    (sb_cons (ss_set (i := 3) sc.nd (se_addI (se_mul (se_var (i := 0)) se_int) (se_mul (se_mul se_int (se_var (i := 1))) (se_var (i := 1)))))
    (sb_cons (ss_set (i := 3) sc.nd (se_mod (se_intC B (sa_cons (se_addI (se_addI (se_var (i := 3)) (se_mul se_int (se_var (i := 2)))) (se_var (i := 1))) sa_nil)) se_int))
    (sb_cons (ss_set (i := 3) sc.nd (se_mod (se_intC B (sa_cons (se_addI (se_mul (se_var (i := 3)) (se_var (i := 3))) se_int) sa_nil)) se_int))
    (sb_one (ss_ret (se_mod (se_intC B (sa_cons (se_mul (se_var (i := 3)) se_int) sa_nil)) se_int))))))
/-! ### _law_draw -/
theorem sc__law_draw0 : FnScope ["purse", "many", "found", "piece", "drawn"] ["purse", "many"] (defScope s__law_draw0) := ⟨rfl, rfl, rfl, by decide +kernel, rfl, by decide +kernel, by decide +kernel⟩
def b__law_draw0 : Ev Fl :=
    (sSeq (sIf (eB (e2 kGt (e2 kIx (eVar 0) (eC (.int 0))) (eC (.int 0)))) (sSeq (sAsg (e2 kMod (eA kInt (eCons (e2 kIx (eVar 0) (eC (.int 0))) eNil)) (eVar 1)) (gN 4))
    (sSeq (sAsg (e2 kDiv (e2 kIx (eVar 0) (eC (.int 0))) (eVar 1)) (gAt (eVar 0) (eC (.int 0))))
    (sRet (eVar 4)))) sNil)
    (sSeq (sAsg (eC (.int 0)) (gN 2))
    (sSeq (sFor (iRg1 (e2 kAddI (eC (.int 1)) (e2 kDiv (e1 kBits (eVar 1)) (eC (.int 28))))) (gN 3) (sSeq (sAsg (e2 kAddI (e2 kIx (eVar 0) (eC (.int 2))) (eC (.int 1))) (gAt (eVar 0) (eC (.int 2))))
    (sAsg (e2 kAddI (e2 kMul (eVar 2) (eC (.int 2147483587))) (eCall 3 [] (r__law_mixed) (eCons (e2 kIx (eVar 0) (eC (.int 1))) (eCons (e2 kIx (eVar 0) (eC (.int 2))) (eCons (e2 kIx (eVar 0) (eC (.int 3))) eNil))))) (gN 2))))
    (sRet (e2 kMod (eA kInt (eCons (eVar 2) eNil)) (eVar 1))))))
def r__law_draw0 : List T → Sto → Res T := fnRun false 5 (b__law_draw0)
theorem ok__law_draw0 (B : Blt mg) (C__law_mixed_0 : CallF P w K mg base 1 "_law_mixed" false 3 [] (r__law_mixed)) (F0 : FunD K "_law_draw" "_law_draw" (defArgs s__law_draw0) (defBody s__law_draw0) (defScope s__law_draw0) [] [] f fd) : FnOk P w K mg base CX0 2 f fd ["purse", "many"] (spRun mg false 2 (r__law_draw0)) := by
  have sc := sc__law_draw0
  refine fn_okN ["purse", "many", "found", "piece", "drawn"] ["purse", "many"] false 1 5 2 (b__law_draw0) F0 sc rfl rfl ?_
  exact fun cdv A outer s H E hr =>
    (sb_cons (ss_if (st_cmp c_gt (se_ix hr (se_var (i := 0)) se_int) se_int) (sb_cons (ss_set (i := 4) sc.nd (se_mod (se_intC B (sa_cons (se_ix hr (se_var (i := 0)) se_int) sa_nil)) (se_var (i := 1))))
    (sb_cons (ss_asg (se_fdiv (se_ix hr (se_var (i := 0)) se_int) (se_var (i := 1))) (sg_at hr (se_var (i := 0)) se_int))
    (sb_one (ss_ret (se_var (i := 4)))))) sb_nil)
    (sb_cons (ss_set (i := 2) sc.nd se_int)
    (sb_cons (ss_for (si_range1 B (se_addI se_int (se_fdiv (se_bits (se_var (i := 1))) se_int))) (sg_name (i := 3) sc.nd) (sb_cons (ss_asg (se_addI (se_ix hr (se_var (i := 0)) se_int) se_int) (sg_at hr (se_var (i := 0)) se_int))
    (sb_one (ss_set (i := 2) sc.nd (se_addI (se_mul (se_var (i := 2)) se_int) (se_call C__law_mixed_0 (hr.mono (by decide)) (sa_cons (se_ix hr (se_var (i := 0)) se_int) (sa_cons (se_ix hr (se_var (i := 0)) se_int) (sa_cons (se_ix hr (se_var (i := 0)) se_int) sa_nil)))))))))
    (sb_one (ss_ret (se_mod (se_intC B (sa_cons (se_var (i := 2)) sa_nil)) (se_var (i := 1))))))))
def r__law_draw : List T → Sto → Res T := rDraw

/-! ### _law_one_of -/
theorem sc__law_one_of : FnScope ["purse", "some"] ["purse", "some"] (defScope s__law_one_of) := ⟨rfl, rfl, rfl, by decide +kernel, rfl, by decide +kernel, by decide +kernel⟩
def b__law_one_of : Ev Fl :=
    (sRet (e2 kIx (eVar 1) (eCall 2 [] (r__law_draw) (eCons (eVar 0) (eCons (eA kLen (eCons (eVar 1) eNil)) eNil)))))
def r__law_one_of : List T → Sto → Res T := fnRun false 2 (b__law_one_of)
theorem ok__law_one_of (B : Blt mg) (C__law_draw_0 : CallF P w K mg base 2 "_law_draw" false 2 [] (r__law_draw)) (F0 : FunD K "_law_one_of" "_law_one_of" (defArgs s__law_one_of) (defBody s__law_one_of) (defScope s__law_one_of) [] [] f fd) : FnOk P w K mg base CX0 3 f fd ["purse", "some"] (spRun mg false 2 (r__law_one_of)) := by
  have sc := sc__law_one_of
  refine fn_okN ["purse", "some"] ["purse", "some"] false 2 2 2 (b__law_one_of) F0 sc rfl rfl ?_
  exact fun cdv A outer s H E hr =>
    (sb_one (ss_ret (se_ix hr (se_var (i := 1)) (se_call C__law_draw_0 (hr.mono (by decide)) (sa_cons (se_var (i := 0)) (sa_cons (se_len B (sa_cons (se_var (i := 1)) sa_nil)) sa_nil))))))
/-! ### _law_exact -/
theorem sc__law_exact : FnScope ["mine", "theirs", "is_like", "a", "b"] ["mine", "theirs"] (defScope s__law_exact) := ⟨rfl, rfl, rfl, by decide +kernel, rfl, by decide +kernel, by decide +kernel⟩
def b__law_exact (k : Nat) (r__law_exact : Nat → List T → Sto → Res T) : Ev Fl :=
    (sSeq (sIf (eB (e1 (kIsiT [.list, .tuple]) (eVar 0))) (sSeq (sAsg (vAnd (e2 (kVw kEq0) (e1 (kIsi .list) (eVar 1)) (e1 (kIsi .list) (eVar 0))) (e2 (kVw kEq0) (e1 (kIsi .tuple) (eVar 1)) (e1 (kIsi .tuple) (eVar 0)))) (gN 2))
    (sRet (vAnd (eVar 2) (vAnd (e2 (kVw kEq0) (eA kLen (eCons (eVar 0) eNil)) (eA kLen (eCons (eVar 1) eNil))) (eA kAll (eCons (eComp (iZp (eVar 0) (eVar 1)) (gTup 2 (gCons (gN 3) (gCons (gN 4) gNil))) cYes (eCall 2 [] (r__law_exact k) (eCons (eVar 3) (eCons (eVar 4) eNil))) [3, 4]) eNil)))))) sNil)
    (sSeq (sIf (eOr (eB (e1 (kIsiT [.list, .tuple, .dict]) (eVar 1))) (eB (e2 (kVw kNe0) (e2 kIsN (eVar 0) (eC .non)) (e2 kIsN (eVar 1) (eC .non))))) (sRet (eC (.bl false))) sNil)
    (sSeq (sAsg (vAnd (e2 (kVw kEq0) (e1 (kIsi .int) (eVar 0)) (e1 (kIsi .int) (eVar 1))) (e2 (kVw kEq0) (e1 (kIsi .str) (eVar 0)) (e1 (kIsi .str) (eVar 1)))) (gN 2))
    (sRet (vAnd (eVar 2) (vAnd (e2 (kVw kEq0) (e1 (kIsi .bool) (eVar 0)) (e1 (kIsi .bool) (eVar 1))) (e2 (kVw kEq0) (eVar 0) (eVar 1))))))))
def r__law_exact : Nat → List T → Sto → Res T
  | 0 => gNo
  | k + 1 => fnRun false 5 (b__law_exact k fun _ => r__law_exact k)
theorem ok__law_exact (B : Blt mg)  {ds : List Value} (D : Def K mg "_law_exact" "_law_exact" s__law_exact ["mine", "theirs"] [] f fd ds) : ∀ k : Nat, FnOk P w K mg base CX0 (0 + k + 1) f fd ["mine", "theirs"] (spRun mg false 2 (r__law_exact k))
  | 0 => fn_ok0N ["mine", "theirs", "is_like", "a", "b"] ["mine", "theirs"] false 0 2 D.fun_ sc__law_exact rfl
  | k + 1 => by
    have C__law_exact_0 : CallF P w K mg base (0 + k + 1) "_law_exact" false 2 [] (r__law_exact k) := D.call (ok__law_exact B  D k)
    have sc := sc__law_exact
    refine fn_okN ["mine", "theirs", "is_like", "a", "b"] ["mine", "theirs"] false (0 + k + 1) 5 2 (b__law_exact k fun _ => r__law_exact k) D.fun_ sc rfl rfl ?_
    exact fun cdv A outer s H E hr =>
    (sb_cons (ss_if (st_val (se_isiT B [.list, .tuple] (se_var (i := 0)) ⟨rfl, rfl, rfl, rfl, trivial⟩)) (sb_cons (ss_set (i := 2) sc.nd (se_and (se_cmp (p_eq hr).ok (se_isi B .list (se_var (i := 1))) (se_isi B .list (se_var (i := 0)))) (se_one (se_cmp (p_eq hr).ok (se_isi B .tuple (se_var (i := 1))) (se_isi B .tuple (se_var (i := 0)))))))
    (sb_one (ss_ret (se_and (se_var (i := 2)) (se_and (se_cmp (p_eq hr).ok (se_len B (sa_cons (se_var (i := 0)) sa_nil)) (se_len B (sa_cons (se_var (i := 1)) sa_nil))) (se_one (se_all B (sa_cons (SE.drop (se_comp [("a", 3), ("b", 4)] sc.nd (si_zip B (se_var (i := 0)) (se_var (i := 1))) (fun _ _ _ _ _ => (sg_tup (n := 2) (sgs_cons (sg_name (i := 3) sc.nd) (sgs_cons (sg_name (i := 4) sc.nd) sgs_nil)))) (fun _ _ _ _ _ => sts_nil) (fun _ _ _ _ _ => (se_call C__law_exact_0 (hr.mono (by omega)) (sa_cons (se_var (i := 3)) (sa_cons (se_var (i := 4)) sa_nil)))) (by first | (show blkC ["mine", "theirs", "is_like", "a", "b"] (defScope s__law_exact) _ _ = true; decide +kernel) | (show blkC ["mine", "theirs", "is_like", "a", "b"] (relabel _ (envOfC "" (defScope s__law_exact) 0 0 .none)) _ _ = true; decide +kernel)))) sa_nil)))))))) sb_nil)
    (sb_cons (ss_if (SW.st (sw_or (st_val (se_isiT B [.list, .tuple, .dict] (se_var (i := 1)) ⟨rfl, rfl, rfl, rfl, rfl, rfl, trivial⟩)) (ST.or1 (st_cmp (p_ne hr).ok (se_cmp c_is (se_var (i := 0)) se_non) (se_cmp c_is (se_var (i := 1)) se_non))))) (sb_one (ss_ret se_bl)) sb_nil)
    (sb_cons (ss_set (i := 2) sc.nd (se_and (se_cmp (p_eq hr).ok (se_isi B .int (se_var (i := 0))) (se_isi B .int (se_var (i := 1)))) (se_one (se_cmp (p_eq hr).ok (se_isi B .str (se_var (i := 0))) (se_isi B .str (se_var (i := 1)))))))
    (sb_one (ss_ret (se_and (se_var (i := 2)) (se_and (se_cmp (p_eq hr).ok (se_isi B .bool (se_var (i := 0))) (se_isi B .bool (se_var (i := 1)))) (se_one (se_cmp (p_eq hr).ok (se_var (i := 0)) (se_var (i := 1)))))))))))
/-! ### _law_shuffled -/
theorem sc__law_shuffled : FnScope ["purse", "some", "left", "found", "place"] ["purse", "some"] (defScope s__law_shuffled) := ⟨rfl, rfl, rfl, by decide +kernel, rfl, by decide +kernel, by decide +kernel⟩
def b__law_shuffled : Ev Fl :=
    (sSeq (sPar 2 3 (eCons (eA kList (eCons (eVar 1) eNil)) (eCons (eNew (eLst eNil)) eNil)))
    (sSeq (sWhile (eB (e2 (kVw kNe0) (eVar 2) (eLst eNil))) (sSeq (sAsg (eCall 2 [] (r__law_draw) (eCons (eVar 0) (eCons (eA kLen (eCons (eVar 2) eNil)) eNil))) (gN 4))
    (sSeq (sExpr (eBm kApp (eVar 3) (eCons (e2 kIx (eVar 2) (eVar 4)) eNil)))
    (sAsg (e2 kAddL (eSl (eVar 2) eNone (ePart (eVar 4))) (eSl (eVar 2) (ePart (e2 kAddI (eVar 4) (eC (.int 1)))) eNone)) (gN 2)))) 60)
    (sRet (eFrz (eVar 3)))))
def r__law_shuffled : List T → Sto → Res T := fnRun false 5 (b__law_shuffled)
theorem ok__law_shuffled (B : Blt mg) (C__law_draw_0 : CallF P w K mg base 2 "_law_draw" false 2 [] (r__law_draw)) (F0 : FunD K "_law_shuffled" "_law_shuffled" (defArgs s__law_shuffled) (defBody s__law_shuffled) (defScope s__law_shuffled) [] [] f fd) : FnOk P w K mg base CX0 3 f fd ["purse", "some"] (spRun mg false 2 (r__law_shuffled)) := by
  have sc := sc__law_shuffled
  refine fn_okN ["purse", "some", "left", "found", "place"] ["purse", "some"] false 2 5 2 (b__law_shuffled) F0 sc rfl rfl ?_
  exact fun cdv A outer s H E hr =>
    (sb_cons (ss_par (i := 2) (j := 3) sc.nd (sa_cons (SE.drop (se_listC B (sa_cons (se_var (i := 1)) sa_nil))) (sa_cons (SE.new (se_lst sa_nil)) sa_nil)))
    (sb_cons (ss_while 60 (st_cmp (p_ne hr).ok (se_var (i := 2)) (SE.drop (se_lst sa_nil))) (sb_cons (ss_set (i := 4) sc.nd (se_call C__law_draw_0 (hr.mono (by decide)) (sa_cons (se_var (i := 0)) (sa_cons (se_len B (sa_cons (se_var (i := 2)) sa_nil)) sa_nil))))
    (sb_cons (ss_expr (se_append (se_var (i := 3)) (sa_cons (se_ix hr (se_var (i := 2)) (se_var (i := 4))) sa_nil)))
    (sb_one (ss_set (i := 2) sc.nd (SE.drop (se_addL (SE.drop (se_sl (se_var (i := 2)) so_none (so_some (se_var (i := 4))))) (SE.drop (se_sl (se_var (i := 2)) (so_some (se_addI (se_var (i := 4)) se_int)) so_none)))))))))
    (sb_one (ss_ret (SE.frz (se_var (i := 3)))))))
/-! ### _law_pack -/
theorem sc__law_pack : FnScope ["purse", "many", "some", "spin"] ["purse", "many"] (defScope s__law_pack) := ⟨rfl, rfl, rfl, by decide +kernel, rfl, by decide +kernel, by decide +kernel⟩
def b__law_pack : Ev Fl :=
    (sSeq (sAsg (eLrg1 (eVar 1)) (gN 2))
    (sSeq (sIf (eB (e2 (kVw kEq0) (eCall 2 [] (r__law_draw) (eCons (eVar 0) (eCons (eC (.int 2)) eNil))) (eC (.int 0)))) (sAsg (eA kSorted (eCons (eA kDictP (eCons (eComp (iRg1 (eVar 1)) (gN 3) cYes (eTup (eCons (eCall 2 [] (r__law_draw) (eCons (eVar 0) (eCons (e2 kPow (eC (.int 10)) (eC (.int 6))) eNil))) (eCons (eC (.bl true)) eNil))) [3]) eNil)) eNil)) (gN 2)) sNil)
    (sRet (eCall 2 [] (r__law_shuffled) (eCons (eVar 0) (eCons (eVar 2) eNil))))))
def r__law_pack : List T → Sto → Res T := fnRun false 4 (b__law_pack)
theorem ok__law_pack (B : Blt mg) (C__law_draw_0 : CallF P w K mg base 2 "_law_draw" false 2 [] (r__law_draw)) (C__law_shuffled_0 : CallF P w K mg base 3 "_law_shuffled" false 2 [] (r__law_shuffled)) (F0 : FunD K "_law_pack" "_law_pack" (defArgs s__law_pack) (defBody s__law_pack) (defScope s__law_pack) [] [] f fd) : FnOk P w K mg base CX0 4 f fd ["purse", "many"] (spRun mg false 2 (r__law_pack)) := by
  have sc := sc__law_pack
  refine fn_okN ["purse", "many", "some", "spin"] ["purse", "many"] false 3 4 2 (b__law_pack) F0 sc rfl rfl ?_
  exact fun cdv A outer s H E hr =>
    (sb_cons (ss_set (i := 2) sc.nd (SE.drop (se_listRg1 B (se_var (i := 1)))))
    (sb_cons (ss_if (st_cmp (p_eq hr).ok (se_call C__law_draw_0 (hr.mono (by decide)) (sa_cons (se_var (i := 0)) (sa_cons se_int sa_nil))) se_int) (sb_one (ss_set (i := 2) sc.nd (SE.drop (se_sorted B (sa_cons (SE.drop (se_dictP B (sa_cons (SE.drop (se_comp [("spin", 3)] sc.nd (si_range1 B (se_var (i := 1))) (fun _ _ _ _ _ => (sg_name (i := 3) sc.nd)) (fun _ _ _ _ _ => sts_nil) (fun _ _ _ _ _ => (se_tup (sa_cons (se_call C__law_draw_0 (hr.mono (by decide)) (sa_cons (se_var (i := 0)) (sa_cons (se_pow se_int se_int) sa_nil))) (sa_cons se_bl sa_nil)))) (by first | (show blkC ["purse", "many", "some", "spin"] (defScope s__law_pack) _ _ = true; decide +kernel) | (show blkC ["purse", "many", "some", "spin"] (relabel _ (envOfC "" (defScope s__law_pack) 0 0 .none)) _ _ = true; decide +kernel)))) sa_nil))) sa_nil))))) sb_nil)
    (sb_one (ss_ret (se_call C__law_shuffled_0 (hr.mono (by decide)) (sa_cons (se_var (i := 0)) (sa_cons (se_var (i := 2)) sa_nil)))))))
/-! ### _law_deals_right -/
theorem sc__law_deals_right : FnScope ["purse", "many", "move", "lengths", "heaps", "pack", "order", "spin", "column", "heap"] ["purse"] (defScope s__law_deals_right) := ⟨rfl, rfl, rfl, by decide +kernel, rfl, by decide +kernel, by decide +kernel⟩
def b__law_deals_right : Ev Fl :=
    (sSeq (sAsg (eTup (eCons (e2 kAddI (eC (.int 1)) (eCall 2 [] (r__law_draw) (eCons (eVar 0) (eCons (eC (.int 40)) eNil)))) (eCons (e2 kAddI (eC (.int 1)) (eCall 2 [] (r__law_draw) (eCons (eVar 0) (eCons (eC (.int 6)) eNil)))) eNil))) (gTup 2 (gCons (gN 1) (gCons (gN 4) gNil))))
    (sSeq (sAsg (eTup (eCons (eCall 2 [] (r__law_pack) (eCons (eVar 0) (eCons (eVar 1) eNil))) (eCons (eCall 2 [] (r__law_shuffled) (eCons (eVar 0) (eCons (eLrg1 (eVar 4)) eNil))) eNil))) (gTup 2 (gCons (gN 5) (gCons (gN 6) gNil))))
    (sSeq (sAsg (eA kLen (eCons (eVar 5) eNil)) (gN 1))
    (sSeq (sIf (eB (e2 (kVw kNe0) (eCall 2 [] (r_dealt) (eCons (eVar 5) (eCons (eVar 4) eNil))) (eComp (iLst (eCall 2 [] (r_columns) (eCons (eVar 5) (eCons (eVar 4) eNil)))) (gN 8) cYes (eSlSt (eVar 8) eNone eNone (ePart (e2 kSub (eC (.int 0)) (eC (.int 1))))) [8]))) (sRet (eC (.bl false))) sNil)
    (sSeq (sAsg (eCall 3 [] (r_heap_move) (eCons (eVar 1) (eCons (eVar 4) (eCons (eVar 6) eNil)))) (gN 2))
    (sSeq (sIf (eOr (eB (e2 (kVw kNe0) (eCall 2 [] (r_one_then) (eCons (eVar 2) (eCons (eCall 2 [] (r_about_move) (eCons (eVar 1) (eCons (eVar 1) eNil))) eNil))) (eCall 3 [] (r_deal_move) (eCons (eVar 1) (eCons (eVar 4) (eCons (eSlSt (eVar 6) eNone eNone (ePart (e2 kSub (eC (.int 0)) (eC (.int 1))))) eNil)))))) (eB (e2 (kVw kNe0) (eCall 3 [] (r_heap_move) (eCons (eVar 1) (eCons (eC (.int 1)) (eCons (eLst (eCons (eC (.int 0)) eNil)) eNil)))) (eCall 2 [] (r_about_move) (eCons (eVar 1) (eCons (eVar 1) eNil)))))) (sRet (eC (.bl false))) sNil)
    (sSeq (sIf (eB (e2 (kVw kNe0) (eCall 2 [] (r_moved) (eCons (eVar 5) (eCons (eVar 2) eNil))) (eA kSumL (eCons (eComp (iLst (eVar 6)) (gN 9) cYes (e2 kIx (eCall 2 [] (r_dealt) (eCons (eVar 5) (eCons (eVar 4) eNil))) (eVar 9)) [9]) (eCons (eLst eNil) eNil))))) (sRet (eC (.bl false))) sNil)
    (sSeq (sIf (eOr (eB (e2 (kVw kNe0) (eCall 2 [] (r_one_then) (eCons (eCall 1 [] (r_monge_move) (eCons (eVar 1) eNil)) (eCons (eCall 1 [] (r_milk_move) (eCons (eVar 1) eNil)) eNil))) (eCall 1 [] (r_whole_pack) (eCons (eVar 1) eNil)))) (eB (e2 (kVw kNe0) (eCall 1 [] (r_is_even) (eCons (eCall 1 [] (r_monge_move) (eCons (eVar 1) eNil)) eNil)) (eCall 1 [] (r_is_even) (eCons (eCall 1 [] (r_milk_move) (eCons (eVar 1) eNil)) eNil))))) (sRet (eC (.bl false))) sNil)
    (sSeq (sIf (eOr (eB (e2 (kVw kNe0) (eCall 2 [] (r_out_order) (eCons (eVar 1) (eCons (eC (.int 1)) eNil))) (eCall 1 [] (r_whole_pack) (eCons (eVar 1) eNil)))) (eOr (eB (e2 (kVw kNe0) (eCall 2 [] (r_moved) (eCons (eCall 2 [] (r_set_for) (eCons (eVar 5) (eCons (eC (.int 3)) eNil))) (eCons (eCall 2 [] (r_out_order) (eCons (eVar 1) (eCons (eC (.int 3)) eNil))) eNil))) (eVar 5))) (eB (e2 (kVw kNe0) (eCall 3 [] (r_out_turn) (eCons (eVar 1) (eCons (eC (.int 2)) (eCons (eCall 2 [] (r_last_place) (eCons (eVar 1) (eCons (eC (.int 2)) eNil))) eNil)))) (e2 kSub (eVar 1) (eC (.int 1))))))) (sRet (eC (.bl false))) sNil)
    (sSeq (sAsg (eComp (iRg1 (eCall 2 [] (r__law_draw) (eCons (eVar 0) (eCons (e2 kAddI (eVar 1) (eC (.int 1))) eNil)))) (gN 7) cYes (e2 kAddI (eC (.int 1)) (eCall 2 [] (r__law_draw) (eCons (eVar 0) (eCons (eC (.int 9)) eNil)))) [7]) (gN 3))
    (sSeq (sIf (eB (e2 (kVw kNe0) (eCall 2 [] (r_spelled) (eCons (eCall 2 [] (r_set_to_spell) (eCons (eVar 5) (eCons (eVar 3) eNil))) (eCons (eVar 3) eNil))) (eTup (eCons (eSl (eVar 5) eNone (ePart (eA kLen (eCons (eVar 3) eNil)))) (eCons (eSl (eVar 5) (ePart (eA kLen (eCons (eVar 3) eNil))) eNone) eNil))))) (sRet (eC (.bl false))) sNil)
    (sSeq (sIf (eAnd (eB (e2 (kVw kEq0) (e2 kMod (eVar 1) (eC (.int 2))) (eC (.int 0)))) (eOr (eB (e2 (kVw kNe0) (eCall 1 [] (r_move_back) (eCons (eCall 2 [] (r_faro_move) (eCons (eVar 1) (eCons (eC (.str ⟨#[111, 117, 116]⟩)) eNil))) eNil)) (eCall 3 [] (r_deal_move) (eCons (eVar 1) (eCons (eC (.int 2)) (eCons (eLst (eCons (eC (.int 0)) (eCons (eC (.int 1)) eNil))) eNil)))))) (eB (e2 (kVw kNe0) (eCall 1 [] (r_move_back) (eCons (eCall 2 [] (r_faro_move) (eCons (eVar 1) (eCons (eC (.str ⟨#[105, 110]⟩)) eNil))) eNil)) (eCall 3 [] (r_deal_move) (eCons (eVar 1) (eCons (eC (.int 2)) (eCons (eLst (eCons (eC (.int 1)) (eCons (eC (.int 0)) eNil))) eNil)))))))) (sRet (eC (.bl false))) sNil)
    (sRet (e2 (kVw kEq0) (eCall 1 [] (r_order_of) (eCons (eVar 2) eNil)) (eCall 1 [] (r_order_of) (eCons (eCall 1 [] (r_move_back) (eCons (eVar 2) eNil)) eNil))))))))))))))))
def r__law_deals_right : List T → Sto → Res T := fnRun false 10 (b__law_deals_right)
theorem ok__law_deals_right (B : Blt mg) (C__law_draw_0 : CallF P w K mg base 2 "_law_draw" false 2 [] (r__law_draw)) (C__law_shuffled_0 : CallF P w K mg base 3 "_law_shuffled" false 2 [] (r__law_shuffled)) (C__law_pack_0 : CallF P w K mg base 4 "_law_pack" false 2 [] (r__law_pack)) (C_dealt_0 : CallF P w K mg base 5 "dealt" false 2 [] (r_dealt)) (C_columns_0 : CallF P w K mg base 5 "columns" false 2 [] (r_columns)) (C_heap_move_0 : CallF P w K mg base 4 "heap_move" false 3 [] (r_heap_move)) (C_one_then_0 : CallF P w K mg base 5 "one_then" false 2 [] (r_one_then)) (C_about_move_0 : CallF P w K mg base 5 "about_move" false 2 [] (r_about_move)) (C_deal_move_0 : CallF P w K mg base 4 "deal_move" false 3 [] (r_deal_move)) (C_moved_0 : CallF P w K mg base 5 "moved" false 2 [] (r_moved)) (C_milk_move_0 : CallF P w K mg base 4 "milk_move" false 1 [] (r_milk_move)) (C_monge_move_0 : CallF P w K mg base 4 "monge_move" false 1 [] (r_monge_move)) (C_whole_pack_0 : CallF P w K mg base 4 "whole_pack" false 1 [] (r_whole_pack)) (C_is_even_0 : CallF P w K mg base 5 "is_even" false 1 [] (r_is_even)) (C_out_order_0 : CallF P w K mg base 4 "out_order" false 2 [] (r_out_order)) (C_set_for_0 : CallF P w K mg base 5 "set_for" false 2 [] (r_set_for)) (C_out_turn_0 : CallF P w K mg base 4 "out_turn" false 3 [] (r_out_turn)) (C_last_place_0 : CallF P w K mg base 4 "last_place" false 2 [] (r_last_place)) (C_spelled_0 : CallF P w K mg base 6 "spelled" false 2 [] (r_spelled)) (C_set_to_spell_0 : CallF P w K mg base 6 "set_to_spell" false 2 [] (r_set_to_spell)) (C_move_back_0 : CallF P w K mg base 5 "move_back" false 1 [] (r_move_back)) (C_faro_move_0 : CallF P w K mg base 5 "faro_move" false 2 [] (r_faro_move)) (C_order_of_0 : CallF P w K mg base 5 "order_of" false 1 [] (r_order_of)) (F0 : FunD K "_law_deals_right" "_law_deals_right" (defArgs s__law_deals_right) (defBody s__law_deals_right) (defScope s__law_deals_right) [] [] f fd) : FnOk P w K mg base CX0 7 f fd ["purse"] (spRun mg false 1 (r__law_deals_right)) := by
  have sc := sc__law_deals_right
  refine fn_okN ["purse", "many", "move", "lengths", "heaps", "pack", "order", "spin", "column", "heap"] ["purse"] false 6 10 1 (b__law_deals_right) F0 sc rfl rfl ?_
  exact fun cdv A outer s H E hr =>
    (sb_cons (ss_asg (se_tup (sa_cons (se_addI se_int (se_call C__law_draw_0 (hr.mono (by decide)) (sa_cons (se_var (i := 0)) (sa_cons se_int sa_nil)))) (sa_cons (se_addI se_int (se_call C__law_draw_0 (hr.mono (by decide)) (sa_cons (se_var (i := 0)) (sa_cons se_int sa_nil)))) sa_nil))) (sg_tup (n := 2) (sgs_cons (sg_name (i := 1) sc.nd) (sgs_cons (sg_name (i := 4) sc.nd) sgs_nil))))
    (sb_cons (ss_asg (se_tup (sa_cons (se_call C__law_pack_0 (hr.mono (by decide)) (sa_cons (se_var (i := 0)) (sa_cons (se_var (i := 1)) sa_nil))) (sa_cons (se_call C__law_shuffled_0 (hr.mono (by decide)) (sa_cons (se_var (i := 0)) (sa_cons (SE.drop (se_listRg1 B (se_var (i := 4)))) sa_nil))) sa_nil))) (sg_tup (n := 2) (sgs_cons (sg_name (i := 5) sc.nd) (sgs_cons (sg_name (i := 6) sc.nd) sgs_nil))))
    (sb_cons (ss_set (i := 1) sc.nd (se_len B (sa_cons (se_var (i := 5)) sa_nil)))
    (sb_cons (ss_if (st_cmp (p_ne hr).ok (se_call C_dealt_0 (hr.mono (by decide)) (sa_cons (se_var (i := 5)) (sa_cons (se_var (i := 4)) sa_nil))) (SE.drop (se_comp [("column", 8)] sc.nd (si_list (se_call C_columns_0 (hr.mono (by decide)) (sa_cons (se_var (i := 5)) (sa_cons (se_var (i := 4)) sa_nil)))) (fun _ _ _ _ _ => (sg_name (i := 8) sc.nd)) (fun _ _ _ _ _ => sts_nil) (fun _ _ _ _ _ => (SE.drop (se_slSt (se_var (i := 8)) so_none so_none (so_some (se_sub se_int se_int))))) (by first | (show blkC ["purse", "many", "move", "lengths", "heaps", "pack", "order", "spin", "column", "heap"] (defScope s__law_deals_right) _ _ = true; decide +kernel) | (show blkC ["purse", "many", "move", "lengths", "heaps", "pack", "order", "spin", "column", "heap"] (relabel _ (envOfC "" (defScope s__law_deals_right) 0 0 .none)) _ _ = true; decide +kernel))))) (sb_one (ss_ret se_bl)) sb_nil)
    (sb_cons (ss_set (i := 2) sc.nd (se_call C_heap_move_0 (hr.mono (by decide)) (sa_cons (se_var (i := 1)) (sa_cons (se_var (i := 4)) (sa_cons (se_var (i := 6)) sa_nil)))))
    (sb_cons (ss_if (SW.st (sw_or (st_cmp (p_ne hr).ok (se_call C_one_then_0 (hr.mono (by decide)) (sa_cons (se_var (i := 2)) (sa_cons (se_call C_about_move_0 (hr.mono (by decide)) (sa_cons (se_var (i := 1)) (sa_cons (se_var (i := 1)) sa_nil))) sa_nil))) (se_call C_deal_move_0 (hr.mono (by decide)) (sa_cons (se_var (i := 1)) (sa_cons (se_var (i := 4)) (sa_cons (SE.drop (se_slSt (se_var (i := 6)) so_none so_none (so_some (se_sub se_int se_int)))) sa_nil))))) (ST.or1 (st_cmp (p_ne hr).ok (se_call C_heap_move_0 (hr.mono (by decide)) (sa_cons (se_var (i := 1)) (sa_cons se_int (sa_cons (SE.drop (se_lst (sa_cons se_int sa_nil))) sa_nil)))) (se_call C_about_move_0 (hr.mono (by decide)) (sa_cons (se_var (i := 1)) (sa_cons (se_var (i := 1)) sa_nil))))))) (sb_one (ss_ret se_bl)) sb_nil)
    (sb_cons (ss_if (st_cmp (p_ne hr).ok (se_call C_moved_0 (hr.mono (by decide)) (sa_cons (se_var (i := 5)) (sa_cons (se_var (i := 2)) sa_nil))) (se_sumL B (sa_cons (SE.drop (se_comp [("heap", 9)] sc.nd (si_list (se_var (i := 6))) (fun _ _ _ _ _ => (sg_name (i := 9) sc.nd)) (fun _ _ _ _ _ => sts_nil) (fun _ _ _ _ _ => (se_ix hr (se_call C_dealt_0 (hr.mono (by decide)) (sa_cons (se_var (i := 5)) (sa_cons (se_var (i := 4)) sa_nil))) (se_var (i := 9)))) (by first | (show blkC ["purse", "many", "move", "lengths", "heaps", "pack", "order", "spin", "column", "heap"] (defScope s__law_deals_right) _ _ = true; decide +kernel) | (show blkC ["purse", "many", "move", "lengths", "heaps", "pack", "order", "spin", "column", "heap"] (relabel _ (envOfC "" (defScope s__law_deals_right) 0 0 .none)) _ _ = true; decide +kernel)))) (sa_cons (SE.drop (se_lst sa_nil)) sa_nil)))) (sb_one (ss_ret se_bl)) sb_nil)
    (sb_cons (ss_if (SW.st (sw_or (st_cmp (p_ne hr).ok (se_call C_one_then_0 (hr.mono (by decide)) (sa_cons (se_call C_monge_move_0 (hr.mono (by decide)) (sa_cons (se_var (i := 1)) sa_nil)) (sa_cons (se_call C_milk_move_0 (hr.mono (by decide)) (sa_cons (se_var (i := 1)) sa_nil)) sa_nil))) (se_call C_whole_pack_0 (hr.mono (by decide)) (sa_cons (se_var (i := 1)) sa_nil))) (ST.or1 (st_cmp (p_ne hr).ok (se_call C_is_even_0 (hr.mono (by decide)) (sa_cons (se_call C_monge_move_0 (hr.mono (by decide)) (sa_cons (se_var (i := 1)) sa_nil)) sa_nil)) (se_call C_is_even_0 (hr.mono (by decide)) (sa_cons (se_call C_milk_move_0 (hr.mono (by decide)) (sa_cons (se_var (i := 1)) sa_nil)) sa_nil)))))) (sb_one (ss_ret se_bl)) sb_nil)
    (sb_cons (ss_if (SW.st (sw_or (st_cmp (p_ne hr).ok (se_call C_out_order_0 (hr.mono (by decide)) (sa_cons (se_var (i := 1)) (sa_cons se_int sa_nil))) (se_call C_whole_pack_0 (hr.mono (by decide)) (sa_cons (se_var (i := 1)) sa_nil))) (sw_or (st_cmp (p_ne hr).ok (se_call C_moved_0 (hr.mono (by decide)) (sa_cons (se_call C_set_for_0 (hr.mono (by decide)) (sa_cons (se_var (i := 5)) (sa_cons se_int sa_nil))) (sa_cons (se_call C_out_order_0 (hr.mono (by decide)) (sa_cons (se_var (i := 1)) (sa_cons se_int sa_nil))) sa_nil))) (se_var (i := 5))) (ST.or1 (st_cmp (p_ne hr).ok (se_call C_out_turn_0 (hr.mono (by decide)) (sa_cons (se_var (i := 1)) (sa_cons se_int (sa_cons (se_call C_last_place_0 (hr.mono (by decide)) (sa_cons (se_var (i := 1)) (sa_cons se_int sa_nil))) sa_nil)))) (se_sub (se_var (i := 1)) se_int)))))) (sb_one (ss_ret se_bl)) sb_nil)
    (sb_cons (ss_setLc (i := 3) [("spin", 7)] sc.nd (si_range1 B (se_call C__law_draw_0 (hr.mono (by decide)) (sa_cons (se_var (i := 0)) (sa_cons (se_addI (se_var (i := 1)) se_int) sa_nil)))) (fun _ _ _ _ _ => (sg_name (i := 7) sc.nd)) (fun _ _ _ _ _ => sts_nil) (fun _ _ _ _ _ => (se_addI se_int (se_call C__law_draw_0 (hr.mono (by decide)) (sa_cons (se_var (i := 0)) (sa_cons se_int sa_nil))))) (ok := (by first | (show blkC ["purse", "many", "move", "lengths", "heaps", "pack", "order", "spin", "column", "heap"] (defScope s__law_deals_right) _ _ = true; decide +kernel) | (show blkC ["purse", "many", "move", "lengths", "heaps", "pack", "order", "spin", "column", "heap"] (relabel _ (envOfC "" (defScope s__law_deals_right) 0 0 .none)) _ _ = true; decide +kernel))))
    (sb_cons (ss_if (st_cmp (p_ne hr).ok (se_call C_spelled_0 (hr.mono (by decide)) (sa_cons (se_call C_set_to_spell_0 (hr.mono (by decide)) (sa_cons (se_var (i := 5)) (sa_cons (se_var (i := 3)) sa_nil))) (sa_cons (se_var (i := 3)) sa_nil))) (se_tup (sa_cons (SE.drop (se_sl (se_var (i := 5)) so_none (so_some (se_len B (sa_cons (se_var (i := 3)) sa_nil))))) (sa_cons (SE.drop (se_sl (se_var (i := 5)) (so_some (se_len B (sa_cons (se_var (i := 3)) sa_nil))) so_none)) sa_nil)))) (sb_one (ss_ret se_bl)) sb_nil)
    (sb_cons (ss_if (SW.st (sw_and (st_cmp (p_eq hr).ok (se_mod (se_var (i := 1)) se_int) se_int) (ST.and1 (SW.st (sw_or (st_cmp (p_ne hr).ok (se_call C_move_back_0 (hr.mono (by decide)) (sa_cons (se_call C_faro_move_0 (hr.mono (by decide)) (sa_cons (se_var (i := 1)) (sa_cons se_str sa_nil))) sa_nil)) (se_call C_deal_move_0 (hr.mono (by decide)) (sa_cons (se_var (i := 1)) (sa_cons se_int (sa_cons (SE.drop (se_lst (sa_cons se_int (sa_cons se_int sa_nil)))) sa_nil))))) (ST.or1 (st_cmp (p_ne hr).ok (se_call C_move_back_0 (hr.mono (by decide)) (sa_cons (se_call C_faro_move_0 (hr.mono (by decide)) (sa_cons (se_var (i := 1)) (sa_cons se_str sa_nil))) sa_nil)) (se_call C_deal_move_0 (hr.mono (by decide)) (sa_cons (se_var (i := 1)) (sa_cons se_int (sa_cons (SE.drop (se_lst (sa_cons se_int (sa_cons se_int sa_nil)))) sa_nil))))))))))) (sb_one (ss_ret se_bl)) sb_nil)
    (sb_one (ss_ret (se_cmp (p_eq hr).ok (se_call C_order_of_0 (hr.mono (by decide)) (sa_cons (se_var (i := 2)) sa_nil)) (se_call C_order_of_0 (hr.mono (by decide)) (sa_cons (se_call C_move_back_0 (hr.mono (by decide)) (sa_cons (se_var (i := 2)) sa_nil)) sa_nil)))))))))))))))))
/-! ### _law_rings_right -/
theorem sc__law_rings_right : FnScope ["purse", "ring", "pack", "by", "cut", "window", "signs", "length", "place"] ["purse"] (defScope s__law_rings_right) := ⟨rfl, rfl, rfl, by decide +kernel, rfl, by decide +kernel, by decide +kernel⟩
def b__law_rings_right : Ev Fl :=
    (sSeq (sAsg (eCall 2 [] (r__law_one_of) (eCons (eVar 0) (eCons (eLst (eCons (eTup (eCons (eC (.int 2)) (eCons (eC (.int 3)) eNil))) (eCons (eTup (eCons (eC (.int 2)) (eCons (eC (.int 4)) eNil))) (eCons (eTup (eCons (eC (.int 3)) (eCons (eC (.int 2)) eNil))) (eCons (eTup (eCons (eC (.int 4)) (eCons (eC (.int 2)) eNil))) eNil))))) eNil))) (gTup 2 (gCons (gN 6) (gCons (gN 7) gNil))))
    (sSeq (sAsg (eCall 2 [] (r__law_one_of) (eCons (eVar 0) (eCons (eLst (eCons (eCall 2 [] (r_greedy_ring) (eCons (eVar 6) (eCons (eVar 7) eNil))) (eCons (eCall 2 [] (r_least_ring) (eCons (eVar 6) (eCons (eVar 7) eNil))) eNil))) eNil))) (gN 1))
    (sSeq (sAsg (eCall 2 [] (r_pack_of_ring) (eCons (eVar 1) (eCons (eC (.int 13)) eNil))) (gN 2))
    (sSeq (sIf (eOr (eB (e2 (kVw kNe0) (eCall 2 [] (r_suits_of) (eCons (eVar 2) (eCons (eC (.int 13)) eNil))) (eVar 1))) (eOr (eB (e2 kNotN (eCall 4 [] (r_tells_by) (eCons (eVar 2) (eCons (eC (.int 13)) (eCons (eC (.str ⟨#[115, 117, 105, 116, 115]⟩)) (eCons (eVar 7) eNil))))) (eC (.bl true)))) (eB (eCall 2 [] (r_does_tell) (eCons (eVar 1) (eCons (e2 kSub (eVar 7) (eC (.int 1))) eNil)))))) (sRet (eC (.bl false))) sNil)
    (sSeq (sAsg (eCall 2 [] (r__law_draw) (eCons (eVar 0) (eCons (eA kLen (eCons (eVar 2) eNil)) eNil))) (gN 3))
    (sSeq (sAsg (eCall 2 [] (r_cut_by) (eCons (eVar 2) (eCons (eVar 3) eNil))) (gN 4))
    (sSeq (sIf (eOr (eB (e2 (kVw kNe0) (eVar 4) (eCall 2 [] (r_moved) (eCons (eVar 2) (eCons (eCall 2 [] (r_cut_move) (eCons (eA kLen (eCons (eVar 2) eNil)) (eCons (eVar 3) eNil))) eNil))))) (eB (e2 kNotN (eCall 4 [] (r_tells_by) (eCons (eVar 4) (eCons (eC (.int 13)) (eCons (eC (.str ⟨#[115, 117, 105, 116, 115]⟩)) (eCons (eVar 7) eNil))))) (eC (.bl true))))) (sRet (eC (.bl false))) sNil)
    (sSeq (sAsg (eCall 2 [] (r_suits_of) (eCons (eSl (eVar 4) eNone (ePart (eVar 7))) (eCons (eC (.int 13)) eNil))) (gN 5))
    (sRet (vAnd (e2 (kVw kEq0) (eCall 4 [] (r_cards_for) (eCons (eVar 2) (eCons (eC (.int 13)) (eCons (eC (.str ⟨#[115, 117, 105, 116, 115]⟩)) (eCons (eVar 5) eNil))))) (eSl (eVar 4) eNone (ePart (eC (.int 1))))) (vAnd (e2 (kVw kEq0) (eComp (iLst (eCall 2 [] (r_places_for) (eCons (eVar 1) (eCons (eVar 5) eNil)))) (gN 8) cYes (e2 kIx (eVar 2) (eVar 8)) [8]) (eSl (eVar 4) eNone (ePart (eC (.int 1))))) (e2 (kVw kEq0) (eCall 2 [] (r_all_in_turn) (eCons (eA kLen (eCons (eVar 2) eNil)) (eCons (eLst eNil) eNil))) (eCall 1 [] (r_whole_pack) (eCons (eA kLen (eCons (eVar 2) eNil)) eNil))))))))))))))
def r__law_rings_right : List T → Sto → Res T := fnRun false 9 (b__law_rings_right)
theorem ok__law_rings_right (B : Blt mg) (C__law_one_of_0 : CallF P w K mg base 3 "_law_one_of" false 2 [] (r__law_one_of)) (C_least_ring_0 : CallF P w K mg base 4 "least_ring" false 2 [] (r_least_ring)) (C_greedy_ring_0 : CallF P w K mg base 4 "greedy_ring" false 2 [] (r_greedy_ring)) (C_pack_of_ring_0 : CallF P w K mg base 5 "pack_of_ring" false 2 [] (r_pack_of_ring)) (C_suits_of_0 : CallF P w K mg base 6 "suits_of" false 2 [] (r_suits_of)) (C_tells_by_0 : CallF P w K mg base 8 "tells_by" false 4 [] (r_tells_by)) (C_does_tell_0 : CallF P w K mg base 6 "does_tell" false 2 [] (r_does_tell)) (C__law_draw_0 : CallF P w K mg base 2 "_law_draw" false 2 [] (r__law_draw)) (C_cut_by_0 : CallF P w K mg base 5 "cut_by" false 2 [] (r_cut_by)) (C_moved_0 : CallF P w K mg base 5 "moved" false 2 [] (r_moved)) (C_cut_move_0 : CallF P w K mg base 5 "cut_move" false 2 [] (r_cut_move)) (C_cards_for_0 : CallF P w K mg base 8 "cards_for" false 4 [] (r_cards_for)) (C_places_for_0 : CallF P w K mg base 5 "places_for" false 2 [] (r_places_for)) (C_all_in_turn_0 : CallF P w K mg base 4 "all_in_turn" false 2 [] (r_all_in_turn)) (C_whole_pack_0 : CallF P w K mg base 4 "whole_pack" false 1 [] (r_whole_pack)) (F0 : FunD K "_law_rings_right" "_law_rings_right" (defArgs s__law_rings_right) (defBody s__law_rings_right) (defScope s__law_rings_right) [] [] f fd) : FnOk P w K mg base CX0 9 f fd ["purse"] (spRun mg false 1 (r__law_rings_right)) := by
  have sc := sc__law_rings_right
  refine fn_okN ["purse", "ring", "pack", "by", "cut", "window", "signs", "length", "place"] ["purse"] false 8 9 1 (b__law_rings_right) F0 sc rfl rfl ?_
  exact fun cdv A outer s H E hr =>
    (sb_cons (ss_asg (se_call C__law_one_of_0 (hr.mono (by decide)) (sa_cons (se_var (i := 0)) (sa_cons (SE.drop (se_lst (sa_cons (se_tup (sa_cons se_int (sa_cons se_int sa_nil))) (sa_cons (se_tup (sa_cons se_int (sa_cons se_int sa_nil))) (sa_cons (se_tup (sa_cons se_int (sa_cons se_int sa_nil))) (sa_cons (se_tup (sa_cons se_int (sa_cons se_int sa_nil))) sa_nil)))))) sa_nil))) (sg_tup (n := 2) (sgs_cons (sg_name (i := 6) sc.nd) (sgs_cons (sg_name (i := 7) sc.nd) sgs_nil))))
    (sb_cons (ss_set (i := 1) sc.nd (se_call C__law_one_of_0 (hr.mono (by decide)) (sa_cons (se_var (i := 0)) (sa_cons (SE.drop (se_lst (sa_cons (se_call C_greedy_ring_0 (hr.mono (by decide)) (sa_cons (se_var (i := 6)) (sa_cons (se_var (i := 7)) sa_nil))) (sa_cons (se_call C_least_ring_0 (hr.mono (by decide)) (sa_cons (se_var (i := 6)) (sa_cons (se_var (i := 7)) sa_nil))) sa_nil)))) sa_nil))))
    (sb_cons (ss_set (i := 2) sc.nd (se_call C_pack_of_ring_0 (hr.mono (by decide)) (sa_cons (se_var (i := 1)) (sa_cons se_int sa_nil))))
    (sb_cons (ss_if (SW.st (sw_or (st_cmp (p_ne hr).ok (se_call C_suits_of_0 (hr.mono (by decide)) (sa_cons (se_var (i := 2)) (sa_cons se_int sa_nil))) (se_var (i := 1))) (sw_or (st_cmp c_isnot (se_call C_tells_by_0 (hr.mono (by decide)) (sa_cons (se_var (i := 2)) (sa_cons se_int (sa_cons se_str (sa_cons (se_var (i := 7)) sa_nil))))) se_bl) (ST.or1 (st_val (se_call C_does_tell_0 (hr.mono (by decide)) (sa_cons (se_var (i := 1)) (sa_cons (se_sub (se_var (i := 7)) se_int) sa_nil)))))))) (sb_one (ss_ret se_bl)) sb_nil)
    (sb_cons (ss_set (i := 3) sc.nd (se_call C__law_draw_0 (hr.mono (by decide)) (sa_cons (se_var (i := 0)) (sa_cons (se_len B (sa_cons (se_var (i := 2)) sa_nil)) sa_nil))))
    (sb_cons (ss_set (i := 4) sc.nd (se_call C_cut_by_0 (hr.mono (by decide)) (sa_cons (se_var (i := 2)) (sa_cons (se_var (i := 3)) sa_nil))))
    (sb_cons (ss_if (SW.st (sw_or (st_cmp (p_ne hr).ok (se_var (i := 4)) (se_call C_moved_0 (hr.mono (by decide)) (sa_cons (se_var (i := 2)) (sa_cons (se_call C_cut_move_0 (hr.mono (by decide)) (sa_cons (se_len B (sa_cons (se_var (i := 2)) sa_nil)) (sa_cons (se_var (i := 3)) sa_nil))) sa_nil)))) (ST.or1 (st_cmp c_isnot (se_call C_tells_by_0 (hr.mono (by decide)) (sa_cons (se_var (i := 4)) (sa_cons se_int (sa_cons se_str (sa_cons (se_var (i := 7)) sa_nil))))) se_bl)))) (sb_one (ss_ret se_bl)) sb_nil)
    (sb_cons (ss_set (i := 5) sc.nd (se_call C_suits_of_0 (hr.mono (by decide)) (sa_cons (SE.drop (se_sl (se_var (i := 4)) so_none (so_some (se_var (i := 7))))) (sa_cons se_int sa_nil))))
    (sb_one (ss_ret (se_and (se_cmp (p_eq hr).ok (se_call C_cards_for_0 (hr.mono (by decide)) (sa_cons (se_var (i := 2)) (sa_cons se_int (sa_cons se_str (sa_cons (se_var (i := 5)) sa_nil))))) (SE.drop (se_sl (se_var (i := 4)) so_none (so_some se_int)))) (se_and (se_cmp (p_eq hr).ok (SE.drop (se_comp [("place", 8)] sc.nd (si_list (se_call C_places_for_0 (hr.mono (by decide)) (sa_cons (se_var (i := 1)) (sa_cons (se_var (i := 5)) sa_nil)))) (fun _ _ _ _ _ => (sg_name (i := 8) sc.nd)) (fun _ _ _ _ _ => sts_nil) (fun _ _ _ _ _ => (se_ix hr (se_var (i := 2)) (se_var (i := 8)))) (by first | (show blkC ["purse", "ring", "pack", "by", "cut", "window", "signs", "length", "place"] (defScope s__law_rings_right) _ _ = true; decide +kernel) | (show blkC ["purse", "ring", "pack", "by", "cut", "window", "signs", "length", "place"] (relabel _ (envOfC "" (defScope s__law_rings_right) 0 0 .none)) _ _ = true; decide +kernel)))) (SE.drop (se_sl (se_var (i := 4)) so_none (so_some se_int)))) (se_one (se_cmp (p_eq hr).ok (se_call C_all_in_turn_0 (hr.mono (by decide)) (sa_cons (se_len B (sa_cons (se_var (i := 2)) sa_nil)) (sa_cons (SE.drop (se_lst sa_nil)) sa_nil))) (se_call C_whole_pack_0 (hr.mono (by decide)) (sa_cons (se_len B (sa_cons (se_var (i := 2)) sa_nil)) sa_nil))))))))))))))))
/-! ### law -/
theorem sc_law : FnScope ["script", "at", "purse", "spin"] ["script"] (defScope s_law) := ⟨rfl, rfl, rfl, by decide +kernel, rfl, by decide +kernel, by decide +kernel⟩
def b_law (o : Osc) : Ev Fl :=
    (sSeq (sFor (iRg1 (eA kMax (eCons (eC (.int 1)) (eCons (eA kMin (eCons (eA (kLenS o) (eCons (eVar 0) eNil)) (eCons (eC (.int 3)) eNil))) eNil)))) (gN 1) (sSeq (sAsg (eTag (eNew (eCall 2 [] (r__law_purse o) (eCons (eVar 0) (eCons (eVar 1) eNil))))) (gN 2))
    (sFor (iRg1 (eC (.int 3))) (gN 3) (sIf (eOr (eNot (eB (eCall 1 [] (r__law_deals_right) (eCons (eVar 2) eNil)))) (eNot (eB (eCall 1 [] (r__law_rings_right) (eCons (eVar 2) eNil))))) (sRet (eC (.bl false))) sNil))))
    (sRet (eCall 2 [] (r__law_exact 4) (eCons (eLst (eCons (eLst (eCons (eC (.int 5)) (eCons (eC (.int 3)) (eCons (eC (.int 1)) (eCons (eC (.int 0)) (eCons (eC (.int 2)) (eCons (eC (.int 4)) eNil))))))) (eCons (eLst (eCons (eC (.int 3)) (eCons (eC (.int 1)) (eCons (eC (.int 4)) (eCons (eC (.int 2)) (eCons (eC (.int 0)) eNil)))))) (eCons (eC (.int 12)) eNil)))) (eCons (eLst (eCons (eCall 1 [] (r_monge_move) (eCons (eC (.int 6)) eNil)) (eCons (eCall 3 [] (r_heap_move) (eCons (eC (.int 5)) (eCons (eC (.int 2)) (eCons (eLst (eCons (eC (.int 1)) (eCons (eC (.int 0)) eNil))) eNil)))) (eCons (eCall 1 [] (r_order_of) (eCons (eCall 1 [] (r_monge_move) (eCons (eC (.int 52)) eNil)) eNil)) eNil)))) eNil)))))
def r_law (o : Osc) : List T → Sto → Res T := fnRun false 4 (b_law o)
theorem ok_law {o : Osc} (hO : ScrOk K o) (B : Blt mg) (C__law_purse_0 : CallF P w K mg base 1 "_law_purse" true 2 [] (r__law_purse o)) (C__law_deals_right_0 : CallF P w K mg base 7 "_law_deals_right" false 1 [] (r__law_deals_right)) (C__law_rings_right_0 : CallF P w K mg base 9 "_law_rings_right" false 1 [] (r__law_rings_right)) (C__law_exact_0 : CallF P w K mg base 5 "_law_exact" false 2 [] (r__law_exact 4)) (C_order_of_0 : CallF P w K mg base 5 "order_of" false 1 [] (r_order_of)) (C_monge_move_0 : CallF P w K mg base 4 "monge_move" false 1 [] (r_monge_move)) (C_heap_move_0 : CallF P w K mg base 4 "heap_move" false 3 [] (r_heap_move)) (F0 : FunD K "law" "law" (defArgs s_law) (defBody s_law) (defScope s_law) [] [] f fd) : FnOk P w K mg base CX0 10 f fd ["script"] (spRun mg false 1 (r_law o)) := by
  have sc := sc_law
  refine fn_okN ["script", "at", "purse", "spin"] ["script"] false 9 4 1 (b_law o) F0 sc rfl rfl ?_
  exact fun cdv A outer s H E hr =>
    (sb_cons (ss_for (si_range1 B (se_max B (sa_cons se_int (sa_cons (se_min B (sa_cons (se_lenS hO B (sa_cons (se_var (i := 0)) sa_nil)) (sa_cons se_int sa_nil))) sa_nil)))) (sg_name (i := 1) sc.nd) (sb_cons (ss_set (i := 2) sc.nd (SE.tag (SE.new (se_call C__law_purse_0 (hr.mono (by decide)) (sa_cons (se_var (i := 0)) (sa_cons (se_var (i := 1)) sa_nil))))))
    (sb_one (ss_for (si_range1 B se_int) (sg_name (i := 3) sc.nd) (sb_one (ss_if (SW.st (sw_or (st_not (st_val (se_call C__law_deals_right_0 (hr.mono (by decide)) (sa_cons (se_var (i := 2)) sa_nil)))) (ST.or1 (st_not (st_val (se_call C__law_rings_right_0 (hr.mono (by decide)) (sa_cons (se_var (i := 2)) sa_nil))))))) (sb_one (ss_ret se_bl)) sb_nil))))))
    (sb_one (ss_ret (se_call C__law_exact_0 (hr.mono (by decide)) (sa_cons (SE.drop (se_lst (sa_cons (SE.drop (se_lst (sa_cons se_int (sa_cons se_int (sa_cons se_int (sa_cons se_int (sa_cons se_int (sa_cons se_int sa_nil)))))))) (sa_cons (SE.drop (se_lst (sa_cons se_int (sa_cons se_int (sa_cons se_int (sa_cons se_int (sa_cons se_int sa_nil))))))) (sa_cons se_int sa_nil))))) (sa_cons (SE.drop (se_lst (sa_cons (se_call C_monge_move_0 (hr.mono (by decide)) (sa_cons se_int sa_nil)) (sa_cons (se_call C_heap_move_0 (hr.mono (by decide)) (sa_cons se_int (sa_cons se_int (sa_cons (SE.drop (se_lst (sa_cons se_int (sa_cons se_int sa_nil)))) sa_nil)))) (sa_cons (se_call C_order_of_0 (hr.mono (by decide)) (sa_cons (se_call C_monge_move_0 (hr.mono (by decide)) (sa_cons se_int sa_nil)) sa_nil)) sa_nil))))) sa_nil))))))
end
end TL
end
section
set_option Elab.async false
set_option linter.all false
set_option maxRecDepth 100000
/-! B85: S1 to S4 over L85. -/
namespace TL
open PySem PySem.Spec PyProof.Rows L2
@[simp] theorem eNew_run {a : Ev T} {τ : Tau} {M : Sto} : eNew a τ M = (a τ M).bind fun t M' => match t with | .lst ts => .ok (.ref M'.nx) (M'.add (.lst ts)) | .dic ks ts => .ok (.ref M'.nx) (M'.add (.dic ks ts)) | _ => .stuck := nr rfl
@[simp] theorem eFrz_run {a : Ev T} {τ : Tau} {M : Sto} : eFrz a τ M = (a τ M).bind fun t M' => match frzD 6 t M' with | some (t', M2) => .ok t' M2 | none => .stuck := nr rfl
def FlV (Φ : T → Sto → Prop) : Fl → Sto → Prop
  | .nx _, M => Φ .non M
  | .rt t, M => Φ t M
  | _, _ => False
theorem fn_all {N : Nat} {b : Ev Fl} {ts : List T} {M : Sto} {Φ : T → Sto → Prop} (h : Wp (b (ts.map some ++ List.replicate (N - ts.length) none) M) (FlV Φ)) : Wp (fnRun false N b ts M) Φ := by
  show Wp ((b _ M).bind _) Φ
  rw [wp_bind]
  refine h.mono fun fl M' q => ?_
  cases fl with
  | nx τ => exact ⟨q⟩
  | rt t => exact ⟨q⟩
  | _ => exact q.elim
def FlS (g : Ev Fl) (Φ : Fl → Sto → Prop) : Fl → Sto → Prop
  | .nx τ, M => Wp (g τ M) Φ
  | fl, M => Φ fl M
@[simp] theorem flS_nx {g : Ev Fl} {Φ : Fl → Sto → Prop} {τ : Tau} {M : Sto} : FlS g Φ (.nx τ) M = Wp (g τ M) Φ := nr rfl
@[simp] theorem flS_rt {g : Ev Fl} {Φ : Fl → Sto → Prop} {t : T} {M : Sto} : FlS g Φ (.rt t) M = Φ (.rt t) M := nr rfl
@[simp] theorem flV_nx {Φ : T → Sto → Prop} {τ : Tau} {M : Sto} : FlV Φ (.nx τ) M = Φ .non M := nr rfl
@[simp] theorem flV_rt {Φ : T → Sto → Prop} {t : T} {M : Sto} : FlV Φ (.rt t) M = Φ t M := nr rfl
@[simp] theorem turn_nx {P : Tau → Sto → Prop} {Φ : Fl → Sto → Prop} {τ : Tau} {M : Sto} : Turn P Φ (.nx τ) M = P τ M := nr rfl
@[simp] theorem turn_rt {P : Tau → Sto → Prop} {Φ : Fl → Sto → Prop} {t : T} {M : Sto} : Turn P Φ (.rt t) M = Φ (.rt t) M := nr rfl
theorem seq_all' {f g : Ev Fl} {τ : Tau} {M : Sto} {Φ : Fl → Sto → Prop} (h : Wp (f τ M) (FlS g Φ)) : Wp (sSeq f g τ M) Φ := by
  show Wp ((f τ M).bind _) Φ
  rw [wp_bind]
  refine h.mono fun fl M' q => ?_
  cases fl with
  | nx τ => exact q
  | _ => exact ⟨q⟩
theorem frz_flat {ts : List T} (h : ∀ t ∈ ts, flatR 0 t = true ∧ ∀ xs, t ≠ .lst xs ∧ t ≠ .tup xs ∧ ∀ ks, t ≠ .dic ks xs) (d : Nat) (M : Sto) : frzM (frzD (d + 1)) ts M = some (ts, M) := by
  induction ts with
  | nil => rfl
  | cons t ts ih =>
    have h1 := h t List.mem_cons_self
    have ih := ih fun u hu => h u (List.mem_cons_of_mem _ hu)
    have e : frzD (d + 1) t M = some (t, M) := by
      cases t with
      | lst xs => exact absurd rfl (h1.2 xs).1
      | tup xs => exact absurd rfl (h1.2 xs).2.1
      | dic ks xs => exact absurd rfl ((h1.2 xs).2.2 ks)
      | ref n => have := h1.1; simp [flatR] at this
      | scr a => have := h1.1; simp [flatR] at this
      | _ => rfl
    show (match frzD (d + 1) t M with | some (u, M1) => (match frzM (frzD (d + 1)) ts M1 with | some (us, M2) => some (u :: us, M2) | none => none) | none => none) = _
    rw [e]
    simp only [ih]
/-- plain items: neither lists nor things of the store -/
def Pln (t : T) : Prop := flatR 0 t = true ∧ ∀ xs, t ≠ .lst xs ∧ t ≠ .tup xs ∧ ∀ ks, t ≠ .dic ks xs
theorem pln_int (i : Int) : Pln (.int i) := ⟨rfl, fun xs => ⟨fun e => (nomatch e), fun e => (nomatch e), fun ks e => (nomatch e)⟩⟩
theorem isL_ref {n : Nat} {M : Sto} {ts : List T} (h : M.get n = some (.lst ts)) : isL (.ref n) M = true := by simp [isL, h]
theorem frz_ref {n d : Nat} {M : Sto} {ts : List T} (h : M.get n = some (.lst ts)) (hp : ∀ t ∈ ts, Pln t) : frzD (d + 2) (.ref n) M = some (.lst ts, M.del n) := by
  show (match M.get n with
      | some (.lst ts) => (match frzM (frzD (d + 1)) ts (M.del n) with
        | some (us, M') => some (T.lst us, M')
        | none => none)
      | some (.dic ks ts) => (match frzM (frzD (d + 1)) ts (M.del n) with
        | some (us, M') => some (T.dic ks us, M')
        | none => none)
      | _ => none) = _
  rw [h]
  simp only [frz_flat hp d (M.del n)]
def rgI (n : Nat) : List Int := (List.range n).map fun (i : Nat) => (i : Int)
theorem rgT_rgI (n : Nat) : rgT 0 n = (rgI n).map T.int := rgT_ints
theorem rgI_length (n : Nat) : (rgI n).length = n := by simp [rgI]
theorem rgI_nodup (n : Nat) : (rgI n).Nodup := by
  unfold rgI
  rw [List.Nodup, List.pairwise_map]
  exact (List.nodup_range (n := n)).imp fun h e => h (by omega)
theorem mem_rgI {n : Nat} {i : Int} : i ∈ rgI n ↔ 0 ≤ i ∧ i < n := by
  simp only [rgI, List.mem_map, List.mem_range]
  constructor
  · rintro ⟨a, h, rfl⟩; omega
  · rintro ⟨h1, h2⟩; exact ⟨i.toNat, by omega, by omega⟩
theorem swap_perm {α : Type} [BEq α] [LawfulBEq α] {l : List α} {i j : Nat} {x y : α} (hi : l[i]? = some x) (hj : l[j]? = some y) (hij : i ≠ j) : ((l.set i y).set j x).Perm l := by
  rw [List.perm_iff_count]
  intro a
  obtain ⟨h1, e1⟩ := List.getElem?_eq_some_iff.mp hi
  obtain ⟨h2, e2⟩ := List.getElem?_eq_some_iff.mp hj
  rw [List.count_set (by simpa using h2), List.count_set h1]
  have e3 : (l.set i y)[j]'(by simpa using h2) = y := by rw [List.getElem_set_ne hij]; exact e2
  rw [e3, e1]
  have c1 : (if x == a then 1 else 0) ≤ l.count a := by
    split
    · rename_i h
      have := eq_of_beq h
      subst this
      exact List.one_le_count_iff.mpr (List.mem_of_getElem? hi)
    · omega
  omega
theorem map_perm_ints {us : List T} {ns : List Int} (h : us.Perm (ns.map T.int)) : ∃ ms : List Int, us = ms.map T.int ∧ ms.Perm ns := by
  have hm : ∀ {us : List T}, (∀ u ∈ us, u ∈ ns.map T.int) → ∃ ms : List Int, us = ms.map T.int := fun {us} h => by
    induction us with
    | nil => exact ⟨[], rfl⟩
    | cons u us ih =>
      obtain ⟨ms, e⟩ := ih fun v hv => h v (List.mem_cons_of_mem _ hv)
      obtain ⟨i, _, e2⟩ := List.mem_map.mp (h u List.mem_cons_self)
      exact ⟨i :: ms, by rw [e, ← e2]; rfl⟩
  obtain ⟨ms, e⟩ := hm fun u hu => h.mem_iff.mp hu
  refine ⟨ms, e, ?_⟩
  subst e
  have g : ∀ l : List Int, (l.map T.int).map (fun t => match t with | .int i => i | _ => 0) = l := fun l => by
    rw [List.map_map]
    exact List.map_id'' (fun _ => rfl) l
  have := h.map (fun t => match t with | T.int i => i | _ => (0 : Int))
  rwa [g, g] at this
def MoveTo (M : Sto) (n k many : Nat) (t : T) (M' : Sto) : Prop := ∃ (p : List Int) (j : Nat) (r : List (Nat × MO)) (nx' : Nat), t = li p ∧ p.Perm (rgI many) ∧ M' = PB M n j r nx' ∧ j ≤ k + 300 ∧ M.nx ≤ nx' ∧ Beh M.nx nx' r
theorem get_one {M : Sto} {n k : Nat} (h : Pu M n k) {j nx : Nat} {o : MO} : (PB M n j [(M.nx, o)] nx).get M.nx = some o := by
  rw [PB_get h (Nat.le_refl _)]
  show (if Nat.beq M.nx M.nx = true then _ else _) = _
  rw [if_pos (Nat.beq_refl _)]
theorem set_one {M : Sto} {n k : Nat} (h : Pu M n k) {j nx : Nat} {o o' : MO} : (PB M n j [(M.nx, o)] nx).set M.nx o' = PB M n j [(M.nx, o')] nx := by
  rw [PB_set h (Nat.le_refl _)]
  show PB M n _ (if Nat.beq M.nx M.nx = true then _ else _) _ = _
  rw [if_pos (Nat.beq_refl _)]
theorem del_one {M : Sto} {n k : Nat} (h : Pu M n k) {j nx : Nat} {o : MO} : (PB M n j [(M.nx, o)] nx).del M.nx = PB M n j [] nx := by
  rw [PB_del h (Nat.le_refl _)]
  show PB M n _ (if Nat.beq M.nx M.nx = true then _ else _) _ = _
  rw [if_pos (Nat.beq_refl _)]
  rfl
theorem beh_nil {a nx : Nat} : Beh a nx [] := fun p hp => nomatch hp
theorem beh_one {a nx : Nat} {o : MO} (h : a < nx) : Beh a nx [(a, o)] := fun p hp => by
  rw [List.mem_singleton] at hp
  subst hp
  exact ⟨Nat.le_refl _, h⟩
theorem pln_ints {ns : List Int} : ∀ t ∈ ns.map T.int, Pln t := fun t ht => by
  obtain ⟨i, _, e⟩ := List.mem_map.mp ht
  rw [← e]; exact pln_int i
inductive Dat : Nat → T → Prop
  | non {k} : Dat (k + 1) .non
  | bl {k} (b : Bool) : Dat (k + 1) (.bl b)
  | int {k} (i : Int) : Dat (k + 1) (.int i)
  | str {k} (x : Str) : (PyData.str x).canLay0 = true → Dat (k + 1) (.str x)
  | lst {k} {xs : List T} : xs.length ≤ 16777216 → (∀ x ∈ xs, Dat k x) → Dat (k + 1) (.lst xs)
  | tup {k} {xs : List T} : xs.length ≤ 16777216 → (∀ x ∈ xs, Dat k x) → Dat (k + 1) (.tup xs)
  | dic {k} {ks : List Key} {xs : List T} : ks.length ≤ 16777216 → ks.Nodup → ks.length = xs.length → (∀ x ∈ xs, Dat k x) → Dat (k + 1) (.dic ks xs)
@[simp] theorem vEq_bl {a b : Bool} {M : Sto} : kVw kEq0 (.bl a) (.bl b) M = .ok (.bl (a == b)) M := kVw_some (by show some (a == b) = _; rfl)
theorem vEq_str {x y : Str} {M : Sto} (hx : (PyData.str x).canLay0 = true) (hy : (PyData.str y).canLay0 = true) : kVw kEq0 (.str x) (.str y) M = .ok (.bl (x == y)) M := kVw_some (by
  have sh : ∀ {x : Str}, (PyData.str x).canLay0 = true → SeqAt.shaped (.str x) = true := fun {x} h => by
    show ((PyData.str x).canLay0 && decide ((PyData.str x).depth ≤ 64)) = true
    rw [h]; rfl
  show (if SeqAt.shaped (.str x) && SeqAt.shaped (.str y) then some (PyData.eqv (.str x) (.str y)) else none) = _
  rw [sh hx, sh hy]; rfl)
theorem vEq_non {M : Sto} : kVw kEq0 .non .non M = .ok (.bl true) M := kVw_some rfl
theorem zpL_self (ts : List T) : zpL ts ts = ts.map fun t => .tup [t, t] := by
  induction ts with
  | nil => rfl
  | cons t ts ih => show T.tup [t, t] :: zpL ts ts = _; rw [ih]; rfl
theorem kAll_true {α : Type} {l : List α} {M : Sto} : kAll [.lst (l.map fun _ => T.bl true)] M = .ok (.bl true) M := by
  have e : (l.map fun _ => T.bl true) = (l.map fun _ => true).map T.bl := by rw [List.map_map]; rfl
  rw [e, kAll_bls]
  congr 2
  rw [List.all_map]
  simp
theorem lkT_of : ∀ {ks : List Key} {xs : List T}, ks.length = xs.length → ∀ k ∈ ks, ∃ x ∈ xs, lkT k ks xs = some x
  | [], [], _, k, hk => nomatch hk
  | j :: ks, x :: xs, hl, k, hk => by
    by_cases e : j = k
    · exact ⟨x, List.mem_cons_self, by show (if j = k then some x else _) = _; rw [if_pos e]⟩
    · have hk' : k ∈ ks := by
        rcases List.mem_cons.mp hk with e2 | h
        · exact absurd e2.symm e
        · exact h
      obtain ⟨y, hy, h⟩ := lkT_of (ks := ks) (xs := xs) (by simpa using hl) k hk'
      exact ⟨y, List.mem_cons_of_mem _ hy, by show (if j = k then some x else lkT k ks xs) = _; rw [if_neg e]; exact h⟩
theorem toK_ofK (k : Key) : toK (ofK k) = some k := by cases k <;> rfl
@[simp] theorem kIsiT_run {cs : List Cl} {t : T} {M : Sto} : kIsiT cs t M = (match isC t M .int, isAny t M cs with | some _, some b => .ok (.bl b) M | _, _ => .stuck) := nr rfl
theorem comp_true {τ : Tau} {M : Sto} {g : Tg} {f : Ev T} {ts : List T} (h : ∀ t ∈ ts, ∃ τ', g t τ M = .ok τ' M ∧ f τ' M = .ok (.bl true) M) : compL g cYes f τ ts M = .ok (ts.map fun _ => .bl true) M :=
  compL_map h
theorem comp_ints {i : Nat} {f : Ev T} {τ : Tau} {M : Sto} {h : Int → T} {xs : List Int} (H : ∀ x ∈ xs, f (τ.set i (some (.int x))) M = .ok (h x) M) : compL (gN i) cYes f τ (xs.map T.int) M = .ok (xs.map h) M := by
  have := compL_map (g := gN i) (f := f) (τ := τ) (M := M) (h := fun t => match t with | .int x => h x | _ => .non) (ts := xs.map T.int) (fun t ht => by
    obtain ⟨x, hx, e⟩ := List.mem_map.mp ht
    subst e
    exact ⟨_, rfl, H x hx⟩)
  rw [this, List.map_map]
  rfl
theorem is_whole_int {i : Int} {M : Sto} : r_is_whole [.int i] M = .ok (.bl true) M := by
  simp [r_is_whole, fnRun, b_is_whole]
theorem is_count_int {i l : Int} {M : Sto} : r_is_count [.int i, .int l] M = .ok (.bl (decide (l ≤ i ∧ 0 ≤ i))) M := by
  have : decide ((if 0 > l then 0 else l) ≤ i) = decide (l ≤ i ∧ 0 ≤ i) := by
    by_cases h : 0 > l
    · rw [if_pos h]; congr 1; simp only [eq_iff_iff]; omega
    · rw [if_neg h]; congr 1; simp only [eq_iff_iff]; omega
  simp [r_is_count, fnRun, b_is_count, is_whole_int, this]
structure Pck (p : List Int) : Prop where
  pos : ∀ x ∈ p, 0 ≤ x
  nd : p.Nodup
  len : p.length ≤ 4000
theorem counts_run {i : Nat} {τ : Tau} {M : Sto} {p : List Int} (h : ∀ x ∈ p, 0 ≤ x) (hi : τ.length = i + 1) : compL (gN i) cYes (eCall 2 [.int 0] r_is_count (eCons (eVar i) eNil)) τ (p.map T.int) M = .ok (p.map fun _ => .bl true) M :=
  comp_ints (h := fun _ => .bl true) fun x hx => by simp [hi, is_count_int, h x hx]
theorem is_pack_run {p : List Int} {M : Sto} (h : Pck p) : r_is_pack [li p] M = .ok (.bl true) M := by
  have hl := h.len
  have e1 : p.length ≤ 16777216 := by omega
  simp [r_is_pack, fnRun, b_is_pack, wipeT, counts_run h.pos, kAll_true, e1, ndI_iff.mpr h.nd, hl]
theorem check_pack_run {p : List Int} {M : Sto} (h : Pck p) : r_check_pack [li p] M = .ok .non M := by
  simp [r_check_pack, fnRun, b_check_pack, is_pack_run h]
theorem rgI_sorted (n : Nat) : (rgI n).Pairwise (· ≤ ·) := by
  unfold rgI
  rw [List.pairwise_map]
  have := List.pairwise_lt_range (n := n)
  exact this.imp fun h => by omega
theorem srt_rg {p : List Int} {n : Nat} (h : p.Perm (rgI n)) : srtI p = rgI n := (srtI_eq h.symm (rgI_sorted n)).symm
theorem okRg_n {n : Nat} (h : n ≤ 4000) : okRg 0 (n : Int) = true := by
  unfold okRg
  simp only [Bool.and_eq_true, decide_eq_true_eq]
  omega
theorem pck_perm {p : List Int} {n : Nat} (h : p.Perm (rgI n)) (hn : n ≤ 4000) : Pck p :=
  ⟨fun x hx => (mem_rgI.mp (h.mem_iff.mp hx)).1, h.nodup_iff.mpr (rgI_nodup n), by rw [h.length_eq, rgI_length]; exact hn⟩
theorem is_move_there_run {p : List Int} {n : Nat} {M : Sto} (h : p.Perm (rgI n)) (hn : n ≤ 4000) : r_is_move_there [.int n, li p] M = .ok (.bl true) M := by
  have hp := pck_perm h hn
  have hl : p.length = n := by rw [h.length_eq, rgI_length]
  simp [r_is_move_there, fnRun, b_is_move_there, List.replicate, wipeT, counts_run hp.pos, kAll_true, hl, okRg_n hn, rgT_rgI, srt_rg h, show n ≤ 16777216 by omega]
theorem check_many_run {n : Int} {M : Sto} (h : 0 ≤ n) : r_check_many [.int n] M = .ok .non M := by
  simp [r_check_many, fnRun, b_check_many, is_count_int, h]
theorem whole_pack_run {n : Nat} {M : Sto} (hn : n ≤ 4000) : r_whole_pack [.int n] M = .ok (li (rgI n)) M := by
  simp [r_whole_pack, fnRun, b_whole_pack, check_many_run (Int.natCast_nonneg n), okRg_n hn, rgT_rgI]
/-! ### cuts -/
def rot {α : Type} (p : List α) (i : Nat) : List α := p.drop i ++ p.take i
theorem rot_length {α : Type} {p : List α} {i : Nat} : (rot p i).length = p.length := by
  simp only [rot, List.length_append, List.length_drop, List.length_take]; omega
theorem rot_perm {α : Type} {p : List α} {i : Nat} : (rot p i).Perm p := List.perm_append_comm.trans (by rw [List.take_append_drop])
theorem rot_map {α β : Type} {f : α → β} {p : List α} {i : Nat} : rot (p.map f) i = (rot p i).map f := by simp [rot]
theorem kMod_pos {i j : Int} {M : Sto} (h : 0 < j) : kMod (.int i) (.int j) M = .ok (.int (i % j)) M := if_pos h
theorem cut_there_run {p : List Int} {b : Int} {M : Sto} (hp : p ≠ []) (hl : p.length ≤ 4000) : r_cut_there [li p, .int b] M = .ok (li (rot p (b % p.length).toNat)) M := by
  have h1 : 0 < (p.length : Int) := by
    have := List.length_pos_iff.mpr hp
    omega
  have h2 : 0 ≤ b % (p.length : Int) := Int.emod_nonneg _ (by omega)
  have h4 : kVw kNe0 (li p) (.lst []) M = .ok (.bl true) M := by
    have := vNe_li (xs := p) (ys := []) (M := M)
    rw [decide_eq_false hp] at this
    exact this
  have h5 : p.length - (b % (p.length : Int)).toNat + min (b % (p.length : Int)).toNat p.length ≤ 16777216 := by omega
  simp [r_cut_there, fnRun, b_cut_there, h4, kMod_pos h1, cut_to h2, cut_from h2, rot, h5]
end TL
end
section
set_option Elab.async false
set_option linter.all false
set_option maxRecDepth 100000
set_option maxHeartbeats 0
/-! C97: what is shuffled. -/
namespace TL
open PySem PySem.Spec PyProof.Rows L2
@[simp] theorem sPar_run {i j : Nat} {fs : Ev (List T)} {τ : Tau} {M : Sto} : sPar i j fs τ M = (fs τ M).bind fun ts M' => match ts with | [t, u] => .ok (.nx ((τ.set i (some t)).set j (some u))) M' | _ => .stuck := nr rfl
theorem vNe_nil {l : List Int} {M : Sto} : kVw kNe0 (li l) (.lst []) M = .ok (.bl (!decide (l = []))) M := vNe_li (xs := l) (ys := [])
theorem drop_one {α : Type} {l : List α} {d : Nat} (h : d < l.length) : (l.take d ++ l.drop (d + 1)).length + 1 = l.length := by
  rw [List.length_append, List.length_take, List.length_drop]; omega
theorem drop_perm {l : List Int} {d : Nat} (h : d < l.length) : (l[d] :: (l.take d ++ l.drop (d + 1))).Perm l := by
  have e : l = l.take d ++ l[d] :: l.drop (d + 1) := by
    conv => lhs; rw [← List.take_append_drop d l]
    rw [List.drop_eq_getElem_cons h]
  conv => rhs; rw [e]
  exact List.perm_middle.symm
theorem shuffled_run {M : Sto} {n k : Nat} (h : Pu M n k) {ts : List Int} (hl : ts.length < 60) (hk : k < 900000) :
    Wp (r__law_shuffled [.ref n, li ts] M) fun t M' => ∃ us, t = li us ∧ us.Perm ts ∧ M' = PB M n (k + ts.length) [] (M.nx + 1) := by
  refine fn_all (seq_all' ?_)
  have e0 : M.add (.lst []) = PB M n k ([] ++ [(M.nx, .lst [])]) (M.nx + 1) := by
    have := PB_add (M := M) (n := n) (j := k) (r := []) (nx := M.nx) (o := .lst [])
    rw [← PB_self h] at this
    exact this
  have ek : kList [li ts] M = .ok (li ts) M := rfl
  simp only [List.map_cons, List.map_nil, List.length_cons, List.length_nil, List.replicate, List.cons_append, List.nil_append, sPar_run, eCons_run, eA_run, eVar_run, eNil_run, List.getElem?_cons_succ, List.getElem?_cons_zero, bind_ok, ek, eNew_run, eLst_run, Nat.zero_le, if_true, List.set_cons_succ, List.set_cons_zero, wp_ok, flS_nx]
  rw [e0]
  refine seq_all' ?_
  refine while_all (P := fun c τ M' => ∃ us left x, c = left.length ∧ (us ++ left).Perm ts ∧ τ = [some (.ref n), some (li ts), some (li left), some (.ref M.nx), x] ∧ M' = PB M n (k + us.length) [(M.nx, .lst (us.map T.int))] (M.nx + 1)) ?_ (k := ts.length) hl ⟨[], ts, none, rfl, by simp, rfl, rfl⟩
  intro c τ M1 ⟨us, left, x, ec, hpm, e, e2⟩
  subst e e2 ec
  have hul : us.length + left.length = ts.length := by simpa using hpm.length_eq
  have hg : ∀ j, (PB M n j [(M.nx, .lst (us.map T.int))] (M.nx + 1)).get M.nx = some (.lst (us.map T.int)) := fun j => by
    rw [PB_get h (Nat.le_refl _)]
    show (if Nat.beq M.nx M.nx = true then _ else _) = _
    rw [if_pos (Nat.beq_refl _)]
  simp only [eB_run, e2_run, eVar_run, List.getElem?_cons_succ, List.getElem?_cons_zero, bind_ok, eLst_run, eNil_run, List.length_nil, Nat.zero_le, if_true, vNe_nil, wp_ok]
  cases left with
  | nil =>
    simp only [decide_true, Bool.not_true, if_false, Bool.false_eq_true, flS_nx]
    rw [List.append_nil] at hpm
    simp only [sRet_run, eFrz_run, eVar_run, List.getElem?_cons_succ, List.getElem?_cons_zero, bind_ok, frz_ref (d := 4) (hg _) pln_ints, wp_ok, flS_nx, flS_rt, flV_nx, flV_rt, turn_nx, turn_rt]
    refine ⟨us, rfl, hpm, ?_⟩
    rw [PB_del h (Nat.le_refl _), hpm.length_eq]
    show PB M n _ (if Nat.beq M.nx M.nx = true then _ else _) _ = _
    rw [if_pos (Nat.beq_refl _)]
    rfl
  | cons a rest =>
    simp only [reduceCtorEq, decide_false, Bool.not_false, if_true]
    generalize hL : a :: rest = left at hpm hul
    have hpos : 0 < left.length := by rw [← hL]; simp
    refine ⟨left.length - 1, by omega, ?_⟩
    refine seq_all' ?_
    have hk0 : kLen [li left] (PB M n (k + us.length) [(M.nx, .lst (us.map T.int))] (M.nx + 1)) = .ok (.int left.length) (PB M n (k + us.length) [(M.nx, .lst (us.map T.int))] (M.nx + 1)) := by
      show Res.ok (T.int ((left.map T.int).length : Nat)) _ = _
      rw [List.length_map]
    simp only [sAsg_run, eCall_run, eCons_run, eVar_run, eA_run, eNil_run, List.getElem?_cons_succ, List.getElem?_cons_zero, bind_ok, hk0, List.length_cons, List.length_nil, List.append_nil, if_true, r__law_draw]
    rw [show rDraw [.ref n, .int (left.length : Nat)] (PB M n (k + us.length) [(M.nx, .lst (us.map T.int))] (M.nx + 1)) = .pick left.length fun d => .ok (.int (d : Nat)) (PB M n (k + us.length + 1) [(M.nx, .lst (us.map T.int))] (M.nx + 1)) from draw_run h (m := (left.length : Int)) (by omega) (by omega) (by omega)]
    simp only [bind_pick, bind_ok, gN_run, List.set_cons_succ, List.set_cons_zero, wp_pick, wp_ok, flS_nx]
    intro d hd
    refine seq_all' ?_
    have hix : ∀ M, kIx (li left) (.int (d : Nat)) M = .ok (.int left[d]) M := fun M => kIx_li (by omega) (by rw [Int.toNat_natCast, List.getElem?_map, List.getElem?_eq_getElem hd]; rfl)
    have hlu : (us.map T.int).length < 16777216 := by rw [List.length_map]; omega
    have ha : kApp (.ref M.nx) [.int left[d]] (PB M n (k + us.length + 1) [(M.nx, .lst (us.map T.int))] (M.nx + 1)) = .ok .non (PB M n (k + (us ++ [left[d]]).length) [(M.nx, .lst ((us ++ [left[d]]).map T.int))] (M.nx + 1)) := by
      simp only [kApp, hg]
      rw [if_pos hlu, PB_set h (Nat.le_refl _)]
      show Res.ok T.non (PB M n _ (if Nat.beq M.nx M.nx = true then _ else _) _) = _
      rw [if_pos (Nat.beq_refl _), List.map_append, List.length_append]
      rfl
    simp only [sExpr_run, eBm_run, eVar_run, List.getElem?_cons_succ, List.getElem?_cons_zero, bind_ok, isL_ref (hg _), if_true, eCons_run, e2_run, eNil_run, hix, ha, wp_ok, flS_nx]
    have hl1 : (left.take d ++ left.drop (d + 1)).length + 1 = left.length := drop_one hd
    have hadd : ∀ M, kAddL (li (left.take d)) (li (left.drop (d + 1))) M = .ok (li (left.take d ++ left.drop (d + 1))) M := fun M => by
      show (if ((left.take d).map T.int).length + ((left.drop (d + 1)).map T.int).length ≤ 16777216 then Res.ok (T.lst ((left.take d).map T.int ++ (left.drop (d + 1)).map T.int)) M else .stuck) = _
      rw [if_pos (by rw [List.length_map, List.length_map, ← List.length_append]; omega), ← List.map_append]
    have c1 : cutT (left.map T.int) none (some (d : Int)) = (left.take d).map T.int := by rw [cut_to (by omega), Int.toNat_natCast, List.map_take]
    have c2 : cutT (left.map T.int) (some ((d : Int) + 1)) none = (left.drop (d + 1)).map T.int := by rw [cut_from (by omega), show ((d : Int) + 1).toNat = d + 1 by omega, List.map_drop]
    simp only [sAsg_run, e2_run, eSl_run, eVar_run, List.getElem?_cons_succ, List.getElem?_cons_zero, bind_ok, eNone_run, ePart_run, kAddI_int, eC_run, c1, c2, hadd, gN_run, List.set_cons_succ, List.set_cons_zero, wp_ok, turn_nx]
    refine ⟨us ++ [left[d]], left.take d ++ left.drop (d + 1), some (.int (d : Nat)), by omega, ?_, rfl, rfl⟩
    rw [List.append_assoc]
    exact ((drop_perm hd).append_left us).trans hpm
end TL
end
section
set_option Elab.async false
set_option linter.all false
set_option maxRecDepth 100000
set_option maxHeartbeats 0
/-! E97: packs that are drawn. -/
namespace TL
open PySem PySem.Spec PyProof.Rows L2
def pairT (d : Int) : T := .tup [.int d, .bl true]
theorem pairs_run {M : Sto} {n k : Nat} (h : Pu M n k) {f : Ev T} {τ : Tau} {i : Nat} (hf : ∀ (t : T) (j : Nat), j < 1000000 → f (τ.set i (some t)) (PB M n j [] M.nx) = .pick 1000000 fun d => .ok (pairT (d : Nat)) (PB M n (j + 1) [] M.nx)) :
    ∀ (ts : List T) (j : Nat), j + ts.length < 1000000 → Wp (compL (gN i) cYes f τ ts (PB M n j [] M.nx)) fun us M' => ∃ ds : List Int, us = ds.map pairT ∧ ds.length = ts.length ∧ (∀ d ∈ ds, 0 ≤ d) ∧ M' = PB M n (j + ts.length) [] M.nx
  | [], j, _ => by
    show Wp (.ok [] _) _
    rw [wp_ok]
    exact ⟨[], rfl, rfl, fun d hd => absurd hd List.not_mem_nil, rfl⟩
  | t :: ts, j, hj => by
    rw [List.length_cons] at hj
    unfold compL
    simp only [gN_run, bind_ok, cYes]
    rw [if_pos True.intro]
    rw [hf t j (by omega)]
    simp only [bind_pick, bind_ok, wp_pick]
    intro d hd
    rw [wp_bind]
    refine (pairs_run h hf ts (j + 1) (by omega)).mono fun us M' ⟨ds, e, hl, hp, eM⟩ => ?_
    subst e eM
    rw [wp_ok]
    refine ⟨(d : Int) :: ds, rfl, by rw [List.length_cons, List.length_cons, hl], fun x hx => ?_, by rw [List.length_cons, show j + 1 + ts.length = j + (ts.length + 1) by omega]⟩
    rcases List.mem_cons.mp hx with e | hx
    · subst e; omega
    · exact hp x hx
theorem pairKs_ints : ∀ ds : List Int, pairKs (ds.map pairT) = some (ds.map fun d => (Sum.inl d, T.bl true))
  | [] => rfl
  | d :: r => by
    show (match toK (.int d), pairKs (r.map pairT) with | some k, some l => some ((k, T.bl true) :: l) | _, _ => none) = _
    rw [pairKs_ints r]; rfl
/-- the keys that a row of pairs leaves -/
theorem mrg_keys : ∀ (ds : List Int) (ks : List Int) (ts : List T), ks.Nodup → (∀ x ∈ ks, 0 ≤ x) → (∀ d ∈ ds, 0 ≤ d) →
    ∃ ns : List Int, (mrg (ks.map Sum.inl) ts (ds.map fun d => ((Sum.inl d : Key), T.bl true))).1 = ns.map Sum.inl ∧ ns.Nodup ∧ (∀ x ∈ ns, 0 ≤ x) ∧ ns.length ≤ ks.length + ds.length ∧ (ks ≠ [] ∨ ds ≠ [] → ns ≠ [])
  | [], ks, ts, nd, hp, _ => ⟨ks, rfl, nd, hp, Nat.le_add_right _ _, fun h => h.elim id fun h => absurd rfl h⟩
  | d :: ds, ks, ts, nd, hp, hd => by
    have hd0 := hd d List.mem_cons_self
    have hds : ∀ x ∈ ds, 0 ≤ x := fun x hx => hd x (List.mem_cons_of_mem _ hx)
    show ∃ ns : List Int, (mrg (putKs (Sum.inl d) (ks.map Sum.inl)) _ (ds.map fun d => ((Sum.inl d : Key), T.bl true))).1 = _ ∧ _
    by_cases h : hasK (Sum.inl d) (ks.map Sum.inl) = true
    · have hk : d ∈ ks := by
        obtain ⟨x, hx, e⟩ := List.mem_map.mp (hasK_iff.mp h)
        cases e; exact hx
      rw [show putKs (Sum.inl d) (ks.map Sum.inl) = ks.map Sum.inl from if_pos h]
      obtain ⟨ns, h1, h2, h3, h4, h5⟩ := mrg_keys ds ks (putTs (Sum.inl d) (T.bl true) (ks.map Sum.inl) ts) nd hp hds
      exact ⟨ns, h1, h2, h3, by rw [List.length_cons]; omega, fun _ => h5 (.inl fun e => by rw [e] at hk; cases hk)⟩
    · have hk : d ∉ ks := fun z => h (hasK_iff.mpr (List.mem_map_of_mem z))
      rw [show putKs (Sum.inl d) (ks.map Sum.inl) = (ks ++ [d]).map Sum.inl from by unfold putKs; rw [if_neg h, List.map_append]; rfl]
      obtain ⟨ns, h1, h2, h3, h4, h5⟩ := mrg_keys ds (ks ++ [d]) (putTs (Sum.inl d) (T.bl true) (ks.map Sum.inl) ts) (by
        rw [List.nodup_append]
        exact ⟨nd, by simp, fun a ha b hb e => by rw [List.mem_singleton] at hb; rw [e, hb] at ha; exact hk ha⟩) (fun x hx => by
        rcases List.mem_append.mp hx with hx | hx
        · exact hp x hx
        · rw [List.mem_singleton] at hx; rw [hx]; exact hd0) hds
      refine ⟨ns, h1, h2, h3, by rw [List.length_append] at h4; simp only [List.length_cons, List.length_nil] at h4 ⊢; omega, fun _ => h5 (.inl (by simp))⟩
theorem intKs_inl : ∀ ns : List Int, intKs (ns.map Sum.inl) = some ns
  | [] => rfl
  | n :: r => by
    show (match intKs (r.map Sum.inl) with | some l => some (n :: l) | none => none) = _
    rw [intKs_inl r]
theorem pow6 {M : Sto} : kPow (.int 10) (.int 6) M = .ok (.int 1000000) M := by
  have h : ∀ M : Sto, (match kPow (.int 10) (.int 6) M with | .ok (.int i) _ => decide (i = 1000000) | _ => false) = true := fun M => by
    show (match kPow (.int 10) (.int 6) M with | .ok (.int i) _ => decide (i = 1000000) | _ => false) = true
    rfl
  rfl
theorem PB_nx {M : Sto} {n j nx : Nat} {r : List (Nat × MO)} : (PB M n j r nx).nx = nx := rfl
theorem pu_PB {M : Sto} {n k j nx : Nat} (h : Pu M n k) (hx : M.nx ≤ nx) : Pu (PB M n j [] nx) n j := ⟨PB_purse h, fun i hi => by
  have hi : nx ≤ i := hi
  rw [PB_get h (by omega)]; rfl⟩
/-- a pack of up to 40 cards that is drawn -/
structure Drawn (M : Sto) (n k c : Nat) (M' : Sto) : Prop where
  ex : ∃ j nx, M' = PB M n j [] nx ∧ k ≤ j ∧ j ≤ k + c ∧ M.nx ≤ nx
theorem law_pack_run {M : Sto} {n k many : Nat} (h : Pu M n k) (h0 : 0 < many) (h1 : many ≤ 40) (hk : k < 800000) :
    Wp (r__law_pack [.ref n, .int many] M) fun t M' => ∃ p : List Int, t = li p ∧ Pck p ∧ p ≠ [] ∧ p.length ≤ many ∧ Drawn M n k 100 M' := by
  refine fn_all (seq_all' ?_)
  simp only [List.map_cons, List.map_nil, List.length_cons, List.length_nil, List.replicate, List.cons_append, List.nil_append, sAsg_run, eLrg1_run, eVar_run, List.getElem?_cons_succ, List.getElem?_cons_zero, bind_ok, okRg_n (show many ≤ 4000 by omega), if_true, Int.toNat_natCast, rgT_rgI, gN_run, List.set_cons_succ, List.set_cons_zero, wp_ok, flS_nx]
  refine seq_all' ?_
  have fin : ∀ (p : List Int) (j : Nat) (x3 : Option T), Pck p → p ≠ [] → p.length ≤ many → k ≤ j → j ≤ k + 50 → Wp (sRet (eCall 2 [] r__law_shuffled (eCons (eVar 0) (eCons (eVar 2) eNil))) [some (.ref n), some (.int many), some (li p), x3] (PB M n j [] M.nx)) (FlV fun t M' => ∃ p : List Int, t = li p ∧ Pck p ∧ p ≠ [] ∧ p.length ≤ many ∧ Drawn M n k 100 M') := by
    intro p j x3 pk hne hpl hj hj2
    simp only [sRet_run, eCall_run, eCons_run, eVar_run, eNil_run, List.getElem?_cons_succ, List.getElem?_cons_zero, bind_ok, List.length_cons, List.length_nil, List.append_nil, if_true]
    rw [wp_bind]
    refine (shuffled_run (pu_PB (j := j) h (Nat.le_refl _)) (show p.length < 60 by omega) (by omega)).mono fun t M' ⟨us, e, hp, eM⟩ => ?_
    subst e eM
    rw [wp_ok, flV_rt]
    refine ⟨us, rfl, ⟨fun x hx => pk.pos x (hp.mem_iff.mp hx), hp.nodup_iff.mpr pk.nd, by rw [hp.length_eq]; exact pk.len⟩, fun e => hne (by rw [e] at hp; exact List.nil_perm.mp hp), by rw [hp.length_eq]; exact hpl, ⟨_, _, PB_PB h, by omega, by omega, by rw [PB_nx]; omega⟩⟩
  have pkr : Pck (rgI many) := pck_perm (.refl _) (by omega)
  have hrl : (rgI many).length = many := rgI_length many
  have hrne : rgI many ≠ [] := fun e => by rw [e] at hrl; simp at hrl; omega
  have hd2 : rDraw [.ref n, .int 2] M = .pick 2 fun d => .ok (.int (d : Nat)) (PB M n (k + 1) [] M.nx) := by
    conv => lhs; rw [PB_self h]
    exact draw_run h (m := 2) (by omega) (by omega) (by omega)
  simp only [sIf_run, eB_run, e2_run, eCall_run, eCons_run, eVar_run, eC_run, eNil_run, List.getElem?_cons_succ, List.getElem?_cons_zero, bind_ok, List.length_cons, List.length_nil, List.append_nil, if_true, r__law_draw, hd2, bind_pick, vEq_int, wp_pick]
  intro d hd
  by_cases hd0 : d = 0
  · subst hd0
    simp only [Int.ofNat_zero, Int.natCast_zero, decide_true, if_true, sAsg_run, eA_run, eCons_run, eNil_run, eComp_run, iRg1_run, eVar_run, List.getElem?_cons_succ, List.getElem?_cons_zero, bind_ok]
    rw [if_pos ⟨by omega, by omega⟩]
    simp only [bind_ok, Int.toNat_natCast, rgT_length]
    rw [if_pos (by omega)]
    simp only [wp_bind]
    refine (pairs_run h (f := eTup (eCons (eCall 2 [] rDraw (eCons (eVar 0) (eCons (e2 kPow (eC (.int 10)) (eC (.int 6))) eNil))) (eCons (eC (.bl true)) eNil))) (τ := wipeT [some (.ref n), some (.int many), some (li (rgI many)), none] [3]) (i := 3) ?_ (rgT 0 many) (k + 1) (by rw [rgT_length]; omega)).mono fun us M' ⟨ds, e, hl, hp, eM⟩ => ?_
    · intro t j hj
      simp only [wipeT, eTup_run, eCons_run, eCall_run, eVar_run, e2_run, eC_run, eNil_run, List.set_cons_succ, List.set_cons_zero, List.getElem?_cons_succ, List.getElem?_cons_zero, bind_ok, pow6, List.length_cons, List.length_nil, List.append_nil, if_true]
      rw [show rDraw [.ref n, .int 1000000] (PB M n j [] M.nx) = .pick 1000000 fun d => .ok (.int (d : Nat)) (PB M n (j + 1) [] M.nx) from draw_run h (m := 1000000) (by omega) (by omega) hj]
      rfl
    · subst e eM
      rw [rgT_length] at hl ⊢
      simp only [wp_ok]
      obtain ⟨ns, m1, m2, m3, m4, m5⟩ := mrg_keys ds [] [] List.nodup_nil (fun x hx => absurd hx List.not_mem_nil) hp
      have hns : ns ≠ [] := m5 (.inr fun e => by rw [e] at hl; simp at hl; omega)
      simp only [List.length_nil, Nat.zero_add] at m4
      have e1 : ∀ M, kDictP [.lst (ds.map pairT)] M = .ok (.dic (mrg [] [] (ds.map fun d => ((Sum.inl d : Key), T.bl true))).1 (mrg [] [] (ds.map fun d => ((Sum.inl d : Key), T.bl true))).2) M := fun M => by
        show (match pairKs (ds.map pairT) with | some kts => Res.ok (T.dic (mrg [] [] kts).1 (mrg [] [] kts).2) M | none => .stuck) = _
        rw [pairKs_ints]
      have m1 : (mrg [] [] (ds.map fun d => ((Sum.inl d : Key), T.bl true))).1 = ns.map Sum.inl := m1
      have e2 : ∀ xs M, kSorted [.dic (ns.map Sum.inl) xs] M = .ok (li (srtI ns)) M := fun xs M => by
        show (match intKs (ns.map Sum.inl) with | some ns => (if ns.length < 64 then Res.ok (T.lst ((srtI ns).map T.int)) M else .stuck) | none => .stuck) = _
        rw [intKs_inl]
        exact if_pos (by omega)
      simp only [e1, m1, wp_ok, bind_ok, e2, gN_run, List.set_cons_succ, List.set_cons_zero, flS_nx]
      have sp := srtI_perm ns
      exact fin (srtI ns) _ _ ⟨fun x hx => m3 x (sp.mem_iff.mp hx), sp.nodup_iff.mpr m2, by rw [sp.length_eq]; omega⟩ (fun e => hns (by rw [e] at sp; exact List.nil_perm.mp sp)) (by rw [sp.length_eq]; omega) (by omega) (by omega)
  · have : decide ((d : Int) = 0) = false := decide_eq_false (by omega)
    simp only [this, if_false, Bool.false_eq_true, sNil_run, wp_ok, flS_nx]
    exact fin (rgI many) (k + 1) _ pkr hrne (by omega) (by omega) (by omega)
end TL
end
section
set_option Elab.async false
set_option linter.all false
set_option maxRecDepth 100000
set_option maxHeartbeats 0
/-! F97: heaps, columns, moves of k97. -/
namespace TL
open PySem PySem.Spec PyProof.Rows L2
def cnt (n i k : Nat) : Nat := (n - i - 1) / k + 1
def every {α : Type} [Inhabited α] (k i : Nat) (h : List α) : List α := (List.range (cnt h.length i k)).map fun t => (h[i + t * k]?).getD default
theorem idx_lt {n i k t : Nat} (hi : i < n) (ht : t < cnt n i k) : i + t * k < n := by
  unfold cnt at ht
  have h1 : t ≤ (n - i - 1) / k := by omega
  have h2 := Nat.mul_le_mul_right k h1
  have h3 := Nat.div_mul_le_self (n - i - 1) k
  omega
theorem every_map {α β : Type} [Inhabited α] [Inhabited β] {f : α → β} {k i : Nat} {h : List α} (hi : i < h.length) : every k i (h.map f) = (every k i h).map f := by
  unfold every
  rw [List.map_map, List.length_map]
  refine List.map_congr_left fun t ht => ?_
  have := idx_lt hi (List.mem_range.mp ht)
  simp [List.getElem?_eq_getElem this]
theorem pick_every {α : Type} [Inhabited α] {p : List α} {i k : Nat} (hi : i < p.length) (hk : 0 < k) : pickV p (some (i : Int)) none (some (k : Int)) = every k i p := by
  have hb : sliceBounds (some (i : Int)) none (some (k : Int)) p.length = ((i : Int), (p.length : Int), (k : Int)) := by
    unfold sliceBounds
    simp only [Option.getD_some, if_neg (show ¬ (i : Int) < 0 by omega), if_pos (show (k : Int) > 0 by omega)]
    congr 1
    omega
  have hs : stepIx (some (i : Int)) none (some (k : Int)) p.length = (List.range (cnt p.length i k)).map fun t => i + t * k := by
    unfold stepIx
    rw [hb]
    show sliceRange (i : Int) (p.length : Int) (k : Int) = _
    unfold sliceRange
    simp only [if_pos (show (k : Int) > 0 by omega), if_pos (show (i : Int) < (p.length : Int) by omega)]
    have e1 : (((p.length : Int) - i + k - 1) / k).toNat = cnt p.length i k := by
      have : (p.length : Int) - i + k - 1 = ((p.length - i - 1 : Nat) : Int) + k := by omega
      rw [this, Int.add_ediv_of_dvd_right (Int.dvd_refl _), Int.ediv_self (by omega)]
      unfold cnt
      norm_cast
    rw [e1]
    refine List.map_congr_left fun t _ => ?_
    have : (i : Int) + (k : Int) * (t : Int) = ((i + t * k : Nat) : Int) := by push_cast; rw [Int.mul_comm]
    rw [this, Int.toNat_natCast]
  unfold pickV
  rw [hs]
  unfold every
  rw [List.filterMap_map]
  have : ∀ l : List Nat, (∀ t ∈ l, i + t * k < p.length) → l.filterMap ((fun x => p[x]?) ∘ fun t => i + t * k) = l.map fun t => (p[i + t * k]?).getD default := fun l => by
    induction l with
    | nil => intro _; rfl
    | cons t l ih =>
      intro h
      have ht := h t List.mem_cons_self
      rw [List.filterMap_cons_some (b := p[i + t * k]) (by simp [List.getElem?_eq_getElem ht]), ih fun u hu => h u (List.mem_cons_of_mem _ hu)]
      simp [List.getElem?_eq_getElem ht]
  exact this _ fun t ht => idx_lt hi (List.mem_range.mp ht)
theorem comp_rg0 {i : Nat} {f : Ev T} {τ : Tau} {M : Sto} {h : Nat → T} {n : Nat} (H : ∀ x < n, f (τ.set i (some (.int (x : Nat)))) M = .ok (h x) M) : compL (gN i) cYes f τ (rgT 0 n) M = .ok ((List.range n).map h) M := by
  rw [rgT_rgI, comp_ints (h := fun x => h x.toNat) fun x hx => ?_]
  · unfold rgI
    rw [List.map_map]
    congr 2
  · obtain ⟨h1, h2⟩ := mem_rgI.mp hx
    have e : x = ((x.toNat : Nat) : Int) := by omega
    have := H x.toNat (by omega)
    rwa [← e] at this
abbrev lr (rows : List (List Int)) : T := .lst (rows.map fun r => T.lst (r.map T.int))
theorem check_heaps_run {k : Nat} {M : Sto} (h : 0 < k) : r_check_heaps [.int k] M = .ok .non M := by
  have h1 : decide ((1 : Int) ≤ (k : Int) ∧ 0 ≤ (k : Int)) = true := decide_eq_true (by omega)
  simp only [r_check_heaps, fnRun, b_check_heaps, List.replicate, List.map_cons, List.map_nil, List.length_cons, List.length_nil, List.cons_append, List.nil_append, sIf_run, eNot_run, eB_run, eCall_run, eCons_run, eVar_run, eC_run, eNil_run, List.getElem?_cons_zero, bind_ok, List.append_nil, if_true, is_count_int, h1, Bool.not_true, Bool.false_eq_true, if_false, sNil_run]
theorem deals_many_run {k : Nat} {M : Sto} : r_deals_check_many [.int k] M = .ok .non M := by
  simp [r_deals_check_many, fnRun, b_deals_check_many, is_count_int]
theorem is_order_run {p : List Int} {n : Nat} {M : Sto} (h : p.Perm (rgI n)) (hn : n ≤ 4000) : r_is_order [.int n, li p] M = .ok (.bl true) M := by
  have hp := pck_perm h hn
  have hl : p.length = n := by rw [h.length_eq, rgI_length]
  simp [r_is_order, fnRun, b_is_order, List.replicate, wipeT, counts_run hp.pos, kAll_true, hl, okRg_n hn, rgT_rgI, srt_rg h, show n ≤ 16777216 by omega]
def lotAt (rows : List (List Int)) (i : Int) : List Int := (rows[i.toNat]?).getD []
def catO (rows : List (List Int)) (ord : List Int) : List Int := ord.flatMap (lotAt rows)
theorem comp1A_run {τ : Tau} {M : Sto} (hτ : τ.length = 6) : ∀ {r acc : List Int}, acc.length + r.length ≤ 16777216 → comp1A (gN 5) cYes (eVar 5) τ (r.map T.int) (acc.map T.int) M = .ok ((acc ++ r).map T.int) M
  | [], acc, _ => by simp [comp1A]
  | x :: r, acc, h => by
    have ih := comp1A_run hτ (r := r) (acc := acc ++ [x]) (M := M) (by simp at h ⊢; omega)
    have hl : (acc.map T.int).length < 16777216 := by simp at h ⊢; omega
    match τ, hτ with
    | [a, b, c, d, e, f], _ =>
      rw [List.map_cons]
      unfold comp1A
      simp only [gN_run, bind_ok, cYes_run, if_true, eVar_run, List.set_cons_succ, List.set_cons_zero, List.getElem?_cons_succ, List.getElem?_cons_zero, if_pos hl]
      rw [List.map_append, List.map_cons, List.map_nil] at ih
      rw [ih]
      simp
theorem comp2A_run {rows : List (List Int)} {M : Sto} {x0 x1 x2 : Option T} : ∀ {ord acc : List Int}, (∀ i ∈ ord, 0 ≤ i ∧ i < rows.length) → acc.length + (catO rows ord).length ≤ 16777216 →
    comp2A (gN 4) cYes (iLst (e2 kIx (eVar 3) (eVar 4))) (gN 5) cYes (eVar 5) [5] [x0, x1, x2, some (lr rows), none, none] (ord.map T.int) (acc.map T.int) M = .ok ((acc ++ catO rows ord).map T.int) M
  | [], acc, _, _ => by simp [comp2A, catO]
  | i :: ord, acc, h, hl => by
    obtain ⟨h0, h1⟩ := h i List.mem_cons_self
    have hlt : i.toNat < rows.length := by omega
    have e1 : lotAt rows i = rows[i.toNat] := by unfold lotAt; rw [List.getElem?_eq_getElem hlt]; rfl
    have hix : kIx (lr rows) (.int i) M = .ok (li rows[i.toNat]) M := kIx_li h0 (by simp [List.getElem?_eq_getElem hlt])
    have ec : catO rows (i :: ord) = rows[i.toNat] ++ catO rows ord := by unfold catO; rw [List.flatMap_cons, e1]
    rw [ec, List.length_append] at hl
    have c1 := comp1A_run (τ := [x0, x1, x2, some (lr rows), some (.int i), none]) (M := M) rfl (r := rows[i.toNat]) (acc := acc) (by omega)
    have ih := comp2A_run (rows := rows) (M := M) (x0 := x0) (x1 := x1) (x2 := x2) (ord := ord) (acc := acc ++ rows[i.toNat]) (fun j hj => h j (List.mem_cons_of_mem _ hj)) (by rw [List.length_append]; omega)
    rw [List.map_cons]
    unfold comp2A
    simp only [gN_run, bind_ok, cYes_run, if_true, iLst_run, e2_run, eVar_run, List.set_cons_succ, List.set_cons_zero, List.getElem?_cons_succ, List.getElem?_cons_zero, hix, wipeT, c1]
    rw [ih, ec, List.append_assoc]
theorem getD_rg {p : List Int} : (rgI p.length).map (fun x => (p[x.toNat]?).getD 0) = p := by
  apply List.ext_getElem
  · simp [rgI_length]
  · intro i h1 h2
    simp [rgI, h2]
theorem div_split {n i k x : Nat} (hk : 0 < k) (hx : x < n) (hi : x % k = i) : ∃ t, t < cnt n i k ∧ i + t * k = x := by
  refine ⟨x / k, ?_, ?_⟩
  · unfold cnt
    have h1 := Nat.div_add_mod x k
    have h2 : x / k * k ≤ n - i - 1 := by rw [Nat.mul_comm]; omega
    have := (Nat.le_div_iff_mul_le hk).mpr h2
    omega
  · rw [← hi, Nat.mul_comm]
    have := Nat.div_add_mod x k
    omega
theorem mem_every_rg {n k i : Nat} (hk : 0 < k) (hi : i < k) (hin : i < n) {x : Int} : x ∈ every k i (rgI n) ↔ 0 ≤ x ∧ x < n ∧ x.toNat % k = i := by
  unfold every
  rw [List.mem_map]
  rw [rgI_length]
  constructor
  · rintro ⟨t, ht, e⟩
    have hlt := idx_lt hin (List.mem_range.mp ht)
    have : (rgI n)[i + t * k]? = some ((i + t * k : Nat) : Int) := by simp [rgI, hlt]
    rw [this] at e
    have e : ((i + t * k : Nat) : Int) = x := e
    refine ⟨by omega, by omega, ?_⟩
    have : x.toNat = i + t * k := by omega
    rw [this, Nat.add_mul_mod_self_right]
    exact Nat.mod_eq_of_lt hi
  · rintro ⟨h0, h1, h2⟩
    obtain ⟨t, ht, e⟩ := div_split hk (show x.toNat < n by omega) h2
    refine ⟨t, List.mem_range.mpr ht, ?_⟩
    rw [e]
    have : (rgI n)[x.toNat]? = some x := by
      have : x.toNat < n := by omega
      simp [rgI, this]; omega
    rw [this]; rfl
theorem nodup_every {n k i : Nat} (hk : 0 < k) (hin : i < n) : (every k i (rgI n)).Nodup := by
  unfold every
  rw [List.Nodup, List.pairwise_map, rgI_length]
  have := List.nodup_range (n := cnt n i k)
  rw [List.Nodup] at this
  refine List.Pairwise.imp_of_mem (fun {a b} ha hb h e => h ?_) this
  have l1 := idx_lt hin (List.mem_range.mp ha)
  have l2 := idx_lt hin (List.mem_range.mp hb)
  have e1 : (rgI n)[i + a * k]? = some ((i + a * k : Nat) : Int) := by simp [rgI, l1]
  have e2 : (rgI n)[i + b * k]? = some ((i + b * k : Nat) : Int) := by simp [rgI, l2]
  rw [e1, e2] at e
  have e : ((i + a * k : Nat) : Int) = ((i + b * k : Nat) : Int) := e
  have e : a * k = b * k := by omega
  exact Nat.eq_of_mul_eq_mul_right hk e
theorem moved_run {p mv : List Int} {M : Sto} (h : Pck p) (hm : mv.Perm (rgI p.length)) : r_moved [li p, li mv] M = .ok (li (mv.map fun x => (p[x.toNat]?).getD 0)) M := by
  have hl : mv.length ≤ 16777216 := by rw [hm.length_eq, rgI_length]; have := h.len; omega
  have hc : compL (gN 2) cYes (e2 kIx (eVar 0) (eVar 2)) [some (li p), some (li mv), none] (mv.map T.int) M = .ok (mv.map fun x => T.int ((p[x.toNat]?).getD 0)) M := comp_ints fun x hx => by
    obtain ⟨h0, h1⟩ := mem_rgI.mp (hm.mem_iff.mp hx)
    have hlt : x.toNat < p.length := by omega
    have : kIx (li p) (.int x) M = .ok (.int p[x.toNat]) M := kIx_li h0 (by simp [hlt])
    simp [this, hlt]
  have ht : r_moved_there [li p, li mv] M = .ok (li (mv.map fun x => (p[x.toNat]?).getD 0)) M := by
    simp only [r_moved_there, fnRun, b_moved_there, List.replicate, List.map_cons, List.map_nil, List.length_cons, List.length_nil, List.cons_append, List.nil_append, sRet_run, eComp_run, iLst_run, eVar_run, List.getElem?_cons_zero, List.getElem?_cons_succ, bind_ok, List.length_map, if_pos hl, wipeT, List.set_cons_zero, List.set_cons_succ, hc, li, List.map_map]
    rfl
  simp only [r_moved, fnRun, b_moved, List.replicate, List.map_cons, List.map_nil, List.length_cons, List.length_nil, List.cons_append, List.nil_append, sSeq_run, sExpr_run, eCall_run, eCons_run, eVar_run, eNil_run, eA_run, List.getElem?_cons_zero, List.getElem?_cons_succ, bind_ok, List.append_nil, if_true, check_pack_run h, sIf_run, eNot_run, eB_run, kLen_lst, List.length_map, is_move_there_run hm h.len, Bool.not_true, Bool.false_eq_true, if_false, sNil_run, sRet_run, ht]
/-- the items at i, i + k, .., for every i -/
def evr {α : Type} [Inhabited α] (k i : Nat) (h : List α) : List α := if i < h.length then every k i h else []
theorem evr_map {α β : Type} [Inhabited α] [Inhabited β] {f : α → β} {k i : Nat} {h : List α} : evr k i (h.map f) = (evr k i h).map f := by
  unfold evr
  rw [List.length_map]
  by_cases hi : i < h.length
  · rw [if_pos hi, if_pos hi, every_map hi]
  · rw [if_neg hi, if_neg hi]; rfl
theorem pick_evr {α : Type} [Inhabited α] {p : List α} {i k : Nat} (hk : 0 < k) : pickV p (some (i : Int)) none (some (k : Int)) = evr k i p := by
  unfold evr
  by_cases hi : i < p.length
  · rw [if_pos hi, pick_every hi hk]
  · rw [if_neg hi]
    have hs : stepIx (some (i : Int)) none (some (k : Int)) p.length = [] := by
      unfold stepIx
      have hb : sliceBounds (some (i : Int)) none (some (k : Int)) p.length = ((p.length : Int), (p.length : Int), (k : Int)) := by
        unfold sliceBounds
        simp only [Option.getD_some, if_neg (show ¬ (i : Int) < 0 by omega), if_pos (show (k : Int) > 0 by omega)]
        congr 1
        omega
      rw [hb]
      show sliceRange (p.length : Int) (p.length : Int) (k : Int) = _
      unfold sliceRange
      simp only [if_pos (show (k : Int) > 0 by omega)]
      have : ¬ ((p.length : Int) < (p.length : Int)) := by omega
      simp [this]
    unfold pickV
    rw [hs]; rfl
theorem mem_evr_rg {n k i : Nat} (hk : 0 < k) (hi : i < k) {x : Int} : x ∈ evr k i (rgI n) ↔ 0 ≤ x ∧ x < n ∧ x.toNat % k = i := by
  unfold evr
  rw [rgI_length]
  by_cases hin : i < n
  · rw [if_pos hin, mem_every_rg hk hi hin]
  · rw [if_neg hin]
    refine ⟨fun h => absurd h List.not_mem_nil, fun ⟨h0, h1, h2⟩ => ?_⟩
    have : x.toNat < k := by omega
    rw [Nat.mod_eq_of_lt this] at h2
    omega
theorem nodup_evr {n k i : Nat} (hk : 0 < k) : (evr k i (rgI n)).Nodup := by
  unfold evr
  rw [rgI_length]
  by_cases hin : i < n
  · rw [if_pos hin]; exact nodup_every hk hin
  · rw [if_neg hin]; exact List.nodup_nil
def cols (k : Nat) (p : List Int) : List (List Int) := (List.range k).map fun i => evr k i p
def hps (k : Nat) (p : List Int) : List (List Int) := (List.range k).map fun i => (evr k i p).reverse
theorem cols_length {k : Nat} {p : List Int} : (cols k p).length = k := by simp [cols]
theorem hps_length {k : Nat} {p : List Int} : (hps k p).length = k := by simp [hps]
theorem lotAt_cols {k : Nat} {p : List Int} {i : Int} (h0 : 0 ≤ i) (h1 : i < k) : lotAt (cols k p) i = evr k i.toNat p := by
  unfold lotAt cols
  have : i.toNat < k := by omega
  simp [this]
theorem lotAt_hps {k : Nat} {p : List Int} {i : Int} (h0 : 0 ≤ i) (h1 : i < k) : lotAt (hps k p) i = (evr k i.toNat p).reverse := by
  unfold lotAt hps
  have : i.toNat < k := by omega
  simp [this]
theorem evr_perm {n k : Nat} {ord : List Int} {rows : List (List Int)} (hk : 0 < k) (ho : ord.Perm (rgI k)) (hr : ∀ i : Int, 0 ≤ i → i < k → (lotAt rows i).Perm (evr k i.toNat (rgI n))) : (catO rows ord).Perm (rgI n) := by
  refine (ho.flatMap_right (lotAt rows)).trans ?_
  have hl : ∀ i ∈ rgI k, 0 ≤ i ∧ i < (k : Int) := fun i hi => mem_rgI.mp hi
  rw [List.perm_ext_iff_of_nodup ?_ (rgI_nodup n)]
  · intro x
    rw [List.mem_flatMap, mem_rgI]
    constructor
    · rintro ⟨i, hi, hx⟩
      obtain ⟨h0, h1⟩ := hl i hi
      rw [(hr i h0 h1).mem_iff, mem_evr_rg hk (by omega)] at hx
      exact ⟨hx.1, hx.2.1⟩
    · rintro ⟨h0, h1⟩
      have hlt := Nat.mod_lt x.toNat hk
      refine ⟨((x.toNat % k : Nat) : Int), mem_rgI.mpr ⟨by omega, by omega⟩, ?_⟩
      rw [(hr _ (by omega) (by omega)).mem_iff, Int.toNat_natCast, mem_evr_rg hk hlt]
      exact ⟨h0, h1, rfl⟩
  · rw [List.Nodup, List.pairwise_flatMap]
    constructor
    · intro i hi
      obtain ⟨h0, h1⟩ := hl i hi
      exact (hr i h0 h1).nodup_iff.mpr (nodup_evr hk)
    · refine List.Pairwise.imp_of_mem (fun {i j} hi hj h x hx y hy e => h ?_) (rgI_nodup k)
      obtain ⟨h0, h1⟩ := hl i hi
      obtain ⟨g0, g1⟩ := hl j hj
      rw [(hr i h0 h1).mem_iff, mem_evr_rg hk (by omega)] at hx
      rw [(hr j g0 g1).mem_iff, mem_evr_rg hk (by omega)] at hy
      subst e
      have := hx.2.2.symm.trans hy.2.2
      omega
theorem cols_perm {n k : Nat} {ord : List Int} (hk : 0 < k) (ho : ord.Perm (rgI k)) : (catO (cols k (rgI n)) ord).Perm (rgI n) :=
  evr_perm hk ho fun i h0 h1 => by rw [lotAt_cols h0 h1]
theorem hps_perm {n k : Nat} {ord : List Int} (hk : 0 < k) (ho : ord.Perm (rgI k)) : (catO (hps k (rgI n)) ord).Perm (rgI n) :=
  evr_perm hk ho fun i h0 h1 => by rw [lotAt_hps h0 h1]; exact List.reverse_perm _
theorem catO_map {p : List Int} {k : Nat} {ord : List Int} (ho : ∀ i ∈ ord, 0 ≤ i ∧ i < k) : (catO (hps k (rgI p.length)) ord).map (fun x => (p[x.toNat]?).getD 0) = catO (hps k p) ord := by
  unfold catO
  rw [List.map_flatMap]
  have : ∀ l : List Int, (∀ i ∈ l, 0 ≤ i ∧ i < k) → l.flatMap (fun a => (lotAt (hps k (rgI p.length)) a).map fun x => (p[x.toNat]?).getD 0) = l.flatMap (lotAt (hps k p)) := fun l => by
    induction l with
    | nil => intro _; rfl
    | cons i l ih =>
      intro h
      obtain ⟨h0, h1⟩ := h i List.mem_cons_self
      rw [List.flatMap_cons, List.flatMap_cons, ih fun j hj => h j (List.mem_cons_of_mem _ hj), lotAt_hps h0 h1, lotAt_hps h0 h1, List.map_reverse, ← evr_map, getD_rg]
  exact this ord ho
/-- heaps joined, turned about, are columns joined the other way -/
theorem hps_about {n k : Nat} {p : List Int} : ∀ {ord : List Int}, (∀ i ∈ ord, 0 ≤ i ∧ i < (k : Int)) → (catO (hps k p) ord).reverse = catO (cols k p) ord.reverse
  | [], _ => rfl
  | i :: r, h => by
    obtain ⟨h0, h1⟩ := h i List.mem_cons_self
    have ih := hps_about (n := n) (p := p) (ord := r) fun j hj => h j (List.mem_cons_of_mem _ hj)
    unfold catO at ih ⊢
    rw [List.flatMap_cons, List.reverse_append, ih, List.reverse_cons, List.flatMap_append, lotAt_hps h0 h1, List.reverse_reverse]
    simp [lotAt_cols h0 h1]
end TL
end
section
set_option Elab.async false
set_option linter.all false
set_option maxRecDepth 100000
set_option maxHeartbeats 0
/-! H97: what the functions of heaps and moves tell. -/
namespace TL
open PySem PySem.Spec PyProof.Rows L2
theorem slSt_evr {p : List Int} {i k : Nat} (hk : 0 < k) : pickV (p.map T.int) (some (i : Int)) none (some (k : Int)) = (evr k i p).map T.int := by
  have : ∀ (is : List Nat), is.filterMap (fun x => (p.map T.int)[x]?) = (is.filterMap fun x => p[x]?).map T.int := fun is => by
    induction is with
    | nil => rfl
    | cons a is ih =>
      cases h : p[a]? with
      | none => rw [List.filterMap_cons_none (by simp [h]), List.filterMap_cons_none h, ih]
      | some x => rw [List.filterMap_cons_some (b := T.int x) (by simp [h]), List.filterMap_cons_some h, ih]; rfl
  rw [← pick_evr (p := p) (i := i) hk]
  unfold pickV
  rw [List.length_map]
  exact this _
theorem heaps_there_run {p : List Int} {k : Nat} {M : Sto} (hk : 0 < k) (hk2 : k ≤ 4000) : r_heaps_there [li p, .int k] M = .ok (lr (hps k p)) M := by
  have hbig : (k : Int) < 4611686018427387904 ∧ (-4611686018427387904 : Int) ≤ k := by omega
  have hk0 : ¬ k = 0 := by omega
  have hc : compL (gN 2) cYes (e1 kRev (eSlSt (eVar 0) (ePart (eVar 2)) eNone (ePart (eVar 1)))) [some (li p), some (.int k), none] (rgT 0 k) M = .ok ((List.range k).map fun i => li (evr k i p).reverse) M := comp_rg0 fun i hi => by
    simp [eSlSt, hk0, slSt_evr hk, List.map_reverse]
  simp only [r_heaps_there, fnRun, b_heaps_there, List.replicate, List.map_cons, List.map_nil, List.length_cons, List.length_nil, List.cons_append, List.nil_append, sRet_run, eComp_run, iRg1_run, eVar_run, List.getElem?_cons_zero, List.getElem?_cons_succ, bind_ok, if_pos hbig, Int.toNat_natCast, rgT_length, if_pos (show k ≤ 16777216 by omega), wipeT, List.set_cons_zero, List.set_cons_succ, hc]
  unfold hps lr
  rw [List.map_map]
  rfl
theorem columns_there_run {p : List Int} {k : Nat} {M : Sto} (hk : 0 < k) (hk2 : k ≤ 4000) : r_columns_there [li p, .int k] M = .ok (lr (cols k p)) M := by
  have hbig : (k : Int) < 4611686018427387904 ∧ (-4611686018427387904 : Int) ≤ k := by omega
  have hk0 : ¬ k = 0 := by omega
  have hc : compL (gN 2) cYes (eSlSt (eVar 0) (ePart (eVar 2)) eNone (ePart (eVar 1))) [some (li p), some (.int k), none] (rgT 0 k) M = .ok ((List.range k).map fun i => li (evr k i p)) M := comp_rg0 fun i hi => by
    simp [eSlSt, hk0, slSt_evr hk]
  simp only [r_columns_there, fnRun, b_columns_there, List.replicate, List.map_cons, List.map_nil, List.length_cons, List.length_nil, List.cons_append, List.nil_append, sRet_run, eComp_run, iRg1_run, eVar_run, List.getElem?_cons_zero, List.getElem?_cons_succ, bind_ok, if_pos hbig, Int.toNat_natCast, rgT_length, if_pos (show k ≤ 16777216 by omega), wipeT, List.set_cons_zero, List.set_cons_succ, hc]
  unfold cols lr
  rw [List.map_map]
  rfl
theorem heaps_check_run {k : Nat} {M : Sto} (h : 0 < k) : r_heaps_check_heaps [.int k] M = .ok .non M := by
  have h1 : decide ((1 : Int) ≤ (k : Int) ∧ 0 ≤ (k : Int)) = true := decide_eq_true (by omega)
  simp only [r_heaps_check_heaps, fnRun, b_heaps_check_heaps, List.replicate, List.map_cons, List.map_nil, List.length_cons, List.length_nil, List.cons_append, List.nil_append, sIf_run, eNot_run, eB_run, eCall_run, eCons_run, eVar_run, eC_run, eNil_run, List.getElem?_cons_zero, bind_ok, List.append_nil, if_true, is_count_int, h1, Bool.not_true, Bool.false_eq_true, if_false, sNil_run]
theorem dealt_run {p : List Int} {k : Nat} {M : Sto} (h : Pck p) (hk : 0 < k) (hk2 : k ≤ 4000) : r_dealt [li p, .int k] M = .ok (lr (hps k p)) M := by
  simp only [r_dealt, fnRun, b_dealt, List.replicate, List.map_cons, List.map_nil, List.length_cons, List.length_nil, List.cons_append, List.nil_append, sSeq_run, sExpr_run, eCall_run, eCons_run, eVar_run, eNil_run, List.getElem?_cons_zero, List.getElem?_cons_succ, bind_ok, List.append_nil, if_true, check_pack_run h, check_heaps_run hk, sRet_run, heaps_there_run hk hk2]
theorem columns_run {p : List Int} {k : Nat} {M : Sto} (h : Pck p) (hk : 0 < k) (hk2 : k ≤ 4000) : r_columns [li p, .int k] M = .ok (lr (cols k p)) M := by
  simp only [r_columns, fnRun, b_columns, List.replicate, List.map_cons, List.map_nil, List.length_cons, List.length_nil, List.cons_append, List.nil_append, sSeq_run, sExpr_run, eCall_run, eCons_run, eVar_run, eNil_run, List.getElem?_cons_zero, List.getElem?_cons_succ, bind_ok, List.append_nil, if_true, check_pack_run h, heaps_check_run hk, sRet_run, columns_there_run hk hk2]
theorem heap_move_run {n k : Nat} {ord : List Int} {M : Sto} (hk : 0 < k) (hk2 : k ≤ 4000) (hn : n ≤ 4000) (ho : ord.Perm (rgI k)) : r_heap_move [.int n, .int k, li ord] M = .ok (li (catO (hps k (rgI n)) ord)) M := by
  have hlo : ord.length = k := by rw [ho.length_eq, rgI_length]
  have hcl : (catO (hps k (rgI n)) ord).length = n := by rw [(hps_perm hk ho).length_eq, rgI_length]
  have c2 := comp2A_run (rows := hps k (rgI n)) (M := M) (x0 := some (.int n)) (x1 := some (.int k)) (x2 := some (li ord)) (ord := ord) (acc := []) (fun i hi => by rw [hps_length]; exact mem_rgI.mp (ho.mem_iff.mp hi)) (by rw [hcl]; simp; omega)
  simp only [List.map_nil, List.nil_append] at c2
  have ht : r_heaps_there [li (rgI n), .int k] M = .ok (lr (hps k (rgI n))) M := heaps_there_run hk hk2
  simp only [r_heap_move, fnRun, b_heap_move, List.replicate, List.map_cons, List.map_nil, List.length_cons, List.length_nil, List.cons_append, List.nil_append, sSeq_run, sExpr_run, eCall_run, eCons_run, eVar_run, eNil_run, List.getElem?_cons_zero, List.getElem?_cons_succ, bind_ok, List.append_nil, if_true, deals_many_run, check_heaps_run hk, sIf_run, eNot_run, eB_run, is_order_run ho (by omega), Bool.not_true, Bool.false_eq_true, if_false, sNil_run, sAsg_run, eLrg1_run, okRg_n hn, Int.toNat_natCast, rgT_rgI, ht, gN_run, List.set_cons_zero, List.set_cons_succ, sRet_run, eComp2, iLst_run, wipeT, c2]
theorem is_order_there_run {p : List Int} {n : Nat} {M : Sto} (h : p.Perm (rgI n)) (hn : n ≤ 4000) : r_is_order_there [.int n, li p] M = .ok (.bl true) M := by
  have hp := pck_perm h hn
  have hl : p.length = n := by rw [h.length_eq, rgI_length]
  simp [r_is_order_there, fnRun, b_is_order_there, List.replicate, wipeT, counts_run hp.pos, kAll_true, hl, okRg_n hn, rgT_rgI, srt_rg h, show n ≤ 16777216 by omega]
theorem check_move_run {mv : List Int} {n : Nat} {M : Sto} (h : mv.Perm (rgI n)) (hn : n ≤ 4000) : r_check_move [li mv] M = .ok .non M := by
  have hl : mv.length = n := by rw [h.length_eq, rgI_length]
  simp [r_check_move, fnRun, b_check_move, List.replicate, hl, is_move_there_run h hn]
theorem check_other_run {mv o : List Int} {n : Nat} {M : Sto} (h : mv.Perm (rgI n)) (h2 : o.Perm (rgI n)) (hn : n ≤ 4000) : r_check_other [li mv, li o] M = .ok .non M := by
  have hl : mv.length = n := by rw [h.length_eq, rgI_length]
  simp [r_check_other, fnRun, b_check_other, List.replicate, hl, is_move_there_run h2 hn]
theorem then_there_run {mv o : List Int} {n : Nat} {M : Sto} (h : mv.length = n) (h2 : o.Perm (rgI n)) (hn : n ≤ 4000) : r_then_there [li mv, li o] M = .ok (li (o.map fun x => (mv[x.toNat]?).getD 0)) M := by
  have hl : o.length ≤ 16777216 := by rw [h2.length_eq, rgI_length]; omega
  have hc : compL (gN 2) cYes (e2 kIx (eVar 0) (eVar 2)) [some (li mv), some (li o), none] (o.map T.int) M = .ok (o.map fun x => T.int ((mv[x.toNat]?).getD 0)) M := comp_ints fun x hx => by
    obtain ⟨h0, h1⟩ := mem_rgI.mp (h2.mem_iff.mp hx)
    have hlt : x.toNat < mv.length := by omega
    have : kIx (li mv) (.int x) M = .ok (.int mv[x.toNat]) M := kIx_li h0 (by simp [hlt])
    simp [this, hlt]
  simp only [r_then_there, fnRun, b_then_there, List.replicate, List.map_cons, List.map_nil, List.length_cons, List.length_nil, List.cons_append, List.nil_append, sRet_run, eComp_run, iLst_run, eVar_run, List.getElem?_cons_zero, List.getElem?_cons_succ, bind_ok, List.length_map, if_pos hl, wipeT, List.set_cons_zero, List.set_cons_succ, hc, li, List.map_map]
  rfl
theorem one_then_run {mv o : List Int} {n : Nat} {M : Sto} (h : mv.Perm (rgI n)) (h2 : o.Perm (rgI n)) (hn : n ≤ 4000) : r_one_then [li mv, li o] M = .ok (li (o.map fun x => (mv[x.toNat]?).getD 0)) M := by
  have hl : mv.length = n := by rw [h.length_eq, rgI_length]
  simp only [r_one_then, fnRun, b_one_then, List.replicate, List.map_cons, List.map_nil, List.length_cons, List.length_nil, List.cons_append, List.nil_append, sSeq_run, sExpr_run, eCall_run, eCons_run, eVar_run, eNil_run, List.getElem?_cons_zero, List.getElem?_cons_succ, bind_ok, List.append_nil, if_true, check_move_run h hn, check_other_run h h2 hn, sRet_run, then_there_run hl h2 hn]
theorem about_move_run {n : Nat} {M : Sto} (hn : n ≤ 4000) : r_about_move [.int n, .int n] M = .ok (li (rgI n).reverse) M := by
  have hca : r_check_at [.int n, .int n] M = .ok .non M := by
    have h1 : decide ((0 : Int) ≤ (n : Int) ∧ 0 ≤ (n : Int)) = true := decide_eq_true (by omega)
    simp [r_check_at, fnRun, b_check_at, List.replicate, check_many_run (show (0 : Int) ≤ (n : Int) by omega), is_count_int]
  have h2 : eLrg2 (eVar 1) (eVar 0) [some (.int n), some (.int n)] M = .ok (li []) M := by
    have : okRg (n : Int) (n : Int) = true := by unfold okRg; simp; omega
    simp [eLrg2, this, rgT]
  have h3 : kRev (li (rgI n)) M = .ok (li (rgI n).reverse) M := by
    show Res.ok (T.lst ((rgI n).map T.int).reverse) M = _
    rw [← List.map_reverse]
  have h4 : kAddL (li (rgI n).reverse) (li []) M = .ok (li (rgI n).reverse) M := by
    show (if ((rgI n).reverse.map T.int).length + ([] : List T).length ≤ 16777216 then Res.ok (T.lst ((rgI n).reverse.map T.int ++ [])) M else .stuck) = _
    rw [if_pos (by simp [rgI_length]; omega), List.append_nil]
  simp only [r_about_move, fnRun, b_about_move, Nat.reduceAdd, Nat.reduceSub, List.replicate_zero, List.replicate, List.map_cons, List.map_nil, List.length_cons, List.length_nil, List.cons_append, List.nil_append, sSeq_run, sExpr_run, eCall_run, eCons_run, eVar_run, eNil_run, List.getElem?_cons_zero, List.getElem?_cons_succ, bind_ok, List.append_nil, if_true, hca, sRet_run, e2_run, e1_run, eLrg1_run, okRg_n hn, Int.toNat_natCast, rgT_rgI, h3, h2, h4]
/-- a move, then turned about -/
theorem map_about {mv : List Int} {n : Nat} (h : mv.length = n) : (rgI n).reverse.map (fun x => (mv[x.toNat]?).getD 0) = mv.reverse := by
  subst h
  rw [List.map_reverse, getD_rg]
end TL
end
section
set_option Elab.async false
set_option linter.all false
set_option maxRecDepth 100000
set_option maxHeartbeats 0
/-! I97: calls in an empty store; columns gathered. -/
namespace TL
open PySem PySem.Spec PyProof.Rows L2
theorem lone_run {g : List T → Sto → Res T} {ts : List T} {M M' : Sto} {t : T} (hp : plainTs ts = true) (hg : g ts ⟨[], 0⟩ = .ok t M') (ht : plainT t = true) : lone g ts M = .ok t M := by
  unfold lone
  rw [hp]
  show (match g ts ⟨[], 0⟩ with | .ok t _ => (if plainT t then Res.ok t M else .stuck) | _ => .stuck) = _
  rw [hg]
  exact if_pos ht
theorem plain_ints : ∀ l : List Int, plainTs (l.map T.int) = true
  | [] => rfl
  | x :: r => by
    show (plainT (.int x) && plainTs (r.map T.int)) = true
    rw [plain_ints r]; rfl
theorem plain_li (l : List Int) : plainT (li l) = true := plain_ints l
theorem plain_lr : ∀ rows : List (List Int), plainTs (rows.map fun r => T.lst (r.map T.int)) = true
  | [] => rfl
  | x :: r => by
    show (plainT (li x) && plainTs (r.map fun r => T.lst (r.map T.int))) = true
    rw [plain_lr r, plain_li]; rfl
/-- one list alone -/
def Ml (l : List Int) : Sto := ⟨[(0, .lst (l.map T.int))], 1⟩
theorem Ml_get {l : List Int} : (Ml l).get 0 = some (.lst (l.map T.int)) := rfl
theorem Ml_isL {l : List Int} : isL (.ref 0) (Ml l) = true := rfl
theorem Ml_frz {l : List Int} : frzD 6 (.ref 0) (Ml l) = some (li l, ⟨[], 1⟩) := by
  rw [frz_ref (d := 4) Ml_get pln_ints]; rfl
theorem Ml_ext {l xs : List Int} (h : l.length + xs.length ≤ 16777216) : kExt (.ref 0) [li xs] (Ml l) = .ok .non (Ml (l ++ xs)) := by
  simp only [kExt, Ml_get]
  rw [if_pos (by simpa using h), ← List.map_append]
  rfl
theorem gath_loop {rows : List (List Int)} {a0 a1 a2 : Option T} : ∀ {ord acc : List Int} {x3 : Option T}, (∀ i ∈ ord, 0 ≤ i ∧ i < rows.length) → acc.length + (catO rows ord).length ≤ 16777216 →
    ∃ y3, forL (gN 3) (sExpr (eBm kExt (eVar 4) (eCons (e2 kIx (eVar 5) (eVar 3)) eNil))) (ord.map T.int) [a0, a1, a2, x3, some (.ref 0), some (lr rows)] (Ml acc) = .ok (.nx [a0, a1, a2, y3, some (.ref 0), some (lr rows)]) (Ml (acc ++ catO rows ord))
  | [], acc, x3, _, _ => ⟨x3, by
    show Res.ok _ _ = _
    simp [catO]⟩
  | i :: ord, acc, x3, h, hl => by
    obtain ⟨h0, h1⟩ := h i List.mem_cons_self
    have hlt : i.toNat < rows.length := by omega
    have e1 : lotAt rows i = rows[i.toNat] := by unfold lotAt; rw [List.getElem?_eq_getElem hlt]; rfl
    have hix : ∀ M, kIx (lr rows) (.int i) M = .ok (li rows[i.toNat]) M := fun M => kIx_li h0 (by simp [List.getElem?_eq_getElem hlt])
    have ec : catO rows (i :: ord) = rows[i.toNat] ++ catO rows ord := by unfold catO; rw [List.flatMap_cons, e1]
    rw [ec, List.length_append] at hl
    obtain ⟨y3, ih⟩ := gath_loop (rows := rows) (a0 := a0) (a1 := a1) (a2 := a2) (ord := ord) (acc := acc ++ rows[i.toNat]) (x3 := some (.int i)) (fun j hj => h j (List.mem_cons_of_mem _ hj)) (by rw [List.length_append]; omega)
    refine ⟨y3, ?_⟩
    rw [List.map_cons]
    unfold forL
    simp only [gN_run, bind_ok, List.set_cons_succ, List.set_cons_zero, sExpr_run, eBm_run, eVar_run, List.getElem?_cons_succ, List.getElem?_cons_zero, Ml_isL, if_true, eCons_run, e2_run, eNil_run, hix, Ml_ext (show acc.length + rows[i.toNat].length ≤ 16777216 by omega)]
    rw [ih, ec, List.append_assoc]
theorem gathered_run {p ord : List Int} {k : Nat} {M : Sto} (hk : 0 < k) (hk2 : k ≤ 4000) (ho : ∀ i ∈ ord, 0 ≤ i ∧ i < (k : Int)) (hl : (catO (cols k p) ord).length ≤ 16777216) : r_gathered_there [li p, .int k, li ord] M = .ok (li (catO (cols k p) ord)) M := by
  have hpl : plainTs [li p, .int k, li ord] = true := by
    show (plainT (li p) && (true && (plainT (li ord) && true))) = true
    rw [plain_li, plain_li]; rfl
  refine lone_run (M' := ⟨[], 1⟩) hpl ?_ (plain_li _)
  obtain ⟨y3, lp⟩ := gath_loop (rows := cols k p) (a0 := some (li p)) (a1 := some (.int k)) (a2 := some (li ord)) (ord := ord) (acc := []) (x3 := none) (fun i hi => by rw [cols_length]; exact ho i hi) (by simpa using hl)
  have e0 : (⟨[], 0⟩ : Sto).add (.lst []) = Ml [] := rfl
  have e1 : (⟨[], 0⟩ : Sto).nx = 0 := rfl
  rw [List.nil_append] at lp
  simp only [fnRun, b_gathered_there, Nat.reduceAdd, Nat.reduceSub, List.replicate, List.map_cons, List.map_nil, List.length_cons, List.length_nil, List.cons_append, List.nil_append, sSeq_run, sPar_run, eCons_run, eNew_run, eLst_run, eNil_run, bind_ok, Nat.zero_le, if_true, e0, e1, eCall_run, eVar_run, List.getElem?_cons_zero, List.getElem?_cons_succ, List.append_nil, columns_there_run hk hk2, List.set_cons_zero, List.set_cons_succ, sFor_run, iLst_run, lp, sRet_run, eFrz_run, Ml_frz]
theorem deal_move_run {n k : Nat} {ord : List Int} {M : Sto} (hk : 0 < k) (hk2 : k ≤ 4000) (hn : n ≤ 4000) (ho : ord.Perm (rgI k)) : r_deal_move [.int n, .int k, li ord] M = .ok (li (catO (cols k (rgI n)) ord)) M := by
  have hcl : (catO (cols k (rgI n)) ord).length = n := by rw [(cols_perm hk ho).length_eq, rgI_length]
  have hg := gathered_run (p := rgI n) (ord := ord) (k := k) (M := M) hk hk2 (fun i hi => mem_rgI.mp (ho.mem_iff.mp hi)) (by omega)
  simp only [r_deal_move, fnRun, b_deal_move, Nat.reduceAdd, Nat.reduceSub, List.replicate, List.map_cons, List.map_nil, List.length_cons, List.length_nil, List.cons_append, List.nil_append, sSeq_run, sExpr_run, eCall_run, eCons_run, eVar_run, eNil_run, List.getElem?_cons_zero, List.getElem?_cons_succ, bind_ok, List.append_nil, if_true, check_many_run (show (0 : Int) ≤ (n : Int) by omega), heaps_check_run hk, sIf_run, eNot_run, eB_run, is_order_there_run ho hk2, Bool.not_true, Bool.false_eq_true, if_false, sNil_run, sRet_run, eLrg1_run, okRg_n hn, Int.toNat_natCast, rgT_rgI, hg]
end TL
end
section
set_option Elab.async false
set_option linter.all false
set_option maxRecDepth 100000
set_option maxHeartbeats 0
/-! J97: cards put at places. -/
namespace TL
open PySem PySem.Spec PyProof.Rows L2
@[simp] theorem iZp_run {f g : Ev T} {τ : Tau} {M : Sto} : iZp f g τ M = (f τ M).bind fun t M1 => (g τ M1).bind fun u M2 => match t, u with
  | .lst xs, .lst ys => .ok (zpL xs ys) M2
  | .tup xs, .tup ys => .ok (zpL xs ys) M2
  | _, _ => .stuck := nr (by unfold iZp; rfl)
def putL : List Int → List Int → List Int → List Int
  | f, c :: cs, q :: qs => putL (f.set q.toNat c) cs qs
  | f, _, _ => f
theorem putL_length : ∀ {cs qs f : List Int}, (putL f cs qs).length = f.length
  | [], _, _ => by unfold putL; rfl
  | _ :: _, [], _ => by unfold putL; rfl
  | c :: cs, q :: qs, f => by unfold putL; rw [putL_length, List.length_set]
theorem putL_out {x : Nat} : ∀ {cs qs f : List Int}, (∀ q ∈ qs, q.toNat ≠ x) → (putL f cs qs)[x]? = f[x]?
  | [], _, _, _ => by unfold putL; rfl
  | _ :: _, [], _, _ => by unfold putL; rfl
  | c :: cs, q :: qs, f, h => by
    unfold putL
    rw [putL_out fun r hr => h r (List.mem_cons_of_mem _ hr), List.getElem?_set_ne (h q List.mem_cons_self)]
theorem putL_at : ∀ {cs qs f : List Int}, cs.length = qs.length → (qs.map Int.toNat).Nodup → (∀ q ∈ qs, q.toNat < f.length) → qs.map (fun x => ((putL f cs qs)[x.toNat]?).getD 0) = cs
  | [], [], _, _, _, _ => rfl
  | [], _ :: _, _, h, _, _ => by simp at h
  | _ :: _, [], _, h, _, _ => by simp at h
  | c :: cs, q :: qs, f, h, nd, hl => by
    rw [List.map_cons, List.nodup_cons] at nd
    have h2 : ∀ r ∈ qs, r.toNat ≠ q.toNat := fun r hr e => nd.1 (by rw [← e]; exact List.mem_map_of_mem hr)
    unfold putL
    rw [List.map_cons, putL_at (by simpa using h) nd.2 fun r hr => by rw [List.length_set]; exact hl r (List.mem_cons_of_mem _ hr)]
    congr 1
    rw [putL_out h2, List.getElem?_set_self (hl q List.mem_cons_self)]
    rfl
theorem toNat_nodup {qs : List Int} (h : qs.Nodup) (hp : ∀ q ∈ qs, 0 ≤ q) : (qs.map Int.toNat).Nodup := by
  rw [List.Nodup, List.pairwise_map]
  exact List.Pairwise.imp_of_mem (fun {a b} ha hb hne e => hne (by have := hp a ha; have := hp b hb; omega)) h
theorem put_at {cs qs f : List Int} {n : Nat} (hq : qs.Perm (rgI n)) (hc : cs.length = n) (hf : f.length = n) : qs.map (fun x => ((putL f cs qs)[x.toNat]?).getD 0) = cs :=
  putL_at (by rw [hc, hq.length_eq, rgI_length]) (toNat_nodup (hq.nodup_iff.mpr (rgI_nodup n)) fun q h => (mem_rgI.mp (hq.mem_iff.mp h)).1) fun q h => by
    have := mem_rgI.mp (hq.mem_iff.mp h)
    omega
theorem put_perm {cs qs f : List Int} {n : Nat} (hq : qs.Perm (rgI n)) (hc : cs.length = n) (hf : f.length = n) : (putL f cs qs).Perm cs := by
  have h1 := put_at hq hc hf
  have h2 := hq.map fun x => ((putL f cs qs)[x.toNat]?).getD 0
  rw [h1] at h2
  have h3 : (rgI n).map (fun x => ((putL f cs qs)[x.toNat]?).getD 0) = putL f cs qs := by
    have := getD_rg (p := putL f cs qs)
    rwa [putL_length, hf] at this
  rw [h3] at h2
  exact h2.symm
theorem Ml_set {l : List Int} {q c : Int} {τ : Tau} {fo fi : Ev T} (h0 : 0 ≤ q) (h1 : q < l.length) (ho : fo τ (Ml l) = .ok (.ref 0) (Ml l)) (hi : fi τ (Ml l) = .ok (.int q) (Ml l)) : gAt fo fi (.int c) τ (Ml l) = .ok τ (Ml (l.set q.toNat c)) := by
  unfold gAt
  rw [ho]
  simp only [bind_ok]
  rw [hi]
  simp only [bind_ok, Ml_get]
  have : ixN (l.map T.int).length q = some q.toNat := by
    unfold ixN
    rw [if_pos h0, List.length_map, if_pos (by omega)]
  rw [this]
  show Res.ok τ (⟨[(0, .lst ((l.map T.int).set q.toNat (.int c)))], 1⟩ : Sto) = _
  rw [← List.map_set]
  rfl
theorem put_loop {c q : Nat} (hc2 : c ≠ 2) (hq2 : q ≠ 2) (hcq : c ≠ q) : ∀ {cs qs f : List Int} {τ : Tau}, c < τ.length → q < τ.length → τ[2]? = some (some (.ref 0)) → (∀ x ∈ qs, 0 ≤ x ∧ x < f.length) →
    ∃ τ', τ'.length = τ.length ∧ τ'[2]? = some (some (.ref 0)) ∧ forL (gTup 2 (gCons (gN c) (gCons (gN q) gNil))) (sAsg (eVar c) (gAt (eVar 2) (eVar q))) (zpL (cs.map T.int) (qs.map T.int)) τ (Ml f) = .ok (.nx τ') (Ml (putL f cs qs))
  | [], _, f, τ, _, _, h2, _ => ⟨τ, rfl, h2, by unfold putL; rfl⟩
  | _ :: _, [], f, τ, _, _, h2, _ => ⟨τ, rfl, h2, by unfold putL; rfl⟩
  | x :: cs, y :: qs, f, τ, hc, hq, h2, hl => by
    obtain ⟨h0, h1⟩ := hl y List.mem_cons_self
    have e2 : ((τ.set c (some (.int x))).set q (some (.int y)))[2]? = some (some (.ref 0)) := by
      rw [List.getElem?_set_ne hq2, List.getElem?_set_ne hc2, h2]
    have ec : ((τ.set c (some (.int x))).set q (some (.int y)))[c]? = some (some (.int x)) := by
      rw [List.getElem?_set_ne (Ne.symm hcq), List.getElem?_set_self hc]
    have eq : ((τ.set c (some (.int x))).set q (some (.int y)))[q]? = some (some (.int y)) := by
      rw [List.getElem?_set_self (by rw [List.length_set]; exact hq)]
    obtain ⟨τ', l1, l2, ih⟩ := put_loop hc2 hq2 hcq (cs := cs) (qs := qs) (f := f.set y.toNat x) (τ := (τ.set c (some (.int x))).set q (some (.int y))) (by simpa using hc) (by simpa using hq) e2 (fun z hz => by rw [List.length_set]; exact hl z (List.mem_cons_of_mem _ hz))
    refine ⟨τ', by rw [l1]; simp, l2, ?_⟩
    show (Res.bind (gTup 2 (gCons (gN c) (gCons (gN q) gNil)) (.tup [.int x, .int y]) τ (Ml f)) _) = _
    simp only [gTup_run, List.length_cons, List.length_nil, if_true, gCons_run, gN_run, gNil_run, bind_ok, sAsg_run, eVar_run, ec]
    rw [Ml_set h0 h1 (by simp [e2]) (by simp [eq])]
    simp only [bind_ok]
    rw [ih, show putL f (x :: cs) (y :: qs) = putL (f.set y.toNat x) cs qs from by rw [putL]]
end TL
end
section
set_option Elab.async false
set_option linter.all false
set_option maxRecDepth 100000
set_option maxHeartbeats 0
/-! K97: counting out, packs set for it. -/
namespace TL
open PySem PySem.Spec PyProof.Rows L2
@[simp] theorem sPar3_run {i j l : Nat} {fs : Ev (List T)} {τ : Tau} {M : Sto} : sPar3 i j l fs τ M = (fs τ M).bind fun ts M' => match ts with | [t, u, v] => .ok (.nx (((τ.set i (some t)).set j (some u)).set l (some v))) M' | _ => .stuck := nr rfl
theorem Ml_app {l : List Int} {x : Int} (h : l.length < 16777216) : kApp (.ref 0) [.int x] (Ml l) = .ok .non (Ml (l ++ [x])) := by
  simp only [kApp, Ml_get]
  rw [if_pos (by simpa using h), show l.map T.int ++ [T.int x] = (l ++ [x]).map T.int from by simp]
  rfl
theorem add_li {xs ys : List Int} {M : Sto} (h : xs.length + ys.length ≤ 16777216) : kAddL (li xs) (li ys) M = .ok (li (xs ++ ys)) M := by
  show (if (xs.map T.int).length + (ys.map T.int).length ≤ 16777216 then Res.ok (T.lst (xs.map T.int ++ ys.map T.int)) M else .stuck) = _
  rw [if_pos (by simpa using h), ← List.map_append]
theorem len_li {xs : List Int} {M : Sto} : kLen [li xs] M = .ok (.int (xs.length : Nat)) M := by
  show Res.ok (T.int ((xs.map T.int).length : Nat)) M = _
  rw [List.length_map]
theorem cut_li_to {xs : List Int} {d : Nat} : cutT (xs.map T.int) none (some (d : Int)) = (xs.take d).map T.int := by rw [cut_to (by omega), Int.toNat_natCast, List.map_take]
theorem cut_li_from {xs : List Int} {d : Nat} : cutT (xs.map T.int) (some (d : Int)) none = (xs.drop d).map T.int := by rw [cut_from (by omega), Int.toNat_natCast, List.map_drop]
def wOrd : Ev Fl := (sSeq (sAsg (e2 kMod (e2 kSub (e2 kAddI (eVar 4) (eVar 1)) (eC (.int 1))) (eA kLen (eCons (eVar 2) eNil))) (gN 4))
    (sSeq (sExpr (eBm kApp (eVar 3) (eCons (e2 kIx (eVar 2) (eVar 4)) eNil)))
    (sAsg (e2 kAddL (eSl (eVar 2) eNone (ePart (eVar 4))) (eSl (eVar 2) (ePart (e2 kAddI (eVar 4) (eC (.int 1)))) eNone)) (gN 2))))
theorem ord_loop {a0 : Option T} {s : Int} (hs : 0 < s) : ∀ (c : Nat) {left acc : List Int} {at_ : Int} {fuel : Nat}, left.length = c → c < fuel → acc.length + c < 4000 → 0 ≤ at_ →
    ∃ us τ', us.Perm left ∧ τ'[3]? = some (some (.ref 0)) ∧ sWhile (eB (e2 (kVw kNe0) (eVar 2) (eLst eNil))) wOrd fuel [a0, some (.int s), some (li left), some (.ref 0), some (.int at_)] (Ml acc) = .ok (.nx τ') (Ml (acc ++ us))
  | 0, left, acc, at_, fuel + 1, hl, hf, ha, h0 => by
    have : left = [] := List.length_eq_zero_iff.mp hl
    subst this
    refine ⟨[], [a0, some (.int s), some (li []), some (.ref 0), some (.int at_)], .refl _, rfl, ?_⟩
    unfold sWhile
    simp only [eB_run, e2_run, eVar_run, List.getElem?_cons_succ, List.getElem?_cons_zero, bind_ok, eLst_run, eNil_run, List.length_nil, Nat.zero_le, if_true, vNe_nil, decide_true, Bool.not_true, Bool.false_eq_true, if_false, List.append_nil]
  | c + 1, left, acc, at_, fuel + 1, hl, hf, ha, h0 => by
    have hne : left ≠ [] := fun e => by rw [e] at hl; simp at hl
    have hpos : (0 : Int) < (left.length : Int) := by omega
    obtain ⟨d, hd, ed⟩ : ∃ d : Nat, d < left.length ∧ (at_ + s - 1) % (left.length : Int) = (d : Int) := by
      have h1 := Int.emod_nonneg (at_ + s - 1) (show (left.length : Int) ≠ 0 by omega)
      have h2 := Int.emod_lt_of_pos (at_ + s - 1) hpos
      exact ⟨((at_ + s - 1) % (left.length : Int)).toNat, by omega, by omega⟩
    have hix : ∀ M, kIx (li left) (.int (d : Nat)) M = .ok (.int left[d]) M := fun M => kIx_li (by omega) (by rw [Int.toNat_natCast, List.getElem?_map, List.getElem?_eq_getElem hd]; rfl)
    have hl1 : (left.take d ++ left.drop (d + 1)).length + 1 = left.length := drop_one hd
    have hlen2 : (left.take d).length + (left.drop (d + 1)).length ≤ 16777216 := by rw [← List.length_append]; omega
    obtain ⟨us, τ', hp, h3, ih⟩ := ord_loop (a0 := a0) hs c (left := left.take d ++ left.drop (d + 1)) (acc := acc ++ [left[d]]) (at_ := (d : Int)) (fuel := fuel) (by omega) (by omega) (by rw [List.length_append]; simp; omega) (by omega)
    refine ⟨left[d] :: us, τ', (hp.cons _).trans (drop_perm hd), h3, ?_⟩
    have c2 : cutT (left.map T.int) (some ((d : Int) + 1)) none = (left.drop (d + 1)).map T.int := cut_li_from (d := d + 1)
    unfold sWhile
    simp only [eB_run, e2_run, eVar_run, List.getElem?_cons_succ, List.getElem?_cons_zero, bind_ok, eLst_run, eNil_run, List.length_nil, Nat.zero_le, if_true, vNe_nil, hne, decide_false, Bool.not_false]
    rw [show wOrd [a0, some (.int s), some (li left), some (.ref 0), some (.int at_)] (Ml acc) = .ok (.nx [a0, some (.int s), some (li (left.take d ++ left.drop (d + 1))), some (.ref 0), some (.int (d : Nat))]) (Ml (acc ++ [left[d]])) from ?_]
    · simp only [bind_ok]
      rw [ih, List.append_assoc]
      rfl
    · unfold wOrd
      simp only [sSeq_run, sAsg_run, e2_run, eVar_run, eC_run, eA_run, eCons_run, eNil_run, List.getElem?_cons_succ, List.getElem?_cons_zero, bind_ok, kAddI_int, kSub_int, len_li, kMod_pos hpos, ed, gN_run, List.set_cons_succ, List.set_cons_zero, sExpr_run, eBm_run, Ml_isL, if_true, hix, Ml_app (show acc.length < 16777216 by omega), eSl_run, eNone_run, ePart_run, cut_li_to, c2, add_li hlen2]
theorem order_there_run {n : Nat} {s : Int} {M : Sto} (hs : 0 < s) (hn : n < 60) : ∃ us : List Int, us.Perm (rgI n) ∧ ∀ M, r_order_there [.int n, .int s] M = .ok (li us) M := by
  obtain ⟨us, τ', hp, h3, lp⟩ := ord_loop (a0 := some (.int n)) hs n (left := rgI n) (acc := []) (at_ := 0) (fuel := 60) (rgI_length n) hn (by simp; omega) (by omega)
  rw [List.nil_append] at lp
  refine ⟨us, hp, fun M => lone_run (M' := ⟨[], 1⟩) rfl ?_ (plain_li _)⟩
  have e0 : (⟨[], 0⟩ : Sto).add (.lst []) = Ml [] := rfl
  have e1 : (⟨[], 0⟩ : Sto).nx = 0 := rfl
  have lp' := lp
  unfold wOrd at lp'
  simp only [fnRun, b_order_there, Nat.reduceAdd, Nat.reduceSub, List.replicate, List.map_cons, List.map_nil, List.length_cons, List.length_nil, List.cons_append, List.nil_append, sSeq_run, sPar3_run, eCons_run, eNew_run, eLst_run, eNil_run, eC_run, bind_ok, Nat.zero_le, if_true, e0, e1, eVar_run, eLrg1_run, okRg_n (show n ≤ 4000 by omega), Int.toNat_natCast, rgT_rgI, List.getElem?_cons_zero, List.getElem?_cons_succ, List.set_cons_zero, List.set_cons_succ, lp', sRet_run, eFrz_run, h3, Ml_frz]
theorem check_step_run {s : Int} {M : Sto} (h : 1 ≤ s) : r_check_step [.int s] M = .ok .non M := by
  have h1 : decide ((1 : Int) ≤ s ∧ 0 ≤ s) = true := decide_eq_true (by omega)
  simp only [r_check_step, fnRun, b_check_step, List.replicate, List.map_cons, List.map_nil, List.length_cons, List.length_nil, List.cons_append, List.nil_append, sIf_run, eNot_run, eB_run, eCall_run, eCons_run, eVar_run, eC_run, eNil_run, List.getElem?_cons_zero, bind_ok, List.append_nil, if_true, is_count_int, h1, Bool.not_true, Bool.false_eq_true, if_false, sNil_run]
theorem Ml_list {l : List Int} {M : Sto} : kList [li l] M = .ok (li l) M := rfl
/-- a pack set for counting out by s, and the order of that -/
theorem set_for_run {p : List Int} {s : Int} (h : Pck p) (hs : 1 ≤ s) (hn : p.length < 60) : ∃ us r : List Int, us.Perm (rgI p.length) ∧ r.Perm p ∧ us.map (fun x => (r[x.toNat]?).getD 0) = p ∧ (∀ M, r_out_order [.int p.length, .int s] M = .ok (li us) M) ∧ ∀ M, r_set_for [li p, .int s] M = .ok (li r) M := by
  obtain ⟨us, hp, ho⟩ := order_there_run (M := ⟨[], 0⟩) (show 0 < s by omega) hn
  refine ⟨us, putL p p us, hp, put_perm hp rfl rfl, put_at hp rfl rfl, fun M => ?_, fun M => ?_⟩
  · simp only [r_out_order, fnRun, b_out_order, Nat.reduceAdd, Nat.reduceSub, List.replicate, List.map_cons, List.map_nil, List.length_cons, List.length_nil, List.cons_append, List.nil_append, sSeq_run, sExpr_run, eCall_run, eCons_run, eVar_run, eNil_run, List.getElem?_cons_zero, List.getElem?_cons_succ, bind_ok, List.append_nil, if_true, deals_many_run, check_step_run hs, sRet_run, ho]
  · have hpl : plainTs [li p, .int s] = true := by
      show (plainT (li p) && true) = true
      rw [plain_li]; rfl
    refine lone_run (M' := ⟨[], 1⟩) hpl ?_ (plain_li _)
    have e0 : (⟨[], 0⟩ : Sto).add (.lst (p.map T.int)) = Ml p := rfl
    have e1 : (⟨[], 0⟩ : Sto).nx = 0 := rfl
    obtain ⟨τ', l1, l2, lp⟩ := put_loop (c := 3) (q := 4) (by decide) (by decide) (by decide) (cs := p) (qs := us) (f := p) (τ := [some (li p), some (.int s), some (.ref 0), none, none]) (by simp) (by simp) rfl (fun x hx => by have := mem_rgI.mp (hp.mem_iff.mp hx); omega)
    simp only [fnRun, b_set_for, Nat.reduceAdd, Nat.reduceSub, List.replicate, List.map_cons, List.map_nil, List.length_cons, List.length_nil, List.cons_append, List.nil_append, sSeq_run, sExpr_run, sAsg_run, eCall_run, eCons_run, eA_run, eNew_run, eLst_run, eNil_run, bind_ok, Nat.zero_le, if_true, e0, e1, Ml_list, eVar_run, List.getElem?_cons_zero, List.getElem?_cons_succ, List.append_nil, check_pack_run h, check_step_run hs, len_li, ho, gN_run, List.set_cons_zero, List.set_cons_succ, sFor_run, iZp_run, lp, sRet_run, eFrz_run, l2, Ml_frz]
end TL
end
section
set_option Elab.async false
set_option linter.all false
set_option maxRecDepth 100000
set_option maxHeartbeats 0
/-! M97: spelling. -/
namespace TL
open PySem PySem.Spec PyProof.Rows L2
def spel : List Int → List Int → List Int × List Int
  | left, [] => ([], left)
  | left, l :: ls => match rot left ((l - 1) % (left.length : Int)).toNat with
    | [] => ([], [])
    | a :: r => (a :: (spel r ls).1, (spel r ls).2)
theorem rot_ne {l : List Int} {u : Nat} (h : l ≠ []) : rot l u ≠ [] := fun e => by
  have := rot_length (p := l) (i := u)
  rw [e] at this
  exact h (List.length_eq_zero_iff.mp this.symm)
theorem spel_perm : ∀ {ls left : List Int}, ls.length ≤ left.length → ((spel left ls).1 ++ (spel left ls).2).Perm left ∧ (spel left ls).1.length = ls.length
  | [], left, _ => ⟨.refl _, rfl⟩
  | l :: ls, left, h => by
    have hne : left ≠ [] := fun e => by rw [e] at h; simp at h
    unfold spel
    cases hr : rot left ((l - 1) % (left.length : Int)).toNat with
    | nil => exact absurd hr (rot_ne hne)
    | cons a r =>
      have hl := rot_length (p := left) (i := ((l - 1) % (left.length : Int)).toNat)
      rw [hr, List.length_cons] at hl
      rw [List.length_cons] at h
      obtain ⟨p, e⟩ := spel_perm (ls := ls) (left := r) (by omega)
      refine ⟨?_, by simp [e]⟩
      have hp := rot_perm (p := left) (i := ((l - 1) % (left.length : Int)).toNat)
      rw [hr] at hp
      exact (p.cons a).trans hp
theorem spel_map {f : Int → Int} : ∀ {ls left : List Int}, spel (left.map f) ls = ((spel left ls).1.map f, (spel left ls).2.map f)
  | [], left => rfl
  | l :: ls, left => by
    unfold spel
    rw [List.length_map, rot_map]
    cases hr : rot left ((l - 1) % (left.length : Int)).toNat with
    | nil => rfl
    | cons a r => simp only [List.map_cons, spel_map (ls := ls) (left := r)]
theorem spell_loop {a0 a1 : Option T} : ∀ {ls left acc : List Int} {x2 x5 : Option T}, ls.length ≤ left.length → left.length + acc.length ≤ 4000 →
    ∃ y2 y5, forL (gN 2) (sSeq (sAsg (e2 kMod (e2 kSub (eVar 2) (eC (.int 1))) (eA kLen (eCons (eVar 3) eNil))) (gN 5))
    (sSeq (sAsg (e2 kAddL (eSl (eVar 3) (ePart (eVar 5)) eNone) (eSl (eVar 3) eNone (ePart (eVar 5)))) (gN 3))
    (sSeq (sExpr (eBm kApp (eVar 4) (eCons (e2 kIx (eVar 3) (eC (.int 0))) eNil)))
    (sAsg (eSl (eVar 3) (ePart (eC (.int 1))) eNone) (gN 3))))) (ls.map T.int) [a0, a1, x2, some (li left), some (.ref 0), x5] (Ml acc) = .ok (.nx [a0, a1, y2, some (li (spel left ls).2), some (.ref 0), y5]) (Ml (acc ++ (spel left ls).1))
  | [], left, acc, x2, x5, _, _ => ⟨x2, x5, by
    show Res.ok _ _ = _
    simp [spel]⟩
  | l :: ls, left, acc, x2, x5, h, hl => by
    have hne : left ≠ [] := fun e => by rw [e] at h; simp at h
    have hpos : (0 : Int) < (left.length : Int) := by have := List.length_pos_iff.mpr hne; omega
    obtain ⟨u, eu⟩ : ∃ u : Nat, (l - 1) % (left.length : Int) = (u : Int) := by
      have h1 := Int.emod_nonneg (l - 1) (show (left.length : Int) ≠ 0 by omega)
      exact ⟨((l - 1) % (left.length : Int)).toNat, by omega⟩
    have hu : ((l - 1) % (left.length : Int)).toNat = u := by omega
    unfold spel
    rw [hu]
    cases hr : rot left u with
    | nil => exact absurd hr (rot_ne hne)
    | cons a r =>
      have hrl := rot_length (p := left) (i := u)
      rw [hr, List.length_cons] at hrl
      rw [List.length_cons] at h
      obtain ⟨y2, y5, ih⟩ := spell_loop (a0 := a0) (a1 := a1) (ls := ls) (left := r) (acc := acc ++ [a]) (x2 := some (.int l)) (x5 := some (.int (u : Nat))) (by omega) (by rw [List.length_append]; simp; omega)
      refine ⟨y2, y5, ?_⟩
      have hadd : ∀ M, kAddL (li (left.drop u)) (li (left.take u)) M = .ok (li (a :: r)) M := fun M => by
        rw [add_li (by rw [List.length_drop, List.length_take]; omega)]
        rw [← hr]; rfl
      have hix : ∀ M, kIx (li (a :: r)) (.int 0) M = .ok (.int a) M := fun M => kIx_li (by decide) rfl
      have c1 : cutT ((a :: r).map T.int) (some (1 : Int)) none = r.map T.int := cut_li_from (d := 1) (xs := a :: r)
      rw [List.map_cons]
      unfold forL
      simp only [gN_run, bind_ok, List.set_cons_succ, List.set_cons_zero, sSeq_run, sAsg_run, e2_run, eVar_run, eC_run, eA_run, eCons_run, eNil_run, List.getElem?_cons_succ, List.getElem?_cons_zero, kSub_int, len_li, kMod_pos hpos, eu, eSl_run, eNone_run, ePart_run, cut_li_to, cut_li_from, hadd, sExpr_run, eBm_run, Ml_isL, if_true, hix, Ml_app (show acc.length < 16777216 by omega), c1]
      rw [ih, List.append_assoc]
      rfl
theorem spelled_there_run {row lens : List Int} {M : Sto} (h : lens.length ≤ row.length) (hl : row.length ≤ 3000) : r_spelled_there [li row, li lens] M = .ok (.tup [li (spel row lens).1, li (spel row lens).2]) M := by
  have hpl : plainTs [li row, li lens] = true := by
    show (plainT (li row) && (plainT (li lens) && true)) = true
    rw [plain_li, plain_li]; rfl
  have hpt : plainT (.tup [li (spel row lens).1, li (spel row lens).2]) = true := by
    show (plainT (li (spel row lens).1) && (plainT (li (spel row lens).2) && true)) = true
    rw [plain_li, plain_li]; rfl
  refine lone_run (M' := ⟨[], 1⟩) hpl ?_ hpt
  have e0 : (⟨[], 0⟩ : Sto).add (.lst []) = Ml [] := rfl
  have e1 : (⟨[], 0⟩ : Sto).nx = 0 := rfl
  obtain ⟨y2, y5, lp⟩ := spell_loop (a0 := some (li row)) (a1 := some (li lens)) (ls := lens) (left := row) (acc := []) (x2 := none) (x5 := none) h (by simp; omega)
  rw [List.nil_append] at lp
  simp only [fnRun, b_spelled_there, Nat.reduceAdd, Nat.reduceSub, List.replicate, List.map_cons, List.map_nil, List.length_cons, List.length_nil, List.cons_append, List.nil_append, sSeq_run, sPar_run, eCons_run, eA_run, eVar_run, eNil_run, bind_ok, Ml_list, List.getElem?_cons_zero, List.getElem?_cons_succ, eNew_run, eLst_run, Nat.zero_le, if_true, e0, e1, List.set_cons_zero, List.set_cons_succ, sFor_run, iLst_run]
  simp only [lp, bind_ok, sRet_run, eTup_run, eCons_run, eFrz_run, eVar_run, eNil_run, List.getElem?_cons_zero, List.getElem?_cons_succ, Ml_frz, List.length_cons, List.length_nil]
  rfl
theorem check_lengths_run {p lens : List Int} {M : Sto} (h : Pck p) (hl : lens.length ≤ p.length) (h1 : ∀ x ∈ lens, 1 ≤ x) : r_check_lengths [li p, li lens] M = .ok .non M := by
  have hc : compL (gN 2) cYes (eCall 2 [] r_is_count (eCons (eVar 2) (eCons (eC (.int 1)) eNil))) [some (li p), some (li lens), none] (lens.map T.int) M = .ok (lens.map fun _ => .bl true) M :=
    comp_ints (h := fun _ => .bl true) fun x hx => by
      have : decide ((1 : Int) ≤ x ∧ 0 ≤ x) = true := decide_eq_true (by have := h1 x hx; omega)
      simp only [eCall_run, eCons_run, eVar_run, eC_run, eNil_run, List.set_cons_succ, List.set_cons_zero, List.getElem?_cons_zero, List.getElem?_cons_succ, bind_ok, List.length_cons, List.length_nil, List.append_nil, if_true, is_count_int, this]
  have hle : decide ((lens.length : Int) ≤ (p.length : Int)) = true := decide_eq_true (by omega)
  have hlen := h.len
  have ha : r_are_lengths [li p, li lens] M = .ok (.bl true) M := by
    simp [r_are_lengths, fnRun, b_are_lengths, List.replicate, wipeT, hc, kAll_true, hl, show lens.length ≤ 16777216 by omega]
  simp only [r_check_lengths, fnRun, b_check_lengths, Nat.reduceAdd, Nat.reduceSub, List.replicate, List.map_cons, List.map_nil, List.length_cons, List.length_nil, List.cons_append, List.nil_append, sSeq_run, sExpr_run, eCall_run, eCons_run, eVar_run, eNil_run, List.getElem?_cons_zero, List.getElem?_cons_succ, bind_ok, List.append_nil, if_true, check_pack_run h, sIf_run, eNot_run, eB_run, ha, Bool.not_true, Bool.false_eq_true, if_false, sNil_run]
/-- a pack set to be spelled, and what is spelled -/
theorem spell_run {p lens : List Int} (h : Pck p) (hl : lens.length ≤ p.length) (h1 : ∀ x ∈ lens, 1 ≤ x) (hn : p.length ≤ 3000) : ∃ r : List Int, r.Perm p ∧ (∀ M, r_set_to_spell [li p, li lens] M = .ok (li r) M) ∧ ∀ M, r_spelled [li r, li lens] M = .ok (.tup [li (p.take lens.length), li (p.drop lens.length)]) M := by
  have hrl : (rgI p.length).length = p.length := rgI_length _
  obtain ⟨sp, se⟩ := spel_perm (ls := lens) (left := rgI p.length) (by rw [hrl]; exact hl)
  generalize hs : spel (rgI p.length) lens = s at sp se
  have hr : (putL p p (s.1 ++ s.2)).Perm p := put_perm sp rfl rfl
  have hat := put_at sp (cs := p) (f := p) rfl rfl
  generalize hR : putL p p (s.1 ++ s.2) = R at hr hat
  have hRl : R.length = p.length := hr.length_eq
  have hRp : Pck R := ⟨fun x hx => h.pos x (hr.mem_iff.mp hx), hr.nodup_iff.mpr h.nd, by rw [hRl]; exact h.len⟩
  refine ⟨R, hr, fun M => ?_, fun M => ?_⟩
  · have hpl : plainTs [li p, li lens] = true := by
      show (plainT (li p) && (plainT (li lens) && true)) = true
      rw [plain_li, plain_li]; rfl
    refine lone_run (M' := ⟨[], 1⟩) hpl ?_ (plain_li _)
    have e0 : (⟨[], 0⟩ : Sto).add (.lst (p.map T.int)) = Ml p := rfl
    have e1 : (⟨[], 0⟩ : Sto).nx = 0 := rfl
    have est : ∀ M, r_spelled_there [li (rgI p.length), li lens] M = .ok (.tup [li s.1, li s.2]) M := fun M => by
      rw [spelled_there_run (by rw [hrl]; exact hl) (by rw [hrl]; exact hn), hs]
    have hsl : s.1.length + s.2.length ≤ 16777216 := by rw [← List.length_append, sp.length_eq, hrl]; omega
    obtain ⟨τ', l1, l2, lp⟩ := put_loop (c := 5) (q := 6) (by decide) (by decide) (by decide) (cs := p) (qs := s.1 ++ s.2) (f := p) (τ := [some (li p), some (li lens), some (.ref 0), some (li s.1), some (li s.2), none, none]) (by simp) (by simp) rfl (fun x hx => by have := mem_rgI.mp (sp.mem_iff.mp hx); omega)
    rw [hR] at lp
    simp only [fnRun, b_set_to_spell, Nat.reduceAdd, Nat.reduceSub, List.replicate, List.map_cons, List.map_nil, List.length_cons, List.length_nil, List.cons_append, List.nil_append, sSeq_run, sExpr_run, sAsg_run, e2_run, eCall_run, eCons_run, eA_run, eNew_run, eLst_run, eNil_run, bind_ok, Nat.zero_le, if_true, e0, e1, Ml_list, eVar_run, List.getElem?_cons_zero, List.getElem?_cons_succ, List.append_nil, check_lengths_run h hl h1, len_li, eLrg1_run, okRg_n (show p.length ≤ 4000 by omega), Int.toNat_natCast, rgT_rgI, est, gTup_run, gCons_run, gN_run, gNil_run, List.set_cons_zero, List.set_cons_succ, sFor_run, iZp_run, add_li hsl, lp, sRet_run, eFrz_run, l2, Ml_frz]
  · have hm : spel R lens = (p.take lens.length, p.drop lens.length) := by
      have e1 := spel_map (f := fun x : Int => (R[x.toNat]?).getD 0) (ls := lens) (left := rgI p.length)
      have e2 : (rgI p.length).map (fun x : Int => (R[x.toNat]?).getD 0) = R := by rw [← hRl]; exact getD_rg
      rw [e2, hs] at e1
      rw [e1, ← se, ← hat, List.map_append]
      have e3 : s.1.length = (s.1.map fun x : Int => (R[x.toNat]?).getD 0).length := by simp
      rw [e3, List.take_left, List.drop_left]
    simp only [r_spelled, fnRun, b_spelled, Nat.reduceAdd, Nat.reduceSub, List.replicate, List.map_cons, List.map_nil, List.length_cons, List.length_nil, List.cons_append, List.nil_append, sSeq_run, sExpr_run, eCall_run, eCons_run, eVar_run, eNil_run, List.getElem?_cons_zero, List.getElem?_cons_succ, bind_ok, List.append_nil, if_true, check_lengths_run hRp (by rw [hRl]; exact hl) h1, sRet_run, spelled_there_run (row := R) (lens := lens) (by rw [hRl]; exact hl) (by rw [hRl]; exact hn), hm]
end TL
end
section
set_option Elab.async false
set_option linter.all false
set_option maxRecDepth 100000
set_option maxHeartbeats 0
/-! S97: steps of the deals. -/
namespace TL
open PySem PySem.Spec PyProof.Rows L2
theorem lrows_lr : ∀ rows : List (List Int), lrows (rows.map fun r => T.lst (r.map T.int)) = some (rows.map fun r => r.map T.int)
  | [] => rfl
  | r :: rows => by
    show (match lrows (rows.map fun r => T.lst (r.map T.int)) with | some l => some (r.map T.int :: l) | none => none) = _
    rw [lrows_lr rows]; rfl
theorem sum_lr {rows : List (List Int)} {M : Sto} (h : rows.flatten.length ≤ 16777216) : kSumL [lr rows, .lst []] M = .ok (li rows.flatten) M := by
  show (match lrows (rows.map fun r => T.lst (r.map T.int)) with | some rr => (if ([] : List T).length + rr.flatten.length ≤ 16777216 then Res.ok (T.lst ([] ++ rr.flatten)) M else .stuck) | none => .stuck) = _
  rw [lrows_lr]
  have e : (rows.map fun r => r.map T.int).flatten = rows.flatten.map T.int := by rw [List.map_flatten]
  show (if ([] : List T).length + ((rows.map fun r => r.map T.int).flatten).length ≤ 16777216 then Res.ok (T.lst ([] ++ (rows.map fun r => r.map T.int).flatten)) M else .stuck) = _
  rw [e, if_pos (by rw [List.length_map, List.length_nil, Nat.zero_add]; exact h)]
  rfl
theorem hps_cols {k : Nat} {p : List Int} : hps k p = (cols k p).map List.reverse := by
  unfold hps cols
  rw [List.map_map]; rfl
/-- a list, back to front, by a slice -/
theorem back_slice {l : List Int} : pickV (l.map T.int) none none (some (-1)) = l.reverse.map T.int := by
  have hs : stepIx none none (some (-1 : Int)) l.length = (List.range l.length).map fun t => l.length - 1 - t := by
    unfold stepIx
    have hb : sliceBounds none none (some (-1 : Int)) l.length = ((l.length : Int) - 1, (-1 : Int), (-1 : Int)) := by
      unfold sliceBounds
      simp
    rw [hb]
    show sliceRange ((l.length : Int) - 1) (-1) (-1) = _
    unfold sliceRange
    simp only [show ¬ ((-1 : Int) > 0) by decide, if_false]
    have ec : (if (l.length : Int) - 1 > -1 then ((l.length : Int) - 1 - -1 - -1 - 1) / - -1 else 0).toNat = l.length := by
      by_cases h : (l.length : Int) - 1 > -1
      · rw [if_pos h, show (- -1 : Int) = 1 by decide, Int.ediv_one]; omega
      · rw [if_neg h]; omega
    rw [ec]
    exact List.map_congr_left fun t ht => by have := List.mem_range.mp ht; omega
  unfold pickV
  rw [List.length_map, hs, List.filterMap_map]
  have : ∀ is : List Nat, (∀ t ∈ is, t < l.length) → is.filterMap ((fun x => (l.map T.int)[x]?) ∘ fun t => l.length - 1 - t) = is.map fun t => T.int ((l.reverse[t]?).getD 0) := fun is => by
    induction is with
    | nil => intro _; rfl
    | cons t is ih =>
      intro h
      have ht := h t List.mem_cons_self
      have e1 : l.reverse[t]? = some (l[l.length - 1 - t]'(by omega)) := by
        rw [List.getElem?_reverse ht, List.getElem?_eq_getElem (by omega)]
      rw [List.filterMap_cons_some (b := T.int (l[l.length - 1 - t]'(by omega))) (by simp [List.getElem?_eq_getElem (show l.length - 1 - t < l.length by omega)]), ih fun u hu => h u (List.mem_cons_of_mem _ hu), List.map_cons, e1]
      rfl
  rw [this _ fun t ht => List.mem_range.mp ht]
  apply List.ext_getElem
  · simp
  · intro i h1 h2
    simp at h1 h2
    simp [h1]
end TL
end
section
set_option Elab.async false
set_option linter.all false
set_option maxRecDepth 100000
set_option maxHeartbeats 0
/-! N97: one of some; the finite parts of the deals. -/
namespace TL
open PySem PySem.Spec PyProof.Rows L2
theorem one_of_run {M : Sto} {n k : Nat} (h : Pu M n k) {xs : List T} (h0 : xs ≠ []) (hl : xs.length < 1000) (hk : k < 900000) :
    r__law_one_of [.ref n, .lst xs] M = .pick xs.length fun d => match xs[d]? with | some t => .ok t (PB M n (k + 1) [] M.nx) | none => .stuck := by
  have hpos := List.length_pos_iff.mpr h0
  have hd : rDraw [.ref n, .int (xs.length : Nat)] M = .pick xs.length fun d => .ok (.int (d : Nat)) (PB M n (k + 1) [] M.nx) := by
    conv => lhs; rw [PB_self h]
    exact draw_run h (m := (xs.length : Int)) (by omega) (by omega) (by omega)
  have hk0 : kLen [.lst xs] M = .ok (.int (xs.length : Nat)) M := rfl
  simp only [r__law_one_of, fnRun, b__law_one_of, Nat.reduceAdd, Nat.reduceSub, List.replicate, List.map_cons, List.map_nil, List.length_cons, List.length_nil, List.cons_append, List.nil_append, sRet_run, e2_run, eCall_run, eCons_run, eA_run, eVar_run, eNil_run, List.getElem?_cons_zero, List.getElem?_cons_succ, bind_ok, List.append_nil, if_true, hk0, r__law_draw, hd, bind_pick]
  congr 1
  funext d
  cases e : xs[d]? with
  | none =>
    have : kIx (.lst xs) (.int (d : Nat)) (PB M n (k + 1) [] M.nx) = .stuck := by
      have hge := List.getElem?_eq_none_iff.mp e
      show (match atI xs (d : Int) with | some t => Res.ok t _ | none => .stuck) = _
      have : atI xs (d : Int) = none := by
        unfold atI ixN
        rw [if_pos (by omega), if_neg (by omega)]
        rfl
      rw [this]
    rw [this]; rfl
  | some t =>
    rw [kIx_li (t := t) (by omega) (by rw [Int.toNat_natCast]; exact e)]
    rfl
end TL
end
section
set_option Elab.async false
set_option linter.all false
set_option maxRecDepth 100000
set_option maxHeartbeats 0
/-! O97: rings of a permutation and of its inverse, in plain numbers. -/
namespace TL
def itf (f : Nat → Nat) : Nat → Nat → Nat
  | 0, x => x
  | i + 1, x => f (itf f i x)
structure Prm (f g : Nat → Nat) (n : Nat) : Prop where
  lt : ∀ x, x < n → f x < n
  lt' : ∀ x, x < n → g x < n
  gf : ∀ x, x < n → g (f x) = x
  fg : ∀ x, x < n → f (g x) = x
theorem Prm.symm {f g : Nat → Nat} {n : Nat} (h : Prm f g n) : Prm g f n := ⟨h.lt', h.lt, h.fg, h.gf⟩
section
variable {f g : Nat → Nat} {n : Nat}
theorem it_lt (h : Prm f g n) {x : Nat} (hx : x < n) : ∀ i, itf f i x < n
  | 0 => hx
  | i + 1 => h.lt _ (it_lt h hx i)
theorem it_add {x : Nat} : ∀ i j, itf f (i + j) x = itf f i (itf f j x)
  | 0, j => by rw [Nat.zero_add]; rfl
  | i + 1, j => by
    rw [show i + 1 + j = (i + j) + 1 by omega]
    show f (itf f (i + j) x) = f (itf f i (itf f j x))
    rw [it_add i j]
theorem it_comm {x : Nat} : ∀ i, f (itf f i x) = itf f i (f x)
  | 0 => rfl
  | i + 1 => by
    show f (f (itf f i x)) = f (itf f i (f x))
    rw [it_comm i]
theorem it_back (h : Prm f g n) {x : Nat} (hx : x < n) : ∀ i, itf g i (itf f i x) = x
  | 0 => rfl
  | i + 1 => by
    show g (itf g i (f (itf f i x))) = x
    rw [it_comm (f := g) i, h.gf _ (it_lt h hx i)]
    exact it_back h hx i
theorem it_inj (h : Prm f g n) {x y : Nat} (hx : x < n) (hy : y < n) {i : Nat} (e : itf f i x = itf f i y) : x = y := by
  rw [← it_back h hx i, e, it_back h hy i]
theorem it_round (h : Prm f g n) {x : Nat} (hx : x < n) : ∃ m, 1 ≤ m ∧ itf f m x = x := by
  have hnot : ¬ ((List.range (n + 1)).map fun i => itf f i x).Nodup := fun nd => by
    have := L2.nat_nodup_len _ (List.range n) nd fun y hy => by
      obtain ⟨i, _, e⟩ := List.mem_map.mp hy
      rw [← e]
      exact List.mem_range.mpr (it_lt h hx i)
    simp at this
    omega
  refine Classical.byContradiction fun no => hnot ?_
  rw [List.Nodup, List.pairwise_map]
  refine List.Pairwise.imp (R := (· < ·)) (fun {i j} (hij : i < j) => ?_) List.pairwise_lt_range
  intro e
  refine no ⟨j - i, by omega, ?_⟩
  have e2 : itf f j x = itf f i (itf f (j - i) x) := by rw [← it_add, show i + (j - i) = j by omega]
  rw [e2] at e
  exact (it_inj h hx (it_lt h hx _) e).symm
/-- the least round -/
structure Rnd (f : Nat → Nat) (x m : Nat) : Prop where
  pos : 1 ≤ m
  at_ : itf f m x = x
  min : ∀ i, 1 ≤ i → i < m → itf f i x ≠ x
theorem rnd_ex (h : Prm f g n) {x : Nat} (hx : x < n) : ∃ m, Rnd f x m := by
  obtain ⟨m, h1, h2⟩ := it_round h hx
  obtain ⟨k, _, ⟨k1, k2⟩, k3⟩ := L2.st_least (p := fun m => 1 ≤ m ∧ itf f m x = x) m ⟨h1, h2⟩
  exact ⟨k, k1, k2, fun i i1 i2 e => k3 i i2 ⟨i1, e⟩⟩
theorem back_at (h : Prm f g n) {x m : Nat} (hx : x < n) (e : itf f m x = x) : itf g m x = x := by
  have := it_back h hx m
  rwa [e] at this
theorem Rnd.back (h : Prm f g n) {x m : Nat} (hx : x < n) (r : Rnd f x m) : Rnd g x m :=
  ⟨r.pos, back_at h hx r.at_, fun i i1 i2 e => r.min i i1 i2 (back_at h.symm hx e)⟩
theorem Rnd.inj (h : Prm f g n) {x m : Nat} (hx : x < n) (r : Rnd f x m) {i j : Nat} (hij : i < j) (hj : j < m) : itf f i x ≠ itf f j x := fun e => by
  have e2 : itf f j x = itf f i (itf f (j - i) x) := by rw [← it_add, show i + (j - i) = j by omega]
  rw [e2] at e
  exact r.min (j - i) (by omega) (by omega) (it_inj h hx (it_lt h hx _) e).symm
/-- the same places are on the ring, whichever way -/
theorem Rnd.same (h : Prm f g n) {x m : Nat} (hx : x < n) (r : Rnd f x m) {y : Nat} : (∃ i, i < m ∧ itf f i x = y) ↔ ∃ i, i < m ∧ itf g i x = y := by
  have key : ∀ {f g : Nat → Nat}, Prm f g n → Rnd f x m → (∃ i, i < m ∧ itf f i x = y) → ∃ i, i < m ∧ itf g i x = y := fun {f g} h r ⟨i, hi, e⟩ => by
    by_cases h0 : i = 0
    · subst h0; exact ⟨0, hi, e⟩
    · refine ⟨m - i, by omega, ?_⟩
      have e2 : itf f (m - i) (itf f i x) = x := by rw [← it_add, show m - i + i = m by omega]; exact r.at_
      have := it_back h (it_lt h hx i) (m - i)
      rw [e2] at this
      rw [this, e]
  exact ⟨key h r, key h.symm (r.back h hx)⟩
end
end TL
end
section
set_option Elab.async false
set_option linter.all false
set_option maxRecDepth 100000
set_option maxHeartbeats 0
/-! T97: moves back. -/
namespace TL
open PySem PySem.Spec PyProof.Rows L2
theorem put_loopV {v c q : Nat} (hc2 : c ≠ v) (hq2 : q ≠ v) (hcq : c ≠ q) : ∀ {cs qs f : List Int} {τ : Tau}, c < τ.length → q < τ.length → τ[v]? = some (some (.ref 0)) → (∀ x ∈ qs, 0 ≤ x ∧ x < f.length) →
    ∃ τ', τ'.length = τ.length ∧ τ'[v]? = some (some (.ref 0)) ∧ forL (gTup 2 (gCons (gN c) (gCons (gN q) gNil))) (sAsg (eVar c) (gAt (eVar v) (eVar q))) (zpL (cs.map T.int) (qs.map T.int)) τ (Ml f) = .ok (.nx τ') (Ml (putL f cs qs))
  | [], _, f, τ, _, _, h2, _ => ⟨τ, rfl, h2, by unfold putL; rfl⟩
  | _ :: _, [], f, τ, _, _, h2, _ => ⟨τ, rfl, h2, by unfold putL; rfl⟩
  | x :: cs, y :: qs, f, τ, hc, hq, h2, hl => by
    obtain ⟨h0, h1⟩ := hl y List.mem_cons_self
    have e2 : ((τ.set c (some (.int x))).set q (some (.int y)))[v]? = some (some (.ref 0)) := by
      rw [List.getElem?_set_ne hq2, List.getElem?_set_ne hc2, h2]
    have ec : ((τ.set c (some (.int x))).set q (some (.int y)))[c]? = some (some (.int x)) := by
      rw [List.getElem?_set_ne (Ne.symm hcq), List.getElem?_set_self hc]
    have eq : ((τ.set c (some (.int x))).set q (some (.int y)))[q]? = some (some (.int y)) := by
      rw [List.getElem?_set_self (by rw [List.length_set]; exact hq)]
    obtain ⟨τ', l1, l2, ih⟩ := put_loopV hc2 hq2 hcq (cs := cs) (qs := qs) (f := f.set y.toNat x) (τ := (τ.set c (some (.int x))).set q (some (.int y))) (by simpa using hc) (by simpa using hq) e2 (fun z hz => by rw [List.length_set]; exact hl z (List.mem_cons_of_mem _ hz))
    refine ⟨τ', by rw [l1]; simp, l2, ?_⟩
    show (Res.bind (gTup 2 (gCons (gN c) (gCons (gN q) gNil)) (.tup [.int x, .int y]) τ (Ml f)) _) = _
    simp only [gTup_run, List.length_cons, List.length_nil, if_true, gCons_run, gN_run, gNil_run, bind_ok, sAsg_run, eVar_run, ec]
    rw [Ml_set h0 h1 (by simp [e2]) (by simp [eq])]
    simp only [bind_ok]
    rw [ih, show putL f (x :: cs) (y :: qs) = putL (f.set y.toNat x) cs qs from by rw [putL]]
theorem enFrom_zp : ∀ (ts : List T) (k : Nat), enFrom k ts = zpL ((List.range' k ts.length).map fun (i : Nat) => T.int (i : Int)) ts
  | [], k => rfl
  | t :: ts, k => by
    rw [List.length_cons, List.range'_succ, List.map_cons]
    show T.tup [.int (k : Nat), t] :: enFrom (k + 1) ts = T.tup [_, t] :: zpL _ ts
    rw [enFrom_zp ts (k + 1)]
theorem en_ints {l : List Int} : enFrom 0 (l.map T.int) = zpL ((rgI l.length).map T.int) (l.map T.int) := by
  rw [enFrom_zp, List.length_map, ← List.range_eq_range']
  unfold rgI
  rw [List.map_map]; rfl
/-- the inverse of a move -/
def invL (mv : List Int) : List Int := putL (List.replicate mv.length 0) (rgI mv.length) mv
theorem move_back_run {mv : List Int} {n : Nat} {M : Sto} (h : mv.Perm (rgI n)) (hn : n ≤ 4000) : r_move_back [li mv] M = .ok (li (invL mv)) M := by
  have hl : mv.length = n := by rw [h.length_eq, rgI_length]
  have hb : ∀ M, r_back_there [li mv] M = .ok (li (invL mv)) M := fun M => by
    have hpl : plainTs [li mv] = true := by
      show (plainT (li mv) && true) = true
      rw [plain_li]; rfl
    refine lone_run (M' := ⟨[], 1⟩) hpl ?_ (plain_li _)
    have e0 : (⟨[], 0⟩ : Sto).add (.lst ((List.replicate mv.length (0 : Int)).map T.int)) = Ml (List.replicate mv.length 0) := rfl
    have e1 : (⟨[], 0⟩ : Sto).nx = 0 := rfl
    have hr : ∀ M, kRep (.lst [.int 0]) (.int (mv.length : Nat)) M = .ok (.lst ((List.replicate mv.length (0 : Int)).map T.int)) M := fun M => by
      show (if (mv.length : Int) < 1000000 ∧ -1000000 < (mv.length : Int) ∧ ([T.int 0] : List T).length * ((mv.length : Nat) : Int).toNat ≤ 16777216 then Res.ok (T.lst (List.replicate ((mv.length : Nat) : Int).toNat [T.int 0]).flatten) M else .stuck) = _
      rw [if_pos ⟨by omega, by omega, by rw [Int.toNat_natCast]; simp; omega⟩, Int.toNat_natCast, List.map_replicate]
      congr 2
      induction mv.length with
      | zero => rfl
      | succ k ih => rw [List.replicate_succ, List.flatten_cons, ih, List.replicate_succ]; rfl
    obtain ⟨τ', l1, l2, lp⟩ := put_loopV (v := 1) (c := 2) (q := 3) (by decide) (by decide) (by decide) (cs := rgI mv.length) (qs := mv) (f := List.replicate mv.length 0) (τ := [some (li mv), some (.ref 0), none, none]) (by simp) (by simp) rfl (fun x hx => by have := mem_rgI.mp (h.mem_iff.mp hx); rw [List.length_replicate]; omega)
    simp only [fnRun, b_back_there, Nat.reduceAdd, Nat.reduceSub, List.replicate, List.map_cons, List.map_nil, List.length_cons, List.length_nil, List.cons_append, List.nil_append, sSeq_run, sAsg_run, eNew_run, e2_run, eLst_run, eCons_run, eC_run, eNil_run, eA_run, eVar_run, List.getElem?_cons_zero, List.getElem?_cons_succ, bind_ok, Nat.reduceLeDiff, Nat.zero_le, if_true, len_li, hr, e0, e1, gN_run, List.set_cons_zero, List.set_cons_succ, sFor_run, iEn_run, en_ints, lp, sRet_run, eFrz_run, l2, Ml_frz]
    rfl
  simp only [r_move_back, fnRun, b_move_back, Nat.reduceAdd, Nat.reduceSub, List.replicate, List.map_cons, List.map_nil, List.length_cons, List.length_nil, List.cons_append, List.nil_append, sSeq_run, sExpr_run, eCall_run, eCons_run, eVar_run, eNil_run, List.getElem?_cons_zero, bind_ok, List.append_nil, if_true, check_move_run h hn, sRet_run, hb]
end TL
end
section
set_option Elab.async false
set_option linter.all false
set_option maxRecDepth 100000
set_option maxHeartbeats 0
/-! U97: a move and its inverse as functions. -/
namespace TL
open PySem PySem.Spec PyProof.Rows L2
def fnL (l : List Int) (x : Nat) : Nat := ((l[x]?).getD 0).toNat
theorem invL_perm {mv : List Int} {n : Nat} (h : mv.Perm (rgI n)) : (invL mv).Perm (rgI n) := by
  have hl : mv.length = n := by rw [h.length_eq, rgI_length]
  unfold invL
  rw [hl]
  exact put_perm h (rgI_length n) (by simp)
theorem perm_lt {l : List Int} {n : Nat} (h : l.Perm (rgI n)) {x : Nat} (hx : x < n) : fnL l x < n ∧ l[x]? = some ((fnL l x : Nat) : Int) := by
  have hl : l.length = n := by rw [h.length_eq, rgI_length]
  have hx' : x < l.length := by omega
  have := mem_rgI.mp (h.mem_iff.mp (List.getElem_mem hx'))
  unfold fnL
  rw [List.getElem?_eq_getElem hx']
  simp only [Option.getD_some, Option.some.injEq]
  omega
theorem prm_of {mv : List Int} {n : Nat} (h : mv.Perm (rgI n)) : Prm (fnL mv) (fnL (invL mv)) n := by
  have hl : mv.length = n := by rw [h.length_eq, rgI_length]
  have hi := invL_perm h
  have hat : mv.map (fun x => ((invL mv)[x.toNat]?).getD 0) = rgI n := by
    have := put_at h (cs := rgI n) (f := List.replicate n 0) (rgI_length n) (by simp)
    unfold invL
    rw [hl]; exact this
  have gf : ∀ x, x < n → fnL (invL mv) (fnL mv x) = x := fun x hx => by
    have hx' : x < mv.length := by omega
    have e := congrArg (·[x]?) hat
    simp only [List.getElem?_map, List.getElem?_eq_getElem hx', Option.map_some] at e
    have e2 : (rgI n)[x]? = some (x : Int) := by simp [rgI, hx]
    rw [e2] at e
    have e := Option.some.inj e
    unfold fnL
    rw [List.getElem?_eq_getElem hx', Option.getD_some, e, Int.toNat_natCast]
  refine ⟨fun x hx => (perm_lt h hx).1, fun x hx => (perm_lt hi hx).1, gf, fun y hy => ?_⟩
  have : ((y : Nat) : Int) ∈ mv := h.mem_iff.mpr (mem_rgI.mpr ⟨by omega, by omega⟩)
  obtain ⟨i, hi', e⟩ := List.getElem_of_mem this
  have ey : fnL mv i = y := by
    unfold fnL
    rw [List.getElem?_eq_getElem hi', Option.getD_some, e, Int.toNat_natCast]
  rw [← ey, gf i (by omega)]
end TL
end
section
set_option Elab.async false
set_option linter.all false
set_option maxRecDepth 100000
set_option maxHeartbeats 0
/-! V97: the order of a move and that of its inverse. -/
namespace TL
open PySem PySem.Spec PyProof.Rows L2
/-! ### greatest common divisors and the fold over rings -/
theorem kMul_sm {i j : Int} {M : Sto} (h1 : i.natAbs.log2 < 500000) (h2 : j.natAbs.log2 < 500000) : kMul (.int i) (.int j) M = .ok (.int (i * j)) M := by
  show (if _ then _ else _) = _
  rw [if_pos (by omega)]
theorem kDiv_sm {i j : Int} {M : Sto} (h : 0 < j) (h2 : j.natAbs.log2 < 9000) : kDiv (.int i) (.int j) M = .ok (.int (i / j)) M := if_pos ⟨h, h2⟩
theorem log_small {n k : Nat} (h : n < 2 ^ k) (hk : 0 < k) : n.log2 < k := by
  by_cases h0 : n = 0
  · subst h0; simpa using hk
  · exact (Nat.log2_lt h0).mpr h
theorem common_loop : ∀ (fuel : Nat) (a b : Int), 0 < a → 0 ≤ b → b < fuel → ∃ d : Int, 0 < d ∧ (0 < b → d ≤ b) ∧ (b = 0 → d = a) ∧
    ∀ M, sWhile (eB (e2 (kVw kNe0) (eVar 1) (eC (.int 0)))) (sPar 0 1 (eCons (eVar 1) (eCons (e2 kMod (eVar 0) (eVar 1)) eNil))) fuel [some (.int a), some (.int b)] M = .ok (.nx [some (.int d), some (.int 0)]) M
  | 0, a, b, ha, hb, hf => by omega
  | fuel + 1, a, b, ha, hb, hf => by
    by_cases h0 : b = 0
    · subst h0
      refine ⟨a, ha, fun h => absurd h (by omega), fun _ => rfl, fun M => ?_⟩
      unfold sWhile
      simp only [eB_run, e2_run, eVar_run, eC_run, List.getElem?_cons_succ, List.getElem?_cons_zero, bind_ok, vNe_int, decide_true, Bool.not_true, Bool.false_eq_true, if_false]
    · have hbp : 0 < b := by omega
      have m0 := Int.emod_nonneg a (show b ≠ 0 by omega)
      have m1 := Int.emod_lt_of_pos a hbp
      obtain ⟨d, d0, d1, d2, d3⟩ := common_loop fuel b (a % b) hbp m0 (by omega)
      refine ⟨d, d0, fun _ => ?_, fun h => absurd h h0, fun M => ?_⟩
      · by_cases hz : a % b = 0
        · rw [d2 hz]; omega
        · have := d1 (by omega); omega
      · unfold sWhile
        simp only [eB_run, e2_run, eVar_run, eC_run, List.getElem?_cons_succ, List.getElem?_cons_zero, bind_ok, vNe_int, h0, decide_false, Bool.not_false, if_true, sPar_run, eCons_run, eNil_run, kMod_pos hbp, List.set_cons_zero, List.set_cons_succ, d3]
theorem common_run {a b : Int} (ha : 0 < a) (hb : 0 < b) (hf : b < 60) : ∃ d : Int, 0 < d ∧ d ≤ b ∧ ∀ M, r_common [.int a, .int b] M = .ok (.int d) M := by
  obtain ⟨d, d0, d1, _, d3⟩ := common_loop 60 a b ha (by omega) (by omega)
  refine ⟨d, d0, d1 hb, fun M => ?_⟩
  simp only [r_common, fnRun, b_common, Nat.reduceAdd, Nat.reduceSub, List.replicate, List.map_cons, List.map_nil, List.length_cons, List.length_nil, List.cons_append, List.nil_append, sSeq_run, d3, bind_ok, sRet_run, eVar_run, List.getElem?_cons_zero]
def ordB : Ev Fl := sAsg (e2 kDiv (e2 kMul (eVar 1) (eA kLen (eCons (eVar 2) eNil))) (eCall 2 [] (r_common) (eCons (eVar 1) (eCons (eA kLen (eCons (eVar 2) eNil)) eNil)))) (gN 1)
theorem ord_fold : ∀ (L : List Nat) (a : Int) (c : Nat), 0 < a → a < 2 ^ c → c + 6 * L.length < 9000 → (∀ x ∈ L, 0 < x ∧ x < 60) →
    ∃ v : Int, ∀ (R : List (List Int)), R.map List.length = L → ∀ (x0 x2 : Option T) (M : Sto), ∃ y2, forL (gN 2) ordB (R.map fun r => T.lst (r.map T.int)) [x0, some (.int a), x2] M = .ok (.nx [x0, some (.int v), y2]) M
  | [], a, c, ha, hc, hl, hx => ⟨a, fun R hR x0 x2 M => by
    have : R = [] := List.map_eq_nil_iff.mp hR
    subst this
    exact ⟨x2, rfl⟩⟩
  | l :: L, a, c, ha, hc, hl, hx => by
    obtain ⟨l0, l1⟩ := hx l List.mem_cons_self
    obtain ⟨d, d0, d1, hd⟩ := common_run (a := a) (b := (l : Int)) ha (by omega) (by omega)
    have hm : 0 < a * (l : Int) := Int.mul_pos ha (by omega)
    have hq0 : 0 < a * (l : Int) / d := by
      have h1 : d ≤ a * (l : Int) := by
        have : (1 : Int) * (l : Int) ≤ a * (l : Int) := Int.mul_le_mul_of_nonneg_right (by omega) (by omega)
        omega
      have h2 := Int.ediv_le_ediv d0 h1
      rw [Int.ediv_self (by omega)] at h2
      omega
    have hq1 : a * (l : Int) / d < 2 ^ (c + 6) := by
      have h1 : a * (l : Int) / d ≤ a * (l : Int) := Int.ediv_le_self _ (by omega)
      have h2 : a * (l : Int) < 2 ^ c * 64 := by
        have h3 : a * (l : Int) ≤ a * 64 := Int.mul_le_mul_of_nonneg_left (by omega) (by omega)
        have h4 : a * 64 < 2 ^ c * 64 := Int.mul_lt_mul_of_pos_right hc (by decide)
        omega
      rw [Int.pow_add]
      omega
    rw [List.length_cons] at hl
    obtain ⟨v, hv⟩ := ord_fold L (a * (l : Int) / d) (c + 6) hq0 hq1 (by omega) fun x h => hx x (List.mem_cons_of_mem _ h)
    refine ⟨v, fun R hR x0 x2 M => ?_⟩
    match R, hR with
    | [], hR => simp at hR
    | r :: R, hR =>
      rw [List.map_cons] at hR
      injection hR with hr hR
      obtain ⟨y2, ih⟩ := hv R hR x0 (some (li r)) M
      refine ⟨y2, ?_⟩
      have ha2 : a.natAbs.log2 < 500000 := by
        have : a.natAbs < 2 ^ c := by
          have h1 : ((a.natAbs : Nat) : Int) < ((2 ^ c : Nat) : Int) := by
            rw [Int.natCast_pow]
            show ((a.natAbs : Nat) : Int) < (2 : Int) ^ c
            omega
          exact_mod_cast h1
        by_cases h0 : 0 < c
        · have := log_small this h0; omega
        · have e : c = 0 := by omega
          subst e
          have : a.natAbs = 0 := by simpa using this
          omega
      have hl2 : ((l : Nat) : Int).natAbs.log2 < 500000 := by
        have := log_small (n := ((l : Nat) : Int).natAbs) (k := 6) (by simp; omega) (by decide)
        omega
      have hd2 : d.natAbs.log2 < 9000 := by
        have := log_small (n := d.natAbs) (k := 6) (by have : (2 : Nat) ^ 6 = 64 := by decide
                                                       omega) (by decide)
        omega
      have hlen : ∀ M, kLen [T.lst (r.map T.int)] M = .ok (.int (l : Nat)) M := fun M => by
        have := len_li (xs := r) (M := M)
        rw [hr] at this
        exact this
      rw [List.map_cons]
      unfold forL
      simp only [gN_run, bind_ok, List.set_cons_succ, List.set_cons_zero]
      have hb : ordB [x0, some (.int a), some (T.lst (r.map T.int))] M = .ok (.nx [x0, some (.int (a * (l : Int) / d)), some (T.lst (r.map T.int))]) M := by
        unfold ordB
        simp only [sAsg_run, e2_run, eA_run, eCall_run, eCons_run, eVar_run, eNil_run, List.getElem?_cons_succ, List.getElem?_cons_zero, bind_ok, hlen, kMul_sm ha2 hl2, List.length_cons, List.length_nil, List.append_nil, Nat.reduceAdd, if_true, hd, kDiv_sm d0 hd2, gN_run, List.set_cons_succ, List.set_cons_zero]
      rw [hb]
      simp only [bind_ok]
      exact ih
/-- the order hangs on the lengths of the rings alone -/
theorem order_same {mv mw : List Int} {R S : List (List Int)} {n : Nat} (hn : n ≤ 4000) (h1 : mv.Perm (rgI n)) (h2 : mw.Perm (rgI n)) (r1 : ∀ M, r_rings_there [li mv] M = .ok (lr R) M) (r2 : ∀ M, r_rings_there [li mw] M = .ok (lr S) M)
    (e : R.map List.length = S.map List.length) (hl : R.length ≤ 1000) (hx : ∀ r ∈ R, 0 < r.length ∧ r.length < 60) : ∃ v : Int, (∀ M, r_order_of [li mv] M = .ok (.int v) M) ∧ ∀ M, r_order_of [li mw] M = .ok (.int v) M := by
  obtain ⟨v, hv⟩ := ord_fold (R.map List.length) 1 1 (by decide) (by decide) (by rw [List.length_map]; omega) fun x hx' => by
    obtain ⟨r, hr, e⟩ := List.mem_map.mp hx'
    rw [← e]; exact hx r hr
  have key : ∀ {mv : List Int} {R' : List (List Int)}, mv.Perm (rgI n) → (∀ M, r_rings_there [li mv] M = .ok (lr R') M) → R'.map List.length = R.map List.length → ∀ M, r_order_of [li mv] M = .ok (.int v) M := fun {mv R'} h r er M => by
    obtain ⟨y2, hf⟩ := hv R' er (some (li mv)) none M
    unfold ordB at hf
    have ht : r_moves_order_there [li mv] M = .ok (.int v) M := by
      simp only [r_moves_order_there, fnRun, b_moves_order_there, Nat.reduceAdd, Nat.reduceSub, List.replicate, List.map_cons, List.map_nil, List.length_cons, List.length_nil, List.cons_append, List.nil_append, sSeq_run, sAsg_run, eC_run, bind_ok, gN_run, List.set_cons_zero, List.set_cons_succ, sFor_run, iLst_run, eCall_run, eCons_run, eVar_run, eNil_run, List.getElem?_cons_zero, List.getElem?_cons_succ, List.append_nil, if_true, r, hf, sRet_run]
    simp only [r_order_of, fnRun, b_order_of, Nat.reduceAdd, Nat.reduceSub, List.replicate, List.map_cons, List.map_nil, List.length_cons, List.length_nil, List.cons_append, List.nil_append, sSeq_run, sExpr_run, sRet_run, eCall_run, eCons_run, eVar_run, eNil_run, List.getElem?_cons_zero, List.getElem?_cons_succ, bind_ok, List.append_nil, if_true, check_move_run h hn, ht]
  exact ⟨v, key h1 r1 rfl, key h2 r2 e.symm⟩
end TL
end
section
set_option Elab.async false
set_option linter.all false
set_option maxRecDepth 100000
set_option maxHeartbeats 0
/-! X97: the rings of a move, as the program finds them. -/
namespace TL
open PySem PySem.Spec PyProof.Rows L2
/-! ### orbits in plain numbers -/
def Orb (f : Nat → Nat) (x y : Nat) : Prop := ∃ i, itf f i x = y
section
variable {f g : Nat → Nat} {n : Nat}
theorem it_mul {x m : Nat} (e : itf f m x = x) : ∀ k, itf f (k * m) x = x
  | 0 => by rw [Nat.zero_mul]; rfl
  | k + 1 => by rw [Nat.succ_mul, it_add, e, it_mul e k]
theorem Orb.trans {x y z : Nat} (a : Orb f x y) (b : Orb f y z) : Orb f x z := by
  obtain ⟨i, e⟩ := a
  obtain ⟨j, e2⟩ := b
  exact ⟨j + i, by rw [it_add, e, e2]⟩
theorem Orb.symm (h : Prm f g n) {x y : Nat} (hx : x < n) (a : Orb f x y) : Orb f y x := by
  obtain ⟨i, e⟩ := a
  obtain ⟨m, r⟩ := rnd_ex h hx
  obtain ⟨m', rfl⟩ : ∃ m', m = m' + 1 := ⟨m - 1, by have := r.pos; omega⟩
  refine ⟨m' * i, ?_⟩
  rw [← e, ← it_add, show m' * i + i = i * (m' + 1) by rw [Nat.mul_comm i, Nat.succ_mul]]
  exact it_mul r.at_ i
theorem Orb.inv (h : Prm f g n) {x y : Nat} (hx : x < n) (a : Orb f x y) : Orb g x y := by
  obtain ⟨i, e⟩ := a
  have hy : y < n := by rw [← e]; exact it_lt h hx i
  have : Orb g y x := ⟨i, by rw [← e]; exact it_back h hx i⟩
  exact this.symm h.symm hy
theorem Rnd.cover {x m y : Nat} (r : Rnd f x m) (a : Orb f x y) : ∃ i, i < m ∧ itf f i x = y := by
  obtain ⟨i, e⟩ := a
  refine ⟨i % m, Nat.mod_lt _ r.pos, ?_⟩
  rw [← e]
  conv => rhs; rw [show i = i % m + (i / m) * m by rw [Nat.mul_comm]; exact (Nat.mod_add_div i m).symm, it_add, it_mul r.at_]
theorem Rnd.uniq {x m k : Nat} (a : Rnd f x m) (b : Rnd f x k) : m = k := by
  rcases Nat.lt_trichotomy m k with h | h | h
  · exact absurd a.at_ (b.min m a.pos h)
  · exact h
  · exact absurd b.at_ (a.min k b.pos h)
theorem Rnd.le (h : Prm f g n) {x m : Nat} (hx : x < n) (r : Rnd f x m) : m ≤ n := by
  have nd : ((List.range m).map fun i => itf f i x).Nodup := by
    rw [List.Nodup, List.pairwise_map]
    exact List.Pairwise.imp_of_mem (R := (· < ·)) (fun {i j} _ hj (hij : i < j) => r.inj h hx hij (List.mem_range.mp hj)) List.pairwise_lt_range
  have := L2.nat_nodup_len _ (List.range n) nd fun y hy => by
    obtain ⟨i, _, e⟩ := List.mem_map.mp hy
    rw [← e]
    exact List.mem_range.mpr (it_lt h hx i)
  simpa using this
end
open Classical in
noncomputable def mOf (f : Nat → Nat) (x : Nat) : Nat := if h : ∃ m, Rnd f x m then Classical.choose h else 0
theorem mOf_rnd {f g : Nat → Nat} {n x : Nat} (h : Prm f g n) (hx : x < n) : Rnd f x (mOf f x) := by
  unfold mOf
  have e := rnd_ex h hx
  rw [dif_pos e]
  exact Classical.choose_spec e
open Classical in
noncomputable def lenAt (f : Nat → Nat) (x : Nat) : List Nat := if (∃ q, q < x ∧ Orb f q x) then [] else [mOf f x]
noncomputable def lensL (f : Nat → Nat) (p : Nat) : List Nat := (List.range p).flatMap (lenAt f)
theorem lensL_succ {f : Nat → Nat} {p : Nat} : lensL f (p + 1) = lensL f p ++ lenAt f p := by
  unfold lensL
  rw [List.range_succ, List.flatMap_append]
  simp
theorem lenAt_inv {f g : Nat → Nat} {n x : Nat} (h : Prm f g n) (hx : x < n) : lenAt f x = lenAt g x := by
  have e1 : (∃ q, q < x ∧ Orb f q x) ↔ ∃ q, q < x ∧ Orb g q x :=
    ⟨fun ⟨q, hq, o⟩ => ⟨q, hq, o.inv h (by omega)⟩, fun ⟨q, hq, o⟩ => ⟨q, hq, o.inv h.symm (by omega)⟩⟩
  have e2 : mOf f x = mOf g x := Rnd.uniq ((mOf_rnd h hx).back h hx) (mOf_rnd h.symm hx)
  unfold lenAt
  by_cases c : ∃ q, q < x ∧ Orb f q x
  · rw [if_pos c, if_pos (e1.mp c)]
  · rw [if_neg c, if_neg fun z => c (e1.mpr z), e2]
theorem lensL_inv {f g : Nat → Nat} {n : Nat} (h : Prm f g n) : ∀ {p : Nat}, p ≤ n → lensL f p = lensL g p
  | 0, _ => rfl
  | p + 1, hp => by rw [lensL_succ, lensL_succ, lensL_inv h (p := p) (by omega), lenAt_inv h (by omega)]
theorem lensL_ok {f g : Nat → Nat} {n : Nat} (h : Prm f g n) : ∀ {p : Nat}, p ≤ n → (lensL f p).length ≤ p ∧ ∀ x ∈ lensL f p, 0 < x ∧ x ≤ n
  | 0, _ => ⟨Nat.le_refl _, fun x hx => absurd hx List.not_mem_nil⟩
  | p + 1, hp => by
    obtain ⟨h1, h2⟩ := lensL_ok h (p := p) (by omega)
    have r := mOf_rnd h (show p < n by omega)
    have h3 : (lenAt f p).length ≤ 1 ∧ ∀ x ∈ lenAt f p, 0 < x ∧ x ≤ n := by
      unfold lenAt
      by_cases c : ∃ q, q < p ∧ Orb f q p
      · rw [if_pos c]; exact ⟨by simp, fun x hx => absurd hx List.not_mem_nil⟩
      · rw [if_neg c]
        exact ⟨by simp, fun x hx => by rw [List.mem_singleton] at hx; rw [hx]; exact ⟨r.pos, r.le h (by omega)⟩⟩
    rw [lensL_succ]
    refine ⟨by rw [List.length_append]; omega, fun x hx => ?_⟩
    rcases List.mem_append.mp hx with hx | hx
    · exact h2 x hx
    · exact h3.2 x hx
/-! ### the store of the walk -/
abbrev nl (l : List Nat) : List Int := l.map fun (y : Nat) => (y : Int)
def SR (S : List Nat) (F : List (List Nat)) (g : List (Nat × MO)) (nx : Nat) : Sto :=
  ⟨(0, .dic (S.map fun (y : Nat) => (Sum.inl (y : Int) : Key)) (S.map fun _ => T.bl true)) :: (1, .lst (F.map fun r => li (nl r))) :: g, nx⟩
section
variable {S : List Nat} {F : List (List Nat)} {g : List (Nat × MO)} {nx a : Nat}
theorem SR_get0 : (SR S F g nx).get 0 = some (.dic (S.map fun (y : Nat) => (Sum.inl (y : Int) : Key)) (S.map fun _ => T.bl true)) := rfl
theorem SR_get1 : (SR S F g nx).get 1 = some (.lst (F.map fun r => li (nl r))) := rfl
theorem SR_hasK : hasK (Sum.inl (a : Int)) (S.map fun (y : Nat) => (Sum.inl (y : Int) : Key)) = decide (a ∈ S) := by
  rw [Bool.eq_iff_iff, hasK_iff, decide_eq_true_eq, List.mem_map]
  constructor
  · rintro ⟨y, hy, e⟩
    injection e with e
    have : y = a := by omega
    rw [← this]; exact hy
  · exact fun h => ⟨a, h, rfl⟩
theorem flat_bls {α : Type} {l : List α} : ∀ t ∈ (l.map fun _ => T.bl true), Pln t := fun t ht => by
  obtain ⟨x, _, e⟩ := List.mem_map.mp ht
  subst e
  exact ⟨rfl, fun xs => ⟨fun e => (nomatch e), fun e => (nomatch e), fun ks e => (nomatch e)⟩⟩
theorem SR_nin : kVw (fun a b => (kIn0 a b).map not) (.int (a : Nat)) (.ref 0) (SR S F g nx) = .ok (.bl (!decide (a ∈ S))) (SR S F g nx) := by
  have e1 : frzD 5 (.ref 0) (SR S F g nx) = some (.dic (S.map fun (y : Nat) => (Sum.inl (y : Int) : Key)) (S.map fun _ => T.bl true), (SR S F g nx).del 0) := by
    show (match (SR S F g nx).get 0 with
      | some (.lst ts) => (match frzM (frzD 4) ts ((SR S F g nx).del 0) with
        | some (us, M') => some (T.lst us, M')
        | none => none)
      | some (.dic ks ts) => (match frzM (frzD 4) ts ((SR S F g nx).del 0) with
        | some (us, M') => some (T.dic ks us, M')
        | none => none)
      | _ => none) = _
    rw [SR_get0]
    simp only [frz_flat flat_bls 3 ((SR S F g nx).del 0)]
  have e2 : frzD 6 (.tup [.int (a : Nat), .ref 0]) (SR S F g nx) = some (.tup [.int (a : Nat), .dic (S.map fun (y : Nat) => (Sum.inl (y : Int) : Key)) (S.map fun _ => T.bl true)], (SR S F g nx).del 0) := by
    show (match frzM (frzD 5) [.int (a : Nat), .ref 0] (SR S F g nx) with
      | some (us, M') => some (T.tup us, M')
      | none => none) = _
    have : frzM (frzD 5) [.int (a : Nat), .ref 0] (SR S F g nx) = some ([.int (a : Nat), .dic (S.map fun (y : Nat) => (Sum.inl (y : Int) : Key)) (S.map fun _ => T.bl true)], (SR S F g nx).del 0) := by
      show (match frzD 5 (.int (a : Nat)) (SR S F g nx) with
        | some (u, M1) => (match frzM (frzD 5) [.ref 0] M1 with
          | some (us, M2) => some (u :: us, M2)
          | none => none)
        | none => none) = _
      have e0 : frzD 5 (.int (a : Nat)) (SR S F g nx) = some (.int (a : Nat), SR S F g nx) := rfl
      rw [e0]
      show (match (match frzD 5 (.ref 0) (SR S F g nx) with
        | some (u, M1) => (match frzM (frzD 5) [] M1 with
          | some (us, M2) => some (u :: us, M2)
          | none => none)
        | none => none) with
          | some (us, M2) => some (T.int (a : Nat) :: us, M2)
          | none => none) = _
      rw [e1]; rfl
    rw [this]
  unfold kVw
  have e3 : ((fun a b => (kIn0 a b).map not) (.int (a : Nat)) (.ref 0) : Option Bool) = none := rfl
  rw [e3, e2]
  show (match (some (hasK (Sum.inl (a : Int)) (S.map fun (y : Nat) => (Sum.inl (y : Int) : Key)))).map not with
    | some c => Res.ok (T.bl c) (SR S F g nx)
    | none => .stuck) = _
  rw [SR_hasK]; rfl
theorem putTs_new {k : Key} {t : T} : ∀ {ks : List Key} {ts : List T}, hasK k ks = false → ks.length = ts.length → putTs k t ks ts = ts ++ [t]
  | [], [], _, _ => rfl
  | [], _ :: _, _, h => by simp at h
  | _ :: _, [], _, h => by simp at h
  | j :: ks, u :: ts, h, hl => by
    unfold hasK at h
    by_cases e : j = k
    · rw [if_pos e] at h; cases h
    · rw [if_neg e] at h
      unfold putTs
      rw [if_neg e, putTs_new h (by simpa using hl)]
      rfl
theorem SR_put {τ : Tau} (ha : a ∉ S) (hl : S.length < 16777216) (h3 : τ[3]? = some (some (.ref 0))) (h6 : τ[6]? = some (some (.int (a : Nat)))) : sAsg (eC (.bl true)) (gAt (eVar 3) (eVar 6)) τ (SR S F g nx) = .ok (.nx τ) (SR (S ++ [a]) F g nx) := by
  have hk : hasK (Sum.inl (a : Int)) (S.map fun (y : Nat) => (Sum.inl (y : Int) : Key)) = false := by rw [SR_hasK]; exact decide_eq_false ha
  have e1 : gAt (eVar 3) (eVar 6) (.bl true) τ (SR S F g nx) = .ok τ (SR (S ++ [a]) F g nx) := by
    unfold gAt
    simp only [eVar_run, h3, h6, bind_ok, SR_get0, toK]
    rw [if_pos (by simpa using hl)]
    unfold putKs
    rw [hk, putTs_new hk (by simp)]
    unfold SR
    rw [List.map_append, List.map_append]
    rfl
  simp only [sAsg_run, eC_run, bind_ok, e1]
theorem SR_add : (SR S F g nx).add (.lst []) = SR S F (g ++ [(nx, .lst [])]) (nx + 1) := rfl
theorem SR_getN {r : List Nat} (hb : Beh 2 nx g) (h2 : 2 ≤ nx) : (SR S F (g ++ [(nx, .lst ((nl r).map T.int))]) (nx + 1)).get nx = some (.lst ((nl r).map T.int)) := by
  show lkM nx ((0, _) :: (1, _) :: (g ++ [(nx, _)])) = _
  have e : ∀ (o o' : MO) (l : List (Nat × MO)), lkM nx ((0, o) :: (1, o') :: l) = lkM nx l := fun o o' l => by
    show (if Nat.beq 0 nx then some o else (if Nat.beq 1 nx then some o' else lkM nx l)) = _
    rw [if_neg fun z => by have := Nat.eq_of_beq_eq_true z; omega, if_neg fun z => by have := Nat.eq_of_beq_eq_true z; omega]
  rw [e, lk_app, lk_beh hb (Nat.le_refl _)]
  show (if Nat.beq nx nx = true then _ else _) = _
  rw [if_pos (Nat.beq_refl _)]
theorem SR_setN {o o' : MO} (hb : Beh 2 nx g) (h2 : 2 ≤ nx) : (SR S F (g ++ [(nx, o)]) (nx + 1)).set nx o' = SR S F (g ++ [(nx, o')]) (nx + 1) := by
  have e : ∀ (u u' : MO) (l : List (Nat × MO)), stM nx o' ((0, u) :: (1, u') :: l) = (0, u) :: (1, u') :: stM nx o' l := fun u u' l => by
    show (if Nat.beq 0 nx then _ else (0, u) :: (if Nat.beq 1 nx then _ else (1, u') :: stM nx o' l)) = _
    rw [if_neg fun z => by have := Nat.eq_of_beq_eq_true z; omega, if_neg fun z => by have := Nat.eq_of_beq_eq_true z; omega]
  unfold SR Sto.set
  simp only [e, st_app_r (lk_beh hb (Nat.le_refl nx))]
  show (⟨(0, _) :: (1, _) :: (g ++ (if Nat.beq nx nx = true then _ else _)), nx + 1⟩ : Sto) = _
  rw [if_pos (Nat.beq_refl _)]
theorem SR_delN {o : MO} (hb : Beh 2 nx g) (h2 : 2 ≤ nx) : (SR S F (g ++ [(nx, o)]) (nx + 1)).del nx = SR S F g (nx + 1) := by
  have e : ∀ (u u' : MO) (l : List (Nat × MO)), dlM nx ((0, u) :: (1, u') :: l) = (0, u) :: (1, u') :: dlM nx l := fun u u' l => by
    show (if Nat.beq 0 nx then _ else (0, u) :: (if Nat.beq 1 nx then _ else (1, u') :: dlM nx l)) = _
    rw [if_neg fun z => by have := Nat.eq_of_beq_eq_true z; omega, if_neg fun z => by have := Nat.eq_of_beq_eq_true z; omega]
  unfold SR Sto.del
  simp only [e, dl_app, dl_none (lk_beh hb (Nat.le_refl nx))]
  show (⟨(0, _) :: (1, _) :: (g ++ (if Nat.beq nx nx = true then _ else _)), nx + 1⟩ : Sto) = _
  rw [if_pos (Nat.beq_refl _)]
  show (⟨(0, _) :: (1, _) :: (g ++ []), nx + 1⟩ : Sto) = _
  rw [List.append_nil]
theorem SR_app {r : List Nat} (hb : Beh 2 nx g) (h2 : 2 ≤ nx) (hr : r.length < 16777216) : kApp (.ref nx) [.int (a : Nat)] (SR S F (g ++ [(nx, .lst ((nl r).map T.int))]) (nx + 1)) = .ok .non (SR S F (g ++ [(nx, .lst ((nl (r ++ [a])).map T.int))]) (nx + 1)) := by
  simp only [kApp, SR_getN hb h2]
  rw [if_pos (by simpa using hr), SR_setN hb h2]
  unfold nl
  rw [List.map_append, List.map_append]
  rfl
theorem SR_ne {r : List Nat} (hb : Beh 2 nx g) (h2 : 2 ≤ nx) : kVw kNe0 (.ref nx) (.lst []) (SR S F (g ++ [(nx, .lst ((nl r).map T.int))]) (nx + 1)) = .ok (.bl (!decide (r = []))) (SR S F (g ++ [(nx, .lst ((nl r).map T.int))]) (nx + 1)) := by
  generalize hM : SR S F (g ++ [(nx, .lst ((nl r).map T.int))]) (nx + 1) = M
  have hg : M.get nx = some (.lst ((nl r).map T.int)) := by rw [← hM]; exact SR_getN hb h2
  have e1 : frzD 5 (.ref nx) M = some (li (nl r), M.del nx) := frz_ref (d := 3) hg pln_ints
  have e2 : frzD 6 (.tup [.ref nx, .lst []]) M = some (.tup [li (nl r), .lst []], M.del nx) := by
    show (match (match frzD 5 (.ref nx) M with
        | some (u, M1) => (match frzM (frzD 5) [.lst []] M1 with
          | some (us, M2) => some (u :: us, M2)
          | none => none)
        | none => none) with
      | some (us, M') => some (T.tup us, M')
      | none => none) = _
    rw [e1]; rfl
  have e3 : kNe0 (li (nl r)) (.lst []) = some (!decide (nl r = [])) := kNe_li (nl r) []
  unfold kVw
  have e4 : kNe0 (.ref nx) (.lst []) = none := rfl
  rw [e4, e2]
  show (match kNe0 (li (nl r)) (.lst []) with
    | some c => Res.ok (T.bl c) M
    | none => .stuck) = _
  rw [e3]
  have : decide (nl r = []) = decide (r = []) := by
    congr 1
    simp
  rw [this]
theorem SR_push {r : List Nat} (hF : F.length < 16777216) : kApp (.ref 1) [li (nl r)] (SR S F g nx) = .ok .non (SR S (F ++ [r]) g nx) := by
  simp only [kApp, SR_get1]
  rw [if_pos (by simpa using hF)]
  unfold SR
  rw [List.map_append]
  rfl
theorem frz_lr (d : Nat) (M : Sto) : ∀ F : List (List Nat), frzM (frzD (d + 2)) (F.map fun r => li (nl r)) M = some (F.map fun r => li (nl r), M)
  | [] => rfl
  | r :: F => by
    have e : frzD (d + 2) (li (nl r)) M = some (li (nl r), M) := by
      show (match frzM (frzD (d + 1)) ((nl r).map T.int) M with
        | some (us, M') => some (T.lst us, M')
        | none => none) = _
      rw [frz_flat pln_ints d M]
    show (match frzD (d + 2) (li (nl r)) M with
      | some (u, M1) => (match frzM (frzD (d + 2)) (F.map fun r => li (nl r)) M1 with
        | some (us, M2) => some (u :: us, M2)
        | none => none)
      | none => none) = _
    rw [e]
    simp only [frz_lr d M F]
    rfl
theorem SR_out : frzD 6 (.ref 1) (SR S F g nx) = some (.lst (F.map fun r => li (nl r)), (SR S F g nx).del 1) := by
  show (match (SR S F g nx).get 1 with
      | some (.lst ts) => (match frzM (frzD 5) ts ((SR S F g nx).del 1) with
        | some (us, M') => some (T.lst us, M')
        | none => none)
      | some (.dic ks ts) => (match frzM (frzD 5) ts ((SR S F g nx).del 1) with
        | some (us, M') => some (T.dic ks us, M')
        | none => none)
      | _ => none) = _
  rw [SR_get1]
  simp only [frz_lr 3]
end
/-! ### the walk -/
def wRing : Ev Fl := (sSeq (sAsg (eC (.bl true)) (gAt (eVar 3) (eVar 6)))
    (sSeq (sExpr (eBm kApp (eVar 5) (eCons (eVar 6) eNil)))
    (sAsg (e2 kIx (eVar 2) (eVar 6)) (gN 6))))
def oPre (f : Nat → Nat) (p i : Nat) : List Nat := (List.range i).map fun j => itf f j p
theorem oPre_succ {f : Nat → Nat} {p i : Nat} : oPre f p (i + 1) = oPre f p i ++ [itf f i p] := by
  unfold oPre
  rw [List.range_succ, List.map_append]; rfl
theorem ring_loop {bk : List Int} {n p m nx : Nat} {S : List Nat} {F : List (List Nat)} {g : List (Nat × MO)} {h' : Nat → Nat} (hbk : bk.Perm (rgI n)) (hn : n ≤ 4000) (pr : Prm (fnL bk) h' n) (hp : p < n) (r : Rnd (fnL bk) p m) (hS : ∀ i, i < m → itf (fnL bk) i p ∉ S) (hSl : S.length ≤ 5000) (hb : Beh 2 nx g) (h2 : 2 ≤ nx) (x0 x1 : Option T) :
    ∀ (k i fuel : Nat), i + k = m → k < fuel → sWhile (eB (e2 (kVw (fun a b => (kIn0 a b).map not)) (eVar 6) (eVar 3))) wRing fuel [x0, x1, some (li bk), some (.ref 0), some (.ref 1), some (.ref nx), some (.int (itf (fnL bk) i p : Nat))] (SR (S ++ oPre (fnL bk) p i) F (g ++ [(nx, .lst ((nl (oPre (fnL bk) p i)).map T.int))]) (nx + 1))
      = .ok (.nx [x0, x1, some (li bk), some (.ref 0), some (.ref 1), some (.ref nx), some (.int (p : Nat))]) (SR (S ++ oPre (fnL bk) p m) F (g ++ [(nx, .lst ((nl (oPre (fnL bk) p m)).map T.int))]) (nx + 1))
  | 0, i, 0, _, hf => absurd hf (Nat.lt_irrefl _)
  | 0, i, fuel + 1, e, hf => by
    rw [Nat.add_zero] at e
    subst e
    have hin : p ∈ S ++ oPre (fnL bk) p i := List.mem_append.mpr (.inr (List.mem_map.mpr ⟨0, List.mem_range.mpr r.pos, rfl⟩))
    rw [r.at_]
    unfold sWhile
    simp only [eB_run, e2_run, eVar_run, List.getElem?_cons_succ, List.getElem?_cons_zero, bind_ok, SR_nin, hin, decide_true, Bool.not_true, Bool.false_eq_true, if_false]
  | k + 1, i, 0, _, hf => absurd hf (Nat.not_lt_zero _)
  | k + 1, i, fuel + 1, e, hf => by
    have hi : i < m := by omega
    have hlt := it_lt pr hp i
    have hnin : itf (fnL bk) i p ∉ S ++ oPre (fnL bk) p i := fun z => by
      rcases List.mem_append.mp z with z | z
      · exact hS i hi z
      · obtain ⟨j, hj, e⟩ := List.mem_map.mp z
        exact r.inj pr hp (List.mem_range.mp hj) hi e
    have hml := r.le pr hp
    have hpl : (oPre (fnL bk) p i).length = i := by simp [oPre]
    have ih := ring_loop hbk hn pr hp r hS hSl hb h2 x0 x1 (F := F) k (i + 1) fuel (by omega) (by omega)
    obtain ⟨l1, l2⟩ := perm_lt hbk hlt
    have hix : ∀ M, kIx (li bk) (.int (itf (fnL bk) i p : Nat)) M = .ok (.int (itf (fnL bk) (i + 1) p : Nat)) M := fun M => kIx_li (by omega) (by rw [Int.toNat_natCast, List.getElem?_map, l2]; rfl)
    have hput := SR_put (S := S ++ oPre (fnL bk) p i) (F := F) (g := g ++ [(nx, .lst ((nl (oPre (fnL bk) p i)).map T.int))]) (nx := nx + 1) (τ := [x0, x1, some (li bk), some (.ref 0), some (.ref 1), some (.ref nx), some (.int (itf (fnL bk) i p : Nat))]) hnin (by rw [List.length_append]; omega) rfl rfl
    have hisl : isL (.ref nx) (SR ((S ++ oPre (fnL bk) p i) ++ [itf (fnL bk) i p]) F (g ++ [(nx, .lst ((nl (oPre (fnL bk) p i)).map T.int))]) (nx + 1)) = true := isL_ref (SR_getN hb h2)
    unfold sWhile
    simp only [eB_run, e2_run, eVar_run, List.getElem?_cons_succ, List.getElem?_cons_zero, bind_ok, SR_nin, hnin, decide_false, Bool.not_false, if_true]
    have hbody : wRing [x0, x1, some (li bk), some (.ref 0), some (.ref 1), some (.ref nx), some (.int (itf (fnL bk) i p : Nat))] (SR (S ++ oPre (fnL bk) p i) F (g ++ [(nx, .lst ((nl (oPre (fnL bk) p i)).map T.int))]) (nx + 1)) = .ok (.nx [x0, x1, some (li bk), some (.ref 0), some (.ref 1), some (.ref nx), some (.int (itf (fnL bk) (i + 1) p : Nat))]) (SR (S ++ oPre (fnL bk) p (i + 1)) F (g ++ [(nx, .lst ((nl (oPre (fnL bk) p (i + 1))).map T.int))]) (nx + 1)) := by
      rw [oPre_succ, ← List.append_assoc]
      unfold wRing
      rw [sSeq_run, hput]
      simp only [bind_ok, sSeq_run, sExpr_run, eBm_run, eVar_run, List.getElem?_cons_succ, List.getElem?_cons_zero, hisl, if_true, eCons_run, eNil_run, SR_app hb h2 (show (oPre (fnL bk) p i).length < 16777216 by omega), sAsg_run, e2_run, hix, gN_run, List.set_cons_succ, List.set_cons_zero]
    rw [hbody]
    simp only [bind_ok]
    exact ih
def bRing : Ev Fl := (sSeq (sPar 5 6 (eCons (eNew (eLst eNil)) (eCons (eVar 1) eNil)))
    (sSeq (sWhile (eB (e2 (kVw (fun a b => (kIn0 a b).map not)) (eVar 6) (eVar 3))) wRing 60)
    (sIf (eB (e2 (kVw kNe0) (eVar 5) (eLst eNil))) (sExpr (eBm kApp (eVar 4) (eCons (eFrz (eVar 5)) eNil))) sNil)))
theorem rings_loop {bk : List Int} {n : Nat} {h' : Nat → Nat} (hbk : bk.Perm (rgI n)) (hn : n < 60) (pr : Prm (fnL bk) h' n) (x0 : Option T) : ∀ (k p : Nat) (S : List Nat) (F : List (List Nat)) (g : List (Nat × MO)) (nx : Nat) (x1 x5 x6 : Option T), p + k = n → (∀ y, y ∈ S ↔ ∃ q, q < p ∧ Orb (fnL bk) q y) → S.length ≤ p * n → F.map List.length = lensL (fnL bk) p → F.length ≤ p → Beh 2 nx g → 2 ≤ nx →
    ∃ F' S' g' nx' y1 y5 y6, F'.map List.length = lensL (fnL bk) n ∧ forL (gN 1) bRing ((List.range' p k).map fun (i : Nat) => T.int (i : Int)) [x0, x1, some (li bk), some (.ref 0), some (.ref 1), x5, x6] (SR S F g nx) = .ok (.nx [x0, y1, some (li bk), some (.ref 0), some (.ref 1), y5, y6]) (SR S' F' g' nx')
  | 0, p, S, F, g, nx, x1, x5, x6, e, hS, hSl, hF, hFl, hb, h2 => by
    have : p = n := by omega
    subst this
    exact ⟨F, S, g, nx, x1, x5, x6, hF, rfl⟩
  | k + 1, p, S, F, g, nx, x1, x5, x6, e, hS, hSl, hF, hFl, hb, h2 => by
    have hp : p < n := by omega
    have hb1 : Beh 2 (nx + 1) (g ++ [(nx, MO.lst [])]) := fun q hq => by
      rcases List.mem_append.mp hq with hq | hq
      · have := hb q hq; omega
      · rw [List.mem_singleton] at hq; subst hq; exact ⟨h2, Nat.lt_succ_self _⟩
    have hb2 : Beh 2 (nx + 1) g := fun q hq => by have := hb q hq; omega
    have hSl5 : S.length ≤ 5000 := by
      have : p * n ≤ 59 * 59 := Nat.mul_le_mul (by omega) (by omega)
      omega
    rw [List.range'_succ, List.map_cons]
    unfold forL
    simp only [gN_run, bind_ok, List.set_cons_succ, List.set_cons_zero]
    by_cases c : p ∈ S
    · have cq := (hS p).mp c
      have hS' : ∀ y, y ∈ S ↔ ∃ q, q < p + 1 ∧ Orb (fnL bk) q y := fun y => by
        rw [hS y]
        constructor
        · rintro ⟨q, hq, o⟩; exact ⟨q, by omega, o⟩
        · rintro ⟨q, hq, o⟩
          rcases Nat.lt_or_ge q p with h | h
          · exact ⟨q, h, o⟩
          · have : q = p := by omega
            subst this
            obtain ⟨q', hq', o'⟩ := cq
            exact ⟨q', hq', o'.trans o⟩
      have hlen : lensL (fnL bk) (p + 1) = lensL (fnL bk) p := by
        rw [lensL_succ]
        unfold lenAt
        rw [if_pos cq, List.append_nil]
      obtain ⟨F', S', g', nx', y1, y5, y6, f1, f2⟩ := rings_loop hbk hn pr x0 k (p + 1) S F (g ++ [(nx, MO.lst [])]) (nx + 1) (some (.int (p : Nat))) (some (.ref nx)) (some (.int (p : Nat))) (by omega) hS' (by rw [Nat.succ_mul]; omega) (by rw [hlen]; exact hF) (by omega) hb1 (by omega)
      refine ⟨F', S', g', nx', y1, y5, y6, f1, ?_⟩
      have hw : sWhile (eB (e2 (kVw (fun a b => (kIn0 a b).map not)) (eVar 6) (eVar 3))) wRing 60 [x0, some (.int (p : Nat)), some (li bk), some (.ref 0), some (.ref 1), some (.ref nx), some (.int (p : Nat))] (SR S F (g ++ [(nx, MO.lst [])]) (nx + 1)) = .ok (.nx [x0, some (.int (p : Nat)), some (li bk), some (.ref 0), some (.ref 1), some (.ref nx), some (.int (p : Nat))]) (SR S F (g ++ [(nx, MO.lst [])]) (nx + 1)) := by
        unfold sWhile
        simp only [eB_run, e2_run, eVar_run, List.getElem?_cons_succ, List.getElem?_cons_zero, bind_ok, SR_nin, c, decide_true, Bool.not_true, Bool.false_eq_true, if_false]
      have hne : kVw kNe0 (.ref nx) (.lst []) (SR S F (g ++ [(nx, MO.lst [])]) (nx + 1)) = .ok (.bl false) (SR S F (g ++ [(nx, MO.lst [])]) (nx + 1)) := SR_ne (r := []) hb h2
      have hbody : bRing [x0, some (.int (p : Nat)), some (li bk), some (.ref 0), some (.ref 1), x5, x6] (SR S F g nx) = .ok (.nx [x0, some (.int (p : Nat)), some (li bk), some (.ref 0), some (.ref 1), some (.ref nx), some (.int (p : Nat))]) (SR S F (g ++ [(nx, MO.lst [])]) (nx + 1)) := by
        unfold bRing
        have hnx : (SR S F g nx).nx = nx := rfl
        simp only [sSeq_run, sPar_run, eCons_run, eNew_run, eLst_run, eNil_run, bind_ok, List.length_nil, Nat.zero_le, if_true, hnx, SR_add, eVar_run, List.getElem?_cons_succ, List.getElem?_cons_zero, List.set_cons_succ, List.set_cons_zero, hw, sIf_run, eB_run, e2_run, hne, Bool.false_eq_true, if_false, sNil_run]
      rw [hbody]
      simp only [bind_ok]
      exact f2
    · have cq : ¬ ∃ q, q < p ∧ Orb (fnL bk) q p := fun z => c ((hS p).mpr z)
      have r := mOf_rnd pr hp
      have hml := r.le pr hp
      have hnot : ∀ i, i < mOf (fnL bk) p → itf (fnL bk) i p ∉ S := fun i hi z => by
        obtain ⟨q, hq, o⟩ := (hS _).mp z
        have o2 : Orb (fnL bk) p (itf (fnL bk) i p) := ⟨i, rfl⟩
        exact cq ⟨q, hq, o.trans (o2.symm pr hp)⟩
      have hpl : (oPre (fnL bk) p (mOf (fnL bk) p)).length = mOf (fnL bk) p := by simp [oPre]
      have hS' : ∀ y, y ∈ S ++ oPre (fnL bk) p (mOf (fnL bk) p) ↔ ∃ q, q < p + 1 ∧ Orb (fnL bk) q y := fun y => by
        rw [List.mem_append, hS y]
        constructor
        · rintro (⟨q, hq, o⟩ | h)
          · exact ⟨q, by omega, o⟩
          · obtain ⟨j, _, e⟩ := List.mem_map.mp h
            exact ⟨p, Nat.lt_succ_self _, j, e⟩
        · rintro ⟨q, hq, o⟩
          rcases Nat.lt_or_ge q p with h | h
          · exact .inl ⟨q, h, o⟩
          · have : q = p := by omega
            subst this
            obtain ⟨i, hi, e⟩ := r.cover o
            exact .inr (List.mem_map.mpr ⟨i, List.mem_range.mpr hi, e⟩)
      have hlen : lensL (fnL bk) (p + 1) = lensL (fnL bk) p ++ [mOf (fnL bk) p] := by
        rw [lensL_succ]
        unfold lenAt
        rw [if_neg cq]
      obtain ⟨F', S', g', nx', y1, y5, y6, f1, f2⟩ := rings_loop hbk hn pr x0 k (p + 1) (S ++ oPre (fnL bk) p (mOf (fnL bk) p)) (F ++ [oPre (fnL bk) p (mOf (fnL bk) p)]) g (nx + 1) (some (.int (p : Nat))) (some (.ref nx)) (some (.int (p : Nat))) (by omega) hS' (by rw [List.length_append, Nat.succ_mul]; omega) (by rw [hlen, List.map_append, hF, List.map_cons, List.map_nil, hpl]) (by rw [List.length_append]; simp; omega) hb2 (by omega)
      refine ⟨F', S', g', nx', y1, y5, y6, f1, ?_⟩
      have hw := ring_loop hbk (by omega) pr hp r hnot hSl5 hb h2 x0 (some (.int (p : Nat))) (F := F) (mOf (fnL bk) p) 0 60 (by omega) (by omega)
      have e0 : oPre (fnL bk) p 0 = [] := rfl
      rw [e0, List.append_nil] at hw
      have e1 : itf (fnL bk) 0 p = p := rfl
      rw [e1] at hw
      have hw : sWhile (eB (e2 (kVw (fun a b => (kIn0 a b).map not)) (eVar 6) (eVar 3))) wRing 60 [x0, some (.int (p : Nat)), some (li bk), some (.ref 0), some (.ref 1), some (.ref nx), some (.int (p : Nat))] (SR S F (g ++ [(nx, MO.lst [])]) (nx + 1)) = .ok (.nx [x0, some (.int (p : Nat)), some (li bk), some (.ref 0), some (.ref 1), some (.ref nx), some (.int (p : Nat))]) (SR (S ++ oPre (fnL bk) p (mOf (fnL bk) p)) F (g ++ [(nx, MO.lst ((nl (oPre (fnL bk) p (mOf (fnL bk) p))).map T.int))]) (nx + 1)) := hw
      have hrne : oPre (fnL bk) p (mOf (fnL bk) p) ≠ [] := fun z => by
        have := congrArg List.length z
        rw [hpl] at this
        have := r.pos
        simp at *
        omega
      have hisl : isL (.ref 1) (SR (S ++ oPre (fnL bk) p (mOf (fnL bk) p)) F (g ++ [(nx, MO.lst ((nl (oPre (fnL bk) p (mOf (fnL bk) p))).map T.int))]) (nx + 1)) = true := isL_ref SR_get1
      have hfz : frzD 6 (.ref nx) (SR (S ++ oPre (fnL bk) p (mOf (fnL bk) p)) F (g ++ [(nx, MO.lst ((nl (oPre (fnL bk) p (mOf (fnL bk) p))).map T.int))]) (nx + 1)) = some (li (nl (oPre (fnL bk) p (mOf (fnL bk) p))), SR (S ++ oPre (fnL bk) p (mOf (fnL bk) p)) F g (nx + 1)) := by
        rw [frz_ref (d := 4) (SR_getN hb h2) pln_ints, SR_delN hb h2]
      have hbody : bRing [x0, some (.int (p : Nat)), some (li bk), some (.ref 0), some (.ref 1), x5, x6] (SR S F g nx) = .ok (.nx [x0, some (.int (p : Nat)), some (li bk), some (.ref 0), some (.ref 1), some (.ref nx), some (.int (p : Nat))]) (SR (S ++ oPre (fnL bk) p (mOf (fnL bk) p)) (F ++ [oPre (fnL bk) p (mOf (fnL bk) p)]) g (nx + 1)) := by
        unfold bRing
        have hnx : (SR S F g nx).nx = nx := rfl
        simp only [sSeq_run, sPar_run, eCons_run, eNew_run, eLst_run, eNil_run, bind_ok, List.length_nil, Nat.zero_le, if_true, hnx, SR_add, eVar_run, List.getElem?_cons_succ, List.getElem?_cons_zero, List.set_cons_succ, List.set_cons_zero, hw, sIf_run, eB_run, e2_run, SR_ne hb h2, hrne, decide_false, Bool.not_false, sExpr_run, eBm_run, hisl, eFrz_run, hfz, SR_push (show F.length < 16777216 by omega)]
      rw [hbody]
      simp only [bind_ok]
      exact f2
theorem back_there_run {mv : List Int} {n : Nat} (h : mv.Perm (rgI n)) (hn : n ≤ 4000) : ∀ M, r_back_there [li mv] M = .ok (li (invL mv)) M := fun M => by
  have hl : mv.length = n := by rw [h.length_eq, rgI_length]
  have hpl : plainTs [li mv] = true := by
    show (plainT (li mv) && true) = true
    rw [plain_li]; rfl
  refine lone_run (M' := ⟨[], 1⟩) hpl ?_ (plain_li _)
  have e0 : (⟨[], 0⟩ : Sto).add (.lst ((List.replicate mv.length (0 : Int)).map T.int)) = Ml (List.replicate mv.length 0) := rfl
  have e1 : (⟨[], 0⟩ : Sto).nx = 0 := rfl
  have hr : ∀ M, kRep (.lst [.int 0]) (.int (mv.length : Nat)) M = .ok (.lst ((List.replicate mv.length (0 : Int)).map T.int)) M := fun M => by
    show (if (mv.length : Int) < 1000000 ∧ -1000000 < (mv.length : Int) ∧ ([T.int 0] : List T).length * ((mv.length : Nat) : Int).toNat ≤ 16777216 then Res.ok (T.lst (List.replicate ((mv.length : Nat) : Int).toNat [T.int 0]).flatten) M else .stuck) = _
    rw [if_pos ⟨by omega, by omega, by rw [Int.toNat_natCast]; simp; omega⟩, Int.toNat_natCast, List.map_replicate]
    congr 2
    induction mv.length with
    | zero => rfl
    | succ k ih => rw [List.replicate_succ, List.flatten_cons, ih, List.replicate_succ]; rfl
  obtain ⟨τ', l1, l2, lp⟩ := put_loopV (v := 1) (c := 2) (q := 3) (by decide) (by decide) (by decide) (cs := rgI mv.length) (qs := mv) (f := List.replicate mv.length 0) (τ := [some (li mv), some (.ref 0), none, none]) (by simp) (by simp) rfl (fun x hx => by have := mem_rgI.mp (h.mem_iff.mp hx); rw [List.length_replicate]; omega)
  simp only [fnRun, b_back_there, Nat.reduceAdd, Nat.reduceSub, List.replicate, List.map_cons, List.map_nil, List.length_cons, List.length_nil, List.cons_append, List.nil_append, sSeq_run, sAsg_run, eNew_run, e2_run, eLst_run, eCons_run, eC_run, eNil_run, eA_run, eVar_run, List.getElem?_cons_zero, List.getElem?_cons_succ, bind_ok, Nat.reduceLeDiff, Nat.zero_le, if_true, len_li, hr, e0, e1, gN_run, List.set_cons_zero, List.set_cons_succ, sFor_run, iEn_run, en_ints, lp, sRet_run, eFrz_run, l2, Ml_frz]
  all_goals rfl
theorem rings_run {mv : List Int} {n : Nat} (h : mv.Perm (rgI n)) (hn : n < 60) : ∃ R : List (List Int), (∀ M, r_rings_there [li mv] M = .ok (lr R) M) ∧ R.map List.length = lensL (fnL (invL mv)) n := by
  have hl : mv.length = n := by rw [h.length_eq, rgI_length]
  have hi := invL_perm h
  obtain ⟨F', S', g', nx', y1, y5, y6, f1, f2⟩ := rings_loop hi hn (prm_of h).symm (some (li mv)) n 0 [] [] [] 2 none none none (by omega) (fun y => ⟨fun z => absurd z List.not_mem_nil, fun ⟨q, hq, _⟩ => absurd hq (Nat.not_lt_zero _)⟩) (by simp) rfl (by simp) (fun p hp => absurd hp List.not_mem_nil) (Nat.le_refl _)
  refine ⟨F'.map nl, fun M => ?_, ?_⟩
  · have hpl : plainTs [li mv] = true := by
      show (plainT (li mv) && true) = true
      rw [plain_li]; rfl
    have hpo : plainT (lr (F'.map nl)) = true := plain_lr _
    refine lone_run (M' := (SR S' F' g' nx').del 1) hpl ?_ hpo
    have eD : ∀ (τ : Tau) M, eDnew τ M = .ok (.dic [] []) M := fun _ _ => rfl
    have e0 : ((⟨[], 0⟩ : Sto).add (.dic [] [])).add (.lst []) = SR [] [] [] 2 := rfl
    have e1 : (⟨[], 0⟩ : Sto).nx = 0 := rfl
    have e2 : ((⟨[], 0⟩ : Sto).add (.dic [] [])).nx = 1 := rfl
    have hrg : rgT 0 n = (List.range' 0 n).map fun (i : Nat) => T.int (i : Int) := by
      rw [← List.range_eq_range', rgT_rgI]
      unfold rgI
      rw [List.map_map]; rfl
    have hout : frzD 6 (.ref 1) (SR S' F' g' nx') = some (lr (F'.map nl), (SR S' F' g' nx').del 1) := by
      rw [SR_out]
      unfold lr
      rw [List.map_map]; rfl
    rw [← hrg] at f2
    unfold bRing wRing at f2
    simp only [fnRun, b_rings_there, Nat.reduceAdd, Nat.reduceSub, List.replicate, List.map_cons, List.map_nil, List.length_cons, List.length_nil, List.cons_append, List.nil_append, sSeq_run, sPar3_run, eCons_run, eCall_run, eNew_run, eLst_run, eNil_run, eVar_run, eA_run, List.getElem?_cons_zero, List.getElem?_cons_succ, bind_ok, List.append_nil, if_true, Nat.zero_le, back_there_run h (show n ≤ 4000 by omega), eD, e1, e2, e0, List.set_cons_zero, List.set_cons_succ, sFor_run, iRg1_run, len_li, hl]
    rw [if_pos ⟨by omega, by omega⟩]
    simp only [bind_ok, Int.toNat_natCast, f2, sRet_run, eFrz_run, eVar_run, List.getElem?_cons_zero, List.getElem?_cons_succ, hout]
  · rw [List.map_map, ← f1]
    exact List.map_congr_left fun r _ => by simp [nl]
/-- a move and its inverse are of the same order -/
theorem order_back {mv : List Int} {n : Nat} (h : mv.Perm (rgI n)) (hn : n < 60) : ∃ v : Int, (∀ M, r_order_of [li mv] M = .ok (.int v) M) ∧ ∀ M, r_order_of [li (invL mv)] M = .ok (.int v) M := by
  have hi := invL_perm h
  obtain ⟨R, r1, l1⟩ := rings_run h hn
  obtain ⟨S, s1, m1⟩ := rings_run hi hn
  have p1 := (prm_of h).symm
  have p2 := (prm_of hi).symm
  have hfn : ∀ x, x < n → fnL (invL (invL mv)) x = fnL mv x := fun x hx => by
    have a1 := (prm_of hi).gf
    have a2 := (prm_of h).gf
    have hlt := (prm_of h).lt x hx
    have := a1 (fnL mv x) hlt
    rw [a2 x hx] at this
    exact this
  have hit : ∀ i x, x < n → itf (fnL (invL (invL mv))) i x = itf (fnL mv) i x := fun i => by
    induction i with
    | zero => intro x hx; rfl
    | succ i ih =>
      intro x hx
      show fnL (invL (invL mv)) (itf (fnL (invL (invL mv))) i x) = fnL mv (itf (fnL mv) i x)
      rw [ih x hx]
      exact hfn _ (it_lt (prm_of h) hx i)
  have e : R.map List.length = S.map List.length := by
    rw [l1, m1, lensL_inv p1 (Nat.le_refl n)]
    have : ∀ p, p ≤ n → lensL (fnL mv) p = lensL (fnL (invL (invL mv))) p := fun p => by
      induction p with
      | zero => intro _; rfl
      | succ p ih =>
        intro hp
        have hp' : p < n := by omega
        rw [lensL_succ, lensL_succ, ih (by omega)]
        congr 1
        have e1 : (∃ q, q < p ∧ Orb (fnL mv) q p) ↔ ∃ q, q < p ∧ Orb (fnL (invL (invL mv))) q p :=
          ⟨fun ⟨q, hq, i, o⟩ => ⟨q, hq, i, by rw [hit i q (by omega)]; exact o⟩, fun ⟨q, hq, i, o⟩ => ⟨q, hq, i, by rw [← hit i q (by omega)]; exact o⟩⟩
        have r1 := mOf_rnd (prm_of h) hp'
        have r2 := mOf_rnd p2 hp'
        have e2 : mOf (fnL mv) p = mOf (fnL (invL (invL mv))) p := Rnd.uniq r1 ⟨r2.pos, by rw [← hit _ p hp']; exact r2.at_, fun i i1 i2 => by rw [← hit _ p hp']; exact r2.min i i1 i2⟩
        unfold lenAt
        by_cases c : ∃ q, q < p ∧ Orb (fnL mv) q p
        · rw [if_pos c, if_pos (e1.mp c)]
        · rw [if_neg c, if_neg fun z => c (e1.mpr z), e2]
    exact this n (Nat.le_refl n)
  have ok := lensL_ok p1 (Nat.le_refl n)
  refine order_same (by omega) h hi r1 s1 e ?_ fun r hr => ?_
  · have := congrArg List.length l1
    rw [List.length_map] at this
    omega
  · have : r.length ∈ lensL (fnL (invL mv)) n := by rw [← l1]; exact List.mem_map_of_mem hr
    have := ok.2 _ this
    omega
end TL
end
section
set_option Elab.async false
set_option linter.all false
set_option maxRecDepth 100000
set_option maxHeartbeats 0
/-! R97: rings, gone through (printed by r97.py). -/
namespace TL
open PySem PySem.Spec PyProof.Rows L2
def rA34 : Ev Fl := sSeq (sAsg (eCall 2 [] (r_pack_of_ring) (eCons (eVar 1) (eCons (eC (.int 13)) eNil))) (gN 2)) (sIf (eOr (eB (e2 (kVw kNe0) (eCall 2 [] (r_suits_of) (eCons (eVar 2) (eCons (eC (.int 13)) eNil))) (eVar 1))) (eOr (eB (e2 kNotN (eCall 4 [] (r_tells_by) (eCons (eVar 2) (eCons (eC (.int 13)) (eCons (eC (.str ⟨#[115, 117, 105, 116, 115]⟩)) (eCons (eVar 7) eNil))))) (eC (.bl true)))) (eB (eCall 2 [] (r_does_tell) (eCons (eVar 1) (eCons (e2 kSub (eVar 7) (eC (.int 1))) eNil)))))) (sRet (eC (.bl false))) sNil)
def rS2 : Ev Fl := sSeq (sAsg (eCall 2 [] (r_cut_by) (eCons (eVar 2) (eCons (eVar 3) eNil))) (gN 4)) (sSeq (sIf (eOr (eB (e2 (kVw kNe0) (eVar 4) (eCall 2 [] (r_moved) (eCons (eVar 2) (eCons (eCall 2 [] (r_cut_move) (eCons (eA kLen (eCons (eVar 2) eNil)) (eCons (eVar 3) eNil))) eNil))))) (eB (e2 kNotN (eCall 4 [] (r_tells_by) (eCons (eVar 4) (eCons (eC (.int 13)) (eCons (eC (.str ⟨#[115, 117, 105, 116, 115]⟩)) (eCons (eVar 7) eNil))))) (eC (.bl true))))) (sRet (eC (.bl false))) sNil) (sSeq (sAsg (eCall 2 [] (r_suits_of) (eCons (eSl (eVar 4) eNone (ePart (eVar 7))) (eCons (eC (.int 13)) eNil))) (gN 5)) (sRet (vAnd (e2 (kVw kEq0) (eCall 4 [] (r_cards_for) (eCons (eVar 2) (eCons (eC (.int 13)) (eCons (eC (.str ⟨#[115, 117, 105, 116, 115]⟩)) (eCons (eVar 5) eNil))))) (eSl (eVar 4) eNone (ePart (eC (.int 1))))) (vAnd (e2 (kVw kEq0) (eComp (iLst (eCall 2 [] (r_places_for) (eCons (eVar 1) (eCons (eVar 5) eNil)))) (gN 8) cYes (e2 kIx (eVar 2) (eVar 8)) [8]) (eSl (eVar 4) eNone (ePart (eC (.int 1))))) (e2 (kVw kEq0) (eCall 2 [] (r_all_in_turn) (eCons (eA kLen (eCons (eVar 2) eNil)) (eCons (eLst eNil) eNil))) (eCall 1 [] (r_whole_pack) (eCons (eA kLen (eCons (eVar 2) eNil)) eNil))))))))
def rA1 : Ev Fl := (sAsg (eCall 2 [] (r__law_one_of) (eCons (eVar 0) (eCons (eLst (eCons (eTup (eCons (eC (.int 2)) (eCons (eC (.int 3)) eNil))) (eCons (eTup (eCons (eC (.int 2)) (eCons (eC (.int 4)) eNil))) (eCons (eTup (eCons (eC (.int 3)) (eCons (eC (.int 2)) eNil))) (eCons (eTup (eCons (eC (.int 4)) (eCons (eC (.int 2)) eNil))) eNil))))) eNil))) (gTup 2 (gCons (gN 6) (gCons (gN 7) gNil))))
def rA2 : Ev Fl := (sAsg (eCall 2 [] (r__law_one_of) (eCons (eVar 0) (eCons (eLst (eCons (eCall 2 [] (r_greedy_ring) (eCons (eVar 6) (eCons (eVar 7) eNil))) (eCons (eCall 2 [] (r_least_ring) (eCons (eVar 6) (eCons (eVar 7) eNil))) eNil))) eNil))) (gN 1))
def rA5 : Ev Fl := (sAsg (eCall 2 [] (r__law_draw) (eCons (eVar 0) (eCons (eA kLen (eCons (eVar 2) eNil)) eNil))) (gN 3))
theorem rings_eq : b__law_rings_right = sSeq rA1 (sSeq rA2 (sSeq (sAsg (eCall 2 [] (r_pack_of_ring) (eCons (eVar 1) (eCons (eC (.int 13)) eNil))) (gN 2)) (sSeq (sIf (eOr (eB (e2 (kVw kNe0) (eCall 2 [] (r_suits_of) (eCons (eVar 2) (eCons (eC (.int 13)) eNil))) (eVar 1))) (eOr (eB (e2 kNotN (eCall 4 [] (r_tells_by) (eCons (eVar 2) (eCons (eC (.int 13)) (eCons (eC (.str ⟨#[115, 117, 105, 116, 115]⟩)) (eCons (eVar 7) eNil))))) (eC (.bl true)))) (eB (eCall 2 [] (r_does_tell) (eCons (eVar 1) (eCons (e2 kSub (eVar 7) (eC (.int 1))) eNil)))))) (sRet (eC (.bl false))) sNil) (sSeq rA5 rS2)))) := rfl
theorem v_greedy_0 (M : Sto) : r_greedy_ring [.int 2, .int 3] M = .ok (li [0, 0, 0, 1, 1, 1, 0, 1]) M := by kernel_rfl
theorem a_0_0 (n : Nat) (M : Sto) : rA34 [some (.ref n), some (li [0, 0, 0, 1, 1, 1, 0, 1]), none, none, none, none, some (.int 2), some (.int 3), none] M = .ok (.nx [some (.ref n), some (li [0, 0, 0, 1, 1, 1, 0, 1]), some (li [0, 1, 2, 13, 14, 15, 3, 16]), none, none, none, some (.int 2), some (.int 3), none]) M := by kernel_rfl
theorem s_0_0_0 (n : Nat) (M : Sto) : rS2 [some (.ref n), some (li [0, 0, 0, 1, 1, 1, 0, 1]), some (li [0, 1, 2, 13, 14, 15, 3, 16]), some (.int ((0 : Nat) : Int)), none, none, some (.int 2), some (.int 3), none] M = .ok (.rt (.bl true)) M := by kernel_rfl
theorem s_0_0_1 (n : Nat) (M : Sto) : rS2 [some (.ref n), some (li [0, 0, 0, 1, 1, 1, 0, 1]), some (li [0, 1, 2, 13, 14, 15, 3, 16]), some (.int ((1 : Nat) : Int)), none, none, some (.int 2), some (.int 3), none] M = .ok (.rt (.bl true)) M := by kernel_rfl
theorem s_0_0_2 (n : Nat) (M : Sto) : rS2 [some (.ref n), some (li [0, 0, 0, 1, 1, 1, 0, 1]), some (li [0, 1, 2, 13, 14, 15, 3, 16]), some (.int ((2 : Nat) : Int)), none, none, some (.int 2), some (.int 3), none] M = .ok (.rt (.bl true)) M := by kernel_rfl
theorem s_0_0_3 (n : Nat) (M : Sto) : rS2 [some (.ref n), some (li [0, 0, 0, 1, 1, 1, 0, 1]), some (li [0, 1, 2, 13, 14, 15, 3, 16]), some (.int ((3 : Nat) : Int)), none, none, some (.int 2), some (.int 3), none] M = .ok (.rt (.bl true)) M := by kernel_rfl
theorem s_0_0_4 (n : Nat) (M : Sto) : rS2 [some (.ref n), some (li [0, 0, 0, 1, 1, 1, 0, 1]), some (li [0, 1, 2, 13, 14, 15, 3, 16]), some (.int ((4 : Nat) : Int)), none, none, some (.int 2), some (.int 3), none] M = .ok (.rt (.bl true)) M := by kernel_rfl
theorem s_0_0_5 (n : Nat) (M : Sto) : rS2 [some (.ref n), some (li [0, 0, 0, 1, 1, 1, 0, 1]), some (li [0, 1, 2, 13, 14, 15, 3, 16]), some (.int ((5 : Nat) : Int)), none, none, some (.int 2), some (.int 3), none] M = .ok (.rt (.bl true)) M := by kernel_rfl
theorem s_0_0_6 (n : Nat) (M : Sto) : rS2 [some (.ref n), some (li [0, 0, 0, 1, 1, 1, 0, 1]), some (li [0, 1, 2, 13, 14, 15, 3, 16]), some (.int ((6 : Nat) : Int)), none, none, some (.int 2), some (.int 3), none] M = .ok (.rt (.bl true)) M := by kernel_rfl
theorem s_0_0_7 (n : Nat) (M : Sto) : rS2 [some (.ref n), some (li [0, 0, 0, 1, 1, 1, 0, 1]), some (li [0, 1, 2, 13, 14, 15, 3, 16]), some (.int ((7 : Nat) : Int)), none, none, some (.int 2), some (.int 3), none] M = .ok (.rt (.bl true)) M := by kernel_rfl
theorem v_least_0 (M : Sto) : r_least_ring [.int 2, .int 3] M = .ok (li [0, 0, 0, 1, 0, 1, 1, 1]) M := by kernel_rfl
theorem a_0_1 (n : Nat) (M : Sto) : rA34 [some (.ref n), some (li [0, 0, 0, 1, 0, 1, 1, 1]), none, none, none, none, some (.int 2), some (.int 3), none] M = .ok (.nx [some (.ref n), some (li [0, 0, 0, 1, 0, 1, 1, 1]), some (li [0, 1, 2, 13, 3, 14, 15, 16]), none, none, none, some (.int 2), some (.int 3), none]) M := by kernel_rfl
theorem s_0_1_0 (n : Nat) (M : Sto) : rS2 [some (.ref n), some (li [0, 0, 0, 1, 0, 1, 1, 1]), some (li [0, 1, 2, 13, 3, 14, 15, 16]), some (.int ((0 : Nat) : Int)), none, none, some (.int 2), some (.int 3), none] M = .ok (.rt (.bl true)) M := by kernel_rfl
theorem s_0_1_1 (n : Nat) (M : Sto) : rS2 [some (.ref n), some (li [0, 0, 0, 1, 0, 1, 1, 1]), some (li [0, 1, 2, 13, 3, 14, 15, 16]), some (.int ((1 : Nat) : Int)), none, none, some (.int 2), some (.int 3), none] M = .ok (.rt (.bl true)) M := by kernel_rfl
theorem s_0_1_2 (n : Nat) (M : Sto) : rS2 [some (.ref n), some (li [0, 0, 0, 1, 0, 1, 1, 1]), some (li [0, 1, 2, 13, 3, 14, 15, 16]), some (.int ((2 : Nat) : Int)), none, none, some (.int 2), some (.int 3), none] M = .ok (.rt (.bl true)) M := by kernel_rfl
theorem s_0_1_3 (n : Nat) (M : Sto) : rS2 [some (.ref n), some (li [0, 0, 0, 1, 0, 1, 1, 1]), some (li [0, 1, 2, 13, 3, 14, 15, 16]), some (.int ((3 : Nat) : Int)), none, none, some (.int 2), some (.int 3), none] M = .ok (.rt (.bl true)) M := by kernel_rfl
theorem s_0_1_4 (n : Nat) (M : Sto) : rS2 [some (.ref n), some (li [0, 0, 0, 1, 0, 1, 1, 1]), some (li [0, 1, 2, 13, 3, 14, 15, 16]), some (.int ((4 : Nat) : Int)), none, none, some (.int 2), some (.int 3), none] M = .ok (.rt (.bl true)) M := by kernel_rfl
theorem s_0_1_5 (n : Nat) (M : Sto) : rS2 [some (.ref n), some (li [0, 0, 0, 1, 0, 1, 1, 1]), some (li [0, 1, 2, 13, 3, 14, 15, 16]), some (.int ((5 : Nat) : Int)), none, none, some (.int 2), some (.int 3), none] M = .ok (.rt (.bl true)) M := by kernel_rfl
theorem s_0_1_6 (n : Nat) (M : Sto) : rS2 [some (.ref n), some (li [0, 0, 0, 1, 0, 1, 1, 1]), some (li [0, 1, 2, 13, 3, 14, 15, 16]), some (.int ((6 : Nat) : Int)), none, none, some (.int 2), some (.int 3), none] M = .ok (.rt (.bl true)) M := by kernel_rfl
theorem s_0_1_7 (n : Nat) (M : Sto) : rS2 [some (.ref n), some (li [0, 0, 0, 1, 0, 1, 1, 1]), some (li [0, 1, 2, 13, 3, 14, 15, 16]), some (.int ((7 : Nat) : Int)), none, none, some (.int 2), some (.int 3), none] M = .ok (.rt (.bl true)) M := by kernel_rfl
theorem v_greedy_1 (M : Sto) : r_greedy_ring [.int 2, .int 4] M = .ok (li [0, 0, 0, 0, 1, 1, 1, 1, 0, 1, 1, 0, 0, 1, 0, 1]) M := by kernel_rfl
theorem a_1_0 (n : Nat) (M : Sto) : rA34 [some (.ref n), some (li [0, 0, 0, 0, 1, 1, 1, 1, 0, 1, 1, 0, 0, 1, 0, 1]), none, none, none, none, some (.int 2), some (.int 4), none] M = .ok (.nx [some (.ref n), some (li [0, 0, 0, 0, 1, 1, 1, 1, 0, 1, 1, 0, 0, 1, 0, 1]), some (li [0, 1, 2, 3, 13, 14, 15, 16, 4, 17, 18, 5, 6, 19, 7, 20]), none, none, none, some (.int 2), some (.int 4), none]) M := by kernel_rfl
theorem s_1_0_0 (n : Nat) (M : Sto) : rS2 [some (.ref n), some (li [0, 0, 0, 0, 1, 1, 1, 1, 0, 1, 1, 0, 0, 1, 0, 1]), some (li [0, 1, 2, 3, 13, 14, 15, 16, 4, 17, 18, 5, 6, 19, 7, 20]), some (.int ((0 : Nat) : Int)), none, none, some (.int 2), some (.int 4), none] M = .ok (.rt (.bl true)) M := by kernel_rfl
theorem s_1_0_1 (n : Nat) (M : Sto) : rS2 [some (.ref n), some (li [0, 0, 0, 0, 1, 1, 1, 1, 0, 1, 1, 0, 0, 1, 0, 1]), some (li [0, 1, 2, 3, 13, 14, 15, 16, 4, 17, 18, 5, 6, 19, 7, 20]), some (.int ((1 : Nat) : Int)), none, none, some (.int 2), some (.int 4), none] M = .ok (.rt (.bl true)) M := by kernel_rfl
theorem s_1_0_2 (n : Nat) (M : Sto) : rS2 [some (.ref n), some (li [0, 0, 0, 0, 1, 1, 1, 1, 0, 1, 1, 0, 0, 1, 0, 1]), some (li [0, 1, 2, 3, 13, 14, 15, 16, 4, 17, 18, 5, 6, 19, 7, 20]), some (.int ((2 : Nat) : Int)), none, none, some (.int 2), some (.int 4), none] M = .ok (.rt (.bl true)) M := by kernel_rfl
theorem s_1_0_3 (n : Nat) (M : Sto) : rS2 [some (.ref n), some (li [0, 0, 0, 0, 1, 1, 1, 1, 0, 1, 1, 0, 0, 1, 0, 1]), some (li [0, 1, 2, 3, 13, 14, 15, 16, 4, 17, 18, 5, 6, 19, 7, 20]), some (.int ((3 : Nat) : Int)), none, none, some (.int 2), some (.int 4), none] M = .ok (.rt (.bl true)) M := by kernel_rfl
theorem s_1_0_4 (n : Nat) (M : Sto) : rS2 [some (.ref n), some (li [0, 0, 0, 0, 1, 1, 1, 1, 0, 1, 1, 0, 0, 1, 0, 1]), some (li [0, 1, 2, 3, 13, 14, 15, 16, 4, 17, 18, 5, 6, 19, 7, 20]), some (.int ((4 : Nat) : Int)), none, none, some (.int 2), some (.int 4), none] M = .ok (.rt (.bl true)) M := by kernel_rfl
theorem s_1_0_5 (n : Nat) (M : Sto) : rS2 [some (.ref n), some (li [0, 0, 0, 0, 1, 1, 1, 1, 0, 1, 1, 0, 0, 1, 0, 1]), some (li [0, 1, 2, 3, 13, 14, 15, 16, 4, 17, 18, 5, 6, 19, 7, 20]), some (.int ((5 : Nat) : Int)), none, none, some (.int 2), some (.int 4), none] M = .ok (.rt (.bl true)) M := by kernel_rfl
theorem s_1_0_6 (n : Nat) (M : Sto) : rS2 [some (.ref n), some (li [0, 0, 0, 0, 1, 1, 1, 1, 0, 1, 1, 0, 0, 1, 0, 1]), some (li [0, 1, 2, 3, 13, 14, 15, 16, 4, 17, 18, 5, 6, 19, 7, 20]), some (.int ((6 : Nat) : Int)), none, none, some (.int 2), some (.int 4), none] M = .ok (.rt (.bl true)) M := by kernel_rfl
theorem s_1_0_7 (n : Nat) (M : Sto) : rS2 [some (.ref n), some (li [0, 0, 0, 0, 1, 1, 1, 1, 0, 1, 1, 0, 0, 1, 0, 1]), some (li [0, 1, 2, 3, 13, 14, 15, 16, 4, 17, 18, 5, 6, 19, 7, 20]), some (.int ((7 : Nat) : Int)), none, none, some (.int 2), some (.int 4), none] M = .ok (.rt (.bl true)) M := by kernel_rfl
theorem s_1_0_8 (n : Nat) (M : Sto) : rS2 [some (.ref n), some (li [0, 0, 0, 0, 1, 1, 1, 1, 0, 1, 1, 0, 0, 1, 0, 1]), some (li [0, 1, 2, 3, 13, 14, 15, 16, 4, 17, 18, 5, 6, 19, 7, 20]), some (.int ((8 : Nat) : Int)), none, none, some (.int 2), some (.int 4), none] M = .ok (.rt (.bl true)) M := by kernel_rfl
theorem s_1_0_9 (n : Nat) (M : Sto) : rS2 [some (.ref n), some (li [0, 0, 0, 0, 1, 1, 1, 1, 0, 1, 1, 0, 0, 1, 0, 1]), some (li [0, 1, 2, 3, 13, 14, 15, 16, 4, 17, 18, 5, 6, 19, 7, 20]), some (.int ((9 : Nat) : Int)), none, none, some (.int 2), some (.int 4), none] M = .ok (.rt (.bl true)) M := by kernel_rfl
theorem s_1_0_10 (n : Nat) (M : Sto) : rS2 [some (.ref n), some (li [0, 0, 0, 0, 1, 1, 1, 1, 0, 1, 1, 0, 0, 1, 0, 1]), some (li [0, 1, 2, 3, 13, 14, 15, 16, 4, 17, 18, 5, 6, 19, 7, 20]), some (.int ((10 : Nat) : Int)), none, none, some (.int 2), some (.int 4), none] M = .ok (.rt (.bl true)) M := by kernel_rfl
theorem s_1_0_11 (n : Nat) (M : Sto) : rS2 [some (.ref n), some (li [0, 0, 0, 0, 1, 1, 1, 1, 0, 1, 1, 0, 0, 1, 0, 1]), some (li [0, 1, 2, 3, 13, 14, 15, 16, 4, 17, 18, 5, 6, 19, 7, 20]), some (.int ((11 : Nat) : Int)), none, none, some (.int 2), some (.int 4), none] M = .ok (.rt (.bl true)) M := by kernel_rfl
theorem s_1_0_12 (n : Nat) (M : Sto) : rS2 [some (.ref n), some (li [0, 0, 0, 0, 1, 1, 1, 1, 0, 1, 1, 0, 0, 1, 0, 1]), some (li [0, 1, 2, 3, 13, 14, 15, 16, 4, 17, 18, 5, 6, 19, 7, 20]), some (.int ((12 : Nat) : Int)), none, none, some (.int 2), some (.int 4), none] M = .ok (.rt (.bl true)) M := by kernel_rfl
theorem s_1_0_13 (n : Nat) (M : Sto) : rS2 [some (.ref n), some (li [0, 0, 0, 0, 1, 1, 1, 1, 0, 1, 1, 0, 0, 1, 0, 1]), some (li [0, 1, 2, 3, 13, 14, 15, 16, 4, 17, 18, 5, 6, 19, 7, 20]), some (.int ((13 : Nat) : Int)), none, none, some (.int 2), some (.int 4), none] M = .ok (.rt (.bl true)) M := by kernel_rfl
theorem s_1_0_14 (n : Nat) (M : Sto) : rS2 [some (.ref n), some (li [0, 0, 0, 0, 1, 1, 1, 1, 0, 1, 1, 0, 0, 1, 0, 1]), some (li [0, 1, 2, 3, 13, 14, 15, 16, 4, 17, 18, 5, 6, 19, 7, 20]), some (.int ((14 : Nat) : Int)), none, none, some (.int 2), some (.int 4), none] M = .ok (.rt (.bl true)) M := by kernel_rfl
theorem s_1_0_15 (n : Nat) (M : Sto) : rS2 [some (.ref n), some (li [0, 0, 0, 0, 1, 1, 1, 1, 0, 1, 1, 0, 0, 1, 0, 1]), some (li [0, 1, 2, 3, 13, 14, 15, 16, 4, 17, 18, 5, 6, 19, 7, 20]), some (.int ((15 : Nat) : Int)), none, none, some (.int 2), some (.int 4), none] M = .ok (.rt (.bl true)) M := by kernel_rfl
theorem v_least_1 (M : Sto) : r_least_ring [.int 2, .int 4] M = .ok (li [0, 0, 0, 0, 1, 0, 0, 1, 1, 0, 1, 0, 1, 1, 1, 1]) M := by kernel_rfl
theorem a_1_1 (n : Nat) (M : Sto) : rA34 [some (.ref n), some (li [0, 0, 0, 0, 1, 0, 0, 1, 1, 0, 1, 0, 1, 1, 1, 1]), none, none, none, none, some (.int 2), some (.int 4), none] M = .ok (.nx [some (.ref n), some (li [0, 0, 0, 0, 1, 0, 0, 1, 1, 0, 1, 0, 1, 1, 1, 1]), some (li [0, 1, 2, 3, 13, 4, 5, 14, 15, 6, 16, 7, 17, 18, 19, 20]), none, none, none, some (.int 2), some (.int 4), none]) M := by kernel_rfl
theorem s_1_1_0 (n : Nat) (M : Sto) : rS2 [some (.ref n), some (li [0, 0, 0, 0, 1, 0, 0, 1, 1, 0, 1, 0, 1, 1, 1, 1]), some (li [0, 1, 2, 3, 13, 4, 5, 14, 15, 6, 16, 7, 17, 18, 19, 20]), some (.int ((0 : Nat) : Int)), none, none, some (.int 2), some (.int 4), none] M = .ok (.rt (.bl true)) M := by kernel_rfl
theorem s_1_1_1 (n : Nat) (M : Sto) : rS2 [some (.ref n), some (li [0, 0, 0, 0, 1, 0, 0, 1, 1, 0, 1, 0, 1, 1, 1, 1]), some (li [0, 1, 2, 3, 13, 4, 5, 14, 15, 6, 16, 7, 17, 18, 19, 20]), some (.int ((1 : Nat) : Int)), none, none, some (.int 2), some (.int 4), none] M = .ok (.rt (.bl true)) M := by kernel_rfl
theorem s_1_1_2 (n : Nat) (M : Sto) : rS2 [some (.ref n), some (li [0, 0, 0, 0, 1, 0, 0, 1, 1, 0, 1, 0, 1, 1, 1, 1]), some (li [0, 1, 2, 3, 13, 4, 5, 14, 15, 6, 16, 7, 17, 18, 19, 20]), some (.int ((2 : Nat) : Int)), none, none, some (.int 2), some (.int 4), none] M = .ok (.rt (.bl true)) M := by kernel_rfl
theorem s_1_1_3 (n : Nat) (M : Sto) : rS2 [some (.ref n), some (li [0, 0, 0, 0, 1, 0, 0, 1, 1, 0, 1, 0, 1, 1, 1, 1]), some (li [0, 1, 2, 3, 13, 4, 5, 14, 15, 6, 16, 7, 17, 18, 19, 20]), some (.int ((3 : Nat) : Int)), none, none, some (.int 2), some (.int 4), none] M = .ok (.rt (.bl true)) M := by kernel_rfl
theorem s_1_1_4 (n : Nat) (M : Sto) : rS2 [some (.ref n), some (li [0, 0, 0, 0, 1, 0, 0, 1, 1, 0, 1, 0, 1, 1, 1, 1]), some (li [0, 1, 2, 3, 13, 4, 5, 14, 15, 6, 16, 7, 17, 18, 19, 20]), some (.int ((4 : Nat) : Int)), none, none, some (.int 2), some (.int 4), none] M = .ok (.rt (.bl true)) M := by kernel_rfl
theorem s_1_1_5 (n : Nat) (M : Sto) : rS2 [some (.ref n), some (li [0, 0, 0, 0, 1, 0, 0, 1, 1, 0, 1, 0, 1, 1, 1, 1]), some (li [0, 1, 2, 3, 13, 4, 5, 14, 15, 6, 16, 7, 17, 18, 19, 20]), some (.int ((5 : Nat) : Int)), none, none, some (.int 2), some (.int 4), none] M = .ok (.rt (.bl true)) M := by kernel_rfl
theorem s_1_1_6 (n : Nat) (M : Sto) : rS2 [some (.ref n), some (li [0, 0, 0, 0, 1, 0, 0, 1, 1, 0, 1, 0, 1, 1, 1, 1]), some (li [0, 1, 2, 3, 13, 4, 5, 14, 15, 6, 16, 7, 17, 18, 19, 20]), some (.int ((6 : Nat) : Int)), none, none, some (.int 2), some (.int 4), none] M = .ok (.rt (.bl true)) M := by kernel_rfl
theorem s_1_1_7 (n : Nat) (M : Sto) : rS2 [some (.ref n), some (li [0, 0, 0, 0, 1, 0, 0, 1, 1, 0, 1, 0, 1, 1, 1, 1]), some (li [0, 1, 2, 3, 13, 4, 5, 14, 15, 6, 16, 7, 17, 18, 19, 20]), some (.int ((7 : Nat) : Int)), none, none, some (.int 2), some (.int 4), none] M = .ok (.rt (.bl true)) M := by kernel_rfl
theorem s_1_1_8 (n : Nat) (M : Sto) : rS2 [some (.ref n), some (li [0, 0, 0, 0, 1, 0, 0, 1, 1, 0, 1, 0, 1, 1, 1, 1]), some (li [0, 1, 2, 3, 13, 4, 5, 14, 15, 6, 16, 7, 17, 18, 19, 20]), some (.int ((8 : Nat) : Int)), none, none, some (.int 2), some (.int 4), none] M = .ok (.rt (.bl true)) M := by kernel_rfl
theorem s_1_1_9 (n : Nat) (M : Sto) : rS2 [some (.ref n), some (li [0, 0, 0, 0, 1, 0, 0, 1, 1, 0, 1, 0, 1, 1, 1, 1]), some (li [0, 1, 2, 3, 13, 4, 5, 14, 15, 6, 16, 7, 17, 18, 19, 20]), some (.int ((9 : Nat) : Int)), none, none, some (.int 2), some (.int 4), none] M = .ok (.rt (.bl true)) M := by kernel_rfl
theorem s_1_1_10 (n : Nat) (M : Sto) : rS2 [some (.ref n), some (li [0, 0, 0, 0, 1, 0, 0, 1, 1, 0, 1, 0, 1, 1, 1, 1]), some (li [0, 1, 2, 3, 13, 4, 5, 14, 15, 6, 16, 7, 17, 18, 19, 20]), some (.int ((10 : Nat) : Int)), none, none, some (.int 2), some (.int 4), none] M = .ok (.rt (.bl true)) M := by kernel_rfl
theorem s_1_1_11 (n : Nat) (M : Sto) : rS2 [some (.ref n), some (li [0, 0, 0, 0, 1, 0, 0, 1, 1, 0, 1, 0, 1, 1, 1, 1]), some (li [0, 1, 2, 3, 13, 4, 5, 14, 15, 6, 16, 7, 17, 18, 19, 20]), some (.int ((11 : Nat) : Int)), none, none, some (.int 2), some (.int 4), none] M = .ok (.rt (.bl true)) M := by kernel_rfl
theorem s_1_1_12 (n : Nat) (M : Sto) : rS2 [some (.ref n), some (li [0, 0, 0, 0, 1, 0, 0, 1, 1, 0, 1, 0, 1, 1, 1, 1]), some (li [0, 1, 2, 3, 13, 4, 5, 14, 15, 6, 16, 7, 17, 18, 19, 20]), some (.int ((12 : Nat) : Int)), none, none, some (.int 2), some (.int 4), none] M = .ok (.rt (.bl true)) M := by kernel_rfl
theorem s_1_1_13 (n : Nat) (M : Sto) : rS2 [some (.ref n), some (li [0, 0, 0, 0, 1, 0, 0, 1, 1, 0, 1, 0, 1, 1, 1, 1]), some (li [0, 1, 2, 3, 13, 4, 5, 14, 15, 6, 16, 7, 17, 18, 19, 20]), some (.int ((13 : Nat) : Int)), none, none, some (.int 2), some (.int 4), none] M = .ok (.rt (.bl true)) M := by kernel_rfl
theorem s_1_1_14 (n : Nat) (M : Sto) : rS2 [some (.ref n), some (li [0, 0, 0, 0, 1, 0, 0, 1, 1, 0, 1, 0, 1, 1, 1, 1]), some (li [0, 1, 2, 3, 13, 4, 5, 14, 15, 6, 16, 7, 17, 18, 19, 20]), some (.int ((14 : Nat) : Int)), none, none, some (.int 2), some (.int 4), none] M = .ok (.rt (.bl true)) M := by kernel_rfl
theorem s_1_1_15 (n : Nat) (M : Sto) : rS2 [some (.ref n), some (li [0, 0, 0, 0, 1, 0, 0, 1, 1, 0, 1, 0, 1, 1, 1, 1]), some (li [0, 1, 2, 3, 13, 4, 5, 14, 15, 6, 16, 7, 17, 18, 19, 20]), some (.int ((15 : Nat) : Int)), none, none, some (.int 2), some (.int 4), none] M = .ok (.rt (.bl true)) M := by kernel_rfl
theorem v_greedy_2 (M : Sto) : r_greedy_ring [.int 3, .int 2] M = .ok (li [0, 0, 2, 2, 1, 2, 0, 1, 1]) M := by kernel_rfl
theorem a_2_0 (n : Nat) (M : Sto) : rA34 [some (.ref n), some (li [0, 0, 2, 2, 1, 2, 0, 1, 1]), none, none, none, none, some (.int 3), some (.int 2), none] M = .ok (.nx [some (.ref n), some (li [0, 0, 2, 2, 1, 2, 0, 1, 1]), some (li [0, 1, 26, 27, 13, 28, 2, 14, 15]), none, none, none, some (.int 3), some (.int 2), none]) M := by kernel_rfl
theorem s_2_0_0 (n : Nat) (M : Sto) : rS2 [some (.ref n), some (li [0, 0, 2, 2, 1, 2, 0, 1, 1]), some (li [0, 1, 26, 27, 13, 28, 2, 14, 15]), some (.int ((0 : Nat) : Int)), none, none, some (.int 3), some (.int 2), none] M = .ok (.rt (.bl true)) M := by kernel_rfl
theorem s_2_0_1 (n : Nat) (M : Sto) : rS2 [some (.ref n), some (li [0, 0, 2, 2, 1, 2, 0, 1, 1]), some (li [0, 1, 26, 27, 13, 28, 2, 14, 15]), some (.int ((1 : Nat) : Int)), none, none, some (.int 3), some (.int 2), none] M = .ok (.rt (.bl true)) M := by kernel_rfl
theorem s_2_0_2 (n : Nat) (M : Sto) : rS2 [some (.ref n), some (li [0, 0, 2, 2, 1, 2, 0, 1, 1]), some (li [0, 1, 26, 27, 13, 28, 2, 14, 15]), some (.int ((2 : Nat) : Int)), none, none, some (.int 3), some (.int 2), none] M = .ok (.rt (.bl true)) M := by kernel_rfl
theorem s_2_0_3 (n : Nat) (M : Sto) : rS2 [some (.ref n), some (li [0, 0, 2, 2, 1, 2, 0, 1, 1]), some (li [0, 1, 26, 27, 13, 28, 2, 14, 15]), some (.int ((3 : Nat) : Int)), none, none, some (.int 3), some (.int 2), none] M = .ok (.rt (.bl true)) M := by kernel_rfl
theorem s_2_0_4 (n : Nat) (M : Sto) : rS2 [some (.ref n), some (li [0, 0, 2, 2, 1, 2, 0, 1, 1]), some (li [0, 1, 26, 27, 13, 28, 2, 14, 15]), some (.int ((4 : Nat) : Int)), none, none, some (.int 3), some (.int 2), none] M = .ok (.rt (.bl true)) M := by kernel_rfl
theorem s_2_0_5 (n : Nat) (M : Sto) : rS2 [some (.ref n), some (li [0, 0, 2, 2, 1, 2, 0, 1, 1]), some (li [0, 1, 26, 27, 13, 28, 2, 14, 15]), some (.int ((5 : Nat) : Int)), none, none, some (.int 3), some (.int 2), none] M = .ok (.rt (.bl true)) M := by kernel_rfl
theorem s_2_0_6 (n : Nat) (M : Sto) : rS2 [some (.ref n), some (li [0, 0, 2, 2, 1, 2, 0, 1, 1]), some (li [0, 1, 26, 27, 13, 28, 2, 14, 15]), some (.int ((6 : Nat) : Int)), none, none, some (.int 3), some (.int 2), none] M = .ok (.rt (.bl true)) M := by kernel_rfl
theorem s_2_0_7 (n : Nat) (M : Sto) : rS2 [some (.ref n), some (li [0, 0, 2, 2, 1, 2, 0, 1, 1]), some (li [0, 1, 26, 27, 13, 28, 2, 14, 15]), some (.int ((7 : Nat) : Int)), none, none, some (.int 3), some (.int 2), none] M = .ok (.rt (.bl true)) M := by kernel_rfl
theorem s_2_0_8 (n : Nat) (M : Sto) : rS2 [some (.ref n), some (li [0, 0, 2, 2, 1, 2, 0, 1, 1]), some (li [0, 1, 26, 27, 13, 28, 2, 14, 15]), some (.int ((8 : Nat) : Int)), none, none, some (.int 3), some (.int 2), none] M = .ok (.rt (.bl true)) M := by kernel_rfl
theorem v_least_2 (M : Sto) : r_least_ring [.int 3, .int 2] M = .ok (li [0, 0, 1, 0, 2, 1, 1, 2, 2]) M := by kernel_rfl
theorem a_2_1 (n : Nat) (M : Sto) : rA34 [some (.ref n), some (li [0, 0, 1, 0, 2, 1, 1, 2, 2]), none, none, none, none, some (.int 3), some (.int 2), none] M = .ok (.nx [some (.ref n), some (li [0, 0, 1, 0, 2, 1, 1, 2, 2]), some (li [0, 1, 13, 2, 26, 14, 15, 27, 28]), none, none, none, some (.int 3), some (.int 2), none]) M := by kernel_rfl
theorem s_2_1_0 (n : Nat) (M : Sto) : rS2 [some (.ref n), some (li [0, 0, 1, 0, 2, 1, 1, 2, 2]), some (li [0, 1, 13, 2, 26, 14, 15, 27, 28]), some (.int ((0 : Nat) : Int)), none, none, some (.int 3), some (.int 2), none] M = .ok (.rt (.bl true)) M := by kernel_rfl
theorem s_2_1_1 (n : Nat) (M : Sto) : rS2 [some (.ref n), some (li [0, 0, 1, 0, 2, 1, 1, 2, 2]), some (li [0, 1, 13, 2, 26, 14, 15, 27, 28]), some (.int ((1 : Nat) : Int)), none, none, some (.int 3), some (.int 2), none] M = .ok (.rt (.bl true)) M := by kernel_rfl
theorem s_2_1_2 (n : Nat) (M : Sto) : rS2 [some (.ref n), some (li [0, 0, 1, 0, 2, 1, 1, 2, 2]), some (li [0, 1, 13, 2, 26, 14, 15, 27, 28]), some (.int ((2 : Nat) : Int)), none, none, some (.int 3), some (.int 2), none] M = .ok (.rt (.bl true)) M := by kernel_rfl
theorem s_2_1_3 (n : Nat) (M : Sto) : rS2 [some (.ref n), some (li [0, 0, 1, 0, 2, 1, 1, 2, 2]), some (li [0, 1, 13, 2, 26, 14, 15, 27, 28]), some (.int ((3 : Nat) : Int)), none, none, some (.int 3), some (.int 2), none] M = .ok (.rt (.bl true)) M := by kernel_rfl
theorem s_2_1_4 (n : Nat) (M : Sto) : rS2 [some (.ref n), some (li [0, 0, 1, 0, 2, 1, 1, 2, 2]), some (li [0, 1, 13, 2, 26, 14, 15, 27, 28]), some (.int ((4 : Nat) : Int)), none, none, some (.int 3), some (.int 2), none] M = .ok (.rt (.bl true)) M := by kernel_rfl
theorem s_2_1_5 (n : Nat) (M : Sto) : rS2 [some (.ref n), some (li [0, 0, 1, 0, 2, 1, 1, 2, 2]), some (li [0, 1, 13, 2, 26, 14, 15, 27, 28]), some (.int ((5 : Nat) : Int)), none, none, some (.int 3), some (.int 2), none] M = .ok (.rt (.bl true)) M := by kernel_rfl
theorem s_2_1_6 (n : Nat) (M : Sto) : rS2 [some (.ref n), some (li [0, 0, 1, 0, 2, 1, 1, 2, 2]), some (li [0, 1, 13, 2, 26, 14, 15, 27, 28]), some (.int ((6 : Nat) : Int)), none, none, some (.int 3), some (.int 2), none] M = .ok (.rt (.bl true)) M := by kernel_rfl
theorem s_2_1_7 (n : Nat) (M : Sto) : rS2 [some (.ref n), some (li [0, 0, 1, 0, 2, 1, 1, 2, 2]), some (li [0, 1, 13, 2, 26, 14, 15, 27, 28]), some (.int ((7 : Nat) : Int)), none, none, some (.int 3), some (.int 2), none] M = .ok (.rt (.bl true)) M := by kernel_rfl
theorem s_2_1_8 (n : Nat) (M : Sto) : rS2 [some (.ref n), some (li [0, 0, 1, 0, 2, 1, 1, 2, 2]), some (li [0, 1, 13, 2, 26, 14, 15, 27, 28]), some (.int ((8 : Nat) : Int)), none, none, some (.int 3), some (.int 2), none] M = .ok (.rt (.bl true)) M := by kernel_rfl
theorem v_greedy_3 (M : Sto) : r_greedy_ring [.int 4, .int 2] M = .ok (li [0, 0, 3, 3, 2, 3, 1, 3, 0, 2, 2, 1, 2, 0, 1, 1]) M := by kernel_rfl
theorem a_3_0 (n : Nat) (M : Sto) : rA34 [some (.ref n), some (li [0, 0, 3, 3, 2, 3, 1, 3, 0, 2, 2, 1, 2, 0, 1, 1]), none, none, none, none, some (.int 4), some (.int 2), none] M = .ok (.nx [some (.ref n), some (li [0, 0, 3, 3, 2, 3, 1, 3, 0, 2, 2, 1, 2, 0, 1, 1]), some (li [0, 1, 39, 40, 26, 41, 13, 42, 2, 27, 28, 14, 29, 3, 15, 16]), none, none, none, some (.int 4), some (.int 2), none]) M := by kernel_rfl
theorem s_3_0_0 (n : Nat) (M : Sto) : rS2 [some (.ref n), some (li [0, 0, 3, 3, 2, 3, 1, 3, 0, 2, 2, 1, 2, 0, 1, 1]), some (li [0, 1, 39, 40, 26, 41, 13, 42, 2, 27, 28, 14, 29, 3, 15, 16]), some (.int ((0 : Nat) : Int)), none, none, some (.int 4), some (.int 2), none] M = .ok (.rt (.bl true)) M := by kernel_rfl
theorem s_3_0_1 (n : Nat) (M : Sto) : rS2 [some (.ref n), some (li [0, 0, 3, 3, 2, 3, 1, 3, 0, 2, 2, 1, 2, 0, 1, 1]), some (li [0, 1, 39, 40, 26, 41, 13, 42, 2, 27, 28, 14, 29, 3, 15, 16]), some (.int ((1 : Nat) : Int)), none, none, some (.int 4), some (.int 2), none] M = .ok (.rt (.bl true)) M := by kernel_rfl
theorem s_3_0_2 (n : Nat) (M : Sto) : rS2 [some (.ref n), some (li [0, 0, 3, 3, 2, 3, 1, 3, 0, 2, 2, 1, 2, 0, 1, 1]), some (li [0, 1, 39, 40, 26, 41, 13, 42, 2, 27, 28, 14, 29, 3, 15, 16]), some (.int ((2 : Nat) : Int)), none, none, some (.int 4), some (.int 2), none] M = .ok (.rt (.bl true)) M := by kernel_rfl
theorem s_3_0_3 (n : Nat) (M : Sto) : rS2 [some (.ref n), some (li [0, 0, 3, 3, 2, 3, 1, 3, 0, 2, 2, 1, 2, 0, 1, 1]), some (li [0, 1, 39, 40, 26, 41, 13, 42, 2, 27, 28, 14, 29, 3, 15, 16]), some (.int ((3 : Nat) : Int)), none, none, some (.int 4), some (.int 2), none] M = .ok (.rt (.bl true)) M := by kernel_rfl
theorem s_3_0_4 (n : Nat) (M : Sto) : rS2 [some (.ref n), some (li [0, 0, 3, 3, 2, 3, 1, 3, 0, 2, 2, 1, 2, 0, 1, 1]), some (li [0, 1, 39, 40, 26, 41, 13, 42, 2, 27, 28, 14, 29, 3, 15, 16]), some (.int ((4 : Nat) : Int)), none, none, some (.int 4), some (.int 2), none] M = .ok (.rt (.bl true)) M := by kernel_rfl
theorem s_3_0_5 (n : Nat) (M : Sto) : rS2 [some (.ref n), some (li [0, 0, 3, 3, 2, 3, 1, 3, 0, 2, 2, 1, 2, 0, 1, 1]), some (li [0, 1, 39, 40, 26, 41, 13, 42, 2, 27, 28, 14, 29, 3, 15, 16]), some (.int ((5 : Nat) : Int)), none, none, some (.int 4), some (.int 2), none] M = .ok (.rt (.bl true)) M := by kernel_rfl
theorem s_3_0_6 (n : Nat) (M : Sto) : rS2 [some (.ref n), some (li [0, 0, 3, 3, 2, 3, 1, 3, 0, 2, 2, 1, 2, 0, 1, 1]), some (li [0, 1, 39, 40, 26, 41, 13, 42, 2, 27, 28, 14, 29, 3, 15, 16]), some (.int ((6 : Nat) : Int)), none, none, some (.int 4), some (.int 2), none] M = .ok (.rt (.bl true)) M := by kernel_rfl
theorem s_3_0_7 (n : Nat) (M : Sto) : rS2 [some (.ref n), some (li [0, 0, 3, 3, 2, 3, 1, 3, 0, 2, 2, 1, 2, 0, 1, 1]), some (li [0, 1, 39, 40, 26, 41, 13, 42, 2, 27, 28, 14, 29, 3, 15, 16]), some (.int ((7 : Nat) : Int)), none, none, some (.int 4), some (.int 2), none] M = .ok (.rt (.bl true)) M := by kernel_rfl
theorem s_3_0_8 (n : Nat) (M : Sto) : rS2 [some (.ref n), some (li [0, 0, 3, 3, 2, 3, 1, 3, 0, 2, 2, 1, 2, 0, 1, 1]), some (li [0, 1, 39, 40, 26, 41, 13, 42, 2, 27, 28, 14, 29, 3, 15, 16]), some (.int ((8 : Nat) : Int)), none, none, some (.int 4), some (.int 2), none] M = .ok (.rt (.bl true)) M := by kernel_rfl
theorem s_3_0_9 (n : Nat) (M : Sto) : rS2 [some (.ref n), some (li [0, 0, 3, 3, 2, 3, 1, 3, 0, 2, 2, 1, 2, 0, 1, 1]), some (li [0, 1, 39, 40, 26, 41, 13, 42, 2, 27, 28, 14, 29, 3, 15, 16]), some (.int ((9 : Nat) : Int)), none, none, some (.int 4), some (.int 2), none] M = .ok (.rt (.bl true)) M := by kernel_rfl
theorem s_3_0_10 (n : Nat) (M : Sto) : rS2 [some (.ref n), some (li [0, 0, 3, 3, 2, 3, 1, 3, 0, 2, 2, 1, 2, 0, 1, 1]), some (li [0, 1, 39, 40, 26, 41, 13, 42, 2, 27, 28, 14, 29, 3, 15, 16]), some (.int ((10 : Nat) : Int)), none, none, some (.int 4), some (.int 2), none] M = .ok (.rt (.bl true)) M := by kernel_rfl
theorem s_3_0_11 (n : Nat) (M : Sto) : rS2 [some (.ref n), some (li [0, 0, 3, 3, 2, 3, 1, 3, 0, 2, 2, 1, 2, 0, 1, 1]), some (li [0, 1, 39, 40, 26, 41, 13, 42, 2, 27, 28, 14, 29, 3, 15, 16]), some (.int ((11 : Nat) : Int)), none, none, some (.int 4), some (.int 2), none] M = .ok (.rt (.bl true)) M := by kernel_rfl
theorem s_3_0_12 (n : Nat) (M : Sto) : rS2 [some (.ref n), some (li [0, 0, 3, 3, 2, 3, 1, 3, 0, 2, 2, 1, 2, 0, 1, 1]), some (li [0, 1, 39, 40, 26, 41, 13, 42, 2, 27, 28, 14, 29, 3, 15, 16]), some (.int ((12 : Nat) : Int)), none, none, some (.int 4), some (.int 2), none] M = .ok (.rt (.bl true)) M := by kernel_rfl
theorem s_3_0_13 (n : Nat) (M : Sto) : rS2 [some (.ref n), some (li [0, 0, 3, 3, 2, 3, 1, 3, 0, 2, 2, 1, 2, 0, 1, 1]), some (li [0, 1, 39, 40, 26, 41, 13, 42, 2, 27, 28, 14, 29, 3, 15, 16]), some (.int ((13 : Nat) : Int)), none, none, some (.int 4), some (.int 2), none] M = .ok (.rt (.bl true)) M := by kernel_rfl
theorem s_3_0_14 (n : Nat) (M : Sto) : rS2 [some (.ref n), some (li [0, 0, 3, 3, 2, 3, 1, 3, 0, 2, 2, 1, 2, 0, 1, 1]), some (li [0, 1, 39, 40, 26, 41, 13, 42, 2, 27, 28, 14, 29, 3, 15, 16]), some (.int ((14 : Nat) : Int)), none, none, some (.int 4), some (.int 2), none] M = .ok (.rt (.bl true)) M := by kernel_rfl
theorem s_3_0_15 (n : Nat) (M : Sto) : rS2 [some (.ref n), some (li [0, 0, 3, 3, 2, 3, 1, 3, 0, 2, 2, 1, 2, 0, 1, 1]), some (li [0, 1, 39, 40, 26, 41, 13, 42, 2, 27, 28, 14, 29, 3, 15, 16]), some (.int ((15 : Nat) : Int)), none, none, some (.int 4), some (.int 2), none] M = .ok (.rt (.bl true)) M := by kernel_rfl
theorem v_least_3 (M : Sto) : r_least_ring [.int 4, .int 2] M = .ok (li [0, 0, 1, 0, 2, 0, 3, 1, 1, 2, 1, 3, 2, 2, 3, 3]) M := by kernel_rfl
theorem a_3_1 (n : Nat) (M : Sto) : rA34 [some (.ref n), some (li [0, 0, 1, 0, 2, 0, 3, 1, 1, 2, 1, 3, 2, 2, 3, 3]), none, none, none, none, some (.int 4), some (.int 2), none] M = .ok (.nx [some (.ref n), some (li [0, 0, 1, 0, 2, 0, 3, 1, 1, 2, 1, 3, 2, 2, 3, 3]), some (li [0, 1, 13, 2, 26, 3, 39, 14, 15, 27, 16, 40, 28, 29, 41, 42]), none, none, none, some (.int 4), some (.int 2), none]) M := by kernel_rfl
theorem s_3_1_0 (n : Nat) (M : Sto) : rS2 [some (.ref n), some (li [0, 0, 1, 0, 2, 0, 3, 1, 1, 2, 1, 3, 2, 2, 3, 3]), some (li [0, 1, 13, 2, 26, 3, 39, 14, 15, 27, 16, 40, 28, 29, 41, 42]), some (.int ((0 : Nat) : Int)), none, none, some (.int 4), some (.int 2), none] M = .ok (.rt (.bl true)) M := by kernel_rfl
theorem s_3_1_1 (n : Nat) (M : Sto) : rS2 [some (.ref n), some (li [0, 0, 1, 0, 2, 0, 3, 1, 1, 2, 1, 3, 2, 2, 3, 3]), some (li [0, 1, 13, 2, 26, 3, 39, 14, 15, 27, 16, 40, 28, 29, 41, 42]), some (.int ((1 : Nat) : Int)), none, none, some (.int 4), some (.int 2), none] M = .ok (.rt (.bl true)) M := by kernel_rfl
theorem s_3_1_2 (n : Nat) (M : Sto) : rS2 [some (.ref n), some (li [0, 0, 1, 0, 2, 0, 3, 1, 1, 2, 1, 3, 2, 2, 3, 3]), some (li [0, 1, 13, 2, 26, 3, 39, 14, 15, 27, 16, 40, 28, 29, 41, 42]), some (.int ((2 : Nat) : Int)), none, none, some (.int 4), some (.int 2), none] M = .ok (.rt (.bl true)) M := by kernel_rfl
theorem s_3_1_3 (n : Nat) (M : Sto) : rS2 [some (.ref n), some (li [0, 0, 1, 0, 2, 0, 3, 1, 1, 2, 1, 3, 2, 2, 3, 3]), some (li [0, 1, 13, 2, 26, 3, 39, 14, 15, 27, 16, 40, 28, 29, 41, 42]), some (.int ((3 : Nat) : Int)), none, none, some (.int 4), some (.int 2), none] M = .ok (.rt (.bl true)) M := by kernel_rfl
theorem s_3_1_4 (n : Nat) (M : Sto) : rS2 [some (.ref n), some (li [0, 0, 1, 0, 2, 0, 3, 1, 1, 2, 1, 3, 2, 2, 3, 3]), some (li [0, 1, 13, 2, 26, 3, 39, 14, 15, 27, 16, 40, 28, 29, 41, 42]), some (.int ((4 : Nat) : Int)), none, none, some (.int 4), some (.int 2), none] M = .ok (.rt (.bl true)) M := by kernel_rfl
theorem s_3_1_5 (n : Nat) (M : Sto) : rS2 [some (.ref n), some (li [0, 0, 1, 0, 2, 0, 3, 1, 1, 2, 1, 3, 2, 2, 3, 3]), some (li [0, 1, 13, 2, 26, 3, 39, 14, 15, 27, 16, 40, 28, 29, 41, 42]), some (.int ((5 : Nat) : Int)), none, none, some (.int 4), some (.int 2), none] M = .ok (.rt (.bl true)) M := by kernel_rfl
theorem s_3_1_6 (n : Nat) (M : Sto) : rS2 [some (.ref n), some (li [0, 0, 1, 0, 2, 0, 3, 1, 1, 2, 1, 3, 2, 2, 3, 3]), some (li [0, 1, 13, 2, 26, 3, 39, 14, 15, 27, 16, 40, 28, 29, 41, 42]), some (.int ((6 : Nat) : Int)), none, none, some (.int 4), some (.int 2), none] M = .ok (.rt (.bl true)) M := by kernel_rfl
theorem s_3_1_7 (n : Nat) (M : Sto) : rS2 [some (.ref n), some (li [0, 0, 1, 0, 2, 0, 3, 1, 1, 2, 1, 3, 2, 2, 3, 3]), some (li [0, 1, 13, 2, 26, 3, 39, 14, 15, 27, 16, 40, 28, 29, 41, 42]), some (.int ((7 : Nat) : Int)), none, none, some (.int 4), some (.int 2), none] M = .ok (.rt (.bl true)) M := by kernel_rfl
theorem s_3_1_8 (n : Nat) (M : Sto) : rS2 [some (.ref n), some (li [0, 0, 1, 0, 2, 0, 3, 1, 1, 2, 1, 3, 2, 2, 3, 3]), some (li [0, 1, 13, 2, 26, 3, 39, 14, 15, 27, 16, 40, 28, 29, 41, 42]), some (.int ((8 : Nat) : Int)), none, none, some (.int 4), some (.int 2), none] M = .ok (.rt (.bl true)) M := by kernel_rfl
theorem s_3_1_9 (n : Nat) (M : Sto) : rS2 [some (.ref n), some (li [0, 0, 1, 0, 2, 0, 3, 1, 1, 2, 1, 3, 2, 2, 3, 3]), some (li [0, 1, 13, 2, 26, 3, 39, 14, 15, 27, 16, 40, 28, 29, 41, 42]), some (.int ((9 : Nat) : Int)), none, none, some (.int 4), some (.int 2), none] M = .ok (.rt (.bl true)) M := by kernel_rfl
theorem s_3_1_10 (n : Nat) (M : Sto) : rS2 [some (.ref n), some (li [0, 0, 1, 0, 2, 0, 3, 1, 1, 2, 1, 3, 2, 2, 3, 3]), some (li [0, 1, 13, 2, 26, 3, 39, 14, 15, 27, 16, 40, 28, 29, 41, 42]), some (.int ((10 : Nat) : Int)), none, none, some (.int 4), some (.int 2), none] M = .ok (.rt (.bl true)) M := by kernel_rfl
theorem s_3_1_11 (n : Nat) (M : Sto) : rS2 [some (.ref n), some (li [0, 0, 1, 0, 2, 0, 3, 1, 1, 2, 1, 3, 2, 2, 3, 3]), some (li [0, 1, 13, 2, 26, 3, 39, 14, 15, 27, 16, 40, 28, 29, 41, 42]), some (.int ((11 : Nat) : Int)), none, none, some (.int 4), some (.int 2), none] M = .ok (.rt (.bl true)) M := by kernel_rfl
theorem s_3_1_12 (n : Nat) (M : Sto) : rS2 [some (.ref n), some (li [0, 0, 1, 0, 2, 0, 3, 1, 1, 2, 1, 3, 2, 2, 3, 3]), some (li [0, 1, 13, 2, 26, 3, 39, 14, 15, 27, 16, 40, 28, 29, 41, 42]), some (.int ((12 : Nat) : Int)), none, none, some (.int 4), some (.int 2), none] M = .ok (.rt (.bl true)) M := by kernel_rfl
theorem s_3_1_13 (n : Nat) (M : Sto) : rS2 [some (.ref n), some (li [0, 0, 1, 0, 2, 0, 3, 1, 1, 2, 1, 3, 2, 2, 3, 3]), some (li [0, 1, 13, 2, 26, 3, 39, 14, 15, 27, 16, 40, 28, 29, 41, 42]), some (.int ((13 : Nat) : Int)), none, none, some (.int 4), some (.int 2), none] M = .ok (.rt (.bl true)) M := by kernel_rfl
theorem s_3_1_14 (n : Nat) (M : Sto) : rS2 [some (.ref n), some (li [0, 0, 1, 0, 2, 0, 3, 1, 1, 2, 1, 3, 2, 2, 3, 3]), some (li [0, 1, 13, 2, 26, 3, 39, 14, 15, 27, 16, 40, 28, 29, 41, 42]), some (.int ((14 : Nat) : Int)), none, none, some (.int 4), some (.int 2), none] M = .ok (.rt (.bl true)) M := by kernel_rfl
theorem s_3_1_15 (n : Nat) (M : Sto) : rS2 [some (.ref n), some (li [0, 0, 1, 0, 2, 0, 3, 1, 1, 2, 1, 3, 2, 2, 3, 3]), some (li [0, 1, 13, 2, 26, 3, 39, 14, 15, 27, 16, 40, 28, 29, 41, 42]), some (.int ((15 : Nat) : Int)), none, none, some (.int 4), some (.int 2), none] M = .ok (.rt (.bl true)) M := by kernel_rfl
end TL
end
section
set_option Elab.async false
set_option linter.all false
set_option maxRecDepth 100000
set_option maxHeartbeats 0
/-! Q97: what hangs on the number of cards alone, gone through (printed by q97.py). -/
namespace TL
open PySem PySem.Spec PyProof.Rows L2
def dMilk : Ev Bool := (eOr (eB (e2 (kVw kNe0) (eCall 2 [] (r_one_then) (eCons (eCall 1 [] (r_monge_move) (eCons (eVar 1) eNil)) (eCons (eCall 1 [] (r_milk_move) (eCons (eVar 1) eNil)) eNil))) (eCall 1 [] (r_whole_pack) (eCons (eVar 1) eNil)))) (eB (e2 (kVw kNe0) (eCall 1 [] (r_is_even) (eCons (eCall 1 [] (r_monge_move) (eCons (eVar 1) eNil)) eNil)) (eCall 1 [] (r_is_even) (eCons (eCall 1 [] (r_milk_move) (eCons (eVar 1) eNil)) eNil)))))
theorem dMilk_1 (x : Option T) (r : Tau) (M : Sto) : dMilk (x :: some (.int ((1 : Nat) : Int)) :: r) M = .ok false M := by kernel_rfl
theorem dMilk_2 (x : Option T) (r : Tau) (M : Sto) : dMilk (x :: some (.int ((2 : Nat) : Int)) :: r) M = .ok false M := by kernel_rfl
theorem dMilk_3 (x : Option T) (r : Tau) (M : Sto) : dMilk (x :: some (.int ((3 : Nat) : Int)) :: r) M = .ok false M := by kernel_rfl
theorem dMilk_4 (x : Option T) (r : Tau) (M : Sto) : dMilk (x :: some (.int ((4 : Nat) : Int)) :: r) M = .ok false M := by kernel_rfl
theorem dMilk_5 (x : Option T) (r : Tau) (M : Sto) : dMilk (x :: some (.int ((5 : Nat) : Int)) :: r) M = .ok false M := by kernel_rfl
theorem dMilk_6 (x : Option T) (r : Tau) (M : Sto) : dMilk (x :: some (.int ((6 : Nat) : Int)) :: r) M = .ok false M := by kernel_rfl
theorem dMilk_7 (x : Option T) (r : Tau) (M : Sto) : dMilk (x :: some (.int ((7 : Nat) : Int)) :: r) M = .ok false M := by kernel_rfl
theorem dMilk_8 (x : Option T) (r : Tau) (M : Sto) : dMilk (x :: some (.int ((8 : Nat) : Int)) :: r) M = .ok false M := by kernel_rfl
theorem dMilk_9 (x : Option T) (r : Tau) (M : Sto) : dMilk (x :: some (.int ((9 : Nat) : Int)) :: r) M = .ok false M := by kernel_rfl
theorem dMilk_10 (x : Option T) (r : Tau) (M : Sto) : dMilk (x :: some (.int ((10 : Nat) : Int)) :: r) M = .ok false M := by kernel_rfl
theorem dMilk_11 (x : Option T) (r : Tau) (M : Sto) : dMilk (x :: some (.int ((11 : Nat) : Int)) :: r) M = .ok false M := by kernel_rfl
theorem dMilk_12 (x : Option T) (r : Tau) (M : Sto) : dMilk (x :: some (.int ((12 : Nat) : Int)) :: r) M = .ok false M := by kernel_rfl
theorem dMilk_13 (x : Option T) (r : Tau) (M : Sto) : dMilk (x :: some (.int ((13 : Nat) : Int)) :: r) M = .ok false M := by kernel_rfl
theorem dMilk_14 (x : Option T) (r : Tau) (M : Sto) : dMilk (x :: some (.int ((14 : Nat) : Int)) :: r) M = .ok false M := by kernel_rfl
theorem dMilk_15 (x : Option T) (r : Tau) (M : Sto) : dMilk (x :: some (.int ((15 : Nat) : Int)) :: r) M = .ok false M := by kernel_rfl
theorem dMilk_16 (x : Option T) (r : Tau) (M : Sto) : dMilk (x :: some (.int ((16 : Nat) : Int)) :: r) M = .ok false M := by kernel_rfl
theorem dMilk_17 (x : Option T) (r : Tau) (M : Sto) : dMilk (x :: some (.int ((17 : Nat) : Int)) :: r) M = .ok false M := by kernel_rfl
theorem dMilk_18 (x : Option T) (r : Tau) (M : Sto) : dMilk (x :: some (.int ((18 : Nat) : Int)) :: r) M = .ok false M := by kernel_rfl
theorem dMilk_19 (x : Option T) (r : Tau) (M : Sto) : dMilk (x :: some (.int ((19 : Nat) : Int)) :: r) M = .ok false M := by kernel_rfl
theorem dMilk_20 (x : Option T) (r : Tau) (M : Sto) : dMilk (x :: some (.int ((20 : Nat) : Int)) :: r) M = .ok false M := by kernel_rfl
theorem dMilk_21 (x : Option T) (r : Tau) (M : Sto) : dMilk (x :: some (.int ((21 : Nat) : Int)) :: r) M = .ok false M := by kernel_rfl
theorem dMilk_22 (x : Option T) (r : Tau) (M : Sto) : dMilk (x :: some (.int ((22 : Nat) : Int)) :: r) M = .ok false M := by kernel_rfl
theorem dMilk_23 (x : Option T) (r : Tau) (M : Sto) : dMilk (x :: some (.int ((23 : Nat) : Int)) :: r) M = .ok false M := by kernel_rfl
theorem dMilk_24 (x : Option T) (r : Tau) (M : Sto) : dMilk (x :: some (.int ((24 : Nat) : Int)) :: r) M = .ok false M := by kernel_rfl
theorem dMilk_25 (x : Option T) (r : Tau) (M : Sto) : dMilk (x :: some (.int ((25 : Nat) : Int)) :: r) M = .ok false M := by kernel_rfl
theorem dMilk_26 (x : Option T) (r : Tau) (M : Sto) : dMilk (x :: some (.int ((26 : Nat) : Int)) :: r) M = .ok false M := by kernel_rfl
theorem dMilk_27 (x : Option T) (r : Tau) (M : Sto) : dMilk (x :: some (.int ((27 : Nat) : Int)) :: r) M = .ok false M := by kernel_rfl
theorem dMilk_28 (x : Option T) (r : Tau) (M : Sto) : dMilk (x :: some (.int ((28 : Nat) : Int)) :: r) M = .ok false M := by kernel_rfl
theorem dMilk_29 (x : Option T) (r : Tau) (M : Sto) : dMilk (x :: some (.int ((29 : Nat) : Int)) :: r) M = .ok false M := by kernel_rfl
theorem dMilk_30 (x : Option T) (r : Tau) (M : Sto) : dMilk (x :: some (.int ((30 : Nat) : Int)) :: r) M = .ok false M := by kernel_rfl
theorem dMilk_31 (x : Option T) (r : Tau) (M : Sto) : dMilk (x :: some (.int ((31 : Nat) : Int)) :: r) M = .ok false M := by kernel_rfl
theorem dMilk_32 (x : Option T) (r : Tau) (M : Sto) : dMilk (x :: some (.int ((32 : Nat) : Int)) :: r) M = .ok false M := by kernel_rfl
theorem dMilk_33 (x : Option T) (r : Tau) (M : Sto) : dMilk (x :: some (.int ((33 : Nat) : Int)) :: r) M = .ok false M := by kernel_rfl
theorem dMilk_34 (x : Option T) (r : Tau) (M : Sto) : dMilk (x :: some (.int ((34 : Nat) : Int)) :: r) M = .ok false M := by kernel_rfl
theorem dMilk_35 (x : Option T) (r : Tau) (M : Sto) : dMilk (x :: some (.int ((35 : Nat) : Int)) :: r) M = .ok false M := by kernel_rfl
theorem dMilk_36 (x : Option T) (r : Tau) (M : Sto) : dMilk (x :: some (.int ((36 : Nat) : Int)) :: r) M = .ok false M := by kernel_rfl
theorem dMilk_37 (x : Option T) (r : Tau) (M : Sto) : dMilk (x :: some (.int ((37 : Nat) : Int)) :: r) M = .ok false M := by kernel_rfl
theorem dMilk_38 (x : Option T) (r : Tau) (M : Sto) : dMilk (x :: some (.int ((38 : Nat) : Int)) :: r) M = .ok false M := by kernel_rfl
theorem dMilk_39 (x : Option T) (r : Tau) (M : Sto) : dMilk (x :: some (.int ((39 : Nat) : Int)) :: r) M = .ok false M := by kernel_rfl
theorem dMilk_40 (x : Option T) (r : Tau) (M : Sto) : dMilk (x :: some (.int ((40 : Nat) : Int)) :: r) M = .ok false M := by kernel_rfl
theorem dMilk_all {x : Option T} {r : Tau} {M : Sto} : ∀ {n : Nat}, 1 ≤ n → n ≤ 40 → dMilk (x :: some (.int (n : Nat)) :: r) M = .ok false M
  | 0, h, _ => absurd h (by decide)
  | 1, _, _ => dMilk_1 x r M
  | 2, _, _ => dMilk_2 x r M
  | 3, _, _ => dMilk_3 x r M
  | 4, _, _ => dMilk_4 x r M
  | 5, _, _ => dMilk_5 x r M
  | 6, _, _ => dMilk_6 x r M
  | 7, _, _ => dMilk_7 x r M
  | 8, _, _ => dMilk_8 x r M
  | 9, _, _ => dMilk_9 x r M
  | 10, _, _ => dMilk_10 x r M
  | 11, _, _ => dMilk_11 x r M
  | 12, _, _ => dMilk_12 x r M
  | 13, _, _ => dMilk_13 x r M
  | 14, _, _ => dMilk_14 x r M
  | 15, _, _ => dMilk_15 x r M
  | 16, _, _ => dMilk_16 x r M
  | 17, _, _ => dMilk_17 x r M
  | 18, _, _ => dMilk_18 x r M
  | 19, _, _ => dMilk_19 x r M
  | 20, _, _ => dMilk_20 x r M
  | 21, _, _ => dMilk_21 x r M
  | 22, _, _ => dMilk_22 x r M
  | 23, _, _ => dMilk_23 x r M
  | 24, _, _ => dMilk_24 x r M
  | 25, _, _ => dMilk_25 x r M
  | 26, _, _ => dMilk_26 x r M
  | 27, _, _ => dMilk_27 x r M
  | 28, _, _ => dMilk_28 x r M
  | 29, _, _ => dMilk_29 x r M
  | 30, _, _ => dMilk_30 x r M
  | 31, _, _ => dMilk_31 x r M
  | 32, _, _ => dMilk_32 x r M
  | 33, _, _ => dMilk_33 x r M
  | 34, _, _ => dMilk_34 x r M
  | 35, _, _ => dMilk_35 x r M
  | 36, _, _ => dMilk_36 x r M
  | 37, _, _ => dMilk_37 x r M
  | 38, _, _ => dMilk_38 x r M
  | 39, _, _ => dMilk_39 x r M
  | 40, _, _ => dMilk_40 x r M
  | n + 41, _, h => absurd h (by omega)
def dOut : Ev Bool := (eB (e2 (kVw kNe0) (eCall 2 [] (r_out_order) (eCons (eVar 1) (eCons (eC (.int 1)) eNil))) (eCall 1 [] (r_whole_pack) (eCons (eVar 1) eNil))))
theorem dOut_1 (x : Option T) (r : Tau) (M : Sto) : dOut (x :: some (.int ((1 : Nat) : Int)) :: r) M = .ok false M := by kernel_rfl
theorem dOut_2 (x : Option T) (r : Tau) (M : Sto) : dOut (x :: some (.int ((2 : Nat) : Int)) :: r) M = .ok false M := by kernel_rfl
theorem dOut_3 (x : Option T) (r : Tau) (M : Sto) : dOut (x :: some (.int ((3 : Nat) : Int)) :: r) M = .ok false M := by kernel_rfl
theorem dOut_4 (x : Option T) (r : Tau) (M : Sto) : dOut (x :: some (.int ((4 : Nat) : Int)) :: r) M = .ok false M := by kernel_rfl
theorem dOut_5 (x : Option T) (r : Tau) (M : Sto) : dOut (x :: some (.int ((5 : Nat) : Int)) :: r) M = .ok false M := by kernel_rfl
theorem dOut_6 (x : Option T) (r : Tau) (M : Sto) : dOut (x :: some (.int ((6 : Nat) : Int)) :: r) M = .ok false M := by kernel_rfl
theorem dOut_7 (x : Option T) (r : Tau) (M : Sto) : dOut (x :: some (.int ((7 : Nat) : Int)) :: r) M = .ok false M := by kernel_rfl
theorem dOut_8 (x : Option T) (r : Tau) (M : Sto) : dOut (x :: some (.int ((8 : Nat) : Int)) :: r) M = .ok false M := by kernel_rfl
theorem dOut_9 (x : Option T) (r : Tau) (M : Sto) : dOut (x :: some (.int ((9 : Nat) : Int)) :: r) M = .ok false M := by kernel_rfl
theorem dOut_10 (x : Option T) (r : Tau) (M : Sto) : dOut (x :: some (.int ((10 : Nat) : Int)) :: r) M = .ok false M := by kernel_rfl
theorem dOut_11 (x : Option T) (r : Tau) (M : Sto) : dOut (x :: some (.int ((11 : Nat) : Int)) :: r) M = .ok false M := by kernel_rfl
theorem dOut_12 (x : Option T) (r : Tau) (M : Sto) : dOut (x :: some (.int ((12 : Nat) : Int)) :: r) M = .ok false M := by kernel_rfl
theorem dOut_13 (x : Option T) (r : Tau) (M : Sto) : dOut (x :: some (.int ((13 : Nat) : Int)) :: r) M = .ok false M := by kernel_rfl
theorem dOut_14 (x : Option T) (r : Tau) (M : Sto) : dOut (x :: some (.int ((14 : Nat) : Int)) :: r) M = .ok false M := by kernel_rfl
theorem dOut_15 (x : Option T) (r : Tau) (M : Sto) : dOut (x :: some (.int ((15 : Nat) : Int)) :: r) M = .ok false M := by kernel_rfl
theorem dOut_16 (x : Option T) (r : Tau) (M : Sto) : dOut (x :: some (.int ((16 : Nat) : Int)) :: r) M = .ok false M := by kernel_rfl
theorem dOut_17 (x : Option T) (r : Tau) (M : Sto) : dOut (x :: some (.int ((17 : Nat) : Int)) :: r) M = .ok false M := by kernel_rfl
theorem dOut_18 (x : Option T) (r : Tau) (M : Sto) : dOut (x :: some (.int ((18 : Nat) : Int)) :: r) M = .ok false M := by kernel_rfl
theorem dOut_19 (x : Option T) (r : Tau) (M : Sto) : dOut (x :: some (.int ((19 : Nat) : Int)) :: r) M = .ok false M := by kernel_rfl
theorem dOut_20 (x : Option T) (r : Tau) (M : Sto) : dOut (x :: some (.int ((20 : Nat) : Int)) :: r) M = .ok false M := by kernel_rfl
theorem dOut_21 (x : Option T) (r : Tau) (M : Sto) : dOut (x :: some (.int ((21 : Nat) : Int)) :: r) M = .ok false M := by kernel_rfl
theorem dOut_22 (x : Option T) (r : Tau) (M : Sto) : dOut (x :: some (.int ((22 : Nat) : Int)) :: r) M = .ok false M := by kernel_rfl
theorem dOut_23 (x : Option T) (r : Tau) (M : Sto) : dOut (x :: some (.int ((23 : Nat) : Int)) :: r) M = .ok false M := by kernel_rfl
theorem dOut_24 (x : Option T) (r : Tau) (M : Sto) : dOut (x :: some (.int ((24 : Nat) : Int)) :: r) M = .ok false M := by kernel_rfl
theorem dOut_25 (x : Option T) (r : Tau) (M : Sto) : dOut (x :: some (.int ((25 : Nat) : Int)) :: r) M = .ok false M := by kernel_rfl
theorem dOut_26 (x : Option T) (r : Tau) (M : Sto) : dOut (x :: some (.int ((26 : Nat) : Int)) :: r) M = .ok false M := by kernel_rfl
theorem dOut_27 (x : Option T) (r : Tau) (M : Sto) : dOut (x :: some (.int ((27 : Nat) : Int)) :: r) M = .ok false M := by kernel_rfl
theorem dOut_28 (x : Option T) (r : Tau) (M : Sto) : dOut (x :: some (.int ((28 : Nat) : Int)) :: r) M = .ok false M := by kernel_rfl
theorem dOut_29 (x : Option T) (r : Tau) (M : Sto) : dOut (x :: some (.int ((29 : Nat) : Int)) :: r) M = .ok false M := by kernel_rfl
theorem dOut_30 (x : Option T) (r : Tau) (M : Sto) : dOut (x :: some (.int ((30 : Nat) : Int)) :: r) M = .ok false M := by kernel_rfl
theorem dOut_31 (x : Option T) (r : Tau) (M : Sto) : dOut (x :: some (.int ((31 : Nat) : Int)) :: r) M = .ok false M := by kernel_rfl
theorem dOut_32 (x : Option T) (r : Tau) (M : Sto) : dOut (x :: some (.int ((32 : Nat) : Int)) :: r) M = .ok false M := by kernel_rfl
theorem dOut_33 (x : Option T) (r : Tau) (M : Sto) : dOut (x :: some (.int ((33 : Nat) : Int)) :: r) M = .ok false M := by kernel_rfl
theorem dOut_34 (x : Option T) (r : Tau) (M : Sto) : dOut (x :: some (.int ((34 : Nat) : Int)) :: r) M = .ok false M := by kernel_rfl
theorem dOut_35 (x : Option T) (r : Tau) (M : Sto) : dOut (x :: some (.int ((35 : Nat) : Int)) :: r) M = .ok false M := by kernel_rfl
theorem dOut_36 (x : Option T) (r : Tau) (M : Sto) : dOut (x :: some (.int ((36 : Nat) : Int)) :: r) M = .ok false M := by kernel_rfl
theorem dOut_37 (x : Option T) (r : Tau) (M : Sto) : dOut (x :: some (.int ((37 : Nat) : Int)) :: r) M = .ok false M := by kernel_rfl
theorem dOut_38 (x : Option T) (r : Tau) (M : Sto) : dOut (x :: some (.int ((38 : Nat) : Int)) :: r) M = .ok false M := by kernel_rfl
theorem dOut_39 (x : Option T) (r : Tau) (M : Sto) : dOut (x :: some (.int ((39 : Nat) : Int)) :: r) M = .ok false M := by kernel_rfl
theorem dOut_40 (x : Option T) (r : Tau) (M : Sto) : dOut (x :: some (.int ((40 : Nat) : Int)) :: r) M = .ok false M := by kernel_rfl
theorem dOut_all {x : Option T} {r : Tau} {M : Sto} : ∀ {n : Nat}, 1 ≤ n → n ≤ 40 → dOut (x :: some (.int (n : Nat)) :: r) M = .ok false M
  | 0, h, _ => absurd h (by decide)
  | 1, _, _ => dOut_1 x r M
  | 2, _, _ => dOut_2 x r M
  | 3, _, _ => dOut_3 x r M
  | 4, _, _ => dOut_4 x r M
  | 5, _, _ => dOut_5 x r M
  | 6, _, _ => dOut_6 x r M
  | 7, _, _ => dOut_7 x r M
  | 8, _, _ => dOut_8 x r M
  | 9, _, _ => dOut_9 x r M
  | 10, _, _ => dOut_10 x r M
  | 11, _, _ => dOut_11 x r M
  | 12, _, _ => dOut_12 x r M
  | 13, _, _ => dOut_13 x r M
  | 14, _, _ => dOut_14 x r M
  | 15, _, _ => dOut_15 x r M
  | 16, _, _ => dOut_16 x r M
  | 17, _, _ => dOut_17 x r M
  | 18, _, _ => dOut_18 x r M
  | 19, _, _ => dOut_19 x r M
  | 20, _, _ => dOut_20 x r M
  | 21, _, _ => dOut_21 x r M
  | 22, _, _ => dOut_22 x r M
  | 23, _, _ => dOut_23 x r M
  | 24, _, _ => dOut_24 x r M
  | 25, _, _ => dOut_25 x r M
  | 26, _, _ => dOut_26 x r M
  | 27, _, _ => dOut_27 x r M
  | 28, _, _ => dOut_28 x r M
  | 29, _, _ => dOut_29 x r M
  | 30, _, _ => dOut_30 x r M
  | 31, _, _ => dOut_31 x r M
  | 32, _, _ => dOut_32 x r M
  | 33, _, _ => dOut_33 x r M
  | 34, _, _ => dOut_34 x r M
  | 35, _, _ => dOut_35 x r M
  | 36, _, _ => dOut_36 x r M
  | 37, _, _ => dOut_37 x r M
  | 38, _, _ => dOut_38 x r M
  | 39, _, _ => dOut_39 x r M
  | 40, _, _ => dOut_40 x r M
  | n + 41, _, h => absurd h (by omega)
def dTurn : Ev Bool := (eB (e2 (kVw kNe0) (eCall 3 [] (r_out_turn) (eCons (eVar 1) (eCons (eC (.int 2)) (eCons (eCall 2 [] (r_last_place) (eCons (eVar 1) (eCons (eC (.int 2)) eNil))) eNil)))) (e2 kSub (eVar 1) (eC (.int 1)))))
theorem dTurn_1 (x : Option T) (r : Tau) (M : Sto) : dTurn (x :: some (.int ((1 : Nat) : Int)) :: r) M = .ok false M := by kernel_rfl
theorem dTurn_2 (x : Option T) (r : Tau) (M : Sto) : dTurn (x :: some (.int ((2 : Nat) : Int)) :: r) M = .ok false M := by kernel_rfl
theorem dTurn_3 (x : Option T) (r : Tau) (M : Sto) : dTurn (x :: some (.int ((3 : Nat) : Int)) :: r) M = .ok false M := by kernel_rfl
theorem dTurn_4 (x : Option T) (r : Tau) (M : Sto) : dTurn (x :: some (.int ((4 : Nat) : Int)) :: r) M = .ok false M := by kernel_rfl
theorem dTurn_5 (x : Option T) (r : Tau) (M : Sto) : dTurn (x :: some (.int ((5 : Nat) : Int)) :: r) M = .ok false M := by kernel_rfl
theorem dTurn_6 (x : Option T) (r : Tau) (M : Sto) : dTurn (x :: some (.int ((6 : Nat) : Int)) :: r) M = .ok false M := by kernel_rfl
theorem dTurn_7 (x : Option T) (r : Tau) (M : Sto) : dTurn (x :: some (.int ((7 : Nat) : Int)) :: r) M = .ok false M := by kernel_rfl
theorem dTurn_8 (x : Option T) (r : Tau) (M : Sto) : dTurn (x :: some (.int ((8 : Nat) : Int)) :: r) M = .ok false M := by kernel_rfl
theorem dTurn_9 (x : Option T) (r : Tau) (M : Sto) : dTurn (x :: some (.int ((9 : Nat) : Int)) :: r) M = .ok false M := by kernel_rfl
theorem dTurn_10 (x : Option T) (r : Tau) (M : Sto) : dTurn (x :: some (.int ((10 : Nat) : Int)) :: r) M = .ok false M := by kernel_rfl
theorem dTurn_11 (x : Option T) (r : Tau) (M : Sto) : dTurn (x :: some (.int ((11 : Nat) : Int)) :: r) M = .ok false M := by kernel_rfl
theorem dTurn_12 (x : Option T) (r : Tau) (M : Sto) : dTurn (x :: some (.int ((12 : Nat) : Int)) :: r) M = .ok false M := by kernel_rfl
theorem dTurn_13 (x : Option T) (r : Tau) (M : Sto) : dTurn (x :: some (.int ((13 : Nat) : Int)) :: r) M = .ok false M := by kernel_rfl
theorem dTurn_14 (x : Option T) (r : Tau) (M : Sto) : dTurn (x :: some (.int ((14 : Nat) : Int)) :: r) M = .ok false M := by kernel_rfl
theorem dTurn_15 (x : Option T) (r : Tau) (M : Sto) : dTurn (x :: some (.int ((15 : Nat) : Int)) :: r) M = .ok false M := by kernel_rfl
theorem dTurn_16 (x : Option T) (r : Tau) (M : Sto) : dTurn (x :: some (.int ((16 : Nat) : Int)) :: r) M = .ok false M := by kernel_rfl
theorem dTurn_17 (x : Option T) (r : Tau) (M : Sto) : dTurn (x :: some (.int ((17 : Nat) : Int)) :: r) M = .ok false M := by kernel_rfl
theorem dTurn_18 (x : Option T) (r : Tau) (M : Sto) : dTurn (x :: some (.int ((18 : Nat) : Int)) :: r) M = .ok false M := by kernel_rfl
theorem dTurn_19 (x : Option T) (r : Tau) (M : Sto) : dTurn (x :: some (.int ((19 : Nat) : Int)) :: r) M = .ok false M := by kernel_rfl
theorem dTurn_20 (x : Option T) (r : Tau) (M : Sto) : dTurn (x :: some (.int ((20 : Nat) : Int)) :: r) M = .ok false M := by kernel_rfl
theorem dTurn_21 (x : Option T) (r : Tau) (M : Sto) : dTurn (x :: some (.int ((21 : Nat) : Int)) :: r) M = .ok false M := by kernel_rfl
theorem dTurn_22 (x : Option T) (r : Tau) (M : Sto) : dTurn (x :: some (.int ((22 : Nat) : Int)) :: r) M = .ok false M := by kernel_rfl
theorem dTurn_23 (x : Option T) (r : Tau) (M : Sto) : dTurn (x :: some (.int ((23 : Nat) : Int)) :: r) M = .ok false M := by kernel_rfl
theorem dTurn_24 (x : Option T) (r : Tau) (M : Sto) : dTurn (x :: some (.int ((24 : Nat) : Int)) :: r) M = .ok false M := by kernel_rfl
theorem dTurn_25 (x : Option T) (r : Tau) (M : Sto) : dTurn (x :: some (.int ((25 : Nat) : Int)) :: r) M = .ok false M := by kernel_rfl
theorem dTurn_26 (x : Option T) (r : Tau) (M : Sto) : dTurn (x :: some (.int ((26 : Nat) : Int)) :: r) M = .ok false M := by kernel_rfl
theorem dTurn_27 (x : Option T) (r : Tau) (M : Sto) : dTurn (x :: some (.int ((27 : Nat) : Int)) :: r) M = .ok false M := by kernel_rfl
theorem dTurn_28 (x : Option T) (r : Tau) (M : Sto) : dTurn (x :: some (.int ((28 : Nat) : Int)) :: r) M = .ok false M := by kernel_rfl
theorem dTurn_29 (x : Option T) (r : Tau) (M : Sto) : dTurn (x :: some (.int ((29 : Nat) : Int)) :: r) M = .ok false M := by kernel_rfl
theorem dTurn_30 (x : Option T) (r : Tau) (M : Sto) : dTurn (x :: some (.int ((30 : Nat) : Int)) :: r) M = .ok false M := by kernel_rfl
theorem dTurn_31 (x : Option T) (r : Tau) (M : Sto) : dTurn (x :: some (.int ((31 : Nat) : Int)) :: r) M = .ok false M := by kernel_rfl
theorem dTurn_32 (x : Option T) (r : Tau) (M : Sto) : dTurn (x :: some (.int ((32 : Nat) : Int)) :: r) M = .ok false M := by kernel_rfl
theorem dTurn_33 (x : Option T) (r : Tau) (M : Sto) : dTurn (x :: some (.int ((33 : Nat) : Int)) :: r) M = .ok false M := by kernel_rfl
theorem dTurn_34 (x : Option T) (r : Tau) (M : Sto) : dTurn (x :: some (.int ((34 : Nat) : Int)) :: r) M = .ok false M := by kernel_rfl
theorem dTurn_35 (x : Option T) (r : Tau) (M : Sto) : dTurn (x :: some (.int ((35 : Nat) : Int)) :: r) M = .ok false M := by kernel_rfl
theorem dTurn_36 (x : Option T) (r : Tau) (M : Sto) : dTurn (x :: some (.int ((36 : Nat) : Int)) :: r) M = .ok false M := by kernel_rfl
theorem dTurn_37 (x : Option T) (r : Tau) (M : Sto) : dTurn (x :: some (.int ((37 : Nat) : Int)) :: r) M = .ok false M := by kernel_rfl
theorem dTurn_38 (x : Option T) (r : Tau) (M : Sto) : dTurn (x :: some (.int ((38 : Nat) : Int)) :: r) M = .ok false M := by kernel_rfl
theorem dTurn_39 (x : Option T) (r : Tau) (M : Sto) : dTurn (x :: some (.int ((39 : Nat) : Int)) :: r) M = .ok false M := by kernel_rfl
theorem dTurn_40 (x : Option T) (r : Tau) (M : Sto) : dTurn (x :: some (.int ((40 : Nat) : Int)) :: r) M = .ok false M := by kernel_rfl
theorem dTurn_all {x : Option T} {r : Tau} {M : Sto} : ∀ {n : Nat}, 1 ≤ n → n ≤ 40 → dTurn (x :: some (.int (n : Nat)) :: r) M = .ok false M
  | 0, h, _ => absurd h (by decide)
  | 1, _, _ => dTurn_1 x r M
  | 2, _, _ => dTurn_2 x r M
  | 3, _, _ => dTurn_3 x r M
  | 4, _, _ => dTurn_4 x r M
  | 5, _, _ => dTurn_5 x r M
  | 6, _, _ => dTurn_6 x r M
  | 7, _, _ => dTurn_7 x r M
  | 8, _, _ => dTurn_8 x r M
  | 9, _, _ => dTurn_9 x r M
  | 10, _, _ => dTurn_10 x r M
  | 11, _, _ => dTurn_11 x r M
  | 12, _, _ => dTurn_12 x r M
  | 13, _, _ => dTurn_13 x r M
  | 14, _, _ => dTurn_14 x r M
  | 15, _, _ => dTurn_15 x r M
  | 16, _, _ => dTurn_16 x r M
  | 17, _, _ => dTurn_17 x r M
  | 18, _, _ => dTurn_18 x r M
  | 19, _, _ => dTurn_19 x r M
  | 20, _, _ => dTurn_20 x r M
  | 21, _, _ => dTurn_21 x r M
  | 22, _, _ => dTurn_22 x r M
  | 23, _, _ => dTurn_23 x r M
  | 24, _, _ => dTurn_24 x r M
  | 25, _, _ => dTurn_25 x r M
  | 26, _, _ => dTurn_26 x r M
  | 27, _, _ => dTurn_27 x r M
  | 28, _, _ => dTurn_28 x r M
  | 29, _, _ => dTurn_29 x r M
  | 30, _, _ => dTurn_30 x r M
  | 31, _, _ => dTurn_31 x r M
  | 32, _, _ => dTurn_32 x r M
  | 33, _, _ => dTurn_33 x r M
  | 34, _, _ => dTurn_34 x r M
  | 35, _, _ => dTurn_35 x r M
  | 36, _, _ => dTurn_36 x r M
  | 37, _, _ => dTurn_37 x r M
  | 38, _, _ => dTurn_38 x r M
  | 39, _, _ => dTurn_39 x r M
  | 40, _, _ => dTurn_40 x r M
  | n + 41, _, h => absurd h (by omega)
def dFaro : Ev Bool := (eAnd (eB (e2 (kVw kEq0) (e2 kMod (eVar 1) (eC (.int 2))) (eC (.int 0)))) (eOr (eB (e2 (kVw kNe0) (eCall 1 [] (r_move_back) (eCons (eCall 2 [] (r_faro_move) (eCons (eVar 1) (eCons (eC (.str ⟨#[111, 117, 116]⟩)) eNil))) eNil)) (eCall 3 [] (r_deal_move) (eCons (eVar 1) (eCons (eC (.int 2)) (eCons (eLst (eCons (eC (.int 0)) (eCons (eC (.int 1)) eNil))) eNil)))))) (eB (e2 (kVw kNe0) (eCall 1 [] (r_move_back) (eCons (eCall 2 [] (r_faro_move) (eCons (eVar 1) (eCons (eC (.str ⟨#[105, 110]⟩)) eNil))) eNil)) (eCall 3 [] (r_deal_move) (eCons (eVar 1) (eCons (eC (.int 2)) (eCons (eLst (eCons (eC (.int 1)) (eCons (eC (.int 0)) eNil))) eNil))))))))
theorem dFaro_1 (x : Option T) (r : Tau) (M : Sto) : dFaro (x :: some (.int ((1 : Nat) : Int)) :: r) M = .ok false M := by kernel_rfl
theorem dFaro_2 (x : Option T) (r : Tau) (M : Sto) : dFaro (x :: some (.int ((2 : Nat) : Int)) :: r) M = .ok false M := by kernel_rfl
theorem dFaro_3 (x : Option T) (r : Tau) (M : Sto) : dFaro (x :: some (.int ((3 : Nat) : Int)) :: r) M = .ok false M := by kernel_rfl
theorem dFaro_4 (x : Option T) (r : Tau) (M : Sto) : dFaro (x :: some (.int ((4 : Nat) : Int)) :: r) M = .ok false M := by kernel_rfl
theorem dFaro_5 (x : Option T) (r : Tau) (M : Sto) : dFaro (x :: some (.int ((5 : Nat) : Int)) :: r) M = .ok false M := by kernel_rfl
theorem dFaro_6 (x : Option T) (r : Tau) (M : Sto) : dFaro (x :: some (.int ((6 : Nat) : Int)) :: r) M = .ok false M := by kernel_rfl
theorem dFaro_7 (x : Option T) (r : Tau) (M : Sto) : dFaro (x :: some (.int ((7 : Nat) : Int)) :: r) M = .ok false M := by kernel_rfl
theorem dFaro_8 (x : Option T) (r : Tau) (M : Sto) : dFaro (x :: some (.int ((8 : Nat) : Int)) :: r) M = .ok false M := by kernel_rfl
theorem dFaro_9 (x : Option T) (r : Tau) (M : Sto) : dFaro (x :: some (.int ((9 : Nat) : Int)) :: r) M = .ok false M := by kernel_rfl
theorem dFaro_10 (x : Option T) (r : Tau) (M : Sto) : dFaro (x :: some (.int ((10 : Nat) : Int)) :: r) M = .ok false M := by kernel_rfl
theorem dFaro_11 (x : Option T) (r : Tau) (M : Sto) : dFaro (x :: some (.int ((11 : Nat) : Int)) :: r) M = .ok false M := by kernel_rfl
theorem dFaro_12 (x : Option T) (r : Tau) (M : Sto) : dFaro (x :: some (.int ((12 : Nat) : Int)) :: r) M = .ok false M := by kernel_rfl
theorem dFaro_13 (x : Option T) (r : Tau) (M : Sto) : dFaro (x :: some (.int ((13 : Nat) : Int)) :: r) M = .ok false M := by kernel_rfl
theorem dFaro_14 (x : Option T) (r : Tau) (M : Sto) : dFaro (x :: some (.int ((14 : Nat) : Int)) :: r) M = .ok false M := by kernel_rfl
theorem dFaro_15 (x : Option T) (r : Tau) (M : Sto) : dFaro (x :: some (.int ((15 : Nat) : Int)) :: r) M = .ok false M := by kernel_rfl
theorem dFaro_16 (x : Option T) (r : Tau) (M : Sto) : dFaro (x :: some (.int ((16 : Nat) : Int)) :: r) M = .ok false M := by kernel_rfl
theorem dFaro_17 (x : Option T) (r : Tau) (M : Sto) : dFaro (x :: some (.int ((17 : Nat) : Int)) :: r) M = .ok false M := by kernel_rfl
theorem dFaro_18 (x : Option T) (r : Tau) (M : Sto) : dFaro (x :: some (.int ((18 : Nat) : Int)) :: r) M = .ok false M := by kernel_rfl
theorem dFaro_19 (x : Option T) (r : Tau) (M : Sto) : dFaro (x :: some (.int ((19 : Nat) : Int)) :: r) M = .ok false M := by kernel_rfl
theorem dFaro_20 (x : Option T) (r : Tau) (M : Sto) : dFaro (x :: some (.int ((20 : Nat) : Int)) :: r) M = .ok false M := by kernel_rfl
theorem dFaro_21 (x : Option T) (r : Tau) (M : Sto) : dFaro (x :: some (.int ((21 : Nat) : Int)) :: r) M = .ok false M := by kernel_rfl
theorem dFaro_22 (x : Option T) (r : Tau) (M : Sto) : dFaro (x :: some (.int ((22 : Nat) : Int)) :: r) M = .ok false M := by kernel_rfl
theorem dFaro_23 (x : Option T) (r : Tau) (M : Sto) : dFaro (x :: some (.int ((23 : Nat) : Int)) :: r) M = .ok false M := by kernel_rfl
theorem dFaro_24 (x : Option T) (r : Tau) (M : Sto) : dFaro (x :: some (.int ((24 : Nat) : Int)) :: r) M = .ok false M := by kernel_rfl
theorem dFaro_25 (x : Option T) (r : Tau) (M : Sto) : dFaro (x :: some (.int ((25 : Nat) : Int)) :: r) M = .ok false M := by kernel_rfl
theorem dFaro_26 (x : Option T) (r : Tau) (M : Sto) : dFaro (x :: some (.int ((26 : Nat) : Int)) :: r) M = .ok false M := by kernel_rfl
theorem dFaro_27 (x : Option T) (r : Tau) (M : Sto) : dFaro (x :: some (.int ((27 : Nat) : Int)) :: r) M = .ok false M := by kernel_rfl
theorem dFaro_28 (x : Option T) (r : Tau) (M : Sto) : dFaro (x :: some (.int ((28 : Nat) : Int)) :: r) M = .ok false M := by kernel_rfl
theorem dFaro_29 (x : Option T) (r : Tau) (M : Sto) : dFaro (x :: some (.int ((29 : Nat) : Int)) :: r) M = .ok false M := by kernel_rfl
theorem dFaro_30 (x : Option T) (r : Tau) (M : Sto) : dFaro (x :: some (.int ((30 : Nat) : Int)) :: r) M = .ok false M := by kernel_rfl
theorem dFaro_31 (x : Option T) (r : Tau) (M : Sto) : dFaro (x :: some (.int ((31 : Nat) : Int)) :: r) M = .ok false M := by kernel_rfl
theorem dFaro_32 (x : Option T) (r : Tau) (M : Sto) : dFaro (x :: some (.int ((32 : Nat) : Int)) :: r) M = .ok false M := by kernel_rfl
theorem dFaro_33 (x : Option T) (r : Tau) (M : Sto) : dFaro (x :: some (.int ((33 : Nat) : Int)) :: r) M = .ok false M := by kernel_rfl
theorem dFaro_34 (x : Option T) (r : Tau) (M : Sto) : dFaro (x :: some (.int ((34 : Nat) : Int)) :: r) M = .ok false M := by kernel_rfl
theorem dFaro_35 (x : Option T) (r : Tau) (M : Sto) : dFaro (x :: some (.int ((35 : Nat) : Int)) :: r) M = .ok false M := by kernel_rfl
theorem dFaro_36 (x : Option T) (r : Tau) (M : Sto) : dFaro (x :: some (.int ((36 : Nat) : Int)) :: r) M = .ok false M := by kernel_rfl
theorem dFaro_37 (x : Option T) (r : Tau) (M : Sto) : dFaro (x :: some (.int ((37 : Nat) : Int)) :: r) M = .ok false M := by kernel_rfl
theorem dFaro_38 (x : Option T) (r : Tau) (M : Sto) : dFaro (x :: some (.int ((38 : Nat) : Int)) :: r) M = .ok false M := by kernel_rfl
theorem dFaro_39 (x : Option T) (r : Tau) (M : Sto) : dFaro (x :: some (.int ((39 : Nat) : Int)) :: r) M = .ok false M := by kernel_rfl
theorem dFaro_40 (x : Option T) (r : Tau) (M : Sto) : dFaro (x :: some (.int ((40 : Nat) : Int)) :: r) M = .ok false M := by kernel_rfl
theorem dFaro_all {x : Option T} {r : Tau} {M : Sto} : ∀ {n : Nat}, 1 ≤ n → n ≤ 40 → dFaro (x :: some (.int (n : Nat)) :: r) M = .ok false M
  | 0, h, _ => absurd h (by decide)
  | 1, _, _ => dFaro_1 x r M
  | 2, _, _ => dFaro_2 x r M
  | 3, _, _ => dFaro_3 x r M
  | 4, _, _ => dFaro_4 x r M
  | 5, _, _ => dFaro_5 x r M
  | 6, _, _ => dFaro_6 x r M
  | 7, _, _ => dFaro_7 x r M
  | 8, _, _ => dFaro_8 x r M
  | 9, _, _ => dFaro_9 x r M
  | 10, _, _ => dFaro_10 x r M
  | 11, _, _ => dFaro_11 x r M
  | 12, _, _ => dFaro_12 x r M
  | 13, _, _ => dFaro_13 x r M
  | 14, _, _ => dFaro_14 x r M
  | 15, _, _ => dFaro_15 x r M
  | 16, _, _ => dFaro_16 x r M
  | 17, _, _ => dFaro_17 x r M
  | 18, _, _ => dFaro_18 x r M
  | 19, _, _ => dFaro_19 x r M
  | 20, _, _ => dFaro_20 x r M
  | 21, _, _ => dFaro_21 x r M
  | 22, _, _ => dFaro_22 x r M
  | 23, _, _ => dFaro_23 x r M
  | 24, _, _ => dFaro_24 x r M
  | 25, _, _ => dFaro_25 x r M
  | 26, _, _ => dFaro_26 x r M
  | 27, _, _ => dFaro_27 x r M
  | 28, _, _ => dFaro_28 x r M
  | 29, _, _ => dFaro_29 x r M
  | 30, _, _ => dFaro_30 x r M
  | 31, _, _ => dFaro_31 x r M
  | 32, _, _ => dFaro_32 x r M
  | 33, _, _ => dFaro_33 x r M
  | 34, _, _ => dFaro_34 x r M
  | 35, _, _ => dFaro_35 x r M
  | 36, _, _ => dFaro_36 x r M
  | 37, _, _ => dFaro_37 x r M
  | 38, _, _ => dFaro_38 x r M
  | 39, _, _ => dFaro_39 x r M
  | 40, _, _ => dFaro_40 x r M
  | n + 41, _, h => absurd h (by omega)
def dSet : Ev Bool := (eB (e2 (kVw kNe0) (eCall 2 [] (r_moved) (eCons (eCall 2 [] (r_set_for) (eCons (eVar 5) (eCons (eC (.int 3)) eNil))) (eCons (eCall 2 [] (r_out_order) (eCons (eVar 1) (eCons (eC (.int 3)) eNil))) eNil))) (eVar 5)))
theorem cond9_eq : ((eOr (eB (e2 (kVw kNe0) (eCall 2 [] (r_out_order) (eCons (eVar 1) (eCons (eC (.int 1)) eNil))) (eCall 1 [] (r_whole_pack) (eCons (eVar 1) eNil)))) (eOr (eB (e2 (kVw kNe0) (eCall 2 [] (r_moved) (eCons (eCall 2 [] (r_set_for) (eCons (eVar 5) (eCons (eC (.int 3)) eNil))) (eCons (eCall 2 [] (r_out_order) (eCons (eVar 1) (eCons (eC (.int 3)) eNil))) eNil))) (eVar 5))) (eB (e2 (kVw kNe0) (eCall 3 [] (r_out_turn) (eCons (eVar 1) (eCons (eC (.int 2)) (eCons (eCall 2 [] (r_last_place) (eCons (eVar 1) (eCons (eC (.int 2)) eNil))) eNil)))) (e2 kSub (eVar 1) (eC (.int 1))))))) : Ev Bool) = eOr dOut (eOr dSet dTurn) := rfl
end TL
end
section
set_option Elab.async false
set_option linter.all false
set_option maxRecDepth 100000
set_option maxHeartbeats 0
/-! W97: the rings, walked through (printed by w97.py). -/
namespace TL
open PySem PySem.Spec PyProof.Rows L2
theorem draw0 {M : Sto} {n k : Nat} (h : Pu M n k) {m : Nat} (h0 : 0 < m) (h1 : m < 134217728) (hk : k < 1000000) : rDraw [.ref n, .int (m : Nat)] M = .pick m fun d => .ok (.int (d : Nat)) (PB M n (k + 1) [] M.nx) := by
  conv => lhs; rw [PB_self h]
  exact draw_run h (m := (m : Int)) (by omega) (by omega) hk
theorem PB_b {M : Sto} {n k i j nx : Nat} (h : Pu M n k) : PB (PB M n i [] nx) n j [] nx = PB M n j [] nx := PB_PB h
theorem ring_tail {M : Sto} {n k : Nat} (h : Pu M n k) (hk : k < 900000) {s l : T} {r p : List Int} (hp : p ≠ []) (hl : p.length < 1000)
    (ha : ∀ M, rA34 [some (.ref n), some (li r), none, none, none, none, some s, some l, none] M = .ok (.nx [some (.ref n), some (li r), some (li p), none, none, none, some s, some l, none]) M)
    (hs : ∀ d, d < p.length → ∀ M, rS2 [some (.ref n), some (li r), some (li p), some (.int (d : Nat)), none, none, some s, some l, none] M = .ok (.rt (.bl true)) M) :
    Wp (sSeq rA34 (sSeq rA5 rS2) [some (.ref n), some (li r), none, none, none, none, some s, some l, none] M) (FlV fun t M' => t = .bl true ∧ M' = PB M n (k + 1) [] M.nx) := by
  have hpos := List.length_pos_iff.mpr hp
  have hd := draw0 h (m := p.length) hpos (by omega) (by omega)
  rw [sSeq_run, ha]
  simp only [bind_ok]
  rw [sSeq_run]
  unfold rA5
  simp only [sAsg_run, eCall_run, eCons_run, eA_run, eVar_run, eNil_run, List.getElem?_cons_zero, List.getElem?_cons_succ, bind_ok, len_li, List.length_cons, List.length_nil, Nat.reduceAdd, List.append_nil, if_true, r__law_draw, hd, bind_pick, gN_run, List.set_cons_zero, List.set_cons_succ, wp_pick]
  intro d hlt
  rw [hs d hlt, wp_ok, flV_rt]
  exact ⟨rfl, rfl⟩
theorem rings_parts {M : Sto} {n k : Nat} (h : Pu M n k) (hk : k < 800000) {s l : Int} {r0 r1 : List Int}
    (g0 : ∀ M, r_greedy_ring [.int s, .int l] M = .ok (li r0) M) (g1 : ∀ M, r_least_ring [.int s, .int l] M = .ok (li r1) M)
    (t0 : ∀ M k, Pu M n k → k < 900000 → Wp (sSeq rA34 (sSeq rA5 rS2) [some (.ref n), some (li r0), none, none, none, none, some (.int s), some (.int l), none] M) (FlV fun t M' => t = .bl true ∧ M' = PB M n (k + 1) [] M.nx))
    (t1 : ∀ M k, Pu M n k → k < 900000 → Wp (sSeq rA34 (sSeq rA5 rS2) [some (.ref n), some (li r1), none, none, none, none, some (.int s), some (.int l), none] M) (FlV fun t M' => t = .bl true ∧ M' = PB M n (k + 1) [] M.nx)) :
    Wp (sSeq rA2 (sSeq rA34 (sSeq rA5 rS2)) [some (.ref n), none, none, none, none, none, some (.int s), some (.int l), none] M) (FlV fun t M' => t = .bl true ∧ M' = PB M n (k + 2) [] M.nx) := by
  have ho := one_of_run h (xs := [li r0, li r1]) (by simp) (by simp) (by omega)
  refine seq_all' ?_
  unfold rA2
  simp only [sAsg_run, eCall_run, eCons_run, eLst_run, eVar_run, eNil_run, List.getElem?_cons_zero, List.getElem?_cons_succ, bind_ok, g0, g1, List.length_cons, List.length_nil, Nat.reduceAdd, List.append_nil, if_true, Nat.reduceLeDiff, ho, bind_pick, wp_pick]
  intro d hd
  match d, hd with
  | 0, _ =>
    simp only [List.getElem?_cons_zero, bind_ok, gN_run, List.set_cons_zero, List.set_cons_succ, wp_ok, flS_nx]
    refine (t0 _ _ (pu_PB h (Nat.le_refl _)) (by omega)).mono fun fl M' q => ?_
    cases fl with
    | rt t => rw [flV_rt] at q ⊢; obtain ⟨q1, q2⟩ := q; exact ⟨q1, by rw [q2]; exact PB_b h⟩
    | nx τ => rw [flV_nx] at q; exact nomatch q.1
    | _ => exact False.elim q
  | 1, _ =>
    simp only [List.getElem?_cons_zero, List.getElem?_cons_succ, bind_ok, gN_run, List.set_cons_zero, List.set_cons_succ, wp_ok, flS_nx]
    refine (t1 _ _ (pu_PB h (Nat.le_refl _)) (by omega)).mono fun fl M' q => ?_
    cases fl with
    | rt t => rw [flV_rt] at q ⊢; obtain ⟨q1, q2⟩ := q; exact ⟨q1, by rw [q2]; exact PB_b h⟩
    | nx τ => rw [flV_nx] at q; exact nomatch q.1
    | _ => exact False.elim q
theorem t_0_0 (n : Nat) : ∀ M k, Pu M n k → k < 900000 → Wp (sSeq rA34 (sSeq rA5 rS2) [some (.ref n), some (li [0, 0, 0, 1, 1, 1, 0, 1]), none, none, none, none, some (.int 2), some (.int 3), none] M) (FlV fun t M' => t = .bl true ∧ M' = PB M n (k + 1) [] M.nx) := fun M k h hk =>
  ring_tail h hk (s := .int 2) (l := .int 3) (r := [0, 0, 0, 1, 1, 1, 0, 1]) (p := [0, 1, 2, 13, 14, 15, 3, 16]) (by simp) (by simp) (a_0_0 n) fun d hd => match d, hd with
    | 0, _ => s_0_0_0 n
    | 1, _ => s_0_0_1 n
    | 2, _ => s_0_0_2 n
    | 3, _ => s_0_0_3 n
    | 4, _ => s_0_0_4 n
    | 5, _ => s_0_0_5 n
    | 6, _ => s_0_0_6 n
    | 7, _ => s_0_0_7 n
    | d + 8, h => absurd h (by simp)
theorem t_0_1 (n : Nat) : ∀ M k, Pu M n k → k < 900000 → Wp (sSeq rA34 (sSeq rA5 rS2) [some (.ref n), some (li [0, 0, 0, 1, 0, 1, 1, 1]), none, none, none, none, some (.int 2), some (.int 3), none] M) (FlV fun t M' => t = .bl true ∧ M' = PB M n (k + 1) [] M.nx) := fun M k h hk =>
  ring_tail h hk (s := .int 2) (l := .int 3) (r := [0, 0, 0, 1, 0, 1, 1, 1]) (p := [0, 1, 2, 13, 3, 14, 15, 16]) (by simp) (by simp) (a_0_1 n) fun d hd => match d, hd with
    | 0, _ => s_0_1_0 n
    | 1, _ => s_0_1_1 n
    | 2, _ => s_0_1_2 n
    | 3, _ => s_0_1_3 n
    | 4, _ => s_0_1_4 n
    | 5, _ => s_0_1_5 n
    | 6, _ => s_0_1_6 n
    | 7, _ => s_0_1_7 n
    | d + 8, h => absurd h (by simp)
theorem t_1_0 (n : Nat) : ∀ M k, Pu M n k → k < 900000 → Wp (sSeq rA34 (sSeq rA5 rS2) [some (.ref n), some (li [0, 0, 0, 0, 1, 1, 1, 1, 0, 1, 1, 0, 0, 1, 0, 1]), none, none, none, none, some (.int 2), some (.int 4), none] M) (FlV fun t M' => t = .bl true ∧ M' = PB M n (k + 1) [] M.nx) := fun M k h hk =>
  ring_tail h hk (s := .int 2) (l := .int 4) (r := [0, 0, 0, 0, 1, 1, 1, 1, 0, 1, 1, 0, 0, 1, 0, 1]) (p := [0, 1, 2, 3, 13, 14, 15, 16, 4, 17, 18, 5, 6, 19, 7, 20]) (by simp) (by simp) (a_1_0 n) fun d hd => match d, hd with
    | 0, _ => s_1_0_0 n
    | 1, _ => s_1_0_1 n
    | 2, _ => s_1_0_2 n
    | 3, _ => s_1_0_3 n
    | 4, _ => s_1_0_4 n
    | 5, _ => s_1_0_5 n
    | 6, _ => s_1_0_6 n
    | 7, _ => s_1_0_7 n
    | 8, _ => s_1_0_8 n
    | 9, _ => s_1_0_9 n
    | 10, _ => s_1_0_10 n
    | 11, _ => s_1_0_11 n
    | 12, _ => s_1_0_12 n
    | 13, _ => s_1_0_13 n
    | 14, _ => s_1_0_14 n
    | 15, _ => s_1_0_15 n
    | d + 16, h => absurd h (by simp)
theorem t_1_1 (n : Nat) : ∀ M k, Pu M n k → k < 900000 → Wp (sSeq rA34 (sSeq rA5 rS2) [some (.ref n), some (li [0, 0, 0, 0, 1, 0, 0, 1, 1, 0, 1, 0, 1, 1, 1, 1]), none, none, none, none, some (.int 2), some (.int 4), none] M) (FlV fun t M' => t = .bl true ∧ M' = PB M n (k + 1) [] M.nx) := fun M k h hk =>
  ring_tail h hk (s := .int 2) (l := .int 4) (r := [0, 0, 0, 0, 1, 0, 0, 1, 1, 0, 1, 0, 1, 1, 1, 1]) (p := [0, 1, 2, 3, 13, 4, 5, 14, 15, 6, 16, 7, 17, 18, 19, 20]) (by simp) (by simp) (a_1_1 n) fun d hd => match d, hd with
    | 0, _ => s_1_1_0 n
    | 1, _ => s_1_1_1 n
    | 2, _ => s_1_1_2 n
    | 3, _ => s_1_1_3 n
    | 4, _ => s_1_1_4 n
    | 5, _ => s_1_1_5 n
    | 6, _ => s_1_1_6 n
    | 7, _ => s_1_1_7 n
    | 8, _ => s_1_1_8 n
    | 9, _ => s_1_1_9 n
    | 10, _ => s_1_1_10 n
    | 11, _ => s_1_1_11 n
    | 12, _ => s_1_1_12 n
    | 13, _ => s_1_1_13 n
    | 14, _ => s_1_1_14 n
    | 15, _ => s_1_1_15 n
    | d + 16, h => absurd h (by simp)
theorem t_2_0 (n : Nat) : ∀ M k, Pu M n k → k < 900000 → Wp (sSeq rA34 (sSeq rA5 rS2) [some (.ref n), some (li [0, 0, 2, 2, 1, 2, 0, 1, 1]), none, none, none, none, some (.int 3), some (.int 2), none] M) (FlV fun t M' => t = .bl true ∧ M' = PB M n (k + 1) [] M.nx) := fun M k h hk =>
  ring_tail h hk (s := .int 3) (l := .int 2) (r := [0, 0, 2, 2, 1, 2, 0, 1, 1]) (p := [0, 1, 26, 27, 13, 28, 2, 14, 15]) (by simp) (by simp) (a_2_0 n) fun d hd => match d, hd with
    | 0, _ => s_2_0_0 n
    | 1, _ => s_2_0_1 n
    | 2, _ => s_2_0_2 n
    | 3, _ => s_2_0_3 n
    | 4, _ => s_2_0_4 n
    | 5, _ => s_2_0_5 n
    | 6, _ => s_2_0_6 n
    | 7, _ => s_2_0_7 n
    | 8, _ => s_2_0_8 n
    | d + 9, h => absurd h (by simp)
theorem t_2_1 (n : Nat) : ∀ M k, Pu M n k → k < 900000 → Wp (sSeq rA34 (sSeq rA5 rS2) [some (.ref n), some (li [0, 0, 1, 0, 2, 1, 1, 2, 2]), none, none, none, none, some (.int 3), some (.int 2), none] M) (FlV fun t M' => t = .bl true ∧ M' = PB M n (k + 1) [] M.nx) := fun M k h hk =>
  ring_tail h hk (s := .int 3) (l := .int 2) (r := [0, 0, 1, 0, 2, 1, 1, 2, 2]) (p := [0, 1, 13, 2, 26, 14, 15, 27, 28]) (by simp) (by simp) (a_2_1 n) fun d hd => match d, hd with
    | 0, _ => s_2_1_0 n
    | 1, _ => s_2_1_1 n
    | 2, _ => s_2_1_2 n
    | 3, _ => s_2_1_3 n
    | 4, _ => s_2_1_4 n
    | 5, _ => s_2_1_5 n
    | 6, _ => s_2_1_6 n
    | 7, _ => s_2_1_7 n
    | 8, _ => s_2_1_8 n
    | d + 9, h => absurd h (by simp)
theorem t_3_0 (n : Nat) : ∀ M k, Pu M n k → k < 900000 → Wp (sSeq rA34 (sSeq rA5 rS2) [some (.ref n), some (li [0, 0, 3, 3, 2, 3, 1, 3, 0, 2, 2, 1, 2, 0, 1, 1]), none, none, none, none, some (.int 4), some (.int 2), none] M) (FlV fun t M' => t = .bl true ∧ M' = PB M n (k + 1) [] M.nx) := fun M k h hk =>
  ring_tail h hk (s := .int 4) (l := .int 2) (r := [0, 0, 3, 3, 2, 3, 1, 3, 0, 2, 2, 1, 2, 0, 1, 1]) (p := [0, 1, 39, 40, 26, 41, 13, 42, 2, 27, 28, 14, 29, 3, 15, 16]) (by simp) (by simp) (a_3_0 n) fun d hd => match d, hd with
    | 0, _ => s_3_0_0 n
    | 1, _ => s_3_0_1 n
    | 2, _ => s_3_0_2 n
    | 3, _ => s_3_0_3 n
    | 4, _ => s_3_0_4 n
    | 5, _ => s_3_0_5 n
    | 6, _ => s_3_0_6 n
    | 7, _ => s_3_0_7 n
    | 8, _ => s_3_0_8 n
    | 9, _ => s_3_0_9 n
    | 10, _ => s_3_0_10 n
    | 11, _ => s_3_0_11 n
    | 12, _ => s_3_0_12 n
    | 13, _ => s_3_0_13 n
    | 14, _ => s_3_0_14 n
    | 15, _ => s_3_0_15 n
    | d + 16, h => absurd h (by simp)
theorem t_3_1 (n : Nat) : ∀ M k, Pu M n k → k < 900000 → Wp (sSeq rA34 (sSeq rA5 rS2) [some (.ref n), some (li [0, 0, 1, 0, 2, 0, 3, 1, 1, 2, 1, 3, 2, 2, 3, 3]), none, none, none, none, some (.int 4), some (.int 2), none] M) (FlV fun t M' => t = .bl true ∧ M' = PB M n (k + 1) [] M.nx) := fun M k h hk =>
  ring_tail h hk (s := .int 4) (l := .int 2) (r := [0, 0, 1, 0, 2, 0, 3, 1, 1, 2, 1, 3, 2, 2, 3, 3]) (p := [0, 1, 13, 2, 26, 3, 39, 14, 15, 27, 16, 40, 28, 29, 41, 42]) (by simp) (by simp) (a_3_1 n) fun d hd => match d, hd with
    | 0, _ => s_3_1_0 n
    | 1, _ => s_3_1_1 n
    | 2, _ => s_3_1_2 n
    | 3, _ => s_3_1_3 n
    | 4, _ => s_3_1_4 n
    | 5, _ => s_3_1_5 n
    | 6, _ => s_3_1_6 n
    | 7, _ => s_3_1_7 n
    | 8, _ => s_3_1_8 n
    | 9, _ => s_3_1_9 n
    | 10, _ => s_3_1_10 n
    | 11, _ => s_3_1_11 n
    | 12, _ => s_3_1_12 n
    | 13, _ => s_3_1_13 n
    | 14, _ => s_3_1_14 n
    | 15, _ => s_3_1_15 n
    | d + 16, h => absurd h (by simp)
theorem rings_eq2 : b__law_rings_right = sSeq rA1 (sSeq rA2 (sSeq rA34 (sSeq rA5 rS2))) := by
  rw [rings_eq]
  unfold rA34
  rw [sSeq_assoc]
theorem rings_right_run {M : Sto} {n k : Nat} (h : Pu M n k) (hk : k < 700000) : Wp (r__law_rings_right [.ref n] M) fun t M' => t = .bl true ∧ Drawn M n k 10 M' := by
  refine fn_all ?_
  rw [rings_eq2]
  refine seq_all' ?_
  have ho := one_of_run h (xs := [.tup [.int 2, .int 3], .tup [.int 2, .int 4], .tup [.int 3, .int 2], .tup [.int 4, .int 2]]) (by simp) (by simp) (by omega)
  unfold rA1
  simp only [List.map_cons, List.map_nil, List.length_cons, List.length_nil, Nat.reduceAdd, Nat.reduceSub, List.replicate, List.cons_append, List.nil_append, sAsg_run, eCall_run, eCons_run, eLst_run, eTup_run, eC_run, eVar_run, eNil_run, List.getElem?_cons_zero, List.getElem?_cons_succ, bind_ok, List.append_nil, if_true, Nat.reduceLeDiff, ho, bind_pick, wp_pick]
  intro d hd
  have pu := pu_PB (j := k + 1) h (Nat.le_refl M.nx)
  have fin : ∀ {x : Res Fl}, Wp x (FlV fun t M' => t = .bl true ∧ M' = PB (PB M n (k + 1) [] M.nx) n (k + 1 + 2) [] M.nx) → Wp x (FlV fun t M' => t = .bl true ∧ Drawn M n k 10 M') := fun {x} w => w.mono fun fl M' q => by
    have key : ∀ {t : T} {M' : Sto}, (t = .bl true ∧ M' = PB (PB M n (k + 1) [] M.nx) n (k + 1 + 2) [] M.nx) → t = .bl true ∧ Drawn M n k 10 M' := fun {t M'} q => ⟨q.1, ⟨k + 1 + 2, M.nx, by rw [q.2]; exact PB_b h, by omega, by omega, Nat.le_refl _⟩⟩
    cases fl with
    | rt t => rw [flV_rt] at q ⊢; exact key q
    | nx τ => rw [flV_nx] at q; exact nomatch q.1
    | _ => exact False.elim q
  match d, hd with
  | 0, _ =>
    simp only [List.getElem?_cons_zero, List.getElem?_cons_succ, bind_ok, gTup_run, gCons_run, gN_run, gNil_run, List.length_cons, List.length_nil, Nat.reduceAdd, if_true, List.set_cons_zero, List.set_cons_succ, wp_ok, flS_nx]
    exact fin (rings_parts pu (by omega) (s := 2) (l := 3) (r0 := [0, 0, 0, 1, 1, 1, 0, 1]) (r1 := [0, 0, 0, 1, 0, 1, 1, 1]) v_greedy_0 v_least_0 (t_0_0 n) (t_0_1 n))
  | 1, _ =>
    simp only [List.getElem?_cons_zero, List.getElem?_cons_succ, bind_ok, gTup_run, gCons_run, gN_run, gNil_run, List.length_cons, List.length_nil, Nat.reduceAdd, if_true, List.set_cons_zero, List.set_cons_succ, wp_ok, flS_nx]
    exact fin (rings_parts pu (by omega) (s := 2) (l := 4) (r0 := [0, 0, 0, 0, 1, 1, 1, 1, 0, 1, 1, 0, 0, 1, 0, 1]) (r1 := [0, 0, 0, 0, 1, 0, 0, 1, 1, 0, 1, 0, 1, 1, 1, 1]) v_greedy_1 v_least_1 (t_1_0 n) (t_1_1 n))
  | 2, _ =>
    simp only [List.getElem?_cons_zero, List.getElem?_cons_succ, bind_ok, gTup_run, gCons_run, gN_run, gNil_run, List.length_cons, List.length_nil, Nat.reduceAdd, if_true, List.set_cons_zero, List.set_cons_succ, wp_ok, flS_nx]
    exact fin (rings_parts pu (by omega) (s := 3) (l := 2) (r0 := [0, 0, 2, 2, 1, 2, 0, 1, 1]) (r1 := [0, 0, 1, 0, 2, 1, 1, 2, 2]) v_greedy_2 v_least_2 (t_2_0 n) (t_2_1 n))
  | 3, _ =>
    simp only [List.getElem?_cons_zero, List.getElem?_cons_succ, bind_ok, gTup_run, gCons_run, gN_run, gNil_run, List.length_cons, List.length_nil, Nat.reduceAdd, if_true, List.set_cons_zero, List.set_cons_succ, wp_ok, flS_nx]
    exact fin (rings_parts pu (by omega) (s := 4) (l := 2) (r0 := [0, 0, 3, 3, 2, 3, 1, 3, 0, 2, 2, 1, 2, 0, 1, 1]) (r1 := [0, 0, 1, 0, 2, 0, 3, 1, 1, 2, 1, 3, 2, 2, 3, 3]) v_greedy_3 v_least_3 (t_3_0 n) (t_3_1 n))
end TL
end
section
set_option Elab.async false
set_option linter.all false
set_option maxRecDepth 100000
set_option maxHeartbeats 0
/-! Y97: the deals, walked through (the lines' names printed by y97.py). -/
namespace TL
open PySem PySem.Spec PyProof.Rows L2
def dL1 : Ev Fl := (sAsg (eTup (eCons (e2 kAddI (eC (.int 1)) (eCall 2 [] (r__law_draw) (eCons (eVar 0) (eCons (eC (.int 40)) eNil)))) (eCons (e2 kAddI (eC (.int 1)) (eCall 2 [] (r__law_draw) (eCons (eVar 0) (eCons (eC (.int 6)) eNil)))) eNil))) (gTup 2 (gCons (gN 1) (gCons (gN 4) gNil))))
def dL2 : Ev Fl := (sAsg (eTup (eCons (eCall 2 [] (r__law_pack) (eCons (eVar 0) (eCons (eVar 1) eNil))) (eCons (eCall 2 [] (r__law_shuffled) (eCons (eVar 0) (eCons (eLrg1 (eVar 4)) eNil))) eNil))) (gTup 2 (gCons (gN 5) (gCons (gN 6) gNil))))
def dL3 : Ev Fl := (sAsg (eA kLen (eCons (eVar 5) eNil)) (gN 1))
def dL4 : Ev Fl := (sIf (eB (e2 (kVw kNe0) (eCall 2 [] (r_dealt) (eCons (eVar 5) (eCons (eVar 4) eNil))) (eComp (iLst (eCall 2 [] (r_columns) (eCons (eVar 5) (eCons (eVar 4) eNil)))) (gN 8) cYes (eSlSt (eVar 8) eNone eNone (ePart (e2 kSub (eC (.int 0)) (eC (.int 1))))) [8]))) (sRet (eC (.bl false))) sNil)
def dL5 : Ev Fl := (sAsg (eCall 3 [] (r_heap_move) (eCons (eVar 1) (eCons (eVar 4) (eCons (eVar 6) eNil)))) (gN 2))
def dL6 : Ev Fl := (sIf (eOr (eB (e2 (kVw kNe0) (eCall 2 [] (r_one_then) (eCons (eVar 2) (eCons (eCall 2 [] (r_about_move) (eCons (eVar 1) (eCons (eVar 1) eNil))) eNil))) (eCall 3 [] (r_deal_move) (eCons (eVar 1) (eCons (eVar 4) (eCons (eSlSt (eVar 6) eNone eNone (ePart (e2 kSub (eC (.int 0)) (eC (.int 1))))) eNil)))))) (eB (e2 (kVw kNe0) (eCall 3 [] (r_heap_move) (eCons (eVar 1) (eCons (eC (.int 1)) (eCons (eLst (eCons (eC (.int 0)) eNil)) eNil)))) (eCall 2 [] (r_about_move) (eCons (eVar 1) (eCons (eVar 1) eNil)))))) (sRet (eC (.bl false))) sNil)
def dL7 : Ev Fl := (sIf (eB (e2 (kVw kNe0) (eCall 2 [] (r_moved) (eCons (eVar 5) (eCons (eVar 2) eNil))) (eA kSumL (eCons (eComp (iLst (eVar 6)) (gN 9) cYes (e2 kIx (eCall 2 [] (r_dealt) (eCons (eVar 5) (eCons (eVar 4) eNil))) (eVar 9)) [9]) (eCons (eLst eNil) eNil))))) (sRet (eC (.bl false))) sNil)
def dL8 : Ev Fl := (sIf (eOr (eB (e2 (kVw kNe0) (eCall 2 [] (r_one_then) (eCons (eCall 1 [] (r_monge_move) (eCons (eVar 1) eNil)) (eCons (eCall 1 [] (r_milk_move) (eCons (eVar 1) eNil)) eNil))) (eCall 1 [] (r_whole_pack) (eCons (eVar 1) eNil)))) (eB (e2 (kVw kNe0) (eCall 1 [] (r_is_even) (eCons (eCall 1 [] (r_monge_move) (eCons (eVar 1) eNil)) eNil)) (eCall 1 [] (r_is_even) (eCons (eCall 1 [] (r_milk_move) (eCons (eVar 1) eNil)) eNil))))) (sRet (eC (.bl false))) sNil)
def dL9 : Ev Fl := (sIf (eOr (eB (e2 (kVw kNe0) (eCall 2 [] (r_out_order) (eCons (eVar 1) (eCons (eC (.int 1)) eNil))) (eCall 1 [] (r_whole_pack) (eCons (eVar 1) eNil)))) (eOr (eB (e2 (kVw kNe0) (eCall 2 [] (r_moved) (eCons (eCall 2 [] (r_set_for) (eCons (eVar 5) (eCons (eC (.int 3)) eNil))) (eCons (eCall 2 [] (r_out_order) (eCons (eVar 1) (eCons (eC (.int 3)) eNil))) eNil))) (eVar 5))) (eB (e2 (kVw kNe0) (eCall 3 [] (r_out_turn) (eCons (eVar 1) (eCons (eC (.int 2)) (eCons (eCall 2 [] (r_last_place) (eCons (eVar 1) (eCons (eC (.int 2)) eNil))) eNil)))) (e2 kSub (eVar 1) (eC (.int 1))))))) (sRet (eC (.bl false))) sNil)
def dL10 : Ev Fl := (sAsg (eComp (iRg1 (eCall 2 [] (r__law_draw) (eCons (eVar 0) (eCons (e2 kAddI (eVar 1) (eC (.int 1))) eNil)))) (gN 7) cYes (e2 kAddI (eC (.int 1)) (eCall 2 [] (r__law_draw) (eCons (eVar 0) (eCons (eC (.int 9)) eNil)))) [7]) (gN 3))
def dL11 : Ev Fl := (sIf (eB (e2 (kVw kNe0) (eCall 2 [] (r_spelled) (eCons (eCall 2 [] (r_set_to_spell) (eCons (eVar 5) (eCons (eVar 3) eNil))) (eCons (eVar 3) eNil))) (eTup (eCons (eSl (eVar 5) eNone (ePart (eA kLen (eCons (eVar 3) eNil)))) (eCons (eSl (eVar 5) (ePart (eA kLen (eCons (eVar 3) eNil))) eNone) eNil))))) (sRet (eC (.bl false))) sNil)
def dL12 : Ev Fl := (sIf (eAnd (eB (e2 (kVw kEq0) (e2 kMod (eVar 1) (eC (.int 2))) (eC (.int 0)))) (eOr (eB (e2 (kVw kNe0) (eCall 1 [] (r_move_back) (eCons (eCall 2 [] (r_faro_move) (eCons (eVar 1) (eCons (eC (.str ⟨#[111, 117, 116]⟩)) eNil))) eNil)) (eCall 3 [] (r_deal_move) (eCons (eVar 1) (eCons (eC (.int 2)) (eCons (eLst (eCons (eC (.int 0)) (eCons (eC (.int 1)) eNil))) eNil)))))) (eB (e2 (kVw kNe0) (eCall 1 [] (r_move_back) (eCons (eCall 2 [] (r_faro_move) (eCons (eVar 1) (eCons (eC (.str ⟨#[105, 110]⟩)) eNil))) eNil)) (eCall 3 [] (r_deal_move) (eCons (eVar 1) (eCons (eC (.int 2)) (eCons (eLst (eCons (eC (.int 1)) (eCons (eC (.int 0)) eNil))) eNil)))))))) (sRet (eC (.bl false))) sNil)
def dL13 : Ev Fl := (sRet (e2 (kVw kEq0) (eCall 1 [] (r_order_of) (eCons (eVar 2) eNil)) (eCall 1 [] (r_order_of) (eCons (eCall 1 [] (r_move_back) (eCons (eVar 2) eNil)) eNil))))
theorem deals_eq : b__law_deals_right = (sSeq dL1 (sSeq dL2 (sSeq dL3 (sSeq dL4 (sSeq dL5 (sSeq dL6 (sSeq dL7 (sSeq dL8 (sSeq dL9 (sSeq dL10 (sSeq dL11 (sSeq dL12 dL13)))))))))))) := rfl
abbrev rD (r : List Int) : PyData := .list (r.map .int)
theorem toDs_rows : ∀ rows : List (List Int), toDs (rows.map fun r => T.lst (r.map T.int)) = some (rows.map rD)
  | [] => rfl
  | r :: rows => by
    show (match toD (T.lst (r.map T.int)), toDs (rows.map fun r => T.lst (r.map T.int)) with | some d, some ds => some (d :: ds) | _, _ => none) = _
    rw [toD_li, toDs_rows rows]; rfl
theorem canAll_rows : ∀ rows : List (List Int), PyData.canLayAll0 (rows.map rD) = true
  | [] => rfl
  | r :: rows => by
    show ((rD r).canLay0 && PyData.canLayAll0 (rows.map rD)) = true
    rw [canAll_rows rows, show (rD r).canLay0 = true from canAll_ints r]; rfl
theorem depth_rD : ∀ rows : List (List Int), PyData.depthAll (rows.map rD) ≤ 2
  | [] => by show 0 ≤ 2; decide
  | r :: rows => by
    show max (rD r).depth (PyData.depthAll (rows.map rD)) ≤ 2
    have := depth_rD rows
    have h2 : (rD r).depth ≤ 2 := depth_ints r
    omega
theorem eqv_rows : ∀ rows : List (List Int), PyData.eqvAll (rows.map rD) (rows.map rD) = true
  | [] => rfl
  | r :: rows => by
    show (PyData.eqv (rD r) (rD r) && PyData.eqvAll (rows.map rD) (rows.map rD)) = true
    have : PyData.eqv (rD r) (rD r) = true := by
      show PyData.eqvAll (r.map .int) (r.map .int) = true
      rw [eqvAll_ints]; simp
    rw [eqv_rows rows, this]; rfl
theorem kNe_rows (rows : List (List Int)) (M : Sto) : kVw kNe0 (lr rows) (lr rows) M = .ok (.bl false) M := kVw_some (by
  have ht : toD (lr rows) = some (.list (rows.map rD)) := by
    show (match toDs (rows.map fun r => T.lst (r.map T.int)) with | some ds => some (PyData.list ds) | none => none) = _
    rw [toDs_rows]
  have hs : SeqAt.shaped (.list (rows.map rD)) = true := by
    show ((PyData.list (rows.map rD)).canLay0 && decide ((PyData.list (rows.map rD)).depth ≤ 64)) = true
    rw [show (PyData.list (rows.map rD)).canLay0 = true from canAll_rows rows, Bool.true_and, decide_eq_true_eq]
    have := depth_rD rows
    show PyData.depthAll (rows.map rD) + 1 ≤ 64
    omega
  unfold kNe0
  rw [ht]
  show (if SeqAt.shaped (.list (rows.map rD)) && SeqAt.shaped (.list (rows.map rD)) then some (!PyData.eqvAll (rows.map rD) (rows.map rD)) else none) = _
  rw [hs, eqv_rows]; rfl)
theorem kNe_pair (a b : List Int) (M : Sto) : kVw kNe0 (.tup [li a, li b]) (.tup [li a, li b]) M = .ok (.bl false) M := kVw_some (by
  have ht : toD (.tup [li a, li b]) = some (.tuple ([a, b].map rD)) := by
    show (match toDs ([a, b].map fun r => T.lst (r.map T.int)) with | some ds => some (PyData.tuple ds) | none => none) = _
    rw [toDs_rows]
  have hs : SeqAt.shaped (.tuple ([a, b].map rD)) = true := by
    show ((PyData.tuple ([a, b].map rD)).canLay0 && decide ((PyData.tuple ([a, b].map rD)).depth ≤ 64)) = true
    rw [show (PyData.tuple ([a, b].map rD)).canLay0 = true from canAll_rows [a, b], Bool.true_and, decide_eq_true_eq]
    have := depth_rD [a, b]
    show PyData.depthAll ([a, b].map rD) + 1 ≤ 64
    omega
  unfold kNe0
  rw [ht]
  show (if SeqAt.shaped (.tuple ([a, b].map rD)) && SeqAt.shaped (.tuple ([a, b].map rD)) then some (!PyData.eqvAll ([a, b].map rD) ([a, b].map rD)) else none) = _
  rw [hs, eqv_rows]; rfl)
theorem evr_one {p : List Int} : evr 1 0 p = p := by
  unfold evr
  by_cases h : 0 < p.length
  · rw [if_pos h]
    unfold every
    have hc : cnt p.length 0 1 = p.length := by unfold cnt; rw [Nat.div_one]; omega
    rw [hc]
    apply List.ext_getElem
    · simp
    · intro i h1 h2
      simp [h2]
  · rw [if_neg h]
    exact (List.length_eq_zero_iff.mp (by omega)).symm
theorem cat_one {p : List Int} : catO (hps 1 p) [0] = p.reverse := by
  unfold catO
  rw [List.flatMap_cons, List.flatMap_nil, List.append_nil, lotAt_hps (by decide) (by decide)]
  show (evr 1 0 p).reverse = _
  rw [evr_one]
theorem comp_rows {i : Nat} {f : Ev T} {τ : Tau} {M : Sto} {h : List Int → T} {rows : List (List Int)} (H : ∀ r ∈ rows, f (τ.set i (some (li r))) M = .ok (h r) M) : compL (gN i) cYes f τ (rows.map fun r => T.lst (r.map T.int)) M = .ok (rows.map h) M := by
  induction rows with
  | nil => rfl
  | cons r rows ih =>
    rw [List.map_cons]
    unfold compL
    have h1 := H r List.mem_cons_self
    have ih := ih fun r hr => H r (List.mem_cons_of_mem _ hr)
    simp only [gN_run, bind_ok, cYes_run, if_true, h1, ih, List.map_cons]
/-- lengths that are drawn -/
theorem lens_run {M : Sto} {n k : Nat} (h : Pu M n k) {f : Ev T} {τ : Tau} {i nx : Nat} (hf : ∀ (t : T) (j : Nat), j < 1000000 → f (τ.set i (some t)) (PB M n j [] nx) = .pick 9 fun d => .ok (.int (1 + (d : Nat))) (PB M n (j + 1) [] nx)) :
    ∀ (ts : List T) (j : Nat), j + ts.length < 1000000 → Wp (compL (gN i) cYes f τ ts (PB M n j [] nx)) fun us M' => ∃ ds : List Int, us = ds.map T.int ∧ ds.length = ts.length ∧ (∀ d ∈ ds, 1 ≤ d) ∧ M' = PB M n (j + ts.length) [] nx
  | [], j, _ => by
    show Wp (.ok [] _) _
    rw [wp_ok]
    exact ⟨[], rfl, rfl, fun d hd => absurd hd List.not_mem_nil, rfl⟩
  | t :: ts, j, hj => by
    rw [List.length_cons] at hj
    unfold compL
    simp only [gN_run, bind_ok, cYes]
    rw [if_pos True.intro]
    rw [hf t j (by omega)]
    simp only [bind_pick, bind_ok, wp_pick]
    intro d hd
    rw [wp_bind]
    refine (lens_run h hf ts (j + 1) (by omega)).mono fun us M' ⟨ds, e, hl, hp, eM⟩ => ?_
    subst e eM
    rw [wp_ok]
    refine ⟨(1 + (d : Nat) : Int) :: ds, rfl, by rw [List.length_cons, List.length_cons, hl], fun x hx => ?_, by rw [List.length_cons, show j + 1 + ts.length = j + (ts.length + 1) by omega]⟩
    rcases List.mem_cons.mp hx with e | hx
    · subst e; omega
    · exact hp x hx
theorem draw_pb {M : Sto} {n k j nx : Nat} (h : Pu M n k) {m : Nat} (h0 : 0 < m) (h1 : m < 134217728) (hj : j < 1000000) : rDraw [.ref n, .int (m : Nat)] (PB M n j [] nx) = .pick m fun d => .ok (.int (d : Nat)) (PB M n (j + 1) [] nx) :=
  draw_run h (m := (m : Int)) (by omega) (by omega) hj
def tD (n N : Nat) (x2 x3 : Option T) (k : Nat) (p us : List Int) : Tau := [some (.ref n), some (.int (N : Nat)), x2, x3, some (.int (k : Nat)), some (li p), some (li us), none, none, none]
structure DHyp (N k : Nat) (p us : List Int) : Prop where
  pk : Pck p
  len : p.length = N
  n1 : 1 ≤ N
  n40 : N ≤ 40
  k0 : 0 < k
  k6 : k ≤ 6
  ord : us.Perm (rgI k)
def mvO (N k : Nat) (us : List Int) : List Int := catO (hps k (rgI N)) us
section
variable {n N k : Nat} {p us : List Int} {x2 x3 : Option T}
theorem back_run {l : List Int} {f : Ev T} {τ : Tau} {M : Sto} (hf : f τ M = .ok (li l) M) : eSlSt f eNone eNone (ePart (e2 kSub (eC (.int 0)) (eC (.int 1)))) τ M = .ok (li l.reverse) M := by
  unfold eSlSt
  simp only [hf, bind_ok, eNone_run, ePart_run, e2_run, eC_run, kSub_int]
  rw [if_neg (by decide)]
  show Res.ok (T.lst (pickV (l.map T.int) none none (some (-1)))) M = _
  rw [back_slice]
theorem DHyp.mv (h : DHyp N k p us) : (mvO N k us).Perm (rgI N) := hps_perm h.k0 h.ord
theorem DHyp.mvl (h : DHyp N k p us) : (mvO N k us).length = N := by rw [h.mv.length_eq, rgI_length]
theorem DHyp.ord_mem (h : DHyp N k p us) : ∀ i ∈ us, 0 ≤ i ∧ i < (k : Int) := fun i hi => mem_rgI.mp (h.ord.mem_iff.mp hi)
theorem dL4_run (h : DHyp N k p us) (M : Sto) : dL4 (tD n N x2 x3 k p us) M = .ok (.nx (tD n N x2 x3 k p us)) M := by
  have hk := h.k6
  have hl : (cols k p).length ≤ 16777216 := by rw [cols_length]; omega
  have hc : compL (gN 8) cYes (eSlSt (eVar 8) eNone eNone (ePart (e2 kSub (eC (.int 0)) (eC (.int 1))))) (tD n N x2 x3 k p us) ((cols k p).map fun r => T.lst (r.map T.int)) M = .ok ((cols k p).map fun r => li r.reverse) M :=
    comp_rows fun r _ => back_run (by simp [tD])
  have he : T.lst ((cols k p).map fun r => li r.reverse) = lr (hps k p) := by
    rw [hps_cols]
    unfold lr
    rw [List.map_map]; rfl
  unfold dL4
  unfold tD at hc ⊢
  simp only [sIf_run, eB_run, e2_run, eCall_run, eCons_run, eVar_run, eNil_run, eComp_run, iLst_run, List.getElem?_cons_zero, List.getElem?_cons_succ, bind_ok, List.length_cons, List.length_nil, Nat.reduceAdd, List.append_nil, if_true, dealt_run h.pk h.k0 (show k ≤ 4000 by omega), columns_run h.pk h.k0 (show k ≤ 4000 by omega), List.length_map, if_pos hl, wipeT, List.set_cons_zero, List.set_cons_succ, hc, he, kNe_rows, Bool.false_eq_true, if_false, sNil_run]
theorem dL5_run (h : DHyp N k p us) (M : Sto) : dL5 (tD n N x2 x3 k p us) M = .ok (.nx (tD n N (some (li (mvO N k us))) x3 k p us)) M := by
  have hk := h.k6
  have hn := h.n40
  unfold dL5 tD
  simp only [sAsg_run, eCall_run, eCons_run, eVar_run, eNil_run, List.getElem?_cons_zero, List.getElem?_cons_succ, bind_ok, List.length_cons, List.length_nil, Nat.reduceAdd, List.append_nil, if_true, heap_move_run h.k0 (show k ≤ 4000 by omega) (show N ≤ 4000 by omega) h.ord, gN_run, List.set_cons_zero, List.set_cons_succ]
  rfl
theorem dL6_run (h : DHyp N k p us) (M : Sto) : dL6 (tD n N (some (li (mvO N k us))) x3 k p us) M = .ok (.nx (tD n N (some (li (mvO N k us))) x3 k p us)) M := by
  have hk := h.k6
  have hn := h.n40
  have r1 : r_one_then [li (mvO N k us), li (rgI N).reverse] M = .ok (li (catO (cols k (rgI N)) us.reverse)) M := by
    rw [one_then_run h.mv (List.reverse_perm _) (by omega), map_about h.mvl]
    unfold mvO
    rw [hps_about (n := N) h.ord_mem]
  have r2 : r_deal_move [.int (N : Nat), .int (k : Nat), li us.reverse] M = .ok (li (catO (cols k (rgI N)) us.reverse)) M := deal_move_run h.k0 (by omega) (by omega) ((List.reverse_perm us).trans h.ord)
  have r3 : r_heap_move [.int (N : Nat), .int 1, .lst [.int 0]] M = .ok (li (rgI N).reverse) M := by
    have := heap_move_run (n := N) (k := 1) (ord := [0]) (M := M) (by decide) (by decide) (by omega) (.refl _)
    rw [cat_one] at this
    exact this
  have r4 := back_run (f := eVar 6) (τ := tD n N (some (li (mvO N k us))) x3 k p us) (l := us) (M := M) (by simp [tD])
  unfold dL6
  unfold tD at r4 ⊢
  simp only [sIf_run, eOr_run, eB_run, e2_run, eCall_run, eCons_run, eVar_run, eC_run, eLst_run, eNil_run, List.getElem?_cons_zero, List.getElem?_cons_succ, bind_ok, List.length_cons, List.length_nil, Nat.reduceAdd, List.append_nil, if_true, about_move_run (show N ≤ 4000 by omega), r1, r4, r2, vNe_li, decide_true, Bool.not_true, Bool.false_eq_true, if_false, Nat.reduceLeDiff, r3, sNil_run]
theorem dL7_run (h : DHyp N k p us) (M : Sto) : dL7 (tD n N (some (li (mvO N k us))) x3 k p us) M = .ok (.nx (tD n N (some (li (mvO N k us))) x3 k p us)) M := by
  have hk := h.k6
  have hn := h.n40
  have r1 : r_moved [li p, li (mvO N k us)] M = .ok (li (catO (hps k p) us)) M := by
    have hl := h.len
    subst hl
    rw [moved_run h.pk h.mv]
    unfold mvO
    rw [catO_map h.ord_mem]
  have hul : us.length = k := by rw [h.ord.length_eq, rgI_length]
  have hc : compL (gN 9) cYes (e2 kIx (eCall 2 [] (r_dealt) (eCons (eVar 5) (eCons (eVar 4) eNil))) (eVar 9)) (tD n N (some (li (mvO N k us))) x3 k p us) (us.map T.int) M = .ok (us.map fun i => li (lotAt (hps k p) i)) M := comp_ints fun i hi => by
    obtain ⟨h0, h1⟩ := h.ord_mem i hi
    have hlt : i.toNat < (hps k p).length := by rw [hps_length]; omega
    have e1 : lotAt (hps k p) i = (hps k p)[i.toNat] := by unfold lotAt; rw [List.getElem?_eq_getElem hlt]; rfl
    have hix : kIx (lr (hps k p)) (.int i) M = .ok (li (lotAt (hps k p) i)) M := by
      rw [e1]
      exact kIx_li h0 (by simp [List.getElem?_eq_getElem hlt])
    unfold tD
    simp only [e2_run, eCall_run, eCons_run, eVar_run, eNil_run, List.set_cons_zero, List.set_cons_succ, List.getElem?_cons_zero, List.getElem?_cons_succ, bind_ok, List.length_cons, List.length_nil, Nat.reduceAdd, List.append_nil, if_true, dealt_run h.pk h.k0 (show k ≤ 4000 by omega), hix]
  have he : T.lst (us.map fun i => li (lotAt (hps k p) i)) = lr (us.map (lotAt (hps k p))) := by
    unfold lr
    rw [List.map_map]; rfl
  have hfl : (us.map (lotAt (hps k p))).flatten = catO (hps k p) us := by
    unfold catO
    rw [List.flatMap_def]
  have hcl : (catO (hps k p) us).length ≤ 16777216 := by
    have hl := h.len
    subst hl
    have := catO_map (p := p) (k := k) (ord := us) h.ord_mem
    rw [← this, List.length_map]
    have := h.mvl
    unfold mvO at this
    omega
  unfold dL7
  unfold tD at hc ⊢
  simp only [sIf_run, eB_run, e2_run, eCall_run, eCons_run, eVar_run, eA_run, eLst_run, eNil_run, eComp_run, iLst_run, List.getElem?_cons_zero, List.getElem?_cons_succ, bind_ok, List.length_cons, List.length_nil, Nat.reduceAdd, Nat.zero_le, List.append_nil, if_true, r1, List.length_map, hul, if_pos (show k ≤ 16777216 by omega), wipeT, List.set_cons_zero, List.set_cons_succ, hc, he, sum_lr (rows := us.map (lotAt (hps k p))) (by rw [hfl]; exact hcl), hfl, vNe_li, decide_true, Bool.not_true, Bool.false_eq_true, if_false, sNil_run]
theorem dL8_run (h : DHyp N k p us) (M : Sto) : dL8 (tD n N x2 x3 k p us) M = .ok (.nx (tD n N x2 x3 k p us)) M := by
  have e : dL8 = sIf dMilk (sRet (eC (.bl false))) sNil := rfl
  rw [e]
  unfold tD
  rw [sIf_run, dMilk_all h.n1 h.n40]
  simp only [bind_ok, Bool.false_eq_true, if_false, sNil_run]
theorem dL9_run (h : DHyp N k p us) (M : Sto) : dL9 (tD n N x2 x3 k p us) M = .ok (.nx (tD n N x2 x3 k p us)) M := by
  have hn := h.n40
  have hl := h.len
  have e : dL9 = sIf (eOr dOut (eOr dSet dTurn)) (sRet (eC (.bl false))) sNil := rfl
  obtain ⟨vs, r, hp, hr, hm, r1, r2⟩ := set_for_run (s := 3) h.pk (by decide) (show p.length < 60 by omega)
  rw [hl] at r1
  have hrp : Pck r := ⟨fun x hx => h.pk.pos x (hr.mem_iff.mp hx), hr.nodup_iff.mpr h.pk.nd, by rw [hr.length_eq]; exact h.pk.len⟩
  have r3 : r_moved [li r, li vs] M = .ok (li p) M := by rw [moved_run hrp (by rw [hr.length_eq]; exact hp), hm]
  have hs : dSet (tD n N x2 x3 k p us) M = .ok false M := by
    unfold dSet tD
    simp only [eB_run, e2_run, eCall_run, eCons_run, eVar_run, eC_run, eNil_run, List.getElem?_cons_zero, List.getElem?_cons_succ, bind_ok, List.length_cons, List.length_nil, Nat.reduceAdd, List.append_nil, if_true, r1, r2, r3, vNe_li, decide_true, Bool.not_true]
  have ho : dOut (tD n N x2 x3 k p us) M = .ok false M := dOut_all h.n1 h.n40
  have ht : dTurn (tD n N x2 x3 k p us) M = .ok false M := dTurn_all h.n1 h.n40
  rw [e, sIf_run, eOr_run, ho]
  simp only [bind_ok, Bool.false_eq_true, if_false, eOr_run, hs, ht, sNil_run]
theorem dL11_run {lens : List Int} (h : DHyp N k p us) (hl : lens.length ≤ N) (h1 : ∀ x ∈ lens, 1 ≤ x) (M : Sto) : dL11 (tD n N x2 (some (li lens)) k p us) M = .ok (.nx (tD n N x2 (some (li lens)) k p us)) M := by
  have hn := h.n40
  have hpl := h.len
  obtain ⟨r, hr, r1, r2⟩ := spell_run h.pk (by omega) h1 (by omega)
  unfold dL11 tD
  simp only [sIf_run, eB_run, e2_run, eCall_run, eTup_run, eCons_run, eSl_run, eVar_run, eA_run, eNone_run, ePart_run, eNil_run, List.getElem?_cons_zero, List.getElem?_cons_succ, bind_ok, List.length_cons, List.length_nil, Nat.reduceAdd, List.append_nil, if_true, r1, r2, len_li, cut_li_to, cut_li_from, Nat.reduceLeDiff, kNe_pair, Bool.false_eq_true, if_false, sNil_run]
theorem dL12_run (h : DHyp N k p us) (M : Sto) : dL12 (tD n N x2 x3 k p us) M = .ok (.nx (tD n N x2 x3 k p us)) M := by
  have e : dL12 = sIf dFaro (sRet (eC (.bl false))) sNil := rfl
  rw [e]
  unfold tD
  rw [sIf_run, dFaro_all h.n1 h.n40]
  simp only [bind_ok, Bool.false_eq_true, if_false, sNil_run]
theorem dL13_run (h : DHyp N k p us) (M : Sto) : dL13 (tD n N (some (li (mvO N k us))) x3 k p us) M = .ok (.rt (.bl true)) M := by
  have hn := h.n40
  obtain ⟨v, r1, r2⟩ := order_back h.mv (by omega)
  unfold dL13 tD
  simp only [sRet_run, e2_run, eCall_run, eCons_run, eVar_run, eNil_run, List.getElem?_cons_zero, List.getElem?_cons_succ, bind_ok, List.length_cons, List.length_nil, Nat.reduceAdd, List.append_nil, if_true, r1, move_back_run h.mv (show N ≤ 4000 by omega), r2, vEq_int, decide_true]
theorem dL10_run {M : Sto} {K j nx : Nat} (pu : Pu M n K) (h : DHyp N k p us) (hj : j < 800000) {Φ : Fl → Sto → Prop} (q : ∀ (lens : List Int) (j' : Nat), lens.length ≤ N → (∀ x ∈ lens, 1 ≤ x) → j ≤ j' → j' ≤ j + 60 → Φ (.nx (tD n N x2 (some (li lens)) k p us)) (PB M n j' [] nx)) : Wp (dL10 (tD n N x2 x3 k p us) (PB M n j [] nx)) Φ := by
  have hn := h.n40
  have hd := draw_pb (j := j) (nx := nx) pu (m := N + 1) (by omega) (by omega) (by omega)
  have eN : (N : Int) + 1 = ((N + 1 : Nat) : Int) := by omega
  unfold dL10 tD
  simp only [sAsg_run, eComp_run, iRg1_run, e2_run, eCall_run, eCons_run, eVar_run, eC_run, eNil_run, List.getElem?_cons_zero, List.getElem?_cons_succ, bind_ok, List.length_cons, List.length_nil, Nat.reduceAdd, List.append_nil, if_true, r__law_draw, kAddI_int, eN, hd, bind_pick, wp_pick]
  intro d hlt
  rw [if_pos ⟨by omega, by omega⟩]
  simp only [bind_ok, Int.toNat_natCast, rgT_length]
  rw [if_pos (by omega)]
  simp only [wipeT, List.set_cons_zero, List.set_cons_succ]
  rw [wp_bind, wp_bind]
  refine (lens_run pu (i := 7) (nx := nx) ?_ (rgT 0 d) (j + 1) (by rw [rgT_length]; omega)).mono fun us' M' ⟨ds, e, hl, hp, eM⟩ => ?_
  · intro t i hi
    have h9 : rDraw [.ref n, .int 9] (PB M n i [] nx) = .pick 9 fun d => .ok (.int (d : Nat)) (PB M n (i + 1) [] nx) := draw_pb pu (m := 9) (by decide) (by decide) hi
    simp only [e2_run, eCall_run, eCons_run, eVar_run, eC_run, eNil_run, List.set_cons_zero, List.set_cons_succ, List.getElem?_cons_zero, List.getElem?_cons_succ, bind_ok, List.length_cons, List.length_nil, Nat.reduceAdd, List.append_nil, if_true, h9, bind_pick, kAddI_int]
  · subst e eM
    rw [rgT_length] at hl ⊢
    simp only [wp_ok, gN_run, bind_ok, List.set_cons_zero, List.set_cons_succ]
    exact q ds (j + 1 + d) (by omega) hp (by omega) (by omega)
end
theorem deals_right_run {M : Sto} {n k : Nat} (h : Pu M n k) (hk : k < 700000) : Wp (r__law_deals_right [.ref n] M) fun t M' => t = .bl true ∧ Drawn M n k 300 M' := by
  refine fn_all ?_
  rw [deals_eq]
  simp only [List.map_cons, List.map_nil, List.length_cons, List.length_nil, Nat.reduceAdd, Nat.reduceSub, List.replicate, List.cons_append, List.nil_append]
  -- how many
  refine seq_all' ?_
  have d40 : rDraw [.ref n, .int 40] M = .pick 40 fun d => .ok (.int (d : Nat)) (PB M n (k + 1) [] M.nx) := draw0 h (m := 40) (by decide) (by decide) (by omega)
  have d6 : rDraw [.ref n, .int 6] (PB M n (k + 1) [] M.nx) = .pick 6 fun d => .ok (.int (d : Nat)) (PB M n (k + 1 + 1) [] M.nx) := draw_pb h (m := 6) (by decide) (by decide) (by omega)
  unfold dL1
  simp only [sAsg_run, eTup_run, e2_run, eC_run, eCall_run, eCons_run, eVar_run, eNil_run, List.getElem?_cons_zero, List.getElem?_cons_succ, bind_ok, List.length_cons, List.length_nil, Nat.reduceAdd, List.append_nil, if_true, r__law_draw, d40, bind_pick, kAddI_int, d6, wp_pick]
  intro a ha b hb
  have ea : (1 : Int) + (a : Nat) = ((a + 1 : Nat) : Int) := by omega
  have eb : (1 : Int) + (b : Nat) = ((b + 1 : Nat) : Int) := by omega
  simp only [Nat.reduceLeDiff, if_true, bind_ok, gTup_run, List.length_cons, List.length_nil, Nat.reduceAdd, gCons_run, gN_run, gNil_run, List.set_cons_zero, List.set_cons_succ, wp_ok, flS_nx, ea, eb]
  -- a pack, an order
  refine seq_all' ?_
  unfold dL2
  rw [sAsg_run, wp_bind, eTup_run, wp_bind, eCons_run, wp_bind]
  simp only [eCall_run, eCons_run, eVar_run, eNil_run, List.getElem?_cons_zero, List.getElem?_cons_succ, bind_ok, List.length_cons, List.length_nil, Nat.reduceAdd, List.append_nil, if_true]
  refine (law_pack_run (pu_PB (j := k + 1 + 1) h (Nat.le_refl _)) (show 0 < a + 1 by omega) (by omega) (by omega)).mono fun t M1 ⟨p, et, pk, hpne, hpl, ⟨⟨j, nx, eM, hj1, hj2, hnx⟩⟩⟩ => ?_
  subst et
  have eM : M1 = PB M n j [] nx := by rw [eM]; exact PB_PB h
  rw [PB_nx] at hnx
  subst eM
  simp only [eLrg1_run, eVar_run, List.getElem?_cons_zero, List.getElem?_cons_succ, bind_ok, okRg_n (show b + 1 ≤ 4000 by omega), if_true, Int.toNat_natCast, rgT_rgI]
  rw [wp_bind, wp_bind]
  refine (shuffled_run (pu_PB (j := j) h hnx) (ts := rgI (b + 1)) (by rw [rgI_length]; omega) (by omega)).mono fun t M1 ⟨us, et, hus, eM⟩ => ?_
  subst et
  have eM : M1 = PB M n (j + (b + 1)) [] (nx + 1) := by rw [eM, rgI_length, PB_nx]; exact PB_PB h
  subst eM
  simp only [bind_ok, wp_ok, List.length_cons, List.length_nil, Nat.reduceAdd, Nat.reduceLeDiff, if_true, gTup_run, gCons_run, gN_run, gNil_run, List.set_cons_zero, List.set_cons_succ, flS_nx]
  -- as many as the pack has
  have hlp := List.length_pos_iff.mpr hpne
  have H : DHyp p.length (b + 1) p us := ⟨pk, rfl, hlp, by omega, by omega, by omega, hus⟩
  have e3 : dL3 [some (.ref n), some (.int ((a + 1 : Nat) : Int)), none, none, some (.int ((b + 1 : Nat) : Int)), some (li p), some (li us), none, none, none] (PB M n (j + (b + 1)) [] (nx + 1)) = .ok (.nx (tD n p.length none none (b + 1) p us)) (PB M n (j + (b + 1)) [] (nx + 1)) := by
    unfold dL3
    simp only [sAsg_run, eA_run, eCons_run, eVar_run, eNil_run, List.getElem?_cons_zero, List.getElem?_cons_succ, bind_ok, len_li, gN_run, List.set_cons_zero, List.set_cons_succ]
    rfl
  rw [sSeq_run, e3]
  simp only [bind_ok]
  rw [sSeq_run, dL4_run H]
  simp only [bind_ok]
  rw [sSeq_run, dL5_run H]
  simp only [bind_ok]
  rw [sSeq_run, dL6_run H]
  simp only [bind_ok]
  rw [sSeq_run, dL7_run H]
  simp only [bind_ok]
  rw [sSeq_run, dL8_run H]
  simp only [bind_ok]
  rw [sSeq_run, dL9_run H]
  simp only [bind_ok]
  refine seq_all' (dL10_run h H (by omega) fun lens j' hl1 hl2 hj3 hj4 => ?_)
  rw [flS_nx, sSeq_run, dL11_run H hl1 hl2]
  simp only [bind_ok]
  rw [sSeq_run, dL12_run H]
  simp only [bind_ok]
  rw [dL13_run H, wp_ok, flV_rt]
  exact ⟨rfl, ⟨j', nx + 1, rfl, by omega, by omega, by omega⟩⟩
end TL
end
section
set_option Elab.async false
set_option linter.all false
set_option maxRecDepth 100000
/-! D97: what a purse and a draw are, in numbers alone. -/
namespace TL
open PySem PySem.Spec PyProof.Rows L2

theorem log_lt {i : Int} {b : Nat} (h : i.natAbs < 2 ^ b) (hb : 0 < b) : i.natAbs.log2 < b := by
  by_cases h0 : i.natAbs = 0
  · rw [h0]; simpa using hb
  · exact (Nat.log2_lt h0).mpr h
theorem kMul_ok {i j : Int} {M : Sto} (h1 : i.natAbs < 2 ^ 500000) (h2 : j.natAbs < 2 ^ 500000) : kMul (.int i) (.int j) M = .ok (.int (i * j)) M := by
  have a := log_lt h1 (by decide)
  have b := log_lt h2 (by decide)
  show (if _ then _ else _) = _
  rw [if_pos (by omega)]
theorem kMod_ok {i j : Int} {M : Sto} (h : 0 < j) : kMod (.int i) (.int j) M = .ok (.int (i % j)) M := if_pos h
theorem kDiv_ok {i j : Int} {M : Sto} (h : 0 < j) (h2 : j.natAbs.log2 < 9000) : kDiv (.int i) (.int j) M = .ok (.int (i / j)) M := if_pos ⟨h, h2⟩
theorem kPow_ok {i j : Int} {M : Sto} (h : 1 < i ∧ 0 < j ∧ Builtin.Int.intTooBig (((Builtin.Int.intBits i : Nat) : Int) * j) = false) : kPow (.int i) (.int j) M = .ok (.int (i ^ j.toNat)) M := if_pos h
theorem get_setS {M : Sto} {n : Nat} {u o : MO} (h : M.get n = some u) : (M.set n o).get n = some o := by
  have := lkM_set (k := n) (o := o) (l := M.m) ⟨u, h⟩
  rw [if_pos rfl] at this
  exact this
theorem small {i : Int} (h1 : -18446744073709551616 < i) (h2 : i < 18446744073709551616) : i.natAbs < 2 ^ 500000 := by
  have : (2 : Nat) ^ 64 ≤ 2 ^ 500000 := Nat.pow_le_pow_right (by decide) (by decide)
  have e : (2 : Nat) ^ 64 = 18446744073709551616 := by decide
  omega
theorem mixed_sem {a b c : Int} {M : Sto} (h1 : 0 ≤ a) (h2 : a < 2147483629) (h3 : 0 ≤ b) (h4 : b ≤ 1000001) (h5 : 0 ≤ c) (h6 : c ≤ 63) : ∃ v, r__law_mixed [.int a, .int b, .int c] M = .ok (.int v) M := by
  have e1 : kMul (.int a) (.int 69069) M = .ok (.int (a * 69069)) M := kMul_ok (small (by omega) (by omega)) (by decide +kernel)
  have e2' : kMul (.int 104729) (.int b) M = .ok (.int (104729 * b)) M := kMul_ok (by decide +kernel) (small (by omega) (by omega))
  have e3 : kMul (.int (104729 * b)) (.int b) M = .ok (.int (104729 * b * b)) M := kMul_ok (small (by omega) (by omega)) (small (by omega) (by omega))
  have e4 : kMul (.int 7919) (.int c) M = .ok (.int (7919 * c)) M := kMul_ok (by decide +kernel) (small (by omega) (by omega))
  have m1 : 0 ≤ (a * 69069 + 104729 * b * b + 7919 * c + b) % 2147483647 := Int.emod_nonneg _ (by decide)
  have m1' : (a * 69069 + 104729 * b * b + 7919 * c + b) % 2147483647 < 2147483647 := Int.emod_lt_of_pos _ (by decide)
  generalize hx : (a * 69069 + 104729 * b * b + 7919 * c + b) % 2147483647 = x at m1 m1'
  have e5 : kMul (.int x) (.int x) M = .ok (.int (x * x)) M := kMul_ok (small (by omega) (by omega)) (small (by omega) (by omega))
  have m2 : 0 ≤ (x * x + 40503) % 2147483629 := Int.emod_nonneg _ (by decide)
  have m2' : (x * x + 40503) % 2147483629 < 2147483629 := Int.emod_lt_of_pos _ (by decide)
  generalize hy : (x * x + 40503) % 2147483629 = y at m2 m2'
  have e6 : kMul (.int y) (.int 48271) M = .ok (.int (y * 48271)) M := kMul_ok (small (by omega) (by omega)) (by decide +kernel)
  refine ⟨(y * 48271) % 2147483587, ?_⟩
  simp only [r__law_mixed, fnRun, b__law_mixed, sSeq, sAsg, sRet, e2, eVar, eC, eA, eCons, eNil, gN, Res.bind, List.map_cons, List.map_nil, List.length_cons, List.length_nil, List.replicate, List.cons_append, List.nil_append, List.getElem?_cons_zero, List.getElem?_cons_succ, List.set_cons_zero, List.set_cons_succ, kAddI, kInt, e1, e2', e3, e4,
    kMod_ok (show (0 : Int) < 2147483647 by decide), kMod_ok (show (0 : Int) < 2147483629 by decide), kMod_ok (show (0 : Int) < 2147483587 by decide), hx, e5, hy, e6]

theorem ix_pT {M : Sto} {n : Nat} {p0 p1 p2 p3 : Int} (h : M.get n = some (.lst (pT p0 p1 p2 p3))) :
    kIx (.ref n) (.int 0) M = .ok (.int p0) M ∧ kIx (.ref n) (.int 1) M = .ok (.int p1) M ∧ kIx (.ref n) (.int 2) M = .ok (.int p2) M ∧ kIx (.ref n) (.int 3) M = .ok (.int p3) M := by
  refine ⟨?_, ?_, ?_, ?_⟩ <;> (simp only [kIx, h]; rfl)
theorem draw_sem (n k : Nat) (m p0 p1 p2 p3 : Int) (M : Sto) (hM : M.get n = some (.lst (pT p0 p1 p2 p3))) (pr : Prs k p0 p1 p2 p3) (h0 : 0 < m) (hm : m < 134217728) (hk : k < 1000000) :
    ∃ d q0 q2, 0 ≤ d ∧ d < m ∧ Prs (k + 1) q0 p1 q2 p3 ∧ r__law_draw0 [.ref n, .int m] M = .ok (.int d) (M.set n (.lst (pT q0 p1 q2 p3))) := by
  obtain ⟨i0, i1, i2, i3⟩ := ix_pT hM
  obtain ⟨a0, a1, b0, b1, c0, c1, d0, d1⟩ := pr
  have hlog : m.natAbs.log2 < 27 := log_lt (by have : (2 : Nat) ^ 27 = 134217728 := by decide
                                               omega) (by decide)
  by_cases hp : p0 > 0
  · refine ⟨p0 % m, p0 / m, p2, Int.emod_nonneg _ (by omega), Int.emod_lt_of_pos _ h0, ⟨Int.ediv_nonneg a0 (by omega), ?_, b0, b1, c0, by omega, d0, d1⟩, ?_⟩
    · have := Int.ediv_le_self m a0
      omega
    · have e1' : kDiv (.int p0) (.int m) M = .ok (.int (p0 / m)) M := kDiv_ok h0 (by omega)
      have e2' : kGt (.int p0) (.int 0) M = .ok (.bl true) M := by
        show Res.ok (T.bl (decide (0 < p0))) M = _
        rw [decide_eq_true hp]
      have hg : ∀ τ : Tau, gAt (eVar 0) (eC (.int 0)) (.int (p0 / m)) (some (.ref n) :: τ) M = .ok (some (.ref n) :: τ) (M.set n (.lst (pT (p0 / m) p1 p2 p3))) := fun τ => by
        simp only [gAt, eVar, eC, Res.bind, List.getElem?_cons_zero, hM]
        rfl
      simp only [r__law_draw0, fnRun, b__law_draw0, sSeq, sIf, eB, sAsg, sRet, e2, eVar, eC, eA, eCons, eNil, gN, Res.bind, List.map_cons, List.map_nil, List.length_cons, List.length_nil, List.replicate, List.cons_append, List.nil_append, List.getElem?_cons_zero, List.getElem?_cons_succ, List.set_cons_zero, List.set_cons_succ, i0, e2', kInt, kMod_ok h0, if_true, e1', hg]
  · have hz : p0 = 0 := by omega
    subst hz
    have e2' : kGt (.int 0) (.int 0) M = .ok (.bl false) M := rfl
    have hb : Builtin.Int.intBits m ≤ 27 := by
      unfold Builtin.Int.intBits
      split
      · exact Nat.zero_le _
      · omega
    have hdiv : ((Builtin.Int.intBits m : Nat) : Int) / 28 = 0 := Int.ediv_eq_zero_of_lt (by omega) (by omega)
    have e3 : kDiv (.int ((Builtin.Int.intBits m : Nat) : Int)) (.int 28) M = .ok (.int 0) M := by
      have : kDiv (.int ((Builtin.Int.intBits m : Nat) : Int)) (.int 28) M = .ok (.int (((Builtin.Int.intBits m : Nat) : Int) / 28)) M := kDiv_ok (by decide) (by decide +kernel)
      rw [this, hdiv]
    have hM2 : (M.set n (.lst (pT 0 p1 (p2 + 1) p3))).get n = some (.lst (pT 0 p1 (p2 + 1) p3)) := get_setS hM
    obtain ⟨j0, j1, j2, j3⟩ := ix_pT hM2
    obtain ⟨v, hv⟩ := mixed_sem (a := p1) (b := p2 + 1) (c := p3) (M := M.set n (.lst (pT 0 p1 (p2 + 1) p3))) b0 b1 (by omega) (by omega) d0 d1
    refine ⟨v % m, 0, p2 + 1, Int.emod_nonneg _ (by omega), Int.emod_lt_of_pos _ h0, ⟨Int.le_refl _, by decide +kernel, b0, b1, by omega, by omega, d0, d1⟩, ?_⟩
    have hg : ∀ τ : Tau, gAt (eVar 0) (eC (.int 2)) (.int (p2 + 1)) (some (.ref n) :: τ) M = .ok (some (.ref n) :: τ) (M.set n (.lst (pT 0 p1 (p2 + 1) p3))) := fun τ => by
      simp only [gAt, eVar, eC, Res.bind, List.getElem?_cons_zero, hM]
      rfl
    have em : kMul (.int 0) (.int 2147483587) (M.set n (.lst (pT 0 p1 (p2 + 1) p3))) = .ok (.int (0 * 2147483587)) (M.set n (.lst (pT 0 p1 (p2 + 1) p3))) := kMul_ok (by decide +kernel) (by decide +kernel)
    have er : (iRg1 (e2 kAddI (eC (.int 1)) (e2 kDiv (e1 kBits (eVar 1)) (eC (.int 28))))) [some (.ref n), some (.int m), some (.int 0), none, none] M = .ok [.int 0] M := by
      simp only [iRg1, e2, e1, eVar, eC, Res.bind, List.getElem?_cons_zero, List.getElem?_cons_succ, kBits, e3, kAddI]
      rfl
    simp only [r__law_draw0, fnRun, b__law_draw0, sSeq, sIf, eB, sAsg, sRet, sNil, sFor, e2, eVar, eC, eA, eCons, eNil, gN, Res.bind, List.map_cons, List.map_nil, List.length_cons, List.length_nil, List.replicate, List.cons_append, List.nil_append, List.getElem?_cons_zero, List.getElem?_cons_succ, List.set_cons_zero, List.set_cons_succ, i0, e2', kInt, if_false, Bool.false_eq_true] at er ⊢
    rw [er]
    simp only [Res.bind, forL, sSeq, sAsg, kInt, gN, List.getElem?_cons_zero, List.getElem?_cons_succ, List.set_cons_zero, List.set_cons_succ, i2, kAddI, hg, em, eCall, eCons, eNil, e2, eVar, eC, j1, j2, j3, List.length_cons, List.length_nil, List.append_nil, hv, Int.zero_mul, Int.zero_add, kMod_ok h0, if_true]
theorem ofScr_cut {o : Osc} {t0 : T} {ns : List Int} (h : ofScr o t0 = some (ns.map T.int)) (lo hi : Option Int) : ∃ ms : List Int, cutT (ns.map T.int) lo hi = ms.map T.int := by
  unfold cutT
  exact ⟨_, by rw [← List.map_drop, ← List.map_take]⟩
theorem p480 : ((10 : Int) ^ 60) ^ 8 = 10 ^ 480 := by rw [← Int.pow_mul]
theorem purse_sem {o : Osc} {t0 : T} {ns : List Int} {at_ : Int} {M : Sto} (h : ofScr o t0 = some (ns.map T.int)) : ∃ p0 p1 : Int, 0 ≤ p0 ∧ p0 < 10 ^ 480 ∧ 0 ≤ p1 ∧ p1 < 2147483629 ∧ r__law_purse o [t0, .int at_] M = .ok (.lst (pT p0 p1 0 at_)) M := by
  obtain ⟨ms, hms⟩ := ofScr_cut h (some at_) (some (at_ + 1))
  have hs : kSum [.lst (ms.map T.int)] M = .ok (.int ms.sum) M := by
    show (match inTs (ms.map T.int) with | some bs => Res.ok (T.int bs.sum) M | none => .stuck) = _
    rw [inTs_map]
  generalize ms.sum = z at hs
  have e1' : kPow (.int 10) (.int 18) M = .ok (.int (10 ^ 18)) M := kPow_ok (by decide +kernel)
  have e2' : kPow (.int 10) (.int 60) M = .ok (.int (10 ^ 60)) M := kPow_ok (by decide +kernel)
  have e3' : kPow (.int (10 ^ 60)) (.int 8) M = .ok (.int ((10 ^ 60) ^ 8)) M := kPow_ok (by decide +kernel)
  have e4' : ∀ i, kMod (.int i) (.int ((10 ^ 60) ^ 8)) M = .ok (.int (i % (10 ^ 60) ^ 8)) M := fun i => kMod_ok (by decide +kernel)
  refine ⟨(if (0 : Int) > z - 10 ^ 18 then 0 else z - 10 ^ 18) % (10 ^ 60) ^ 8, z % 2147483629, Int.emod_nonneg _ (by decide +kernel), ?_, Int.emod_nonneg _ (by decide), Int.emod_lt_of_pos _ (by decide), ?_⟩
  · rw [← p480]; exact Int.emod_lt_of_pos _ (by decide +kernel)
  · simp only [r__law_purse, fnRun, b__law_purse, sSeq, sAsg, sRet, e2, eVar, eC, eA, eCons, eNil, gN, eSlS, ePart, eLst, Res.bind, List.map_cons, List.map_nil, List.length_cons, List.length_nil, List.replicate, List.cons_append, List.nil_append, List.getElem?_cons_zero, List.getElem?_cons_succ, List.set_cons_zero, List.set_cons_succ,
      kAddI, h, hms, hs, kInt, kSub, kMax, e1', e2', e3', e4', kMod_ok (show (0 : Int) < 2147483629 by decide)]
    rfl
end TL
end
section
set_option Elab.async false
set_option linter.all false
set_option maxRecDepth 100000
set_option maxHeartbeats 0
/-! G97: the law answers True, whatever the script is. -/
namespace TL
open PySem PySem.Spec PyProof.Rows L2
def M0 : Sto := ⟨[], 0⟩
def gLast : Ev Fl := (sRet (eCall 2 [] (r__law_exact 4) (eCons (eLst (eCons (eLst (eCons (eC (.int 5)) (eCons (eC (.int 3)) (eCons (eC (.int 1)) (eCons (eC (.int 0)) (eCons (eC (.int 2)) (eCons (eC (.int 4)) eNil))))))) (eCons (eLst (eCons (eC (.int 3)) (eCons (eC (.int 1)) (eCons (eC (.int 4)) (eCons (eC (.int 2)) (eCons (eC (.int 0)) eNil)))))) (eCons (eC (.int 12)) eNil)))) (eCons (eLst (eCons (eCall 1 [] (r_monge_move) (eCons (eC (.int 6)) eNil)) (eCons (eCall 3 [] (r_heap_move) (eCons (eC (.int 5)) (eCons (eC (.int 2)) (eCons (eLst (eCons (eC (.int 1)) (eCons (eC (.int 0)) eNil))) eNil)))) (eCons (eCall 1 [] (r_order_of) (eCons (eCall 1 [] (r_monge_move) (eCons (eC (.int 52)) eNil)) eNil)) eNil)))) eNil))))
theorem gLast_run (τ : Tau) (M : Sto) : gLast τ M = .ok (.rt (.bl true)) M := by kernel_rfl
def gSpin : Ev Fl := (sIf (eOr (eNot (eB (eCall 1 [] (r__law_deals_right) (eCons (eVar 2) eNil)))) (eNot (eB (eCall 1 [] (r__law_rings_right) (eCons (eVar 2) eNil))))) (sRet (eC (.bl false))) sNil)
def gBody (o : Osc) : Ev Fl := (sSeq (sAsg (eTag (eNew (eCall 2 [] (r__law_purse o) (eCons (eVar 0) (eCons (eVar 1) eNil))))) (gN 2)) (sFor (iRg1 (eC (.int 3))) (gN 3) gSpin))
def gIt (o : Osc) : Ev (List T) := (iRg1 (eA kMax (eCons (eC (.int 1)) (eCons (eA kMin (eCons (eA (kLenS o) (eCons (eVar 0) eNil)) (eCons (eC (.int 3)) eNil))) eNil))))
theorem law_eq (o : Osc) : b_law o = sSeq (sFor (gIt o) (gN 1) (gBody o)) gLast := rfl
/-- nothing stands behind -/
def Free (M : Sto) : Prop := ∀ i, M.nx ≤ i → M.get i = none
theorem tag_run {M : Sto} {p0 p1 p3 : Int} {f : Ev T} {τ : Tau} (hF : Free M) (hf : f τ M = .ok (.lst (pT p0 p1 0 p3)) M) (a0 : 0 ≤ p0) (a1 : p0 < 10 ^ 480) (b0 : 0 ≤ p1) (b1 : p1 < 2147483629) (c0 : 0 ≤ p3) (c1 : p3 ≤ 63) :
    eTag (eNew f) τ M = .ok (.ref M.nx) (M.add (.purse 0)) ∧ Pu (M.add (.purse 0)) M.nx 0 := by
  have hn : lkM M.nx M.m = none := hF M.nx (Nat.le_refl _)
  have hg : ∀ o : MO, (M.add o).get M.nx = some o := fun o => by
    show lkM M.nx (M.m ++ [(M.nx, o)]) = _
    rw [lk_app, hn]
    show (if Nat.beq M.nx M.nx = true then _ else _) = _
    rw [if_pos (Nat.beq_refl _)]
  have hs : (M.add (.lst (pT p0 p1 0 p3))).set M.nx (.purse 0) = M.add (.purse 0) := by
    show (⟨stM M.nx (.purse 0) (M.m ++ [(M.nx, _)]), M.nx + 1⟩ : Sto) = ⟨M.m ++ [(M.nx, .purse 0)], M.nx + 1⟩
    rw [st_app_r hn]
    show (⟨M.m ++ (if Nat.beq M.nx M.nx = true then _ else _), M.nx + 1⟩ : Sto) = _
    rw [if_pos (Nat.beq_refl _)]
  refine ⟨?_, ⟨hg _, fun i hi => ?_⟩⟩
  · unfold eTag
    simp only [eNew_run, hf, bind_ok, hg, pT]
    rw [if_pos ⟨a0, a1, b0, b1, trivial, c0, c1⟩]
    have hs := hs
    unfold pT at hs
    rw [hs]
  · have hi : M.nx + 1 ≤ i := hi
    show lkM i (M.m ++ [(M.nx, .purse 0)]) = _
    rw [lk_app, show lkM i M.m = none from hF i (by omega)]
    show (if Nat.beq M.nx i = true then _ else none) = none
    rw [if_neg fun z => by have := Nat.eq_of_beq_eq_true z; omega]
/-- a spin -/
theorem spin_run {M : Sto} {n j nx : Nat} {x0 x1 x3 : Option T} (h : Pu M n 0) (hnx : M.nx ≤ nx) (hj : j < 600000) :
    Wp (gSpin [x0, x1, some (.ref n), x3] (PB M n j [] nx)) fun fl M' => fl = .nx [x0, x1, some (.ref n), x3] ∧ ∃ j' nx', j' ≤ j + 400 ∧ M.nx ≤ nx' ∧ M' = PB M n j' [] nx' := by
  unfold gSpin
  simp only [sIf_run, eOr_run, eNot_run, eB_run, eCall_run, eCons_run, eVar_run, eNil_run, List.getElem?_cons_zero, List.getElem?_cons_succ, bind_ok, List.length_cons, List.length_nil, Nat.reduceAdd, List.append_nil, if_true]
  rw [wp_bind, wp_bind, wp_bind, wp_bind]
  refine (deals_right_run (pu_PB (j := j) h hnx) (by omega)).mono fun t M1 ⟨et, ⟨j1, nx1, eM, k1, k2, k3⟩⟩ => ?_
  subst et
  rw [PB_nx] at k3
  have eM : M1 = PB M n j1 [] nx1 := by rw [eM]; exact PB_PB h
  subst eM
  simp only [wp_ok, bind_ok, Bool.not_true, Bool.false_eq_true, if_false]
  rw [wp_bind, wp_bind]
  refine (rings_right_run (pu_PB (j := j1) h (by omega)) (by omega)).mono fun t M2 ⟨et, ⟨j2, nx2, eM, m1, m2, m3⟩⟩ => ?_
  subst et
  rw [PB_nx] at m3
  have eM : M2 = PB M n j2 [] nx2 := by rw [eM]; exact PB_PB h
  subst eM
  simp only [wp_ok, bind_ok, Bool.not_true, Bool.false_eq_true, if_false, sNil_run]
  exact ⟨trivial, j2, nx2, by omega, by omega, rfl⟩
theorem pb_free {M : Sto} {n j nx : Nat} (h : Pu M n 0) (hnx : M.nx ≤ nx) : Free (PB M n j [] nx) := (pu_PB h hnx).free
theorem body_run {o : Osc} {t0 : T} {ns : List Int} {M : Sto} {at_ : Int} {x2 x3 : Option T} (h : ofScr o t0 = some (ns.map T.int)) (hF : Free M) (h0 : 0 ≤ at_) (h1 : at_ ≤ 63) :
    Wp (gBody o [some t0, some (.int at_), x2, x3] M) fun fl M' => (∃ y2 y3, fl = .nx [some t0, some (.int at_), y2, y3]) ∧ Free M' := by
  obtain ⟨p0, p1, a0, a1, b0, b1, hp⟩ := purse_sem (at_ := at_) (M := M) h
  have hf : (eCall 2 [] (r__law_purse o) (eCons (eVar 0) (eCons (eVar 1) eNil))) [some t0, some (.int at_), x2, x3] M = .ok (.lst (pT p0 p1 0 at_)) M := by
    simp only [eCall_run, eCons_run, eVar_run, eNil_run, List.getElem?_cons_zero, List.getElem?_cons_succ, bind_ok, List.length_cons, List.length_nil, Nat.reduceAdd, List.append_nil, if_true, hp]
  obtain ⟨ht, pu⟩ := tag_run hF hf a0 a1 b0 b1 h0 h1
  unfold gBody
  refine seq_all' ?_
  rw [sAsg_run, ht]
  simp only [bind_ok, gN_run, List.set_cons_zero, List.set_cons_succ, wp_ok, flS_nx]
  simp only [sFor_run, iRg1_run, eC_run, bind_ok]
  rw [if_pos (by decide)]
  simp only [bind_ok]
  refine forL_all (P := fun rest τ M' => (∃ y3, τ = [some t0, some (.int at_), some (.ref M.nx), y3]) ∧ ∃ j nx, j + 400 * rest.length ≤ 2000 ∧ (M.add (.purse 0)).nx ≤ nx ∧ M' = PB (M.add (.purse 0)) M.nx j [] nx) (fun t ts τ M' s => ?_) (fun τ M' s => ?_) ?_
  · obtain ⟨⟨y3, eτ⟩, j, nx, hj, hnx, eM⟩ := s
    subst eτ eM
    rw [List.length_cons] at hj
    simp only [gN_run, bind_ok, List.set_cons_zero, List.set_cons_succ]
    refine (spin_run pu hnx (by omega)).mono fun fl M2 ⟨e, j', nx', q1, q2, q3⟩ => ?_
    subst e q3
    exact ⟨⟨_, rfl⟩, j', nx', by omega, q2, rfl⟩
  · obtain ⟨⟨y3, eτ⟩, j, nx, hj, hnx, eM⟩ := s
    subst eτ eM
    exact ⟨⟨_, _, rfl⟩, pb_free pu hnx⟩
  · refine ⟨⟨x3, rfl⟩, 0, (M.add (.purse 0)).nx, ?_, Nat.le_refl _, PB_self pu⟩
    rw [rgT_length]; decide
theorem it_run {o : Osc} {t0 : T} {ns : List Int} {x1 x2 x3 : Option T} {M : Sto} (h : ofScr o t0 = some (ns.map T.int)) : ∃ c : Nat, c ≤ 3 ∧ gIt o [some t0, x1, x2, x3] M = .ok (rgT 0 c) M := by
  have e1' : kLenS o [t0] M = .ok (.int ns.length) M := by
    show (match ofScr o t0 with | some xs => Res.ok (T.int xs.length) M | none => .stuck) = _
    rw [h]
    show Res.ok (T.int ((ns.map T.int).length : Nat)) M = _
    rw [List.length_map]
  refine ⟨(if (if (3 : Int) < (ns.length : Int) then 3 else (ns.length : Int)) > 1 then (if (3 : Int) < (ns.length : Int) then 3 else (ns.length : Int)) else 1).toNat, ?_, ?_⟩
  · split <;> split <;> omega
  · unfold gIt
    simp only [iRg1_run, eA_run, eCons_run, eC_run, eVar_run, eNil_run, List.getElem?_cons_zero, bind_ok, e1', kMin_int, kMax_int]
    rw [if_pos (by split <;> split <;> omega)]
structure AllTr (x : Res T) : Prop where
  ok : x.all fun t _ => t = .bl true
theorem allTr_of {x : Res T} (h : Wp x fun t _ => t = .bl true) : AllTr x := ⟨h.ok⟩
theorem law_true {o : Osc} {t0 : T} {ns : List Int} (h : ofScr o t0 = some (ns.map T.int)) : AllTr (r_law o [t0] M0) := by
  have : Wp (r_law o [t0] M0) fun t _ => t = .bl true := by
    unfold r_law
    refine fn_all ?_
    rw [law_eq]
    simp only [List.map_cons, List.map_nil, List.length_cons, List.length_nil, Nat.reduceAdd, Nat.reduceSub, List.replicate, List.cons_append, List.nil_append]
    refine seq_all' ?_
    obtain ⟨c, hc, hi⟩ := it_run (x1 := none) (x2 := none) (x3 := none) (M := M0) h
    rw [sFor_run, hi]
    simp only [bind_ok]
    refine forL_all (P := fun rest τ M' => (∃ y1 y2 y3, τ = [some t0, y1, y2, y3]) ∧ Free M' ∧ ∀ t ∈ rest, ∃ at_ : Int, t = .int at_ ∧ 0 ≤ at_ ∧ at_ ≤ 63) (fun t ts τ M' s => ?_) (fun τ M' s => ?_) ?_
    · obtain ⟨⟨y1, y2, y3, eτ⟩, hF, hr⟩ := s
      obtain ⟨at_, et, h0, h1⟩ := hr t List.mem_cons_self
      subst eτ et
      simp only [gN_run, bind_ok, List.set_cons_zero, List.set_cons_succ]
      refine (body_run h hF h0 h1).mono fun fl M2 ⟨⟨z2, z3, e⟩, hF2⟩ => ?_
      subst e
      exact ⟨⟨_, _, _, rfl⟩, hF2, fun t ht => hr t (List.mem_cons_of_mem _ ht)⟩
    · rw [flS_nx, gLast_run, wp_ok, flV_rt]
    · refine ⟨⟨none, none, none, rfl⟩, fun i _ => rfl, fun t ht => ?_⟩
      rw [rgT_rgI] at ht
      obtain ⟨x, hx, e⟩ := List.mem_map.mp ht
      have := mem_rgI.mp hx
      exact ⟨x, e.symm, by omega, by omega⟩
  exact allTr_of this
def spLaw (K : PySem.W.Frag) : Sp := fun vs H Q _ => ∃ (a : Addr) (ns : List Int), vs = [.ref a] ∧ SqL K H a (ns.map V.int) ∧ ns.length ≤ 63 ∧ ∀ H', Q (.bl true) H'
def w0 (H : Hp) : Wd := ⟨H, fun _ => 0, M0, fun _ => False⟩
theorem w0_good (mg : Str → Option Value) (H : Hp) : Good mg (w0 H) where
  own := fun n o e => by cases (show (none : Option MO) = some o from e)
  inj := fun n m o u e _ _ => by cases (show (none : Option MO) = some o from e)
  Rd := fun a e => False.elim e
theorem w0_ex (H : Hp) (a : Addr) : ¬ Ex (w0 H) a := fun z => by
  rcases z with z | ⟨n, o, e, _⟩
  · exact z
  · cases (show (none : Option MO) = some o from e)
theorem post_true {mg : Str → Option Value} {w : Wd} {Q : VK} {a : Res T} (h : AllTr a) (hq : ∀ H', Q (.bl true) H') : post mg false Q w a :=
  Res.all_mono (fun t M' e w1 v _ _ _ r1 _ => by subst e; cases r1; exact hq _) h.ok
theorem run_true {mg : Str → Option Value} {H : Hp} {a : Addr} {Q : VK} {E : XK} {t0 : T} {g : List T → Sto → Res T} (r : Rep (w0 H) (.ref a) t0) (h : AllTr (g [t0] M0)) (hq : ∀ H', Q (.bl true) H') : spRun mg false 1 g [.ref a] H Q E :=
  ⟨rfl, w0 H, [t0], rfl, w0_good mg H, .cons r .nil, post_true h hq⟩
theorem spLaw_run {K : PySem.W.Frag} {mg : Str → Option Value} {vs : List V} {H : Hp} {Q : VK} {E : XK} (h : spLaw K vs H Q E) : ∃ o, ScrOk K o ∧ spRun mg false 1 (r_law o) vs H Q E := by
  obtain ⟨a, ns, rfl, hS, hl, hq⟩ := h
  have fin : ∀ {o : Osc} {t0 : T}, ofScr o t0 = some (ns.map T.int) → Rep (w0 H) (.ref a) t0 → spRun mg false 1 (r_law o) [.ref a] H Q E := fun {o t0} ho r =>
    run_true r (law_true ho) hq
  rcases hS with hS | hS
  · exact ⟨none, fun _ _ e => (nomatch e), fin (t0 := .lst (ns.map T.int)) rfl (.lst (w0_ex H a) hS (.ints ns))⟩
  · refine ⟨some (a, ns), fun a' ns' e H' => ?_, fin (t0 := .scr a) (if_pos rfl) (.scr a)⟩
    cases e
    exact .inr hS
theorem law_any {P : Program} {w : World} {K : PySem.W.Frag} {mg : Str → Option Value} {base : Heap} {f : Addr} {fd : FuncData} {ps : List Str} {k : Nat} (h : ∀ o, ScrOk K o → FnOk P w K mg base CX0 k f fd ps (spRun mg false 1 (r_law o))) : FnOk P w K mg base CX0 k f fd ps (spLaw K) :=
  ⟨fun vs H Q E q => let ⟨o, ho, q'⟩ := spLaw_run (mg := mg) q; (h o ho).len vs H Q E q', fun A outer s H args us vs Q E hr he hb hv hs => let ⟨o, ho, q'⟩ := spLaw_run (mg := mg) hs; (h o ho).run A outer s H args us vs Q E hr he hb hv q'⟩
end TL
end
section
set_option Elab.async false
set_option linter.all false
set_option maxRecDepth 100000
set_option maxHeartbeats 0
namespace TL
open PySem PySem.Spec PyProof.Rows L2

theorem all_mk {l : PySem.W.OpenLaw} {w : World} {K : PySem.W.Frag} {h : Heap} {mg : Str → Option Value} {fa : Addr} (X : K.In h) (G : h.Ns mainGlobals mg) (hfa : mg "law" = some (.ref fa)) (c : He.SaysD faL_ fnL_ K) (hx : exL_ K = true) :
    ∃ fd : FuncData, (∀ (s : Shared) (v : Value), BindsTo s fd ⟨[v], []⟩ [("script", v)]) ∧ ∀ base : Heap, K.In base → base.Ns mainGlobals mg → FnOk l.prog w K mg base CX0 10 fa fd ["script"] (spLaw K) := by
  have e := hfa.symm.trans (He.glo_ok X G (c.fact 0 (f := .glo "law") rfl))
  cases e
  have B : Blt mg := ⟨He.free_ok X G (c.fact 89 (f := .free "len") rfl), He.free_ok X G (c.fact 90 (f := .free "isinstance") rfl), He.free_ok X G (c.fact 91 (f := .free "all") rfl), He.free_ok X G (c.fact 92 (f := .free "any") rfl), He.free_ok X G (c.fact 93 (f := .free "sorted") rfl), He.free_ok X G (c.fact 94 (f := .free "list") rfl), He.free_ok X G (c.fact 95 (f := .free "tuple") rfl), He.free_ok X G (c.fact 96 (f := .free "dict") rfl), He.free_ok X G (c.fact 97 (f := .free "set") rfl), He.free_ok X G (c.fact 98 (f := .free "range") rfl), He.free_ok X G (c.fact 99 (f := .free "zip") rfl), He.free_ok X G (c.fact 100 (f := .free "enumerate") rfl), He.free_ok X G (c.fact 101 (f := .free "max") rfl), He.free_ok X G (c.fact 102 (f := .free "min") rfl), He.free_ok X G (c.fact 103 (f := .free "sum") rfl), He.free_ok X G (c.fact 104 (f := .free "abs") rfl), He.free_ok X G (c.fact 105 (f := .free "int") rfl), He.free_ok X G (c.fact 106 (f := .free "str") rfl), He.free_ok X G (c.fact 107 (f := .free "bool") rfl)⟩
  obtain ⟨fd1, E1⟩ := c.def_ 0 (d := D_1) rfl
  have F1 : FunD K "is_whole" "is_whole" (defArgs s_is_whole) (defBody s_is_whole) (defScope s_is_whole) [] [] (He.ga K "is_whole") fd1 := E1
  clear E1
  have b1 := F1.bindsN (ps := ["value"]) fun _ _ _ _ _ _ us hl => match us, hl with | [_], _ => rfl
  obtain ⟨fd2, E2⟩ := c.def_ 1 (d := D_2) rfl
  have F2 : FunD K "is_count" "is_count" (defArgs s_is_count) (defBody s_is_count) (defScope s_is_count) [.int 0] [] (He.ga K "is_count") fd2 := E2
  clear E2
  obtain ⟨ds2_0, v2_0, b2_0⟩ := F2.binds1 (ps := ["value", "least"]) 2 1 (List.cons_ne_nil _ _) rfl fun _ _ _ _ _ _ _ us its h1 h2 => match us, h1, its, h2 with | [_, _], _, [_], _ => ⟨_, rfl, rfl⟩
  obtain ⟨ds2_1, v2_1, b2_1⟩ := F2.binds1 (ps := ["value", "least"]) 1 0 (List.cons_ne_nil _ _) rfl fun _ _ _ _ _ _ _ us its h1 h2 => match us, h1, its, h2 with | [_], _, [_], _ => ⟨_, rfl, rfl⟩
  obtain ⟨fd3, E3⟩ := c.def_ 2 (d := D_3) rfl
  have F3 : FunD K "is_one_of" "is_one_of" (defArgs s_is_one_of) (defBody s_is_one_of) (defScope s_is_one_of) [] [] (He.ga K "is_one_of") fd3 := E3
  clear E3
  have b3 := F3.bindsN (ps := ["value", "words"]) fun _ _ _ _ _ _ us hl => match us, hl with | [_, _], _ => rfl
  obtain ⟨fd4, E4⟩ := c.def_ 3 (d := D_4) rfl
  have F4 : FunD K "is_pack" "is_pack" (defArgs s_is_pack) (defBody s_is_pack) (defScope s_is_pack) [] [] (He.ga K "is_pack") fd4 := E4
  clear E4
  have b4 := F4.bindsN (ps := ["value"]) fun _ _ _ _ _ _ us hl => match us, hl with | [_], _ => rfl
  obtain ⟨fd5, E5⟩ := c.def_ 4 (d := D_5) rfl
  have F5 : FunD K "check_pack" "check_pack" (defArgs s_check_pack) (defBody s_check_pack) (defScope s_check_pack) [] [] (He.ga K "check_pack") fd5 := E5
  clear E5
  have b5 := F5.bindsN (ps := ["value"]) fun _ _ _ _ _ _ us hl => match us, hl with | [_], _ => rfl
  obtain ⟨fd6, E6⟩ := c.def_ 5 (d := D_6) rfl
  have F6 : FunD K "is_move_there" "is_move_there" (defArgs s_is_move_there) (defBody s_is_move_there) (defScope s_is_move_there) [] [] (He.ga K "is_move_there") fd6 := E6
  clear E6
  have b6 := F6.bindsN (ps := ["many", "value"]) fun _ _ _ _ _ _ us hl => match us, hl with | [_, _], _ => rfl
  obtain ⟨fd7, E7⟩ := c.def_ 6 (d := D_7) rfl
  have F7 : FunD K "check_many" "check_many" (defArgs s_check_many) (defBody s_check_many) (defScope s_check_many) [] [] (He.ga K "check_many_packs") fd7 := E7
  clear E7
  have b7 := F7.bindsN (ps := ["many"]) fun _ _ _ _ _ _ us hl => match us, hl with | [_], _ => rfl
  obtain ⟨fd8, E8⟩ := c.def_ 7 (d := D_8) rfl
  have F8 : FunD K "whole_pack" "whole_pack" (defArgs s_whole_pack) (defBody s_whole_pack) (defScope s_whole_pack) [] [] (He.ga K "whole_pack") fd8 := E8
  clear E8
  have b8 := F8.bindsN (ps := ["many"]) fun _ _ _ _ _ _ us hl => match us, hl with | [_], _ => rfl
  obtain ⟨fd9, E9⟩ := c.def_ 8 (d := D_9) rfl
  have F9 : FunD K "moved_there" "moved_there" (defArgs s_moved_there) (defBody s_moved_there) (defScope s_moved_there) [] [] (He.ga K "moved_there") fd9 := E9
  clear E9
  have b9 := F9.bindsN (ps := ["pack", "move"]) fun _ _ _ _ _ _ us hl => match us, hl with | [_, _], _ => rfl
  obtain ⟨fd10, E10⟩ := c.def_ 9 (d := D_10) rfl
  have F10 : FunD K "moved" "moved" (defArgs s_moved) (defBody s_moved) (defScope s_moved) [] [] (He.ga K "moved") fd10 := E10
  clear E10
  have b10 := F10.bindsN (ps := ["pack", "move"]) fun _ _ _ _ _ _ us hl => match us, hl with | [_, _], _ => rfl
  obtain ⟨fd11, E11⟩ := c.def_ 10 (d := D_11) rfl
  have F11 : FunD K "check_many" "check_many" (defArgs s_deals_check_many) (defBody s_deals_check_many) (defScope s_deals_check_many) [] [] (He.ga K "check_many_deals") fd11 := E11
  clear E11
  have b11 := F11.bindsN (ps := ["many"]) fun _ _ _ _ _ _ us hl => match us, hl with | [_], _ => rfl
  obtain ⟨fd12, E12⟩ := c.def_ 11 (d := D_12) rfl
  have F12 : FunD K "check_heaps" "check_heaps" (defArgs s_check_heaps) (defBody s_check_heaps) (defScope s_check_heaps) [] [] (He.ga K "check_heaps_deals") fd12 := E12
  clear E12
  have b12 := F12.bindsN (ps := ["heaps"]) fun _ _ _ _ _ _ us hl => match us, hl with | [_], _ => rfl
  obtain ⟨fd13, E13⟩ := c.def_ 12 (d := D_13) rfl
  have F13 : FunD K "heaps_there" "heaps_there" (defArgs s_heaps_there) (defBody s_heaps_there) (defScope s_heaps_there) [] [] (He.ga K "heaps_there") fd13 := E13
  clear E13
  have b13 := F13.bindsN (ps := ["pack", "heaps"]) fun _ _ _ _ _ _ us hl => match us, hl with | [_, _], _ => rfl
  obtain ⟨fd14, E14⟩ := c.def_ 13 (d := D_14) rfl
  have F14 : FunD K "dealt" "dealt" (defArgs s_dealt) (defBody s_dealt) (defScope s_dealt) [] [] (He.ga K "dealt") fd14 := E14
  clear E14
  have b14 := F14.bindsN (ps := ["pack", "heaps"]) fun _ _ _ _ _ _ us hl => match us, hl with | [_, _], _ => rfl
  obtain ⟨fd15, E15⟩ := c.def_ 14 (d := D_15) rfl
  have F15 : FunD K "is_order" "is_order" (defArgs s_is_order) (defBody s_is_order) (defScope s_is_order) [] [] (He.ga K "is_order") fd15 := E15
  clear E15
  have b15 := F15.bindsN (ps := ["heaps", "value"]) fun _ _ _ _ _ _ us hl => match us, hl with | [_, _], _ => rfl
  obtain ⟨fd16, E16⟩ := c.def_ 15 (d := D_16) rfl
  have F16 : FunD K "heap_move" "heap_move" (defArgs s_heap_move) (defBody s_heap_move) (defScope s_heap_move) [] [] (He.ga K "heap_move") fd16 := E16
  clear E16
  have b16 := F16.bindsN (ps := ["many", "heaps", "order"]) fun _ _ _ _ _ _ us hl => match us, hl with | [_, _, _], _ => rfl
  obtain ⟨fd17, E17⟩ := c.def_ 16 (d := D_17) rfl
  have F17 : FunD K "monge_move" "monge_move" (defArgs s_monge_move) (defBody s_monge_move) (defScope s_monge_move) [] [] (He.ga K "monge_move") fd17 := E17
  clear E17
  have b17 := F17.bindsN (ps := ["many"]) fun _ _ _ _ _ _ us hl => match us, hl with | [_], _ => rfl
  obtain ⟨fd18, E18⟩ := c.def_ 17 (d := D_18) rfl
  have F18 : FunD K "milk_move" "milk_move" (defArgs s_milk_move) (defBody s_milk_move) (defScope s_milk_move) [] [] (He.ga K "milk_move") fd18 := E18
  clear E18
  have b18 := F18.bindsN (ps := ["many"]) fun _ _ _ _ _ _ us hl => match us, hl with | [_], _ => rfl
  obtain ⟨fd19, E19⟩ := c.def_ 18 (d := D_19) rfl
  have F19 : FunD K "are_lengths" "are_lengths" (defArgs s_are_lengths) (defBody s_are_lengths) (defScope s_are_lengths) [] [] (He.ga K "are_lengths") fd19 := E19
  clear E19
  have b19 := F19.bindsN (ps := ["pack", "value"]) fun _ _ _ _ _ _ us hl => match us, hl with | [_, _], _ => rfl
  obtain ⟨fd20, E20⟩ := c.def_ 19 (d := D_20) rfl
  have F20 : FunD K "check_lengths" "check_lengths" (defArgs s_check_lengths) (defBody s_check_lengths) (defScope s_check_lengths) [] [] (He.ga K "check_lengths") fd20 := E20
  clear E20
  have b20 := F20.bindsN (ps := ["pack", "lengths"]) fun _ _ _ _ _ _ us hl => match us, hl with | [_, _], _ => rfl
  obtain ⟨fd21, E21⟩ := c.def_ 20 (d := D_21) rfl
  have F21 : FunD K "spelled_there" "spelled_there" (defArgs s_spelled_there) (defBody s_spelled_there) (defScope s_spelled_there) [] [] (He.ga K "spelled_there") fd21 := E21
  clear E21
  have b21 := F21.bindsN (ps := ["row", "lengths"]) fun _ _ _ _ _ _ us hl => match us, hl with | [_, _], _ => rfl
  obtain ⟨fd22, E22⟩ := c.def_ 21 (d := D_22) rfl
  have F22 : FunD K "spelled" "spelled" (defArgs s_spelled) (defBody s_spelled) (defScope s_spelled) [] [] (He.ga K "spelled") fd22 := E22
  clear E22
  have b22 := F22.bindsN (ps := ["pack", "lengths"]) fun _ _ _ _ _ _ us hl => match us, hl with | [_, _], _ => rfl
  obtain ⟨fd23, E23⟩ := c.def_ 22 (d := D_23) rfl
  have F23 : FunD K "set_to_spell" "set_to_spell" (defArgs s_set_to_spell) (defBody s_set_to_spell) (defScope s_set_to_spell) [] [] (He.ga K "set_to_spell") fd23 := E23
  clear E23
  have b23 := F23.bindsN (ps := ["pack", "lengths"]) fun _ _ _ _ _ _ us hl => match us, hl with | [_, _], _ => rfl
  obtain ⟨fd24, E24⟩ := c.def_ 23 (d := D_24) rfl
  have F24 : FunD K "check_step" "check_step" (defArgs s_check_step) (defBody s_check_step) (defScope s_check_step) [] [] (He.ga K "check_step") fd24 := E24
  clear E24
  have b24 := F24.bindsN (ps := ["step"]) fun _ _ _ _ _ _ us hl => match us, hl with | [_], _ => rfl
  obtain ⟨fd25, E25⟩ := c.def_ 24 (d := D_25) rfl
  have F25 : FunD K "check_some" "check_some" (defArgs s_check_some) (defBody s_check_some) (defScope s_check_some) [] [] (He.ga K "check_some") fd25 := E25
  clear E25
  have b25 := F25.bindsN (ps := ["many"]) fun _ _ _ _ _ _ us hl => match us, hl with | [_], _ => rfl
  obtain ⟨fd26, E26⟩ := c.def_ 25 (d := D_26) rfl
  have F26 : FunD K "order_there" "order_there" (defArgs s_order_there) (defBody s_order_there) (defScope s_order_there) [] [] (He.ga K "order_there_counts") fd26 := E26
  clear E26
  have b26 := F26.bindsN (ps := ["many", "step"]) fun _ _ _ _ _ _ us hl => match us, hl with | [_, _], _ => rfl
  obtain ⟨fd27, E27⟩ := c.def_ 26 (d := D_27) rfl
  have F27 : FunD K "out_order" "out_order" (defArgs s_out_order) (defBody s_out_order) (defScope s_out_order) [] [] (He.ga K "out_order") fd27 := E27
  clear E27
  have b27 := F27.bindsN (ps := ["many", "step"]) fun _ _ _ _ _ _ us hl => match us, hl with | [_, _], _ => rfl
  obtain ⟨fd28, E28⟩ := c.def_ 27 (d := D_28) rfl
  have F28 : FunD K "place_there" "place_there" (defArgs s_place_there) (defBody s_place_there) (defScope s_place_there) [] [] (He.ga K "place_there") fd28 := E28
  clear E28
  have b28 := F28.bindsN (ps := ["many", "step", "turn"]) fun _ _ _ _ _ _ us hl => match us, hl with | [_, _, _], _ => rfl
  obtain ⟨fd29, E29⟩ := c.def_ 28 (d := D_29) rfl
  have F29 : FunD K "last_place" "last_place" (defArgs s_last_place) (defBody s_last_place) (defScope s_last_place) [] [] (He.ga K "last_place") fd29 := E29
  clear E29
  have b29 := F29.bindsN (ps := ["many", "step"]) fun _ _ _ _ _ _ us hl => match us, hl with | [_, _], _ => rfl
  obtain ⟨fd30, E30⟩ := c.def_ 29 (d := D_30) rfl
  have F30 : FunD K "out_turn" "out_turn" (defArgs s_out_turn) (defBody s_out_turn) (defScope s_out_turn) [] [] (He.ga K "out_turn") fd30 := E30
  clear E30
  have b30 := F30.bindsN (ps := ["many", "step", "place"]) fun _ _ _ _ _ _ us hl => match us, hl with | [_, _, _], _ => rfl
  obtain ⟨fd31, E31⟩ := c.def_ 30 (d := D_31) rfl
  have F31 : FunD K "set_for" "set_for" (defArgs s_set_for) (defBody s_set_for) (defScope s_set_for) [] [] (He.ga K "set_for") fd31 := E31
  clear E31
  have b31 := F31.bindsN (ps := ["pack", "step"]) fun _ _ _ _ _ _ us hl => match us, hl with | [_, _], _ => rfl
  obtain ⟨fd32, E32⟩ := c.def_ 31 (d := D_32) rfl
  have F32 : FunD K "cut_there" "cut_there" (defArgs s_cut_there) (defBody s_cut_there) (defScope s_cut_there) [] [] (He.ga K "cut_there") fd32 := E32
  clear E32
  have b32 := F32.bindsN (ps := ["pack", "by"]) fun _ _ _ _ _ _ us hl => match us, hl with | [_, _], _ => rfl
  obtain ⟨fd33, E33⟩ := c.def_ 32 (d := D_33) rfl
  have F33 : FunD K "cut_by" "cut_by" (defArgs s_cut_by) (defBody s_cut_by) (defScope s_cut_by) [] [] (He.ga K "cut_by") fd33 := E33
  clear E33
  have b33 := F33.bindsN (ps := ["pack", "by"]) fun _ _ _ _ _ _ us hl => match us, hl with | [_, _], _ => rfl
  obtain ⟨fd34, E34⟩ := c.def_ 33 (d := D_34) rfl
  have F34 : FunD K "check_ranks" "check_ranks" (defArgs s_check_ranks) (defBody s_check_ranks) (defScope s_check_ranks) [] [] (He.ga K "check_ranks") fd34 := E34
  clear E34
  have b34 := F34.bindsN (ps := ["pack", "ranks"]) fun _ _ _ _ _ _ us hl => match us, hl with | [_, _], _ => rfl
  obtain ⟨fd35, E35⟩ := c.def_ 34 (d := D_35) rfl
  have F35 : FunD K "suits_of" "suits_of" (defArgs s_suits_of) (defBody s_suits_of) (defScope s_suits_of) [] [] (He.ga K "suits_of") fd35 := E35
  clear E35
  have b35 := F35.bindsN (ps := ["pack", "ranks"]) fun _ _ _ _ _ _ us hl => match us, hl with | [_, _], _ => rfl
  obtain ⟨fd36, E36⟩ := c.def_ 35 (d := D_36) rfl
  have F36 : FunD K "ranks_of" "ranks_of" (defArgs s_ranks_of) (defBody s_ranks_of) (defScope s_ranks_of) [] [] (He.ga K "ranks_of") fd36 := E36
  clear E36
  have b36 := F36.bindsN (ps := ["pack", "ranks"]) fun _ _ _ _ _ _ us hl => match us, hl with | [_, _], _ => rfl
  obtain ⟨fd37, E37⟩ := c.def_ 36 (d := D_37) rfl
  have F37 : FunD K "colours_of" "colours_of" (defArgs s_colours_of) (defBody s_colours_of) (defScope s_colours_of) [] [] (He.ga K "colours_of") fd37 := E37
  clear E37
  have b37 := F37.bindsN (ps := ["pack", "ranks"]) fun _ _ _ _ _ _ us hl => match us, hl with | [_, _], _ => rfl
  obtain ⟨fd38, E38⟩ := c.def_ 37 (d := D_38) rfl
  have F38 : FunD K "check_move" "check_move" (defArgs s_check_move) (defBody s_check_move) (defScope s_check_move) [] [] (He.ga K "check_move") fd38 := E38
  clear E38
  have b38 := F38.bindsN (ps := ["value"]) fun _ _ _ _ _ _ us hl => match us, hl with | [_], _ => rfl
  obtain ⟨fd39, E39⟩ := c.def_ 38 (d := D_39) rfl
  have F39 : FunD K "check_other" "check_other" (defArgs s_check_other) (defBody s_check_other) (defScope s_check_other) [] [] (He.ga K "check_other") fd39 := E39
  clear E39
  have b39 := F39.bindsN (ps := ["move", "other"]) fun _ _ _ _ _ _ us hl => match us, hl with | [_, _], _ => rfl
  obtain ⟨fd40, E40⟩ := c.def_ 39 (d := D_40) rfl
  have F40 : FunD K "then_there" "then_there" (defArgs s_then_there) (defBody s_then_there) (defScope s_then_there) [] [] (He.ga K "then_there") fd40 := E40
  clear E40
  have b40 := F40.bindsN (ps := ["move", "other"]) fun _ _ _ _ _ _ us hl => match us, hl with | [_, _], _ => rfl
  obtain ⟨fd41, E41⟩ := c.def_ 40 (d := D_41) rfl
  have F41 : FunD K "one_then" "one_then" (defArgs s_one_then) (defBody s_one_then) (defScope s_one_then) [] [] (He.ga K "one_then") fd41 := E41
  clear E41
  have b41 := F41.bindsN (ps := ["move", "other"]) fun _ _ _ _ _ _ us hl => match us, hl with | [_, _], _ => rfl
  obtain ⟨fd42, E42⟩ := c.def_ 41 (d := D_42) rfl
  have F42 : FunD K "back_there" "back_there" (defArgs s_back_there) (defBody s_back_there) (defScope s_back_there) [] [] (He.ga K "back_there") fd42 := E42
  clear E42
  have b42 := F42.bindsN (ps := ["move"]) fun _ _ _ _ _ _ us hl => match us, hl with | [_], _ => rfl
  obtain ⟨fd43, E43⟩ := c.def_ 42 (d := D_43) rfl
  have F43 : FunD K "move_back" "move_back" (defArgs s_move_back) (defBody s_move_back) (defScope s_move_back) [] [] (He.ga K "move_back") fd43 := E43
  clear E43
  have b43 := F43.bindsN (ps := ["move"]) fun _ _ _ _ _ _ us hl => match us, hl with | [_], _ => rfl
  obtain ⟨fd44, E44⟩ := c.def_ 43 (d := D_44) rfl
  have F44 : FunD K "rings_there" "rings_there" (defArgs s_rings_there) (defBody s_rings_there) (defScope s_rings_there) [] [] (He.ga K "rings_there") fd44 := E44
  clear E44
  have b44 := F44.bindsN (ps := ["move"]) fun _ _ _ _ _ _ us hl => match us, hl with | [_], _ => rfl
  obtain ⟨fd45, E45⟩ := c.def_ 44 (d := D_45) rfl
  have F45 : FunD K "common" "common" (defArgs s_common) (defBody s_common) (defScope s_common) [] [] (He.ga K "common") fd45 := E45
  clear E45
  have b45 := F45.bindsN (ps := ["one", "other"]) fun _ _ _ _ _ _ us hl => match us, hl with | [_, _], _ => rfl
  obtain ⟨fd46, E46⟩ := c.def_ 45 (d := D_46) rfl
  have F46 : FunD K "order_there" "order_there" (defArgs s_moves_order_there) (defBody s_moves_order_there) (defScope s_moves_order_there) [] [] (He.ga K "order_there_moves") fd46 := E46
  clear E46
  have b46 := F46.bindsN (ps := ["move"]) fun _ _ _ _ _ _ us hl => match us, hl with | [_], _ => rfl
  obtain ⟨fd47, E47⟩ := c.def_ 46 (d := D_47) rfl
  have F47 : FunD K "order_of" "order_of" (defArgs s_order_of) (defBody s_order_of) (defScope s_order_of) [] [] (He.ga K "order_of") fd47 := E47
  clear E47
  have b47 := F47.bindsN (ps := ["move"]) fun _ _ _ _ _ _ us hl => match us, hl with | [_], _ => rfl
  obtain ⟨fd48, E48⟩ := c.def_ 47 (d := D_48) rfl
  have F48 : FunD K "all_in_turn" "all_in_turn" (defArgs s_all_in_turn) (defBody s_all_in_turn) (defScope s_all_in_turn) [] [] (He.ga K "all_in_turn") fd48 := E48
  clear E48
  have b48 := F48.bindsN (ps := ["many", "moves"]) fun _ _ _ _ _ _ us hl => match us, hl with | [_, _], _ => rfl
  obtain ⟨fd49, E49⟩ := c.def_ 48 (d := D_49) rfl
  have F49 : FunD K "is_even" "is_even" (defArgs s_is_even) (defBody s_is_even) (defScope s_is_even) [] [] (He.ga K "is_even") fd49 := E49
  clear E49
  have b49 := F49.bindsN (ps := ["move"]) fun _ _ _ _ _ _ us hl => match us, hl with | [_], _ => rfl
  obtain ⟨fd50, E50⟩ := c.def_ 49 (d := D_50) rfl
  have F50 : FunD K "check_at" "check_at" (defArgs s_check_at) (defBody s_check_at) (defScope s_check_at) [] [] (He.ga K "check_at") fd50 := E50
  clear E50
  have b50 := F50.bindsN (ps := ["many", "at"]) fun _ _ _ _ _ _ us hl => match us, hl with | [_, _], _ => rfl
  obtain ⟨fd51, E51⟩ := c.def_ 50 (d := D_51) rfl
  have F51 : FunD K "cut_move" "cut_move" (defArgs s_cut_move) (defBody s_cut_move) (defScope s_cut_move) [] [] (He.ga K "cut_move") fd51 := E51
  clear E51
  have b51 := F51.bindsN (ps := ["many", "at"]) fun _ _ _ _ _ _ us hl => match us, hl with | [_, _], _ => rfl
  obtain ⟨fd52, E52⟩ := c.def_ 51 (d := D_52) rfl
  have F52 : FunD K "about_move" "about_move" (defArgs s_about_move) (defBody s_about_move) (defScope s_about_move) [] [] (He.ga K "about_move") fd52 := E52
  clear E52
  have b52 := F52.bindsN (ps := ["many", "at"]) fun _ _ _ _ _ _ us hl => match us, hl with | [_, _], _ => rfl
  obtain ⟨fd53, E53⟩ := c.def_ 52 (d := D_53) rfl
  have F53 : FunD K "check_many" "check_many" (defArgs s_faros_check_many) (defBody s_faros_check_many) (defScope s_faros_check_many) [] [] (He.ga K "check_many_faros") fd53 := E53
  clear E53
  have b53 := F53.bindsN (ps := ["many"]) fun _ _ _ _ _ _ us hl => match us, hl with | [_], _ => rfl
  obtain ⟨fd54, E54⟩ := c.def_ 53 (d := D_54) rfl
  have F54 : FunD K "check_kind" "check_kind" (defArgs s_check_kind) (defBody s_check_kind) (defScope s_check_kind) [] [] (He.ga K "check_kind") fd54 := E54
  clear E54
  have b54 := F54.bindsN (ps := ["many", "kind"]) fun _ _ _ _ _ _ us hl => match us, hl with | [_, _], _ => rfl
  obtain ⟨fd55, E55⟩ := c.def_ 54 (d := D_55) rfl
  have F55 : FunD K "faro_there" "faro_there" (defArgs s_faro_there) (defBody s_faro_there) (defScope s_faro_there) [] [] (He.ga K "faro_there") fd55 := E55
  clear E55
  have b55 := F55.bindsN (ps := ["many", "kind"]) fun _ _ _ _ _ _ us hl => match us, hl with | [_, _], _ => rfl
  obtain ⟨fd56, E56⟩ := c.def_ 55 (d := D_56) rfl
  have F56 : FunD K "faro_move" "faro_move" (defArgs s_faro_move) (defBody s_faro_move) (defScope s_faro_move) [] [] (He.ga K "faro_move") fd56 := E56
  clear E56
  have b56 := F56.bindsN (ps := ["many", "kind"]) fun _ _ _ _ _ _ us hl => match us, hl with | [_, _], _ => rfl
  obtain ⟨fd57, E57⟩ := c.def_ 56 (d := D_57) rfl
  have F57 : FunD K "is_ring" "is_ring" (defArgs s_is_ring) (defBody s_is_ring) (defScope s_is_ring) [] [] (He.ga K "is_ring") fd57 := E57
  clear E57
  have b57 := F57.bindsN (ps := ["value"]) fun _ _ _ _ _ _ us hl => match us, hl with | [_], _ => rfl
  obtain ⟨fd58, E58⟩ := c.def_ 57 (d := D_58) rfl
  have F58 : FunD K "check_ring" "check_ring" (defArgs s_check_ring) (defBody s_check_ring) (defScope s_check_ring) [] [] (He.ga K "check_ring") fd58 := E58
  clear E58
  have b58 := F58.bindsN (ps := ["ring"]) fun _ _ _ _ _ _ us hl => match us, hl with | [_], _ => rfl
  obtain ⟨fd59, E59⟩ := c.def_ 58 (d := D_59) rfl
  have F59 : FunD K "windows_there" "windows_there" (defArgs s_windows_there) (defBody s_windows_there) (defScope s_windows_there) [] [] (He.ga K "windows_there") fd59 := E59
  clear E59
  have b59 := F59.bindsN (ps := ["ring", "length"]) fun _ _ _ _ _ _ us hl => match us, hl with | [_, _], _ => rfl
  obtain ⟨fd60, E60⟩ := c.def_ 59 (d := D_60) rfl
  have F60 : FunD K "check_length" "check_length" (defArgs s_check_length) (defBody s_check_length) (defScope s_check_length) [] [] (He.ga K "check_length") fd60 := E60
  clear E60
  have b60 := F60.bindsN (ps := ["ring", "length"]) fun _ _ _ _ _ _ us hl => match us, hl with | [_, _], _ => rfl
  obtain ⟨fd61, E61⟩ := c.def_ 60 (d := D_61) rfl
  have F61 : FunD K "are_unlike" "are_unlike" (defArgs s_are_unlike) (defBody s_are_unlike) (defScope s_are_unlike) [] [] (He.ga K "are_unlike") fd61 := E61
  clear E61
  have b61 := F61.bindsN (ps := ["rows"]) fun _ _ _ _ _ _ us hl => match us, hl with | [_], _ => rfl
  obtain ⟨fd62, E62⟩ := c.def_ 61 (d := D_62) rfl
  have F62 : FunD K "does_tell" "does_tell" (defArgs s_does_tell) (defBody s_does_tell) (defScope s_does_tell) [] [] (He.ga K "does_tell") fd62 := E62
  clear E62
  have b62 := F62.bindsN (ps := ["ring", "length"]) fun _ _ _ _ _ _ us hl => match us, hl with | [_, _], _ => rfl
  obtain ⟨fd63, E63⟩ := c.def_ 62 (d := D_63) rfl
  have F63 : FunD K "is_window" "is_window" (defArgs s_is_window) (defBody s_is_window) (defScope s_is_window) [] [] (He.ga K "is_window") fd63 := E63
  clear E63
  have b63 := F63.bindsN (ps := ["ring", "value"]) fun _ _ _ _ _ _ us hl => match us, hl with | [_, _], _ => rfl
  obtain ⟨fd64, E64⟩ := c.def_ 63 (d := D_64) rfl
  have F64 : FunD K "places_for" "places_for" (defArgs s_places_for) (defBody s_places_for) (defScope s_places_for) [] [] (He.ga K "places_for") fd64 := E64
  clear E64
  have b64 := F64.bindsN (ps := ["ring", "window"]) fun _ _ _ _ _ _ us hl => match us, hl with | [_, _], _ => rfl
  obtain ⟨fd65, E65⟩ := c.def_ 64 (d := D_65) rfl
  have F65 : FunD K "check_signs" "check_signs" (defArgs s_check_signs) (defBody s_check_signs) (defScope s_check_signs) [] [] (He.ga K "check_signs") fd65 := E65
  clear E65
  have b65 := F65.bindsN (ps := ["signs", "length"]) fun _ _ _ _ _ _ us hl => match us, hl with | [_, _], _ => rfl
  obtain ⟨fd66, E66⟩ := c.def_ 65 (d := D_66) rfl
  have F66 : FunD K "power_of" "power_of" (defArgs s_power_of) (defBody s_power_of) (defScope s_power_of) [] [] (He.ga K "power_of") fd66 := E66
  clear E66
  have b66 := F66.bindsN (ps := ["number", "times"]) fun _ _ _ _ _ _ us hl => match us, hl with | [_, _], _ => rfl
  obtain ⟨fd67, E67⟩ := c.def_ 66 (d := D_67) rfl
  have F67 : FunD K "greedy_ring" "greedy_ring" (defArgs s_greedy_ring) (defBody s_greedy_ring) (defScope s_greedy_ring) [] [] (He.ga K "greedy_ring") fd67 := E67
  clear E67
  have b67 := F67.bindsN (ps := ["signs", "length"]) fun _ _ _ _ _ _ us hl => match us, hl with | [_, _], _ => rfl
  obtain ⟨fd68, E68⟩ := c.def_ 67 (d := D_68) rfl
  have F68 : FunD K "words_there" "words_there" (defArgs s_words_there) (defBody s_words_there) (defScope s_words_there) [] [] (He.ga K "words_there") fd68 := E68
  clear E68
  have b68 := F68.bindsN (ps := ["signs", "length"]) fun _ _ _ _ _ _ us hl => match us, hl with | [_, _], _ => rfl
  obtain ⟨fd69, E69⟩ := c.def_ 68 (d := D_69) rfl
  have F69 : FunD K "least_ring" "least_ring" (defArgs s_least_ring) (defBody s_least_ring) (defScope s_least_ring) [] [] (He.ga K "least_ring") fd69 := E69
  clear E69
  have b69 := F69.bindsN (ps := ["signs", "length"]) fun _ _ _ _ _ _ us hl => match us, hl with | [_, _], _ => rfl
  obtain ⟨fd70, E70⟩ := c.def_ 69 (d := D_70) rfl
  have F70 : FunD K "check_heaps" "check_heaps" (defArgs s_heaps_check_heaps) (defBody s_heaps_check_heaps) (defScope s_heaps_check_heaps) [] [] (He.ga K "check_heaps_heaps") fd70 := E70
  clear E70
  have b70 := F70.bindsN (ps := ["heaps"]) fun _ _ _ _ _ _ us hl => match us, hl with | [_], _ => rfl
  obtain ⟨fd71, E71⟩ := c.def_ 70 (d := D_71) rfl
  have F71 : FunD K "is_order_there" "is_order_there" (defArgs s_is_order_there) (defBody s_is_order_there) (defScope s_is_order_there) [] [] (He.ga K "is_order_there") fd71 := E71
  clear E71
  have b71 := F71.bindsN (ps := ["heaps", "value"]) fun _ _ _ _ _ _ us hl => match us, hl with | [_, _], _ => rfl
  obtain ⟨fd72, E72⟩ := c.def_ 71 (d := D_72) rfl
  have F72 : FunD K "columns_there" "columns_there" (defArgs s_columns_there) (defBody s_columns_there) (defScope s_columns_there) [] [] (He.ga K "columns_there") fd72 := E72
  clear E72
  have b72 := F72.bindsN (ps := ["pack", "heaps"]) fun _ _ _ _ _ _ us hl => match us, hl with | [_, _], _ => rfl
  obtain ⟨fd73, E73⟩ := c.def_ 72 (d := D_73) rfl
  have F73 : FunD K "columns" "columns" (defArgs s_columns) (defBody s_columns) (defScope s_columns) [] [] (He.ga K "columns") fd73 := E73
  clear E73
  have b73 := F73.bindsN (ps := ["pack", "heaps"]) fun _ _ _ _ _ _ us hl => match us, hl with | [_, _], _ => rfl
  obtain ⟨fd74, E74⟩ := c.def_ 73 (d := D_74) rfl
  have F74 : FunD K "gathered_there" "gathered_there" (defArgs s_gathered_there) (defBody s_gathered_there) (defScope s_gathered_there) [] [] (He.ga K "gathered_there") fd74 := E74
  clear E74
  have b74 := F74.bindsN (ps := ["pack", "heaps", "order"]) fun _ _ _ _ _ _ us hl => match us, hl with | [_, _, _], _ => rfl
  obtain ⟨fd75, E75⟩ := c.def_ 74 (d := D_75) rfl
  have F75 : FunD K "deal_move" "deal_move" (defArgs s_deal_move) (defBody s_deal_move) (defScope s_deal_move) [] [] (He.ga K "deal_move") fd75 := E75
  clear E75
  have b75 := F75.bindsN (ps := ["many", "heaps", "order"]) fun _ _ _ _ _ _ us hl => match us, hl with | [_, _, _], _ => rfl
  obtain ⟨fd76, E76⟩ := c.def_ 75 (d := D_76) rfl
  have F76 : FunD K "pack_of_ring" "pack_of_ring" (defArgs s_pack_of_ring) (defBody s_pack_of_ring) (defScope s_pack_of_ring) [] [] (He.ga K "pack_of_ring") fd76 := E76
  clear E76
  have b76 := F76.bindsN (ps := ["ring", "ranks"]) fun _ _ _ _ _ _ us hl => match us, hl with | [_, _], _ => rfl
  obtain ⟨fd77, E77⟩ := c.def_ 76 (d := D_77) rfl
  have F77 : FunD K "signs_there" "signs_there" (defArgs s_signs_there) (defBody s_signs_there) (defScope s_signs_there) [] [] (He.ga K "signs_there") fd77 := E77
  clear E77
  have b77 := F77.bindsN (ps := ["pack", "ranks", "sign"]) fun _ _ _ _ _ _ us hl => match us, hl with | [_, _, _], _ => rfl
  obtain ⟨fd78, E78⟩ := c.def_ 77 (d := D_78) rfl
  have F78 : FunD K "tells_by" "tells_by" (defArgs s_tells_by) (defBody s_tells_by) (defScope s_tells_by) [] [] (He.ga K "tells_by") fd78 := E78
  clear E78
  have b78 := F78.bindsN (ps := ["pack", "ranks", "sign", "length"]) fun _ _ _ _ _ _ us hl => match us, hl with | [_, _, _, _], _ => rfl
  obtain ⟨fd79, E79⟩ := c.def_ 78 (d := D_79) rfl
  have F79 : FunD K "cards_for" "cards_for" (defArgs s_cards_for) (defBody s_cards_for) (defScope s_cards_for) [] [] (He.ga K "cards_for") fd79 := E79
  clear E79
  have b79 := F79.bindsN (ps := ["pack", "ranks", "sign", "window"]) fun _ _ _ _ _ _ us hl => match us, hl with | [_, _, _, _], _ => rfl
  obtain ⟨fd80, E80⟩ := c.def_ 79 (d := D_80) rfl
  have F80 : FunD K "_law_purse" "_law_purse" (defArgs s__law_purse) (defBody s__law_purse) (defScope s__law_purse) [] [] (He.ga K "_law_purse") fd80 := E80
  clear E80
  have b80 := F80.bindsN (ps := ["script", "at"]) fun _ _ _ _ _ _ us hl => match us, hl with | [_, _], _ => rfl
  obtain ⟨fd81, E81⟩ := c.def_ 80 (d := D_81) rfl
  have F81 : FunD K "_law_mixed" "_law_mixed" (defArgs s__law_mixed) (defBody s__law_mixed) (defScope s__law_mixed) [] [] (He.ga K "_law_mixed") fd81 := E81
  clear E81
  have b81 := F81.bindsN (ps := ["seed", "spin", "at"]) fun _ _ _ _ _ _ us hl => match us, hl with | [_, _, _], _ => rfl
  obtain ⟨fd82, E82⟩ := c.def_ 81 (d := D_82) rfl
  have F82 : FunD K "_law_draw" "_law_draw" (defArgs s__law_draw0) (defBody s__law_draw0) (defScope s__law_draw0) [] [] (He.ga K "_law_draw") fd82 := E82
  clear E82
  have b82 := F82.bindsN (ps := ["purse", "many"]) fun _ _ _ _ _ _ us hl => match us, hl with | [_, _], _ => rfl
  obtain ⟨fd83, E83⟩ := c.def_ 82 (d := D_83) rfl
  have F83 : FunD K "_law_one_of" "_law_one_of" (defArgs s__law_one_of) (defBody s__law_one_of) (defScope s__law_one_of) [] [] (He.ga K "_law_one_of") fd83 := E83
  clear E83
  have b83 := F83.bindsN (ps := ["purse", "some"]) fun _ _ _ _ _ _ us hl => match us, hl with | [_, _], _ => rfl
  obtain ⟨fd84, E84⟩ := c.def_ 83 (d := D_84) rfl
  have F84 : FunD K "_law_exact" "_law_exact" (defArgs s__law_exact) (defBody s__law_exact) (defScope s__law_exact) [] [] (He.ga K "_law_exact") fd84 := E84
  clear E84
  have b84 := F84.bindsN (ps := ["mine", "theirs"]) fun _ _ _ _ _ _ us hl => match us, hl with | [_, _], _ => rfl
  obtain ⟨fd85, E85⟩ := c.def_ 84 (d := D_85) rfl
  have F85 : FunD K "_law_shuffled" "_law_shuffled" (defArgs s__law_shuffled) (defBody s__law_shuffled) (defScope s__law_shuffled) [] [] (He.ga K "_law_shuffled") fd85 := E85
  clear E85
  have b85 := F85.bindsN (ps := ["purse", "some"]) fun _ _ _ _ _ _ us hl => match us, hl with | [_, _], _ => rfl
  obtain ⟨fd86, E86⟩ := c.def_ 85 (d := D_86) rfl
  have F86 : FunD K "_law_pack" "_law_pack" (defArgs s__law_pack) (defBody s__law_pack) (defScope s__law_pack) [] [] (He.ga K "_law_pack") fd86 := E86
  clear E86
  have b86 := F86.bindsN (ps := ["purse", "many"]) fun _ _ _ _ _ _ us hl => match us, hl with | [_, _], _ => rfl
  obtain ⟨fd87, E87⟩ := c.def_ 86 (d := D_87) rfl
  have F87 : FunD K "_law_deals_right" "_law_deals_right" (defArgs s__law_deals_right) (defBody s__law_deals_right) (defScope s__law_deals_right) [] [] (He.ga K "_law_deals_right") fd87 := E87
  clear E87
  have b87 := F87.bindsN (ps := ["purse"]) fun _ _ _ _ _ _ us hl => match us, hl with | [_], _ => rfl
  obtain ⟨fd88, E88⟩ := c.def_ 87 (d := D_88) rfl
  have F88 : FunD K "_law_rings_right" "_law_rings_right" (defArgs s__law_rings_right) (defBody s__law_rings_right) (defScope s__law_rings_right) [] [] (He.ga K "_law_rings_right") fd88 := E88
  clear E88
  have b88 := F88.bindsN (ps := ["purse"]) fun _ _ _ _ _ _ us hl => match us, hl with | [_], _ => rfl
  obtain ⟨fd89, E89⟩ := c.def_ 88 (d := D_89) rfl
  have F89 : FunD K "law" "law" (defArgs s_law) (defBody s_law) (defScope s_law) [] [] (He.ga K "law") fd89 := E89
  clear E89
  have b89 := F89.bindsN (ps := ["script"]) fun _ _ _ _ _ _ us hl => match us, hl with | [_], _ => rfl
  refine ⟨fd89, fun s v => F89.bindsA (ps := ["script"]) (fun _ _ _ _ _ _ us hl => match us, hl with | [_], _ => rfl) s [v] rfl, ?_⟩
  intro base _ _
  have O_is_whole := ok_is_whole (P := l.prog) (w := w) (base := base) B  F1
  have C_is_whole_0 : CallF l.prog w K mg base 1 "is_whole" false 1 [] r_is_whole := ⟨(He.ga K "is_whole"), _, _, _, (He.glo_ok X G (c.fact 1 (f := .glo "is_whole") rfl)), F1.kp, rfl, b1, .nil, O_is_whole⟩
  have O_is_count := ok_is_count (P := l.prog) (w := w) (base := base) B C_is_whole_0 F2
  have C_is_count_0 : CallF l.prog w K mg base 2 "is_count" false 2 [] r_is_count := ⟨(He.ga K "is_count"), _, _, _, (He.glo_ok X G (c.fact 2 (f := .glo "is_count") rfl)), F2.kp, rfl, b2_0, v2_0, O_is_count⟩
  have C_is_count_1 : CallF l.prog w K mg base 2 "is_count" false 2 [.int 0] r_is_count := ⟨(He.ga K "is_count"), _, _, _, (He.glo_ok X G (c.fact 2 (f := .glo "is_count") rfl)), F2.kp, rfl, b2_1, v2_1, O_is_count⟩
  have O_is_one_of := ok_is_one_of (P := l.prog) (w := w) (base := base) B  F3
  have S_SIGNS : ∀ H : Hp, SqT K H (He.ga K "SIGNS") (([⟨#[99, 111, 108, 111, 117, 114, 115]⟩, ⟨#[114, 97, 110, 107, 115]⟩, ⟨#[115, 117, 105, 116, 115]⟩] : List Str).map V.str) := fun H => He.tupB_ok (exL_0 hx) H
  have W_SIGNS : OneOfF l.prog w K mg base 1 "is_one_of" "SIGNS" [⟨#[99, 111, 108, 111, 117, 114, 115]⟩, ⟨#[114, 97, 110, 107, 115]⟩, ⟨#[115, 117, 105, 116, 115]⟩] := ⟨_, (He.glo_ok X G (c.fact 108 (f := .glo "SIGNS") rfl)), ⟨(He.ga K "is_one_of"), _, _, _, (He.glo_ok X G (c.fact 30 (f := .glo "is_one_of") rfl)), F3.kp, rfl, b3, .nil, ok_oneOf S_SIGNS B F3⟩⟩
  have C_is_one_of_0 : CallF l.prog w K mg base 1 "is_one_of" false 2 [] r_is_one_of := ⟨(He.ga K "is_one_of"), _, _, _, (He.glo_ok X G (c.fact 30 (f := .glo "is_one_of") rfl)), F3.kp, rfl, b3, .nil, O_is_one_of⟩
  have O_is_pack := ok_is_pack (P := l.prog) (w := w) (base := base) B C_is_count_1 F4
  have C_is_pack_0 : CallF l.prog w K mg base 3 "is_pack" false 1 [] r_is_pack := ⟨(He.ga K "is_pack"), _, _, _, (He.glo_ok X G (c.fact 3 (f := .glo "is_pack") rfl)), F4.kp, rfl, b4, .nil, O_is_pack⟩
  have O_check_pack := ok_check_pack (P := l.prog) (w := w) (base := base) B C_is_pack_0 F5
  have C_check_pack_0 : CallF l.prog w K mg base 4 "check_pack" false 1 [] r_check_pack := ⟨(He.ga K "check_pack"), _, _, _, (He.glo_ok X G (c.fact 5 (f := .glo "check_pack") rfl)), F5.kp, rfl, b5, .nil, O_check_pack⟩
  have O_is_move_there := ok_is_move_there (P := l.prog) (w := w) (base := base) B C_is_count_1 F6
  have C_is_move_there_0 : CallF l.prog w K mg base 3 "is_move_there" false 2 [] r_is_move_there := ⟨(He.ga K "is_move_there"), _, _, _, (He.glo_ok X G (c.fact 6 (f := .glo "is_move_there") rfl)), F6.kp, rfl, b6, .nil, O_is_move_there⟩
  have O_check_many := ok_check_many (P := l.prog) (w := w) (base := base) B C_is_count_1 F7
  have C_check_many_packs_0 : CallF l.prog w K mg base 3 "check_many_packs" false 1 [] r_check_many := ⟨(He.ga K "check_many_packs"), _, _, _, (He.glo_ok X G (c.fact 4 (f := .glo "check_many_packs") rfl)), F7.kp, rfl, b7, .nil, O_check_many⟩
  have O_whole_pack := ok_whole_pack (P := l.prog) (w := w) (base := base) B C_check_many_packs_0 F8
  have C_whole_pack_0 : CallF l.prog w K mg base 4 "whole_pack" false 1 [] r_whole_pack := ⟨(He.ga K "whole_pack"), _, _, _, (He.glo_ok X G (c.fact 66 (f := .glo "whole_pack") rfl)), F8.kp, rfl, b8, .nil, O_whole_pack⟩
  have O_moved_there := ok_moved_there (P := l.prog) (w := w) (base := base) B  F9
  have C_moved_there_0 : CallF l.prog w K mg base 1 "moved_there" false 2 [] r_moved_there := ⟨(He.ga K "moved_there"), _, _, _, (He.glo_ok X G (c.fact 7 (f := .glo "moved_there") rfl)), F9.kp, rfl, b9, .nil, O_moved_there⟩
  have O_moved := ok_moved (P := l.prog) (w := w) (base := base) B C_check_pack_0 C_is_move_there_0 C_moved_there_0 F10
  have C_moved_0 : CallF l.prog w K mg base 5 "moved" false 2 [] r_moved := ⟨(He.ga K "moved"), _, _, _, (He.glo_ok X G (c.fact 63 (f := .glo "moved") rfl)), F10.kp, rfl, b10, .nil, O_moved⟩
  have O_deals_check_many := ok_deals_check_many (P := l.prog) (w := w) (base := base) B C_is_count_1 F11
  have C_check_many_deals_0 : CallF l.prog w K mg base 3 "check_many_deals" false 1 [] r_deals_check_many := ⟨(He.ga K "check_many_deals"), _, _, _, (He.glo_ok X G (c.fact 10 (f := .glo "check_many_deals") rfl)), F11.kp, rfl, b11, .nil, O_deals_check_many⟩
  have O_check_heaps := ok_check_heaps (P := l.prog) (w := w) (base := base) B C_is_count_0 F12
  have C_check_heaps_deals_0 : CallF l.prog w K mg base 3 "check_heaps_deals" false 1 [] r_check_heaps := ⟨(He.ga K "check_heaps_deals"), _, _, _, (He.glo_ok X G (c.fact 8 (f := .glo "check_heaps_deals") rfl)), F12.kp, rfl, b12, .nil, O_check_heaps⟩
  have O_heaps_there := ok_heaps_there (P := l.prog) (w := w) (base := base) B  F13
  have C_heaps_there_0 : CallF l.prog w K mg base 1 "heaps_there" false 2 [] r_heaps_there := ⟨(He.ga K "heaps_there"), _, _, _, (He.glo_ok X G (c.fact 9 (f := .glo "heaps_there") rfl)), F13.kp, rfl, b13, .nil, O_heaps_there⟩
  have O_dealt := ok_dealt (P := l.prog) (w := w) (base := base) B C_check_pack_0 C_check_heaps_deals_0 C_heaps_there_0 F14
  have C_dealt_0 : CallF l.prog w K mg base 5 "dealt" false 2 [] r_dealt := ⟨(He.ga K "dealt"), _, _, _, (He.glo_ok X G (c.fact 57 (f := .glo "dealt") rfl)), F14.kp, rfl, b14, .nil, O_dealt⟩
  have O_is_order := ok_is_order (P := l.prog) (w := w) (base := base) B C_is_count_1 F15
  have C_is_order_0 : CallF l.prog w K mg base 3 "is_order" false 2 [] r_is_order := ⟨(He.ga K "is_order"), _, _, _, (He.glo_ok X G (c.fact 11 (f := .glo "is_order") rfl)), F15.kp, rfl, b15, .nil, O_is_order⟩
  have O_heap_move := ok_heap_move (P := l.prog) (w := w) (base := base) B C_check_many_deals_0 C_check_heaps_deals_0 C_is_order_0 C_heaps_there_0 F16
  have C_heap_move_0 : CallF l.prog w K mg base 4 "heap_move" false 3 [] r_heap_move := ⟨(He.ga K "heap_move"), _, _, _, (He.glo_ok X G (c.fact 59 (f := .glo "heap_move") rfl)), F16.kp, rfl, b16, .nil, O_heap_move⟩
  have O_monge_move := ok_monge_move (P := l.prog) (w := w) (base := base) B C_check_many_deals_0 F17
  have C_monge_move_0 : CallF l.prog w K mg base 4 "monge_move" false 1 [] r_monge_move := ⟨(He.ga K "monge_move"), _, _, _, (He.glo_ok X G (c.fact 65 (f := .glo "monge_move") rfl)), F17.kp, rfl, b17, .nil, O_monge_move⟩
  have O_milk_move := ok_milk_move (P := l.prog) (w := w) (base := base) B C_check_many_deals_0 F18
  have C_milk_move_0 : CallF l.prog w K mg base 4 "milk_move" false 1 [] r_milk_move := ⟨(He.ga K "milk_move"), _, _, _, (He.glo_ok X G (c.fact 64 (f := .glo "milk_move") rfl)), F18.kp, rfl, b18, .nil, O_milk_move⟩
  have O_are_lengths := ok_are_lengths (P := l.prog) (w := w) (base := base) B C_is_count_0 F19
  have C_are_lengths_0 : CallF l.prog w K mg base 3 "are_lengths" false 2 [] r_are_lengths := ⟨(He.ga K "are_lengths"), _, _, _, (He.glo_ok X G (c.fact 12 (f := .glo "are_lengths") rfl)), F19.kp, rfl, b19, .nil, O_are_lengths⟩
  have O_check_lengths := ok_check_lengths (P := l.prog) (w := w) (base := base) B C_check_pack_0 C_are_lengths_0 F20
  have C_check_lengths_0 : CallF l.prog w K mg base 5 "check_lengths" false 2 [] r_check_lengths := ⟨(He.ga K "check_lengths"), _, _, _, (He.glo_ok X G (c.fact 13 (f := .glo "check_lengths") rfl)), F20.kp, rfl, b20, .nil, O_check_lengths⟩
  have O_spelled_there := ok_spelled_there (P := l.prog) (w := w) (base := base) B  F21
  have C_spelled_there_0 : CallF l.prog w K mg base 1 "spelled_there" false 2 [] r_spelled_there := ⟨(He.ga K "spelled_there"), _, _, _, (He.glo_ok X G (c.fact 14 (f := .glo "spelled_there") rfl)), F21.kp, rfl, b21, .nil, O_spelled_there⟩
  have O_spelled := ok_spelled (P := l.prog) (w := w) (base := base) B C_check_lengths_0 C_spelled_there_0 F22
  have C_spelled_0 : CallF l.prog w K mg base 6 "spelled" false 2 [] r_spelled := ⟨(He.ga K "spelled"), _, _, _, (He.glo_ok X G (c.fact 72 (f := .glo "spelled") rfl)), F22.kp, rfl, b22, .nil, O_spelled⟩
  have O_set_to_spell := ok_set_to_spell (P := l.prog) (w := w) (base := base) B C_check_lengths_0 C_spelled_there_0 F23
  have C_set_to_spell_0 : CallF l.prog w K mg base 6 "set_to_spell" false 2 [] r_set_to_spell := ⟨(He.ga K "set_to_spell"), _, _, _, (He.glo_ok X G (c.fact 73 (f := .glo "set_to_spell") rfl)), F23.kp, rfl, b23, .nil, O_set_to_spell⟩
  have O_check_step := ok_check_step (P := l.prog) (w := w) (base := base) B C_is_count_0 F24
  have C_check_step_0 : CallF l.prog w K mg base 3 "check_step" false 1 [] r_check_step := ⟨(He.ga K "check_step"), _, _, _, (He.glo_ok X G (c.fact 15 (f := .glo "check_step") rfl)), F24.kp, rfl, b24, .nil, O_check_step⟩
  have O_check_some := ok_check_some (P := l.prog) (w := w) (base := base) B C_is_count_0 F25
  have C_check_some_0 : CallF l.prog w K mg base 3 "check_some" false 1 [] r_check_some := ⟨(He.ga K "check_some"), _, _, _, (He.glo_ok X G (c.fact 17 (f := .glo "check_some") rfl)), F25.kp, rfl, b25, .nil, O_check_some⟩
  have O_order_there := ok_order_there (P := l.prog) (w := w) (base := base) B  F26
  have C_order_there_counts_0 : CallF l.prog w K mg base 1 "order_there_counts" false 2 [] r_order_there := ⟨(He.ga K "order_there_counts"), _, _, _, (He.glo_ok X G (c.fact 16 (f := .glo "order_there_counts") rfl)), F26.kp, rfl, b26, .nil, O_order_there⟩
  have O_out_order := ok_out_order (P := l.prog) (w := w) (base := base) B C_check_many_deals_0 C_check_step_0 C_order_there_counts_0 F27
  have C_out_order_0 : CallF l.prog w K mg base 4 "out_order" false 2 [] r_out_order := ⟨(He.ga K "out_order"), _, _, _, (He.glo_ok X G (c.fact 68 (f := .glo "out_order") rfl)), F27.kp, rfl, b27, .nil, O_out_order⟩
  have O_place_there := ok_place_there (P := l.prog) (w := w) (base := base) B  F28
  have C_place_there_0 : CallF l.prog w K mg base 1 "place_there" false 3 [] r_place_there := ⟨(He.ga K "place_there"), _, _, _, (He.glo_ok X G (c.fact 18 (f := .glo "place_there") rfl)), F28.kp, rfl, b28, .nil, O_place_there⟩
  have O_last_place := ok_last_place (P := l.prog) (w := w) (base := base) B C_check_some_0 C_check_step_0 C_place_there_0 F29
  have C_last_place_0 : CallF l.prog w K mg base 4 "last_place" false 2 [] r_last_place := ⟨(He.ga K "last_place"), _, _, _, (He.glo_ok X G (c.fact 71 (f := .glo "last_place") rfl)), F29.kp, rfl, b29, .nil, O_last_place⟩
  have O_out_turn := ok_out_turn (P := l.prog) (w := w) (base := base) B C_check_some_0 C_check_step_0 C_is_count_1 F30
  have C_out_turn_0 : CallF l.prog w K mg base 4 "out_turn" false 3 [] r_out_turn := ⟨(He.ga K "out_turn"), _, _, _, (He.glo_ok X G (c.fact 70 (f := .glo "out_turn") rfl)), F30.kp, rfl, b30, .nil, O_out_turn⟩
  have O_set_for := ok_set_for (P := l.prog) (w := w) (base := base) B C_check_pack_0 C_check_step_0 C_order_there_counts_0 F31
  have C_set_for_0 : CallF l.prog w K mg base 5 "set_for" false 2 [] r_set_for := ⟨(He.ga K "set_for"), _, _, _, (He.glo_ok X G (c.fact 69 (f := .glo "set_for") rfl)), F31.kp, rfl, b31, .nil, O_set_for⟩
  have O_cut_there := ok_cut_there (P := l.prog) (w := w) (base := base) B  F32
  have C_cut_there_0 : CallF l.prog w K mg base 1 "cut_there" false 2 [] r_cut_there := ⟨(He.ga K "cut_there"), _, _, _, (He.glo_ok X G (c.fact 19 (f := .glo "cut_there") rfl)), F32.kp, rfl, b32, .nil, O_cut_there⟩
  have O_cut_by := ok_cut_by (P := l.prog) (w := w) (base := base) B C_check_pack_0 C_is_whole_0 C_cut_there_0 F33
  have C_cut_by_0 : CallF l.prog w K mg base 5 "cut_by" false 2 [] r_cut_by := ⟨(He.ga K "cut_by"), _, _, _, (He.glo_ok X G (c.fact 82 (f := .glo "cut_by") rfl)), F33.kp, rfl, b33, .nil, O_cut_by⟩
  have O_check_ranks := ok_check_ranks (P := l.prog) (w := w) (base := base) B C_check_pack_0 C_is_count_0 F34
  have C_check_ranks_0 : CallF l.prog w K mg base 5 "check_ranks" false 2 [] r_check_ranks := ⟨(He.ga K "check_ranks"), _, _, _, (He.glo_ok X G (c.fact 20 (f := .glo "check_ranks") rfl)), F34.kp, rfl, b34, .nil, O_check_ranks⟩
  have O_suits_of := ok_suits_of (P := l.prog) (w := w) (base := base) B C_check_ranks_0 F35
  have C_suits_of_0 : CallF l.prog w K mg base 6 "suits_of" false 2 [] r_suits_of := ⟨(He.ga K "suits_of"), _, _, _, (He.glo_ok X G (c.fact 48 (f := .glo "suits_of") rfl)), F35.kp, rfl, b35, .nil, O_suits_of⟩
  have O_ranks_of := ok_ranks_of (P := l.prog) (w := w) (base := base) B C_check_ranks_0 F36
  have C_ranks_of_0 : CallF l.prog w K mg base 6 "ranks_of" false 2 [] r_ranks_of := ⟨(He.ga K "ranks_of"), _, _, _, (He.glo_ok X G (c.fact 47 (f := .glo "ranks_of") rfl)), F36.kp, rfl, b36, .nil, O_ranks_of⟩
  have O_colours_of := ok_colours_of (P := l.prog) (w := w) (base := base) B C_check_ranks_0 F37
  have C_colours_of_0 : CallF l.prog w K mg base 6 "colours_of" false 2 [] r_colours_of := ⟨(He.ga K "colours_of"), _, _, _, (He.glo_ok X G (c.fact 46 (f := .glo "colours_of") rfl)), F37.kp, rfl, b37, .nil, O_colours_of⟩
  have O_check_move := ok_check_move (P := l.prog) (w := w) (base := base) B C_is_move_there_0 F38
  have C_check_move_0 : CallF l.prog w K mg base 4 "check_move" false 1 [] r_check_move := ⟨(He.ga K "check_move"), _, _, _, (He.glo_ok X G (c.fact 21 (f := .glo "check_move") rfl)), F38.kp, rfl, b38, .nil, O_check_move⟩
  have O_check_other := ok_check_other (P := l.prog) (w := w) (base := base) B C_is_move_there_0 F39
  have C_check_other_0 : CallF l.prog w K mg base 4 "check_other" false 2 [] r_check_other := ⟨(He.ga K "check_other"), _, _, _, (He.glo_ok X G (c.fact 22 (f := .glo "check_other") rfl)), F39.kp, rfl, b39, .nil, O_check_other⟩
  have O_then_there := ok_then_there (P := l.prog) (w := w) (base := base) B  F40
  have C_then_there_0 : CallF l.prog w K mg base 1 "then_there" false 2 [] r_then_there := ⟨(He.ga K "then_there"), _, _, _, (He.glo_ok X G (c.fact 23 (f := .glo "then_there") rfl)), F40.kp, rfl, b40, .nil, O_then_there⟩
  have O_one_then := ok_one_then (P := l.prog) (w := w) (base := base) B C_check_move_0 C_check_other_0 C_then_there_0 F41
  have C_one_then_0 : CallF l.prog w K mg base 5 "one_then" false 2 [] r_one_then := ⟨(He.ga K "one_then"), _, _, _, (He.glo_ok X G (c.fact 60 (f := .glo "one_then") rfl)), F41.kp, rfl, b41, .nil, O_one_then⟩
  have O_back_there := ok_back_there (P := l.prog) (w := w) (base := base) B  F42
  have C_back_there_0 : CallF l.prog w K mg base 1 "back_there" false 1 [] r_back_there := ⟨(He.ga K "back_there"), _, _, _, (He.glo_ok X G (c.fact 24 (f := .glo "back_there") rfl)), F42.kp, rfl, b42, .nil, O_back_there⟩
  have O_move_back := ok_move_back (P := l.prog) (w := w) (base := base) B C_check_move_0 C_back_there_0 F43
  have C_move_back_0 : CallF l.prog w K mg base 5 "move_back" false 1 [] r_move_back := ⟨(He.ga K "move_back"), _, _, _, (He.glo_ok X G (c.fact 74 (f := .glo "move_back") rfl)), F43.kp, rfl, b43, .nil, O_move_back⟩
  have O_rings_there := ok_rings_there (P := l.prog) (w := w) (base := base) B C_back_there_0 F44
  have C_rings_there_0 : CallF l.prog w K mg base 2 "rings_there" false 1 [] r_rings_there := ⟨(He.ga K "rings_there"), _, _, _, (He.glo_ok X G (c.fact 25 (f := .glo "rings_there") rfl)), F44.kp, rfl, b44, .nil, O_rings_there⟩
  have O_common := ok_common (P := l.prog) (w := w) (base := base) B  F45
  have C_common_0 : CallF l.prog w K mg base 1 "common" false 2 [] r_common := ⟨(He.ga K "common"), _, _, _, (He.glo_ok X G (c.fact 26 (f := .glo "common") rfl)), F45.kp, rfl, b45, .nil, O_common⟩
  have O_moves_order_there := ok_moves_order_there (P := l.prog) (w := w) (base := base) B C_rings_there_0 C_common_0 F46
  have C_order_there_moves_0 : CallF l.prog w K mg base 3 "order_there_moves" false 1 [] r_moves_order_there := ⟨(He.ga K "order_there_moves"), _, _, _, (He.glo_ok X G (c.fact 27 (f := .glo "order_there_moves") rfl)), F46.kp, rfl, b46, .nil, O_moves_order_there⟩
  have O_order_of := ok_order_of (P := l.prog) (w := w) (base := base) B C_check_move_0 C_order_there_moves_0 F47
  have C_order_of_0 : CallF l.prog w K mg base 5 "order_of" false 1 [] r_order_of := ⟨(He.ga K "order_of"), _, _, _, (He.glo_ok X G (c.fact 76 (f := .glo "order_of") rfl)), F47.kp, rfl, b47, .nil, O_order_of⟩
  have O_all_in_turn := ok_all_in_turn (P := l.prog) (w := w) (base := base) B C_check_many_packs_0 C_is_move_there_0 C_then_there_0 F48
  have C_all_in_turn_0 : CallF l.prog w K mg base 4 "all_in_turn" false 2 [] r_all_in_turn := ⟨(He.ga K "all_in_turn"), _, _, _, (He.glo_ok X G (c.fact 85 (f := .glo "all_in_turn") rfl)), F48.kp, rfl, b48, .nil, O_all_in_turn⟩
  have O_is_even := ok_is_even (P := l.prog) (w := w) (base := base) B C_check_move_0 C_rings_there_0 F49
  have C_is_even_0 : CallF l.prog w K mg base 5 "is_even" false 1 [] r_is_even := ⟨(He.ga K "is_even"), _, _, _, (He.glo_ok X G (c.fact 67 (f := .glo "is_even") rfl)), F49.kp, rfl, b49, .nil, O_is_even⟩
  have O_check_at := ok_check_at (P := l.prog) (w := w) (base := base) B C_check_many_packs_0 C_is_count_1 F50
  have C_check_at_0 : CallF l.prog w K mg base 4 "check_at" false 2 [] r_check_at := ⟨(He.ga K "check_at"), _, _, _, (He.glo_ok X G (c.fact 28 (f := .glo "check_at") rfl)), F50.kp, rfl, b50, .nil, O_check_at⟩
  have O_cut_move := ok_cut_move (P := l.prog) (w := w) (base := base) B C_check_at_0 F51
  have C_cut_move_0 : CallF l.prog w K mg base 5 "cut_move" false 2 [] r_cut_move := ⟨(He.ga K "cut_move"), _, _, _, (He.glo_ok X G (c.fact 83 (f := .glo "cut_move") rfl)), F51.kp, rfl, b51, .nil, O_cut_move⟩
  have O_about_move := ok_about_move (P := l.prog) (w := w) (base := base) B C_check_at_0 F52
  have C_about_move_0 : CallF l.prog w K mg base 5 "about_move" false 2 [] r_about_move := ⟨(He.ga K "about_move"), _, _, _, (He.glo_ok X G (c.fact 61 (f := .glo "about_move") rfl)), F52.kp, rfl, b52, .nil, O_about_move⟩
  have O_faros_check_many := ok_faros_check_many (P := l.prog) (w := w) (base := base) B C_is_count_1 F53
  have C_check_many_faros_0 : CallF l.prog w K mg base 3 "check_many_faros" false 1 [] r_faros_check_many := ⟨(He.ga K "check_many_faros"), _, _, _, (He.glo_ok X G (c.fact 29 (f := .glo "check_many_faros") rfl)), F53.kp, rfl, b53, .nil, O_faros_check_many⟩
  have O_check_kind := ok_check_kind (P := l.prog) (w := w) (base := base) B C_check_many_faros_0 C_is_one_of_0 F54
  have C_check_kind_0 : CallF l.prog w K mg base 4 "check_kind" false 2 [] r_check_kind := ⟨(He.ga K "check_kind"), _, _, _, (He.glo_ok X G (c.fact 31 (f := .glo "check_kind") rfl)), F54.kp, rfl, b54, .nil, O_check_kind⟩
  have O_faro_there := ok_faro_there (P := l.prog) (w := w) (base := base) B  F55
  have C_faro_there_0 : CallF l.prog w K mg base 1 "faro_there" false 2 [] r_faro_there := ⟨(He.ga K "faro_there"), _, _, _, (He.glo_ok X G (c.fact 32 (f := .glo "faro_there") rfl)), F55.kp, rfl, b55, .nil, O_faro_there⟩
  have O_faro_move := ok_faro_move (P := l.prog) (w := w) (base := base) B C_check_kind_0 C_faro_there_0 F56
  have C_faro_move_0 : CallF l.prog w K mg base 5 "faro_move" false 2 [] r_faro_move := ⟨(He.ga K "faro_move"), _, _, _, (He.glo_ok X G (c.fact 75 (f := .glo "faro_move") rfl)), F56.kp, rfl, b56, .nil, O_faro_move⟩
  have O_is_ring := ok_is_ring (P := l.prog) (w := w) (base := base) B C_is_count_1 F57
  have C_is_ring_0 : CallF l.prog w K mg base 3 "is_ring" false 1 [] r_is_ring := ⟨(He.ga K "is_ring"), _, _, _, (He.glo_ok X G (c.fact 33 (f := .glo "is_ring") rfl)), F57.kp, rfl, b57, .nil, O_is_ring⟩
  have O_check_ring := ok_check_ring (P := l.prog) (w := w) (base := base) B C_is_ring_0 F58
  have C_check_ring_0 : CallF l.prog w K mg base 4 "check_ring" false 1 [] r_check_ring := ⟨(He.ga K "check_ring"), _, _, _, (He.glo_ok X G (c.fact 34 (f := .glo "check_ring") rfl)), F58.kp, rfl, b58, .nil, O_check_ring⟩
  have O_windows_there := ok_windows_there (P := l.prog) (w := w) (base := base) B  F59
  have C_windows_there_0 : CallF l.prog w K mg base 1 "windows_there" false 2 [] r_windows_there := ⟨(He.ga K "windows_there"), _, _, _, (He.glo_ok X G (c.fact 37 (f := .glo "windows_there") rfl)), F59.kp, rfl, b59, .nil, O_windows_there⟩
  have O_check_length := ok_check_length (P := l.prog) (w := w) (base := base) B C_check_ring_0 C_is_count_1 F60
  have C_check_length_0 : CallF l.prog w K mg base 5 "check_length" false 2 [] r_check_length := ⟨(He.ga K "check_length"), _, _, _, (He.glo_ok X G (c.fact 35 (f := .glo "check_length") rfl)), F60.kp, rfl, b60, .nil, O_check_length⟩
  have O_are_unlike := ok_are_unlike (P := l.prog) (w := w) (base := base) B  F61
  have C_are_unlike_0 : CallF l.prog w K mg base 1 "are_unlike" false 1 [] r_are_unlike := ⟨(He.ga K "are_unlike"), _, _, _, (He.glo_ok X G (c.fact 36 (f := .glo "are_unlike") rfl)), F61.kp, rfl, b61, .nil, O_are_unlike⟩
  have O_does_tell := ok_does_tell (P := l.prog) (w := w) (base := base) B C_check_length_0 C_are_unlike_0 C_windows_there_0 F62
  have C_does_tell_0 : CallF l.prog w K mg base 6 "does_tell" false 2 [] r_does_tell := ⟨(He.ga K "does_tell"), _, _, _, (He.glo_ok X G (c.fact 49 (f := .glo "does_tell") rfl)), F62.kp, rfl, b62, .nil, O_does_tell⟩
  have O_is_window := ok_is_window (P := l.prog) (w := w) (base := base) B C_is_count_1 F63
  have C_is_window_0 : CallF l.prog w K mg base 3 "is_window" false 2 [] r_is_window := ⟨(He.ga K "is_window"), _, _, _, (He.glo_ok X G (c.fact 38 (f := .glo "is_window") rfl)), F63.kp, rfl, b63, .nil, O_is_window⟩
  have O_places_for := ok_places_for (P := l.prog) (w := w) (base := base) B C_check_ring_0 C_is_window_0 C_windows_there_0 F64
  have C_places_for_0 : CallF l.prog w K mg base 5 "places_for" false 2 [] r_places_for := ⟨(He.ga K "places_for"), _, _, _, (He.glo_ok X G (c.fact 51 (f := .glo "places_for") rfl)), F64.kp, rfl, b64, .nil, O_places_for⟩
  have O_check_signs := ok_check_signs (P := l.prog) (w := w) (base := base) B C_is_count_0 F65
  have C_check_signs_0 : CallF l.prog w K mg base 3 "check_signs" false 2 [] r_check_signs := ⟨(He.ga K "check_signs"), _, _, _, (He.glo_ok X G (c.fact 39 (f := .glo "check_signs") rfl)), F65.kp, rfl, b65, .nil, O_check_signs⟩
  have O_power_of := ok_power_of (P := l.prog) (w := w) (base := base) B  F66
  have C_power_of_0 : CallF l.prog w K mg base 1 "power_of" false 2 [] r_power_of := ⟨(He.ga K "power_of"), _, _, _, (He.glo_ok X G (c.fact 40 (f := .glo "power_of") rfl)), F66.kp, rfl, b66, .nil, O_power_of⟩
  have O_greedy_ring := ok_greedy_ring (P := l.prog) (w := w) (base := base) B C_check_signs_0 C_power_of_0 F67
  have C_greedy_ring_0 : CallF l.prog w K mg base 4 "greedy_ring" false 2 [] r_greedy_ring := ⟨(He.ga K "greedy_ring"), _, _, _, (He.glo_ok X G (c.fact 79 (f := .glo "greedy_ring") rfl)), F67.kp, rfl, b67, .nil, O_greedy_ring⟩
  have O_words_there := ok_words_there (P := l.prog) (w := w) (base := base) B  F68
  have C_words_there_0 : CallF l.prog w K mg base 1 "words_there" false 2 [] r_words_there := ⟨(He.ga K "words_there"), _, _, _, (He.glo_ok X G (c.fact 41 (f := .glo "words_there") rfl)), F68.kp, rfl, b68, .nil, O_words_there⟩
  have O_least_ring := ok_least_ring (P := l.prog) (w := w) (base := base) B C_check_signs_0 C_words_there_0 F69
  have C_least_ring_0 : CallF l.prog w K mg base 4 "least_ring" false 2 [] r_least_ring := ⟨(He.ga K "least_ring"), _, _, _, (He.glo_ok X G (c.fact 78 (f := .glo "least_ring") rfl)), F69.kp, rfl, b69, .nil, O_least_ring⟩
  have O_heaps_check_heaps := ok_heaps_check_heaps (P := l.prog) (w := w) (base := base) B C_is_count_0 F70
  have C_check_heaps_heaps_0 : CallF l.prog w K mg base 3 "check_heaps_heaps" false 1 [] r_heaps_check_heaps := ⟨(He.ga K "check_heaps_heaps"), _, _, _, (He.glo_ok X G (c.fact 42 (f := .glo "check_heaps_heaps") rfl)), F70.kp, rfl, b70, .nil, O_heaps_check_heaps⟩
  have O_is_order_there := ok_is_order_there (P := l.prog) (w := w) (base := base) B C_is_count_1 F71
  have C_is_order_there_0 : CallF l.prog w K mg base 3 "is_order_there" false 2 [] r_is_order_there := ⟨(He.ga K "is_order_there"), _, _, _, (He.glo_ok X G (c.fact 44 (f := .glo "is_order_there") rfl)), F71.kp, rfl, b71, .nil, O_is_order_there⟩
  have O_columns_there := ok_columns_there (P := l.prog) (w := w) (base := base) B  F72
  have C_columns_there_0 : CallF l.prog w K mg base 1 "columns_there" false 2 [] r_columns_there := ⟨(He.ga K "columns_there"), _, _, _, (He.glo_ok X G (c.fact 43 (f := .glo "columns_there") rfl)), F72.kp, rfl, b72, .nil, O_columns_there⟩
  have O_columns := ok_columns (P := l.prog) (w := w) (base := base) B C_check_pack_0 C_check_heaps_heaps_0 C_columns_there_0 F73
  have C_columns_0 : CallF l.prog w K mg base 5 "columns" false 2 [] r_columns := ⟨(He.ga K "columns"), _, _, _, (He.glo_ok X G (c.fact 58 (f := .glo "columns") rfl)), F73.kp, rfl, b73, .nil, O_columns⟩
  have O_gathered_there := ok_gathered_there (P := l.prog) (w := w) (base := base) B C_columns_there_0 F74
  have C_gathered_there_0 : CallF l.prog w K mg base 2 "gathered_there" false 3 [] r_gathered_there := ⟨(He.ga K "gathered_there"), _, _, _, (He.glo_ok X G (c.fact 45 (f := .glo "gathered_there") rfl)), F74.kp, rfl, b74, .nil, O_gathered_there⟩
  have O_deal_move := ok_deal_move (P := l.prog) (w := w) (base := base) B C_check_many_packs_0 C_check_heaps_heaps_0 C_is_order_there_0 C_gathered_there_0 F75
  have C_deal_move_0 : CallF l.prog w K mg base 4 "deal_move" false 3 [] r_deal_move := ⟨(He.ga K "deal_move"), _, _, _, (He.glo_ok X G (c.fact 62 (f := .glo "deal_move") rfl)), F75.kp, rfl, b75, .nil, O_deal_move⟩
  have O_pack_of_ring := ok_pack_of_ring (P := l.prog) (w := w) (base := base) B C_check_ring_0 C_is_count_0 F76
  have C_pack_of_ring_0 : CallF l.prog w K mg base 5 "pack_of_ring" false 2 [] r_pack_of_ring := ⟨(He.ga K "pack_of_ring"), _, _, _, (He.glo_ok X G (c.fact 80 (f := .glo "pack_of_ring") rfl)), F76.kp, rfl, b76, .nil, O_pack_of_ring⟩
  have O_signs_there := ok_signs_there (P := l.prog) (w := w) (base := base) B C_check_pack_0 C_check_ranks_0 W_SIGNS C_colours_of_0 C_ranks_of_0 C_suits_of_0 F77
  have C_signs_there_0 : CallF l.prog w K mg base 7 "signs_there" false 3 [] r_signs_there := ⟨(He.ga K "signs_there"), _, _, _, (He.glo_ok X G (c.fact 50 (f := .glo "signs_there") rfl)), F77.kp, rfl, b77, .nil, O_signs_there⟩
  have O_tells_by := ok_tells_by (P := l.prog) (w := w) (base := base) B C_does_tell_0 C_signs_there_0 F78
  have C_tells_by_0 : CallF l.prog w K mg base 8 "tells_by" false 4 [] r_tells_by := ⟨(He.ga K "tells_by"), _, _, _, (He.glo_ok X G (c.fact 81 (f := .glo "tells_by") rfl)), F78.kp, rfl, b78, .nil, O_tells_by⟩
  have O_cards_for := ok_cards_for (P := l.prog) (w := w) (base := base) B C_places_for_0 C_signs_there_0 F79
  have C_cards_for_0 : CallF l.prog w K mg base 8 "cards_for" false 4 [] r_cards_for := ⟨(He.ga K "cards_for"), _, _, _, (He.glo_ok X G (c.fact 84 (f := .glo "cards_for") rfl)), F79.kp, rfl, b79, .nil, O_cards_for⟩
  have O__law_purse : ∀ o, ScrOk K o → FnOk l.prog w K mg base CX0 1 (He.ga K "_law_purse") _ ["script", "at"] (spRun mg true 2 (r__law_purse o)) := fun o hO => ok__law_purse hO B  F80
  have C__law_purse_0 : ∀ o, ScrOk K o → CallF l.prog w K mg base 1 "_law_purse" true 2 [] (r__law_purse o) := fun o hO => ⟨(He.ga K "_law_purse"), _, _, _, (He.glo_ok X G (c.fact 86 (f := .glo "_law_purse") rfl)), F80.kp, rfl, b80, .nil, O__law_purse o hO⟩
  have O__law_mixed := ok__law_mixed (P := l.prog) (w := w) (base := base) B  F81
  have C__law_mixed_0 : CallF l.prog w K mg base 1 "_law_mixed" false 3 [] r__law_mixed := ⟨(He.ga K "_law_mixed"), _, _, _, (He.glo_ok X G (c.fact 52 (f := .glo "_law_mixed") rfl)), F81.kp, rfl, b81, .nil, O__law_mixed⟩
  have O__law_draw0 := ok__law_draw0 (P := l.prog) (w := w) (base := base) B C__law_mixed_0 F82
  have O__law_draw := draw_ok O__law_draw0 draw_sem
  have C__law_draw_0 : CallF l.prog w K mg base 2 "_law_draw" false 2 [] r__law_draw := ⟨(He.ga K "_law_draw"), _, _, _, (He.glo_ok X G (c.fact 53 (f := .glo "_law_draw") rfl)), F82.kp, rfl, b82, .nil, O__law_draw⟩
  have O__law_one_of := ok__law_one_of (P := l.prog) (w := w) (base := base) B C__law_draw_0 F83
  have C__law_one_of_0 : CallF l.prog w K mg base 3 "_law_one_of" false 2 [] r__law_one_of := ⟨(He.ga K "_law_one_of"), _, _, _, (He.glo_ok X G (c.fact 77 (f := .glo "_law_one_of") rfl)), F83.kp, rfl, b83, .nil, O__law_one_of⟩
  have D84 : Def K mg "_law_exact" "_law_exact" s__law_exact ["mine", "theirs"] [] (He.ga K "_law_exact") _ [] := ⟨F84, (He.glo_ok X G (c.fact 54 (f := .glo "_law_exact") rfl)), b84, .nil⟩
  have C__law_exact_0 := D84.call (P := l.prog) (w := w) (base := base) (ok__law_exact B  D84 4)
  have O__law_shuffled := ok__law_shuffled (P := l.prog) (w := w) (base := base) B C__law_draw_0 F85
  have C__law_shuffled_0 : CallF l.prog w K mg base 3 "_law_shuffled" false 2 [] r__law_shuffled := ⟨(He.ga K "_law_shuffled"), _, _, _, (He.glo_ok X G (c.fact 55 (f := .glo "_law_shuffled") rfl)), F85.kp, rfl, b85, .nil, O__law_shuffled⟩
  have O__law_pack := ok__law_pack (P := l.prog) (w := w) (base := base) B C__law_draw_0 C__law_shuffled_0 F86
  have C__law_pack_0 : CallF l.prog w K mg base 4 "_law_pack" false 2 [] r__law_pack := ⟨(He.ga K "_law_pack"), _, _, _, (He.glo_ok X G (c.fact 56 (f := .glo "_law_pack") rfl)), F86.kp, rfl, b86, .nil, O__law_pack⟩
  have O__law_deals_right := ok__law_deals_right (P := l.prog) (w := w) (base := base) B C__law_draw_0 C__law_shuffled_0 C__law_pack_0 C_dealt_0 C_columns_0 C_heap_move_0 C_one_then_0 C_about_move_0 C_deal_move_0 C_moved_0 C_milk_move_0 C_monge_move_0 C_whole_pack_0 C_is_even_0 C_out_order_0 C_set_for_0 C_out_turn_0 C_last_place_0 C_spelled_0 C_set_to_spell_0 C_move_back_0 C_faro_move_0 C_order_of_0 F87
  have C__law_deals_right_0 : CallF l.prog w K mg base 7 "_law_deals_right" false 1 [] r__law_deals_right := ⟨(He.ga K "_law_deals_right"), _, _, _, (He.glo_ok X G (c.fact 87 (f := .glo "_law_deals_right") rfl)), F87.kp, rfl, b87, .nil, O__law_deals_right⟩
  have O__law_rings_right := ok__law_rings_right (P := l.prog) (w := w) (base := base) B C__law_one_of_0 C_least_ring_0 C_greedy_ring_0 C_pack_of_ring_0 C_suits_of_0 C_tells_by_0 C_does_tell_0 C__law_draw_0 C_cut_by_0 C_moved_0 C_cut_move_0 C_cards_for_0 C_places_for_0 C_all_in_turn_0 C_whole_pack_0 F88
  have C__law_rings_right_0 : CallF l.prog w K mg base 9 "_law_rings_right" false 1 [] r__law_rings_right := ⟨(He.ga K "_law_rings_right"), _, _, _, (He.glo_ok X G (c.fact 88 (f := .glo "_law_rings_right") rfl)), F88.kp, rfl, b88, .nil, O__law_rings_right⟩
  exact law_any fun o hO => ok_law hO B (C__law_purse_0 o hO) C__law_deals_right_0 C__law_rings_right_0 C__law_exact_0 C_order_of_0 C_monge_move_0 C_heap_move_0 F89
end TL
end
section
set_option Elab.async false
set_option linter.all false
set_option maxRecDepth 100000
set_option maxHeartbeats 0

open PySem PySem.W PySem.Calls PyProof.Rows
theorem PySem.Challenge.cw_suretricks_k97_across_deals_columns_shuf_holds : PySem.Challenge.rw_suretricks_k97_across_deals_columns_shuf.Holds := by
  w_on; o_law
  refine HandSHeadRun.head_any (r := OpenLaw.row PySem.Challenge.rw_suretricks_k97_across_deals_columns_shuf) (q := view (OpenLaw.row PySem.Challenge.rw_suretricks_k97_across_deals_columns_shuf).prog [131]) (H := TL.hkR) (ob := TL.obR) (M := 8000) (loose := TL.nmL_) (d := HandSHeadRun.topDef (OpenLaw.row PySem.Challenge.rw_suretricks_k97_across_deals_columns_shuf).prog 131) (kwd := []) TL.obR_eq
    (by kernel_rfl) (fun s => by kernel_rfl) TL.runR (by kernel_rfl) (by kernel_rfl) (by kernel_rfl) (by rfl) (by first | assumption | decide +kernel) (by decide +kernel) ⟨rfl, rfl, rfl, rfl, rfl, by decide +kernel⟩ ?hw ?hc
  case hw => w_witness2
  case hc =>
    refine L2.walk_ofE (l := PySem.Challenge.rw_suretricks_k97_across_deals_columns_shuf) (n := 63) (k := 10) (x := "script") (CX := L2.CX0) rfl (by decide) (by kernel_rfl) ⟨rfl, by decide, by decide⟩ ?F (fun _ _ _ _ z => z)
    intro w mg fa h Y G hmg0
    obtain ⟨K, KX, c⟩ := Y
    have hmg : mg ("law" : PySem.Str) = some (.ref fa) := by
      have e : (HandSHeadRun.topDef (OpenLaw.row PySem.Challenge.rw_suretricks_k97_across_deals_columns_shuf).prog 131).name = ("law" : PySem.Str) := by kernel_rfl
      rw [← e]
      exact hmg0
    obtain ⟨fd, hb, hF⟩ := TL.all_mk (l := PySem.Challenge.rw_suretricks_k97_across_deals_columns_shuf) (w := w) KX G hmg c.t.d c.more
    exact ⟨K, fd, TL.spLaw K, KX, hb, fun H a ns hl _ hS => ⟨a, ns, rfl, hS, hl, fun _ => rfl⟩, hF⟩
end
