/- The table of this seat's functions. Written by txgen.py. -/
import Derived.Test.YtbmfegliomkkfaaHSa0
import Derived.Test.YtbmfegliomkkfaaHSa1
import Derived.Test.YtbmfegliomkkfaaHSa2
import Derived.Test.YtbmfegliomkkfaaHSa3
import Derived.Test.YtbmfegliomkkfaaHSa4
import Derived.Test.YtbmfegliomkkfaaHSa5
import Derived.Test.YtbmfegliomkkfaaHSa6
import Derived.Test.YtbmfegliomkkfaaHSa7
set_option linter.unusedSimpArgs false
set_option linter.unusedVariables false
namespace Go.Proofs.Ytbmfegliomkkfaa
open Go.Sx
def tabS : List (Nat × Sx.Sys) := [(3, saleroomlaw15_DemandsetUtility_S), (4, saleroomlaw15_DemandsetBest_S), (5, saleroomlaw15_DemandsetOptimal_S), (7, saleroomlaw15_DemandsetPath_S), (8, saleroomlaw11_ExprChecks_S), (9, saleroomlaw11_ExprSizes_S), (10, saleroomlaw11_ExprEqual_S), (11, saleroomlaw11_ExprAtoms_S), (12, saleroomlaw11_ExprCopies_S), (13, saleroomlaw11_ExprMaps_S), (14, saleroomlaw11_ExprParts_S), (15, saleroomlaw15_lives_S), (16, demandset_Utility_S), (17, saleroomref15_Utility_S), (18, saleroomref07_Count_S), (20, saleroomref15_Best_S), (22, saleroomref15_Demand_S), (23, saleroomref07_Prices_S), (24, bundle_Within_S), (26, demandset_Path_S), (27, saleroomref15_Path_S), (28, saleroomlaw11_few_S), (29, expr_Check_S), (30, saleroomref11_Check_S), (31, saleroomlaw11_awake_S), (32, expr_Size_S), (33, saleroomref11_Size_S), (34, expr_Depth_S), (35, saleroomref11_Depth_S), (36, expr_Products_S), (37, saleroomref11_Products_S), (38, expr_Equal_S), (39, saleroomref11_Equal_S), (40, expr_Atoms_S), (41, saleroomref11_Same_S), (42, saleroomref11_Atoms_S), (43, expr_Copy_S), (44, saleroomlaw11_spoil_S), (45, expr_Map_S), (46, saleroomlaw11_ExprMaps_1_S), (47, saleroomlaw11_change_S), (48, saleroomlaw11_ExprMaps_2_S), (49, saleroomlaw11_mapped_S), (50, demandset_valid_S), (51, bundle_Check_S), (52, demandset_offers_utility_S), (53, demandset_counting_S), (54, saleroomref07_Check_S), (55, saleroomref15_Value_S), (56, saleroomref07_Cost_S), (57, bundle_All_S), (58, bundle_Meet_S), (59, expr_Check_1_S), (60, expr_walker_walk_S), (61, expr_Check_2_S), (62, expr_form_S), (63, expr_ranged_S), (64, saleroomref11_Preorder_S), (65, saleroomref11_formed_S), (66, saleroomref11_ranged_S), (67, saleroomlaw11_awake_1_S), (68, expr_Size_1_S), (69, expr_Products_1_S), (70, bundle_Join_S), (71, expr_Atoms_1_S), (72, expr_Copy_1_S), (73, flatten_Value_S), (74, bundle_Cost_S), (75, saleroomref07_Within_S), (76, bundle_Count_S), (77, bundle_All_1_S), (78, bundle_each_S), (79, bundle_Total_S), (80, saleroomref07_Total_S), (81, bundle_each_1_S), (82, bundle_following_S)]
def Tab (f : Nat) : Option Sx.Sys := lookN f tabS
theorem tab_ok : ∀ f S, Tab f = some S → SysOk Try.prog f S := by
  intro f S h
  have h := look_mem h
  simp only [tabS, List.mem_cons, Prod.mk.injEq, List.not_mem_nil, or_false] at h
  rcases h with ⟨rfl, rfl⟩ | ⟨rfl, rfl⟩ | ⟨rfl, rfl⟩ | ⟨rfl, rfl⟩ | ⟨rfl, rfl⟩ | ⟨rfl, rfl⟩ | ⟨rfl, rfl⟩ | ⟨rfl, rfl⟩ | ⟨rfl, rfl⟩ | ⟨rfl, rfl⟩ | ⟨rfl, rfl⟩ | ⟨rfl, rfl⟩ | ⟨rfl, rfl⟩ | ⟨rfl, rfl⟩ | ⟨rfl, rfl⟩ | ⟨rfl, rfl⟩ | ⟨rfl, rfl⟩ | ⟨rfl, rfl⟩ | ⟨rfl, rfl⟩ | ⟨rfl, rfl⟩ | ⟨rfl, rfl⟩ | ⟨rfl, rfl⟩ | ⟨rfl, rfl⟩ | ⟨rfl, rfl⟩ | ⟨rfl, rfl⟩ | ⟨rfl, rfl⟩ | ⟨rfl, rfl⟩ | ⟨rfl, rfl⟩ | ⟨rfl, rfl⟩ | ⟨rfl, rfl⟩ | ⟨rfl, rfl⟩ | ⟨rfl, rfl⟩ | ⟨rfl, rfl⟩ | ⟨rfl, rfl⟩ | ⟨rfl, rfl⟩ | ⟨rfl, rfl⟩ | ⟨rfl, rfl⟩ | ⟨rfl, rfl⟩ | ⟨rfl, rfl⟩ | ⟨rfl, rfl⟩ | ⟨rfl, rfl⟩ | ⟨rfl, rfl⟩ | ⟨rfl, rfl⟩ | ⟨rfl, rfl⟩ | ⟨rfl, rfl⟩ | ⟨rfl, rfl⟩ | ⟨rfl, rfl⟩ | ⟨rfl, rfl⟩ | ⟨rfl, rfl⟩ | ⟨rfl, rfl⟩ | ⟨rfl, rfl⟩ | ⟨rfl, rfl⟩ | ⟨rfl, rfl⟩ | ⟨rfl, rfl⟩ | ⟨rfl, rfl⟩ | ⟨rfl, rfl⟩ | ⟨rfl, rfl⟩ | ⟨rfl, rfl⟩ | ⟨rfl, rfl⟩ | ⟨rfl, rfl⟩ | ⟨rfl, rfl⟩ | ⟨rfl, rfl⟩ | ⟨rfl, rfl⟩ | ⟨rfl, rfl⟩ | ⟨rfl, rfl⟩ | ⟨rfl, rfl⟩ | ⟨rfl, rfl⟩ | ⟨rfl, rfl⟩ | ⟨rfl, rfl⟩ | ⟨rfl, rfl⟩ | ⟨rfl, rfl⟩ | ⟨rfl, rfl⟩ | ⟨rfl, rfl⟩ | ⟨rfl, rfl⟩ | ⟨rfl, rfl⟩ | ⟨rfl, rfl⟩
  · exact saleroomlaw15_DemandsetUtility_ok
  · exact saleroomlaw15_DemandsetBest_ok
  · exact saleroomlaw15_DemandsetOptimal_ok
  · exact saleroomlaw15_DemandsetPath_ok
  · exact saleroomlaw11_ExprChecks_ok
  · exact saleroomlaw11_ExprSizes_ok
  · exact saleroomlaw11_ExprEqual_ok
  · exact saleroomlaw11_ExprAtoms_ok
  · exact saleroomlaw11_ExprCopies_ok
  · exact saleroomlaw11_ExprMaps_ok
  · exact saleroomlaw11_ExprParts_ok
  · exact saleroomlaw15_lives_ok
  · exact demandset_Utility_ok
  · exact saleroomref15_Utility_ok
  · exact saleroomref07_Count_ok
  · exact saleroomref15_Best_ok
  · exact saleroomref15_Demand_ok
  · exact saleroomref07_Prices_ok
  · exact bundle_Within_ok
  · exact demandset_Path_ok
  · exact saleroomref15_Path_ok
  · exact saleroomlaw11_few_ok
  · exact expr_Check_ok
  · exact saleroomref11_Check_ok
  · exact saleroomlaw11_awake_ok
  · exact expr_Size_ok
  · exact saleroomref11_Size_ok
  · exact expr_Depth_ok
  · exact saleroomref11_Depth_ok
  · exact expr_Products_ok
  · exact saleroomref11_Products_ok
  · exact expr_Equal_ok
  · exact saleroomref11_Equal_ok
  · exact expr_Atoms_ok
  · exact saleroomref11_Same_ok
  · exact saleroomref11_Atoms_ok
  · exact expr_Copy_ok
  · exact saleroomlaw11_spoil_ok
  · exact expr_Map_ok
  · exact saleroomlaw11_ExprMaps_1_ok
  · exact saleroomlaw11_change_ok
  · exact saleroomlaw11_ExprMaps_2_ok
  · exact saleroomlaw11_mapped_ok
  · exact demandset_valid_ok
  · exact bundle_Check_ok
  · exact demandset_offers_utility_ok
  · exact demandset_counting_ok
  · exact saleroomref07_Check_ok
  · exact saleroomref15_Value_ok
  · exact saleroomref07_Cost_ok
  · exact bundle_All_ok
  · exact bundle_Meet_ok
  · exact expr_Check_1_ok
  · exact expr_walker_walk_ok
  · exact expr_Check_2_ok
  · exact expr_form_ok
  · exact expr_ranged_ok
  · exact saleroomref11_Preorder_ok
  · exact saleroomref11_formed_ok
  · exact saleroomref11_ranged_ok
  · exact saleroomlaw11_awake_1_ok
  · exact expr_Size_1_ok
  · exact expr_Products_1_ok
  · exact bundle_Join_ok
  · exact expr_Atoms_1_ok
  · exact expr_Copy_1_ok
  · exact flatten_Value_ok
  · exact bundle_Cost_ok
  · exact saleroomref07_Within_ok
  · exact bundle_Count_ok
  · exact bundle_All_1_ok
  · exact bundle_each_ok
  · exact bundle_Total_ok
  · exact saleroomref07_Total_ok
  · exact bundle_each_1_ok
  · exact bundle_following_ok
abbrev n_saleroomlaw15_DemandsetUtility : Nat := 3
abbrev n_saleroomlaw15_DemandsetBest : Nat := 4
abbrev n_saleroomlaw15_DemandsetOptimal : Nat := 5
abbrev n_saleroomlaw15_DemandsetPath : Nat := 7
abbrev n_saleroomlaw11_ExprChecks : Nat := 8
abbrev n_saleroomlaw11_ExprSizes : Nat := 9
abbrev n_saleroomlaw11_ExprEqual : Nat := 10
abbrev n_saleroomlaw11_ExprAtoms : Nat := 11
abbrev n_saleroomlaw11_ExprCopies : Nat := 12
abbrev n_saleroomlaw11_ExprMaps : Nat := 13
abbrev n_saleroomlaw11_ExprParts : Nat := 14
abbrev n_saleroomlaw15_lives : Nat := 15
abbrev n_demandset_Utility : Nat := 16
abbrev n_saleroomref15_Utility : Nat := 17
abbrev n_saleroomref07_Count : Nat := 18
abbrev n_saleroomref15_Best : Nat := 20
abbrev n_saleroomref15_Demand : Nat := 22
abbrev n_saleroomref07_Prices : Nat := 23
abbrev n_bundle_Within : Nat := 24
abbrev n_demandset_Path : Nat := 26
abbrev n_saleroomref15_Path : Nat := 27
abbrev n_saleroomlaw11_few : Nat := 28
abbrev n_expr_Check : Nat := 29
abbrev n_saleroomref11_Check : Nat := 30
abbrev n_saleroomlaw11_awake : Nat := 31
abbrev n_expr_Size : Nat := 32
abbrev n_saleroomref11_Size : Nat := 33
abbrev n_expr_Depth : Nat := 34
abbrev n_saleroomref11_Depth : Nat := 35
abbrev n_expr_Products : Nat := 36
abbrev n_saleroomref11_Products : Nat := 37
abbrev n_expr_Equal : Nat := 38
abbrev n_saleroomref11_Equal : Nat := 39
abbrev n_expr_Atoms : Nat := 40
abbrev n_saleroomref11_Same : Nat := 41
abbrev n_saleroomref11_Atoms : Nat := 42
abbrev n_expr_Copy : Nat := 43
abbrev n_saleroomlaw11_spoil : Nat := 44
abbrev n_expr_Map : Nat := 45
abbrev n_saleroomlaw11_ExprMaps_1 : Nat := 46
abbrev n_saleroomlaw11_change : Nat := 47
abbrev n_saleroomlaw11_ExprMaps_2 : Nat := 48
abbrev n_saleroomlaw11_mapped : Nat := 49
abbrev n_demandset_valid : Nat := 50
abbrev n_bundle_Check : Nat := 51
abbrev n_demandset_offers_utility : Nat := 52
abbrev n_demandset_counting : Nat := 53
abbrev n_saleroomref07_Check : Nat := 54
abbrev n_saleroomref15_Value : Nat := 55
abbrev n_saleroomref07_Cost : Nat := 56
abbrev n_bundle_All : Nat := 57
abbrev n_bundle_Meet : Nat := 58
abbrev n_expr_Check_1 : Nat := 59
abbrev n_expr_walker_walk : Nat := 60
abbrev n_expr_Check_2 : Nat := 61
abbrev n_expr_form : Nat := 62
abbrev n_expr_ranged : Nat := 63
abbrev n_saleroomref11_Preorder : Nat := 64
abbrev n_saleroomref11_formed : Nat := 65
abbrev n_saleroomref11_ranged : Nat := 66
abbrev n_saleroomlaw11_awake_1 : Nat := 67
abbrev n_expr_Size_1 : Nat := 68
abbrev n_expr_Products_1 : Nat := 69
abbrev n_bundle_Join : Nat := 70
abbrev n_expr_Atoms_1 : Nat := 71
abbrev n_expr_Copy_1 : Nat := 72
abbrev n_flatten_Value : Nat := 73
abbrev n_bundle_Cost : Nat := 74
abbrev n_saleroomref07_Within : Nat := 75
abbrev n_bundle_Count : Nat := 76
abbrev n_bundle_All_1 : Nat := 77
abbrev n_bundle_each : Nat := 78
abbrev n_bundle_Total : Nat := 79
abbrev n_saleroomref07_Total : Nat := 80
abbrev n_bundle_each_1 : Nat := 81
abbrev n_bundle_following : Nat := 82
theorem tab_saleroomlaw15_DemandsetUtility : Tab 3 = some saleroomlaw15_DemandsetUtility_S := by kernel_rfl
theorem tab_saleroomlaw15_DemandsetBest : Tab 4 = some saleroomlaw15_DemandsetBest_S := by kernel_rfl
theorem tab_saleroomlaw15_DemandsetOptimal : Tab 5 = some saleroomlaw15_DemandsetOptimal_S := by kernel_rfl
theorem tab_saleroomlaw15_DemandsetPath : Tab 7 = some saleroomlaw15_DemandsetPath_S := by kernel_rfl
theorem tab_saleroomlaw11_ExprChecks : Tab 8 = some saleroomlaw11_ExprChecks_S := by kernel_rfl
theorem tab_saleroomlaw11_ExprSizes : Tab 9 = some saleroomlaw11_ExprSizes_S := by kernel_rfl
theorem tab_saleroomlaw11_ExprEqual : Tab 10 = some saleroomlaw11_ExprEqual_S := by kernel_rfl
theorem tab_saleroomlaw11_ExprAtoms : Tab 11 = some saleroomlaw11_ExprAtoms_S := by kernel_rfl
theorem tab_saleroomlaw11_ExprCopies : Tab 12 = some saleroomlaw11_ExprCopies_S := by kernel_rfl
theorem tab_saleroomlaw11_ExprMaps : Tab 13 = some saleroomlaw11_ExprMaps_S := by kernel_rfl
theorem tab_saleroomlaw11_ExprParts : Tab 14 = some saleroomlaw11_ExprParts_S := by kernel_rfl
theorem tab_saleroomlaw15_lives : Tab 15 = some saleroomlaw15_lives_S := by kernel_rfl
theorem tab_demandset_Utility : Tab 16 = some demandset_Utility_S := by kernel_rfl
theorem tab_saleroomref15_Utility : Tab 17 = some saleroomref15_Utility_S := by kernel_rfl
theorem tab_saleroomref07_Count : Tab 18 = some saleroomref07_Count_S := by kernel_rfl
theorem tab_saleroomref15_Best : Tab 20 = some saleroomref15_Best_S := by kernel_rfl
theorem tab_saleroomref15_Demand : Tab 22 = some saleroomref15_Demand_S := by kernel_rfl
theorem tab_saleroomref07_Prices : Tab 23 = some saleroomref07_Prices_S := by kernel_rfl
theorem tab_bundle_Within : Tab 24 = some bundle_Within_S := by kernel_rfl
theorem tab_demandset_Path : Tab 26 = some demandset_Path_S := by kernel_rfl
theorem tab_saleroomref15_Path : Tab 27 = some saleroomref15_Path_S := by kernel_rfl
theorem tab_saleroomlaw11_few : Tab 28 = some saleroomlaw11_few_S := by kernel_rfl
theorem tab_expr_Check : Tab 29 = some expr_Check_S := by kernel_rfl
theorem tab_saleroomref11_Check : Tab 30 = some saleroomref11_Check_S := by kernel_rfl
theorem tab_saleroomlaw11_awake : Tab 31 = some saleroomlaw11_awake_S := by kernel_rfl
theorem tab_expr_Size : Tab 32 = some expr_Size_S := by kernel_rfl
theorem tab_saleroomref11_Size : Tab 33 = some saleroomref11_Size_S := by kernel_rfl
theorem tab_expr_Depth : Tab 34 = some expr_Depth_S := by kernel_rfl
theorem tab_saleroomref11_Depth : Tab 35 = some saleroomref11_Depth_S := by kernel_rfl
theorem tab_expr_Products : Tab 36 = some expr_Products_S := by kernel_rfl
theorem tab_saleroomref11_Products : Tab 37 = some saleroomref11_Products_S := by kernel_rfl
theorem tab_expr_Equal : Tab 38 = some expr_Equal_S := by kernel_rfl
theorem tab_saleroomref11_Equal : Tab 39 = some saleroomref11_Equal_S := by kernel_rfl
theorem tab_expr_Atoms : Tab 40 = some expr_Atoms_S := by kernel_rfl
theorem tab_saleroomref11_Same : Tab 41 = some saleroomref11_Same_S := by kernel_rfl
theorem tab_saleroomref11_Atoms : Tab 42 = some saleroomref11_Atoms_S := by kernel_rfl
theorem tab_expr_Copy : Tab 43 = some expr_Copy_S := by kernel_rfl
theorem tab_saleroomlaw11_spoil : Tab 44 = some saleroomlaw11_spoil_S := by kernel_rfl
theorem tab_expr_Map : Tab 45 = some expr_Map_S := by kernel_rfl
theorem tab_saleroomlaw11_ExprMaps_1 : Tab 46 = some saleroomlaw11_ExprMaps_1_S := by kernel_rfl
theorem tab_saleroomlaw11_change : Tab 47 = some saleroomlaw11_change_S := by kernel_rfl
theorem tab_saleroomlaw11_ExprMaps_2 : Tab 48 = some saleroomlaw11_ExprMaps_2_S := by kernel_rfl
theorem tab_saleroomlaw11_mapped : Tab 49 = some saleroomlaw11_mapped_S := by kernel_rfl
theorem tab_demandset_valid : Tab 50 = some demandset_valid_S := by kernel_rfl
theorem tab_bundle_Check : Tab 51 = some bundle_Check_S := by kernel_rfl
theorem tab_demandset_offers_utility : Tab 52 = some demandset_offers_utility_S := by kernel_rfl
theorem tab_demandset_counting : Tab 53 = some demandset_counting_S := by kernel_rfl
theorem tab_saleroomref07_Check : Tab 54 = some saleroomref07_Check_S := by kernel_rfl
theorem tab_saleroomref15_Value : Tab 55 = some saleroomref15_Value_S := by kernel_rfl
theorem tab_saleroomref07_Cost : Tab 56 = some saleroomref07_Cost_S := by kernel_rfl
theorem tab_bundle_All : Tab 57 = some bundle_All_S := by kernel_rfl
theorem tab_bundle_Meet : Tab 58 = some bundle_Meet_S := by kernel_rfl
theorem tab_expr_Check_1 : Tab 59 = some expr_Check_1_S := by kernel_rfl
theorem tab_expr_walker_walk : Tab 60 = some expr_walker_walk_S := by kernel_rfl
theorem tab_expr_Check_2 : Tab 61 = some expr_Check_2_S := by kernel_rfl
theorem tab_expr_form : Tab 62 = some expr_form_S := by kernel_rfl
theorem tab_expr_ranged : Tab 63 = some expr_ranged_S := by kernel_rfl
theorem tab_saleroomref11_Preorder : Tab 64 = some saleroomref11_Preorder_S := by kernel_rfl
theorem tab_saleroomref11_formed : Tab 65 = some saleroomref11_formed_S := by kernel_rfl
theorem tab_saleroomref11_ranged : Tab 66 = some saleroomref11_ranged_S := by kernel_rfl
theorem tab_saleroomlaw11_awake_1 : Tab 67 = some saleroomlaw11_awake_1_S := by kernel_rfl
theorem tab_expr_Size_1 : Tab 68 = some expr_Size_1_S := by kernel_rfl
theorem tab_expr_Products_1 : Tab 69 = some expr_Products_1_S := by kernel_rfl
theorem tab_bundle_Join : Tab 70 = some bundle_Join_S := by kernel_rfl
theorem tab_expr_Atoms_1 : Tab 71 = some expr_Atoms_1_S := by kernel_rfl
theorem tab_expr_Copy_1 : Tab 72 = some expr_Copy_1_S := by kernel_rfl
theorem tab_flatten_Value : Tab 73 = some flatten_Value_S := by kernel_rfl
theorem tab_bundle_Cost : Tab 74 = some bundle_Cost_S := by kernel_rfl
theorem tab_saleroomref07_Within : Tab 75 = some saleroomref07_Within_S := by kernel_rfl
theorem tab_bundle_Count : Tab 76 = some bundle_Count_S := by kernel_rfl
theorem tab_bundle_All_1 : Tab 77 = some bundle_All_1_S := by kernel_rfl
theorem tab_bundle_each : Tab 78 = some bundle_each_S := by kernel_rfl
theorem tab_bundle_Total : Tab 79 = some bundle_Total_S := by kernel_rfl
theorem tab_saleroomref07_Total : Tab 80 = some saleroomref07_Total_S := by kernel_rfl
theorem tab_bundle_each_1 : Tab 81 = some bundle_each_1_S := by kernel_rfl
theorem tab_bundle_following : Tab 82 = some bundle_following_S := by kernel_rfl
end Go.Proofs.Ytbmfegliomkkfaa
