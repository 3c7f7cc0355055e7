/- The table of this seat's functions. Written by txgen.py. -/
import Derived.Test.YthjahianafohjaaHSa0
import Derived.Test.YthjahianafohjaaHSa1
import Derived.Test.YthjahianafohjaaHSa2
import Derived.Test.YthjahianafohjaaHSa3
import Derived.Test.YthjahianafohjaaHSa4
import Derived.Test.YthjahianafohjaaHSa5
import Derived.Test.YthjahianafohjaaHSa6
import Derived.Test.YthjahianafohjaaHSa7
set_option linter.unusedSimpArgs false
set_option linter.unusedVariables false
namespace Go.Proofs.Ythjahianafohjaa
open Go.Sx
def tabS : List (Nat × Sx.Sys) := [(3, saleroomlaw36_RevealedExact_S), (4, saleroomlaw36_RevealedVerifies_S), (5, saleroomlaw36_RevealedSound_S), (6, saleroomlaw36_RevealedGains_S), (8, saleroomlaw37_ActivityExact_S), (10, saleroomlaw37_ActivityFunds_S), (12, saleroomlaw37_ActivityLeaves_S), (13, saleroomlaw36_RevealedTruthful_S), (14, saleroomlaw36_lives_S), (15, revealed_Check_S), (16, saleroomref36_Check_S), (17, saleroomref36_All_S), (18, saleroomref36_Verify_S), (19, revealed_Verify_S), (20, revealed_Gain_S), (21, saleroomref36_Gain_S), (22, saleroomlaw37_few_S), (23, saleroomref37_Moderate_S), (24, saleroomlaw37_awake_S), (28, saleroomref37_Eligibility_S), (29, activity_Exited_S), (30, saleroomref37_Exited_S), (31, activity_Affordable_S), (32, saleroomref37_Affordable_S), (35, saleroomref07_Check_S), (37, demandset_Path_S), (38, saleroomlaw36_contrary_S), (39, revealed_allValid_S), (40, revealed_lowered_S), (41, bundle_Cost_S), (43, saleroomref36_Cost_S), (44, saleroomref36_Valid_S), (45, saleroomref36_explains_S), (46, revealed_formed_S), (47, revealed_explains_S), (48, revealed_gain_S), (49, revealed_valid_S), (50, saleroomlaw37_sale_S), (51, activity_history_fits_S), (53, activity_history_either_S), (54, activity_has_S), (55, bundle_Check_S), (56, activity_Accept_1_S), (57, saleroomref37_bidder_S), (58, saleroomref37_points_S), (59, activity_history_points_S), (60, saleroomref37_cost_S), (63, revealed_cycle_S), (64, saleroomref07_Cost_S), (65, saleroomref07_Prices_S), (68, demandset_valid_S), (69, demandset_offers_utility_S), (70, demandset_counting_S), (71, bundle_All_S), (72, saleroomref08_Valid_S), (74, catalog_Points_1_S), (75, flatten_Value_S), (76, bundle_Count_S), (77, bundle_All_1_S), (78, bundle_each_S), (79, catalog_Check_S), (80, bundle_Within_S), (81, bundle_each_1_S), (82, bundle_following_S), (85, catalog_between_S), (87, bundle_Meet_S), (88, lexer_letter_S), (90, lexer_inner_S), (91, lexer_digit_S)]
def Tab (f : Nat) : Option Sx.Sys := lookN f tabS
theorem tab_ok : ∀ f S, Tab f = some S → SysOk Try.prog f S := by
  intro f S h
  have h := look_mem h
  simp only [tabS, List.mem_cons, Prod.mk.injEq, List.not_mem_nil, or_false] at h
  rcases h with ⟨rfl, rfl⟩ | ⟨rfl, rfl⟩ | ⟨rfl, rfl⟩ | ⟨rfl, rfl⟩ | ⟨rfl, rfl⟩ | ⟨rfl, rfl⟩ | ⟨rfl, rfl⟩ | ⟨rfl, rfl⟩ | ⟨rfl, rfl⟩ | ⟨rfl, rfl⟩ | ⟨rfl, rfl⟩ | ⟨rfl, rfl⟩ | ⟨rfl, rfl⟩ | ⟨rfl, rfl⟩ | ⟨rfl, rfl⟩ | ⟨rfl, rfl⟩ | ⟨rfl, rfl⟩ | ⟨rfl, rfl⟩ | ⟨rfl, rfl⟩ | ⟨rfl, rfl⟩ | ⟨rfl, rfl⟩ | ⟨rfl, rfl⟩ | ⟨rfl, rfl⟩ | ⟨rfl, rfl⟩ | ⟨rfl, rfl⟩ | ⟨rfl, rfl⟩ | ⟨rfl, rfl⟩ | ⟨rfl, rfl⟩ | ⟨rfl, rfl⟩ | ⟨rfl, rfl⟩ | ⟨rfl, rfl⟩ | ⟨rfl, rfl⟩ | ⟨rfl, rfl⟩ | ⟨rfl, rfl⟩ | ⟨rfl, rfl⟩ | ⟨rfl, rfl⟩ | ⟨rfl, rfl⟩ | ⟨rfl, rfl⟩ | ⟨rfl, rfl⟩ | ⟨rfl, rfl⟩ | ⟨rfl, rfl⟩ | ⟨rfl, rfl⟩ | ⟨rfl, rfl⟩ | ⟨rfl, rfl⟩ | ⟨rfl, rfl⟩ | ⟨rfl, rfl⟩ | ⟨rfl, rfl⟩ | ⟨rfl, rfl⟩ | ⟨rfl, rfl⟩ | ⟨rfl, rfl⟩ | ⟨rfl, rfl⟩ | ⟨rfl, rfl⟩ | ⟨rfl, rfl⟩ | ⟨rfl, rfl⟩ | ⟨rfl, rfl⟩ | ⟨rfl, rfl⟩ | ⟨rfl, rfl⟩ | ⟨rfl, rfl⟩ | ⟨rfl, rfl⟩ | ⟨rfl, rfl⟩ | ⟨rfl, rfl⟩ | ⟨rfl, rfl⟩ | ⟨rfl, rfl⟩ | ⟨rfl, rfl⟩ | ⟨rfl, rfl⟩ | ⟨rfl, rfl⟩ | ⟨rfl, rfl⟩ | ⟨rfl, rfl⟩ | ⟨rfl, rfl⟩
  · exact saleroomlaw36_RevealedExact_ok
  · exact saleroomlaw36_RevealedVerifies_ok
  · exact saleroomlaw36_RevealedSound_ok
  · exact saleroomlaw36_RevealedGains_ok
  · exact saleroomlaw37_ActivityExact_ok
  · exact saleroomlaw37_ActivityFunds_ok
  · exact saleroomlaw37_ActivityLeaves_ok
  · exact saleroomlaw36_RevealedTruthful_ok
  · exact saleroomlaw36_lives_ok
  · exact revealed_Check_ok
  · exact saleroomref36_Check_ok
  · exact saleroomref36_All_ok
  · exact saleroomref36_Verify_ok
  · exact revealed_Verify_ok
  · exact revealed_Gain_ok
  · exact saleroomref36_Gain_ok
  · exact saleroomlaw37_few_ok
  · exact saleroomref37_Moderate_ok
  · exact saleroomlaw37_awake_ok
  · exact saleroomref37_Eligibility_ok
  · exact activity_Exited_ok
  · exact saleroomref37_Exited_ok
  · exact activity_Affordable_ok
  · exact saleroomref37_Affordable_ok
  · exact saleroomref07_Check_ok
  · exact demandset_Path_ok
  · exact saleroomlaw36_contrary_ok
  · exact revealed_allValid_ok
  · exact revealed_lowered_ok
  · exact bundle_Cost_ok
  · exact saleroomref36_Cost_ok
  · exact saleroomref36_Valid_ok
  · exact saleroomref36_explains_ok
  · exact revealed_formed_ok
  · exact revealed_explains_ok
  · exact revealed_gain_ok
  · exact revealed_valid_ok
  · exact saleroomlaw37_sale_ok
  · exact activity_history_fits_ok
  · exact activity_history_either_ok
  · exact activity_has_ok
  · exact bundle_Check_ok
  · exact activity_Accept_1_ok
  · exact saleroomref37_bidder_ok
  · exact saleroomref37_points_ok
  · exact activity_history_points_ok
  · exact saleroomref37_cost_ok
  · exact revealed_cycle_ok
  · exact saleroomref07_Cost_ok
  · exact saleroomref07_Prices_ok
  · exact demandset_valid_ok
  · exact demandset_offers_utility_ok
  · exact demandset_counting_ok
  · exact bundle_All_ok
  · exact saleroomref08_Valid_ok
  · exact catalog_Points_1_ok
  · exact flatten_Value_ok
  · exact bundle_Count_ok
  · exact bundle_All_1_ok
  · exact bundle_each_ok
  · exact catalog_Check_ok
  · exact bundle_Within_ok
  · exact bundle_each_1_ok
  · exact bundle_following_ok
  · exact catalog_between_ok
  · exact bundle_Meet_ok
  · exact lexer_letter_ok
  · exact lexer_inner_ok
  · exact lexer_digit_ok
abbrev n_saleroomlaw36_RevealedExact : Nat := 3
abbrev n_saleroomlaw36_RevealedVerifies : Nat := 4
abbrev n_saleroomlaw36_RevealedSound : Nat := 5
abbrev n_saleroomlaw36_RevealedGains : Nat := 6
abbrev n_saleroomlaw37_ActivityExact : Nat := 8
abbrev n_saleroomlaw37_ActivityFunds : Nat := 10
abbrev n_saleroomlaw37_ActivityLeaves : Nat := 12
abbrev n_saleroomlaw36_RevealedTruthful : Nat := 13
abbrev n_saleroomlaw36_lives : Nat := 14
abbrev n_revealed_Check : Nat := 15
abbrev n_saleroomref36_Check : Nat := 16
abbrev n_saleroomref36_All : Nat := 17
abbrev n_saleroomref36_Verify : Nat := 18
abbrev n_revealed_Verify : Nat := 19
abbrev n_revealed_Gain : Nat := 20
abbrev n_saleroomref36_Gain : Nat := 21
abbrev n_saleroomlaw37_few : Nat := 22
abbrev n_saleroomref37_Moderate : Nat := 23
abbrev n_saleroomlaw37_awake : Nat := 24
abbrev n_saleroomref37_Eligibility : Nat := 28
abbrev n_activity_Exited : Nat := 29
abbrev n_saleroomref37_Exited : Nat := 30
abbrev n_activity_Affordable : Nat := 31
abbrev n_saleroomref37_Affordable : Nat := 32
abbrev n_saleroomref07_Check : Nat := 35
abbrev n_demandset_Path : Nat := 37
abbrev n_saleroomlaw36_contrary : Nat := 38
abbrev n_revealed_allValid : Nat := 39
abbrev n_revealed_lowered : Nat := 40
abbrev n_bundle_Cost : Nat := 41
abbrev n_saleroomref36_Cost : Nat := 43
abbrev n_saleroomref36_Valid : Nat := 44
abbrev n_saleroomref36_explains : Nat := 45
abbrev n_revealed_formed : Nat := 46
abbrev n_revealed_explains : Nat := 47
abbrev n_revealed_gain : Nat := 48
abbrev n_revealed_valid : Nat := 49
abbrev n_saleroomlaw37_sale : Nat := 50
abbrev n_activity_history_fits : Nat := 51
abbrev n_activity_history_either : Nat := 53
abbrev n_activity_has : Nat := 54
abbrev n_bundle_Check : Nat := 55
abbrev n_activity_Accept_1 : Nat := 56
abbrev n_saleroomref37_bidder : Nat := 57
abbrev n_saleroomref37_points : Nat := 58
abbrev n_activity_history_points : Nat := 59
abbrev n_saleroomref37_cost : Nat := 60
abbrev n_revealed_cycle : Nat := 63
abbrev n_saleroomref07_Cost : Nat := 64
abbrev n_saleroomref07_Prices : Nat := 65
abbrev n_demandset_valid : Nat := 68
abbrev n_demandset_offers_utility : Nat := 69
abbrev n_demandset_counting : Nat := 70
abbrev n_bundle_All : Nat := 71
abbrev n_saleroomref08_Valid : Nat := 72
abbrev n_catalog_Points_1 : Nat := 74
abbrev n_flatten_Value : Nat := 75
abbrev n_bundle_Count : Nat := 76
abbrev n_bundle_All_1 : Nat := 77
abbrev n_bundle_each : Nat := 78
abbrev n_catalog_Check : Nat := 79
abbrev n_bundle_Within : Nat := 80
abbrev n_bundle_each_1 : Nat := 81
abbrev n_bundle_following : Nat := 82
abbrev n_catalog_between : Nat := 85
abbrev n_bundle_Meet : Nat := 87
abbrev n_lexer_letter : Nat := 88
abbrev n_lexer_inner : Nat := 90
abbrev n_lexer_digit : Nat := 91
theorem tab_saleroomlaw36_RevealedExact : Tab 3 = some saleroomlaw36_RevealedExact_S := by kernel_rfl
theorem tab_saleroomlaw36_RevealedVerifies : Tab 4 = some saleroomlaw36_RevealedVerifies_S := by kernel_rfl
theorem tab_saleroomlaw36_RevealedSound : Tab 5 = some saleroomlaw36_RevealedSound_S := by kernel_rfl
theorem tab_saleroomlaw36_RevealedGains : Tab 6 = some saleroomlaw36_RevealedGains_S := by kernel_rfl
theorem tab_saleroomlaw37_ActivityExact : Tab 8 = some saleroomlaw37_ActivityExact_S := by kernel_rfl
theorem tab_saleroomlaw37_ActivityFunds : Tab 10 = some saleroomlaw37_ActivityFunds_S := by kernel_rfl
theorem tab_saleroomlaw37_ActivityLeaves : Tab 12 = some saleroomlaw37_ActivityLeaves_S := by kernel_rfl
theorem tab_saleroomlaw36_RevealedTruthful : Tab 13 = some saleroomlaw36_RevealedTruthful_S := by kernel_rfl
theorem tab_saleroomlaw36_lives : Tab 14 = some saleroomlaw36_lives_S := by kernel_rfl
theorem tab_revealed_Check : Tab 15 = some revealed_Check_S := by kernel_rfl
theorem tab_saleroomref36_Check : Tab 16 = some saleroomref36_Check_S := by kernel_rfl
theorem tab_saleroomref36_All : Tab 17 = some saleroomref36_All_S := by kernel_rfl
theorem tab_saleroomref36_Verify : Tab 18 = some saleroomref36_Verify_S := by kernel_rfl
theorem tab_revealed_Verify : Tab 19 = some revealed_Verify_S := by kernel_rfl
theorem tab_revealed_Gain : Tab 20 = some revealed_Gain_S := by kernel_rfl
theorem tab_saleroomref36_Gain : Tab 21 = some saleroomref36_Gain_S := by kernel_rfl
theorem tab_saleroomlaw37_few : Tab 22 = some saleroomlaw37_few_S := by kernel_rfl
theorem tab_saleroomref37_Moderate : Tab 23 = some saleroomref37_Moderate_S := by kernel_rfl
theorem tab_saleroomlaw37_awake : Tab 24 = some saleroomlaw37_awake_S := by kernel_rfl
theorem tab_saleroomref37_Eligibility : Tab 28 = some saleroomref37_Eligibility_S := by kernel_rfl
theorem tab_activity_Exited : Tab 29 = some activity_Exited_S := by kernel_rfl
theorem tab_saleroomref37_Exited : Tab 30 = some saleroomref37_Exited_S := by kernel_rfl
theorem tab_activity_Affordable : Tab 31 = some activity_Affordable_S := by kernel_rfl
theorem tab_saleroomref37_Affordable : Tab 32 = some saleroomref37_Affordable_S := by kernel_rfl
theorem tab_saleroomref07_Check : Tab 35 = some saleroomref07_Check_S := by kernel_rfl
theorem tab_demandset_Path : Tab 37 = some demandset_Path_S := by kernel_rfl
theorem tab_saleroomlaw36_contrary : Tab 38 = some saleroomlaw36_contrary_S := by kernel_rfl
theorem tab_revealed_allValid : Tab 39 = some revealed_allValid_S := by kernel_rfl
theorem tab_revealed_lowered : Tab 40 = some revealed_lowered_S := by kernel_rfl
theorem tab_bundle_Cost : Tab 41 = some bundle_Cost_S := by kernel_rfl
theorem tab_saleroomref36_Cost : Tab 43 = some saleroomref36_Cost_S := by kernel_rfl
theorem tab_saleroomref36_Valid : Tab 44 = some saleroomref36_Valid_S := by kernel_rfl
theorem tab_saleroomref36_explains : Tab 45 = some saleroomref36_explains_S := by kernel_rfl
theorem tab_revealed_formed : Tab 46 = some revealed_formed_S := by kernel_rfl
theorem tab_revealed_explains : Tab 47 = some revealed_explains_S := by kernel_rfl
theorem tab_revealed_gain : Tab 48 = some revealed_gain_S := by kernel_rfl
theorem tab_revealed_valid : Tab 49 = some revealed_valid_S := by kernel_rfl
theorem tab_saleroomlaw37_sale : Tab 50 = some saleroomlaw37_sale_S := by kernel_rfl
theorem tab_activity_history_fits : Tab 51 = some activity_history_fits_S := by kernel_rfl
theorem tab_activity_history_either : Tab 53 = some activity_history_either_S := by kernel_rfl
theorem tab_activity_has : Tab 54 = some activity_has_S := by kernel_rfl
theorem tab_bundle_Check : Tab 55 = some bundle_Check_S := by kernel_rfl
theorem tab_activity_Accept_1 : Tab 56 = some activity_Accept_1_S := by kernel_rfl
theorem tab_saleroomref37_bidder : Tab 57 = some saleroomref37_bidder_S := by kernel_rfl
theorem tab_saleroomref37_points : Tab 58 = some saleroomref37_points_S := by kernel_rfl
theorem tab_activity_history_points : Tab 59 = some activity_history_points_S := by kernel_rfl
theorem tab_saleroomref37_cost : Tab 60 = some saleroomref37_cost_S := by kernel_rfl
theorem tab_revealed_cycle : Tab 63 = some revealed_cycle_S := by kernel_rfl
theorem tab_saleroomref07_Cost : Tab 64 = some saleroomref07_Cost_S := by kernel_rfl
theorem tab_saleroomref07_Prices : Tab 65 = some saleroomref07_Prices_S := by kernel_rfl
theorem tab_demandset_valid : Tab 68 = some demandset_valid_S := by kernel_rfl
theorem tab_demandset_offers_utility : Tab 69 = some demandset_offers_utility_S := by kernel_rfl
theorem tab_demandset_counting : Tab 70 = some demandset_counting_S := by kernel_rfl
theorem tab_bundle_All : Tab 71 = some bundle_All_S := by kernel_rfl
theorem tab_saleroomref08_Valid : Tab 72 = some saleroomref08_Valid_S := by kernel_rfl
theorem tab_catalog_Points_1 : Tab 74 = some catalog_Points_1_S := by kernel_rfl
theorem tab_flatten_Value : Tab 75 = some flatten_Value_S := by kernel_rfl
theorem tab_bundle_Count : Tab 76 = some bundle_Count_S := by kernel_rfl
theorem tab_bundle_All_1 : Tab 77 = some bundle_All_1_S := by kernel_rfl
theorem tab_bundle_each : Tab 78 = some bundle_each_S := by kernel_rfl
theorem tab_catalog_Check : Tab 79 = some catalog_Check_S := by kernel_rfl
theorem tab_bundle_Within : Tab 80 = some bundle_Within_S := by kernel_rfl
theorem tab_bundle_each_1 : Tab 81 = some bundle_each_1_S := by kernel_rfl
theorem tab_bundle_following : Tab 82 = some bundle_following_S := by kernel_rfl
theorem tab_catalog_between : Tab 85 = some catalog_between_S := by kernel_rfl
theorem tab_bundle_Meet : Tab 87 = some bundle_Meet_S := by kernel_rfl
theorem tab_lexer_letter : Tab 88 = some lexer_letter_S := by kernel_rfl
theorem tab_lexer_inner : Tab 90 = some lexer_inner_S := by kernel_rfl
theorem tab_lexer_digit : Tab 91 = some lexer_digit_S := by kernel_rfl
end Go.Proofs.Ythjahianafohjaa
