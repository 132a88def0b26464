import Derived.Test.YtpipachmngdegaaGreatRealmSaysProofG8
import Derived.Test.YtpipachmngdegaaGreatProg
import Derived.Shelf.Abstract
section
/-
  Facts on the types and the functions of this seat, each a closed computation.
-/
namespace Go.Proofs.YtpipachmngdegaaGreat
open Go Go.RowKit
set_option linter.unusedVariables false
set_option maxRecDepth 100000
theorem mixed : Tryz.prog.follows .mixedOrders = true := by kernel_rfl
theorem tOne_1 : tOne Tryz.prog 1 = true := by kernel_rfl
theorem tZero_1 : tZero Tryz.prog 1 = some (.nilFunc) := by kernel_rfl
theorem tOne_2 : tOne Tryz.prog 2 = true := by kernel_rfl
theorem tZero_2 : tZero Tryz.prog 2 = some (.int .i64 0) := by kernel_rfl
theorem con_2 : Tryz.prog.concrete 2 = true := by kernel_rfl
theorem tOne_3 : tOne Tryz.prog 3 = true := by kernel_rfl
theorem tZero_3 : tZero Tryz.prog 3 = some (.int .i64 0) := by kernel_rfl
theorem con_3 : Tryz.prog.concrete 3 = true := by kernel_rfl
theorem tOne_4 : tOne Tryz.prog 4 = true := by kernel_rfl
theorem tZero_4 : tZero Tryz.prog 4 = some (.bool false) := by kernel_rfl
theorem tOne_5 : tOne Tryz.prog 5 = true := by kernel_rfl
theorem tZero_5 : tZero Tryz.prog 5 = some (.int .u8 0) := by kernel_rfl
theorem con_5 : Tryz.prog.concrete 5 = true := by kernel_rfl
theorem tOne_6 : tOne Tryz.prog 6 = true := by kernel_rfl
theorem tZero_6 : tZero Tryz.prog 6 = some (.int .u8 0) := by kernel_rfl
theorem con_6 : Tryz.prog.concrete 6 = true := by kernel_rfl
theorem tAgg_7 : tAgg Tryz.prog 7 = some 4 := by kernel_rfl
theorem tB_7 : tB Tryz.prog 7 = some ([(0, 1), (1, 1), (2, 1), (3, 1)], [.int .i64 0, .int .i64 0, .bool false, .int .u8 0]) := by kernel_rfl
theorem tFe_7_0 : tFe Tryz.prog 7 0 = some (0, none) := by kernel_rfl
theorem tFld_7_0 : tFld Tryz.prog 7 0 = some 0 := by kernel_rfl
theorem tFe_7_1 : tFe Tryz.prog 7 1 = some (1, none) := by kernel_rfl
theorem tFld_7_1 : tFld Tryz.prog 7 1 = some 1 := by kernel_rfl
theorem tFe_7_2 : tFe Tryz.prog 7 2 = some (2, none) := by kernel_rfl
theorem tFld_7_2 : tFld Tryz.prog 7 2 = some 2 := by kernel_rfl
theorem tFe_7_3 : tFe Tryz.prog 7 3 = some (3, none) := by kernel_rfl
theorem tFld_7_3 : tFld Tryz.prog 7 3 = some 3 := by kernel_rfl
theorem tZero_7 : tZero Tryz.prog 7 = some (.agg #[.int .i64 0, .int .i64 0, .bool false, .int .u8 0]) := by kernel_rfl
theorem tAgg_8 : tAgg Tryz.prog 8 = some 4 := by kernel_rfl
theorem tB_8 : tB Tryz.prog 8 = some ([(0, 1), (1, 1), (2, 1), (3, 1)], [.int .i64 0, .int .i64 0, .bool false, .int .u8 0]) := by kernel_rfl
theorem tFe_8_0 : tFe Tryz.prog 8 0 = some (0, none) := by kernel_rfl
theorem tFld_8_0 : tFld Tryz.prog 8 0 = some 0 := by kernel_rfl
theorem tFe_8_1 : tFe Tryz.prog 8 1 = some (1, none) := by kernel_rfl
theorem tFld_8_1 : tFld Tryz.prog 8 1 = some 1 := by kernel_rfl
theorem tFe_8_2 : tFe Tryz.prog 8 2 = some (2, none) := by kernel_rfl
theorem tFld_8_2 : tFld Tryz.prog 8 2 = some 2 := by kernel_rfl
theorem tFe_8_3 : tFe Tryz.prog 8 3 = some (3, none) := by kernel_rfl
theorem tFld_8_3 : tFld Tryz.prog 8 3 = some 3 := by kernel_rfl
theorem tZero_8 : tZero Tryz.prog 8 = some (.agg #[.int .i64 0, .int .i64 0, .bool false, .int .u8 0]) := by kernel_rfl
theorem tOne_9 : tOne Tryz.prog 9 = true := by kernel_rfl
theorem tZero_9 : tZero Tryz.prog 9 = some (.string ⟨#[]⟩) := by kernel_rfl
theorem tOne_10 : tOne Tryz.prog 10 = true := by kernel_rfl
theorem tZero_10 : tZero Tryz.prog 10 = some (.string ⟨#[]⟩) := by kernel_rfl
theorem tOne_11 : tOne Tryz.prog 11 = true := by kernel_rfl
theorem tZero_11 : tZero Tryz.prog 11 = some (.string ⟨#[]⟩) := by kernel_rfl
theorem tOne_12 : tOne Tryz.prog 12 = true := by kernel_rfl
theorem tZero_12 : tZero Tryz.prog 12 = some (.int .u64 0) := by kernel_rfl
theorem con_12 : Tryz.prog.concrete 12 = true := by kernel_rfl
theorem tAgg_13 : tAgg Tryz.prog 13 = some 2 := by kernel_rfl
theorem tB_13 : tB Tryz.prog 13 = some ([(0, 1), (1, 1)], [.string ⟨#[]⟩, .int .u64 0]) := by kernel_rfl
theorem tFe_13_0 : tFe Tryz.prog 13 0 = some (0, none) := by kernel_rfl
theorem tFld_13_0 : tFld Tryz.prog 13 0 = some 0 := by kernel_rfl
theorem tFe_13_1 : tFe Tryz.prog 13 1 = some (1, none) := by kernel_rfl
theorem tFld_13_1 : tFld Tryz.prog 13 1 = some 1 := by kernel_rfl
theorem tZero_13 : tZero Tryz.prog 13 = some (.agg #[.string ⟨#[]⟩, .int .u64 0]) := by kernel_rfl
theorem tAgg_14 : tAgg Tryz.prog 14 = some 2 := by kernel_rfl
theorem tB_14 : tB Tryz.prog 14 = some ([(0, 1), (1, 1)], [.string ⟨#[]⟩, .int .u64 0]) := by kernel_rfl
theorem tFe_14_0 : tFe Tryz.prog 14 0 = some (0, none) := by kernel_rfl
theorem tFld_14_0 : tFld Tryz.prog 14 0 = some 0 := by kernel_rfl
theorem tFe_14_1 : tFe Tryz.prog 14 1 = some (1, none) := by kernel_rfl
theorem tFld_14_1 : tFld Tryz.prog 14 1 = some 1 := by kernel_rfl
theorem tZero_14 : tZero Tryz.prog 14 = some (.agg #[.string ⟨#[]⟩, .int .u64 0]) := by kernel_rfl
theorem tOne_15 : tOne Tryz.prog 15 = true := by kernel_rfl
theorem tZero_15 : tZero Tryz.prog 15 = some (.pointer none) := by kernel_rfl
theorem tOne_16 : tOne Tryz.prog 16 = true := by kernel_rfl
theorem tZero_16 : tZero Tryz.prog 16 = some (.pointer none) := by kernel_rfl
theorem tOne_17 : tOne Tryz.prog 17 = true := by kernel_rfl
theorem tZero_17 : tZero Tryz.prog 17 = some (.pointer none) := by kernel_rfl
theorem tAgg_18 : tAgg Tryz.prog 18 = some 1 := by kernel_rfl
theorem tB_18 : tB Tryz.prog 18 = some ([(0, 1)], [.pointer none]) := by kernel_rfl
theorem tFe_18_0 : tFe Tryz.prog 18 0 = some (0, none) := by kernel_rfl
theorem tFld_18_0 : tFld Tryz.prog 18 0 = some 0 := by kernel_rfl
theorem tZero_18 : tZero Tryz.prog 18 = some (.agg #[.pointer none]) := by kernel_rfl
theorem tAgg_19 : tAgg Tryz.prog 19 = some 1 := by kernel_rfl
theorem tB_19 : tB Tryz.prog 19 = some ([(0, 1)], [.pointer none]) := by kernel_rfl
theorem tFe_19_0 : tFe Tryz.prog 19 0 = some (0, none) := by kernel_rfl
theorem tFld_19_0 : tFld Tryz.prog 19 0 = some 0 := by kernel_rfl
theorem tZero_19 : tZero Tryz.prog 19 = some (.agg #[.pointer none]) := by kernel_rfl
theorem tOne_20 : tOne Tryz.prog 20 = true := by kernel_rfl
theorem tZero_20 : tZero Tryz.prog 20 = some (.nilIface) := by kernel_rfl
theorem tOne_21 : tOne Tryz.prog 21 = true := by kernel_rfl
theorem tZero_21 : tZero Tryz.prog 21 = some (.int .i32 0) := by kernel_rfl
theorem con_21 : Tryz.prog.concrete 21 = true := by kernel_rfl
theorem tSl_22 : tSl Tryz.prog 22 = some (37, 11) := by kernel_rfl
theorem tOne_22 : tOne Tryz.prog 22 = true := by kernel_rfl
theorem tZero_22 : tZero Tryz.prog 22 = some (.slice none 0 0) := by kernel_rfl
theorem tOne_23 : tOne Tryz.prog 23 = true := by kernel_rfl
theorem tZero_23 : tZero Tryz.prog 23 = some (.nilFunc) := by kernel_rfl
theorem tOne_24 : tOne Tryz.prog 24 = true := by kernel_rfl
theorem tZero_24 : tZero Tryz.prog 24 = some (.nilFunc) := by kernel_rfl
theorem tSl_25 : tSl Tryz.prog 25 = some (39, 5) := by kernel_rfl
theorem tOne_25 : tOne Tryz.prog 25 = true := by kernel_rfl
theorem tZero_25 : tZero Tryz.prog 25 = some (.slice none 0 0) := by kernel_rfl
theorem tSl_26 : tSl Tryz.prog 26 = some (74, 3) := by kernel_rfl
theorem tOne_26 : tOne Tryz.prog 26 = true := by kernel_rfl
theorem tZero_26 : tZero Tryz.prog 26 = some (.slice none 0 0) := by kernel_rfl
theorem tSl_27 : tSl Tryz.prog 27 = some (93, 3) := by kernel_rfl
theorem tOne_27 : tOne Tryz.prog 27 = true := by kernel_rfl
theorem tZero_27 : tZero Tryz.prog 27 = some (.slice none 0 0) := by kernel_rfl
theorem tSl_28 : tSl Tryz.prog 28 = some (52, 4) := by kernel_rfl
theorem tOne_28 : tOne Tryz.prog 28 = true := by kernel_rfl
theorem tZero_28 : tZero Tryz.prog 28 = some (.slice none 0 0) := by kernel_rfl
theorem tAgg_29 : tAgg Tryz.prog 29 = some 6 := by kernel_rfl
theorem tB_29 : tB Tryz.prog 29 = some ([(0, 1), (1, 1), (2, 1), (3, 1), (4, 1), (5, 1)], [.slice none 0 0, .slice none 0 0, .slice none 0 0, .slice none 0 0, .int .i64 0, .int .i64 0]) := by kernel_rfl
theorem tFe_29_0 : tFe Tryz.prog 29 0 = some (0, none) := by kernel_rfl
theorem tFld_29_0 : tFld Tryz.prog 29 0 = some 0 := by kernel_rfl
theorem tFe_29_1 : tFe Tryz.prog 29 1 = some (1, none) := by kernel_rfl
theorem tFld_29_1 : tFld Tryz.prog 29 1 = some 1 := by kernel_rfl
theorem tFe_29_2 : tFe Tryz.prog 29 2 = some (2, none) := by kernel_rfl
theorem tFld_29_2 : tFld Tryz.prog 29 2 = some 2 := by kernel_rfl
theorem tFe_29_3 : tFe Tryz.prog 29 3 = some (3, none) := by kernel_rfl
theorem tFld_29_3 : tFld Tryz.prog 29 3 = some 3 := by kernel_rfl
theorem tFe_29_4 : tFe Tryz.prog 29 4 = some (4, none) := by kernel_rfl
theorem tFld_29_4 : tFld Tryz.prog 29 4 = some 4 := by kernel_rfl
theorem tFe_29_5 : tFe Tryz.prog 29 5 = some (5, none) := by kernel_rfl
theorem tFld_29_5 : tFld Tryz.prog 29 5 = some 5 := by kernel_rfl
theorem tZero_29 : tZero Tryz.prog 29 = some (.agg #[.slice none 0 0, .slice none 0 0, .slice none 0 0, .slice none 0 0, .int .i64 0, .int .i64 0]) := by kernel_rfl
theorem tAgg_30 : tAgg Tryz.prog 30 = some 6 := by kernel_rfl
theorem tB_30 : tB Tryz.prog 30 = some ([(0, 1), (1, 1), (2, 1), (3, 1), (4, 1), (5, 1)], [.slice none 0 0, .slice none 0 0, .slice none 0 0, .slice none 0 0, .int .i64 0, .int .i64 0]) := by kernel_rfl
theorem tFe_30_0 : tFe Tryz.prog 30 0 = some (0, none) := by kernel_rfl
theorem tFld_30_0 : tFld Tryz.prog 30 0 = some 0 := by kernel_rfl
theorem tFe_30_1 : tFe Tryz.prog 30 1 = some (1, none) := by kernel_rfl
theorem tFld_30_1 : tFld Tryz.prog 30 1 = some 1 := by kernel_rfl
theorem tFe_30_2 : tFe Tryz.prog 30 2 = some (2, none) := by kernel_rfl
theorem tFld_30_2 : tFld Tryz.prog 30 2 = some 2 := by kernel_rfl
theorem tFe_30_3 : tFe Tryz.prog 30 3 = some (3, none) := by kernel_rfl
theorem tFld_30_3 : tFld Tryz.prog 30 3 = some 3 := by kernel_rfl
theorem tFe_30_4 : tFe Tryz.prog 30 4 = some (4, none) := by kernel_rfl
theorem tFld_30_4 : tFld Tryz.prog 30 4 = some 4 := by kernel_rfl
theorem tFe_30_5 : tFe Tryz.prog 30 5 = some (5, none) := by kernel_rfl
theorem tFld_30_5 : tFld Tryz.prog 30 5 = some 5 := by kernel_rfl
theorem tZero_30 : tZero Tryz.prog 30 = some (.agg #[.slice none 0 0, .slice none 0 0, .slice none 0 0, .slice none 0 0, .int .i64 0, .int .i64 0]) := by kernel_rfl
theorem tOne_31 : tOne Tryz.prog 31 = true := by kernel_rfl
theorem tZero_31 : tZero Tryz.prog 31 = some (.nilFunc) := by kernel_rfl
theorem tAgg_32 : tAgg Tryz.prog 32 = some 2 := by kernel_rfl
theorem tB_32 : tB Tryz.prog 32 = some ([(0, 1), (1, 1)], [.int .i64 0, .int .i64 0]) := by kernel_rfl
theorem tFe_32_0 : tFe Tryz.prog 32 0 = some (0, none) := by kernel_rfl
theorem tFld_32_0 : tFld Tryz.prog 32 0 = some 0 := by kernel_rfl
theorem tFe_32_1 : tFe Tryz.prog 32 1 = some (1, none) := by kernel_rfl
theorem tFld_32_1 : tFld Tryz.prog 32 1 = some 1 := by kernel_rfl
theorem tZero_32 : tZero Tryz.prog 32 = some (.agg #[.int .i64 0, .int .i64 0]) := by kernel_rfl
theorem tAgg_33 : tAgg Tryz.prog 33 = some 2 := by kernel_rfl
theorem tB_33 : tB Tryz.prog 33 = some ([(0, 1), (1, 1)], [.int .i64 0, .int .i64 0]) := by kernel_rfl
theorem tFe_33_0 : tFe Tryz.prog 33 0 = some (0, none) := by kernel_rfl
theorem tFld_33_0 : tFld Tryz.prog 33 0 = some 0 := by kernel_rfl
theorem tFe_33_1 : tFe Tryz.prog 33 1 = some (1, none) := by kernel_rfl
theorem tFld_33_1 : tFld Tryz.prog 33 1 = some 1 := by kernel_rfl
theorem tZero_33 : tZero Tryz.prog 33 = some (.agg #[.int .i64 0, .int .i64 0]) := by kernel_rfl
theorem tOne_34 : tOne Tryz.prog 34 = true := by kernel_rfl
theorem tZero_34 : tZero Tryz.prog 34 = some (.int .u64 0) := by kernel_rfl
theorem con_34 : Tryz.prog.concrete 34 = true := by kernel_rfl
theorem tSl_35 : tSl Tryz.prog 35 = some (106, 3) := by kernel_rfl
theorem tOne_35 : tOne Tryz.prog 35 = true := by kernel_rfl
theorem tZero_35 : tZero Tryz.prog 35 = some (.slice none 0 0) := by kernel_rfl
theorem tAgg_36 : tAgg Tryz.prog 36 = some 11 := by kernel_rfl
theorem tB_36 : tB Tryz.prog 36 = some ([(0, 1), (1, 1), (2, 2), (4, 2), (6, 1), (7, 1), (8, 1), (9, 1), (10, 1)], [.string ⟨#[]⟩, .string ⟨#[]⟩, .int .i64 0, .int .i64 0, .int .i64 0, .int .i64 0, .int .i64 0, .int .i64 0, .int .i64 0, .int .u64 0, .slice none 0 0]) := by kernel_rfl
theorem tFe_36_0 : tFe Tryz.prog 36 0 = some (0, none) := by kernel_rfl
theorem tFld_36_0 : tFld Tryz.prog 36 0 = some 0 := by kernel_rfl
theorem tFe_36_1 : tFe Tryz.prog 36 1 = some (1, none) := by kernel_rfl
theorem tFld_36_1 : tFld Tryz.prog 36 1 = some 1 := by kernel_rfl
theorem tFe_36_2 : tFe Tryz.prog 36 2 = some (2, some 2) := by kernel_rfl
theorem tFld_36_2 : tFld Tryz.prog 36 2 = some 2 := by kernel_rfl
theorem tFe_36_3 : tFe Tryz.prog 36 3 = some (4, some 2) := by kernel_rfl
theorem tFld_36_3 : tFld Tryz.prog 36 3 = some 4 := by kernel_rfl
theorem tFe_36_4 : tFe Tryz.prog 36 4 = some (6, none) := by kernel_rfl
theorem tFld_36_4 : tFld Tryz.prog 36 4 = some 6 := by kernel_rfl
theorem tFe_36_5 : tFe Tryz.prog 36 5 = some (7, none) := by kernel_rfl
theorem tFld_36_5 : tFld Tryz.prog 36 5 = some 7 := by kernel_rfl
theorem tFe_36_6 : tFe Tryz.prog 36 6 = some (8, none) := by kernel_rfl
theorem tFld_36_6 : tFld Tryz.prog 36 6 = some 8 := by kernel_rfl
theorem tFe_36_7 : tFe Tryz.prog 36 7 = some (9, none) := by kernel_rfl
theorem tFld_36_7 : tFld Tryz.prog 36 7 = some 9 := by kernel_rfl
theorem tFe_36_8 : tFe Tryz.prog 36 8 = some (10, none) := by kernel_rfl
theorem tFld_36_8 : tFld Tryz.prog 36 8 = some 10 := by kernel_rfl
theorem tZero_36 : tZero Tryz.prog 36 = some (.agg #[.string ⟨#[]⟩, .string ⟨#[]⟩, .int .i64 0, .int .i64 0, .int .i64 0, .int .i64 0, .int .i64 0, .int .i64 0, .int .i64 0, .int .u64 0, .slice none 0 0]) := by kernel_rfl
theorem tAgg_37 : tAgg Tryz.prog 37 = some 11 := by kernel_rfl
theorem tB_37 : tB Tryz.prog 37 = some ([(0, 1), (1, 1), (2, 2), (4, 2), (6, 1), (7, 1), (8, 1), (9, 1), (10, 1)], [.string ⟨#[]⟩, .string ⟨#[]⟩, .int .i64 0, .int .i64 0, .int .i64 0, .int .i64 0, .int .i64 0, .int .i64 0, .int .i64 0, .int .u64 0, .slice none 0 0]) := by kernel_rfl
theorem tFe_37_0 : tFe Tryz.prog 37 0 = some (0, none) := by kernel_rfl
theorem tFld_37_0 : tFld Tryz.prog 37 0 = some 0 := by kernel_rfl
theorem tFe_37_1 : tFe Tryz.prog 37 1 = some (1, none) := by kernel_rfl
theorem tFld_37_1 : tFld Tryz.prog 37 1 = some 1 := by kernel_rfl
theorem tFe_37_2 : tFe Tryz.prog 37 2 = some (2, some 2) := by kernel_rfl
theorem tFld_37_2 : tFld Tryz.prog 37 2 = some 2 := by kernel_rfl
theorem tFe_37_3 : tFe Tryz.prog 37 3 = some (4, some 2) := by kernel_rfl
theorem tFld_37_3 : tFld Tryz.prog 37 3 = some 4 := by kernel_rfl
theorem tFe_37_4 : tFe Tryz.prog 37 4 = some (6, none) := by kernel_rfl
theorem tFld_37_4 : tFld Tryz.prog 37 4 = some 6 := by kernel_rfl
theorem tFe_37_5 : tFe Tryz.prog 37 5 = some (7, none) := by kernel_rfl
theorem tFld_37_5 : tFld Tryz.prog 37 5 = some 7 := by kernel_rfl
theorem tFe_37_6 : tFe Tryz.prog 37 6 = some (8, none) := by kernel_rfl
theorem tFld_37_6 : tFld Tryz.prog 37 6 = some 8 := by kernel_rfl
theorem tFe_37_7 : tFe Tryz.prog 37 7 = some (9, none) := by kernel_rfl
theorem tFld_37_7 : tFld Tryz.prog 37 7 = some 9 := by kernel_rfl
theorem tFe_37_8 : tFe Tryz.prog 37 8 = some (10, none) := by kernel_rfl
theorem tFld_37_8 : tFld Tryz.prog 37 8 = some 10 := by kernel_rfl
theorem tZero_37 : tZero Tryz.prog 37 = some (.agg #[.string ⟨#[]⟩, .string ⟨#[]⟩, .int .i64 0, .int .i64 0, .int .i64 0, .int .i64 0, .int .i64 0, .int .i64 0, .int .i64 0, .int .u64 0, .slice none 0 0]) := by kernel_rfl
theorem tAgg_38 : tAgg Tryz.prog 38 = some 5 := by kernel_rfl
theorem tB_38 : tB Tryz.prog 38 = some ([(0, 1), (1, 1), (2, 1), (3, 1), (4, 1)], [.int .i64 0, .int .i64 0, .int .i64 0, .int .i64 0, .int .i64 0]) := by kernel_rfl
theorem tFe_38_0 : tFe Tryz.prog 38 0 = some (0, none) := by kernel_rfl
theorem tFld_38_0 : tFld Tryz.prog 38 0 = some 0 := by kernel_rfl
theorem tFe_38_1 : tFe Tryz.prog 38 1 = some (1, none) := by kernel_rfl
theorem tFld_38_1 : tFld Tryz.prog 38 1 = some 1 := by kernel_rfl
theorem tFe_38_2 : tFe Tryz.prog 38 2 = some (2, none) := by kernel_rfl
theorem tFld_38_2 : tFld Tryz.prog 38 2 = some 2 := by kernel_rfl
theorem tFe_38_3 : tFe Tryz.prog 38 3 = some (3, none) := by kernel_rfl
theorem tFld_38_3 : tFld Tryz.prog 38 3 = some 3 := by kernel_rfl
theorem tFe_38_4 : tFe Tryz.prog 38 4 = some (4, none) := by kernel_rfl
theorem tFld_38_4 : tFld Tryz.prog 38 4 = some 4 := by kernel_rfl
theorem tZero_38 : tZero Tryz.prog 38 = some (.agg #[.int .i64 0, .int .i64 0, .int .i64 0, .int .i64 0, .int .i64 0]) := by kernel_rfl
theorem tAgg_39 : tAgg Tryz.prog 39 = some 5 := by kernel_rfl
theorem tB_39 : tB Tryz.prog 39 = some ([(0, 1), (1, 1), (2, 1), (3, 1), (4, 1)], [.int .i64 0, .int .i64 0, .int .i64 0, .int .i64 0, .int .i64 0]) := by kernel_rfl
theorem tFe_39_0 : tFe Tryz.prog 39 0 = some (0, none) := by kernel_rfl
theorem tFld_39_0 : tFld Tryz.prog 39 0 = some 0 := by kernel_rfl
theorem tFe_39_1 : tFe Tryz.prog 39 1 = some (1, none) := by kernel_rfl
theorem tFld_39_1 : tFld Tryz.prog 39 1 = some 1 := by kernel_rfl
theorem tFe_39_2 : tFe Tryz.prog 39 2 = some (2, none) := by kernel_rfl
theorem tFld_39_2 : tFld Tryz.prog 39 2 = some 2 := by kernel_rfl
theorem tFe_39_3 : tFe Tryz.prog 39 3 = some (3, none) := by kernel_rfl
theorem tFld_39_3 : tFld Tryz.prog 39 3 = some 3 := by kernel_rfl
theorem tFe_39_4 : tFe Tryz.prog 39 4 = some (4, none) := by kernel_rfl
theorem tFld_39_4 : tFld Tryz.prog 39 4 = some 4 := by kernel_rfl
theorem tZero_39 : tZero Tryz.prog 39 = some (.agg #[.int .i64 0, .int .i64 0, .int .i64 0, .int .i64 0, .int .i64 0]) := by kernel_rfl
theorem tOne_40 : tOne Tryz.prog 40 = true := by kernel_rfl
theorem tZero_40 : tZero Tryz.prog 40 = some (.nilIface) := by kernel_rfl
theorem tOne_41 : tOne Tryz.prog 41 = true := by kernel_rfl
theorem tZero_41 : tZero Tryz.prog 41 = some (.nilIface) := by kernel_rfl
theorem tOne_43 : tOne Tryz.prog 43 = true := by kernel_rfl
theorem tZero_43 : tZero Tryz.prog 43 = some (.nilFunc) := by kernel_rfl
theorem tOne_45 : tOne Tryz.prog 45 = true := by kernel_rfl
theorem tZero_45 : tZero Tryz.prog 45 = some (.nilFunc) := by kernel_rfl
theorem tOne_47 : tOne Tryz.prog 47 = true := by kernel_rfl
theorem tZero_47 : tZero Tryz.prog 47 = some (.nilFunc) := by kernel_rfl
theorem tOne_49 : tOne Tryz.prog 49 = true := by kernel_rfl
theorem tZero_49 : tZero Tryz.prog 49 = some (.nilFunc) := by kernel_rfl
theorem tOne_50 : tOne Tryz.prog 50 = true := by kernel_rfl
theorem tZero_50 : tZero Tryz.prog 50 = some (.nilFunc) := by kernel_rfl
theorem tAgg_51 : tAgg Tryz.prog 51 = some 4 := by kernel_rfl
theorem tB_51 : tB Tryz.prog 51 = some ([(0, 1), (1, 1), (2, 1), (3, 1)], [.int .i64 0, .string ⟨#[]⟩, .int .i64 0, .int .i64 0]) := by kernel_rfl
theorem tFe_51_0 : tFe Tryz.prog 51 0 = some (0, none) := by kernel_rfl
theorem tFld_51_0 : tFld Tryz.prog 51 0 = some 0 := by kernel_rfl
theorem tFe_51_1 : tFe Tryz.prog 51 1 = some (1, none) := by kernel_rfl
theorem tFld_51_1 : tFld Tryz.prog 51 1 = some 1 := by kernel_rfl
theorem tFe_51_2 : tFe Tryz.prog 51 2 = some (2, none) := by kernel_rfl
theorem tFld_51_2 : tFld Tryz.prog 51 2 = some 2 := by kernel_rfl
theorem tFe_51_3 : tFe Tryz.prog 51 3 = some (3, none) := by kernel_rfl
theorem tFld_51_3 : tFld Tryz.prog 51 3 = some 3 := by kernel_rfl
theorem tZero_51 : tZero Tryz.prog 51 = some (.agg #[.int .i64 0, .string ⟨#[]⟩, .int .i64 0, .int .i64 0]) := by kernel_rfl
theorem tAgg_52 : tAgg Tryz.prog 52 = some 4 := by kernel_rfl
theorem tB_52 : tB Tryz.prog 52 = some ([(0, 1), (1, 1), (2, 1), (3, 1)], [.int .i64 0, .string ⟨#[]⟩, .int .i64 0, .int .i64 0]) := by kernel_rfl
theorem tFe_52_0 : tFe Tryz.prog 52 0 = some (0, none) := by kernel_rfl
theorem tFld_52_0 : tFld Tryz.prog 52 0 = some 0 := by kernel_rfl
theorem tFe_52_1 : tFe Tryz.prog 52 1 = some (1, none) := by kernel_rfl
theorem tFld_52_1 : tFld Tryz.prog 52 1 = some 1 := by kernel_rfl
theorem tFe_52_2 : tFe Tryz.prog 52 2 = some (2, none) := by kernel_rfl
theorem tFld_52_2 : tFld Tryz.prog 52 2 = some 2 := by kernel_rfl
theorem tFe_52_3 : tFe Tryz.prog 52 3 = some (3, none) := by kernel_rfl
theorem tFld_52_3 : tFld Tryz.prog 52 3 = some 3 := by kernel_rfl
theorem tZero_52 : tZero Tryz.prog 52 = some (.agg #[.int .i64 0, .string ⟨#[]⟩, .int .i64 0, .int .i64 0]) := by kernel_rfl
theorem tOne_54 : tOne Tryz.prog 54 = true := by kernel_rfl
theorem tZero_54 : tZero Tryz.prog 54 = some (.nilFunc) := by kernel_rfl
theorem tOne_56 : tOne Tryz.prog 56 = true := by kernel_rfl
theorem tZero_56 : tZero Tryz.prog 56 = some (.nilFunc) := by kernel_rfl
theorem tOne_57 : tOne Tryz.prog 57 = true := by kernel_rfl
theorem tZero_57 : tZero Tryz.prog 57 = some (.nilFunc) := by kernel_rfl
theorem tOne_58 : tOne Tryz.prog 58 = true := by kernel_rfl
theorem tZero_58 : tZero Tryz.prog 58 = some (.nilFunc) := by kernel_rfl
theorem tOne_60 : tOne Tryz.prog 60 = true := by kernel_rfl
theorem tZero_60 : tZero Tryz.prog 60 = some (.nilFunc) := by kernel_rfl
theorem tOne_62 : tOne Tryz.prog 62 = true := by kernel_rfl
theorem tZero_62 : tZero Tryz.prog 62 = some (.nilFunc) := by kernel_rfl
theorem tOne_63 : tOne Tryz.prog 63 = true := by kernel_rfl
theorem tZero_63 : tZero Tryz.prog 63 = some (.nilFunc) := by kernel_rfl
theorem tOne_64 : tOne Tryz.prog 64 = true := by kernel_rfl
theorem tZero_64 : tZero Tryz.prog 64 = some (.nilFunc) := by kernel_rfl
theorem tOne_65 : tOne Tryz.prog 65 = true := by kernel_rfl
theorem tZero_65 : tZero Tryz.prog 65 = some (.nilFunc) := by kernel_rfl
theorem tOne_66 : tOne Tryz.prog 66 = true := by kernel_rfl
theorem tZero_66 : tZero Tryz.prog 66 = some (.nilFunc) := by kernel_rfl
theorem tOne_67 : tOne Tryz.prog 67 = true := by kernel_rfl
theorem tZero_67 : tZero Tryz.prog 67 = some (.nilFunc) := by kernel_rfl
theorem tOne_68 : tOne Tryz.prog 68 = true := by kernel_rfl
theorem tZero_68 : tZero Tryz.prog 68 = some (.nilFunc) := by kernel_rfl
theorem tOne_69 : tOne Tryz.prog 69 = true := by kernel_rfl
theorem tZero_69 : tZero Tryz.prog 69 = some (.int .i64 0) := by kernel_rfl
theorem con_69 : Tryz.prog.concrete 69 = true := by kernel_rfl
theorem tOne_70 : tOne Tryz.prog 70 = true := by kernel_rfl
theorem tZero_70 : tZero Tryz.prog 70 = some (.nilFunc) := by kernel_rfl
theorem tOne_72 : tOne Tryz.prog 72 = true := by kernel_rfl
theorem tZero_72 : tZero Tryz.prog 72 = some (.nilFunc) := by kernel_rfl
theorem tAgg_73 : tAgg Tryz.prog 73 = some 3 := by kernel_rfl
theorem tB_73 : tB Tryz.prog 73 = some ([(0, 1), (1, 1), (2, 1)], [.int .i64 0, .int .i64 0, .string ⟨#[]⟩]) := by kernel_rfl
theorem tFe_73_0 : tFe Tryz.prog 73 0 = some (0, none) := by kernel_rfl
theorem tFld_73_0 : tFld Tryz.prog 73 0 = some 0 := by kernel_rfl
theorem tFe_73_1 : tFe Tryz.prog 73 1 = some (1, none) := by kernel_rfl
theorem tFld_73_1 : tFld Tryz.prog 73 1 = some 1 := by kernel_rfl
theorem tFe_73_2 : tFe Tryz.prog 73 2 = some (2, none) := by kernel_rfl
theorem tFld_73_2 : tFld Tryz.prog 73 2 = some 2 := by kernel_rfl
theorem tZero_73 : tZero Tryz.prog 73 = some (.agg #[.int .i64 0, .int .i64 0, .string ⟨#[]⟩]) := by kernel_rfl
theorem tAgg_74 : tAgg Tryz.prog 74 = some 3 := by kernel_rfl
theorem tB_74 : tB Tryz.prog 74 = some ([(0, 1), (1, 1), (2, 1)], [.int .i64 0, .int .i64 0, .string ⟨#[]⟩]) := by kernel_rfl
theorem tFe_74_0 : tFe Tryz.prog 74 0 = some (0, none) := by kernel_rfl
theorem tFld_74_0 : tFld Tryz.prog 74 0 = some 0 := by kernel_rfl
theorem tFe_74_1 : tFe Tryz.prog 74 1 = some (1, none) := by kernel_rfl
theorem tFld_74_1 : tFld Tryz.prog 74 1 = some 1 := by kernel_rfl
theorem tFe_74_2 : tFe Tryz.prog 74 2 = some (2, none) := by kernel_rfl
theorem tFld_74_2 : tFld Tryz.prog 74 2 = some 2 := by kernel_rfl
theorem tZero_74 : tZero Tryz.prog 74 = some (.agg #[.int .i64 0, .int .i64 0, .string ⟨#[]⟩]) := by kernel_rfl
theorem tOne_76 : tOne Tryz.prog 76 = true := by kernel_rfl
theorem tZero_76 : tZero Tryz.prog 76 = some (.nilFunc) := by kernel_rfl
theorem tOne_78 : tOne Tryz.prog 78 = true := by kernel_rfl
theorem tZero_78 : tZero Tryz.prog 78 = some (.nilFunc) := by kernel_rfl
theorem tOne_79 : tOne Tryz.prog 79 = true := by kernel_rfl
theorem tZero_79 : tZero Tryz.prog 79 = some (.nilFunc) := by kernel_rfl
theorem tOne_80 : tOne Tryz.prog 80 = true := by kernel_rfl
theorem tZero_80 : tZero Tryz.prog 80 = some (.nilFunc) := by kernel_rfl
theorem tOne_81 : tOne Tryz.prog 81 = true := by kernel_rfl
theorem tZero_81 : tZero Tryz.prog 81 = some (.nilFunc) := by kernel_rfl
theorem tOne_82 : tOne Tryz.prog 82 = true := by kernel_rfl
theorem tZero_82 : tZero Tryz.prog 82 = some (.nilFunc) := by kernel_rfl
theorem tOne_83 : tOne Tryz.prog 83 = true := by kernel_rfl
theorem tZero_83 : tZero Tryz.prog 83 = some (.nilFunc) := by kernel_rfl
theorem tOne_85 : tOne Tryz.prog 85 = true := by kernel_rfl
theorem tZero_85 : tZero Tryz.prog 85 = some (.nilFunc) := by kernel_rfl
theorem tOne_86 : tOne Tryz.prog 86 = true := by kernel_rfl
theorem tZero_86 : tZero Tryz.prog 86 = some (.nilFunc) := by kernel_rfl
theorem tOne_87 : tOne Tryz.prog 87 = true := by kernel_rfl
theorem tZero_87 : tZero Tryz.prog 87 = some (.nilFunc) := by kernel_rfl
theorem tOne_88 : tOne Tryz.prog 88 = true := by kernel_rfl
theorem tZero_88 : tZero Tryz.prog 88 = some (.nilFunc) := by kernel_rfl
theorem tOne_89 : tOne Tryz.prog 89 = true := by kernel_rfl
theorem tZero_89 : tZero Tryz.prog 89 = some (.nilFunc) := by kernel_rfl
theorem tOne_90 : tOne Tryz.prog 90 = true := by kernel_rfl
theorem tZero_90 : tZero Tryz.prog 90 = some (.nilFunc) := by kernel_rfl
theorem tOne_91 : tOne Tryz.prog 91 = true := by kernel_rfl
theorem tZero_91 : tZero Tryz.prog 91 = some (.nilFunc) := by kernel_rfl
theorem tAgg_92 : tAgg Tryz.prog 92 = some 3 := by kernel_rfl
theorem tB_92 : tB Tryz.prog 92 = some ([(0, 2), (2, 1)], [.int .i64 0, .int .i64 0, .int .i64 0]) := by kernel_rfl
theorem tFe_92_0 : tFe Tryz.prog 92 0 = some (0, some 2) := by kernel_rfl
theorem tFld_92_0 : tFld Tryz.prog 92 0 = some 0 := by kernel_rfl
theorem tFe_92_1 : tFe Tryz.prog 92 1 = some (2, none) := by kernel_rfl
theorem tFld_92_1 : tFld Tryz.prog 92 1 = some 2 := by kernel_rfl
theorem tZero_92 : tZero Tryz.prog 92 = some (.agg #[.int .i64 0, .int .i64 0, .int .i64 0]) := by kernel_rfl
theorem tAgg_93 : tAgg Tryz.prog 93 = some 3 := by kernel_rfl
theorem tB_93 : tB Tryz.prog 93 = some ([(0, 2), (2, 1)], [.int .i64 0, .int .i64 0, .int .i64 0]) := by kernel_rfl
theorem tFe_93_0 : tFe Tryz.prog 93 0 = some (0, some 2) := by kernel_rfl
theorem tFld_93_0 : tFld Tryz.prog 93 0 = some 0 := by kernel_rfl
theorem tFe_93_1 : tFe Tryz.prog 93 1 = some (2, none) := by kernel_rfl
theorem tFld_93_1 : tFld Tryz.prog 93 1 = some 2 := by kernel_rfl
theorem tZero_93 : tZero Tryz.prog 93 = some (.agg #[.int .i64 0, .int .i64 0, .int .i64 0]) := by kernel_rfl
theorem tOne_94 : tOne Tryz.prog 94 = true := by kernel_rfl
theorem tZero_94 : tZero Tryz.prog 94 = some (.nilFunc) := by kernel_rfl
theorem tOne_95 : tOne Tryz.prog 95 = true := by kernel_rfl
theorem tZero_95 : tZero Tryz.prog 95 = some (.nilFunc) := by kernel_rfl
theorem tOne_96 : tOne Tryz.prog 96 = true := by kernel_rfl
theorem tZero_96 : tZero Tryz.prog 96 = some (.nilFunc) := by kernel_rfl
theorem tOne_97 : tOne Tryz.prog 97 = true := by kernel_rfl
theorem tZero_97 : tZero Tryz.prog 97 = some (.nilFunc) := by kernel_rfl
theorem tOne_98 : tOne Tryz.prog 98 = true := by kernel_rfl
theorem tZero_98 : tZero Tryz.prog 98 = some (.nilFunc) := by kernel_rfl
theorem tOne_99 : tOne Tryz.prog 99 = true := by kernel_rfl
theorem tZero_99 : tZero Tryz.prog 99 = some (.nilFunc) := by kernel_rfl
theorem tOne_100 : tOne Tryz.prog 100 = true := by kernel_rfl
theorem tZero_100 : tZero Tryz.prog 100 = some (.nilFunc) := by kernel_rfl
theorem tOne_101 : tOne Tryz.prog 101 = true := by kernel_rfl
theorem tZero_101 : tZero Tryz.prog 101 = some (.nilFunc) := by kernel_rfl
theorem tOne_102 : tOne Tryz.prog 102 = true := by kernel_rfl
theorem tZero_102 : tZero Tryz.prog 102 = some (.nilFunc) := by kernel_rfl
theorem tOne_103 : tOne Tryz.prog 103 = true := by kernel_rfl
theorem tZero_103 : tZero Tryz.prog 103 = some (.nilFunc) := by kernel_rfl
theorem tOne_104 : tOne Tryz.prog 104 = true := by kernel_rfl
theorem tZero_104 : tZero Tryz.prog 104 = some (.nilFunc) := by kernel_rfl
theorem tAgg_105 : tAgg Tryz.prog 105 = some 3 := by kernel_rfl
theorem tB_105 : tB Tryz.prog 105 = some ([(0, 1), (1, 1), (2, 1)], [.string ⟨#[]⟩, .string ⟨#[]⟩, .bool false]) := by kernel_rfl
theorem tFe_105_0 : tFe Tryz.prog 105 0 = some (0, none) := by kernel_rfl
theorem tFld_105_0 : tFld Tryz.prog 105 0 = some 0 := by kernel_rfl
theorem tFe_105_1 : tFe Tryz.prog 105 1 = some (1, none) := by kernel_rfl
theorem tFld_105_1 : tFld Tryz.prog 105 1 = some 1 := by kernel_rfl
theorem tFe_105_2 : tFe Tryz.prog 105 2 = some (2, none) := by kernel_rfl
theorem tFld_105_2 : tFld Tryz.prog 105 2 = some 2 := by kernel_rfl
theorem tZero_105 : tZero Tryz.prog 105 = some (.agg #[.string ⟨#[]⟩, .string ⟨#[]⟩, .bool false]) := by kernel_rfl
theorem tAgg_106 : tAgg Tryz.prog 106 = some 3 := by kernel_rfl
theorem tB_106 : tB Tryz.prog 106 = some ([(0, 1), (1, 1), (2, 1)], [.string ⟨#[]⟩, .string ⟨#[]⟩, .bool false]) := by kernel_rfl
theorem tFe_106_0 : tFe Tryz.prog 106 0 = some (0, none) := by kernel_rfl
theorem tFld_106_0 : tFld Tryz.prog 106 0 = some 0 := by kernel_rfl
theorem tFe_106_1 : tFe Tryz.prog 106 1 = some (1, none) := by kernel_rfl
theorem tFld_106_1 : tFld Tryz.prog 106 1 = some 1 := by kernel_rfl
theorem tFe_106_2 : tFe Tryz.prog 106 2 = some (2, none) := by kernel_rfl
theorem tFld_106_2 : tFld Tryz.prog 106 2 = some 2 := by kernel_rfl
theorem tZero_106 : tZero Tryz.prog 106 = some (.agg #[.string ⟨#[]⟩, .string ⟨#[]⟩, .bool false]) := by kernel_rfl
theorem tOne_107 : tOne Tryz.prog 107 = true := by kernel_rfl
theorem tZero_107 : tZero Tryz.prog 107 = some (.nilFunc) := by kernel_rfl
theorem tOne_108 : tOne Tryz.prog 108 = true := by kernel_rfl
theorem tZero_108 : tZero Tryz.prog 108 = some (.nilFunc) := by kernel_rfl
theorem tOne_110 : tOne Tryz.prog 110 = true := by kernel_rfl
theorem tZero_110 : tZero Tryz.prog 110 = some (.nilFunc) := by kernel_rfl
theorem tOne_111 : tOne Tryz.prog 111 = true := by kernel_rfl
theorem tZero_111 : tZero Tryz.prog 111 = some (.nilFunc) := by kernel_rfl
theorem tOne_112 : tOne Tryz.prog 112 = true := by kernel_rfl
theorem tZero_112 : tZero Tryz.prog 112 = some (.nilFunc) := by kernel_rfl
theorem tOne_113 : tOne Tryz.prog 113 = true := by kernel_rfl
theorem tZero_113 : tZero Tryz.prog 113 = some (.nilFunc) := by kernel_rfl
theorem tOne_114 : tOne Tryz.prog 114 = true := by kernel_rfl
theorem tZero_114 : tZero Tryz.prog 114 = some (.nilFunc) := by kernel_rfl
theorem tOne_115 : tOne Tryz.prog 115 = true := by kernel_rfl
theorem tZero_115 : tZero Tryz.prog 115 = some (.nilFunc) := by kernel_rfl
theorem tSl_116 : tSl Tryz.prog 116 = some (3, 1) := by kernel_rfl
theorem tOne_116 : tOne Tryz.prog 116 = true := by kernel_rfl
theorem tZero_116 : tZero Tryz.prog 116 = some (.slice none 0 0) := by kernel_rfl
theorem tOne_117 : tOne Tryz.prog 117 = true := by kernel_rfl
theorem tZero_117 : tZero Tryz.prog 117 = some (.nilFunc) := by kernel_rfl
theorem tOne_118 : tOne Tryz.prog 118 = true := by kernel_rfl
theorem tZero_118 : tZero Tryz.prog 118 = some (.nilFunc) := by kernel_rfl
theorem tOne_119 : tOne Tryz.prog 119 = true := by kernel_rfl
theorem tZero_119 : tZero Tryz.prog 119 = some (.nilFunc) := by kernel_rfl
theorem tOne_120 : tOne Tryz.prog 120 = true := by kernel_rfl
theorem tZero_120 : tZero Tryz.prog 120 = some (.nilFunc) := by kernel_rfl
theorem tOne_121 : tOne Tryz.prog 121 = true := by kernel_rfl
theorem tZero_121 : tZero Tryz.prog 121 = some (.nilFunc) := by kernel_rfl
theorem tOne_122 : tOne Tryz.prog 122 = true := by kernel_rfl
theorem tZero_122 : tZero Tryz.prog 122 = some (.nilFunc) := by kernel_rfl
theorem tOne_123 : tOne Tryz.prog 123 = true := by kernel_rfl
theorem tZero_123 : tZero Tryz.prog 123 = some (.nilFunc) := by kernel_rfl
theorem tOne_124 : tOne Tryz.prog 124 = true := by kernel_rfl
theorem tZero_124 : tZero Tryz.prog 124 = some (.nilFunc) := by kernel_rfl
theorem tOne_125 : tOne Tryz.prog 125 = true := by kernel_rfl
theorem tZero_125 : tZero Tryz.prog 125 = some (.nilFunc) := by kernel_rfl
theorem tOne_126 : tOne Tryz.prog 126 = true := by kernel_rfl
theorem tZero_126 : tZero Tryz.prog 126 = some (.nilFunc) := by kernel_rfl
theorem tOne_127 : tOne Tryz.prog 127 = true := by kernel_rfl
theorem tZero_127 : tZero Tryz.prog 127 = some (.nilFunc) := by kernel_rfl
theorem tOne_128 : tOne Tryz.prog 128 = true := by kernel_rfl
theorem tZero_128 : tZero Tryz.prog 128 = some (.nilFunc) := by kernel_rfl
theorem tOne_129 : tOne Tryz.prog 129 = true := by kernel_rfl
theorem tZero_129 : tZero Tryz.prog 129 = some (.nilFunc) := by kernel_rfl
theorem tOne_130 : tOne Tryz.prog 130 = true := by kernel_rfl
theorem tZero_130 : tZero Tryz.prog 130 = some (.nilFunc) := by kernel_rfl
theorem tOne_131 : tOne Tryz.prog 131 = true := by kernel_rfl
theorem tZero_131 : tZero Tryz.prog 131 = some (.nilFunc) := by kernel_rfl
theorem tOne_132 : tOne Tryz.prog 132 = true := by kernel_rfl
theorem tZero_132 : tZero Tryz.prog 132 = some (.nilFunc) := by kernel_rfl
theorem tOne_133 : tOne Tryz.prog 133 = true := by kernel_rfl
theorem tZero_133 : tZero Tryz.prog 133 = some (.nilFunc) := by kernel_rfl
theorem tOne_134 : tOne Tryz.prog 134 = true := by kernel_rfl
theorem tZero_134 : tZero Tryz.prog 134 = some (.nilFunc) := by kernel_rfl
theorem tOne_135 : tOne Tryz.prog 135 = true := by kernel_rfl
theorem tZero_135 : tZero Tryz.prog 135 = some (.nilFunc) := by kernel_rfl
theorem tOne_136 : tOne Tryz.prog 136 = true := by kernel_rfl
theorem tZero_136 : tZero Tryz.prog 136 = some (.nilFunc) := by kernel_rfl
theorem tOne_137 : tOne Tryz.prog 137 = true := by kernel_rfl
theorem tMap_137 : tMap Tryz.prog 137 = true := by kernel_rfl
theorem tOne_138 : tOne Tryz.prog 138 = true := by kernel_rfl
theorem tZero_138 : tZero Tryz.prog 138 = some (.int .u64 0) := by kernel_rfl
theorem con_138 : Tryz.prog.concrete 138 = true := by kernel_rfl
theorem tOne_139 : tOne Tryz.prog 139 = true := by kernel_rfl
theorem tZero_139 : tZero Tryz.prog 139 = some (.nilFunc) := by kernel_rfl
theorem tOne_140 : tOne Tryz.prog 140 = true := by kernel_rfl
theorem tZero_140 : tZero Tryz.prog 140 = some (.nilFunc) := by kernel_rfl
theorem tOne_141 : tOne Tryz.prog 141 = true := by kernel_rfl
theorem tZero_141 : tZero Tryz.prog 141 = some (.nilFunc) := by kernel_rfl
theorem tOne_142 : tOne Tryz.prog 142 = true := by kernel_rfl
theorem tZero_142 : tZero Tryz.prog 142 = some (.nilFunc) := by kernel_rfl
theorem tOne_143 : tOne Tryz.prog 143 = true := by kernel_rfl
theorem tZero_143 : tZero Tryz.prog 143 = some (.nilFunc) := by kernel_rfl
theorem tOne_144 : tOne Tryz.prog 144 = true := by kernel_rfl
theorem tZero_144 : tZero Tryz.prog 144 = some (.nilFunc) := by kernel_rfl
theorem tOne_145 : tOne Tryz.prog 145 = true := by kernel_rfl
theorem tZero_145 : tZero Tryz.prog 145 = some (.nilFunc) := by kernel_rfl
theorem tOne_146 : tOne Tryz.prog 146 = true := by kernel_rfl
theorem tZero_146 : tZero Tryz.prog 146 = some (.int .i64 0) := by kernel_rfl
theorem con_146 : Tryz.prog.concrete 146 = true := by kernel_rfl
theorem tOne_148 : tOne Tryz.prog 148 = true := by kernel_rfl
theorem tZero_148 : tZero Tryz.prog 148 = some (.nilFunc) := by kernel_rfl
theorem tOne_149 : tOne Tryz.prog 149 = true := by kernel_rfl
theorem tZero_149 : tZero Tryz.prog 149 = some (.nilFunc) := by kernel_rfl
theorem tOne_150 : tOne Tryz.prog 150 = true := by kernel_rfl
theorem tZero_150 : tZero Tryz.prog 150 = some (.nilFunc) := by kernel_rfl
theorem tOne_151 : tOne Tryz.prog 151 = true := by kernel_rfl
theorem tZero_151 : tZero Tryz.prog 151 = some (.nilFunc) := by kernel_rfl
theorem tOne_152 : tOne Tryz.prog 152 = true := by kernel_rfl
theorem tZero_152 : tZero Tryz.prog 152 = some (.nilFunc) := by kernel_rfl
theorem tOne_153 : tOne Tryz.prog 153 = true := by kernel_rfl
theorem tZero_153 : tZero Tryz.prog 153 = some (.int .u32 0) := by kernel_rfl
theorem con_153 : Tryz.prog.concrete 153 = true := by kernel_rfl
theorem tOne_154 : tOne Tryz.prog 154 = true := by kernel_rfl
theorem tZero_154 : tZero Tryz.prog 154 = some (.nilFunc) := by kernel_rfl
theorem tOne_155 : tOne Tryz.prog 155 = true := by kernel_rfl
theorem tZero_155 : tZero Tryz.prog 155 = some (.int .u64 0) := by kernel_rfl
theorem con_155 : Tryz.prog.concrete 155 = true := by kernel_rfl
theorem tOne_156 : tOne Tryz.prog 156 = true := by kernel_rfl
theorem tZero_156 : tZero Tryz.prog 156 = some (.nilFunc) := by kernel_rfl
theorem tOne_157 : tOne Tryz.prog 157 = true := by kernel_rfl
theorem tZero_157 : tZero Tryz.prog 157 = some (.nilFunc) := by kernel_rfl
theorem tOne_158 : tOne Tryz.prog 158 = true := by kernel_rfl
theorem tZero_158 : tZero Tryz.prog 158 = some (.nilFunc) := by kernel_rfl
theorem tOne_159 : tOne Tryz.prog 159 = true := by kernel_rfl
theorem tZero_159 : tZero Tryz.prog 159 = some (.pointer none) := by kernel_rfl
theorem tOne_160 : tOne Tryz.prog 160 = true := by kernel_rfl
theorem tZero_160 : tZero Tryz.prog 160 = some (.nilFunc) := by kernel_rfl
theorem tOne_161 : tOne Tryz.prog 161 = true := by kernel_rfl
theorem tZero_161 : tZero Tryz.prog 161 = some (.pointer none) := by kernel_rfl
theorem tOne_163 : tOne Tryz.prog 163 = true := by kernel_rfl
theorem tZero_163 : tZero Tryz.prog 163 = some (.nilFunc) := by kernel_rfl
theorem tOne_164 : tOne Tryz.prog 164 = true := by kernel_rfl
theorem tZero_164 : tZero Tryz.prog 164 = some (.nilFunc) := by kernel_rfl
theorem tAgg_165 : tAgg Tryz.prog 165 = some 4 := by kernel_rfl
theorem tB_165 : tB Tryz.prog 165 = some ([(0, 1), (1, 1), (2, 1), (3, 1)], [.pointer none, .pointer none, .pointer none, .string ⟨#[]⟩]) := by kernel_rfl
theorem tFe_165_0 : tFe Tryz.prog 165 0 = some (0, none) := by kernel_rfl
theorem tFld_165_0 : tFld Tryz.prog 165 0 = some 0 := by kernel_rfl
theorem tFe_165_1 : tFe Tryz.prog 165 1 = some (1, none) := by kernel_rfl
theorem tFld_165_1 : tFld Tryz.prog 165 1 = some 1 := by kernel_rfl
theorem tFe_165_2 : tFe Tryz.prog 165 2 = some (2, none) := by kernel_rfl
theorem tFld_165_2 : tFld Tryz.prog 165 2 = some 2 := by kernel_rfl
theorem tFe_165_3 : tFe Tryz.prog 165 3 = some (3, none) := by kernel_rfl
theorem tFld_165_3 : tFld Tryz.prog 165 3 = some 3 := by kernel_rfl
theorem tZero_165 : tZero Tryz.prog 165 = some (.agg #[.pointer none, .pointer none, .pointer none, .string ⟨#[]⟩]) := by kernel_rfl
theorem tAgg_166 : tAgg Tryz.prog 166 = some 4 := by kernel_rfl
theorem tB_166 : tB Tryz.prog 166 = some ([(0, 1), (1, 1), (2, 1), (3, 1)], [.pointer none, .pointer none, .pointer none, .string ⟨#[]⟩]) := by kernel_rfl
theorem tFe_166_0 : tFe Tryz.prog 166 0 = some (0, none) := by kernel_rfl
theorem tFld_166_0 : tFld Tryz.prog 166 0 = some 0 := by kernel_rfl
theorem tFe_166_1 : tFe Tryz.prog 166 1 = some (1, none) := by kernel_rfl
theorem tFld_166_1 : tFld Tryz.prog 166 1 = some 1 := by kernel_rfl
theorem tFe_166_2 : tFe Tryz.prog 166 2 = some (2, none) := by kernel_rfl
theorem tFld_166_2 : tFld Tryz.prog 166 2 = some 2 := by kernel_rfl
theorem tFe_166_3 : tFe Tryz.prog 166 3 = some (3, none) := by kernel_rfl
theorem tFld_166_3 : tFld Tryz.prog 166 3 = some 3 := by kernel_rfl
theorem tZero_166 : tZero Tryz.prog 166 = some (.agg #[.pointer none, .pointer none, .pointer none, .string ⟨#[]⟩]) := by kernel_rfl
theorem tAgg_168 : tAgg Tryz.prog 168 = some 0 := by kernel_rfl
theorem tAgg_169 : tAgg Tryz.prog 169 = some 0 := by kernel_rfl
theorem tOne_170 : tOne Tryz.prog 170 = true := by kernel_rfl
theorem tZero_170 : tZero Tryz.prog 170 = some (.nilFunc) := by kernel_rfl
theorem tOne_171 : tOne Tryz.prog 171 = true := by kernel_rfl
theorem tZero_171 : tZero Tryz.prog 171 = some (.int .u8 0) := by kernel_rfl
theorem con_171 : Tryz.prog.concrete 171 = true := by kernel_rfl
theorem tOne_172 : tOne Tryz.prog 172 = true := by kernel_rfl
theorem tZero_172 : tZero Tryz.prog 172 = some (.int .u8 0) := by kernel_rfl
theorem con_172 : Tryz.prog.concrete 172 = true := by kernel_rfl
theorem tOne_173 : tOne Tryz.prog 173 = true := by kernel_rfl
theorem tZero_173 : tZero Tryz.prog 173 = some (.nilFunc) := by kernel_rfl
theorem tOne_174 : tOne Tryz.prog 174 = true := by kernel_rfl
theorem tZero_174 : tZero Tryz.prog 174 = some (.pointer none) := by kernel_rfl
theorem tOne_175 : tOne Tryz.prog 175 = true := by kernel_rfl
theorem tZero_175 : tZero Tryz.prog 175 = some (.int .i32 0) := by kernel_rfl
theorem con_175 : Tryz.prog.concrete 175 = true := by kernel_rfl
theorem tOne_176 : tOne Tryz.prog 176 = true := by kernel_rfl
theorem tZero_176 : tZero Tryz.prog 176 = some (.int .i32 0) := by kernel_rfl
theorem con_176 : Tryz.prog.concrete 176 = true := by kernel_rfl
theorem tAgg_177 : tAgg Tryz.prog 177 = some 11 := by kernel_rfl
theorem tB_177 : tB Tryz.prog 177 = some ([(0, 1), (1, 1), (2, 1), (3, 1), (4, 1), (5, 1), (6, 1), (7, 1), (8, 1), (9, 1), (10, 1)], [.int .u64 0, .int .u64 0, .int .u32 0, .int .u8 0, .int .u8 0, .int .u8 0, .int .u8 0, .nilFunc, .pointer none, .int .i32 0, .int .i32 0]) := by kernel_rfl
theorem tFe_177_0 : tFe Tryz.prog 177 0 = some (0, none) := by kernel_rfl
theorem tFld_177_0 : tFld Tryz.prog 177 0 = some 0 := by kernel_rfl
theorem tFe_177_1 : tFe Tryz.prog 177 1 = some (1, none) := by kernel_rfl
theorem tFld_177_1 : tFld Tryz.prog 177 1 = some 1 := by kernel_rfl
theorem tFe_177_2 : tFe Tryz.prog 177 2 = some (2, none) := by kernel_rfl
theorem tFld_177_2 : tFld Tryz.prog 177 2 = some 2 := by kernel_rfl
theorem tFe_177_3 : tFe Tryz.prog 177 3 = some (3, none) := by kernel_rfl
theorem tFld_177_3 : tFld Tryz.prog 177 3 = some 3 := by kernel_rfl
theorem tFe_177_4 : tFe Tryz.prog 177 4 = some (4, none) := by kernel_rfl
theorem tFld_177_4 : tFld Tryz.prog 177 4 = some 4 := by kernel_rfl
theorem tFe_177_5 : tFe Tryz.prog 177 5 = some (5, none) := by kernel_rfl
theorem tFld_177_5 : tFld Tryz.prog 177 5 = some 5 := by kernel_rfl
theorem tFe_177_6 : tFe Tryz.prog 177 6 = some (6, none) := by kernel_rfl
theorem tFld_177_6 : tFld Tryz.prog 177 6 = some 6 := by kernel_rfl
theorem tFe_177_7 : tFe Tryz.prog 177 7 = some (7, none) := by kernel_rfl
theorem tFld_177_7 : tFld Tryz.prog 177 7 = some 7 := by kernel_rfl
theorem tFe_177_8 : tFe Tryz.prog 177 8 = some (8, none) := by kernel_rfl
theorem tFld_177_8 : tFld Tryz.prog 177 8 = some 8 := by kernel_rfl
theorem tFe_177_9 : tFe Tryz.prog 177 9 = some (9, none) := by kernel_rfl
theorem tFld_177_9 : tFld Tryz.prog 177 9 = some 9 := by kernel_rfl
theorem tFe_177_10 : tFe Tryz.prog 177 10 = some (10, none) := by kernel_rfl
theorem tFld_177_10 : tFld Tryz.prog 177 10 = some 10 := by kernel_rfl
theorem tZero_177 : tZero Tryz.prog 177 = some (.agg #[.int .u64 0, .int .u64 0, .int .u32 0, .int .u8 0, .int .u8 0, .int .u8 0, .int .u8 0, .nilFunc, .pointer none, .int .i32 0, .int .i32 0]) := by kernel_rfl
theorem tAgg_178 : tAgg Tryz.prog 178 = some 11 := by kernel_rfl
theorem tB_178 : tB Tryz.prog 178 = some ([(0, 1), (1, 1), (2, 1), (3, 1), (4, 1), (5, 1), (6, 1), (7, 1), (8, 1), (9, 1), (10, 1)], [.int .u64 0, .int .u64 0, .int .u32 0, .int .u8 0, .int .u8 0, .int .u8 0, .int .u8 0, .nilFunc, .pointer none, .int .i32 0, .int .i32 0]) := by kernel_rfl
theorem tFe_178_0 : tFe Tryz.prog 178 0 = some (0, none) := by kernel_rfl
theorem tFld_178_0 : tFld Tryz.prog 178 0 = some 0 := by kernel_rfl
theorem tFe_178_1 : tFe Tryz.prog 178 1 = some (1, none) := by kernel_rfl
theorem tFld_178_1 : tFld Tryz.prog 178 1 = some 1 := by kernel_rfl
theorem tFe_178_2 : tFe Tryz.prog 178 2 = some (2, none) := by kernel_rfl
theorem tFld_178_2 : tFld Tryz.prog 178 2 = some 2 := by kernel_rfl
theorem tFe_178_3 : tFe Tryz.prog 178 3 = some (3, none) := by kernel_rfl
theorem tFld_178_3 : tFld Tryz.prog 178 3 = some 3 := by kernel_rfl
theorem tFe_178_4 : tFe Tryz.prog 178 4 = some (4, none) := by kernel_rfl
theorem tFld_178_4 : tFld Tryz.prog 178 4 = some 4 := by kernel_rfl
theorem tFe_178_5 : tFe Tryz.prog 178 5 = some (5, none) := by kernel_rfl
theorem tFld_178_5 : tFld Tryz.prog 178 5 = some 5 := by kernel_rfl
theorem tFe_178_6 : tFe Tryz.prog 178 6 = some (6, none) := by kernel_rfl
theorem tFld_178_6 : tFld Tryz.prog 178 6 = some 6 := by kernel_rfl
theorem tFe_178_7 : tFe Tryz.prog 178 7 = some (7, none) := by kernel_rfl
theorem tFld_178_7 : tFld Tryz.prog 178 7 = some 7 := by kernel_rfl
theorem tFe_178_8 : tFe Tryz.prog 178 8 = some (8, none) := by kernel_rfl
theorem tFld_178_8 : tFld Tryz.prog 178 8 = some 8 := by kernel_rfl
theorem tFe_178_9 : tFe Tryz.prog 178 9 = some (9, none) := by kernel_rfl
theorem tFld_178_9 : tFld Tryz.prog 178 9 = some 9 := by kernel_rfl
theorem tFe_178_10 : tFe Tryz.prog 178 10 = some (10, none) := by kernel_rfl
theorem tFld_178_10 : tFld Tryz.prog 178 10 = some 10 := by kernel_rfl
theorem tZero_178 : tZero Tryz.prog 178 = some (.agg #[.int .u64 0, .int .u64 0, .int .u32 0, .int .u8 0, .int .u8 0, .int .u8 0, .int .u8 0, .nilFunc, .pointer none, .int .i32 0, .int .i32 0]) := by kernel_rfl
theorem tApp_22 : tApp Tryz.prog 22 11 = some (37, 120) := by kernel_rfl
theorem tInf_22 : ((Tryz.prog.info? 37).map (·.size)).isSome = true := by kernel_rfl
theorem tApp_25 : tApp Tryz.prog 25 5 = some (39, 40) := by kernel_rfl
theorem tInf_25 : ((Tryz.prog.info? 39).map (·.size)).isSome = true := by kernel_rfl
theorem tApp_26 : tApp Tryz.prog 26 3 = some (74, 32) := by kernel_rfl
theorem tInf_26 : ((Tryz.prog.info? 74).map (·.size)).isSome = true := by kernel_rfl
theorem tApp_27 : tApp Tryz.prog 27 3 = some (93, 24) := by kernel_rfl
theorem tInf_27 : ((Tryz.prog.info? 93).map (·.size)).isSome = true := by kernel_rfl
theorem tApp_28 : tApp Tryz.prog 28 4 = some (52, 40) := by kernel_rfl
theorem tInf_28 : ((Tryz.prog.info? 52).map (·.size)).isSome = true := by kernel_rfl
theorem tApp_35 : tApp Tryz.prog 35 3 = some (106, 40) := by kernel_rfl
theorem tInf_35 : ((Tryz.prog.info? 106).map (·.size)).isSome = true := by kernel_rfl
theorem tApp_116 : tApp Tryz.prog 116 1 = some (3, 8) := by kernel_rfl
theorem tInf_116 : ((Tryz.prog.info? 3).map (·.size)).isSome = true := by kernel_rfl
theorem eg_2 : ∀ args w, (callFunc 2 args).run Tryz.prog w = .ok (.enter 2 args) w := enters_of Tryz.func2 (by kernel_rfl) rfl
theorem eg_3 : ∀ args w, (callFunc 3 args).run Tryz.prog w = .ok (.enter 3 args) w := enters_of Tryz.func3 (by kernel_rfl) rfl
theorem eg_4 : ∀ args w, (callFunc 4 args).run Tryz.prog w = .ok (.enter 4 args) w := enters_of Tryz.func4 (by kernel_rfl) rfl
theorem eg_5 : ∀ args w, (callFunc 5 args).run Tryz.prog w = .ok (.enter 5 args) w := enters_of Tryz.func5 (by kernel_rfl) rfl
theorem eg_6 : ∀ args w, (callFunc 6 args).run Tryz.prog w = .ok (.enter 6 args) w := enters_of Tryz.func6 (by kernel_rfl) rfl
theorem eg_7 : ∀ args w, (callFunc 7 args).run Tryz.prog w = .ok (.enter 7 args) w := enters_of Tryz.func7 (by kernel_rfl) rfl
theorem eg_8 : ∀ args w, (callFunc 8 args).run Tryz.prog w = .ok (.enter 8 args) w := enters_of Tryz.func8 (by kernel_rfl) rfl
theorem eg_9 : ∀ args w, (callFunc 9 args).run Tryz.prog w = .ok (.enter 9 args) w := enters_of Tryz.func9 (by kernel_rfl) rfl
theorem eg_10 : ∀ args w, (callFunc 10 args).run Tryz.prog w = .ok (.enter 10 args) w := enters_of Tryz.func10 (by kernel_rfl) rfl
theorem eg_11 : ∀ args w, (callFunc 11 args).run Tryz.prog w = .ok (.enter 11 args) w := enters_of Tryz.func11 (by kernel_rfl) rfl
theorem eg_12 : ∀ args w, (callFunc 12 args).run Tryz.prog w = .ok (.enter 12 args) w := enters_of Tryz.func12 (by kernel_rfl) rfl
theorem eg_13 : ∀ args w, (callFunc 13 args).run Tryz.prog w = .ok (.enter 13 args) w := enters_of Tryz.func13 (by kernel_rfl) rfl
theorem eg_14 : ∀ args w, (callFunc 14 args).run Tryz.prog w = .ok (.enter 14 args) w := enters_of Tryz.func14 (by kernel_rfl) rfl
theorem eg_15 : ∀ args w, (callFunc 15 args).run Tryz.prog w = .ok (.enter 15 args) w := enters_of Tryz.func15 (by kernel_rfl) rfl
theorem eg_16 : ∀ args w, (callFunc 16 args).run Tryz.prog w = .ok (.enter 16 args) w := enters_of Tryz.func16 (by kernel_rfl) rfl
theorem eg_17 : ∀ args w, (callFunc 17 args).run Tryz.prog w = .ok (.enter 17 args) w := enters_of Tryz.func17 (by kernel_rfl) rfl
theorem eg_18 : ∀ args w, (callFunc 18 args).run Tryz.prog w = .ok (.enter 18 args) w := enters_of Tryz.func18 (by kernel_rfl) rfl
theorem eg_19 : ∀ args w, (callFunc 19 args).run Tryz.prog w = .ok (.enter 19 args) w := enters_of Tryz.func19 (by kernel_rfl) rfl
theorem eg_20 : ∀ args w, (callFunc 20 args).run Tryz.prog w = .ok (.enter 20 args) w := enters_of Tryz.func20 (by kernel_rfl) rfl
theorem eg_21 : ∀ args w, (callFunc 21 args).run Tryz.prog w = .ok (.enter 21 args) w := enters_of Tryz.func21 (by kernel_rfl) rfl
theorem eg_22 : ∀ args w, (callFunc 22 args).run Tryz.prog w = .ok (.enter 22 args) w := enters_of Tryz.func22 (by kernel_rfl) rfl
theorem eg_23 : ∀ args w, (callFunc 23 args).run Tryz.prog w = .ok (.enter 23 args) w := enters_of Tryz.func23 (by kernel_rfl) rfl
theorem eg_24 : ∀ args w, (callFunc 24 args).run Tryz.prog w = .ok (.enter 24 args) w := enters_of Tryz.func24 (by kernel_rfl) rfl
theorem eg_25 : ∀ args w, (callFunc 25 args).run Tryz.prog w = .ok (.enter 25 args) w := enters_of Tryz.func25 (by kernel_rfl) rfl
theorem eg_26 : ∀ args w, (callFunc 26 args).run Tryz.prog w = .ok (.enter 26 args) w := enters_of Tryz.func26 (by kernel_rfl) rfl
theorem eg_27 : ∀ args w, (callFunc 27 args).run Tryz.prog w = .ok (.enter 27 args) w := enters_of Tryz.func27 (by kernel_rfl) rfl
theorem eg_28 : ∀ args w, (callFunc 28 args).run Tryz.prog w = .ok (.enter 28 args) w := enters_of Tryz.func28 (by kernel_rfl) rfl
theorem eg_29 : ∀ args w, (callFunc 29 args).run Tryz.prog w = .ok (.enter 29 args) w := enters_of Tryz.func29 (by kernel_rfl) rfl
theorem eg_30 : ∀ args w, (callFunc 30 args).run Tryz.prog w = .ok (.enter 30 args) w := enters_of Tryz.func30 (by kernel_rfl) rfl
theorem eg_31 : ∀ args w, (callFunc 31 args).run Tryz.prog w = .ok (.enter 31 args) w := enters_of Tryz.func31 (by kernel_rfl) rfl
theorem eg_32 : ∀ args w, (callFunc 32 args).run Tryz.prog w = .ok (.enter 32 args) w := enters_of Tryz.func32 (by kernel_rfl) rfl
theorem eg_33 : ∀ args w, (callFunc 33 args).run Tryz.prog w = .ok (.enter 33 args) w := enters_of Tryz.func33 (by kernel_rfl) rfl
theorem eg_34 : ∀ args w, (callFunc 34 args).run Tryz.prog w = .ok (.enter 34 args) w := enters_of Tryz.func34 (by kernel_rfl) rfl
theorem eg_35 : ∀ args w, (callFunc 35 args).run Tryz.prog w = .ok (.enter 35 args) w := enters_of Tryz.func35 (by kernel_rfl) rfl
theorem eg_36 : ∀ args w, (callFunc 36 args).run Tryz.prog w = .ok (.enter 36 args) w := enters_of Tryz.func36 (by kernel_rfl) rfl
theorem eg_37 : ∀ args w, (callFunc 37 args).run Tryz.prog w = .ok (.enter 37 args) w := enters_of Tryz.func37 (by kernel_rfl) rfl
theorem eg_38 : ∀ args w, (callFunc 38 args).run Tryz.prog w = .ok (.enter 38 args) w := enters_of Tryz.func38 (by kernel_rfl) rfl
theorem eg_39 : ∀ args w, (callFunc 39 args).run Tryz.prog w = .ok (.enter 39 args) w := enters_of Tryz.func39 (by kernel_rfl) rfl
theorem eg_40 : ∀ args w, (callFunc 40 args).run Tryz.prog w = .ok (.enter 40 args) w := enters_of Tryz.func40 (by kernel_rfl) rfl
theorem eg_41 : ∀ args w, (callFunc 41 args).run Tryz.prog w = .ok (.enter 41 args) w := enters_of Tryz.func41 (by kernel_rfl) rfl
theorem eg_42 : ∀ args w, (callFunc 42 args).run Tryz.prog w = .ok (.enter 42 args) w := enters_of Tryz.func42 (by kernel_rfl) rfl
theorem eg_43 : ∀ args w, (callFunc 43 args).run Tryz.prog w = .ok (.enter 43 args) w := enters_of Tryz.func43 (by kernel_rfl) rfl
theorem eg_44 : ∀ args w, (callFunc 44 args).run Tryz.prog w = .ok (.enter 44 args) w := enters_of Tryz.func44 (by kernel_rfl) rfl
theorem eg_45 : ∀ args w, (callFunc 45 args).run Tryz.prog w = .ok (.enter 45 args) w := enters_of Tryz.func45 (by kernel_rfl) rfl
theorem eg_46 : ∀ args w, (callFunc 46 args).run Tryz.prog w = .ok (.enter 46 args) w := enters_of Tryz.func46 (by kernel_rfl) rfl
theorem eg_47 : ∀ args w, (callFunc 47 args).run Tryz.prog w = .ok (.enter 47 args) w := enters_of Tryz.func47 (by kernel_rfl) rfl
theorem eg_48 : ∀ args w, (callFunc 48 args).run Tryz.prog w = .ok (.enter 48 args) w := enters_of Tryz.func48 (by kernel_rfl) rfl
theorem eg_49 : ∀ args w, (callFunc 49 args).run Tryz.prog w = .ok (.enter 49 args) w := enters_of Tryz.func49 (by kernel_rfl) rfl
theorem eg_50 : ∀ args w, (callFunc 50 args).run Tryz.prog w = .ok (.enter 50 args) w := enters_of Tryz.func50 (by kernel_rfl) rfl
theorem eg_51 : ∀ args w, (callFunc 51 args).run Tryz.prog w = .ok (.enter 51 args) w := enters_of Tryz.func51 (by kernel_rfl) rfl
theorem eg_52 : ∀ args w, (callFunc 52 args).run Tryz.prog w = .ok (.enter 52 args) w := enters_of Tryz.func52 (by kernel_rfl) rfl
theorem eg_53 : ∀ args w, (callFunc 53 args).run Tryz.prog w = .ok (.enter 53 args) w := enters_of Tryz.func53 (by kernel_rfl) rfl
theorem eg_54 : ∀ args w, (callFunc 54 args).run Tryz.prog w = .ok (.enter 54 args) w := enters_of Tryz.func54 (by kernel_rfl) rfl
theorem eg_55 : ∀ args w, (callFunc 55 args).run Tryz.prog w = .ok (.enter 55 args) w := enters_of Tryz.func55 (by kernel_rfl) rfl
theorem eg_56 : ∀ args w, (callFunc 56 args).run Tryz.prog w = .ok (.enter 56 args) w := enters_of Tryz.func56 (by kernel_rfl) rfl
theorem eg_57 : ∀ args w, (callFunc 57 args).run Tryz.prog w = .ok (.enter 57 args) w := enters_of Tryz.func57 (by kernel_rfl) rfl
theorem eg_58 : ∀ args w, (callFunc 58 args).run Tryz.prog w = .ok (.enter 58 args) w := enters_of Tryz.func58 (by kernel_rfl) rfl
theorem eg_59 : ∀ args w, (callFunc 59 args).run Tryz.prog w = .ok (.enter 59 args) w := enters_of Tryz.func59 (by kernel_rfl) rfl
theorem eg_60 : ∀ args w, (callFunc 60 args).run Tryz.prog w = .ok (.enter 60 args) w := enters_of Tryz.func60 (by kernel_rfl) rfl
theorem eg_61 : ∀ args w, (callFunc 61 args).run Tryz.prog w = .ok (.enter 61 args) w := enters_of Tryz.func61 (by kernel_rfl) rfl
theorem eg_62 : ∀ args w, (callFunc 62 args).run Tryz.prog w = .ok (.enter 62 args) w := enters_of Tryz.func62 (by kernel_rfl) rfl
theorem eg_63 : ∀ args w, (callFunc 63 args).run Tryz.prog w = .ok (.enter 63 args) w := enters_of Tryz.func63 (by kernel_rfl) rfl
theorem eg_64 : ∀ args w, (callFunc 64 args).run Tryz.prog w = .ok (.enter 64 args) w := enters_of Tryz.func64 (by kernel_rfl) rfl
theorem eg_65 : ∀ args w, (callFunc 65 args).run Tryz.prog w = .ok (.enter 65 args) w := enters_of Tryz.func65 (by kernel_rfl) rfl
theorem eg_66 : ∀ args w, (callFunc 66 args).run Tryz.prog w = .ok (.enter 66 args) w := enters_of Tryz.func66 (by kernel_rfl) rfl
theorem eg_67 : ∀ args w, (callFunc 67 args).run Tryz.prog w = .ok (.enter 67 args) w := enters_of Tryz.func67 (by kernel_rfl) rfl
theorem eg_68 : ∀ args w, (callFunc 68 args).run Tryz.prog w = .ok (.enter 68 args) w := enters_of Tryz.func68 (by kernel_rfl) rfl
theorem eg_69 : ∀ args w, (callFunc 69 args).run Tryz.prog w = .ok (.enter 69 args) w := enters_of Tryz.func69 (by kernel_rfl) rfl
theorem eg_70 : ∀ args w, (callFunc 70 args).run Tryz.prog w = .ok (.enter 70 args) w := enters_of Tryz.func70 (by kernel_rfl) rfl
theorem eg_71 : ∀ args w, (callFunc 71 args).run Tryz.prog w = .ok (.enter 71 args) w := enters_of Tryz.func71 (by kernel_rfl) rfl
theorem eg_72 : ∀ args w, (callFunc 72 args).run Tryz.prog w = .ok (.enter 72 args) w := enters_of Tryz.func72 (by kernel_rfl) rfl
theorem eg_73 : ∀ args w, (callFunc 73 args).run Tryz.prog w = .ok (.enter 73 args) w := enters_of Tryz.func73 (by kernel_rfl) rfl
theorem eg_74 : ∀ args w, (callFunc 74 args).run Tryz.prog w = .ok (.enter 74 args) w := enters_of Tryz.func74 (by kernel_rfl) rfl
theorem eg_75 : ∀ args w, (callFunc 75 args).run Tryz.prog w = .ok (.enter 75 args) w := enters_of Tryz.func75 (by kernel_rfl) rfl
theorem eg_76 : ∀ args w, (callFunc 76 args).run Tryz.prog w = .ok (.enter 76 args) w := enters_of Tryz.func76 (by kernel_rfl) rfl
theorem eg_77 : ∀ args w, (callFunc 77 args).run Tryz.prog w = .ok (.enter 77 args) w := enters_of Tryz.func77 (by kernel_rfl) rfl
theorem eg_78 : ∀ args w, (callFunc 78 args).run Tryz.prog w = .ok (.enter 78 args) w := enters_of Tryz.func78 (by kernel_rfl) rfl
theorem eg_79 : ∀ args w, (callFunc 79 args).run Tryz.prog w = .ok (.enter 79 args) w := enters_of Tryz.func79 (by kernel_rfl) rfl
theorem eg_80 : ∀ args w, (callFunc 80 args).run Tryz.prog w = .ok (.enter 80 args) w := enters_of Tryz.func80 (by kernel_rfl) rfl
theorem eg_81 : ∀ args w, (callFunc 81 args).run Tryz.prog w = .ok (.enter 81 args) w := enters_of Tryz.func81 (by kernel_rfl) rfl
theorem eg_82 : ∀ args w, (callFunc 82 args).run Tryz.prog w = .ok (.enter 82 args) w := enters_of Tryz.func82 (by kernel_rfl) rfl
theorem eg_83 : ∀ args w, (callFunc 83 args).run Tryz.prog w = .ok (.enter 83 args) w := enters_of Tryz.func83 (by kernel_rfl) rfl
theorem eg_84 : ∀ args w, (callFunc 84 args).run Tryz.prog w = .ok (.enter 84 args) w := enters_of Tryz.func84 (by kernel_rfl) rfl
theorem eg_85 : ∀ args w, (callFunc 85 args).run Tryz.prog w = .ok (.enter 85 args) w := enters_of Tryz.func85 (by kernel_rfl) rfl
theorem eg_86 : ∀ args w, (callFunc 86 args).run Tryz.prog w = .ok (.enter 86 args) w := enters_of Tryz.func86 (by kernel_rfl) rfl
theorem eg_87 : ∀ args w, (callFunc 87 args).run Tryz.prog w = .ok (.enter 87 args) w := enters_of Tryz.func87 (by kernel_rfl) rfl
theorem eg_88 : ∀ args w, (callFunc 88 args).run Tryz.prog w = .ok (.enter 88 args) w := enters_of Tryz.func88 (by kernel_rfl) rfl
theorem eg_89 : ∀ args w, (callFunc 89 args).run Tryz.prog w = .ok (.enter 89 args) w := enters_of Tryz.func89 (by kernel_rfl) rfl
theorem eg_90 : ∀ args w, (callFunc 90 args).run Tryz.prog w = .ok (.enter 90 args) w := enters_of Tryz.func90 (by kernel_rfl) rfl
theorem eg_91 : ∀ args w, (callFunc 91 args).run Tryz.prog w = .ok (.enter 91 args) w := enters_of Tryz.func91 (by kernel_rfl) rfl
theorem eg_92 : ∀ args w, (callFunc 92 args).run Tryz.prog w = .ok (.enter 92 args) w := enters_of Tryz.func92 (by kernel_rfl) rfl
theorem eg_94 : ∀ args w, (callFunc 94 args).run Tryz.prog w = .ok (.enter 94 args) w := enters_of Tryz.func94 (by kernel_rfl) rfl
theorem eg_95 : ∀ args w, (callFunc 95 args).run Tryz.prog w = .ok (.enter 95 args) w := enters_of Tryz.func95 (by kernel_rfl) rfl
theorem eg_96 : ∀ args w, (callFunc 96 args).run Tryz.prog w = .ok (.enter 96 args) w := enters_of Tryz.func96 (by kernel_rfl) rfl
theorem eg_97 : ∀ args w, (callFunc 97 args).run Tryz.prog w = .ok (.enter 97 args) w := enters_of Tryz.func97 (by kernel_rfl) rfl
theorem eg_98 : ∀ args w, (callFunc 98 args).run Tryz.prog w = .ok (.enter 98 args) w := enters_of Tryz.func98 (by kernel_rfl) rfl
theorem eg_99 : ∀ args w, (callFunc 99 args).run Tryz.prog w = .ok (.enter 99 args) w := enters_of Tryz.func99 (by kernel_rfl) rfl
theorem eg_100 : ∀ args w, (callFunc 100 args).run Tryz.prog w = .ok (.enter 100 args) w := enters_of Tryz.func100 (by kernel_rfl) rfl
theorem eg_101 : ∀ args w, (callFunc 101 args).run Tryz.prog w = .ok (.enter 101 args) w := enters_of Tryz.func101 (by kernel_rfl) rfl
theorem eg_102 : ∀ args w, (callFunc 102 args).run Tryz.prog w = .ok (.enter 102 args) w := enters_of Tryz.func102 (by kernel_rfl) rfl
theorem eg_103 : ∀ args w, (callFunc 103 args).run Tryz.prog w = .ok (.enter 103 args) w := enters_of Tryz.func103 (by kernel_rfl) rfl
theorem eg_104 : ∀ args w, (callFunc 104 args).run Tryz.prog w = .ok (.enter 104 args) w := enters_of Tryz.func104 (by kernel_rfl) rfl
theorem eg_105 : ∀ args w, (callFunc 105 args).run Tryz.prog w = .ok (.enter 105 args) w := enters_of Tryz.func105 (by kernel_rfl) rfl
theorem eg_106 : ∀ args w, (callFunc 106 args).run Tryz.prog w = .ok (.enter 106 args) w := enters_of Tryz.func106 (by kernel_rfl) rfl
theorem eg_107 : ∀ args w, (callFunc 107 args).run Tryz.prog w = .ok (.enter 107 args) w := enters_of Tryz.func107 (by kernel_rfl) rfl
theorem eg_108 : ∀ args w, (callFunc 108 args).run Tryz.prog w = .ok (.enter 108 args) w := enters_of Tryz.func108 (by kernel_rfl) rfl
theorem eg_109 : ∀ args w, (callFunc 109 args).run Tryz.prog w = .ok (.enter 109 args) w := enters_of Tryz.func109 (by kernel_rfl) rfl
theorem eg_110 : ∀ args w, (callFunc 110 args).run Tryz.prog w = .ok (.enter 110 args) w := enters_of Tryz.func110 (by kernel_rfl) rfl
theorem eg_111 : ∀ args w, (callFunc 111 args).run Tryz.prog w = .ok (.enter 111 args) w := enters_of Tryz.func111 (by kernel_rfl) rfl
theorem eg_112 : ∀ args w, (callFunc 112 args).run Tryz.prog w = .ok (.enter 112 args) w := enters_of Tryz.func112 (by kernel_rfl) rfl
theorem eg_113 : ∀ args w, (callFunc 113 args).run Tryz.prog w = .ok (.enter 113 args) w := enters_of Tryz.func113 (by kernel_rfl) rfl
theorem eg_114 : ∀ args w, (callFunc 114 args).run Tryz.prog w = .ok (.enter 114 args) w := enters_of Tryz.func114 (by kernel_rfl) rfl
theorem eg_115 : ∀ args w, (callFunc 115 args).run Tryz.prog w = .ok (.enter 115 args) w := enters_of Tryz.func115 (by kernel_rfl) rfl
theorem eg_116 : ∀ args w, (callFunc 116 args).run Tryz.prog w = .ok (.enter 116 args) w := enters_of Tryz.func116 (by kernel_rfl) rfl
theorem eg_117 : ∀ args w, (callFunc 117 args).run Tryz.prog w = .ok (.enter 117 args) w := enters_of Tryz.func117 (by kernel_rfl) rfl
theorem eg_118 : ∀ args w, (callFunc 118 args).run Tryz.prog w = .ok (.enter 118 args) w := enters_of Tryz.func118 (by kernel_rfl) rfl
theorem eg_119 : ∀ args w, (callFunc 119 args).run Tryz.prog w = .ok (.enter 119 args) w := enters_of Tryz.func119 (by kernel_rfl) rfl
theorem eg_120 : ∀ args w, (callFunc 120 args).run Tryz.prog w = .ok (.enter 120 args) w := enters_of Tryz.func120 (by kernel_rfl) rfl
theorem eg_121 : ∀ args w, (callFunc 121 args).run Tryz.prog w = .ok (.enter 121 args) w := enters_of Tryz.func121 (by kernel_rfl) rfl
theorem eg_122 : ∀ args w, (callFunc 122 args).run Tryz.prog w = .ok (.enter 122 args) w := enters_of Tryz.func122 (by kernel_rfl) rfl
theorem eg_123 : ∀ args w, (callFunc 123 args).run Tryz.prog w = .ok (.enter 123 args) w := enters_of Tryz.func123 (by kernel_rfl) rfl
end Go.Proofs.YtpipachmngdegaaGreat
end
