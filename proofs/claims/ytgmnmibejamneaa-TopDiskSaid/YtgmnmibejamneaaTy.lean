/-
  Facts on the types and the functions of this seat, each a closed computation.
-/
import Derived.Test.YtgmnmibejamneaaR5
import Derived.Test.YtgmnmibejamneaaProg
import Derived.Shelf.Abstract
namespace Go.Proofs.Ytgmnmibejamneaa
open Go Go.RowKit
set_option linter.unusedVariables false
set_option maxRecDepth 100000
theorem mixed : Try.prog.follows .mixedOrders = true := by kernel_rfl
theorem tOne_1 : tOne Try.prog 1 = true := by kernel_rfl
theorem tOne_2 : tOne Try.prog 2 = true := by kernel_rfl
theorem tZero_2 : tZero Try.prog 2 = some (.int .i64 0) := by kernel_rfl
theorem con_2 : Try.prog.concrete 2 = true := by kernel_rfl
theorem tOne_3 : tOne Try.prog 3 = true := by kernel_rfl
theorem tZero_3 : tZero Try.prog 3 = some (.int .i64 0) := by kernel_rfl
theorem con_3 : Try.prog.concrete 3 = true := by kernel_rfl
theorem tOne_4 : tOne Try.prog 4 = true := by kernel_rfl
theorem tZero_4 : tZero Try.prog 4 = some (.bool false) := by kernel_rfl
theorem tOne_5 : tOne Try.prog 5 = true := by kernel_rfl
theorem tZero_5 : tZero Try.prog 5 = some (.int .u8 0) := by kernel_rfl
theorem con_5 : Try.prog.concrete 5 = true := by kernel_rfl
theorem tOne_6 : tOne Try.prog 6 = true := by kernel_rfl
theorem tZero_6 : tZero Try.prog 6 = some (.int .u8 0) := by kernel_rfl
theorem con_6 : Try.prog.concrete 6 = true := by kernel_rfl
theorem tAgg_7 : tAgg Try.prog 7 = some 4 := by kernel_rfl
theorem tB_7 : tB Try.prog 7 = some ([(0, 1), (1, 1), (2, 1), (3, 1)], [.int .i64 0, .int .i64 0, .bool false, .int .u8 0]) := by kernel_rfl
theorem tFe_7_0 : tFe Try.prog 7 0 = some (0, none) := by kernel_rfl
theorem tFld_7_0 : tFld Try.prog 7 0 = some 0 := by kernel_rfl
theorem tFe_7_1 : tFe Try.prog 7 1 = some (1, none) := by kernel_rfl
theorem tFld_7_1 : tFld Try.prog 7 1 = some 1 := by kernel_rfl
theorem tFe_7_2 : tFe Try.prog 7 2 = some (2, none) := by kernel_rfl
theorem tFld_7_2 : tFld Try.prog 7 2 = some 2 := by kernel_rfl
theorem tFe_7_3 : tFe Try.prog 7 3 = some (3, none) := by kernel_rfl
theorem tFld_7_3 : tFld Try.prog 7 3 = some 3 := by kernel_rfl
theorem tZero_7 : tZero Try.prog 7 = some (.agg #[.int .i64 0, .int .i64 0, .bool false, .int .u8 0]) := by kernel_rfl
theorem tAgg_8 : tAgg Try.prog 8 = some 4 := by kernel_rfl
theorem tB_8 : tB Try.prog 8 = some ([(0, 1), (1, 1), (2, 1), (3, 1)], [.int .i64 0, .int .i64 0, .bool false, .int .u8 0]) := by kernel_rfl
theorem tFe_8_0 : tFe Try.prog 8 0 = some (0, none) := by kernel_rfl
theorem tFld_8_0 : tFld Try.prog 8 0 = some 0 := by kernel_rfl
theorem tFe_8_1 : tFe Try.prog 8 1 = some (1, none) := by kernel_rfl
theorem tFld_8_1 : tFld Try.prog 8 1 = some 1 := by kernel_rfl
theorem tFe_8_2 : tFe Try.prog 8 2 = some (2, none) := by kernel_rfl
theorem tFld_8_2 : tFld Try.prog 8 2 = some 2 := by kernel_rfl
theorem tFe_8_3 : tFe Try.prog 8 3 = some (3, none) := by kernel_rfl
theorem tFld_8_3 : tFld Try.prog 8 3 = some 3 := by kernel_rfl
theorem tZero_8 : tZero Try.prog 8 = some (.agg #[.int .i64 0, .int .i64 0, .bool false, .int .u8 0]) := by kernel_rfl
theorem tOne_9 : tOne Try.prog 9 = true := by kernel_rfl
theorem tZero_9 : tZero Try.prog 9 = some (.string ⟨#[]⟩) := by kernel_rfl
theorem tOne_10 : tOne Try.prog 10 = true := by kernel_rfl
theorem tZero_10 : tZero Try.prog 10 = some (.string ⟨#[]⟩) := by kernel_rfl
theorem tOne_11 : tOne Try.prog 11 = true := by kernel_rfl
theorem tZero_11 : tZero Try.prog 11 = some (.string ⟨#[]⟩) := by kernel_rfl
theorem tOne_12 : tOne Try.prog 12 = true := by kernel_rfl
theorem tZero_12 : tZero Try.prog 12 = some (.int .u64 0) := by kernel_rfl
theorem con_12 : Try.prog.concrete 12 = true := by kernel_rfl
theorem tAgg_13 : tAgg Try.prog 13 = some 2 := by kernel_rfl
theorem tB_13 : tB Try.prog 13 = some ([(0, 1), (1, 1)], [.string ⟨#[]⟩, .int .u64 0]) := by kernel_rfl
theorem tFe_13_0 : tFe Try.prog 13 0 = some (0, none) := by kernel_rfl
theorem tFld_13_0 : tFld Try.prog 13 0 = some 0 := by kernel_rfl
theorem tFe_13_1 : tFe Try.prog 13 1 = some (1, none) := by kernel_rfl
theorem tFld_13_1 : tFld Try.prog 13 1 = some 1 := by kernel_rfl
theorem tZero_13 : tZero Try.prog 13 = some (.agg #[.string ⟨#[]⟩, .int .u64 0]) := by kernel_rfl
theorem tAgg_14 : tAgg Try.prog 14 = some 2 := by kernel_rfl
theorem tB_14 : tB Try.prog 14 = some ([(0, 1), (1, 1)], [.string ⟨#[]⟩, .int .u64 0]) := by kernel_rfl
theorem tFe_14_0 : tFe Try.prog 14 0 = some (0, none) := by kernel_rfl
theorem tFld_14_0 : tFld Try.prog 14 0 = some 0 := by kernel_rfl
theorem tFe_14_1 : tFe Try.prog 14 1 = some (1, none) := by kernel_rfl
theorem tFld_14_1 : tFld Try.prog 14 1 = some 1 := by kernel_rfl
theorem tZero_14 : tZero Try.prog 14 = some (.agg #[.string ⟨#[]⟩, .int .u64 0]) := by kernel_rfl
theorem tOne_15 : tOne Try.prog 15 = true := by kernel_rfl
theorem tZero_15 : tZero Try.prog 15 = some (.pointer none) := by kernel_rfl
theorem tOne_16 : tOne Try.prog 16 = true := by kernel_rfl
theorem tZero_16 : tZero Try.prog 16 = some (.pointer none) := by kernel_rfl
theorem tOne_17 : tOne Try.prog 17 = true := by kernel_rfl
theorem tZero_17 : tZero Try.prog 17 = some (.pointer none) := by kernel_rfl
theorem tAgg_18 : tAgg Try.prog 18 = some 1 := by kernel_rfl
theorem tB_18 : tB Try.prog 18 = some ([(0, 1)], [.pointer none]) := by kernel_rfl
theorem tFe_18_0 : tFe Try.prog 18 0 = some (0, none) := by kernel_rfl
theorem tFld_18_0 : tFld Try.prog 18 0 = some 0 := by kernel_rfl
theorem tZero_18 : tZero Try.prog 18 = some (.agg #[.pointer none]) := by kernel_rfl
theorem tAgg_19 : tAgg Try.prog 19 = some 1 := by kernel_rfl
theorem tB_19 : tB Try.prog 19 = some ([(0, 1)], [.pointer none]) := by kernel_rfl
theorem tFe_19_0 : tFe Try.prog 19 0 = some (0, none) := by kernel_rfl
theorem tFld_19_0 : tFld Try.prog 19 0 = some 0 := by kernel_rfl
theorem tZero_19 : tZero Try.prog 19 = some (.agg #[.pointer none]) := by kernel_rfl
theorem tOne_20 : tOne Try.prog 20 = true := by kernel_rfl
theorem tZero_20 : tZero Try.prog 20 = some (.nilIface) := by kernel_rfl
theorem tOne_21 : tOne Try.prog 21 = true := by kernel_rfl
theorem tZero_21 : tZero Try.prog 21 = some (.int .i32 0) := by kernel_rfl
theorem con_21 : Try.prog.concrete 21 = true := by kernel_rfl
theorem tAgg_22 : tAgg Try.prog 22 = some 5 := by kernel_rfl
theorem tB_22 : tB Try.prog 22 = some ([(0, 1), (1, 1), (2, 1), (3, 1), (4, 1)], [.int .i64 0, .int .i64 0, .int .i64 0, .int .i64 0, .int .i64 0]) := by kernel_rfl
theorem tFe_22_0 : tFe Try.prog 22 0 = some (0, none) := by kernel_rfl
theorem tFld_22_0 : tFld Try.prog 22 0 = some 0 := by kernel_rfl
theorem tFe_22_1 : tFe Try.prog 22 1 = some (1, none) := by kernel_rfl
theorem tFld_22_1 : tFld Try.prog 22 1 = some 1 := by kernel_rfl
theorem tFe_22_2 : tFe Try.prog 22 2 = some (2, none) := by kernel_rfl
theorem tFld_22_2 : tFld Try.prog 22 2 = some 2 := by kernel_rfl
theorem tFe_22_3 : tFe Try.prog 22 3 = some (3, none) := by kernel_rfl
theorem tFld_22_3 : tFld Try.prog 22 3 = some 3 := by kernel_rfl
theorem tFe_22_4 : tFe Try.prog 22 4 = some (4, none) := by kernel_rfl
theorem tFld_22_4 : tFld Try.prog 22 4 = some 4 := by kernel_rfl
theorem tZero_22 : tZero Try.prog 22 = some (.agg #[.int .i64 0, .int .i64 0, .int .i64 0, .int .i64 0, .int .i64 0]) := by kernel_rfl
theorem tAgg_23 : tAgg Try.prog 23 = some 5 := by kernel_rfl
theorem tB_23 : tB Try.prog 23 = some ([(0, 1), (1, 1), (2, 1), (3, 1), (4, 1)], [.int .i64 0, .int .i64 0, .int .i64 0, .int .i64 0, .int .i64 0]) := by kernel_rfl
theorem tFe_23_0 : tFe Try.prog 23 0 = some (0, none) := by kernel_rfl
theorem tFld_23_0 : tFld Try.prog 23 0 = some 0 := by kernel_rfl
theorem tFe_23_1 : tFe Try.prog 23 1 = some (1, none) := by kernel_rfl
theorem tFld_23_1 : tFld Try.prog 23 1 = some 1 := by kernel_rfl
theorem tFe_23_2 : tFe Try.prog 23 2 = some (2, none) := by kernel_rfl
theorem tFld_23_2 : tFld Try.prog 23 2 = some 2 := by kernel_rfl
theorem tFe_23_3 : tFe Try.prog 23 3 = some (3, none) := by kernel_rfl
theorem tFld_23_3 : tFld Try.prog 23 3 = some 3 := by kernel_rfl
theorem tFe_23_4 : tFe Try.prog 23 4 = some (4, none) := by kernel_rfl
theorem tFld_23_4 : tFld Try.prog 23 4 = some 4 := by kernel_rfl
theorem tZero_23 : tZero Try.prog 23 = some (.agg #[.int .i64 0, .int .i64 0, .int .i64 0, .int .i64 0, .int .i64 0]) := by kernel_rfl
theorem tSl_24 : tSl Try.prog 24 = some (23, 5) := by kernel_rfl
theorem tOne_24 : tOne Try.prog 24 = true := by kernel_rfl
theorem tZero_24 : tZero Try.prog 24 = some (.slice none 0 0) := by kernel_rfl
theorem tOne_25 : tOne Try.prog 25 = true := by kernel_rfl
theorem tZero_25 : tZero Try.prog 25 = some (.nilIface) := by kernel_rfl
theorem tOne_26 : tOne Try.prog 26 = true := by kernel_rfl
theorem tZero_26 : tZero Try.prog 26 = some (.nilIface) := by kernel_rfl
theorem tOne_28 : tOne Try.prog 28 = true := by kernel_rfl
theorem tOne_29 : tOne Try.prog 29 = true := by kernel_rfl
theorem tOne_30 : tOne Try.prog 30 = true := by kernel_rfl
theorem tOne_31 : tOne Try.prog 31 = true := by kernel_rfl
theorem tOne_32 : tOne Try.prog 32 = true := by kernel_rfl
theorem tOne_34 : tOne Try.prog 34 = true := by kernel_rfl
theorem tOne_35 : tOne Try.prog 35 = true := by kernel_rfl
theorem tSl_36 : tSl Try.prog 36 = some (51, 11) := by kernel_rfl
theorem tOne_36 : tOne Try.prog 36 = true := by kernel_rfl
theorem tZero_36 : tZero Try.prog 36 = some (.slice none 0 0) := by kernel_rfl
theorem tOne_37 : tOne Try.prog 37 = true := by kernel_rfl
theorem tOne_38 : tOne Try.prog 38 = true := by kernel_rfl
theorem tOne_39 : tOne Try.prog 39 = true := by kernel_rfl
theorem tZero_39 : tZero Try.prog 39 = some (.pointer none) := by kernel_rfl
theorem tOne_41 : tOne Try.prog 41 = true := by kernel_rfl
theorem tOne_42 : tOne Try.prog 42 = true := by kernel_rfl
theorem tZero_42 : tZero Try.prog 42 = some (.pointer none) := by kernel_rfl
theorem tOne_44 : tOne Try.prog 44 = true := by kernel_rfl
theorem tOne_45 : tOne Try.prog 45 = true := by kernel_rfl
theorem tAgg_46 : tAgg Try.prog 46 = some 2 := by kernel_rfl
theorem tB_46 : tB Try.prog 46 = some ([(0, 1), (1, 1)], [.int .i64 0, .int .i64 0]) := by kernel_rfl
theorem tFe_46_0 : tFe Try.prog 46 0 = some (0, none) := by kernel_rfl
theorem tFld_46_0 : tFld Try.prog 46 0 = some 0 := by kernel_rfl
theorem tFe_46_1 : tFe Try.prog 46 1 = some (1, none) := by kernel_rfl
theorem tFld_46_1 : tFld Try.prog 46 1 = some 1 := by kernel_rfl
theorem tZero_46 : tZero Try.prog 46 = some (.agg #[.int .i64 0, .int .i64 0]) := by kernel_rfl
theorem tAgg_47 : tAgg Try.prog 47 = some 2 := by kernel_rfl
theorem tB_47 : tB Try.prog 47 = some ([(0, 1), (1, 1)], [.int .i64 0, .int .i64 0]) := by kernel_rfl
theorem tFe_47_0 : tFe Try.prog 47 0 = some (0, none) := by kernel_rfl
theorem tFld_47_0 : tFld Try.prog 47 0 = some 0 := by kernel_rfl
theorem tFe_47_1 : tFe Try.prog 47 1 = some (1, none) := by kernel_rfl
theorem tFld_47_1 : tFld Try.prog 47 1 = some 1 := by kernel_rfl
theorem tZero_47 : tZero Try.prog 47 = some (.agg #[.int .i64 0, .int .i64 0]) := by kernel_rfl
theorem tOne_48 : tOne Try.prog 48 = true := by kernel_rfl
theorem tZero_48 : tZero Try.prog 48 = some (.int .u64 0) := by kernel_rfl
theorem con_48 : Try.prog.concrete 48 = true := by kernel_rfl
theorem tSl_49 : tSl Try.prog 49 = some (75, 3) := by kernel_rfl
theorem tOne_49 : tOne Try.prog 49 = true := by kernel_rfl
theorem tZero_49 : tZero Try.prog 49 = some (.slice none 0 0) := by kernel_rfl
theorem tAgg_50 : tAgg Try.prog 50 = some 11 := by kernel_rfl
theorem tB_50 : tB Try.prog 50 = some ([(0, 1), (1, 1), (2, 2), (4, 2), (6, 1), (7, 1), (8, 1), (9, 1), (10, 1)], [.string ⟨#[]⟩, .string ⟨#[]⟩, .int .i64 0, .int .i64 0, .int .i64 0, .int .i64 0, .int .i64 0, .int .i64 0, .int .i64 0, .int .u64 0, .slice none 0 0]) := by kernel_rfl
theorem tFe_50_0 : tFe Try.prog 50 0 = some (0, none) := by kernel_rfl
theorem tFld_50_0 : tFld Try.prog 50 0 = some 0 := by kernel_rfl
theorem tFe_50_1 : tFe Try.prog 50 1 = some (1, none) := by kernel_rfl
theorem tFld_50_1 : tFld Try.prog 50 1 = some 1 := by kernel_rfl
theorem tFe_50_2 : tFe Try.prog 50 2 = some (2, some 2) := by kernel_rfl
theorem tFld_50_2 : tFld Try.prog 50 2 = some 2 := by kernel_rfl
theorem tFe_50_3 : tFe Try.prog 50 3 = some (4, some 2) := by kernel_rfl
theorem tFld_50_3 : tFld Try.prog 50 3 = some 4 := by kernel_rfl
theorem tFe_50_4 : tFe Try.prog 50 4 = some (6, none) := by kernel_rfl
theorem tFld_50_4 : tFld Try.prog 50 4 = some 6 := by kernel_rfl
theorem tFe_50_5 : tFe Try.prog 50 5 = some (7, none) := by kernel_rfl
theorem tFld_50_5 : tFld Try.prog 50 5 = some 7 := by kernel_rfl
theorem tFe_50_6 : tFe Try.prog 50 6 = some (8, none) := by kernel_rfl
theorem tFld_50_6 : tFld Try.prog 50 6 = some 8 := by kernel_rfl
theorem tFe_50_7 : tFe Try.prog 50 7 = some (9, none) := by kernel_rfl
theorem tFld_50_7 : tFld Try.prog 50 7 = some 9 := by kernel_rfl
theorem tFe_50_8 : tFe Try.prog 50 8 = some (10, none) := by kernel_rfl
theorem tFld_50_8 : tFld Try.prog 50 8 = some 10 := by kernel_rfl
theorem tZero_50 : tZero Try.prog 50 = some (.agg #[.string ⟨#[]⟩, .string ⟨#[]⟩, .int .i64 0, .int .i64 0, .int .i64 0, .int .i64 0, .int .i64 0, .int .i64 0, .int .i64 0, .int .u64 0, .slice none 0 0]) := by kernel_rfl
theorem tAgg_51 : tAgg Try.prog 51 = some 11 := by kernel_rfl
theorem tB_51 : tB Try.prog 51 = some ([(0, 1), (1, 1), (2, 2), (4, 2), (6, 1), (7, 1), (8, 1), (9, 1), (10, 1)], [.string ⟨#[]⟩, .string ⟨#[]⟩, .int .i64 0, .int .i64 0, .int .i64 0, .int .i64 0, .int .i64 0, .int .i64 0, .int .i64 0, .int .u64 0, .slice none 0 0]) := by kernel_rfl
theorem tFe_51_0 : tFe Try.prog 51 0 = some (0, none) := by kernel_rfl
theorem tFld_51_0 : tFld Try.prog 51 0 = some 0 := by kernel_rfl
theorem tFe_51_1 : tFe Try.prog 51 1 = some (1, none) := by kernel_rfl
theorem tFld_51_1 : tFld Try.prog 51 1 = some 1 := by kernel_rfl
theorem tFe_51_2 : tFe Try.prog 51 2 = some (2, some 2) := by kernel_rfl
theorem tFld_51_2 : tFld Try.prog 51 2 = some 2 := by kernel_rfl
theorem tFe_51_3 : tFe Try.prog 51 3 = some (4, some 2) := by kernel_rfl
theorem tFld_51_3 : tFld Try.prog 51 3 = some 4 := by kernel_rfl
theorem tFe_51_4 : tFe Try.prog 51 4 = some (6, none) := by kernel_rfl
theorem tFld_51_4 : tFld Try.prog 51 4 = some 6 := by kernel_rfl
theorem tFe_51_5 : tFe Try.prog 51 5 = some (7, none) := by kernel_rfl
theorem tFld_51_5 : tFld Try.prog 51 5 = some 7 := by kernel_rfl
theorem tFe_51_6 : tFe Try.prog 51 6 = some (8, none) := by kernel_rfl
theorem tFld_51_6 : tFld Try.prog 51 6 = some 8 := by kernel_rfl
theorem tFe_51_7 : tFe Try.prog 51 7 = some (9, none) := by kernel_rfl
theorem tFld_51_7 : tFld Try.prog 51 7 = some 9 := by kernel_rfl
theorem tFe_51_8 : tFe Try.prog 51 8 = some (10, none) := by kernel_rfl
theorem tFld_51_8 : tFld Try.prog 51 8 = some 10 := by kernel_rfl
theorem tZero_51 : tZero Try.prog 51 = some (.agg #[.string ⟨#[]⟩, .string ⟨#[]⟩, .int .i64 0, .int .i64 0, .int .i64 0, .int .i64 0, .int .i64 0, .int .i64 0, .int .i64 0, .int .u64 0, .slice none 0 0]) := by kernel_rfl
theorem tOne_52 : tOne Try.prog 52 = true := by kernel_rfl
theorem tOne_53 : tOne Try.prog 53 = true := by kernel_rfl
theorem tOne_55 : tOne Try.prog 55 = true := by kernel_rfl
theorem tOne_57 : tOne Try.prog 57 = true := by kernel_rfl
theorem tOne_58 : tOne Try.prog 58 = true := by kernel_rfl
theorem tOne_59 : tOne Try.prog 59 = true := by kernel_rfl
theorem tSl_60 : tSl Try.prog 60 = some (9, 1) := by kernel_rfl
theorem tOne_60 : tOne Try.prog 60 = true := by kernel_rfl
theorem tZero_60 : tZero Try.prog 60 = some (.slice none 0 0) := by kernel_rfl
theorem tSl_61 : tSl Try.prog 61 = some (132, 2) := by kernel_rfl
theorem tOne_61 : tOne Try.prog 61 = true := by kernel_rfl
theorem tZero_61 : tZero Try.prog 61 = some (.slice none 0 0) := by kernel_rfl
theorem tAgg_62 : tAgg Try.prog 62 = some 5 := by kernel_rfl
theorem tB_62 : tB Try.prog 62 = some ([(0, 1), (1, 1), (2, 1), (3, 1), (4, 1)], [.slice none 0 0, .slice none 0 0, .slice none 0 0, .int .i64 0, .bool false]) := by kernel_rfl
theorem tFe_62_0 : tFe Try.prog 62 0 = some (0, none) := by kernel_rfl
theorem tFld_62_0 : tFld Try.prog 62 0 = some 0 := by kernel_rfl
theorem tFe_62_1 : tFe Try.prog 62 1 = some (1, none) := by kernel_rfl
theorem tFld_62_1 : tFld Try.prog 62 1 = some 1 := by kernel_rfl
theorem tFe_62_2 : tFe Try.prog 62 2 = some (2, none) := by kernel_rfl
theorem tFld_62_2 : tFld Try.prog 62 2 = some 2 := by kernel_rfl
theorem tFe_62_3 : tFe Try.prog 62 3 = some (3, none) := by kernel_rfl
theorem tFld_62_3 : tFld Try.prog 62 3 = some 3 := by kernel_rfl
theorem tFe_62_4 : tFe Try.prog 62 4 = some (4, none) := by kernel_rfl
theorem tFld_62_4 : tFld Try.prog 62 4 = some 4 := by kernel_rfl
theorem tZero_62 : tZero Try.prog 62 = some (.agg #[.slice none 0 0, .slice none 0 0, .slice none 0 0, .int .i64 0, .bool false]) := by kernel_rfl
theorem tAgg_63 : tAgg Try.prog 63 = some 5 := by kernel_rfl
theorem tB_63 : tB Try.prog 63 = some ([(0, 1), (1, 1), (2, 1), (3, 1), (4, 1)], [.slice none 0 0, .slice none 0 0, .slice none 0 0, .int .i64 0, .bool false]) := by kernel_rfl
theorem tFe_63_0 : tFe Try.prog 63 0 = some (0, none) := by kernel_rfl
theorem tFld_63_0 : tFld Try.prog 63 0 = some 0 := by kernel_rfl
theorem tFe_63_1 : tFe Try.prog 63 1 = some (1, none) := by kernel_rfl
theorem tFld_63_1 : tFld Try.prog 63 1 = some 1 := by kernel_rfl
theorem tFe_63_2 : tFe Try.prog 63 2 = some (2, none) := by kernel_rfl
theorem tFld_63_2 : tFld Try.prog 63 2 = some 2 := by kernel_rfl
theorem tFe_63_3 : tFe Try.prog 63 3 = some (3, none) := by kernel_rfl
theorem tFld_63_3 : tFld Try.prog 63 3 = some 3 := by kernel_rfl
theorem tFe_63_4 : tFe Try.prog 63 4 = some (4, none) := by kernel_rfl
theorem tFld_63_4 : tFld Try.prog 63 4 = some 4 := by kernel_rfl
theorem tZero_63 : tZero Try.prog 63 = some (.agg #[.slice none 0 0, .slice none 0 0, .slice none 0 0, .int .i64 0, .bool false]) := by kernel_rfl
theorem tOne_64 : tOne Try.prog 64 = true := by kernel_rfl
theorem tOne_65 : tOne Try.prog 65 = true := by kernel_rfl
theorem tOne_66 : tOne Try.prog 66 = true := by kernel_rfl
theorem tOne_67 : tOne Try.prog 67 = true := by kernel_rfl
theorem tOne_68 : tOne Try.prog 68 = true := by kernel_rfl
theorem tOne_70 : tOne Try.prog 70 = true := by kernel_rfl
theorem tOne_71 : tOne Try.prog 71 = true := by kernel_rfl
theorem tOne_72 : tOne Try.prog 72 = true := by kernel_rfl
theorem tOne_73 : tOne Try.prog 73 = true := by kernel_rfl
theorem tAgg_74 : tAgg Try.prog 74 = some 3 := by kernel_rfl
theorem tB_74 : tB Try.prog 74 = some ([(0, 1), (1, 1), (2, 1)], [.string ⟨#[]⟩, .string ⟨#[]⟩, .bool false]) := by kernel_rfl
theorem tFe_74_0 : tFe Try.prog 74 0 = some (0, none) := by kernel_rfl
theorem tFld_74_0 : tFld Try.prog 74 0 = some 0 := by kernel_rfl
theorem tFe_74_1 : tFe Try.prog 74 1 = some (1, none) := by kernel_rfl
theorem tFld_74_1 : tFld Try.prog 74 1 = some 1 := by kernel_rfl
theorem tFe_74_2 : tFe Try.prog 74 2 = some (2, none) := by kernel_rfl
theorem tFld_74_2 : tFld Try.prog 74 2 = some 2 := by kernel_rfl
theorem tZero_74 : tZero Try.prog 74 = some (.agg #[.string ⟨#[]⟩, .string ⟨#[]⟩, .bool false]) := by kernel_rfl
theorem tAgg_75 : tAgg Try.prog 75 = some 3 := by kernel_rfl
theorem tB_75 : tB Try.prog 75 = some ([(0, 1), (1, 1), (2, 1)], [.string ⟨#[]⟩, .string ⟨#[]⟩, .bool false]) := by kernel_rfl
theorem tFe_75_0 : tFe Try.prog 75 0 = some (0, none) := by kernel_rfl
theorem tFld_75_0 : tFld Try.prog 75 0 = some 0 := by kernel_rfl
theorem tFe_75_1 : tFe Try.prog 75 1 = some (1, none) := by kernel_rfl
theorem tFld_75_1 : tFld Try.prog 75 1 = some 1 := by kernel_rfl
theorem tFe_75_2 : tFe Try.prog 75 2 = some (2, none) := by kernel_rfl
theorem tFld_75_2 : tFld Try.prog 75 2 = some 2 := by kernel_rfl
theorem tZero_75 : tZero Try.prog 75 = some (.agg #[.string ⟨#[]⟩, .string ⟨#[]⟩, .bool false]) := by kernel_rfl
theorem tOne_76 : tOne Try.prog 76 = true := by kernel_rfl
theorem tOne_77 : tOne Try.prog 77 = true := by kernel_rfl
theorem tOne_78 : tOne Try.prog 78 = true := by kernel_rfl
theorem tOne_80 : tOne Try.prog 80 = true := by kernel_rfl
theorem tOne_82 : tOne Try.prog 82 = true := by kernel_rfl
theorem tOne_83 : tOne Try.prog 83 = true := by kernel_rfl
theorem tOne_84 : tOne Try.prog 84 = true := by kernel_rfl
theorem tOne_85 : tOne Try.prog 85 = true := by kernel_rfl
theorem tOne_86 : tOne Try.prog 86 = true := by kernel_rfl
theorem tOne_87 : tOne Try.prog 87 = true := by kernel_rfl
theorem tOne_88 : tOne Try.prog 88 = true := by kernel_rfl
theorem tSl_89 : tSl Try.prog 89 = some (99, 3) := by kernel_rfl
theorem tOne_89 : tOne Try.prog 89 = true := by kernel_rfl
theorem tZero_89 : tZero Try.prog 89 = some (.slice none 0 0) := by kernel_rfl
theorem tOne_90 : tOne Try.prog 90 = true := by kernel_rfl
theorem tOne_91 : tOne Try.prog 91 = true := by kernel_rfl
theorem tOne_92 : tOne Try.prog 92 = true := by kernel_rfl
theorem tOne_93 : tOne Try.prog 93 = true := by kernel_rfl
theorem tOne_94 : tOne Try.prog 94 = true := by kernel_rfl
theorem tOne_95 : tOne Try.prog 95 = true := by kernel_rfl
theorem tOne_97 : tOne Try.prog 97 = true := by kernel_rfl
theorem tAgg_98 : tAgg Try.prog 98 = some 3 := by kernel_rfl
theorem tB_98 : tB Try.prog 98 = some ([(0, 2), (2, 1)], [.int .i64 0, .int .i64 0, .int .i64 0]) := by kernel_rfl
theorem tFe_98_0 : tFe Try.prog 98 0 = some (0, some 2) := by kernel_rfl
theorem tFld_98_0 : tFld Try.prog 98 0 = some 0 := by kernel_rfl
theorem tFe_98_1 : tFe Try.prog 98 1 = some (2, none) := by kernel_rfl
theorem tFld_98_1 : tFld Try.prog 98 1 = some 2 := by kernel_rfl
theorem tZero_98 : tZero Try.prog 98 = some (.agg #[.int .i64 0, .int .i64 0, .int .i64 0]) := by kernel_rfl
theorem tAgg_99 : tAgg Try.prog 99 = some 3 := by kernel_rfl
theorem tB_99 : tB Try.prog 99 = some ([(0, 2), (2, 1)], [.int .i64 0, .int .i64 0, .int .i64 0]) := by kernel_rfl
theorem tFe_99_0 : tFe Try.prog 99 0 = some (0, some 2) := by kernel_rfl
theorem tFld_99_0 : tFld Try.prog 99 0 = some 0 := by kernel_rfl
theorem tFe_99_1 : tFe Try.prog 99 1 = some (2, none) := by kernel_rfl
theorem tFld_99_1 : tFld Try.prog 99 1 = some 2 := by kernel_rfl
theorem tZero_99 : tZero Try.prog 99 = some (.agg #[.int .i64 0, .int .i64 0, .int .i64 0]) := by kernel_rfl
theorem tOne_100 : tOne Try.prog 100 = true := by kernel_rfl
theorem tOne_101 : tOne Try.prog 101 = true := by kernel_rfl
theorem tOne_102 : tOne Try.prog 102 = true := by kernel_rfl
theorem tOne_103 : tOne Try.prog 103 = true := by kernel_rfl
theorem tOne_104 : tOne Try.prog 104 = true := by kernel_rfl
theorem tSl_105 : tSl Try.prog 105 = some (3, 1) := by kernel_rfl
theorem tOne_105 : tOne Try.prog 105 = true := by kernel_rfl
theorem tZero_105 : tZero Try.prog 105 = some (.slice none 0 0) := by kernel_rfl
theorem tOne_106 : tOne Try.prog 106 = true := by kernel_rfl
theorem tOne_107 : tOne Try.prog 107 = true := by kernel_rfl
theorem tOne_108 : tOne Try.prog 108 = true := by kernel_rfl
theorem tOne_109 : tOne Try.prog 109 = true := by kernel_rfl
theorem tOne_110 : tOne Try.prog 110 = true := by kernel_rfl
theorem tOne_111 : tOne Try.prog 111 = true := by kernel_rfl
theorem tOne_112 : tOne Try.prog 112 = true := by kernel_rfl
theorem tOne_113 : tOne Try.prog 113 = true := by kernel_rfl
theorem tOne_114 : tOne Try.prog 114 = true := by kernel_rfl
theorem tAgg_115 : tAgg Try.prog 115 = some 4 := by kernel_rfl
theorem tZero_115 : tZero Try.prog 115 = some (.agg #[.string ⟨#[]⟩, .string ⟨#[]⟩, .string ⟨#[]⟩, .string ⟨#[]⟩]) := by kernel_rfl
theorem tOne_116 : tOne Try.prog 116 = true := by kernel_rfl
theorem tOne_117 : tOne Try.prog 117 = true := by kernel_rfl
theorem tOne_118 : tOne Try.prog 118 = true := by kernel_rfl
theorem tOne_119 : tOne Try.prog 119 = true := by kernel_rfl
theorem tZero_119 : tZero Try.prog 119 = some (.int .i64 0) := by kernel_rfl
theorem con_119 : Try.prog.concrete 119 = true := by kernel_rfl
theorem tOne_121 : tOne Try.prog 121 = true := by kernel_rfl
theorem tOne_122 : tOne Try.prog 122 = true := by kernel_rfl
theorem tOne_123 : tOne Try.prog 123 = true := by kernel_rfl
theorem tOne_124 : tOne Try.prog 124 = true := by kernel_rfl
theorem tOne_125 : tOne Try.prog 125 = true := by kernel_rfl
theorem tSl_126 : tSl Try.prog 126 = some (130, 2) := by kernel_rfl
theorem tOne_126 : tOne Try.prog 126 = true := by kernel_rfl
theorem tZero_126 : tZero Try.prog 126 = some (.slice none 0 0) := by kernel_rfl
theorem tAgg_127 : tAgg Try.prog 127 = some 5 := by kernel_rfl
theorem tB_127 : tB Try.prog 127 = some ([(0, 1), (1, 1), (2, 1), (3, 1), (4, 1)], [.slice none 0 0, .slice none 0 0, .slice none 0 0, .int .i64 0, .bool false]) := by kernel_rfl
theorem tFe_127_0 : tFe Try.prog 127 0 = some (0, none) := by kernel_rfl
theorem tFld_127_0 : tFld Try.prog 127 0 = some 0 := by kernel_rfl
theorem tFe_127_1 : tFe Try.prog 127 1 = some (1, none) := by kernel_rfl
theorem tFld_127_1 : tFld Try.prog 127 1 = some 1 := by kernel_rfl
theorem tFe_127_2 : tFe Try.prog 127 2 = some (2, none) := by kernel_rfl
theorem tFld_127_2 : tFld Try.prog 127 2 = some 2 := by kernel_rfl
theorem tFe_127_3 : tFe Try.prog 127 3 = some (3, none) := by kernel_rfl
theorem tFld_127_3 : tFld Try.prog 127 3 = some 3 := by kernel_rfl
theorem tFe_127_4 : tFe Try.prog 127 4 = some (4, none) := by kernel_rfl
theorem tFld_127_4 : tFld Try.prog 127 4 = some 4 := by kernel_rfl
theorem tZero_127 : tZero Try.prog 127 = some (.agg #[.slice none 0 0, .slice none 0 0, .slice none 0 0, .int .i64 0, .bool false]) := by kernel_rfl
theorem tAgg_128 : tAgg Try.prog 128 = some 5 := by kernel_rfl
theorem tB_128 : tB Try.prog 128 = some ([(0, 1), (1, 1), (2, 1), (3, 1), (4, 1)], [.slice none 0 0, .slice none 0 0, .slice none 0 0, .int .i64 0, .bool false]) := by kernel_rfl
theorem tFe_128_0 : tFe Try.prog 128 0 = some (0, none) := by kernel_rfl
theorem tFld_128_0 : tFld Try.prog 128 0 = some 0 := by kernel_rfl
theorem tFe_128_1 : tFe Try.prog 128 1 = some (1, none) := by kernel_rfl
theorem tFld_128_1 : tFld Try.prog 128 1 = some 1 := by kernel_rfl
theorem tFe_128_2 : tFe Try.prog 128 2 = some (2, none) := by kernel_rfl
theorem tFld_128_2 : tFld Try.prog 128 2 = some 2 := by kernel_rfl
theorem tFe_128_3 : tFe Try.prog 128 3 = some (3, none) := by kernel_rfl
theorem tFld_128_3 : tFld Try.prog 128 3 = some 3 := by kernel_rfl
theorem tFe_128_4 : tFe Try.prog 128 4 = some (4, none) := by kernel_rfl
theorem tFld_128_4 : tFld Try.prog 128 4 = some 4 := by kernel_rfl
theorem tZero_128 : tZero Try.prog 128 = some (.agg #[.slice none 0 0, .slice none 0 0, .slice none 0 0, .int .i64 0, .bool false]) := by kernel_rfl
theorem tAgg_129 : tAgg Try.prog 129 = some 2 := by kernel_rfl
theorem tB_129 : tB Try.prog 129 = some ([(0, 1), (1, 1)], [.int .i64 0, .string ⟨#[]⟩]) := by kernel_rfl
theorem tFe_129_0 : tFe Try.prog 129 0 = some (0, none) := by kernel_rfl
theorem tFld_129_0 : tFld Try.prog 129 0 = some 0 := by kernel_rfl
theorem tFe_129_1 : tFe Try.prog 129 1 = some (1, none) := by kernel_rfl
theorem tFld_129_1 : tFld Try.prog 129 1 = some 1 := by kernel_rfl
theorem tZero_129 : tZero Try.prog 129 = some (.agg #[.int .i64 0, .string ⟨#[]⟩]) := by kernel_rfl
theorem tAgg_130 : tAgg Try.prog 130 = some 2 := by kernel_rfl
theorem tB_130 : tB Try.prog 130 = some ([(0, 1), (1, 1)], [.int .i64 0, .string ⟨#[]⟩]) := by kernel_rfl
theorem tFe_130_0 : tFe Try.prog 130 0 = some (0, none) := by kernel_rfl
theorem tFld_130_0 : tFld Try.prog 130 0 = some 0 := by kernel_rfl
theorem tFe_130_1 : tFe Try.prog 130 1 = some (1, none) := by kernel_rfl
theorem tFld_130_1 : tFld Try.prog 130 1 = some 1 := by kernel_rfl
theorem tZero_130 : tZero Try.prog 130 = some (.agg #[.int .i64 0, .string ⟨#[]⟩]) := by kernel_rfl
theorem tAgg_131 : tAgg Try.prog 131 = some 2 := by kernel_rfl
theorem tB_131 : tB Try.prog 131 = some ([(0, 1), (1, 1)], [.int .i64 0, .string ⟨#[]⟩]) := by kernel_rfl
theorem tFe_131_0 : tFe Try.prog 131 0 = some (0, none) := by kernel_rfl
theorem tFld_131_0 : tFld Try.prog 131 0 = some 0 := by kernel_rfl
theorem tFe_131_1 : tFe Try.prog 131 1 = some (1, none) := by kernel_rfl
theorem tFld_131_1 : tFld Try.prog 131 1 = some 1 := by kernel_rfl
theorem tZero_131 : tZero Try.prog 131 = some (.agg #[.int .i64 0, .string ⟨#[]⟩]) := by kernel_rfl
theorem tAgg_132 : tAgg Try.prog 132 = some 2 := by kernel_rfl
theorem tB_132 : tB Try.prog 132 = some ([(0, 1), (1, 1)], [.int .i64 0, .string ⟨#[]⟩]) := by kernel_rfl
theorem tFe_132_0 : tFe Try.prog 132 0 = some (0, none) := by kernel_rfl
theorem tFld_132_0 : tFld Try.prog 132 0 = some 0 := by kernel_rfl
theorem tFe_132_1 : tFe Try.prog 132 1 = some (1, none) := by kernel_rfl
theorem tFld_132_1 : tFld Try.prog 132 1 = some 1 := by kernel_rfl
theorem tZero_132 : tZero Try.prog 132 = some (.agg #[.int .i64 0, .string ⟨#[]⟩]) := by kernel_rfl
theorem tOne_133 : tOne Try.prog 133 = true := by kernel_rfl
theorem tZero_133 : tZero Try.prog 133 = some (.int .u64 0) := by kernel_rfl
theorem con_133 : Try.prog.concrete 133 = true := by kernel_rfl
theorem tOne_134 : tOne Try.prog 134 = true := by kernel_rfl
theorem tSl_135 : tSl Try.prog 135 = some (5, 1) := by kernel_rfl
theorem tOne_135 : tOne Try.prog 135 = true := by kernel_rfl
theorem tZero_135 : tZero Try.prog 135 = some (.slice none 0 0) := by kernel_rfl
theorem tOne_136 : tOne Try.prog 136 = true := by kernel_rfl
theorem tOne_138 : tOne Try.prog 138 = true := by kernel_rfl
theorem tOne_139 : tOne Try.prog 139 = true := by kernel_rfl
theorem tOne_140 : tOne Try.prog 140 = true := by kernel_rfl
theorem tOne_141 : tOne Try.prog 141 = true := by kernel_rfl
theorem tOne_142 : tOne Try.prog 142 = true := by kernel_rfl
theorem tOne_143 : tOne Try.prog 143 = true := by kernel_rfl
theorem tOne_144 : tOne Try.prog 144 = true := by kernel_rfl
theorem tOne_145 : tOne Try.prog 145 = true := by kernel_rfl
theorem tOne_146 : tOne Try.prog 146 = true := by kernel_rfl
theorem tOne_147 : tOne Try.prog 147 = true := by kernel_rfl
theorem tMap_147 : tMap Try.prog 147 = true := by kernel_rfl
theorem tOne_148 : tOne Try.prog 148 = true := by kernel_rfl
theorem tOne_149 : tOne Try.prog 149 = true := by kernel_rfl
theorem tOne_151 : tOne Try.prog 151 = true := by kernel_rfl
theorem tOne_152 : tOne Try.prog 152 = true := by kernel_rfl
theorem tOne_153 : tOne Try.prog 153 = true := by kernel_rfl
theorem tOne_154 : tOne Try.prog 154 = true := by kernel_rfl
theorem tOne_155 : tOne Try.prog 155 = true := by kernel_rfl
theorem tOne_156 : tOne Try.prog 156 = true := by kernel_rfl
theorem tOne_157 : tOne Try.prog 157 = true := by kernel_rfl
theorem tOne_158 : tOne Try.prog 158 = true := by kernel_rfl
theorem tOne_159 : tOne Try.prog 159 = true := by kernel_rfl
theorem tZero_159 : tZero Try.prog 159 = some (.int .u32 0) := by kernel_rfl
theorem con_159 : Try.prog.concrete 159 = true := by kernel_rfl
theorem tOne_161 : tOne Try.prog 161 = true := by kernel_rfl
theorem tOne_163 : tOne Try.prog 163 = true := by kernel_rfl
theorem tOne_164 : tOne Try.prog 164 = true := by kernel_rfl
theorem tOne_165 : tOne Try.prog 165 = true := by kernel_rfl
theorem tOne_166 : tOne Try.prog 166 = true := by kernel_rfl
theorem tZero_166 : tZero Try.prog 166 = some (.int .i64 0) := by kernel_rfl
theorem con_166 : Try.prog.concrete 166 = true := by kernel_rfl
theorem tOne_168 : tOne Try.prog 168 = true := by kernel_rfl
theorem tOne_169 : tOne Try.prog 169 = true := by kernel_rfl
theorem tOne_170 : tOne Try.prog 170 = true := by kernel_rfl
theorem tOne_171 : tOne Try.prog 171 = true := by kernel_rfl
theorem tOne_172 : tOne Try.prog 172 = true := by kernel_rfl
theorem tOne_173 : tOne Try.prog 173 = true := by kernel_rfl
theorem tOne_174 : tOne Try.prog 174 = true := by kernel_rfl
theorem tOne_175 : tOne Try.prog 175 = true := by kernel_rfl
theorem tOne_176 : tOne Try.prog 176 = true := by kernel_rfl
theorem tOne_177 : tOne Try.prog 177 = true := by kernel_rfl
theorem tOne_178 : tOne Try.prog 178 = true := by kernel_rfl
theorem tOne_179 : tOne Try.prog 179 = true := by kernel_rfl
theorem tZero_179 : tZero Try.prog 179 = some (.int .u64 0) := by kernel_rfl
theorem con_179 : Try.prog.concrete 179 = true := by kernel_rfl
theorem tOne_180 : tOne Try.prog 180 = true := by kernel_rfl
theorem tOne_181 : tOne Try.prog 181 = true := by kernel_rfl
theorem tOne_182 : tOne Try.prog 182 = true := by kernel_rfl
theorem tOne_183 : tOne Try.prog 183 = true := by kernel_rfl
theorem tZero_183 : tZero Try.prog 183 = some (.pointer none) := by kernel_rfl
theorem tOne_184 : tOne Try.prog 184 = true := by kernel_rfl
theorem tOne_185 : tOne Try.prog 185 = true := by kernel_rfl
theorem tOne_186 : tOne Try.prog 186 = true := by kernel_rfl
theorem tZero_186 : tZero Try.prog 186 = some (.pointer none) := by kernel_rfl
theorem tOne_188 : tOne Try.prog 188 = true := by kernel_rfl
theorem tOne_189 : tOne Try.prog 189 = true := by kernel_rfl
theorem tAgg_190 : tAgg Try.prog 190 = some 4 := by kernel_rfl
theorem tB_190 : tB Try.prog 190 = some ([(0, 1), (1, 1), (2, 1), (3, 1)], [.pointer none, .pointer none, .pointer none, .string ⟨#[]⟩]) := by kernel_rfl
theorem tFe_190_0 : tFe Try.prog 190 0 = some (0, none) := by kernel_rfl
theorem tFld_190_0 : tFld Try.prog 190 0 = some 0 := by kernel_rfl
theorem tFe_190_1 : tFe Try.prog 190 1 = some (1, none) := by kernel_rfl
theorem tFld_190_1 : tFld Try.prog 190 1 = some 1 := by kernel_rfl
theorem tFe_190_2 : tFe Try.prog 190 2 = some (2, none) := by kernel_rfl
theorem tFld_190_2 : tFld Try.prog 190 2 = some 2 := by kernel_rfl
theorem tFe_190_3 : tFe Try.prog 190 3 = some (3, none) := by kernel_rfl
theorem tFld_190_3 : tFld Try.prog 190 3 = some 3 := by kernel_rfl
theorem tZero_190 : tZero Try.prog 190 = some (.agg #[.pointer none, .pointer none, .pointer none, .string ⟨#[]⟩]) := by kernel_rfl
theorem tAgg_191 : tAgg Try.prog 191 = some 4 := by kernel_rfl
theorem tB_191 : tB Try.prog 191 = some ([(0, 1), (1, 1), (2, 1), (3, 1)], [.pointer none, .pointer none, .pointer none, .string ⟨#[]⟩]) := by kernel_rfl
theorem tFe_191_0 : tFe Try.prog 191 0 = some (0, none) := by kernel_rfl
theorem tFld_191_0 : tFld Try.prog 191 0 = some 0 := by kernel_rfl
theorem tFe_191_1 : tFe Try.prog 191 1 = some (1, none) := by kernel_rfl
theorem tFld_191_1 : tFld Try.prog 191 1 = some 1 := by kernel_rfl
theorem tFe_191_2 : tFe Try.prog 191 2 = some (2, none) := by kernel_rfl
theorem tFld_191_2 : tFld Try.prog 191 2 = some 2 := by kernel_rfl
theorem tFe_191_3 : tFe Try.prog 191 3 = some (3, none) := by kernel_rfl
theorem tFld_191_3 : tFld Try.prog 191 3 = some 3 := by kernel_rfl
theorem tZero_191 : tZero Try.prog 191 = some (.agg #[.pointer none, .pointer none, .pointer none, .string ⟨#[]⟩]) := by kernel_rfl
theorem tAgg_193 : tAgg Try.prog 193 = some 0 := by kernel_rfl
theorem tAgg_194 : tAgg Try.prog 194 = some 0 := by kernel_rfl
theorem tOne_195 : tOne Try.prog 195 = true := by kernel_rfl
theorem tZero_195 : tZero Try.prog 195 = some (.int .u8 0) := by kernel_rfl
theorem con_195 : Try.prog.concrete 195 = true := by kernel_rfl
theorem tOne_196 : tOne Try.prog 196 = true := by kernel_rfl
theorem tZero_196 : tZero Try.prog 196 = some (.int .u8 0) := by kernel_rfl
theorem con_196 : Try.prog.concrete 196 = true := by kernel_rfl
theorem tOne_197 : tOne Try.prog 197 = true := by kernel_rfl
theorem tOne_198 : tOne Try.prog 198 = true := by kernel_rfl
theorem tZero_198 : tZero Try.prog 198 = some (.pointer none) := by kernel_rfl
theorem tOne_199 : tOne Try.prog 199 = true := by kernel_rfl
theorem tZero_199 : tZero Try.prog 199 = some (.int .i32 0) := by kernel_rfl
theorem con_199 : Try.prog.concrete 199 = true := by kernel_rfl
theorem tOne_200 : tOne Try.prog 200 = true := by kernel_rfl
theorem tZero_200 : tZero Try.prog 200 = some (.int .i32 0) := by kernel_rfl
theorem con_200 : Try.prog.concrete 200 = true := by kernel_rfl
theorem tAgg_201 : tAgg Try.prog 201 = some 11 := by kernel_rfl
theorem tB_201 : tB Try.prog 201 = some ([(0, 1), (1, 1), (2, 1), (3, 1), (4, 1), (5, 1), (6, 1), (7, 1), (8, 1), (9, 1), (10, 1)], [.int .u64 0, .int .u64 0, .int .u32 0, .int .u8 0, .int .u8 0, .int .u8 0, .int .u8 0, .nilFunc, .pointer none, .int .i32 0, .int .i32 0]) := by kernel_rfl
theorem tFe_201_0 : tFe Try.prog 201 0 = some (0, none) := by kernel_rfl
theorem tFld_201_0 : tFld Try.prog 201 0 = some 0 := by kernel_rfl
theorem tFe_201_1 : tFe Try.prog 201 1 = some (1, none) := by kernel_rfl
theorem tFld_201_1 : tFld Try.prog 201 1 = some 1 := by kernel_rfl
theorem tFe_201_2 : tFe Try.prog 201 2 = some (2, none) := by kernel_rfl
theorem tFld_201_2 : tFld Try.prog 201 2 = some 2 := by kernel_rfl
theorem tFe_201_3 : tFe Try.prog 201 3 = some (3, none) := by kernel_rfl
theorem tFld_201_3 : tFld Try.prog 201 3 = some 3 := by kernel_rfl
theorem tFe_201_4 : tFe Try.prog 201 4 = some (4, none) := by kernel_rfl
theorem tFld_201_4 : tFld Try.prog 201 4 = some 4 := by kernel_rfl
theorem tFe_201_5 : tFe Try.prog 201 5 = some (5, none) := by kernel_rfl
theorem tFld_201_5 : tFld Try.prog 201 5 = some 5 := by kernel_rfl
theorem tFe_201_6 : tFe Try.prog 201 6 = some (6, none) := by kernel_rfl
theorem tFld_201_6 : tFld Try.prog 201 6 = some 6 := by kernel_rfl
theorem tFe_201_7 : tFe Try.prog 201 7 = some (7, none) := by kernel_rfl
theorem tFld_201_7 : tFld Try.prog 201 7 = some 7 := by kernel_rfl
theorem tFe_201_8 : tFe Try.prog 201 8 = some (8, none) := by kernel_rfl
theorem tFld_201_8 : tFld Try.prog 201 8 = some 8 := by kernel_rfl
theorem tFe_201_9 : tFe Try.prog 201 9 = some (9, none) := by kernel_rfl
theorem tFld_201_9 : tFld Try.prog 201 9 = some 9 := by kernel_rfl
theorem tFe_201_10 : tFe Try.prog 201 10 = some (10, none) := by kernel_rfl
theorem tFld_201_10 : tFld Try.prog 201 10 = some 10 := by kernel_rfl
theorem tZero_201 : tZero Try.prog 201 = some (.agg #[.int .u64 0, .int .u64 0, .int .u32 0, .int .u8 0, .int .u8 0, .int .u8 0, .int .u8 0, .nilFunc, .pointer none, .int .i32 0, .int .i32 0]) := by kernel_rfl
theorem tAgg_202 : tAgg Try.prog 202 = some 11 := by kernel_rfl
theorem tB_202 : tB Try.prog 202 = some ([(0, 1), (1, 1), (2, 1), (3, 1), (4, 1), (5, 1), (6, 1), (7, 1), (8, 1), (9, 1), (10, 1)], [.int .u64 0, .int .u64 0, .int .u32 0, .int .u8 0, .int .u8 0, .int .u8 0, .int .u8 0, .nilFunc, .pointer none, .int .i32 0, .int .i32 0]) := by kernel_rfl
theorem tFe_202_0 : tFe Try.prog 202 0 = some (0, none) := by kernel_rfl
theorem tFld_202_0 : tFld Try.prog 202 0 = some 0 := by kernel_rfl
theorem tFe_202_1 : tFe Try.prog 202 1 = some (1, none) := by kernel_rfl
theorem tFld_202_1 : tFld Try.prog 202 1 = some 1 := by kernel_rfl
theorem tFe_202_2 : tFe Try.prog 202 2 = some (2, none) := by kernel_rfl
theorem tFld_202_2 : tFld Try.prog 202 2 = some 2 := by kernel_rfl
theorem tFe_202_3 : tFe Try.prog 202 3 = some (3, none) := by kernel_rfl
theorem tFld_202_3 : tFld Try.prog 202 3 = some 3 := by kernel_rfl
theorem tFe_202_4 : tFe Try.prog 202 4 = some (4, none) := by kernel_rfl
theorem tFld_202_4 : tFld Try.prog 202 4 = some 4 := by kernel_rfl
theorem tFe_202_5 : tFe Try.prog 202 5 = some (5, none) := by kernel_rfl
theorem tFld_202_5 : tFld Try.prog 202 5 = some 5 := by kernel_rfl
theorem tFe_202_6 : tFe Try.prog 202 6 = some (6, none) := by kernel_rfl
theorem tFld_202_6 : tFld Try.prog 202 6 = some 6 := by kernel_rfl
theorem tFe_202_7 : tFe Try.prog 202 7 = some (7, none) := by kernel_rfl
theorem tFld_202_7 : tFld Try.prog 202 7 = some 7 := by kernel_rfl
theorem tFe_202_8 : tFe Try.prog 202 8 = some (8, none) := by kernel_rfl
theorem tFld_202_8 : tFld Try.prog 202 8 = some 8 := by kernel_rfl
theorem tFe_202_9 : tFe Try.prog 202 9 = some (9, none) := by kernel_rfl
theorem tFld_202_9 : tFld Try.prog 202 9 = some 9 := by kernel_rfl
theorem tFe_202_10 : tFe Try.prog 202 10 = some (10, none) := by kernel_rfl
theorem tFld_202_10 : tFld Try.prog 202 10 = some 10 := by kernel_rfl
theorem tZero_202 : tZero Try.prog 202 = some (.agg #[.int .u64 0, .int .u64 0, .int .u32 0, .int .u8 0, .int .u8 0, .int .u8 0, .int .u8 0, .nilFunc, .pointer none, .int .i32 0, .int .i32 0]) := by kernel_rfl
theorem tApp_24 : tApp Try.prog 24 5 = some (23, 40) := by kernel_rfl
theorem tInf_24 : ((Try.prog.info? 23).map (·.size)).isSome = true := by kernel_rfl
theorem tApp_36 : tApp Try.prog 36 11 = some (51, 120) := by kernel_rfl
theorem tInf_36 : ((Try.prog.info? 51).map (·.size)).isSome = true := by kernel_rfl
theorem tApp_49 : tApp Try.prog 49 3 = some (75, 40) := by kernel_rfl
theorem tInf_49 : ((Try.prog.info? 75).map (·.size)).isSome = true := by kernel_rfl
theorem tApp_60 : tApp Try.prog 60 1 = some (9, 16) := by kernel_rfl
theorem tInf_60 : ((Try.prog.info? 9).map (·.size)).isSome = true := by kernel_rfl
theorem tApp_61 : tApp Try.prog 61 2 = some (132, 24) := by kernel_rfl
theorem tInf_61 : ((Try.prog.info? 132).map (·.size)).isSome = true := by kernel_rfl
theorem tApp_89 : tApp Try.prog 89 3 = some (99, 24) := by kernel_rfl
theorem tInf_89 : ((Try.prog.info? 99).map (·.size)).isSome = true := by kernel_rfl
theorem tApp_105 : tApp Try.prog 105 1 = some (3, 8) := by kernel_rfl
theorem tInf_105 : ((Try.prog.info? 3).map (·.size)).isSome = true := by kernel_rfl
theorem tApp_126 : tApp Try.prog 126 2 = some (130, 24) := by kernel_rfl
theorem tInf_126 : ((Try.prog.info? 130).map (·.size)).isSome = true := by kernel_rfl
theorem tApp_135 : tApp Try.prog 135 1 = some (5, 1) := by kernel_rfl
theorem tInf_135 : ((Try.prog.info? 5).map (·.size)).isSome = true := by kernel_rfl
theorem eg_2 : ∀ args w, (callFunc 2 args).run Try.prog w = .ok (.enter 2 args) w := enters_of Try.func2 (by kernel_rfl) rfl
theorem eg_3 : ∀ args w, (callFunc 3 args).run Try.prog w = .ok (.enter 3 args) w := enters_of Try.func3 (by kernel_rfl) rfl
theorem eg_4 : ∀ args w, (callFunc 4 args).run Try.prog w = .ok (.enter 4 args) w := enters_of Try.func4 (by kernel_rfl) rfl
theorem eg_5 : ∀ args w, (callFunc 5 args).run Try.prog w = .ok (.enter 5 args) w := enters_of Try.func5 (by kernel_rfl) rfl
theorem eg_6 : ∀ args w, (callFunc 6 args).run Try.prog w = .ok (.enter 6 args) w := enters_of Try.func6 (by kernel_rfl) rfl
theorem eg_7 : ∀ args w, (callFunc 7 args).run Try.prog w = .ok (.enter 7 args) w := enters_of Try.func7 (by kernel_rfl) rfl
theorem eg_8 : ∀ args w, (callFunc 8 args).run Try.prog w = .ok (.enter 8 args) w := enters_of Try.func8 (by kernel_rfl) rfl
theorem eg_9 : ∀ args w, (callFunc 9 args).run Try.prog w = .ok (.enter 9 args) w := enters_of Try.func9 (by kernel_rfl) rfl
theorem eg_10 : ∀ args w, (callFunc 10 args).run Try.prog w = .ok (.enter 10 args) w := enters_of Try.func10 (by kernel_rfl) rfl
theorem eg_11 : ∀ args w, (callFunc 11 args).run Try.prog w = .ok (.enter 11 args) w := enters_of Try.func11 (by kernel_rfl) rfl
theorem eg_12 : ∀ args w, (callFunc 12 args).run Try.prog w = .ok (.enter 12 args) w := enters_of Try.func12 (by kernel_rfl) rfl
theorem eg_13 : ∀ args w, (callFunc 13 args).run Try.prog w = .ok (.enter 13 args) w := enters_of Try.func13 (by kernel_rfl) rfl
theorem eg_14 : ∀ args w, (callFunc 14 args).run Try.prog w = .ok (.enter 14 args) w := enters_of Try.func14 (by kernel_rfl) rfl
theorem eg_15 : ∀ args w, (callFunc 15 args).run Try.prog w = .ok (.enter 15 args) w := enters_of Try.func15 (by kernel_rfl) rfl
theorem eg_16 : ∀ args w, (callFunc 16 args).run Try.prog w = .ok (.enter 16 args) w := enters_of Try.func16 (by kernel_rfl) rfl
theorem eg_17 : ∀ args w, (callFunc 17 args).run Try.prog w = .ok (.enter 17 args) w := enters_of Try.func17 (by kernel_rfl) rfl
theorem eg_18 : ∀ args w, (callFunc 18 args).run Try.prog w = .ok (.enter 18 args) w := enters_of Try.func18 (by kernel_rfl) rfl
theorem eg_19 : ∀ args w, (callFunc 19 args).run Try.prog w = .ok (.enter 19 args) w := enters_of Try.func19 (by kernel_rfl) rfl
theorem eg_20 : ∀ args w, (callFunc 20 args).run Try.prog w = .ok (.enter 20 args) w := enters_of Try.func20 (by kernel_rfl) rfl
theorem eg_21 : ∀ args w, (callFunc 21 args).run Try.prog w = .ok (.enter 21 args) w := enters_of Try.func21 (by kernel_rfl) rfl
theorem eg_22 : ∀ args w, (callFunc 22 args).run Try.prog w = .ok (.enter 22 args) w := enters_of Try.func22 (by kernel_rfl) rfl
theorem eg_23 : ∀ args w, (callFunc 23 args).run Try.prog w = .ok (.enter 23 args) w := enters_of Try.func23 (by kernel_rfl) rfl
theorem eg_24 : ∀ args w, (callFunc 24 args).run Try.prog w = .ok (.enter 24 args) w := enters_of Try.func24 (by kernel_rfl) rfl
theorem eg_25 : ∀ args w, (callFunc 25 args).run Try.prog w = .ok (.enter 25 args) w := enters_of Try.func25 (by kernel_rfl) rfl
theorem eg_26 : ∀ args w, (callFunc 26 args).run Try.prog w = .ok (.enter 26 args) w := enters_of Try.func26 (by kernel_rfl) rfl
theorem eg_27 : ∀ args w, (callFunc 27 args).run Try.prog w = .ok (.enter 27 args) w := enters_of Try.func27 (by kernel_rfl) rfl
theorem eg_28 : ∀ args w, (callFunc 28 args).run Try.prog w = .ok (.enter 28 args) w := enters_of Try.func28 (by kernel_rfl) rfl
theorem eg_29 : ∀ args w, (callFunc 29 args).run Try.prog w = .ok (.enter 29 args) w := enters_of Try.func29 (by kernel_rfl) rfl
theorem eg_30 : ∀ args w, (callFunc 30 args).run Try.prog w = .ok (.enter 30 args) w := enters_of Try.func30 (by kernel_rfl) rfl
theorem eg_31 : ∀ args w, (callFunc 31 args).run Try.prog w = .ok (.enter 31 args) w := enters_of Try.func31 (by kernel_rfl) rfl
theorem eg_32 : ∀ args w, (callFunc 32 args).run Try.prog w = .ok (.enter 32 args) w := enters_of Try.func32 (by kernel_rfl) rfl
theorem eg_33 : ∀ args w, (callFunc 33 args).run Try.prog w = .ok (.enter 33 args) w := enters_of Try.func33 (by kernel_rfl) rfl
theorem eg_34 : ∀ args w, (callFunc 34 args).run Try.prog w = .ok (.enter 34 args) w := enters_of Try.func34 (by kernel_rfl) rfl
theorem eg_35 : ∀ args w, (callFunc 35 args).run Try.prog w = .ok (.enter 35 args) w := enters_of Try.func35 (by kernel_rfl) rfl
theorem eg_36 : ∀ args w, (callFunc 36 args).run Try.prog w = .ok (.enter 36 args) w := enters_of Try.func36 (by kernel_rfl) rfl
theorem eg_37 : ∀ args w, (callFunc 37 args).run Try.prog w = .ok (.enter 37 args) w := enters_of Try.func37 (by kernel_rfl) rfl
theorem eg_38 : ∀ args w, (callFunc 38 args).run Try.prog w = .ok (.enter 38 args) w := enters_of Try.func38 (by kernel_rfl) rfl
theorem eg_39 : ∀ args w, (callFunc 39 args).run Try.prog w = .ok (.enter 39 args) w := enters_of Try.func39 (by kernel_rfl) rfl
theorem eg_40 : ∀ args w, (callFunc 40 args).run Try.prog w = .ok (.enter 40 args) w := enters_of Try.func40 (by kernel_rfl) rfl
theorem eg_41 : ∀ args w, (callFunc 41 args).run Try.prog w = .ok (.enter 41 args) w := enters_of Try.func41 (by kernel_rfl) rfl
theorem eg_42 : ∀ args w, (callFunc 42 args).run Try.prog w = .ok (.enter 42 args) w := enters_of Try.func42 (by kernel_rfl) rfl
theorem eg_43 : ∀ args w, (callFunc 43 args).run Try.prog w = .ok (.enter 43 args) w := enters_of Try.func43 (by kernel_rfl) rfl
theorem eg_44 : ∀ args w, (callFunc 44 args).run Try.prog w = .ok (.enter 44 args) w := enters_of Try.func44 (by kernel_rfl) rfl
theorem eg_45 : ∀ args w, (callFunc 45 args).run Try.prog w = .ok (.enter 45 args) w := enters_of Try.func45 (by kernel_rfl) rfl
theorem eg_46 : ∀ args w, (callFunc 46 args).run Try.prog w = .ok (.enter 46 args) w := enters_of Try.func46 (by kernel_rfl) rfl
theorem eg_47 : ∀ args w, (callFunc 47 args).run Try.prog w = .ok (.enter 47 args) w := enters_of Try.func47 (by kernel_rfl) rfl
theorem eg_48 : ∀ args w, (callFunc 48 args).run Try.prog w = .ok (.enter 48 args) w := enters_of Try.func48 (by kernel_rfl) rfl
theorem eg_49 : ∀ args w, (callFunc 49 args).run Try.prog w = .ok (.enter 49 args) w := enters_of Try.func49 (by kernel_rfl) rfl
theorem eg_50 : ∀ args w, (callFunc 50 args).run Try.prog w = .ok (.enter 50 args) w := enters_of Try.func50 (by kernel_rfl) rfl
theorem eg_51 : ∀ args w, (callFunc 51 args).run Try.prog w = .ok (.enter 51 args) w := enters_of Try.func51 (by kernel_rfl) rfl
theorem eg_52 : ∀ args w, (callFunc 52 args).run Try.prog w = .ok (.enter 52 args) w := enters_of Try.func52 (by kernel_rfl) rfl
theorem eg_53 : ∀ args w, (callFunc 53 args).run Try.prog w = .ok (.enter 53 args) w := enters_of Try.func53 (by kernel_rfl) rfl
theorem eg_54 : ∀ args w, (callFunc 54 args).run Try.prog w = .ok (.enter 54 args) w := enters_of Try.func54 (by kernel_rfl) rfl
theorem eg_55 : ∀ args w, (callFunc 55 args).run Try.prog w = .ok (.enter 55 args) w := enters_of Try.func55 (by kernel_rfl) rfl
theorem eg_56 : ∀ args w, (callFunc 56 args).run Try.prog w = .ok (.enter 56 args) w := enters_of Try.func56 (by kernel_rfl) rfl
theorem eg_57 : ∀ args w, (callFunc 57 args).run Try.prog w = .ok (.enter 57 args) w := enters_of Try.func57 (by kernel_rfl) rfl
theorem eg_58 : ∀ args w, (callFunc 58 args).run Try.prog w = .ok (.enter 58 args) w := enters_of Try.func58 (by kernel_rfl) rfl
theorem eg_59 : ∀ args w, (callFunc 59 args).run Try.prog w = .ok (.enter 59 args) w := enters_of Try.func59 (by kernel_rfl) rfl
theorem eg_60 : ∀ args w, (callFunc 60 args).run Try.prog w = .ok (.enter 60 args) w := enters_of Try.func60 (by kernel_rfl) rfl
theorem eg_61 : ∀ args w, (callFunc 61 args).run Try.prog w = .ok (.enter 61 args) w := enters_of Try.func61 (by kernel_rfl) rfl
theorem eg_62 : ∀ args w, (callFunc 62 args).run Try.prog w = .ok (.enter 62 args) w := enters_of Try.func62 (by kernel_rfl) rfl
theorem eg_63 : ∀ args w, (callFunc 63 args).run Try.prog w = .ok (.enter 63 args) w := enters_of Try.func63 (by kernel_rfl) rfl
theorem eg_64 : ∀ args w, (callFunc 64 args).run Try.prog w = .ok (.enter 64 args) w := enters_of Try.func64 (by kernel_rfl) rfl
theorem eg_65 : ∀ args w, (callFunc 65 args).run Try.prog w = .ok (.enter 65 args) w := enters_of Try.func65 (by kernel_rfl) rfl
theorem eg_66 : ∀ args w, (callFunc 66 args).run Try.prog w = .ok (.enter 66 args) w := enters_of Try.func66 (by kernel_rfl) rfl
theorem eg_67 : ∀ args w, (callFunc 67 args).run Try.prog w = .ok (.enter 67 args) w := enters_of Try.func67 (by kernel_rfl) rfl
theorem eg_68 : ∀ args w, (callFunc 68 args).run Try.prog w = .ok (.enter 68 args) w := enters_of Try.func68 (by kernel_rfl) rfl
theorem eg_69 : ∀ args w, (callFunc 69 args).run Try.prog w = .ok (.enter 69 args) w := enters_of Try.func69 (by kernel_rfl) rfl
theorem eg_70 : ∀ args w, (callFunc 70 args).run Try.prog w = .ok (.enter 70 args) w := enters_of Try.func70 (by kernel_rfl) rfl
theorem eg_71 : ∀ args w, (callFunc 71 args).run Try.prog w = .ok (.enter 71 args) w := enters_of Try.func71 (by kernel_rfl) rfl
theorem eg_72 : ∀ args w, (callFunc 72 args).run Try.prog w = .ok (.enter 72 args) w := enters_of Try.func72 (by kernel_rfl) rfl
theorem eg_73 : ∀ args w, (callFunc 73 args).run Try.prog w = .ok (.enter 73 args) w := enters_of Try.func73 (by kernel_rfl) rfl
theorem eg_74 : ∀ args w, (callFunc 74 args).run Try.prog w = .ok (.enter 74 args) w := enters_of Try.func74 (by kernel_rfl) rfl
theorem eg_75 : ∀ args w, (callFunc 75 args).run Try.prog w = .ok (.enter 75 args) w := enters_of Try.func75 (by kernel_rfl) rfl
theorem eg_76 : ∀ args w, (callFunc 76 args).run Try.prog w = .ok (.enter 76 args) w := enters_of Try.func76 (by kernel_rfl) rfl
theorem eg_77 : ∀ args w, (callFunc 77 args).run Try.prog w = .ok (.enter 77 args) w := enters_of Try.func77 (by kernel_rfl) rfl
theorem eg_78 : ∀ args w, (callFunc 78 args).run Try.prog w = .ok (.enter 78 args) w := enters_of Try.func78 (by kernel_rfl) rfl
theorem eg_79 : ∀ args w, (callFunc 79 args).run Try.prog w = .ok (.enter 79 args) w := enters_of Try.func79 (by kernel_rfl) rfl
theorem eg_80 : ∀ args w, (callFunc 80 args).run Try.prog w = .ok (.enter 80 args) w := enters_of Try.func80 (by kernel_rfl) rfl
theorem eg_81 : ∀ args w, (callFunc 81 args).run Try.prog w = .ok (.enter 81 args) w := enters_of Try.func81 (by kernel_rfl) rfl
theorem eg_82 : ∀ args w, (callFunc 82 args).run Try.prog w = .ok (.enter 82 args) w := enters_of Try.func82 (by kernel_rfl) rfl
theorem eg_83 : ∀ args w, (callFunc 83 args).run Try.prog w = .ok (.enter 83 args) w := enters_of Try.func83 (by kernel_rfl) rfl
theorem eg_84 : ∀ args w, (callFunc 84 args).run Try.prog w = .ok (.enter 84 args) w := enters_of Try.func84 (by kernel_rfl) rfl
theorem eg_85 : ∀ args w, (callFunc 85 args).run Try.prog w = .ok (.enter 85 args) w := enters_of Try.func85 (by kernel_rfl) rfl
theorem eg_86 : ∀ args w, (callFunc 86 args).run Try.prog w = .ok (.enter 86 args) w := enters_of Try.func86 (by kernel_rfl) rfl
theorem eg_87 : ∀ args w, (callFunc 87 args).run Try.prog w = .ok (.enter 87 args) w := enters_of Try.func87 (by kernel_rfl) rfl
theorem eg_88 : ∀ args w, (callFunc 88 args).run Try.prog w = .ok (.enter 88 args) w := enters_of Try.func88 (by kernel_rfl) rfl
theorem eg_89 : ∀ args w, (callFunc 89 args).run Try.prog w = .ok (.enter 89 args) w := enters_of Try.func89 (by kernel_rfl) rfl
theorem eg_90 : ∀ args w, (callFunc 90 args).run Try.prog w = .ok (.enter 90 args) w := enters_of Try.func90 (by kernel_rfl) rfl
theorem eg_91 : ∀ args w, (callFunc 91 args).run Try.prog w = .ok (.enter 91 args) w := enters_of Try.func91 (by kernel_rfl) rfl
theorem eg_92 : ∀ args w, (callFunc 92 args).run Try.prog w = .ok (.enter 92 args) w := enters_of Try.func92 (by kernel_rfl) rfl
theorem eg_93 : ∀ args w, (callFunc 93 args).run Try.prog w = .ok (.enter 93 args) w := enters_of Try.func93 (by kernel_rfl) rfl
theorem eg_94 : ∀ args w, (callFunc 94 args).run Try.prog w = .ok (.enter 94 args) w := enters_of Try.func94 (by kernel_rfl) rfl
theorem eg_95 : ∀ args w, (callFunc 95 args).run Try.prog w = .ok (.enter 95 args) w := enters_of Try.func95 (by kernel_rfl) rfl
theorem eg_96 : ∀ args w, (callFunc 96 args).run Try.prog w = .ok (.enter 96 args) w := enters_of Try.func96 (by kernel_rfl) rfl
theorem eg_97 : ∀ args w, (callFunc 97 args).run Try.prog w = .ok (.enter 97 args) w := enters_of Try.func97 (by kernel_rfl) rfl
theorem eg_98 : ∀ args w, (callFunc 98 args).run Try.prog w = .ok (.enter 98 args) w := enters_of Try.func98 (by kernel_rfl) rfl
theorem eg_99 : ∀ args w, (callFunc 99 args).run Try.prog w = .ok (.enter 99 args) w := enters_of Try.func99 (by kernel_rfl) rfl
theorem eg_100 : ∀ args w, (callFunc 100 args).run Try.prog w = .ok (.enter 100 args) w := enters_of Try.func100 (by kernel_rfl) rfl
theorem eg_101 : ∀ args w, (callFunc 101 args).run Try.prog w = .ok (.enter 101 args) w := enters_of Try.func101 (by kernel_rfl) rfl
theorem eg_102 : ∀ args w, (callFunc 102 args).run Try.prog w = .ok (.enter 102 args) w := enters_of Try.func102 (by kernel_rfl) rfl
theorem eg_103 : ∀ args w, (callFunc 103 args).run Try.prog w = .ok (.enter 103 args) w := enters_of Try.func103 (by kernel_rfl) rfl
theorem eg_104 : ∀ args w, (callFunc 104 args).run Try.prog w = .ok (.enter 104 args) w := enters_of Try.func104 (by kernel_rfl) rfl
theorem eg_105 : ∀ args w, (callFunc 105 args).run Try.prog w = .ok (.enter 105 args) w := enters_of Try.func105 (by kernel_rfl) rfl
theorem eg_106 : ∀ args w, (callFunc 106 args).run Try.prog w = .ok (.enter 106 args) w := enters_of Try.func106 (by kernel_rfl) rfl
theorem eg_107 : ∀ args w, (callFunc 107 args).run Try.prog w = .ok (.enter 107 args) w := enters_of Try.func107 (by kernel_rfl) rfl
theorem eg_109 : ∀ args w, (callFunc 109 args).run Try.prog w = .ok (.enter 109 args) w := enters_of Try.func109 (by kernel_rfl) rfl
theorem eg_110 : ∀ args w, (callFunc 110 args).run Try.prog w = .ok (.enter 110 args) w := enters_of Try.func110 (by kernel_rfl) rfl
theorem eg_111 : ∀ args w, (callFunc 111 args).run Try.prog w = .ok (.enter 111 args) w := enters_of Try.func111 (by kernel_rfl) rfl
theorem eg_112 : ∀ args w, (callFunc 112 args).run Try.prog w = .ok (.enter 112 args) w := enters_of Try.func112 (by kernel_rfl) rfl
theorem eg_114 : ∀ args w, (callFunc 114 args).run Try.prog w = .ok (.enter 114 args) w := enters_of Try.func114 (by kernel_rfl) rfl
theorem eg_115 : ∀ args w, (callFunc 115 args).run Try.prog w = .ok (.enter 115 args) w := enters_of Try.func115 (by kernel_rfl) rfl
theorem eg_116 : ∀ args w, (callFunc 116 args).run Try.prog w = .ok (.enter 116 args) w := enters_of Try.func116 (by kernel_rfl) rfl
theorem eg_117 : ∀ args w, (callFunc 117 args).run Try.prog w = .ok (.enter 117 args) w := enters_of Try.func117 (by kernel_rfl) rfl
theorem eg_118 : ∀ args w, (callFunc 118 args).run Try.prog w = .ok (.enter 118 args) w := enters_of Try.func118 (by kernel_rfl) rfl
theorem eg_119 : ∀ args w, (callFunc 119 args).run Try.prog w = .ok (.enter 119 args) w := enters_of Try.func119 (by kernel_rfl) rfl
theorem eg_121 : ∀ args w, (callFunc 121 args).run Try.prog w = .ok (.enter 121 args) w := enters_of Try.func121 (by kernel_rfl) rfl
theorem eg_122 : ∀ args w, (callFunc 122 args).run Try.prog w = .ok (.enter 122 args) w := enters_of Try.func122 (by kernel_rfl) rfl
theorem eg_123 : ∀ args w, (callFunc 123 args).run Try.prog w = .ok (.enter 123 args) w := enters_of Try.func123 (by kernel_rfl) rfl
theorem eg_124 : ∀ args w, (callFunc 124 args).run Try.prog w = .ok (.enter 124 args) w := enters_of Try.func124 (by kernel_rfl) rfl
theorem eg_125 : ∀ args w, (callFunc 125 args).run Try.prog w = .ok (.enter 125 args) w := enters_of Try.func125 (by kernel_rfl) rfl
theorem eg_126 : ∀ args w, (callFunc 126 args).run Try.prog w = .ok (.enter 126 args) w := enters_of Try.func126 (by kernel_rfl) rfl
theorem eg_127 : ∀ args w, (callFunc 127 args).run Try.prog w = .ok (.enter 127 args) w := enters_of Try.func127 (by kernel_rfl) rfl
theorem eg_128 : ∀ args w, (callFunc 128 args).run Try.prog w = .ok (.enter 128 args) w := enters_of Try.func128 (by kernel_rfl) rfl
theorem eg_129 : ∀ args w, (callFunc 129 args).run Try.prog w = .ok (.enter 129 args) w := enters_of Try.func129 (by kernel_rfl) rfl
theorem eg_130 : ∀ args w, (callFunc 130 args).run Try.prog w = .ok (.enter 130 args) w := enters_of Try.func130 (by kernel_rfl) rfl
theorem eg_131 : ∀ args w, (callFunc 131 args).run Try.prog w = .ok (.enter 131 args) w := enters_of Try.func131 (by kernel_rfl) rfl
theorem eg_132 : ∀ args w, (callFunc 132 args).run Try.prog w = .ok (.enter 132 args) w := enters_of Try.func132 (by kernel_rfl) rfl
theorem eg_133 : ∀ args w, (callFunc 133 args).run Try.prog w = .ok (.enter 133 args) w := enters_of Try.func133 (by kernel_rfl) rfl
theorem eg_134 : ∀ args w, (callFunc 134 args).run Try.prog w = .ok (.enter 134 args) w := enters_of Try.func134 (by kernel_rfl) rfl
theorem eg_135 : ∀ args w, (callFunc 135 args).run Try.prog w = .ok (.enter 135 args) w := enters_of Try.func135 (by kernel_rfl) rfl
theorem eg_136 : ∀ args w, (callFunc 136 args).run Try.prog w = .ok (.enter 136 args) w := enters_of Try.func136 (by kernel_rfl) rfl
theorem eg_138 : ∀ args w, (callFunc 138 args).run Try.prog w = .ok (.enter 138 args) w := enters_of Try.func138 (by kernel_rfl) rfl
theorem eg_139 : ∀ args w, (callFunc 139 args).run Try.prog w = .ok (.enter 139 args) w := enters_of Try.func139 (by kernel_rfl) rfl
theorem eg_140 : ∀ args w, (callFunc 140 args).run Try.prog w = .ok (.enter 140 args) w := enters_of Try.func140 (by kernel_rfl) rfl
theorem eg_141 : ∀ args w, (callFunc 141 args).run Try.prog w = .ok (.enter 141 args) w := enters_of Try.func141 (by kernel_rfl) rfl
theorem eg_142 : ∀ args w, (callFunc 142 args).run Try.prog w = .ok (.enter 142 args) w := enters_of Try.func142 (by kernel_rfl) rfl
theorem eg_143 : ∀ args w, (callFunc 143 args).run Try.prog w = .ok (.enter 143 args) w := enters_of Try.func143 (by kernel_rfl) rfl
theorem eg_144 : ∀ args w, (callFunc 144 args).run Try.prog w = .ok (.enter 144 args) w := enters_of Try.func144 (by kernel_rfl) rfl
theorem eg_145 : ∀ args w, (callFunc 145 args).run Try.prog w = .ok (.enter 145 args) w := enters_of Try.func145 (by kernel_rfl) rfl
theorem eg_146 : ∀ args w, (callFunc 146 args).run Try.prog w = .ok (.enter 146 args) w := enters_of Try.func146 (by kernel_rfl) rfl
theorem eg_147 : ∀ args w, (callFunc 147 args).run Try.prog w = .ok (.enter 147 args) w := enters_of Try.func147 (by kernel_rfl) rfl
theorem eg_149 : ∀ args w, (callFunc 149 args).run Try.prog w = .ok (.enter 149 args) w := enters_of Try.func149 (by kernel_rfl) rfl
theorem eg_150 : ∀ args w, (callFunc 150 args).run Try.prog w = .ok (.enter 150 args) w := enters_of Try.func150 (by kernel_rfl) rfl
end Go.Proofs.Ytgmnmibejamneaa
