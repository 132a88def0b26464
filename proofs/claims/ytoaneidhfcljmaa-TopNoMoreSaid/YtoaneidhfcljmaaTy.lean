/-
  Facts on the types and the functions of this seat, each a closed computation.
-/
import Derived.Test.YtoaneidhfcljmaaR5
import Derived.Test.YtoaneidhfcljmaaProg
import Derived.Shelf.Abstract
namespace Go.Proofs.Ytoaneidhfcljmaa
open Go Go.RowKit
set_option linter.unusedVariables false
set_option maxRecDepth 100000
theorem mixed : Try.prog.follows .mixedOrders = true := by kernel_rfl
theorem tOne_1 : tOne Try.prog 1 = true := by kernel_rfl
theorem tOne_2 : tOne Try.prog 2 = true := by kernel_rfl
theorem tZero_2 : tZero Try.prog 2 = some (.int .i64 0) := by kernel_rfl
theorem con_2 : Try.prog.concrete 2 = true := by kernel_rfl
theorem tOne_3 : tOne Try.prog 3 = true := by kernel_rfl
theorem tZero_3 : tZero Try.prog 3 = some (.int .i64 0) := by kernel_rfl
theorem con_3 : Try.prog.concrete 3 = true := by kernel_rfl
theorem tOne_4 : tOne Try.prog 4 = true := by kernel_rfl
theorem tZero_4 : tZero Try.prog 4 = some (.bool false) := by kernel_rfl
theorem tOne_5 : tOne Try.prog 5 = true := by kernel_rfl
theorem tZero_5 : tZero Try.prog 5 = some (.int .u8 0) := by kernel_rfl
theorem con_5 : Try.prog.concrete 5 = true := by kernel_rfl
theorem tOne_6 : tOne Try.prog 6 = true := by kernel_rfl
theorem tZero_6 : tZero Try.prog 6 = some (.int .u8 0) := by kernel_rfl
theorem con_6 : Try.prog.concrete 6 = true := by kernel_rfl
theorem tAgg_7 : tAgg Try.prog 7 = some 4 := by kernel_rfl
theorem tB_7 : tB Try.prog 7 = some ([(0, 1), (1, 1), (2, 1), (3, 1)], [.int .i64 0, .int .i64 0, .bool false, .int .u8 0]) := by kernel_rfl
theorem tFe_7_0 : tFe Try.prog 7 0 = some (0, none) := by kernel_rfl
theorem tFld_7_0 : tFld Try.prog 7 0 = some 0 := by kernel_rfl
theorem tFe_7_1 : tFe Try.prog 7 1 = some (1, none) := by kernel_rfl
theorem tFld_7_1 : tFld Try.prog 7 1 = some 1 := by kernel_rfl
theorem tFe_7_2 : tFe Try.prog 7 2 = some (2, none) := by kernel_rfl
theorem tFld_7_2 : tFld Try.prog 7 2 = some 2 := by kernel_rfl
theorem tFe_7_3 : tFe Try.prog 7 3 = some (3, none) := by kernel_rfl
theorem tFld_7_3 : tFld Try.prog 7 3 = some 3 := by kernel_rfl
theorem tZero_7 : tZero Try.prog 7 = some (.agg #[.int .i64 0, .int .i64 0, .bool false, .int .u8 0]) := by kernel_rfl
theorem tAgg_8 : tAgg Try.prog 8 = some 4 := by kernel_rfl
theorem tB_8 : tB Try.prog 8 = some ([(0, 1), (1, 1), (2, 1), (3, 1)], [.int .i64 0, .int .i64 0, .bool false, .int .u8 0]) := by kernel_rfl
theorem tFe_8_0 : tFe Try.prog 8 0 = some (0, none) := by kernel_rfl
theorem tFld_8_0 : tFld Try.prog 8 0 = some 0 := by kernel_rfl
theorem tFe_8_1 : tFe Try.prog 8 1 = some (1, none) := by kernel_rfl
theorem tFld_8_1 : tFld Try.prog 8 1 = some 1 := by kernel_rfl
theorem tFe_8_2 : tFe Try.prog 8 2 = some (2, none) := by kernel_rfl
theorem tFld_8_2 : tFld Try.prog 8 2 = some 2 := by kernel_rfl
theorem tFe_8_3 : tFe Try.prog 8 3 = some (3, none) := by kernel_rfl
theorem tFld_8_3 : tFld Try.prog 8 3 = some 3 := by kernel_rfl
theorem tZero_8 : tZero Try.prog 8 = some (.agg #[.int .i64 0, .int .i64 0, .bool false, .int .u8 0]) := by kernel_rfl
theorem tOne_9 : tOne Try.prog 9 = true := by kernel_rfl
theorem tZero_9 : tZero Try.prog 9 = some (.string ⟨#[]⟩) := by kernel_rfl
theorem tOne_10 : tOne Try.prog 10 = true := by kernel_rfl
theorem tZero_10 : tZero Try.prog 10 = some (.string ⟨#[]⟩) := by kernel_rfl
theorem tOne_11 : tOne Try.prog 11 = true := by kernel_rfl
theorem tZero_11 : tZero Try.prog 11 = some (.string ⟨#[]⟩) := by kernel_rfl
theorem tOne_12 : tOne Try.prog 12 = true := by kernel_rfl
theorem tZero_12 : tZero Try.prog 12 = some (.int .u64 0) := by kernel_rfl
theorem con_12 : Try.prog.concrete 12 = true := by kernel_rfl
theorem tAgg_13 : tAgg Try.prog 13 = some 2 := by kernel_rfl
theorem tB_13 : tB Try.prog 13 = some ([(0, 1), (1, 1)], [.string ⟨#[]⟩, .int .u64 0]) := by kernel_rfl
theorem tFe_13_0 : tFe Try.prog 13 0 = some (0, none) := by kernel_rfl
theorem tFld_13_0 : tFld Try.prog 13 0 = some 0 := by kernel_rfl
theorem tFe_13_1 : tFe Try.prog 13 1 = some (1, none) := by kernel_rfl
theorem tFld_13_1 : tFld Try.prog 13 1 = some 1 := by kernel_rfl
theorem tZero_13 : tZero Try.prog 13 = some (.agg #[.string ⟨#[]⟩, .int .u64 0]) := by kernel_rfl
theorem tAgg_14 : tAgg Try.prog 14 = some 2 := by kernel_rfl
theorem tB_14 : tB Try.prog 14 = some ([(0, 1), (1, 1)], [.string ⟨#[]⟩, .int .u64 0]) := by kernel_rfl
theorem tFe_14_0 : tFe Try.prog 14 0 = some (0, none) := by kernel_rfl
theorem tFld_14_0 : tFld Try.prog 14 0 = some 0 := by kernel_rfl
theorem tFe_14_1 : tFe Try.prog 14 1 = some (1, none) := by kernel_rfl
theorem tFld_14_1 : tFld Try.prog 14 1 = some 1 := by kernel_rfl
theorem tZero_14 : tZero Try.prog 14 = some (.agg #[.string ⟨#[]⟩, .int .u64 0]) := by kernel_rfl
theorem tOne_15 : tOne Try.prog 15 = true := by kernel_rfl
theorem tZero_15 : tZero Try.prog 15 = some (.pointer none) := by kernel_rfl
theorem tOne_16 : tOne Try.prog 16 = true := by kernel_rfl
theorem tZero_16 : tZero Try.prog 16 = some (.pointer none) := by kernel_rfl
theorem tOne_17 : tOne Try.prog 17 = true := by kernel_rfl
theorem tZero_17 : tZero Try.prog 17 = some (.pointer none) := by kernel_rfl
theorem tAgg_18 : tAgg Try.prog 18 = some 1 := by kernel_rfl
theorem tB_18 : tB Try.prog 18 = some ([(0, 1)], [.pointer none]) := by kernel_rfl
theorem tFe_18_0 : tFe Try.prog 18 0 = some (0, none) := by kernel_rfl
theorem tFld_18_0 : tFld Try.prog 18 0 = some 0 := by kernel_rfl
theorem tZero_18 : tZero Try.prog 18 = some (.agg #[.pointer none]) := by kernel_rfl
theorem tAgg_19 : tAgg Try.prog 19 = some 1 := by kernel_rfl
theorem tB_19 : tB Try.prog 19 = some ([(0, 1)], [.pointer none]) := by kernel_rfl
theorem tFe_19_0 : tFe Try.prog 19 0 = some (0, none) := by kernel_rfl
theorem tFld_19_0 : tFld Try.prog 19 0 = some 0 := by kernel_rfl
theorem tZero_19 : tZero Try.prog 19 = some (.agg #[.pointer none]) := by kernel_rfl
theorem tOne_20 : tOne Try.prog 20 = true := by kernel_rfl
theorem tZero_20 : tZero Try.prog 20 = some (.nilIface) := by kernel_rfl
theorem tOne_21 : tOne Try.prog 21 = true := by kernel_rfl
theorem tZero_21 : tZero Try.prog 21 = some (.int .i32 0) := by kernel_rfl
theorem con_21 : Try.prog.concrete 21 = true := by kernel_rfl
theorem tSl_22 : tSl Try.prog 22 = some (59, 11) := by kernel_rfl
theorem tOne_22 : tOne Try.prog 22 = true := by kernel_rfl
theorem tZero_22 : tZero Try.prog 22 = some (.slice none 0 0) := by kernel_rfl
theorem tAgg_23 : tAgg Try.prog 23 = some 2 := by kernel_rfl
theorem tB_23 : tB Try.prog 23 = some ([(0, 1), (1, 1)], [.int .i64 0, .int .i64 0]) := by kernel_rfl
theorem tFe_23_0 : tFe Try.prog 23 0 = some (0, none) := by kernel_rfl
theorem tFld_23_0 : tFld Try.prog 23 0 = some 0 := by kernel_rfl
theorem tFe_23_1 : tFe Try.prog 23 1 = some (1, none) := by kernel_rfl
theorem tFld_23_1 : tFld Try.prog 23 1 = some 1 := by kernel_rfl
theorem tZero_23 : tZero Try.prog 23 = some (.agg #[.int .i64 0, .int .i64 0]) := by kernel_rfl
theorem tAgg_24 : tAgg Try.prog 24 = some 2 := by kernel_rfl
theorem tB_24 : tB Try.prog 24 = some ([(0, 1), (1, 1)], [.int .i64 0, .int .i64 0]) := by kernel_rfl
theorem tFe_24_0 : tFe Try.prog 24 0 = some (0, none) := by kernel_rfl
theorem tFld_24_0 : tFld Try.prog 24 0 = some 0 := by kernel_rfl
theorem tFe_24_1 : tFe Try.prog 24 1 = some (1, none) := by kernel_rfl
theorem tFld_24_1 : tFld Try.prog 24 1 = some 1 := by kernel_rfl
theorem tZero_24 : tZero Try.prog 24 = some (.agg #[.int .i64 0, .int .i64 0]) := by kernel_rfl
theorem tOne_25 : tOne Try.prog 25 = true := by kernel_rfl
theorem tSl_26 : tSl Try.prog 26 = some (35, 5) := by kernel_rfl
theorem tOne_26 : tOne Try.prog 26 = true := by kernel_rfl
theorem tZero_26 : tZero Try.prog 26 = some (.slice none 0 0) := by kernel_rfl
theorem tSl_27 : tSl Try.prog 27 = some (75, 3) := by kernel_rfl
theorem tOne_27 : tOne Try.prog 27 = true := by kernel_rfl
theorem tZero_27 : tZero Try.prog 27 = some (.slice none 0 0) := by kernel_rfl
theorem tSl_28 : tSl Try.prog 28 = some (77, 3) := by kernel_rfl
theorem tOne_28 : tOne Try.prog 28 = true := by kernel_rfl
theorem tZero_28 : tZero Try.prog 28 = some (.slice none 0 0) := by kernel_rfl
theorem tSl_29 : tSl Try.prog 29 = some (71, 4) := by kernel_rfl
theorem tOne_29 : tOne Try.prog 29 = true := by kernel_rfl
theorem tZero_29 : tZero Try.prog 29 = some (.slice none 0 0) := by kernel_rfl
theorem tAgg_30 : tAgg Try.prog 30 = some 6 := by kernel_rfl
theorem tB_30 : tB Try.prog 30 = some ([(0, 1), (1, 1), (2, 1), (3, 1), (4, 1), (5, 1)], [.slice none 0 0, .slice none 0 0, .slice none 0 0, .slice none 0 0, .int .i64 0, .int .i64 0]) := by kernel_rfl
theorem tFe_30_0 : tFe Try.prog 30 0 = some (0, none) := by kernel_rfl
theorem tFld_30_0 : tFld Try.prog 30 0 = some 0 := by kernel_rfl
theorem tFe_30_1 : tFe Try.prog 30 1 = some (1, none) := by kernel_rfl
theorem tFld_30_1 : tFld Try.prog 30 1 = some 1 := by kernel_rfl
theorem tFe_30_2 : tFe Try.prog 30 2 = some (2, none) := by kernel_rfl
theorem tFld_30_2 : tFld Try.prog 30 2 = some 2 := by kernel_rfl
theorem tFe_30_3 : tFe Try.prog 30 3 = some (3, none) := by kernel_rfl
theorem tFld_30_3 : tFld Try.prog 30 3 = some 3 := by kernel_rfl
theorem tFe_30_4 : tFe Try.prog 30 4 = some (4, none) := by kernel_rfl
theorem tFld_30_4 : tFld Try.prog 30 4 = some 4 := by kernel_rfl
theorem tFe_30_5 : tFe Try.prog 30 5 = some (5, none) := by kernel_rfl
theorem tFld_30_5 : tFld Try.prog 30 5 = some 5 := by kernel_rfl
theorem tZero_30 : tZero Try.prog 30 = some (.agg #[.slice none 0 0, .slice none 0 0, .slice none 0 0, .slice none 0 0, .int .i64 0, .int .i64 0]) := by kernel_rfl
theorem tAgg_31 : tAgg Try.prog 31 = some 6 := by kernel_rfl
theorem tB_31 : tB Try.prog 31 = some ([(0, 1), (1, 1), (2, 1), (3, 1), (4, 1), (5, 1)], [.slice none 0 0, .slice none 0 0, .slice none 0 0, .slice none 0 0, .int .i64 0, .int .i64 0]) := by kernel_rfl
theorem tFe_31_0 : tFe Try.prog 31 0 = some (0, none) := by kernel_rfl
theorem tFld_31_0 : tFld Try.prog 31 0 = some 0 := by kernel_rfl
theorem tFe_31_1 : tFe Try.prog 31 1 = some (1, none) := by kernel_rfl
theorem tFld_31_1 : tFld Try.prog 31 1 = some 1 := by kernel_rfl
theorem tFe_31_2 : tFe Try.prog 31 2 = some (2, none) := by kernel_rfl
theorem tFld_31_2 : tFld Try.prog 31 2 = some 2 := by kernel_rfl
theorem tFe_31_3 : tFe Try.prog 31 3 = some (3, none) := by kernel_rfl
theorem tFld_31_3 : tFld Try.prog 31 3 = some 3 := by kernel_rfl
theorem tFe_31_4 : tFe Try.prog 31 4 = some (4, none) := by kernel_rfl
theorem tFld_31_4 : tFld Try.prog 31 4 = some 4 := by kernel_rfl
theorem tFe_31_5 : tFe Try.prog 31 5 = some (5, none) := by kernel_rfl
theorem tFld_31_5 : tFld Try.prog 31 5 = some 5 := by kernel_rfl
theorem tZero_31 : tZero Try.prog 31 = some (.agg #[.slice none 0 0, .slice none 0 0, .slice none 0 0, .slice none 0 0, .int .i64 0, .int .i64 0]) := by kernel_rfl
theorem tOne_33 : tOne Try.prog 33 = true := by kernel_rfl
theorem tAgg_34 : tAgg Try.prog 34 = some 5 := by kernel_rfl
theorem tB_34 : tB Try.prog 34 = some ([(0, 1), (1, 1), (2, 1), (3, 1), (4, 1)], [.int .i64 0, .int .i64 0, .int .i64 0, .int .i64 0, .int .i64 0]) := by kernel_rfl
theorem tFe_34_0 : tFe Try.prog 34 0 = some (0, none) := by kernel_rfl
theorem tFld_34_0 : tFld Try.prog 34 0 = some 0 := by kernel_rfl
theorem tFe_34_1 : tFe Try.prog 34 1 = some (1, none) := by kernel_rfl
theorem tFld_34_1 : tFld Try.prog 34 1 = some 1 := by kernel_rfl
theorem tFe_34_2 : tFe Try.prog 34 2 = some (2, none) := by kernel_rfl
theorem tFld_34_2 : tFld Try.prog 34 2 = some 2 := by kernel_rfl
theorem tFe_34_3 : tFe Try.prog 34 3 = some (3, none) := by kernel_rfl
theorem tFld_34_3 : tFld Try.prog 34 3 = some 3 := by kernel_rfl
theorem tFe_34_4 : tFe Try.prog 34 4 = some (4, none) := by kernel_rfl
theorem tFld_34_4 : tFld Try.prog 34 4 = some 4 := by kernel_rfl
theorem tZero_34 : tZero Try.prog 34 = some (.agg #[.int .i64 0, .int .i64 0, .int .i64 0, .int .i64 0, .int .i64 0]) := by kernel_rfl
theorem tAgg_35 : tAgg Try.prog 35 = some 5 := by kernel_rfl
theorem tB_35 : tB Try.prog 35 = some ([(0, 1), (1, 1), (2, 1), (3, 1), (4, 1)], [.int .i64 0, .int .i64 0, .int .i64 0, .int .i64 0, .int .i64 0]) := by kernel_rfl
theorem tFe_35_0 : tFe Try.prog 35 0 = some (0, none) := by kernel_rfl
theorem tFld_35_0 : tFld Try.prog 35 0 = some 0 := by kernel_rfl
theorem tFe_35_1 : tFe Try.prog 35 1 = some (1, none) := by kernel_rfl
theorem tFld_35_1 : tFld Try.prog 35 1 = some 1 := by kernel_rfl
theorem tFe_35_2 : tFe Try.prog 35 2 = some (2, none) := by kernel_rfl
theorem tFld_35_2 : tFld Try.prog 35 2 = some 2 := by kernel_rfl
theorem tFe_35_3 : tFe Try.prog 35 3 = some (3, none) := by kernel_rfl
theorem tFld_35_3 : tFld Try.prog 35 3 = some 3 := by kernel_rfl
theorem tFe_35_4 : tFe Try.prog 35 4 = some (4, none) := by kernel_rfl
theorem tFld_35_4 : tFld Try.prog 35 4 = some 4 := by kernel_rfl
theorem tZero_35 : tZero Try.prog 35 = some (.agg #[.int .i64 0, .int .i64 0, .int .i64 0, .int .i64 0, .int .i64 0]) := by kernel_rfl
theorem tOne_36 : tOne Try.prog 36 = true := by kernel_rfl
theorem tZero_36 : tZero Try.prog 36 = some (.nilIface) := by kernel_rfl
theorem tOne_37 : tOne Try.prog 37 = true := by kernel_rfl
theorem tZero_37 : tZero Try.prog 37 = some (.nilIface) := by kernel_rfl
theorem tOne_39 : tOne Try.prog 39 = true := by kernel_rfl
theorem tOne_41 : tOne Try.prog 41 = true := by kernel_rfl
theorem tSl_42 : tSl Try.prog 42 = some (3, 1) := by kernel_rfl
theorem tOne_42 : tOne Try.prog 42 = true := by kernel_rfl
theorem tZero_42 : tZero Try.prog 42 = some (.slice none 0 0) := by kernel_rfl
theorem tOne_43 : tOne Try.prog 43 = true := by kernel_rfl
theorem tOne_44 : tOne Try.prog 44 = true := by kernel_rfl
theorem tOne_45 : tOne Try.prog 45 = true := by kernel_rfl
theorem tOne_46 : tOne Try.prog 46 = true := by kernel_rfl
theorem tOne_47 : tOne Try.prog 47 = true := by kernel_rfl
theorem tOne_48 : tOne Try.prog 48 = true := by kernel_rfl
theorem tOne_49 : tOne Try.prog 49 = true := by kernel_rfl
theorem tOne_50 : tOne Try.prog 50 = true := by kernel_rfl
theorem tOne_51 : tOne Try.prog 51 = true := by kernel_rfl
theorem tOne_52 : tOne Try.prog 52 = true := by kernel_rfl
theorem tOne_53 : tOne Try.prog 53 = true := by kernel_rfl
theorem tOne_54 : tOne Try.prog 54 = true := by kernel_rfl
theorem tOne_55 : tOne Try.prog 55 = true := by kernel_rfl
theorem tOne_56 : tOne Try.prog 56 = true := by kernel_rfl
theorem tZero_56 : tZero Try.prog 56 = some (.int .u64 0) := by kernel_rfl
theorem con_56 : Try.prog.concrete 56 = true := by kernel_rfl
theorem tSl_57 : tSl Try.prog 57 = some (100, 3) := by kernel_rfl
theorem tOne_57 : tOne Try.prog 57 = true := by kernel_rfl
theorem tZero_57 : tZero Try.prog 57 = some (.slice none 0 0) := by kernel_rfl
theorem tAgg_58 : tAgg Try.prog 58 = some 11 := by kernel_rfl
theorem tB_58 : tB Try.prog 58 = some ([(0, 1), (1, 1), (2, 2), (4, 2), (6, 1), (7, 1), (8, 1), (9, 1), (10, 1)], [.string ⟨#[]⟩, .string ⟨#[]⟩, .int .i64 0, .int .i64 0, .int .i64 0, .int .i64 0, .int .i64 0, .int .i64 0, .int .i64 0, .int .u64 0, .slice none 0 0]) := by kernel_rfl
theorem tFe_58_0 : tFe Try.prog 58 0 = some (0, none) := by kernel_rfl
theorem tFld_58_0 : tFld Try.prog 58 0 = some 0 := by kernel_rfl
theorem tFe_58_1 : tFe Try.prog 58 1 = some (1, none) := by kernel_rfl
theorem tFld_58_1 : tFld Try.prog 58 1 = some 1 := by kernel_rfl
theorem tFe_58_2 : tFe Try.prog 58 2 = some (2, some 2) := by kernel_rfl
theorem tFld_58_2 : tFld Try.prog 58 2 = some 2 := by kernel_rfl
theorem tFe_58_3 : tFe Try.prog 58 3 = some (4, some 2) := by kernel_rfl
theorem tFld_58_3 : tFld Try.prog 58 3 = some 4 := by kernel_rfl
theorem tFe_58_4 : tFe Try.prog 58 4 = some (6, none) := by kernel_rfl
theorem tFld_58_4 : tFld Try.prog 58 4 = some 6 := by kernel_rfl
theorem tFe_58_5 : tFe Try.prog 58 5 = some (7, none) := by kernel_rfl
theorem tFld_58_5 : tFld Try.prog 58 5 = some 7 := by kernel_rfl
theorem tFe_58_6 : tFe Try.prog 58 6 = some (8, none) := by kernel_rfl
theorem tFld_58_6 : tFld Try.prog 58 6 = some 8 := by kernel_rfl
theorem tFe_58_7 : tFe Try.prog 58 7 = some (9, none) := by kernel_rfl
theorem tFld_58_7 : tFld Try.prog 58 7 = some 9 := by kernel_rfl
theorem tFe_58_8 : tFe Try.prog 58 8 = some (10, none) := by kernel_rfl
theorem tFld_58_8 : tFld Try.prog 58 8 = some 10 := by kernel_rfl
theorem tZero_58 : tZero Try.prog 58 = some (.agg #[.string ⟨#[]⟩, .string ⟨#[]⟩, .int .i64 0, .int .i64 0, .int .i64 0, .int .i64 0, .int .i64 0, .int .i64 0, .int .i64 0, .int .u64 0, .slice none 0 0]) := by kernel_rfl
theorem tAgg_59 : tAgg Try.prog 59 = some 11 := by kernel_rfl
theorem tB_59 : tB Try.prog 59 = some ([(0, 1), (1, 1), (2, 2), (4, 2), (6, 1), (7, 1), (8, 1), (9, 1), (10, 1)], [.string ⟨#[]⟩, .string ⟨#[]⟩, .int .i64 0, .int .i64 0, .int .i64 0, .int .i64 0, .int .i64 0, .int .i64 0, .int .i64 0, .int .u64 0, .slice none 0 0]) := by kernel_rfl
theorem tFe_59_0 : tFe Try.prog 59 0 = some (0, none) := by kernel_rfl
theorem tFld_59_0 : tFld Try.prog 59 0 = some 0 := by kernel_rfl
theorem tFe_59_1 : tFe Try.prog 59 1 = some (1, none) := by kernel_rfl
theorem tFld_59_1 : tFld Try.prog 59 1 = some 1 := by kernel_rfl
theorem tFe_59_2 : tFe Try.prog 59 2 = some (2, some 2) := by kernel_rfl
theorem tFld_59_2 : tFld Try.prog 59 2 = some 2 := by kernel_rfl
theorem tFe_59_3 : tFe Try.prog 59 3 = some (4, some 2) := by kernel_rfl
theorem tFld_59_3 : tFld Try.prog 59 3 = some 4 := by kernel_rfl
theorem tFe_59_4 : tFe Try.prog 59 4 = some (6, none) := by kernel_rfl
theorem tFld_59_4 : tFld Try.prog 59 4 = some 6 := by kernel_rfl
theorem tFe_59_5 : tFe Try.prog 59 5 = some (7, none) := by kernel_rfl
theorem tFld_59_5 : tFld Try.prog 59 5 = some 7 := by kernel_rfl
theorem tFe_59_6 : tFe Try.prog 59 6 = some (8, none) := by kernel_rfl
theorem tFld_59_6 : tFld Try.prog 59 6 = some 8 := by kernel_rfl
theorem tFe_59_7 : tFe Try.prog 59 7 = some (9, none) := by kernel_rfl
theorem tFld_59_7 : tFld Try.prog 59 7 = some 9 := by kernel_rfl
theorem tFe_59_8 : tFe Try.prog 59 8 = some (10, none) := by kernel_rfl
theorem tFld_59_8 : tFld Try.prog 59 8 = some 10 := by kernel_rfl
theorem tZero_59 : tZero Try.prog 59 = some (.agg #[.string ⟨#[]⟩, .string ⟨#[]⟩, .int .i64 0, .int .i64 0, .int .i64 0, .int .i64 0, .int .i64 0, .int .i64 0, .int .i64 0, .int .u64 0, .slice none 0 0]) := by kernel_rfl
theorem tOne_60 : tOne Try.prog 60 = true := by kernel_rfl
theorem tOne_61 : tOne Try.prog 61 = true := by kernel_rfl
theorem tOne_62 : tOne Try.prog 62 = true := by kernel_rfl
theorem tZero_62 : tZero Try.prog 62 = some (.int .i64 0) := by kernel_rfl
theorem con_62 : Try.prog.concrete 62 = true := by kernel_rfl
theorem tOne_63 : tOne Try.prog 63 = true := by kernel_rfl
theorem tOne_64 : tOne Try.prog 64 = true := by kernel_rfl
theorem tOne_65 : tOne Try.prog 65 = true := by kernel_rfl
theorem tOne_66 : tOne Try.prog 66 = true := by kernel_rfl
theorem tOne_67 : tOne Try.prog 67 = true := by kernel_rfl
theorem tOne_68 : tOne Try.prog 68 = true := by kernel_rfl
theorem tOne_69 : tOne Try.prog 69 = true := by kernel_rfl
theorem tAgg_70 : tAgg Try.prog 70 = some 4 := by kernel_rfl
theorem tB_70 : tB Try.prog 70 = some ([(0, 1), (1, 1), (2, 1), (3, 1)], [.int .i64 0, .string ⟨#[]⟩, .int .i64 0, .int .i64 0]) := by kernel_rfl
theorem tFe_70_0 : tFe Try.prog 70 0 = some (0, none) := by kernel_rfl
theorem tFld_70_0 : tFld Try.prog 70 0 = some 0 := by kernel_rfl
theorem tFe_70_1 : tFe Try.prog 70 1 = some (1, none) := by kernel_rfl
theorem tFld_70_1 : tFld Try.prog 70 1 = some 1 := by kernel_rfl
theorem tFe_70_2 : tFe Try.prog 70 2 = some (2, none) := by kernel_rfl
theorem tFld_70_2 : tFld Try.prog 70 2 = some 2 := by kernel_rfl
theorem tFe_70_3 : tFe Try.prog 70 3 = some (3, none) := by kernel_rfl
theorem tFld_70_3 : tFld Try.prog 70 3 = some 3 := by kernel_rfl
theorem tZero_70 : tZero Try.prog 70 = some (.agg #[.int .i64 0, .string ⟨#[]⟩, .int .i64 0, .int .i64 0]) := by kernel_rfl
theorem tAgg_71 : tAgg Try.prog 71 = some 4 := by kernel_rfl
theorem tB_71 : tB Try.prog 71 = some ([(0, 1), (1, 1), (2, 1), (3, 1)], [.int .i64 0, .string ⟨#[]⟩, .int .i64 0, .int .i64 0]) := by kernel_rfl
theorem tFe_71_0 : tFe Try.prog 71 0 = some (0, none) := by kernel_rfl
theorem tFld_71_0 : tFld Try.prog 71 0 = some 0 := by kernel_rfl
theorem tFe_71_1 : tFe Try.prog 71 1 = some (1, none) := by kernel_rfl
theorem tFld_71_1 : tFld Try.prog 71 1 = some 1 := by kernel_rfl
theorem tFe_71_2 : tFe Try.prog 71 2 = some (2, none) := by kernel_rfl
theorem tFld_71_2 : tFld Try.prog 71 2 = some 2 := by kernel_rfl
theorem tFe_71_3 : tFe Try.prog 71 3 = some (3, none) := by kernel_rfl
theorem tFld_71_3 : tFld Try.prog 71 3 = some 3 := by kernel_rfl
theorem tZero_71 : tZero Try.prog 71 = some (.agg #[.int .i64 0, .string ⟨#[]⟩, .int .i64 0, .int .i64 0]) := by kernel_rfl
theorem tOne_72 : tOne Try.prog 72 = true := by kernel_rfl
theorem tOne_73 : tOne Try.prog 73 = true := by kernel_rfl
theorem tAgg_74 : tAgg Try.prog 74 = some 3 := by kernel_rfl
theorem tB_74 : tB Try.prog 74 = some ([(0, 1), (1, 1), (2, 1)], [.int .i64 0, .int .i64 0, .string ⟨#[]⟩]) := by kernel_rfl
theorem tFe_74_0 : tFe Try.prog 74 0 = some (0, none) := by kernel_rfl
theorem tFld_74_0 : tFld Try.prog 74 0 = some 0 := by kernel_rfl
theorem tFe_74_1 : tFe Try.prog 74 1 = some (1, none) := by kernel_rfl
theorem tFld_74_1 : tFld Try.prog 74 1 = some 1 := by kernel_rfl
theorem tFe_74_2 : tFe Try.prog 74 2 = some (2, none) := by kernel_rfl
theorem tFld_74_2 : tFld Try.prog 74 2 = some 2 := by kernel_rfl
theorem tZero_74 : tZero Try.prog 74 = some (.agg #[.int .i64 0, .int .i64 0, .string ⟨#[]⟩]) := by kernel_rfl
theorem tAgg_75 : tAgg Try.prog 75 = some 3 := by kernel_rfl
theorem tB_75 : tB Try.prog 75 = some ([(0, 1), (1, 1), (2, 1)], [.int .i64 0, .int .i64 0, .string ⟨#[]⟩]) := by kernel_rfl
theorem tFe_75_0 : tFe Try.prog 75 0 = some (0, none) := by kernel_rfl
theorem tFld_75_0 : tFld Try.prog 75 0 = some 0 := by kernel_rfl
theorem tFe_75_1 : tFe Try.prog 75 1 = some (1, none) := by kernel_rfl
theorem tFld_75_1 : tFld Try.prog 75 1 = some 1 := by kernel_rfl
theorem tFe_75_2 : tFe Try.prog 75 2 = some (2, none) := by kernel_rfl
theorem tFld_75_2 : tFld Try.prog 75 2 = some 2 := by kernel_rfl
theorem tZero_75 : tZero Try.prog 75 = some (.agg #[.int .i64 0, .int .i64 0, .string ⟨#[]⟩]) := by kernel_rfl
theorem tAgg_76 : tAgg Try.prog 76 = some 3 := by kernel_rfl
theorem tB_76 : tB Try.prog 76 = some ([(0, 2), (2, 1)], [.int .i64 0, .int .i64 0, .int .i64 0]) := by kernel_rfl
theorem tFe_76_0 : tFe Try.prog 76 0 = some (0, some 2) := by kernel_rfl
theorem tFld_76_0 : tFld Try.prog 76 0 = some 0 := by kernel_rfl
theorem tFe_76_1 : tFe Try.prog 76 1 = some (2, none) := by kernel_rfl
theorem tFld_76_1 : tFld Try.prog 76 1 = some 2 := by kernel_rfl
theorem tZero_76 : tZero Try.prog 76 = some (.agg #[.int .i64 0, .int .i64 0, .int .i64 0]) := by kernel_rfl
theorem tAgg_77 : tAgg Try.prog 77 = some 3 := by kernel_rfl
theorem tB_77 : tB Try.prog 77 = some ([(0, 2), (2, 1)], [.int .i64 0, .int .i64 0, .int .i64 0]) := by kernel_rfl
theorem tFe_77_0 : tFe Try.prog 77 0 = some (0, some 2) := by kernel_rfl
theorem tFld_77_0 : tFld Try.prog 77 0 = some 0 := by kernel_rfl
theorem tFe_77_1 : tFe Try.prog 77 1 = some (2, none) := by kernel_rfl
theorem tFld_77_1 : tFld Try.prog 77 1 = some 2 := by kernel_rfl
theorem tZero_77 : tZero Try.prog 77 = some (.agg #[.int .i64 0, .int .i64 0, .int .i64 0]) := by kernel_rfl
theorem tOne_78 : tOne Try.prog 78 = true := by kernel_rfl
theorem tOne_79 : tOne Try.prog 79 = true := by kernel_rfl
theorem tOne_80 : tOne Try.prog 80 = true := by kernel_rfl
theorem tOne_81 : tOne Try.prog 81 = true := by kernel_rfl
theorem tOne_82 : tOne Try.prog 82 = true := by kernel_rfl
theorem tOne_83 : tOne Try.prog 83 = true := by kernel_rfl
theorem tOne_84 : tOne Try.prog 84 = true := by kernel_rfl
theorem tOne_86 : tOne Try.prog 86 = true := by kernel_rfl
theorem tOne_88 : tOne Try.prog 88 = true := by kernel_rfl
theorem tOne_89 : tOne Try.prog 89 = true := by kernel_rfl
theorem tMap_89 : tMap Try.prog 89 = true := by kernel_rfl
theorem tOne_90 : tOne Try.prog 90 = true := by kernel_rfl
theorem tOne_91 : tOne Try.prog 91 = true := by kernel_rfl
theorem tOne_92 : tOne Try.prog 92 = true := by kernel_rfl
theorem tOne_93 : tOne Try.prog 93 = true := by kernel_rfl
theorem tOne_94 : tOne Try.prog 94 = true := by kernel_rfl
theorem tOne_95 : tOne Try.prog 95 = true := by kernel_rfl
theorem tOne_96 : tOne Try.prog 96 = true := by kernel_rfl
theorem tOne_97 : tOne Try.prog 97 = true := by kernel_rfl
theorem tOne_98 : tOne Try.prog 98 = true := by kernel_rfl
theorem tAgg_99 : tAgg Try.prog 99 = some 3 := by kernel_rfl
theorem tB_99 : tB Try.prog 99 = some ([(0, 1), (1, 1), (2, 1)], [.string ⟨#[]⟩, .string ⟨#[]⟩, .bool false]) := by kernel_rfl
theorem tFe_99_0 : tFe Try.prog 99 0 = some (0, none) := by kernel_rfl
theorem tFld_99_0 : tFld Try.prog 99 0 = some 0 := by kernel_rfl
theorem tFe_99_1 : tFe Try.prog 99 1 = some (1, none) := by kernel_rfl
theorem tFld_99_1 : tFld Try.prog 99 1 = some 1 := by kernel_rfl
theorem tFe_99_2 : tFe Try.prog 99 2 = some (2, none) := by kernel_rfl
theorem tFld_99_2 : tFld Try.prog 99 2 = some 2 := by kernel_rfl
theorem tZero_99 : tZero Try.prog 99 = some (.agg #[.string ⟨#[]⟩, .string ⟨#[]⟩, .bool false]) := by kernel_rfl
theorem tAgg_100 : tAgg Try.prog 100 = some 3 := by kernel_rfl
theorem tB_100 : tB Try.prog 100 = some ([(0, 1), (1, 1), (2, 1)], [.string ⟨#[]⟩, .string ⟨#[]⟩, .bool false]) := by kernel_rfl
theorem tFe_100_0 : tFe Try.prog 100 0 = some (0, none) := by kernel_rfl
theorem tFld_100_0 : tFld Try.prog 100 0 = some 0 := by kernel_rfl
theorem tFe_100_1 : tFe Try.prog 100 1 = some (1, none) := by kernel_rfl
theorem tFld_100_1 : tFld Try.prog 100 1 = some 1 := by kernel_rfl
theorem tFe_100_2 : tFe Try.prog 100 2 = some (2, none) := by kernel_rfl
theorem tFld_100_2 : tFld Try.prog 100 2 = some 2 := by kernel_rfl
theorem tZero_100 : tZero Try.prog 100 = some (.agg #[.string ⟨#[]⟩, .string ⟨#[]⟩, .bool false]) := by kernel_rfl
theorem tOne_102 : tOne Try.prog 102 = true := by kernel_rfl
theorem tOne_103 : tOne Try.prog 103 = true := by kernel_rfl
theorem tOne_104 : tOne Try.prog 104 = true := by kernel_rfl
theorem tOne_105 : tOne Try.prog 105 = true := by kernel_rfl
theorem tOne_106 : tOne Try.prog 106 = true := by kernel_rfl
theorem tOne_107 : tOne Try.prog 107 = true := by kernel_rfl
theorem tOne_108 : tOne Try.prog 108 = true := by kernel_rfl
theorem tOne_109 : tOne Try.prog 109 = true := by kernel_rfl
theorem tOne_110 : tOne Try.prog 110 = true := by kernel_rfl
theorem tOne_111 : tOne Try.prog 111 = true := by kernel_rfl
theorem tOne_112 : tOne Try.prog 112 = true := by kernel_rfl
theorem tOne_113 : tOne Try.prog 113 = true := by kernel_rfl
theorem tOne_114 : tOne Try.prog 114 = true := by kernel_rfl
theorem tOne_115 : tOne Try.prog 115 = true := by kernel_rfl
theorem tOne_116 : tOne Try.prog 116 = true := by kernel_rfl
theorem tOne_117 : tOne Try.prog 117 = true := by kernel_rfl
theorem tZero_117 : tZero Try.prog 117 = some (.int .u64 0) := by kernel_rfl
theorem con_117 : Try.prog.concrete 117 = true := by kernel_rfl
theorem tOne_118 : tOne Try.prog 118 = true := by kernel_rfl
theorem tOne_119 : tOne Try.prog 119 = true := by kernel_rfl
theorem tOne_120 : tOne Try.prog 120 = true := by kernel_rfl
theorem tOne_121 : tOne Try.prog 121 = true := by kernel_rfl
theorem tOne_122 : tOne Try.prog 122 = true := by kernel_rfl
theorem tOne_123 : tOne Try.prog 123 = true := by kernel_rfl
theorem tOne_124 : tOne Try.prog 124 = true := by kernel_rfl
theorem tOne_125 : tOne Try.prog 125 = true := by kernel_rfl
theorem tZero_125 : tZero Try.prog 125 = some (.int .i64 0) := by kernel_rfl
theorem con_125 : Try.prog.concrete 125 = true := by kernel_rfl
theorem tOne_127 : tOne Try.prog 127 = true := by kernel_rfl
theorem tOne_128 : tOne Try.prog 128 = true := by kernel_rfl
theorem tOne_129 : tOne Try.prog 129 = true := by kernel_rfl
theorem tOne_130 : tOne Try.prog 130 = true := by kernel_rfl
theorem tOne_131 : tOne Try.prog 131 = true := by kernel_rfl
theorem tOne_132 : tOne Try.prog 132 = true := by kernel_rfl
theorem tZero_132 : tZero Try.prog 132 = some (.int .u32 0) := by kernel_rfl
theorem con_132 : Try.prog.concrete 132 = true := by kernel_rfl
theorem tOne_133 : tOne Try.prog 133 = true := by kernel_rfl
theorem tOne_134 : tOne Try.prog 134 = true := by kernel_rfl
theorem tZero_134 : tZero Try.prog 134 = some (.int .u64 0) := by kernel_rfl
theorem con_134 : Try.prog.concrete 134 = true := by kernel_rfl
theorem tOne_135 : tOne Try.prog 135 = true := by kernel_rfl
theorem tOne_136 : tOne Try.prog 136 = true := by kernel_rfl
theorem tOne_137 : tOne Try.prog 137 = true := by kernel_rfl
theorem tOne_138 : tOne Try.prog 138 = true := by kernel_rfl
theorem tZero_138 : tZero Try.prog 138 = some (.pointer none) := by kernel_rfl
theorem tOne_139 : tOne Try.prog 139 = true := by kernel_rfl
theorem tOne_140 : tOne Try.prog 140 = true := by kernel_rfl
theorem tOne_141 : tOne Try.prog 141 = true := by kernel_rfl
theorem tZero_141 : tZero Try.prog 141 = some (.pointer none) := by kernel_rfl
theorem tOne_143 : tOne Try.prog 143 = true := by kernel_rfl
theorem tOne_144 : tOne Try.prog 144 = true := by kernel_rfl
theorem tAgg_145 : tAgg Try.prog 145 = some 4 := by kernel_rfl
theorem tB_145 : tB Try.prog 145 = some ([(0, 1), (1, 1), (2, 1), (3, 1)], [.pointer none, .pointer none, .pointer none, .string ⟨#[]⟩]) := by kernel_rfl
theorem tFe_145_0 : tFe Try.prog 145 0 = some (0, none) := by kernel_rfl
theorem tFld_145_0 : tFld Try.prog 145 0 = some 0 := by kernel_rfl
theorem tFe_145_1 : tFe Try.prog 145 1 = some (1, none) := by kernel_rfl
theorem tFld_145_1 : tFld Try.prog 145 1 = some 1 := by kernel_rfl
theorem tFe_145_2 : tFe Try.prog 145 2 = some (2, none) := by kernel_rfl
theorem tFld_145_2 : tFld Try.prog 145 2 = some 2 := by kernel_rfl
theorem tFe_145_3 : tFe Try.prog 145 3 = some (3, none) := by kernel_rfl
theorem tFld_145_3 : tFld Try.prog 145 3 = some 3 := by kernel_rfl
theorem tZero_145 : tZero Try.prog 145 = some (.agg #[.pointer none, .pointer none, .pointer none, .string ⟨#[]⟩]) := by kernel_rfl
theorem tAgg_146 : tAgg Try.prog 146 = some 4 := by kernel_rfl
theorem tB_146 : tB Try.prog 146 = some ([(0, 1), (1, 1), (2, 1), (3, 1)], [.pointer none, .pointer none, .pointer none, .string ⟨#[]⟩]) := by kernel_rfl
theorem tFe_146_0 : tFe Try.prog 146 0 = some (0, none) := by kernel_rfl
theorem tFld_146_0 : tFld Try.prog 146 0 = some 0 := by kernel_rfl
theorem tFe_146_1 : tFe Try.prog 146 1 = some (1, none) := by kernel_rfl
theorem tFld_146_1 : tFld Try.prog 146 1 = some 1 := by kernel_rfl
theorem tFe_146_2 : tFe Try.prog 146 2 = some (2, none) := by kernel_rfl
theorem tFld_146_2 : tFld Try.prog 146 2 = some 2 := by kernel_rfl
theorem tFe_146_3 : tFe Try.prog 146 3 = some (3, none) := by kernel_rfl
theorem tFld_146_3 : tFld Try.prog 146 3 = some 3 := by kernel_rfl
theorem tZero_146 : tZero Try.prog 146 = some (.agg #[.pointer none, .pointer none, .pointer none, .string ⟨#[]⟩]) := by kernel_rfl
theorem tAgg_148 : tAgg Try.prog 148 = some 0 := by kernel_rfl
theorem tAgg_149 : tAgg Try.prog 149 = some 0 := by kernel_rfl
theorem tOne_150 : tOne Try.prog 150 = true := by kernel_rfl
theorem tOne_151 : tOne Try.prog 151 = true := by kernel_rfl
theorem tZero_151 : tZero Try.prog 151 = some (.int .u8 0) := by kernel_rfl
theorem con_151 : Try.prog.concrete 151 = true := by kernel_rfl
theorem tOne_152 : tOne Try.prog 152 = true := by kernel_rfl
theorem tZero_152 : tZero Try.prog 152 = some (.int .u8 0) := by kernel_rfl
theorem con_152 : Try.prog.concrete 152 = true := by kernel_rfl
theorem tOne_153 : tOne Try.prog 153 = true := by kernel_rfl
theorem tOne_154 : tOne Try.prog 154 = true := by kernel_rfl
theorem tZero_154 : tZero Try.prog 154 = some (.pointer none) := by kernel_rfl
theorem tOne_155 : tOne Try.prog 155 = true := by kernel_rfl
theorem tZero_155 : tZero Try.prog 155 = some (.int .i32 0) := by kernel_rfl
theorem con_155 : Try.prog.concrete 155 = true := by kernel_rfl
theorem tOne_156 : tOne Try.prog 156 = true := by kernel_rfl
theorem tZero_156 : tZero Try.prog 156 = some (.int .i32 0) := by kernel_rfl
theorem con_156 : Try.prog.concrete 156 = true := by kernel_rfl
theorem tAgg_157 : tAgg Try.prog 157 = some 11 := by kernel_rfl
theorem tB_157 : tB Try.prog 157 = some ([(0, 1), (1, 1), (2, 1), (3, 1), (4, 1), (5, 1), (6, 1), (7, 1), (8, 1), (9, 1), (10, 1)], [.int .u64 0, .int .u64 0, .int .u32 0, .int .u8 0, .int .u8 0, .int .u8 0, .int .u8 0, .nilFunc, .pointer none, .int .i32 0, .int .i32 0]) := by kernel_rfl
theorem tFe_157_0 : tFe Try.prog 157 0 = some (0, none) := by kernel_rfl
theorem tFld_157_0 : tFld Try.prog 157 0 = some 0 := by kernel_rfl
theorem tFe_157_1 : tFe Try.prog 157 1 = some (1, none) := by kernel_rfl
theorem tFld_157_1 : tFld Try.prog 157 1 = some 1 := by kernel_rfl
theorem tFe_157_2 : tFe Try.prog 157 2 = some (2, none) := by kernel_rfl
theorem tFld_157_2 : tFld Try.prog 157 2 = some 2 := by kernel_rfl
theorem tFe_157_3 : tFe Try.prog 157 3 = some (3, none) := by kernel_rfl
theorem tFld_157_3 : tFld Try.prog 157 3 = some 3 := by kernel_rfl
theorem tFe_157_4 : tFe Try.prog 157 4 = some (4, none) := by kernel_rfl
theorem tFld_157_4 : tFld Try.prog 157 4 = some 4 := by kernel_rfl
theorem tFe_157_5 : tFe Try.prog 157 5 = some (5, none) := by kernel_rfl
theorem tFld_157_5 : tFld Try.prog 157 5 = some 5 := by kernel_rfl
theorem tFe_157_6 : tFe Try.prog 157 6 = some (6, none) := by kernel_rfl
theorem tFld_157_6 : tFld Try.prog 157 6 = some 6 := by kernel_rfl
theorem tFe_157_7 : tFe Try.prog 157 7 = some (7, none) := by kernel_rfl
theorem tFld_157_7 : tFld Try.prog 157 7 = some 7 := by kernel_rfl
theorem tFe_157_8 : tFe Try.prog 157 8 = some (8, none) := by kernel_rfl
theorem tFld_157_8 : tFld Try.prog 157 8 = some 8 := by kernel_rfl
theorem tFe_157_9 : tFe Try.prog 157 9 = some (9, none) := by kernel_rfl
theorem tFld_157_9 : tFld Try.prog 157 9 = some 9 := by kernel_rfl
theorem tFe_157_10 : tFe Try.prog 157 10 = some (10, none) := by kernel_rfl
theorem tFld_157_10 : tFld Try.prog 157 10 = some 10 := by kernel_rfl
theorem tZero_157 : tZero Try.prog 157 = some (.agg #[.int .u64 0, .int .u64 0, .int .u32 0, .int .u8 0, .int .u8 0, .int .u8 0, .int .u8 0, .nilFunc, .pointer none, .int .i32 0, .int .i32 0]) := by kernel_rfl
theorem tAgg_158 : tAgg Try.prog 158 = some 11 := by kernel_rfl
theorem tB_158 : tB Try.prog 158 = some ([(0, 1), (1, 1), (2, 1), (3, 1), (4, 1), (5, 1), (6, 1), (7, 1), (8, 1), (9, 1), (10, 1)], [.int .u64 0, .int .u64 0, .int .u32 0, .int .u8 0, .int .u8 0, .int .u8 0, .int .u8 0, .nilFunc, .pointer none, .int .i32 0, .int .i32 0]) := by kernel_rfl
theorem tFe_158_0 : tFe Try.prog 158 0 = some (0, none) := by kernel_rfl
theorem tFld_158_0 : tFld Try.prog 158 0 = some 0 := by kernel_rfl
theorem tFe_158_1 : tFe Try.prog 158 1 = some (1, none) := by kernel_rfl
theorem tFld_158_1 : tFld Try.prog 158 1 = some 1 := by kernel_rfl
theorem tFe_158_2 : tFe Try.prog 158 2 = some (2, none) := by kernel_rfl
theorem tFld_158_2 : tFld Try.prog 158 2 = some 2 := by kernel_rfl
theorem tFe_158_3 : tFe Try.prog 158 3 = some (3, none) := by kernel_rfl
theorem tFld_158_3 : tFld Try.prog 158 3 = some 3 := by kernel_rfl
theorem tFe_158_4 : tFe Try.prog 158 4 = some (4, none) := by kernel_rfl
theorem tFld_158_4 : tFld Try.prog 158 4 = some 4 := by kernel_rfl
theorem tFe_158_5 : tFe Try.prog 158 5 = some (5, none) := by kernel_rfl
theorem tFld_158_5 : tFld Try.prog 158 5 = some 5 := by kernel_rfl
theorem tFe_158_6 : tFe Try.prog 158 6 = some (6, none) := by kernel_rfl
theorem tFld_158_6 : tFld Try.prog 158 6 = some 6 := by kernel_rfl
theorem tFe_158_7 : tFe Try.prog 158 7 = some (7, none) := by kernel_rfl
theorem tFld_158_7 : tFld Try.prog 158 7 = some 7 := by kernel_rfl
theorem tFe_158_8 : tFe Try.prog 158 8 = some (8, none) := by kernel_rfl
theorem tFld_158_8 : tFld Try.prog 158 8 = some 8 := by kernel_rfl
theorem tFe_158_9 : tFe Try.prog 158 9 = some (9, none) := by kernel_rfl
theorem tFld_158_9 : tFld Try.prog 158 9 = some 9 := by kernel_rfl
theorem tFe_158_10 : tFe Try.prog 158 10 = some (10, none) := by kernel_rfl
theorem tFld_158_10 : tFld Try.prog 158 10 = some 10 := by kernel_rfl
theorem tZero_158 : tZero Try.prog 158 = some (.agg #[.int .u64 0, .int .u64 0, .int .u32 0, .int .u8 0, .int .u8 0, .int .u8 0, .int .u8 0, .nilFunc, .pointer none, .int .i32 0, .int .i32 0]) := by kernel_rfl
theorem tApp_22 : tApp Try.prog 22 11 = some (59, 120) := by kernel_rfl
theorem tInf_22 : ((Try.prog.info? 59).map (·.size)).isSome = true := by kernel_rfl
theorem tApp_26 : tApp Try.prog 26 5 = some (35, 40) := by kernel_rfl
theorem tInf_26 : ((Try.prog.info? 35).map (·.size)).isSome = true := by kernel_rfl
theorem tApp_27 : tApp Try.prog 27 3 = some (75, 32) := by kernel_rfl
theorem tInf_27 : ((Try.prog.info? 75).map (·.size)).isSome = true := by kernel_rfl
theorem tApp_28 : tApp Try.prog 28 3 = some (77, 24) := by kernel_rfl
theorem tInf_28 : ((Try.prog.info? 77).map (·.size)).isSome = true := by kernel_rfl
theorem tApp_29 : tApp Try.prog 29 4 = some (71, 40) := by kernel_rfl
theorem tInf_29 : ((Try.prog.info? 71).map (·.size)).isSome = true := by kernel_rfl
theorem tApp_42 : tApp Try.prog 42 1 = some (3, 8) := by kernel_rfl
theorem tInf_42 : ((Try.prog.info? 3).map (·.size)).isSome = true := by kernel_rfl
theorem tApp_57 : tApp Try.prog 57 3 = some (100, 40) := by kernel_rfl
theorem tInf_57 : ((Try.prog.info? 100).map (·.size)).isSome = true := by kernel_rfl
theorem eg_2 : ∀ args w, (callFunc 2 args).run Try.prog w = .ok (.enter 2 args) w := enters_of Try.func2 (by kernel_rfl) rfl
theorem eg_3 : ∀ args w, (callFunc 3 args).run Try.prog w = .ok (.enter 3 args) w := enters_of Try.func3 (by kernel_rfl) rfl
theorem eg_4 : ∀ args w, (callFunc 4 args).run Try.prog w = .ok (.enter 4 args) w := enters_of Try.func4 (by kernel_rfl) rfl
theorem eg_5 : ∀ args w, (callFunc 5 args).run Try.prog w = .ok (.enter 5 args) w := enters_of Try.func5 (by kernel_rfl) rfl
theorem eg_6 : ∀ args w, (callFunc 6 args).run Try.prog w = .ok (.enter 6 args) w := enters_of Try.func6 (by kernel_rfl) rfl
theorem eg_7 : ∀ args w, (callFunc 7 args).run Try.prog w = .ok (.enter 7 args) w := enters_of Try.func7 (by kernel_rfl) rfl
theorem eg_8 : ∀ args w, (callFunc 8 args).run Try.prog w = .ok (.enter 8 args) w := enters_of Try.func8 (by kernel_rfl) rfl
theorem eg_9 : ∀ args w, (callFunc 9 args).run Try.prog w = .ok (.enter 9 args) w := enters_of Try.func9 (by kernel_rfl) rfl
theorem eg_10 : ∀ args w, (callFunc 10 args).run Try.prog w = .ok (.enter 10 args) w := enters_of Try.func10 (by kernel_rfl) rfl
theorem eg_11 : ∀ args w, (callFunc 11 args).run Try.prog w = .ok (.enter 11 args) w := enters_of Try.func11 (by kernel_rfl) rfl
theorem eg_12 : ∀ args w, (callFunc 12 args).run Try.prog w = .ok (.enter 12 args) w := enters_of Try.func12 (by kernel_rfl) rfl
theorem eg_13 : ∀ args w, (callFunc 13 args).run Try.prog w = .ok (.enter 13 args) w := enters_of Try.func13 (by kernel_rfl) rfl
theorem eg_14 : ∀ args w, (callFunc 14 args).run Try.prog w = .ok (.enter 14 args) w := enters_of Try.func14 (by kernel_rfl) rfl
theorem eg_15 : ∀ args w, (callFunc 15 args).run Try.prog w = .ok (.enter 15 args) w := enters_of Try.func15 (by kernel_rfl) rfl
theorem eg_16 : ∀ args w, (callFunc 16 args).run Try.prog w = .ok (.enter 16 args) w := enters_of Try.func16 (by kernel_rfl) rfl
theorem eg_17 : ∀ args w, (callFunc 17 args).run Try.prog w = .ok (.enter 17 args) w := enters_of Try.func17 (by kernel_rfl) rfl
theorem eg_18 : ∀ args w, (callFunc 18 args).run Try.prog w = .ok (.enter 18 args) w := enters_of Try.func18 (by kernel_rfl) rfl
theorem eg_19 : ∀ args w, (callFunc 19 args).run Try.prog w = .ok (.enter 19 args) w := enters_of Try.func19 (by kernel_rfl) rfl
theorem eg_20 : ∀ args w, (callFunc 20 args).run Try.prog w = .ok (.enter 20 args) w := enters_of Try.func20 (by kernel_rfl) rfl
theorem eg_21 : ∀ args w, (callFunc 21 args).run Try.prog w = .ok (.enter 21 args) w := enters_of Try.func21 (by kernel_rfl) rfl
theorem eg_22 : ∀ args w, (callFunc 22 args).run Try.prog w = .ok (.enter 22 args) w := enters_of Try.func22 (by kernel_rfl) rfl
theorem eg_23 : ∀ args w, (callFunc 23 args).run Try.prog w = .ok (.enter 23 args) w := enters_of Try.func23 (by kernel_rfl) rfl
theorem eg_24 : ∀ args w, (callFunc 24 args).run Try.prog w = .ok (.enter 24 args) w := enters_of Try.func24 (by kernel_rfl) rfl
theorem eg_25 : ∀ args w, (callFunc 25 args).run Try.prog w = .ok (.enter 25 args) w := enters_of Try.func25 (by kernel_rfl) rfl
theorem eg_26 : ∀ args w, (callFunc 26 args).run Try.prog w = .ok (.enter 26 args) w := enters_of Try.func26 (by kernel_rfl) rfl
theorem eg_27 : ∀ args w, (callFunc 27 args).run Try.prog w = .ok (.enter 27 args) w := enters_of Try.func27 (by kernel_rfl) rfl
theorem eg_28 : ∀ args w, (callFunc 28 args).run Try.prog w = .ok (.enter 28 args) w := enters_of Try.func28 (by kernel_rfl) rfl
theorem eg_29 : ∀ args w, (callFunc 29 args).run Try.prog w = .ok (.enter 29 args) w := enters_of Try.func29 (by kernel_rfl) rfl
theorem eg_30 : ∀ args w, (callFunc 30 args).run Try.prog w = .ok (.enter 30 args) w := enters_of Try.func30 (by kernel_rfl) rfl
theorem eg_31 : ∀ args w, (callFunc 31 args).run Try.prog w = .ok (.enter 31 args) w := enters_of Try.func31 (by kernel_rfl) rfl
theorem eg_32 : ∀ args w, (callFunc 32 args).run Try.prog w = .ok (.enter 32 args) w := enters_of Try.func32 (by kernel_rfl) rfl
theorem eg_33 : ∀ args w, (callFunc 33 args).run Try.prog w = .ok (.enter 33 args) w := enters_of Try.func33 (by kernel_rfl) rfl
theorem eg_34 : ∀ args w, (callFunc 34 args).run Try.prog w = .ok (.enter 34 args) w := enters_of Try.func34 (by kernel_rfl) rfl
theorem eg_35 : ∀ args w, (callFunc 35 args).run Try.prog w = .ok (.enter 35 args) w := enters_of Try.func35 (by kernel_rfl) rfl
theorem eg_36 : ∀ args w, (callFunc 36 args).run Try.prog w = .ok (.enter 36 args) w := enters_of Try.func36 (by kernel_rfl) rfl
theorem eg_37 : ∀ args w, (callFunc 37 args).run Try.prog w = .ok (.enter 37 args) w := enters_of Try.func37 (by kernel_rfl) rfl
theorem eg_38 : ∀ args w, (callFunc 38 args).run Try.prog w = .ok (.enter 38 args) w := enters_of Try.func38 (by kernel_rfl) rfl
theorem eg_39 : ∀ args w, (callFunc 39 args).run Try.prog w = .ok (.enter 39 args) w := enters_of Try.func39 (by kernel_rfl) rfl
theorem eg_40 : ∀ args w, (callFunc 40 args).run Try.prog w = .ok (.enter 40 args) w := enters_of Try.func40 (by kernel_rfl) rfl
theorem eg_41 : ∀ args w, (callFunc 41 args).run Try.prog w = .ok (.enter 41 args) w := enters_of Try.func41 (by kernel_rfl) rfl
theorem eg_42 : ∀ args w, (callFunc 42 args).run Try.prog w = .ok (.enter 42 args) w := enters_of Try.func42 (by kernel_rfl) rfl
theorem eg_43 : ∀ args w, (callFunc 43 args).run Try.prog w = .ok (.enter 43 args) w := enters_of Try.func43 (by kernel_rfl) rfl
theorem eg_44 : ∀ args w, (callFunc 44 args).run Try.prog w = .ok (.enter 44 args) w := enters_of Try.func44 (by kernel_rfl) rfl
theorem eg_45 : ∀ args w, (callFunc 45 args).run Try.prog w = .ok (.enter 45 args) w := enters_of Try.func45 (by kernel_rfl) rfl
theorem eg_46 : ∀ args w, (callFunc 46 args).run Try.prog w = .ok (.enter 46 args) w := enters_of Try.func46 (by kernel_rfl) rfl
theorem eg_47 : ∀ args w, (callFunc 47 args).run Try.prog w = .ok (.enter 47 args) w := enters_of Try.func47 (by kernel_rfl) rfl
theorem eg_48 : ∀ args w, (callFunc 48 args).run Try.prog w = .ok (.enter 48 args) w := enters_of Try.func48 (by kernel_rfl) rfl
theorem eg_49 : ∀ args w, (callFunc 49 args).run Try.prog w = .ok (.enter 49 args) w := enters_of Try.func49 (by kernel_rfl) rfl
theorem eg_50 : ∀ args w, (callFunc 50 args).run Try.prog w = .ok (.enter 50 args) w := enters_of Try.func50 (by kernel_rfl) rfl
theorem eg_51 : ∀ args w, (callFunc 51 args).run Try.prog w = .ok (.enter 51 args) w := enters_of Try.func51 (by kernel_rfl) rfl
theorem eg_52 : ∀ args w, (callFunc 52 args).run Try.prog w = .ok (.enter 52 args) w := enters_of Try.func52 (by kernel_rfl) rfl
theorem eg_53 : ∀ args w, (callFunc 53 args).run Try.prog w = .ok (.enter 53 args) w := enters_of Try.func53 (by kernel_rfl) rfl
theorem eg_54 : ∀ args w, (callFunc 54 args).run Try.prog w = .ok (.enter 54 args) w := enters_of Try.func54 (by kernel_rfl) rfl
theorem eg_55 : ∀ args w, (callFunc 55 args).run Try.prog w = .ok (.enter 55 args) w := enters_of Try.func55 (by kernel_rfl) rfl
theorem eg_56 : ∀ args w, (callFunc 56 args).run Try.prog w = .ok (.enter 56 args) w := enters_of Try.func56 (by kernel_rfl) rfl
theorem eg_57 : ∀ args w, (callFunc 57 args).run Try.prog w = .ok (.enter 57 args) w := enters_of Try.func57 (by kernel_rfl) rfl
theorem eg_58 : ∀ args w, (callFunc 58 args).run Try.prog w = .ok (.enter 58 args) w := enters_of Try.func58 (by kernel_rfl) rfl
theorem eg_59 : ∀ args w, (callFunc 59 args).run Try.prog w = .ok (.enter 59 args) w := enters_of Try.func59 (by kernel_rfl) rfl
theorem eg_60 : ∀ args w, (callFunc 60 args).run Try.prog w = .ok (.enter 60 args) w := enters_of Try.func60 (by kernel_rfl) rfl
theorem eg_61 : ∀ args w, (callFunc 61 args).run Try.prog w = .ok (.enter 61 args) w := enters_of Try.func61 (by kernel_rfl) rfl
theorem eg_62 : ∀ args w, (callFunc 62 args).run Try.prog w = .ok (.enter 62 args) w := enters_of Try.func62 (by kernel_rfl) rfl
theorem eg_63 : ∀ args w, (callFunc 63 args).run Try.prog w = .ok (.enter 63 args) w := enters_of Try.func63 (by kernel_rfl) rfl
theorem eg_64 : ∀ args w, (callFunc 64 args).run Try.prog w = .ok (.enter 64 args) w := enters_of Try.func64 (by kernel_rfl) rfl
theorem eg_65 : ∀ args w, (callFunc 65 args).run Try.prog w = .ok (.enter 65 args) w := enters_of Try.func65 (by kernel_rfl) rfl
theorem eg_66 : ∀ args w, (callFunc 66 args).run Try.prog w = .ok (.enter 66 args) w := enters_of Try.func66 (by kernel_rfl) rfl
theorem eg_67 : ∀ args w, (callFunc 67 args).run Try.prog w = .ok (.enter 67 args) w := enters_of Try.func67 (by kernel_rfl) rfl
theorem eg_68 : ∀ args w, (callFunc 68 args).run Try.prog w = .ok (.enter 68 args) w := enters_of Try.func68 (by kernel_rfl) rfl
theorem eg_69 : ∀ args w, (callFunc 69 args).run Try.prog w = .ok (.enter 69 args) w := enters_of Try.func69 (by kernel_rfl) rfl
theorem eg_70 : ∀ args w, (callFunc 70 args).run Try.prog w = .ok (.enter 70 args) w := enters_of Try.func70 (by kernel_rfl) rfl
theorem eg_71 : ∀ args w, (callFunc 71 args).run Try.prog w = .ok (.enter 71 args) w := enters_of Try.func71 (by kernel_rfl) rfl
theorem eg_72 : ∀ args w, (callFunc 72 args).run Try.prog w = .ok (.enter 72 args) w := enters_of Try.func72 (by kernel_rfl) rfl
theorem eg_73 : ∀ args w, (callFunc 73 args).run Try.prog w = .ok (.enter 73 args) w := enters_of Try.func73 (by kernel_rfl) rfl
theorem eg_74 : ∀ args w, (callFunc 74 args).run Try.prog w = .ok (.enter 74 args) w := enters_of Try.func74 (by kernel_rfl) rfl
theorem eg_76 : ∀ args w, (callFunc 76 args).run Try.prog w = .ok (.enter 76 args) w := enters_of Try.func76 (by kernel_rfl) rfl
theorem eg_77 : ∀ args w, (callFunc 77 args).run Try.prog w = .ok (.enter 77 args) w := enters_of Try.func77 (by kernel_rfl) rfl
theorem eg_78 : ∀ args w, (callFunc 78 args).run Try.prog w = .ok (.enter 78 args) w := enters_of Try.func78 (by kernel_rfl) rfl
theorem eg_79 : ∀ args w, (callFunc 79 args).run Try.prog w = .ok (.enter 79 args) w := enters_of Try.func79 (by kernel_rfl) rfl
theorem eg_80 : ∀ args w, (callFunc 80 args).run Try.prog w = .ok (.enter 80 args) w := enters_of Try.func80 (by kernel_rfl) rfl
theorem eg_81 : ∀ args w, (callFunc 81 args).run Try.prog w = .ok (.enter 81 args) w := enters_of Try.func81 (by kernel_rfl) rfl
theorem eg_82 : ∀ args w, (callFunc 82 args).run Try.prog w = .ok (.enter 82 args) w := enters_of Try.func82 (by kernel_rfl) rfl
theorem eg_83 : ∀ args w, (callFunc 83 args).run Try.prog w = .ok (.enter 83 args) w := enters_of Try.func83 (by kernel_rfl) rfl
theorem eg_84 : ∀ args w, (callFunc 84 args).run Try.prog w = .ok (.enter 84 args) w := enters_of Try.func84 (by kernel_rfl) rfl
theorem eg_85 : ∀ args w, (callFunc 85 args).run Try.prog w = .ok (.enter 85 args) w := enters_of Try.func85 (by kernel_rfl) rfl
theorem eg_86 : ∀ args w, (callFunc 86 args).run Try.prog w = .ok (.enter 86 args) w := enters_of Try.func86 (by kernel_rfl) rfl
theorem eg_87 : ∀ args w, (callFunc 87 args).run Try.prog w = .ok (.enter 87 args) w := enters_of Try.func87 (by kernel_rfl) rfl
theorem eg_88 : ∀ args w, (callFunc 88 args).run Try.prog w = .ok (.enter 88 args) w := enters_of Try.func88 (by kernel_rfl) rfl
theorem eg_89 : ∀ args w, (callFunc 89 args).run Try.prog w = .ok (.enter 89 args) w := enters_of Try.func89 (by kernel_rfl) rfl
theorem eg_90 : ∀ args w, (callFunc 90 args).run Try.prog w = .ok (.enter 90 args) w := enters_of Try.func90 (by kernel_rfl) rfl
theorem eg_91 : ∀ args w, (callFunc 91 args).run Try.prog w = .ok (.enter 91 args) w := enters_of Try.func91 (by kernel_rfl) rfl
theorem eg_92 : ∀ args w, (callFunc 92 args).run Try.prog w = .ok (.enter 92 args) w := enters_of Try.func92 (by kernel_rfl) rfl
theorem eg_93 : ∀ args w, (callFunc 93 args).run Try.prog w = .ok (.enter 93 args) w := enters_of Try.func93 (by kernel_rfl) rfl
theorem eg_94 : ∀ args w, (callFunc 94 args).run Try.prog w = .ok (.enter 94 args) w := enters_of Try.func94 (by kernel_rfl) rfl
theorem eg_95 : ∀ args w, (callFunc 95 args).run Try.prog w = .ok (.enter 95 args) w := enters_of Try.func95 (by kernel_rfl) rfl
theorem eg_96 : ∀ args w, (callFunc 96 args).run Try.prog w = .ok (.enter 96 args) w := enters_of Try.func96 (by kernel_rfl) rfl
end Go.Proofs.Ytoaneidhfcljmaa
