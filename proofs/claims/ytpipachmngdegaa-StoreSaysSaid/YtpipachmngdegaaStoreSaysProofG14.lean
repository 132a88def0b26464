import Derived.Test.YtpipachmngdegaaStoreSaysProofG8
import Derived.Test.YtpipachmngdegaaProg
import Derived.Shelf.Abstract
section
/-
  Facts on the types and the functions of this seat, each a closed computation.
-/
namespace Go.Proofs.Ytpipachmngdegaa
open Go Go.RowKit
set_option linter.unusedVariables false
set_option maxRecDepth 100000
theorem mixed : Try.prog.follows .mixedOrders = true := by kernel_rfl
theorem tOne_1 : tOne Try.prog 1 = true := by kernel_rfl
theorem tZero_1 : tZero Try.prog 1 = some (.nilFunc) := by kernel_rfl
theorem tOne_2 : tOne Try.prog 2 = true := by kernel_rfl
theorem tZero_2 : tZero Try.prog 2 = some (.int .i64 0) := by kernel_rfl
theorem con_2 : Try.prog.concrete 2 = true := by kernel_rfl
theorem tOne_3 : tOne Try.prog 3 = true := by kernel_rfl
theorem tZero_3 : tZero Try.prog 3 = some (.int .i64 0) := by kernel_rfl
theorem con_3 : Try.prog.concrete 3 = true := by kernel_rfl
theorem tOne_4 : tOne Try.prog 4 = true := by kernel_rfl
theorem tZero_4 : tZero Try.prog 4 = some (.bool false) := by kernel_rfl
theorem tOne_5 : tOne Try.prog 5 = true := by kernel_rfl
theorem tZero_5 : tZero Try.prog 5 = some (.int .u8 0) := by kernel_rfl
theorem con_5 : Try.prog.concrete 5 = true := by kernel_rfl
theorem tOne_6 : tOne Try.prog 6 = true := by kernel_rfl
theorem tZero_6 : tZero Try.prog 6 = some (.int .u8 0) := by kernel_rfl
theorem con_6 : Try.prog.concrete 6 = true := by kernel_rfl
theorem tAgg_7 : tAgg Try.prog 7 = some 4 := by kernel_rfl
theorem tB_7 : tB Try.prog 7 = some ([(0, 1), (1, 1), (2, 1), (3, 1)], [.int .i64 0, .int .i64 0, .bool false, .int .u8 0]) := by kernel_rfl
theorem tFe_7_0 : tFe Try.prog 7 0 = some (0, none) := by kernel_rfl
theorem tFld_7_0 : tFld Try.prog 7 0 = some 0 := by kernel_rfl
theorem tFe_7_1 : tFe Try.prog 7 1 = some (1, none) := by kernel_rfl
theorem tFld_7_1 : tFld Try.prog 7 1 = some 1 := by kernel_rfl
theorem tFe_7_2 : tFe Try.prog 7 2 = some (2, none) := by kernel_rfl
theorem tFld_7_2 : tFld Try.prog 7 2 = some 2 := by kernel_rfl
theorem tFe_7_3 : tFe Try.prog 7 3 = some (3, none) := by kernel_rfl
theorem tFld_7_3 : tFld Try.prog 7 3 = some 3 := by kernel_rfl
theorem tZero_7 : tZero Try.prog 7 = some (.agg #[.int .i64 0, .int .i64 0, .bool false, .int .u8 0]) := by kernel_rfl
theorem tAgg_8 : tAgg Try.prog 8 = some 4 := by kernel_rfl
theorem tB_8 : tB Try.prog 8 = some ([(0, 1), (1, 1), (2, 1), (3, 1)], [.int .i64 0, .int .i64 0, .bool false, .int .u8 0]) := by kernel_rfl
theorem tFe_8_0 : tFe Try.prog 8 0 = some (0, none) := by kernel_rfl
theorem tFld_8_0 : tFld Try.prog 8 0 = some 0 := by kernel_rfl
theorem tFe_8_1 : tFe Try.prog 8 1 = some (1, none) := by kernel_rfl
theorem tFld_8_1 : tFld Try.prog 8 1 = some 1 := by kernel_rfl
theorem tFe_8_2 : tFe Try.prog 8 2 = some (2, none) := by kernel_rfl
theorem tFld_8_2 : tFld Try.prog 8 2 = some 2 := by kernel_rfl
theorem tFe_8_3 : tFe Try.prog 8 3 = some (3, none) := by kernel_rfl
theorem tFld_8_3 : tFld Try.prog 8 3 = some 3 := by kernel_rfl
theorem tZero_8 : tZero Try.prog 8 = some (.agg #[.int .i64 0, .int .i64 0, .bool false, .int .u8 0]) := by kernel_rfl
theorem tOne_9 : tOne Try.prog 9 = true := by kernel_rfl
theorem tZero_9 : tZero Try.prog 9 = some (.string ⟨#[]⟩) := by kernel_rfl
theorem tOne_10 : tOne Try.prog 10 = true := by kernel_rfl
theorem tZero_10 : tZero Try.prog 10 = some (.string ⟨#[]⟩) := by kernel_rfl
theorem tOne_11 : tOne Try.prog 11 = true := by kernel_rfl
theorem tZero_11 : tZero Try.prog 11 = some (.string ⟨#[]⟩) := by kernel_rfl
theorem tOne_12 : tOne Try.prog 12 = true := by kernel_rfl
theorem tZero_12 : tZero Try.prog 12 = some (.int .u64 0) := by kernel_rfl
theorem con_12 : Try.prog.concrete 12 = true := by kernel_rfl
theorem tAgg_13 : tAgg Try.prog 13 = some 2 := by kernel_rfl
theorem tB_13 : tB Try.prog 13 = some ([(0, 1), (1, 1)], [.string ⟨#[]⟩, .int .u64 0]) := by kernel_rfl
theorem tFe_13_0 : tFe Try.prog 13 0 = some (0, none) := by kernel_rfl
theorem tFld_13_0 : tFld Try.prog 13 0 = some 0 := by kernel_rfl
theorem tFe_13_1 : tFe Try.prog 13 1 = some (1, none) := by kernel_rfl
theorem tFld_13_1 : tFld Try.prog 13 1 = some 1 := by kernel_rfl
theorem tZero_13 : tZero Try.prog 13 = some (.agg #[.string ⟨#[]⟩, .int .u64 0]) := by kernel_rfl
theorem tAgg_14 : tAgg Try.prog 14 = some 2 := by kernel_rfl
theorem tB_14 : tB Try.prog 14 = some ([(0, 1), (1, 1)], [.string ⟨#[]⟩, .int .u64 0]) := by kernel_rfl
theorem tFe_14_0 : tFe Try.prog 14 0 = some (0, none) := by kernel_rfl
theorem tFld_14_0 : tFld Try.prog 14 0 = some 0 := by kernel_rfl
theorem tFe_14_1 : tFe Try.prog 14 1 = some (1, none) := by kernel_rfl
theorem tFld_14_1 : tFld Try.prog 14 1 = some 1 := by kernel_rfl
theorem tZero_14 : tZero Try.prog 14 = some (.agg #[.string ⟨#[]⟩, .int .u64 0]) := by kernel_rfl
theorem tOne_15 : tOne Try.prog 15 = true := by kernel_rfl
theorem tZero_15 : tZero Try.prog 15 = some (.pointer none) := by kernel_rfl
theorem tOne_16 : tOne Try.prog 16 = true := by kernel_rfl
theorem tZero_16 : tZero Try.prog 16 = some (.pointer none) := by kernel_rfl
theorem tOne_17 : tOne Try.prog 17 = true := by kernel_rfl
theorem tZero_17 : tZero Try.prog 17 = some (.pointer none) := by kernel_rfl
theorem tAgg_18 : tAgg Try.prog 18 = some 1 := by kernel_rfl
theorem tB_18 : tB Try.prog 18 = some ([(0, 1)], [.pointer none]) := by kernel_rfl
theorem tFe_18_0 : tFe Try.prog 18 0 = some (0, none) := by kernel_rfl
theorem tFld_18_0 : tFld Try.prog 18 0 = some 0 := by kernel_rfl
theorem tZero_18 : tZero Try.prog 18 = some (.agg #[.pointer none]) := by kernel_rfl
theorem tAgg_19 : tAgg Try.prog 19 = some 1 := by kernel_rfl
theorem tB_19 : tB Try.prog 19 = some ([(0, 1)], [.pointer none]) := by kernel_rfl
theorem tFe_19_0 : tFe Try.prog 19 0 = some (0, none) := by kernel_rfl
theorem tFld_19_0 : tFld Try.prog 19 0 = some 0 := by kernel_rfl
theorem tZero_19 : tZero Try.prog 19 = some (.agg #[.pointer none]) := by kernel_rfl
theorem tOne_20 : tOne Try.prog 20 = true := by kernel_rfl
theorem tZero_20 : tZero Try.prog 20 = some (.nilIface) := by kernel_rfl
theorem tOne_21 : tOne Try.prog 21 = true := by kernel_rfl
theorem tZero_21 : tZero Try.prog 21 = some (.int .i32 0) := by kernel_rfl
theorem con_21 : Try.prog.concrete 21 = true := by kernel_rfl
theorem tSl_22 : tSl Try.prog 22 = some (9, 1) := by kernel_rfl
theorem tOne_22 : tOne Try.prog 22 = true := by kernel_rfl
theorem tZero_22 : tZero Try.prog 22 = some (.slice none 0 0) := by kernel_rfl
theorem tSl_23 : tSl Try.prog 23 = some (48, 11) := by kernel_rfl
theorem tOne_23 : tOne Try.prog 23 = true := by kernel_rfl
theorem tZero_23 : tZero Try.prog 23 = some (.slice none 0 0) := by kernel_rfl
theorem tOne_24 : tOne Try.prog 24 = true := by kernel_rfl
theorem tZero_24 : tZero Try.prog 24 = some (.nilFunc) := by kernel_rfl
theorem tOne_25 : tOne Try.prog 25 = true := by kernel_rfl
theorem tZero_25 : tZero Try.prog 25 = some (.nilFunc) := by kernel_rfl
theorem tOne_26 : tOne Try.prog 26 = true := by kernel_rfl
theorem tZero_26 : tZero Try.prog 26 = some (.pointer none) := by kernel_rfl
theorem tOne_27 : tOne Try.prog 27 = true := by kernel_rfl
theorem tZero_27 : tZero Try.prog 27 = some (.nilIface) := by kernel_rfl
theorem tOne_28 : tOne Try.prog 28 = true := by kernel_rfl
theorem tZero_28 : tZero Try.prog 28 = some (.nilIface) := by kernel_rfl
theorem tOne_30 : tOne Try.prog 30 = true := by kernel_rfl
theorem tZero_30 : tZero Try.prog 30 = some (.nilFunc) := by kernel_rfl
theorem tOne_31 : tOne Try.prog 31 = true := by kernel_rfl
theorem tZero_31 : tZero Try.prog 31 = some (.nilFunc) := by kernel_rfl
theorem tOne_32 : tOne Try.prog 32 = true := by kernel_rfl
theorem tZero_32 : tZero Try.prog 32 = some (.pointer none) := by kernel_rfl
theorem tSl_33 : tSl Try.prog 33 = some (46, 1) := by kernel_rfl
theorem tOne_33 : tOne Try.prog 33 = true := by kernel_rfl
theorem tZero_33 : tZero Try.prog 33 = some (.slice none 0 0) := by kernel_rfl
theorem tOne_35 : tOne Try.prog 35 = true := by kernel_rfl
theorem tZero_35 : tZero Try.prog 35 = some (.nilFunc) := by kernel_rfl
theorem tOne_36 : tOne Try.prog 36 = true := by kernel_rfl
theorem tZero_36 : tZero Try.prog 36 = some (.nilFunc) := by kernel_rfl
theorem tOne_37 : tOne Try.prog 37 = true := by kernel_rfl
theorem tZero_37 : tZero Try.prog 37 = some (.nilFunc) := by kernel_rfl
theorem tOne_39 : tOne Try.prog 39 = true := by kernel_rfl
theorem tZero_39 : tZero Try.prog 39 = some (.nilFunc) := by kernel_rfl
theorem tOne_41 : tOne Try.prog 41 = true := by kernel_rfl
theorem tZero_41 : tZero Try.prog 41 = some (.nilFunc) := by kernel_rfl
theorem tOne_42 : tOne Try.prog 42 = true := by kernel_rfl
theorem tZero_42 : tZero Try.prog 42 = some (.nilFunc) := by kernel_rfl
theorem tAgg_43 : tAgg Try.prog 43 = some 2 := by kernel_rfl
theorem tB_43 : tB Try.prog 43 = some ([(0, 1), (1, 1)], [.int .i64 0, .int .i64 0]) := by kernel_rfl
theorem tFe_43_0 : tFe Try.prog 43 0 = some (0, none) := by kernel_rfl
theorem tFld_43_0 : tFld Try.prog 43 0 = some 0 := by kernel_rfl
theorem tFe_43_1 : tFe Try.prog 43 1 = some (1, none) := by kernel_rfl
theorem tFld_43_1 : tFld Try.prog 43 1 = some 1 := by kernel_rfl
theorem tZero_43 : tZero Try.prog 43 = some (.agg #[.int .i64 0, .int .i64 0]) := by kernel_rfl
theorem tAgg_44 : tAgg Try.prog 44 = some 2 := by kernel_rfl
theorem tB_44 : tB Try.prog 44 = some ([(0, 1), (1, 1)], [.int .i64 0, .int .i64 0]) := by kernel_rfl
theorem tFe_44_0 : tFe Try.prog 44 0 = some (0, none) := by kernel_rfl
theorem tFld_44_0 : tFld Try.prog 44 0 = some 0 := by kernel_rfl
theorem tFe_44_1 : tFe Try.prog 44 1 = some (1, none) := by kernel_rfl
theorem tFld_44_1 : tFld Try.prog 44 1 = some 1 := by kernel_rfl
theorem tZero_44 : tZero Try.prog 44 = some (.agg #[.int .i64 0, .int .i64 0]) := by kernel_rfl
theorem tOne_45 : tOne Try.prog 45 = true := by kernel_rfl
theorem tZero_45 : tZero Try.prog 45 = some (.int .u64 0) := by kernel_rfl
theorem con_45 : Try.prog.concrete 45 = true := by kernel_rfl
theorem tSl_46 : tSl Try.prog 46 = some (51, 3) := by kernel_rfl
theorem tOne_46 : tOne Try.prog 46 = true := by kernel_rfl
theorem tZero_46 : tZero Try.prog 46 = some (.slice none 0 0) := by kernel_rfl
theorem tAgg_47 : tAgg Try.prog 47 = some 11 := by kernel_rfl
theorem tB_47 : tB Try.prog 47 = some ([(0, 1), (1, 1), (2, 2), (4, 2), (6, 1), (7, 1), (8, 1), (9, 1), (10, 1)], [.string ⟨#[]⟩, .string ⟨#[]⟩, .int .i64 0, .int .i64 0, .int .i64 0, .int .i64 0, .int .i64 0, .int .i64 0, .int .i64 0, .int .u64 0, .slice none 0 0]) := by kernel_rfl
theorem tFe_47_0 : tFe Try.prog 47 0 = some (0, none) := by kernel_rfl
theorem tFld_47_0 : tFld Try.prog 47 0 = some 0 := by kernel_rfl
theorem tFe_47_1 : tFe Try.prog 47 1 = some (1, none) := by kernel_rfl
theorem tFld_47_1 : tFld Try.prog 47 1 = some 1 := by kernel_rfl
theorem tFe_47_2 : tFe Try.prog 47 2 = some (2, some 2) := by kernel_rfl
theorem tFld_47_2 : tFld Try.prog 47 2 = some 2 := by kernel_rfl
theorem tFe_47_3 : tFe Try.prog 47 3 = some (4, some 2) := by kernel_rfl
theorem tFld_47_3 : tFld Try.prog 47 3 = some 4 := by kernel_rfl
theorem tFe_47_4 : tFe Try.prog 47 4 = some (6, none) := by kernel_rfl
theorem tFld_47_4 : tFld Try.prog 47 4 = some 6 := by kernel_rfl
theorem tFe_47_5 : tFe Try.prog 47 5 = some (7, none) := by kernel_rfl
theorem tFld_47_5 : tFld Try.prog 47 5 = some 7 := by kernel_rfl
theorem tFe_47_6 : tFe Try.prog 47 6 = some (8, none) := by kernel_rfl
theorem tFld_47_6 : tFld Try.prog 47 6 = some 8 := by kernel_rfl
theorem tFe_47_7 : tFe Try.prog 47 7 = some (9, none) := by kernel_rfl
theorem tFld_47_7 : tFld Try.prog 47 7 = some 9 := by kernel_rfl
theorem tFe_47_8 : tFe Try.prog 47 8 = some (10, none) := by kernel_rfl
theorem tFld_47_8 : tFld Try.prog 47 8 = some 10 := by kernel_rfl
theorem tZero_47 : tZero Try.prog 47 = some (.agg #[.string ⟨#[]⟩, .string ⟨#[]⟩, .int .i64 0, .int .i64 0, .int .i64 0, .int .i64 0, .int .i64 0, .int .i64 0, .int .i64 0, .int .u64 0, .slice none 0 0]) := by kernel_rfl
theorem tAgg_48 : tAgg Try.prog 48 = some 11 := by kernel_rfl
theorem tB_48 : tB Try.prog 48 = some ([(0, 1), (1, 1), (2, 2), (4, 2), (6, 1), (7, 1), (8, 1), (9, 1), (10, 1)], [.string ⟨#[]⟩, .string ⟨#[]⟩, .int .i64 0, .int .i64 0, .int .i64 0, .int .i64 0, .int .i64 0, .int .i64 0, .int .i64 0, .int .u64 0, .slice none 0 0]) := by kernel_rfl
theorem tFe_48_0 : tFe Try.prog 48 0 = some (0, none) := by kernel_rfl
theorem tFld_48_0 : tFld Try.prog 48 0 = some 0 := by kernel_rfl
theorem tFe_48_1 : tFe Try.prog 48 1 = some (1, none) := by kernel_rfl
theorem tFld_48_1 : tFld Try.prog 48 1 = some 1 := by kernel_rfl
theorem tFe_48_2 : tFe Try.prog 48 2 = some (2, some 2) := by kernel_rfl
theorem tFld_48_2 : tFld Try.prog 48 2 = some 2 := by kernel_rfl
theorem tFe_48_3 : tFe Try.prog 48 3 = some (4, some 2) := by kernel_rfl
theorem tFld_48_3 : tFld Try.prog 48 3 = some 4 := by kernel_rfl
theorem tFe_48_4 : tFe Try.prog 48 4 = some (6, none) := by kernel_rfl
theorem tFld_48_4 : tFld Try.prog 48 4 = some 6 := by kernel_rfl
theorem tFe_48_5 : tFe Try.prog 48 5 = some (7, none) := by kernel_rfl
theorem tFld_48_5 : tFld Try.prog 48 5 = some 7 := by kernel_rfl
theorem tFe_48_6 : tFe Try.prog 48 6 = some (8, none) := by kernel_rfl
theorem tFld_48_6 : tFld Try.prog 48 6 = some 8 := by kernel_rfl
theorem tFe_48_7 : tFe Try.prog 48 7 = some (9, none) := by kernel_rfl
theorem tFld_48_7 : tFld Try.prog 48 7 = some 9 := by kernel_rfl
theorem tFe_48_8 : tFe Try.prog 48 8 = some (10, none) := by kernel_rfl
theorem tFld_48_8 : tFld Try.prog 48 8 = some 10 := by kernel_rfl
theorem tZero_48 : tZero Try.prog 48 = some (.agg #[.string ⟨#[]⟩, .string ⟨#[]⟩, .int .i64 0, .int .i64 0, .int .i64 0, .int .i64 0, .int .i64 0, .int .i64 0, .int .i64 0, .int .u64 0, .slice none 0 0]) := by kernel_rfl
theorem tOne_49 : tOne Try.prog 49 = true := by kernel_rfl
theorem tZero_49 : tZero Try.prog 49 = some (.nilFunc) := by kernel_rfl
theorem tAgg_50 : tAgg Try.prog 50 = some 3 := by kernel_rfl
theorem tB_50 : tB Try.prog 50 = some ([(0, 1), (1, 1), (2, 1)], [.string ⟨#[]⟩, .string ⟨#[]⟩, .bool false]) := by kernel_rfl
theorem tFe_50_0 : tFe Try.prog 50 0 = some (0, none) := by kernel_rfl
theorem tFld_50_0 : tFld Try.prog 50 0 = some 0 := by kernel_rfl
theorem tFe_50_1 : tFe Try.prog 50 1 = some (1, none) := by kernel_rfl
theorem tFld_50_1 : tFld Try.prog 50 1 = some 1 := by kernel_rfl
theorem tFe_50_2 : tFe Try.prog 50 2 = some (2, none) := by kernel_rfl
theorem tFld_50_2 : tFld Try.prog 50 2 = some 2 := by kernel_rfl
theorem tZero_50 : tZero Try.prog 50 = some (.agg #[.string ⟨#[]⟩, .string ⟨#[]⟩, .bool false]) := by kernel_rfl
theorem tAgg_51 : tAgg Try.prog 51 = some 3 := by kernel_rfl
theorem tB_51 : tB Try.prog 51 = some ([(0, 1), (1, 1), (2, 1)], [.string ⟨#[]⟩, .string ⟨#[]⟩, .bool false]) := by kernel_rfl
theorem tFe_51_0 : tFe Try.prog 51 0 = some (0, none) := by kernel_rfl
theorem tFld_51_0 : tFld Try.prog 51 0 = some 0 := by kernel_rfl
theorem tFe_51_1 : tFe Try.prog 51 1 = some (1, none) := by kernel_rfl
theorem tFld_51_1 : tFld Try.prog 51 1 = some 1 := by kernel_rfl
theorem tFe_51_2 : tFe Try.prog 51 2 = some (2, none) := by kernel_rfl
theorem tFld_51_2 : tFld Try.prog 51 2 = some 2 := by kernel_rfl
theorem tZero_51 : tZero Try.prog 51 = some (.agg #[.string ⟨#[]⟩, .string ⟨#[]⟩, .bool false]) := by kernel_rfl
theorem tOne_52 : tOne Try.prog 52 = true := by kernel_rfl
theorem tZero_52 : tZero Try.prog 52 = some (.nilFunc) := by kernel_rfl
theorem tOne_53 : tOne Try.prog 53 = true := by kernel_rfl
theorem tZero_53 : tZero Try.prog 53 = some (.nilFunc) := by kernel_rfl
theorem tOne_54 : tOne Try.prog 54 = true := by kernel_rfl
theorem tZero_54 : tZero Try.prog 54 = some (.pointer none) := by kernel_rfl
theorem tOne_56 : tOne Try.prog 56 = true := by kernel_rfl
theorem tZero_56 : tZero Try.prog 56 = some (.nilFunc) := by kernel_rfl
theorem tOne_57 : tOne Try.prog 57 = true := by kernel_rfl
theorem tZero_57 : tZero Try.prog 57 = some (.nilFunc) := by kernel_rfl
theorem tOne_58 : tOne Try.prog 58 = true := by kernel_rfl
theorem tZero_58 : tZero Try.prog 58 = some (.pointer none) := by kernel_rfl
theorem tAgg_59 : tAgg Try.prog 59 = some 3 := by kernel_rfl
theorem tB_59 : tB Try.prog 59 = some ([(0, 1), (1, 1), (2, 1)], [.slice none 0 0, .int .i64 0, .int .i64 0]) := by kernel_rfl
theorem tFe_59_0 : tFe Try.prog 59 0 = some (0, none) := by kernel_rfl
theorem tFld_59_0 : tFld Try.prog 59 0 = some 0 := by kernel_rfl
theorem tFe_59_1 : tFe Try.prog 59 1 = some (1, none) := by kernel_rfl
theorem tFld_59_1 : tFld Try.prog 59 1 = some 1 := by kernel_rfl
theorem tFe_59_2 : tFe Try.prog 59 2 = some (2, none) := by kernel_rfl
theorem tFld_59_2 : tFld Try.prog 59 2 = some 2 := by kernel_rfl
theorem tZero_59 : tZero Try.prog 59 = some (.agg #[.slice none 0 0, .int .i64 0, .int .i64 0]) := by kernel_rfl
theorem tAgg_60 : tAgg Try.prog 60 = some 3 := by kernel_rfl
theorem tB_60 : tB Try.prog 60 = some ([(0, 1), (1, 1), (2, 1)], [.slice none 0 0, .int .i64 0, .int .i64 0]) := by kernel_rfl
theorem tFe_60_0 : tFe Try.prog 60 0 = some (0, none) := by kernel_rfl
theorem tFld_60_0 : tFld Try.prog 60 0 = some 0 := by kernel_rfl
theorem tFe_60_1 : tFe Try.prog 60 1 = some (1, none) := by kernel_rfl
theorem tFld_60_1 : tFld Try.prog 60 1 = some 1 := by kernel_rfl
theorem tFe_60_2 : tFe Try.prog 60 2 = some (2, none) := by kernel_rfl
theorem tFld_60_2 : tFld Try.prog 60 2 = some 2 := by kernel_rfl
theorem tZero_60 : tZero Try.prog 60 = some (.agg #[.slice none 0 0, .int .i64 0, .int .i64 0]) := by kernel_rfl
theorem tOne_61 : tOne Try.prog 61 = true := by kernel_rfl
theorem tZero_61 : tZero Try.prog 61 = some (.nilFunc) := by kernel_rfl
theorem tOne_62 : tOne Try.prog 62 = true := by kernel_rfl
theorem tZero_62 : tZero Try.prog 62 = some (.nilFunc) := by kernel_rfl
theorem tOne_63 : tOne Try.prog 63 = true := by kernel_rfl
theorem tZero_63 : tZero Try.prog 63 = some (.nilFunc) := by kernel_rfl
theorem tOne_64 : tOne Try.prog 64 = true := by kernel_rfl
theorem tZero_64 : tZero Try.prog 64 = some (.nilFunc) := by kernel_rfl
theorem tOne_65 : tOne Try.prog 65 = true := by kernel_rfl
theorem tZero_65 : tZero Try.prog 65 = some (.nilFunc) := by kernel_rfl
theorem tOne_66 : tOne Try.prog 66 = true := by kernel_rfl
theorem tZero_66 : tZero Try.prog 66 = some (.nilFunc) := by kernel_rfl
theorem tOne_67 : tOne Try.prog 67 = true := by kernel_rfl
theorem tZero_67 : tZero Try.prog 67 = some (.nilFunc) := by kernel_rfl
theorem tOne_68 : tOne Try.prog 68 = true := by kernel_rfl
theorem tZero_68 : tZero Try.prog 68 = some (.nilFunc) := by kernel_rfl
theorem tOne_69 : tOne Try.prog 69 = true := by kernel_rfl
theorem tZero_69 : tZero Try.prog 69 = some (.nilFunc) := by kernel_rfl
theorem tOne_70 : tOne Try.prog 70 = true := by kernel_rfl
theorem tZero_70 : tZero Try.prog 70 = some (.nilFunc) := by kernel_rfl
theorem tOne_72 : tOne Try.prog 72 = true := by kernel_rfl
theorem tZero_72 : tZero Try.prog 72 = some (.nilFunc) := by kernel_rfl
theorem tOne_73 : tOne Try.prog 73 = true := by kernel_rfl
theorem tZero_73 : tZero Try.prog 73 = some (.nilFunc) := by kernel_rfl
theorem tOne_74 : tOne Try.prog 74 = true := by kernel_rfl
theorem tZero_74 : tZero Try.prog 74 = some (.nilFunc) := by kernel_rfl
theorem tOne_75 : tOne Try.prog 75 = true := by kernel_rfl
theorem tZero_75 : tZero Try.prog 75 = some (.int .i64 0) := by kernel_rfl
theorem con_75 : Try.prog.concrete 75 = true := by kernel_rfl
theorem tOne_76 : tOne Try.prog 76 = true := by kernel_rfl
theorem tZero_76 : tZero Try.prog 76 = some (.nilFunc) := by kernel_rfl
theorem tOne_77 : tOne Try.prog 77 = true := by kernel_rfl
theorem tZero_77 : tZero Try.prog 77 = some (.nilFunc) := by kernel_rfl
theorem tOne_78 : tOne Try.prog 78 = true := by kernel_rfl
theorem tZero_78 : tZero Try.prog 78 = some (.nilFunc) := by kernel_rfl
theorem tSl_79 : tSl Try.prog 79 = some (83, 2) := by kernel_rfl
theorem tOne_79 : tOne Try.prog 79 = true := by kernel_rfl
theorem tZero_79 : tZero Try.prog 79 = some (.slice none 0 0) := by kernel_rfl
theorem tAgg_80 : tAgg Try.prog 80 = some 5 := by kernel_rfl
theorem tB_80 : tB Try.prog 80 = some ([(0, 1), (1, 1), (2, 1), (3, 1), (4, 1)], [.slice none 0 0, .slice none 0 0, .slice none 0 0, .int .i64 0, .bool false]) := by kernel_rfl
theorem tFe_80_0 : tFe Try.prog 80 0 = some (0, none) := by kernel_rfl
theorem tFld_80_0 : tFld Try.prog 80 0 = some 0 := by kernel_rfl
theorem tFe_80_1 : tFe Try.prog 80 1 = some (1, none) := by kernel_rfl
theorem tFld_80_1 : tFld Try.prog 80 1 = some 1 := by kernel_rfl
theorem tFe_80_2 : tFe Try.prog 80 2 = some (2, none) := by kernel_rfl
theorem tFld_80_2 : tFld Try.prog 80 2 = some 2 := by kernel_rfl
theorem tFe_80_3 : tFe Try.prog 80 3 = some (3, none) := by kernel_rfl
theorem tFld_80_3 : tFld Try.prog 80 3 = some 3 := by kernel_rfl
theorem tFe_80_4 : tFe Try.prog 80 4 = some (4, none) := by kernel_rfl
theorem tFld_80_4 : tFld Try.prog 80 4 = some 4 := by kernel_rfl
theorem tZero_80 : tZero Try.prog 80 = some (.agg #[.slice none 0 0, .slice none 0 0, .slice none 0 0, .int .i64 0, .bool false]) := by kernel_rfl
theorem tAgg_81 : tAgg Try.prog 81 = some 5 := by kernel_rfl
theorem tB_81 : tB Try.prog 81 = some ([(0, 1), (1, 1), (2, 1), (3, 1), (4, 1)], [.slice none 0 0, .slice none 0 0, .slice none 0 0, .int .i64 0, .bool false]) := by kernel_rfl
theorem tFe_81_0 : tFe Try.prog 81 0 = some (0, none) := by kernel_rfl
theorem tFld_81_0 : tFld Try.prog 81 0 = some 0 := by kernel_rfl
theorem tFe_81_1 : tFe Try.prog 81 1 = some (1, none) := by kernel_rfl
theorem tFld_81_1 : tFld Try.prog 81 1 = some 1 := by kernel_rfl
theorem tFe_81_2 : tFe Try.prog 81 2 = some (2, none) := by kernel_rfl
theorem tFld_81_2 : tFld Try.prog 81 2 = some 2 := by kernel_rfl
theorem tFe_81_3 : tFe Try.prog 81 3 = some (3, none) := by kernel_rfl
theorem tFld_81_3 : tFld Try.prog 81 3 = some 3 := by kernel_rfl
theorem tFe_81_4 : tFe Try.prog 81 4 = some (4, none) := by kernel_rfl
theorem tFld_81_4 : tFld Try.prog 81 4 = some 4 := by kernel_rfl
theorem tZero_81 : tZero Try.prog 81 = some (.agg #[.slice none 0 0, .slice none 0 0, .slice none 0 0, .int .i64 0, .bool false]) := by kernel_rfl
theorem tAgg_82 : tAgg Try.prog 82 = some 2 := by kernel_rfl
theorem tB_82 : tB Try.prog 82 = some ([(0, 1), (1, 1)], [.int .i64 0, .string ⟨#[]⟩]) := by kernel_rfl
theorem tFe_82_0 : tFe Try.prog 82 0 = some (0, none) := by kernel_rfl
theorem tFld_82_0 : tFld Try.prog 82 0 = some 0 := by kernel_rfl
theorem tFe_82_1 : tFe Try.prog 82 1 = some (1, none) := by kernel_rfl
theorem tFld_82_1 : tFld Try.prog 82 1 = some 1 := by kernel_rfl
theorem tZero_82 : tZero Try.prog 82 = some (.agg #[.int .i64 0, .string ⟨#[]⟩]) := by kernel_rfl
theorem tAgg_83 : tAgg Try.prog 83 = some 2 := by kernel_rfl
theorem tB_83 : tB Try.prog 83 = some ([(0, 1), (1, 1)], [.int .i64 0, .string ⟨#[]⟩]) := by kernel_rfl
theorem tFe_83_0 : tFe Try.prog 83 0 = some (0, none) := by kernel_rfl
theorem tFld_83_0 : tFld Try.prog 83 0 = some 0 := by kernel_rfl
theorem tFe_83_1 : tFe Try.prog 83 1 = some (1, none) := by kernel_rfl
theorem tFld_83_1 : tFld Try.prog 83 1 = some 1 := by kernel_rfl
theorem tZero_83 : tZero Try.prog 83 = some (.agg #[.int .i64 0, .string ⟨#[]⟩]) := by kernel_rfl
theorem tAgg_84 : tAgg Try.prog 84 = some 5 := by kernel_rfl
theorem tB_84 : tB Try.prog 84 = some ([(0, 1), (1, 1), (2, 1), (3, 1), (4, 1)], [.pointer none, .int .i64 0, .int .i64 0, .int .i64 0, .int .i64 0]) := by kernel_rfl
theorem tFe_84_0 : tFe Try.prog 84 0 = some (0, none) := by kernel_rfl
theorem tFld_84_0 : tFld Try.prog 84 0 = some 0 := by kernel_rfl
theorem tFe_84_1 : tFe Try.prog 84 1 = some (1, none) := by kernel_rfl
theorem tFld_84_1 : tFld Try.prog 84 1 = some 1 := by kernel_rfl
theorem tFe_84_2 : tFe Try.prog 84 2 = some (2, none) := by kernel_rfl
theorem tFld_84_2 : tFld Try.prog 84 2 = some 2 := by kernel_rfl
theorem tFe_84_3 : tFe Try.prog 84 3 = some (3, none) := by kernel_rfl
theorem tFld_84_3 : tFld Try.prog 84 3 = some 3 := by kernel_rfl
theorem tFe_84_4 : tFe Try.prog 84 4 = some (4, none) := by kernel_rfl
theorem tFld_84_4 : tFld Try.prog 84 4 = some 4 := by kernel_rfl
theorem tZero_84 : tZero Try.prog 84 = some (.agg #[.pointer none, .int .i64 0, .int .i64 0, .int .i64 0, .int .i64 0]) := by kernel_rfl
theorem tAgg_85 : tAgg Try.prog 85 = some 5 := by kernel_rfl
theorem tB_85 : tB Try.prog 85 = some ([(0, 1), (1, 1), (2, 1), (3, 1), (4, 1)], [.pointer none, .int .i64 0, .int .i64 0, .int .i64 0, .int .i64 0]) := by kernel_rfl
theorem tFe_85_0 : tFe Try.prog 85 0 = some (0, none) := by kernel_rfl
theorem tFld_85_0 : tFld Try.prog 85 0 = some 0 := by kernel_rfl
theorem tFe_85_1 : tFe Try.prog 85 1 = some (1, none) := by kernel_rfl
theorem tFld_85_1 : tFld Try.prog 85 1 = some 1 := by kernel_rfl
theorem tFe_85_2 : tFe Try.prog 85 2 = some (2, none) := by kernel_rfl
theorem tFld_85_2 : tFld Try.prog 85 2 = some 2 := by kernel_rfl
theorem tFe_85_3 : tFe Try.prog 85 3 = some (3, none) := by kernel_rfl
theorem tFld_85_3 : tFld Try.prog 85 3 = some 3 := by kernel_rfl
theorem tFe_85_4 : tFe Try.prog 85 4 = some (4, none) := by kernel_rfl
theorem tFld_85_4 : tFld Try.prog 85 4 = some 4 := by kernel_rfl
theorem tZero_85 : tZero Try.prog 85 = some (.agg #[.pointer none, .int .i64 0, .int .i64 0, .int .i64 0, .int .i64 0]) := by kernel_rfl
theorem tOne_87 : tOne Try.prog 87 = true := by kernel_rfl
theorem tZero_87 : tZero Try.prog 87 = some (.nilFunc) := by kernel_rfl
theorem tOne_88 : tOne Try.prog 88 = true := by kernel_rfl
theorem tZero_88 : tZero Try.prog 88 = some (.nilFunc) := by kernel_rfl
theorem tOne_90 : tOne Try.prog 90 = true := by kernel_rfl
theorem tZero_90 : tZero Try.prog 90 = some (.nilFunc) := by kernel_rfl
theorem tOne_93 : tOne Try.prog 93 = true := by kernel_rfl
theorem tZero_93 : tZero Try.prog 93 = some (.nilFunc) := by kernel_rfl
theorem tOne_94 : tOne Try.prog 94 = true := by kernel_rfl
theorem tZero_94 : tZero Try.prog 94 = some (.nilFunc) := by kernel_rfl
theorem tOne_95 : tOne Try.prog 95 = true := by kernel_rfl
theorem tZero_95 : tZero Try.prog 95 = some (.nilFunc) := by kernel_rfl
theorem tSl_96 : tSl Try.prog 96 = some (62, 1) := by kernel_rfl
theorem tOne_96 : tOne Try.prog 96 = true := by kernel_rfl
theorem tZero_96 : tZero Try.prog 96 = some (.slice none 0 0) := by kernel_rfl
theorem tAgg_97 : tAgg Try.prog 97 = some 4 := by kernel_rfl
theorem tB_97 : tB Try.prog 97 = some ([(0, 1), (1, 1), (2, 1), (3, 1)], [.int .i64 0, .int .i64 0, .int .i64 0, .int .i64 0]) := by kernel_rfl
theorem tFe_97_0 : tFe Try.prog 97 0 = some (0, none) := by kernel_rfl
theorem tFld_97_0 : tFld Try.prog 97 0 = some 0 := by kernel_rfl
theorem tFe_97_1 : tFe Try.prog 97 1 = some (1, none) := by kernel_rfl
theorem tFld_97_1 : tFld Try.prog 97 1 = some 1 := by kernel_rfl
theorem tFe_97_2 : tFe Try.prog 97 2 = some (2, none) := by kernel_rfl
theorem tFld_97_2 : tFld Try.prog 97 2 = some 2 := by kernel_rfl
theorem tFe_97_3 : tFe Try.prog 97 3 = some (3, none) := by kernel_rfl
theorem tFld_97_3 : tFld Try.prog 97 3 = some 3 := by kernel_rfl
theorem tZero_97 : tZero Try.prog 97 = some (.agg #[.int .i64 0, .int .i64 0, .int .i64 0, .int .i64 0]) := by kernel_rfl
theorem tAgg_98 : tAgg Try.prog 98 = some 4 := by kernel_rfl
theorem tB_98 : tB Try.prog 98 = some ([(0, 1), (1, 1), (2, 1), (3, 1)], [.int .i64 0, .int .i64 0, .int .i64 0, .int .i64 0]) := by kernel_rfl
theorem tFe_98_0 : tFe Try.prog 98 0 = some (0, none) := by kernel_rfl
theorem tFld_98_0 : tFld Try.prog 98 0 = some 0 := by kernel_rfl
theorem tFe_98_1 : tFe Try.prog 98 1 = some (1, none) := by kernel_rfl
theorem tFld_98_1 : tFld Try.prog 98 1 = some 1 := by kernel_rfl
theorem tFe_98_2 : tFe Try.prog 98 2 = some (2, none) := by kernel_rfl
theorem tFld_98_2 : tFld Try.prog 98 2 = some 2 := by kernel_rfl
theorem tFe_98_3 : tFe Try.prog 98 3 = some (3, none) := by kernel_rfl
theorem tFld_98_3 : tFld Try.prog 98 3 = some 3 := by kernel_rfl
theorem tZero_98 : tZero Try.prog 98 = some (.agg #[.int .i64 0, .int .i64 0, .int .i64 0, .int .i64 0]) := by kernel_rfl
theorem tAgg_99 : tAgg Try.prog 99 = some 7 := by kernel_rfl
theorem tB_99 : tB Try.prog 99 = some ([(0, 1), (1, 4), (5, 1), (6, 1)], [.pointer none, .int .i64 0, .int .i64 0, .int .i64 0, .int .i64 0, .pointer none, .slice none 0 0]) := by kernel_rfl
theorem tFe_99_0 : tFe Try.prog 99 0 = some (0, none) := by kernel_rfl
theorem tFld_99_0 : tFld Try.prog 99 0 = some 0 := by kernel_rfl
theorem tFe_99_1 : tFe Try.prog 99 1 = some (1, some 4) := by kernel_rfl
theorem tFld_99_1 : tFld Try.prog 99 1 = some 1 := by kernel_rfl
theorem tFe_99_2 : tFe Try.prog 99 2 = some (5, none) := by kernel_rfl
theorem tFld_99_2 : tFld Try.prog 99 2 = some 5 := by kernel_rfl
theorem tFe_99_3 : tFe Try.prog 99 3 = some (6, none) := by kernel_rfl
theorem tFld_99_3 : tFld Try.prog 99 3 = some 6 := by kernel_rfl
theorem tZero_99 : tZero Try.prog 99 = some (.agg #[.pointer none, .int .i64 0, .int .i64 0, .int .i64 0, .int .i64 0, .pointer none, .slice none 0 0]) := by kernel_rfl
theorem tAgg_100 : tAgg Try.prog 100 = some 7 := by kernel_rfl
theorem tB_100 : tB Try.prog 100 = some ([(0, 1), (1, 4), (5, 1), (6, 1)], [.pointer none, .int .i64 0, .int .i64 0, .int .i64 0, .int .i64 0, .pointer none, .slice none 0 0]) := by kernel_rfl
theorem tFe_100_0 : tFe Try.prog 100 0 = some (0, none) := by kernel_rfl
theorem tFld_100_0 : tFld Try.prog 100 0 = some 0 := by kernel_rfl
theorem tFe_100_1 : tFe Try.prog 100 1 = some (1, some 4) := by kernel_rfl
theorem tFld_100_1 : tFld Try.prog 100 1 = some 1 := by kernel_rfl
theorem tFe_100_2 : tFe Try.prog 100 2 = some (5, none) := by kernel_rfl
theorem tFld_100_2 : tFld Try.prog 100 2 = some 5 := by kernel_rfl
theorem tFe_100_3 : tFe Try.prog 100 3 = some (6, none) := by kernel_rfl
theorem tFld_100_3 : tFld Try.prog 100 3 = some 6 := by kernel_rfl
theorem tZero_100 : tZero Try.prog 100 = some (.agg #[.pointer none, .int .i64 0, .int .i64 0, .int .i64 0, .int .i64 0, .pointer none, .slice none 0 0]) := by kernel_rfl
theorem tOne_101 : tOne Try.prog 101 = true := by kernel_rfl
theorem tZero_101 : tZero Try.prog 101 = some (.nilFunc) := by kernel_rfl
theorem tOne_103 : tOne Try.prog 103 = true := by kernel_rfl
theorem tZero_103 : tZero Try.prog 103 = some (.nilFunc) := by kernel_rfl
theorem tOne_104 : tOne Try.prog 104 = true := by kernel_rfl
theorem tZero_104 : tZero Try.prog 104 = some (.nilFunc) := by kernel_rfl
theorem tOne_105 : tOne Try.prog 105 = true := by kernel_rfl
theorem tZero_105 : tZero Try.prog 105 = some (.nilFunc) := by kernel_rfl
theorem tOne_106 : tOne Try.prog 106 = true := by kernel_rfl
theorem tZero_106 : tZero Try.prog 106 = some (.nilFunc) := by kernel_rfl
theorem tOne_107 : tOne Try.prog 107 = true := by kernel_rfl
theorem tZero_107 : tZero Try.prog 107 = some (.nilFunc) := by kernel_rfl
theorem tOne_108 : tOne Try.prog 108 = true := by kernel_rfl
theorem tZero_108 : tZero Try.prog 108 = some (.nilFunc) := by kernel_rfl
theorem tSl_109 : tSl Try.prog 109 = some (5, 1) := by kernel_rfl
theorem tOne_109 : tOne Try.prog 109 = true := by kernel_rfl
theorem tZero_109 : tZero Try.prog 109 = some (.slice none 0 0) := by kernel_rfl
theorem tOne_110 : tOne Try.prog 110 = true := by kernel_rfl
theorem tZero_110 : tZero Try.prog 110 = some (.nilFunc) := by kernel_rfl
theorem tOne_111 : tOne Try.prog 111 = true := by kernel_rfl
theorem tZero_111 : tZero Try.prog 111 = some (.int .u64 0) := by kernel_rfl
theorem con_111 : Try.prog.concrete 111 = true := by kernel_rfl
theorem tOne_113 : tOne Try.prog 113 = true := by kernel_rfl
theorem tZero_113 : tZero Try.prog 113 = some (.nilFunc) := by kernel_rfl
theorem tOne_114 : tOne Try.prog 114 = true := by kernel_rfl
theorem tZero_114 : tZero Try.prog 114 = some (.nilFunc) := by kernel_rfl
theorem tOne_115 : tOne Try.prog 115 = true := by kernel_rfl
theorem tZero_115 : tZero Try.prog 115 = some (.nilFunc) := by kernel_rfl
theorem tOne_117 : tOne Try.prog 117 = true := by kernel_rfl
theorem tZero_117 : tZero Try.prog 117 = some (.nilFunc) := by kernel_rfl
theorem tOne_118 : tOne Try.prog 118 = true := by kernel_rfl
theorem tZero_118 : tZero Try.prog 118 = some (.nilFunc) := by kernel_rfl
theorem tOne_119 : tOne Try.prog 119 = true := by kernel_rfl
theorem tZero_119 : tZero Try.prog 119 = some (.nilFunc) := by kernel_rfl
theorem tOne_120 : tOne Try.prog 120 = true := by kernel_rfl
theorem tZero_120 : tZero Try.prog 120 = some (.nilFunc) := by kernel_rfl
theorem tOne_121 : tOne Try.prog 121 = true := by kernel_rfl
theorem tZero_121 : tZero Try.prog 121 = some (.nilFunc) := by kernel_rfl
theorem tOne_122 : tOne Try.prog 122 = true := by kernel_rfl
theorem tZero_122 : tZero Try.prog 122 = some (.pointer none) := by kernel_rfl
theorem tAgg_123 : tAgg Try.prog 123 = some 2 := by kernel_rfl
theorem tB_123 : tB Try.prog 123 = some ([(0, 1), (1, 1)], [.pointer none, .slice none 0 0]) := by kernel_rfl
theorem tFe_123_0 : tFe Try.prog 123 0 = some (0, none) := by kernel_rfl
theorem tFld_123_0 : tFld Try.prog 123 0 = some 0 := by kernel_rfl
theorem tFe_123_1 : tFe Try.prog 123 1 = some (1, none) := by kernel_rfl
theorem tFld_123_1 : tFld Try.prog 123 1 = some 1 := by kernel_rfl
theorem tZero_123 : tZero Try.prog 123 = some (.agg #[.pointer none, .slice none 0 0]) := by kernel_rfl
theorem tAgg_124 : tAgg Try.prog 124 = some 2 := by kernel_rfl
theorem tB_124 : tB Try.prog 124 = some ([(0, 1), (1, 1)], [.pointer none, .slice none 0 0]) := by kernel_rfl
theorem tFe_124_0 : tFe Try.prog 124 0 = some (0, none) := by kernel_rfl
theorem tFld_124_0 : tFld Try.prog 124 0 = some 0 := by kernel_rfl
theorem tFe_124_1 : tFe Try.prog 124 1 = some (1, none) := by kernel_rfl
theorem tFld_124_1 : tFld Try.prog 124 1 = some 1 := by kernel_rfl
theorem tZero_124 : tZero Try.prog 124 = some (.agg #[.pointer none, .slice none 0 0]) := by kernel_rfl
theorem tOne_126 : tOne Try.prog 126 = true := by kernel_rfl
theorem tZero_126 : tZero Try.prog 126 = some (.nilFunc) := by kernel_rfl
theorem tOne_127 : tOne Try.prog 127 = true := by kernel_rfl
theorem tZero_127 : tZero Try.prog 127 = some (.nilFunc) := by kernel_rfl
theorem tOne_128 : tOne Try.prog 128 = true := by kernel_rfl
theorem tZero_128 : tZero Try.prog 128 = some (.int .u32 0) := by kernel_rfl
theorem con_128 : Try.prog.concrete 128 = true := by kernel_rfl
theorem tOne_130 : tOne Try.prog 130 = true := by kernel_rfl
theorem tZero_130 : tZero Try.prog 130 = some (.nilFunc) := by kernel_rfl
theorem tOne_132 : tOne Try.prog 132 = true := by kernel_rfl
theorem tZero_132 : tZero Try.prog 132 = some (.nilFunc) := by kernel_rfl
theorem tOne_133 : tOne Try.prog 133 = true := by kernel_rfl
theorem tZero_133 : tZero Try.prog 133 = some (.nilFunc) := by kernel_rfl
theorem tOne_134 : tOne Try.prog 134 = true := by kernel_rfl
theorem tZero_134 : tZero Try.prog 134 = some (.pointer none) := by kernel_rfl
theorem tOne_136 : tOne Try.prog 136 = true := by kernel_rfl
theorem tZero_136 : tZero Try.prog 136 = some (.nilFunc) := by kernel_rfl
theorem tOne_137 : tOne Try.prog 137 = true := by kernel_rfl
theorem tZero_137 : tZero Try.prog 137 = some (.nilFunc) := by kernel_rfl
theorem tAgg_138 : tAgg Try.prog 138 = some 4 := by kernel_rfl
theorem tB_138 : tB Try.prog 138 = some ([(0, 1), (1, 1), (2, 1), (3, 1)], [.pointer none, .pointer none, .pointer none, .string ⟨#[]⟩]) := by kernel_rfl
theorem tFe_138_0 : tFe Try.prog 138 0 = some (0, none) := by kernel_rfl
theorem tFld_138_0 : tFld Try.prog 138 0 = some 0 := by kernel_rfl
theorem tFe_138_1 : tFe Try.prog 138 1 = some (1, none) := by kernel_rfl
theorem tFld_138_1 : tFld Try.prog 138 1 = some 1 := by kernel_rfl
theorem tFe_138_2 : tFe Try.prog 138 2 = some (2, none) := by kernel_rfl
theorem tFld_138_2 : tFld Try.prog 138 2 = some 2 := by kernel_rfl
theorem tFe_138_3 : tFe Try.prog 138 3 = some (3, none) := by kernel_rfl
theorem tFld_138_3 : tFld Try.prog 138 3 = some 3 := by kernel_rfl
theorem tZero_138 : tZero Try.prog 138 = some (.agg #[.pointer none, .pointer none, .pointer none, .string ⟨#[]⟩]) := by kernel_rfl
theorem tAgg_139 : tAgg Try.prog 139 = some 4 := by kernel_rfl
theorem tB_139 : tB Try.prog 139 = some ([(0, 1), (1, 1), (2, 1), (3, 1)], [.pointer none, .pointer none, .pointer none, .string ⟨#[]⟩]) := by kernel_rfl
theorem tFe_139_0 : tFe Try.prog 139 0 = some (0, none) := by kernel_rfl
theorem tFld_139_0 : tFld Try.prog 139 0 = some 0 := by kernel_rfl
theorem tFe_139_1 : tFe Try.prog 139 1 = some (1, none) := by kernel_rfl
theorem tFld_139_1 : tFld Try.prog 139 1 = some 1 := by kernel_rfl
theorem tFe_139_2 : tFe Try.prog 139 2 = some (2, none) := by kernel_rfl
theorem tFld_139_2 : tFld Try.prog 139 2 = some 2 := by kernel_rfl
theorem tFe_139_3 : tFe Try.prog 139 3 = some (3, none) := by kernel_rfl
theorem tFld_139_3 : tFld Try.prog 139 3 = some 3 := by kernel_rfl
theorem tZero_139 : tZero Try.prog 139 = some (.agg #[.pointer none, .pointer none, .pointer none, .string ⟨#[]⟩]) := by kernel_rfl
theorem tAgg_141 : tAgg Try.prog 141 = some 0 := by kernel_rfl
theorem tAgg_142 : tAgg Try.prog 142 = some 0 := by kernel_rfl
theorem tOne_143 : tOne Try.prog 143 = true := by kernel_rfl
theorem tZero_143 : tZero Try.prog 143 = some (.int .u8 0) := by kernel_rfl
theorem con_143 : Try.prog.concrete 143 = true := by kernel_rfl
theorem tOne_144 : tOne Try.prog 144 = true := by kernel_rfl
theorem tZero_144 : tZero Try.prog 144 = some (.int .u8 0) := by kernel_rfl
theorem con_144 : Try.prog.concrete 144 = true := by kernel_rfl
theorem tOne_145 : tOne Try.prog 145 = true := by kernel_rfl
theorem tZero_145 : tZero Try.prog 145 = some (.nilFunc) := by kernel_rfl
theorem tOne_146 : tOne Try.prog 146 = true := by kernel_rfl
theorem tZero_146 : tZero Try.prog 146 = some (.int .i32 0) := by kernel_rfl
theorem con_146 : Try.prog.concrete 146 = true := by kernel_rfl
theorem tOne_147 : tOne Try.prog 147 = true := by kernel_rfl
theorem tZero_147 : tZero Try.prog 147 = some (.int .i32 0) := by kernel_rfl
theorem con_147 : Try.prog.concrete 147 = true := by kernel_rfl
theorem tAgg_148 : tAgg Try.prog 148 = some 11 := by kernel_rfl
theorem tB_148 : tB Try.prog 148 = some ([(0, 1), (1, 1), (2, 1), (3, 1), (4, 1), (5, 1), (6, 1), (7, 1), (8, 1), (9, 1), (10, 1)], [.int .u64 0, .int .u64 0, .int .u32 0, .int .u8 0, .int .u8 0, .int .u8 0, .int .u8 0, .nilFunc, .pointer none, .int .i32 0, .int .i32 0]) := by kernel_rfl
theorem tFe_148_0 : tFe Try.prog 148 0 = some (0, none) := by kernel_rfl
theorem tFld_148_0 : tFld Try.prog 148 0 = some 0 := by kernel_rfl
theorem tFe_148_1 : tFe Try.prog 148 1 = some (1, none) := by kernel_rfl
theorem tFld_148_1 : tFld Try.prog 148 1 = some 1 := by kernel_rfl
theorem tFe_148_2 : tFe Try.prog 148 2 = some (2, none) := by kernel_rfl
theorem tFld_148_2 : tFld Try.prog 148 2 = some 2 := by kernel_rfl
theorem tFe_148_3 : tFe Try.prog 148 3 = some (3, none) := by kernel_rfl
theorem tFld_148_3 : tFld Try.prog 148 3 = some 3 := by kernel_rfl
theorem tFe_148_4 : tFe Try.prog 148 4 = some (4, none) := by kernel_rfl
theorem tFld_148_4 : tFld Try.prog 148 4 = some 4 := by kernel_rfl
theorem tFe_148_5 : tFe Try.prog 148 5 = some (5, none) := by kernel_rfl
theorem tFld_148_5 : tFld Try.prog 148 5 = some 5 := by kernel_rfl
theorem tFe_148_6 : tFe Try.prog 148 6 = some (6, none) := by kernel_rfl
theorem tFld_148_6 : tFld Try.prog 148 6 = some 6 := by kernel_rfl
theorem tFe_148_7 : tFe Try.prog 148 7 = some (7, none) := by kernel_rfl
theorem tFld_148_7 : tFld Try.prog 148 7 = some 7 := by kernel_rfl
theorem tFe_148_8 : tFe Try.prog 148 8 = some (8, none) := by kernel_rfl
theorem tFld_148_8 : tFld Try.prog 148 8 = some 8 := by kernel_rfl
theorem tFe_148_9 : tFe Try.prog 148 9 = some (9, none) := by kernel_rfl
theorem tFld_148_9 : tFld Try.prog 148 9 = some 9 := by kernel_rfl
theorem tFe_148_10 : tFe Try.prog 148 10 = some (10, none) := by kernel_rfl
theorem tFld_148_10 : tFld Try.prog 148 10 = some 10 := by kernel_rfl
theorem tZero_148 : tZero Try.prog 148 = some (.agg #[.int .u64 0, .int .u64 0, .int .u32 0, .int .u8 0, .int .u8 0, .int .u8 0, .int .u8 0, .nilFunc, .pointer none, .int .i32 0, .int .i32 0]) := by kernel_rfl
theorem tAgg_149 : tAgg Try.prog 149 = some 11 := by kernel_rfl
theorem tB_149 : tB Try.prog 149 = some ([(0, 1), (1, 1), (2, 1), (3, 1), (4, 1), (5, 1), (6, 1), (7, 1), (8, 1), (9, 1), (10, 1)], [.int .u64 0, .int .u64 0, .int .u32 0, .int .u8 0, .int .u8 0, .int .u8 0, .int .u8 0, .nilFunc, .pointer none, .int .i32 0, .int .i32 0]) := by kernel_rfl
theorem tFe_149_0 : tFe Try.prog 149 0 = some (0, none) := by kernel_rfl
theorem tFld_149_0 : tFld Try.prog 149 0 = some 0 := by kernel_rfl
theorem tFe_149_1 : tFe Try.prog 149 1 = some (1, none) := by kernel_rfl
theorem tFld_149_1 : tFld Try.prog 149 1 = some 1 := by kernel_rfl
theorem tFe_149_2 : tFe Try.prog 149 2 = some (2, none) := by kernel_rfl
theorem tFld_149_2 : tFld Try.prog 149 2 = some 2 := by kernel_rfl
theorem tFe_149_3 : tFe Try.prog 149 3 = some (3, none) := by kernel_rfl
theorem tFld_149_3 : tFld Try.prog 149 3 = some 3 := by kernel_rfl
theorem tFe_149_4 : tFe Try.prog 149 4 = some (4, none) := by kernel_rfl
theorem tFld_149_4 : tFld Try.prog 149 4 = some 4 := by kernel_rfl
theorem tFe_149_5 : tFe Try.prog 149 5 = some (5, none) := by kernel_rfl
theorem tFld_149_5 : tFld Try.prog 149 5 = some 5 := by kernel_rfl
theorem tFe_149_6 : tFe Try.prog 149 6 = some (6, none) := by kernel_rfl
theorem tFld_149_6 : tFld Try.prog 149 6 = some 6 := by kernel_rfl
theorem tFe_149_7 : tFe Try.prog 149 7 = some (7, none) := by kernel_rfl
theorem tFld_149_7 : tFld Try.prog 149 7 = some 7 := by kernel_rfl
theorem tFe_149_8 : tFe Try.prog 149 8 = some (8, none) := by kernel_rfl
theorem tFld_149_8 : tFld Try.prog 149 8 = some 8 := by kernel_rfl
theorem tFe_149_9 : tFe Try.prog 149 9 = some (9, none) := by kernel_rfl
theorem tFld_149_9 : tFld Try.prog 149 9 = some 9 := by kernel_rfl
theorem tFe_149_10 : tFe Try.prog 149 10 = some (10, none) := by kernel_rfl
theorem tFld_149_10 : tFld Try.prog 149 10 = some 10 := by kernel_rfl
theorem tZero_149 : tZero Try.prog 149 = some (.agg #[.int .u64 0, .int .u64 0, .int .u32 0, .int .u8 0, .int .u8 0, .int .u8 0, .int .u8 0, .nilFunc, .pointer none, .int .i32 0, .int .i32 0]) := by kernel_rfl
theorem tApp_22 : tApp Try.prog 22 1 = some (9, 16) := by kernel_rfl
theorem tInf_22 : ((Try.prog.info? 9).map (·.size)).isSome = true := by kernel_rfl
theorem tApp_23 : tApp Try.prog 23 11 = some (48, 120) := by kernel_rfl
theorem tInf_23 : ((Try.prog.info? 48).map (·.size)).isSome = true := by kernel_rfl
theorem tApp_33 : tApp Try.prog 33 1 = some (46, 24) := by kernel_rfl
theorem tInf_33 : ((Try.prog.info? 46).map (·.size)).isSome = true := by kernel_rfl
theorem tApp_46 : tApp Try.prog 46 3 = some (51, 40) := by kernel_rfl
theorem tInf_46 : ((Try.prog.info? 51).map (·.size)).isSome = true := by kernel_rfl
theorem tApp_79 : tApp Try.prog 79 2 = some (83, 24) := by kernel_rfl
theorem tInf_79 : ((Try.prog.info? 83).map (·.size)).isSome = true := by kernel_rfl
theorem tApp_96 : tApp Try.prog 96 1 = some (62, 8) := by kernel_rfl
theorem tInf_96 : ((Try.prog.info? 62).map (·.size)).isSome = true := by kernel_rfl
theorem tApp_109 : tApp Try.prog 109 1 = some (5, 1) := by kernel_rfl
theorem tInf_109 : ((Try.prog.info? 5).map (·.size)).isSome = true := by kernel_rfl
theorem eg_2 : ∀ args w, (callFunc 2 args).run Try.prog w = .ok (.enter 2 args) w := enters_of Try.func2 (by kernel_rfl) rfl
theorem eg_3 : ∀ args w, (callFunc 3 args).run Try.prog w = .ok (.enter 3 args) w := enters_of Try.func3 (by kernel_rfl) rfl
theorem eg_4 : ∀ args w, (callFunc 4 args).run Try.prog w = .ok (.enter 4 args) w := enters_of Try.func4 (by kernel_rfl) rfl
theorem eg_5 : ∀ args w, (callFunc 5 args).run Try.prog w = .ok (.enter 5 args) w := enters_of Try.func5 (by kernel_rfl) rfl
theorem eg_6 : ∀ args w, (callFunc 6 args).run Try.prog w = .ok (.enter 6 args) w := enters_of Try.func6 (by kernel_rfl) rfl
theorem eg_7 : ∀ args w, (callFunc 7 args).run Try.prog w = .ok (.enter 7 args) w := enters_of Try.func7 (by kernel_rfl) rfl
theorem eg_8 : ∀ args w, (callFunc 8 args).run Try.prog w = .ok (.enter 8 args) w := enters_of Try.func8 (by kernel_rfl) rfl
theorem eg_9 : ∀ args w, (callFunc 9 args).run Try.prog w = .ok (.enter 9 args) w := enters_of Try.func9 (by kernel_rfl) rfl
theorem eg_10 : ∀ args w, (callFunc 10 args).run Try.prog w = .ok (.enter 10 args) w := enters_of Try.func10 (by kernel_rfl) rfl
theorem eg_11 : ∀ args w, (callFunc 11 args).run Try.prog w = .ok (.enter 11 args) w := enters_of Try.func11 (by kernel_rfl) rfl
theorem eg_12 : ∀ args w, (callFunc 12 args).run Try.prog w = .ok (.enter 12 args) w := enters_of Try.func12 (by kernel_rfl) rfl
theorem eg_13 : ∀ args w, (callFunc 13 args).run Try.prog w = .ok (.enter 13 args) w := enters_of Try.func13 (by kernel_rfl) rfl
theorem eg_14 : ∀ args w, (callFunc 14 args).run Try.prog w = .ok (.enter 14 args) w := enters_of Try.func14 (by kernel_rfl) rfl
theorem eg_15 : ∀ args w, (callFunc 15 args).run Try.prog w = .ok (.enter 15 args) w := enters_of Try.func15 (by kernel_rfl) rfl
theorem eg_16 : ∀ args w, (callFunc 16 args).run Try.prog w = .ok (.enter 16 args) w := enters_of Try.func16 (by kernel_rfl) rfl
theorem eg_17 : ∀ args w, (callFunc 17 args).run Try.prog w = .ok (.enter 17 args) w := enters_of Try.func17 (by kernel_rfl) rfl
theorem eg_18 : ∀ args w, (callFunc 18 args).run Try.prog w = .ok (.enter 18 args) w := enters_of Try.func18 (by kernel_rfl) rfl
theorem eg_19 : ∀ args w, (callFunc 19 args).run Try.prog w = .ok (.enter 19 args) w := enters_of Try.func19 (by kernel_rfl) rfl
theorem eg_20 : ∀ args w, (callFunc 20 args).run Try.prog w = .ok (.enter 20 args) w := enters_of Try.func20 (by kernel_rfl) rfl
theorem eg_21 : ∀ args w, (callFunc 21 args).run Try.prog w = .ok (.enter 21 args) w := enters_of Try.func21 (by kernel_rfl) rfl
theorem eg_22 : ∀ args w, (callFunc 22 args).run Try.prog w = .ok (.enter 22 args) w := enters_of Try.func22 (by kernel_rfl) rfl
theorem eg_23 : ∀ args w, (callFunc 23 args).run Try.prog w = .ok (.enter 23 args) w := enters_of Try.func23 (by kernel_rfl) rfl
theorem eg_24 : ∀ args w, (callFunc 24 args).run Try.prog w = .ok (.enter 24 args) w := enters_of Try.func24 (by kernel_rfl) rfl
theorem eg_25 : ∀ args w, (callFunc 25 args).run Try.prog w = .ok (.enter 25 args) w := enters_of Try.func25 (by kernel_rfl) rfl
theorem eg_26 : ∀ args w, (callFunc 26 args).run Try.prog w = .ok (.enter 26 args) w := enters_of Try.func26 (by kernel_rfl) rfl
theorem eg_27 : ∀ args w, (callFunc 27 args).run Try.prog w = .ok (.enter 27 args) w := enters_of Try.func27 (by kernel_rfl) rfl
theorem eg_28 : ∀ args w, (callFunc 28 args).run Try.prog w = .ok (.enter 28 args) w := enters_of Try.func28 (by kernel_rfl) rfl
theorem eg_29 : ∀ args w, (callFunc 29 args).run Try.prog w = .ok (.enter 29 args) w := enters_of Try.func29 (by kernel_rfl) rfl
theorem eg_30 : ∀ args w, (callFunc 30 args).run Try.prog w = .ok (.enter 30 args) w := enters_of Try.func30 (by kernel_rfl) rfl
theorem eg_31 : ∀ args w, (callFunc 31 args).run Try.prog w = .ok (.enter 31 args) w := enters_of Try.func31 (by kernel_rfl) rfl
theorem eg_32 : ∀ args w, (callFunc 32 args).run Try.prog w = .ok (.enter 32 args) w := enters_of Try.func32 (by kernel_rfl) rfl
theorem eg_33 : ∀ args w, (callFunc 33 args).run Try.prog w = .ok (.enter 33 args) w := enters_of Try.func33 (by kernel_rfl) rfl
theorem eg_34 : ∀ args w, (callFunc 34 args).run Try.prog w = .ok (.enter 34 args) w := enters_of Try.func34 (by kernel_rfl) rfl
theorem eg_35 : ∀ args w, (callFunc 35 args).run Try.prog w = .ok (.enter 35 args) w := enters_of Try.func35 (by kernel_rfl) rfl
theorem eg_36 : ∀ args w, (callFunc 36 args).run Try.prog w = .ok (.enter 36 args) w := enters_of Try.func36 (by kernel_rfl) rfl
theorem eg_37 : ∀ args w, (callFunc 37 args).run Try.prog w = .ok (.enter 37 args) w := enters_of Try.func37 (by kernel_rfl) rfl
theorem eg_38 : ∀ args w, (callFunc 38 args).run Try.prog w = .ok (.enter 38 args) w := enters_of Try.func38 (by kernel_rfl) rfl
theorem eg_39 : ∀ args w, (callFunc 39 args).run Try.prog w = .ok (.enter 39 args) w := enters_of Try.func39 (by kernel_rfl) rfl
theorem eg_40 : ∀ args w, (callFunc 40 args).run Try.prog w = .ok (.enter 40 args) w := enters_of Try.func40 (by kernel_rfl) rfl
theorem eg_41 : ∀ args w, (callFunc 41 args).run Try.prog w = .ok (.enter 41 args) w := enters_of Try.func41 (by kernel_rfl) rfl
theorem eg_42 : ∀ args w, (callFunc 42 args).run Try.prog w = .ok (.enter 42 args) w := enters_of Try.func42 (by kernel_rfl) rfl
theorem eg_43 : ∀ args w, (callFunc 43 args).run Try.prog w = .ok (.enter 43 args) w := enters_of Try.func43 (by kernel_rfl) rfl
theorem eg_44 : ∀ args w, (callFunc 44 args).run Try.prog w = .ok (.enter 44 args) w := enters_of Try.func44 (by kernel_rfl) rfl
theorem eg_45 : ∀ args w, (callFunc 45 args).run Try.prog w = .ok (.enter 45 args) w := enters_of Try.func45 (by kernel_rfl) rfl
theorem eg_46 : ∀ args w, (callFunc 46 args).run Try.prog w = .ok (.enter 46 args) w := enters_of Try.func46 (by kernel_rfl) rfl
theorem eg_47 : ∀ args w, (callFunc 47 args).run Try.prog w = .ok (.enter 47 args) w := enters_of Try.func47 (by kernel_rfl) rfl
theorem eg_48 : ∀ args w, (callFunc 48 args).run Try.prog w = .ok (.enter 48 args) w := enters_of Try.func48 (by kernel_rfl) rfl
theorem eg_49 : ∀ args w, (callFunc 49 args).run Try.prog w = .ok (.enter 49 args) w := enters_of Try.func49 (by kernel_rfl) rfl
theorem eg_50 : ∀ args w, (callFunc 50 args).run Try.prog w = .ok (.enter 50 args) w := enters_of Try.func50 (by kernel_rfl) rfl
theorem eg_51 : ∀ args w, (callFunc 51 args).run Try.prog w = .ok (.enter 51 args) w := enters_of Try.func51 (by kernel_rfl) rfl
theorem eg_52 : ∀ args w, (callFunc 52 args).run Try.prog w = .ok (.enter 52 args) w := enters_of Try.func52 (by kernel_rfl) rfl
theorem eg_53 : ∀ args w, (callFunc 53 args).run Try.prog w = .ok (.enter 53 args) w := enters_of Try.func53 (by kernel_rfl) rfl
theorem eg_54 : ∀ args w, (callFunc 54 args).run Try.prog w = .ok (.enter 54 args) w := enters_of Try.func54 (by kernel_rfl) rfl
theorem eg_55 : ∀ args w, (callFunc 55 args).run Try.prog w = .ok (.enter 55 args) w := enters_of Try.func55 (by kernel_rfl) rfl
theorem eg_56 : ∀ args w, (callFunc 56 args).run Try.prog w = .ok (.enter 56 args) w := enters_of Try.func56 (by kernel_rfl) rfl
theorem eg_57 : ∀ args w, (callFunc 57 args).run Try.prog w = .ok (.enter 57 args) w := enters_of Try.func57 (by kernel_rfl) rfl
theorem eg_58 : ∀ args w, (callFunc 58 args).run Try.prog w = .ok (.enter 58 args) w := enters_of Try.func58 (by kernel_rfl) rfl
theorem eg_59 : ∀ args w, (callFunc 59 args).run Try.prog w = .ok (.enter 59 args) w := enters_of Try.func59 (by kernel_rfl) rfl
theorem eg_60 : ∀ args w, (callFunc 60 args).run Try.prog w = .ok (.enter 60 args) w := enters_of Try.func60 (by kernel_rfl) rfl
theorem eg_61 : ∀ args w, (callFunc 61 args).run Try.prog w = .ok (.enter 61 args) w := enters_of Try.func61 (by kernel_rfl) rfl
theorem eg_62 : ∀ args w, (callFunc 62 args).run Try.prog w = .ok (.enter 62 args) w := enters_of Try.func62 (by kernel_rfl) rfl
theorem eg_63 : ∀ args w, (callFunc 63 args).run Try.prog w = .ok (.enter 63 args) w := enters_of Try.func63 (by kernel_rfl) rfl
theorem eg_64 : ∀ args w, (callFunc 64 args).run Try.prog w = .ok (.enter 64 args) w := enters_of Try.func64 (by kernel_rfl) rfl
theorem eg_65 : ∀ args w, (callFunc 65 args).run Try.prog w = .ok (.enter 65 args) w := enters_of Try.func65 (by kernel_rfl) rfl
theorem eg_66 : ∀ args w, (callFunc 66 args).run Try.prog w = .ok (.enter 66 args) w := enters_of Try.func66 (by kernel_rfl) rfl
theorem eg_67 : ∀ args w, (callFunc 67 args).run Try.prog w = .ok (.enter 67 args) w := enters_of Try.func67 (by kernel_rfl) rfl
theorem eg_68 : ∀ args w, (callFunc 68 args).run Try.prog w = .ok (.enter 68 args) w := enters_of Try.func68 (by kernel_rfl) rfl
theorem eg_69 : ∀ args w, (callFunc 69 args).run Try.prog w = .ok (.enter 69 args) w := enters_of Try.func69 (by kernel_rfl) rfl
theorem eg_70 : ∀ args w, (callFunc 70 args).run Try.prog w = .ok (.enter 70 args) w := enters_of Try.func70 (by kernel_rfl) rfl
theorem eg_71 : ∀ args w, (callFunc 71 args).run Try.prog w = .ok (.enter 71 args) w := enters_of Try.func71 (by kernel_rfl) rfl
theorem eg_72 : ∀ args w, (callFunc 72 args).run Try.prog w = .ok (.enter 72 args) w := enters_of Try.func72 (by kernel_rfl) rfl
theorem eg_73 : ∀ args w, (callFunc 73 args).run Try.prog w = .ok (.enter 73 args) w := enters_of Try.func73 (by kernel_rfl) rfl
theorem eg_74 : ∀ args w, (callFunc 74 args).run Try.prog w = .ok (.enter 74 args) w := enters_of Try.func74 (by kernel_rfl) rfl
theorem eg_75 : ∀ args w, (callFunc 75 args).run Try.prog w = .ok (.enter 75 args) w := enters_of Try.func75 (by kernel_rfl) rfl
theorem eg_77 : ∀ args w, (callFunc 77 args).run Try.prog w = .ok (.enter 77 args) w := enters_of Try.func77 (by kernel_rfl) rfl
theorem eg_78 : ∀ args w, (callFunc 78 args).run Try.prog w = .ok (.enter 78 args) w := enters_of Try.func78 (by kernel_rfl) rfl
theorem eg_80 : ∀ args w, (callFunc 80 args).run Try.prog w = .ok (.enter 80 args) w := enters_of Try.func80 (by kernel_rfl) rfl
theorem eg_82 : ∀ args w, (callFunc 82 args).run Try.prog w = .ok (.enter 82 args) w := enters_of Try.func82 (by kernel_rfl) rfl
end Go.Proofs.Ytpipachmngdegaa
end
