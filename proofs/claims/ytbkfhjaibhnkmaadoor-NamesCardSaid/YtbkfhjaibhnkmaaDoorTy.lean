/-
  Facts on the types and the functions of this seat, each a closed computation.
-/
import Derived.Test.YtbkfhjaibhnkmaaDoorR5
import Derived.Test.YtbkfhjaibhnkmaaDoorProg
import Derived.Shelf.Abstract
namespace Go.Proofs.YtbkfhjaibhnkmaaDoor
open Go Go.RowKit
set_option linter.unusedVariables false
set_option maxRecDepth 100000
theorem mixed : Tryd.prog.follows .mixedOrders = true := by kernel_rfl
theorem tOne_1 : tOne Tryd.prog 1 = true := by kernel_rfl
theorem tZero_1 : tZero Tryd.prog 1 = some (.nilFunc) := by kernel_rfl
theorem tOne_2 : tOne Tryd.prog 2 = true := by kernel_rfl
theorem tZero_2 : tZero Tryd.prog 2 = some (.int .i64 0) := by kernel_rfl
theorem con_2 : Tryd.prog.concrete 2 = true := by kernel_rfl
theorem tOne_3 : tOne Tryd.prog 3 = true := by kernel_rfl
theorem tZero_3 : tZero Tryd.prog 3 = some (.int .i64 0) := by kernel_rfl
theorem con_3 : Tryd.prog.concrete 3 = true := by kernel_rfl
theorem tOne_4 : tOne Tryd.prog 4 = true := by kernel_rfl
theorem tZero_4 : tZero Tryd.prog 4 = some (.bool false) := by kernel_rfl
theorem tOne_5 : tOne Tryd.prog 5 = true := by kernel_rfl
theorem tZero_5 : tZero Tryd.prog 5 = some (.int .u8 0) := by kernel_rfl
theorem con_5 : Tryd.prog.concrete 5 = true := by kernel_rfl
theorem tOne_6 : tOne Tryd.prog 6 = true := by kernel_rfl
theorem tZero_6 : tZero Tryd.prog 6 = some (.int .u8 0) := by kernel_rfl
theorem con_6 : Tryd.prog.concrete 6 = true := by kernel_rfl
theorem tAgg_7 : tAgg Tryd.prog 7 = some 4 := by kernel_rfl
theorem tB_7 : tB Tryd.prog 7 = some ([(0, 1), (1, 1), (2, 1), (3, 1)], [.int .i64 0, .int .i64 0, .bool false, .int .u8 0]) := by kernel_rfl
theorem tFe_7_0 : tFe Tryd.prog 7 0 = some (0, none) := by kernel_rfl
theorem tFld_7_0 : tFld Tryd.prog 7 0 = some 0 := by kernel_rfl
theorem tFe_7_1 : tFe Tryd.prog 7 1 = some (1, none) := by kernel_rfl
theorem tFld_7_1 : tFld Tryd.prog 7 1 = some 1 := by kernel_rfl
theorem tFe_7_2 : tFe Tryd.prog 7 2 = some (2, none) := by kernel_rfl
theorem tFld_7_2 : tFld Tryd.prog 7 2 = some 2 := by kernel_rfl
theorem tFe_7_3 : tFe Tryd.prog 7 3 = some (3, none) := by kernel_rfl
theorem tFld_7_3 : tFld Tryd.prog 7 3 = some 3 := by kernel_rfl
theorem tZero_7 : tZero Tryd.prog 7 = some (.agg #[.int .i64 0, .int .i64 0, .bool false, .int .u8 0]) := by kernel_rfl
theorem tAgg_8 : tAgg Tryd.prog 8 = some 4 := by kernel_rfl
theorem tB_8 : tB Tryd.prog 8 = some ([(0, 1), (1, 1), (2, 1), (3, 1)], [.int .i64 0, .int .i64 0, .bool false, .int .u8 0]) := by kernel_rfl
theorem tFe_8_0 : tFe Tryd.prog 8 0 = some (0, none) := by kernel_rfl
theorem tFld_8_0 : tFld Tryd.prog 8 0 = some 0 := by kernel_rfl
theorem tFe_8_1 : tFe Tryd.prog 8 1 = some (1, none) := by kernel_rfl
theorem tFld_8_1 : tFld Tryd.prog 8 1 = some 1 := by kernel_rfl
theorem tFe_8_2 : tFe Tryd.prog 8 2 = some (2, none) := by kernel_rfl
theorem tFld_8_2 : tFld Tryd.prog 8 2 = some 2 := by kernel_rfl
theorem tFe_8_3 : tFe Tryd.prog 8 3 = some (3, none) := by kernel_rfl
theorem tFld_8_3 : tFld Tryd.prog 8 3 = some 3 := by kernel_rfl
theorem tZero_8 : tZero Tryd.prog 8 = some (.agg #[.int .i64 0, .int .i64 0, .bool false, .int .u8 0]) := by kernel_rfl
theorem tOne_9 : tOne Tryd.prog 9 = true := by kernel_rfl
theorem tZero_9 : tZero Tryd.prog 9 = some (.string ⟨#[]⟩) := by kernel_rfl
theorem tOne_10 : tOne Tryd.prog 10 = true := by kernel_rfl
theorem tZero_10 : tZero Tryd.prog 10 = some (.string ⟨#[]⟩) := by kernel_rfl
theorem tOne_11 : tOne Tryd.prog 11 = true := by kernel_rfl
theorem tZero_11 : tZero Tryd.prog 11 = some (.string ⟨#[]⟩) := by kernel_rfl
theorem tOne_12 : tOne Tryd.prog 12 = true := by kernel_rfl
theorem tZero_12 : tZero Tryd.prog 12 = some (.int .u64 0) := by kernel_rfl
theorem con_12 : Tryd.prog.concrete 12 = true := by kernel_rfl
theorem tAgg_13 : tAgg Tryd.prog 13 = some 2 := by kernel_rfl
theorem tB_13 : tB Tryd.prog 13 = some ([(0, 1), (1, 1)], [.string ⟨#[]⟩, .int .u64 0]) := by kernel_rfl
theorem tFe_13_0 : tFe Tryd.prog 13 0 = some (0, none) := by kernel_rfl
theorem tFld_13_0 : tFld Tryd.prog 13 0 = some 0 := by kernel_rfl
theorem tFe_13_1 : tFe Tryd.prog 13 1 = some (1, none) := by kernel_rfl
theorem tFld_13_1 : tFld Tryd.prog 13 1 = some 1 := by kernel_rfl
theorem tZero_13 : tZero Tryd.prog 13 = some (.agg #[.string ⟨#[]⟩, .int .u64 0]) := by kernel_rfl
theorem tAgg_14 : tAgg Tryd.prog 14 = some 2 := by kernel_rfl
theorem tB_14 : tB Tryd.prog 14 = some ([(0, 1), (1, 1)], [.string ⟨#[]⟩, .int .u64 0]) := by kernel_rfl
theorem tFe_14_0 : tFe Tryd.prog 14 0 = some (0, none) := by kernel_rfl
theorem tFld_14_0 : tFld Tryd.prog 14 0 = some 0 := by kernel_rfl
theorem tFe_14_1 : tFe Tryd.prog 14 1 = some (1, none) := by kernel_rfl
theorem tFld_14_1 : tFld Tryd.prog 14 1 = some 1 := by kernel_rfl
theorem tZero_14 : tZero Tryd.prog 14 = some (.agg #[.string ⟨#[]⟩, .int .u64 0]) := by kernel_rfl
theorem tOne_15 : tOne Tryd.prog 15 = true := by kernel_rfl
theorem tZero_15 : tZero Tryd.prog 15 = some (.pointer none) := by kernel_rfl
theorem tOne_16 : tOne Tryd.prog 16 = true := by kernel_rfl
theorem tZero_16 : tZero Tryd.prog 16 = some (.pointer none) := by kernel_rfl
theorem tOne_17 : tOne Tryd.prog 17 = true := by kernel_rfl
theorem tZero_17 : tZero Tryd.prog 17 = some (.pointer none) := by kernel_rfl
theorem tAgg_18 : tAgg Tryd.prog 18 = some 1 := by kernel_rfl
theorem tB_18 : tB Tryd.prog 18 = some ([(0, 1)], [.pointer none]) := by kernel_rfl
theorem tFe_18_0 : tFe Tryd.prog 18 0 = some (0, none) := by kernel_rfl
theorem tFld_18_0 : tFld Tryd.prog 18 0 = some 0 := by kernel_rfl
theorem tZero_18 : tZero Tryd.prog 18 = some (.agg #[.pointer none]) := by kernel_rfl
theorem tAgg_19 : tAgg Tryd.prog 19 = some 1 := by kernel_rfl
theorem tB_19 : tB Tryd.prog 19 = some ([(0, 1)], [.pointer none]) := by kernel_rfl
theorem tFe_19_0 : tFe Tryd.prog 19 0 = some (0, none) := by kernel_rfl
theorem tFld_19_0 : tFld Tryd.prog 19 0 = some 0 := by kernel_rfl
theorem tZero_19 : tZero Tryd.prog 19 = some (.agg #[.pointer none]) := by kernel_rfl
theorem tOne_20 : tOne Tryd.prog 20 = true := by kernel_rfl
theorem tZero_20 : tZero Tryd.prog 20 = some (.nilIface) := by kernel_rfl
theorem tOne_21 : tOne Tryd.prog 21 = true := by kernel_rfl
theorem tZero_21 : tZero Tryd.prog 21 = some (.int .i32 0) := by kernel_rfl
theorem con_21 : Tryd.prog.concrete 21 = true := by kernel_rfl
theorem tSl_22 : tSl Tryd.prog 22 = some (3, 1) := by kernel_rfl
theorem tOne_22 : tOne Tryd.prog 22 = true := by kernel_rfl
theorem tZero_22 : tZero Tryd.prog 22 = some (.slice none 0 0) := by kernel_rfl
theorem tOne_23 : tOne Tryd.prog 23 = true := by kernel_rfl
theorem tZero_23 : tZero Tryd.prog 23 = some (.int .i64 0) := by kernel_rfl
theorem con_23 : Tryd.prog.concrete 23 = true := by kernel_rfl
theorem tSl_24 : tSl Tryd.prog 24 = some (27, 1) := by kernel_rfl
theorem tOne_24 : tOne Tryd.prog 24 = true := by kernel_rfl
theorem tZero_24 : tZero Tryd.prog 24 = some (.slice none 0 0) := by kernel_rfl
theorem tOne_25 : tOne Tryd.prog 25 = true := by kernel_rfl
theorem tZero_25 : tZero Tryd.prog 25 = some (.nilFunc) := by kernel_rfl
theorem tOne_26 : tOne Tryd.prog 26 = true := by kernel_rfl
theorem tZero_26 : tZero Tryd.prog 26 = some (.nilIface) := by kernel_rfl
theorem tOne_27 : tOne Tryd.prog 27 = true := by kernel_rfl
theorem tZero_27 : tZero Tryd.prog 27 = some (.nilIface) := by kernel_rfl
theorem tOne_28 : tOne Tryd.prog 28 = true := by kernel_rfl
theorem tZero_28 : tZero Tryd.prog 28 = some (.nilFunc) := by kernel_rfl
theorem tOne_29 : tOne Tryd.prog 29 = true := by kernel_rfl
theorem tZero_29 : tZero Tryd.prog 29 = some (.nilFunc) := by kernel_rfl
theorem tOne_30 : tOne Tryd.prog 30 = true := by kernel_rfl
theorem tZero_30 : tZero Tryd.prog 30 = some (.nilFunc) := by kernel_rfl
theorem tOne_32 : tOne Tryd.prog 32 = true := by kernel_rfl
theorem tZero_32 : tZero Tryd.prog 32 = some (.nilFunc) := by kernel_rfl
theorem tOne_33 : tOne Tryd.prog 33 = true := by kernel_rfl
theorem tZero_33 : tZero Tryd.prog 33 = some (.nilFunc) := by kernel_rfl
theorem tAgg_34 : tAgg Tryd.prog 34 = some 24 := by kernel_rfl
theorem tZero_34 : tZero Tryd.prog 34 = some (.agg #[.int .u8 0, .int .u8 0, .int .u8 0, .int .u8 0, .int .u8 0, .int .u8 0, .int .u8 0, .int .u8 0, .int .u8 0, .int .u8 0, .int .u8 0, .int .u8 0, .int .u8 0, .int .u8 0, .int .u8 0, .int .u8 0, .int .u8 0, .int .u8 0, .int .u8 0, .int .u8 0, .int .u8 0, .int .u8 0, .int .u8 0, .int .u8 0]) := by kernel_rfl
theorem tOne_35 : tOne Tryd.prog 35 = true := by kernel_rfl
theorem tZero_35 : tZero Tryd.prog 35 = some (.int .u64 0) := by kernel_rfl
theorem con_35 : Tryd.prog.concrete 35 = true := by kernel_rfl
theorem tOne_36 : tOne Tryd.prog 36 = true := by kernel_rfl
theorem tZero_36 : tZero Tryd.prog 36 = some (.nilFunc) := by kernel_rfl
theorem tOne_37 : tOne Tryd.prog 37 = true := by kernel_rfl
theorem tZero_37 : tZero Tryd.prog 37 = some (.nilFunc) := by kernel_rfl
theorem tSl_38 : tSl Tryd.prog 38 = some (5, 1) := by kernel_rfl
theorem tOne_38 : tOne Tryd.prog 38 = true := by kernel_rfl
theorem tZero_38 : tZero Tryd.prog 38 = some (.slice none 0 0) := by kernel_rfl
theorem tOne_40 : tOne Tryd.prog 40 = true := by kernel_rfl
theorem tZero_40 : tZero Tryd.prog 40 = some (.nilFunc) := by kernel_rfl
theorem tOne_41 : tOne Tryd.prog 41 = true := by kernel_rfl
theorem tZero_41 : tZero Tryd.prog 41 = some (.nilFunc) := by kernel_rfl
theorem tOne_42 : tOne Tryd.prog 42 = true := by kernel_rfl
theorem tZero_42 : tZero Tryd.prog 42 = some (.nilFunc) := by kernel_rfl
theorem tAgg_43 : tAgg Tryd.prog 43 = some 20 := by kernel_rfl
theorem tZero_43 : tZero Tryd.prog 43 = some (.agg #[.int .u64 0, .int .u64 0, .int .u64 0, .int .u64 0, .int .u64 0, .int .u64 0, .int .u64 0, .int .u64 0, .int .u64 0, .int .u64 0, .int .u64 0, .int .u64 0, .int .u64 0, .int .u64 0, .int .u64 0, .int .u64 0, .int .u64 0, .int .u64 0, .int .u64 0, .int .u64 0]) := by kernel_rfl
theorem tOne_44 : tOne Tryd.prog 44 = true := by kernel_rfl
theorem tZero_44 : tZero Tryd.prog 44 = some (.int .u32 0) := by kernel_rfl
theorem con_44 : Tryd.prog.concrete 44 = true := by kernel_rfl
theorem tAgg_45 : tAgg Tryd.prog 45 = some 65 := by kernel_rfl
theorem tZero_45 : tZero Tryd.prog 45 = some (.agg #[.int .u8 0, .int .u8 0, .int .u8 0, .int .u8 0, .int .u8 0, .int .u8 0, .int .u8 0, .int .u8 0, .int .u8 0, .int .u8 0, .int .u8 0, .int .u8 0, .int .u8 0, .int .u8 0, .int .u8 0, .int .u8 0, .int .u8 0, .int .u8 0, .int .u8 0, .int .u8 0, .int .u8 0, .int .u8 0, .int .u8 0, .int .u8 0, .int .u8 0, .int .u8 0, .int .u8 0, .int .u8 0, .int .u8 0, .int .u8 0, .int .u8 0, .int .u8 0, .int .u8 0, .int .u8 0, .int .u8 0, .int .u8 0, .int .u8 0, .int .u8 0, .int .u8 0, .int .u8 0, .int .u8 0, .int .u8 0, .int .u8 0, .int .u8 0, .int .u8 0, .int .u8 0, .int .u8 0, .int .u8 0, .int .u8 0, .int .u8 0, .int .u8 0, .int .u8 0, .int .u8 0, .int .u8 0, .int .u8 0, .int .u8 0, .int .u8 0, .int .u8 0, .int .u8 0, .int .u8 0, .int .u8 0, .int .u8 0, .int .u8 0, .int .u8 0, .int .u8 0]) := by kernel_rfl
theorem tOne_46 : tOne Tryd.prog 46 = true := by kernel_rfl
theorem tZero_46 : tZero Tryd.prog 46 = some (.nilFunc) := by kernel_rfl
theorem tOne_47 : tOne Tryd.prog 47 = true := by kernel_rfl
theorem tZero_47 : tZero Tryd.prog 47 = some (.int .u64 0) := by kernel_rfl
theorem con_47 : Tryd.prog.concrete 47 = true := by kernel_rfl
theorem tOne_48 : tOne Tryd.prog 48 = true := by kernel_rfl
theorem tZero_48 : tZero Tryd.prog 48 = some (.nilFunc) := by kernel_rfl
theorem tOne_49 : tOne Tryd.prog 49 = true := by kernel_rfl
theorem tZero_49 : tZero Tryd.prog 49 = some (.nilFunc) := by kernel_rfl
theorem tAgg_50 : tAgg Tryd.prog 50 = some 32 := by kernel_rfl
theorem tZero_50 : tZero Tryd.prog 50 = some (.agg #[.int .u8 0, .int .u8 0, .int .u8 0, .int .u8 0, .int .u8 0, .int .u8 0, .int .u8 0, .int .u8 0, .int .u8 0, .int .u8 0, .int .u8 0, .int .u8 0, .int .u8 0, .int .u8 0, .int .u8 0, .int .u8 0, .int .u8 0, .int .u8 0, .int .u8 0, .int .u8 0, .int .u8 0, .int .u8 0, .int .u8 0, .int .u8 0, .int .u8 0, .int .u8 0, .int .u8 0, .int .u8 0, .int .u8 0, .int .u8 0, .int .u8 0, .int .u8 0]) := by kernel_rfl
theorem tAgg_51 : tAgg Tryd.prog 51 = some 64 := by kernel_rfl
theorem tZero_51 : tZero Tryd.prog 51 = some (.agg #[.int .u8 0, .int .u8 0, .int .u8 0, .int .u8 0, .int .u8 0, .int .u8 0, .int .u8 0, .int .u8 0, .int .u8 0, .int .u8 0, .int .u8 0, .int .u8 0, .int .u8 0, .int .u8 0, .int .u8 0, .int .u8 0, .int .u8 0, .int .u8 0, .int .u8 0, .int .u8 0, .int .u8 0, .int .u8 0, .int .u8 0, .int .u8 0, .int .u8 0, .int .u8 0, .int .u8 0, .int .u8 0, .int .u8 0, .int .u8 0, .int .u8 0, .int .u8 0, .int .u8 0, .int .u8 0, .int .u8 0, .int .u8 0, .int .u8 0, .int .u8 0, .int .u8 0, .int .u8 0, .int .u8 0, .int .u8 0, .int .u8 0, .int .u8 0, .int .u8 0, .int .u8 0, .int .u8 0, .int .u8 0, .int .u8 0, .int .u8 0, .int .u8 0, .int .u8 0, .int .u8 0, .int .u8 0, .int .u8 0, .int .u8 0, .int .u8 0, .int .u8 0, .int .u8 0, .int .u8 0, .int .u8 0, .int .u8 0, .int .u8 0, .int .u8 0]) := by kernel_rfl
theorem tAgg_52 : tAgg Tryd.prog 52 = some 4 := by kernel_rfl
theorem tB_52 : tB Tryd.prog 52 = some ([(0, 1), (1, 1), (2, 1), (3, 1)], [.pointer none, .pointer none, .pointer none, .string ⟨#[]⟩]) := by kernel_rfl
theorem tFe_52_0 : tFe Tryd.prog 52 0 = some (0, none) := by kernel_rfl
theorem tFld_52_0 : tFld Tryd.prog 52 0 = some 0 := by kernel_rfl
theorem tFe_52_1 : tFe Tryd.prog 52 1 = some (1, none) := by kernel_rfl
theorem tFld_52_1 : tFld Tryd.prog 52 1 = some 1 := by kernel_rfl
theorem tFe_52_2 : tFe Tryd.prog 52 2 = some (2, none) := by kernel_rfl
theorem tFld_52_2 : tFld Tryd.prog 52 2 = some 2 := by kernel_rfl
theorem tFe_52_3 : tFe Tryd.prog 52 3 = some (3, none) := by kernel_rfl
theorem tFld_52_3 : tFld Tryd.prog 52 3 = some 3 := by kernel_rfl
theorem tZero_52 : tZero Tryd.prog 52 = some (.agg #[.pointer none, .pointer none, .pointer none, .string ⟨#[]⟩]) := by kernel_rfl
theorem tAgg_53 : tAgg Tryd.prog 53 = some 4 := by kernel_rfl
theorem tB_53 : tB Tryd.prog 53 = some ([(0, 1), (1, 1), (2, 1), (3, 1)], [.pointer none, .pointer none, .pointer none, .string ⟨#[]⟩]) := by kernel_rfl
theorem tFe_53_0 : tFe Tryd.prog 53 0 = some (0, none) := by kernel_rfl
theorem tFld_53_0 : tFld Tryd.prog 53 0 = some 0 := by kernel_rfl
theorem tFe_53_1 : tFe Tryd.prog 53 1 = some (1, none) := by kernel_rfl
theorem tFld_53_1 : tFld Tryd.prog 53 1 = some 1 := by kernel_rfl
theorem tFe_53_2 : tFe Tryd.prog 53 2 = some (2, none) := by kernel_rfl
theorem tFld_53_2 : tFld Tryd.prog 53 2 = some 2 := by kernel_rfl
theorem tFe_53_3 : tFe Tryd.prog 53 3 = some (3, none) := by kernel_rfl
theorem tFld_53_3 : tFld Tryd.prog 53 3 = some 3 := by kernel_rfl
theorem tZero_53 : tZero Tryd.prog 53 = some (.agg #[.pointer none, .pointer none, .pointer none, .string ⟨#[]⟩]) := by kernel_rfl
theorem tAgg_55 : tAgg Tryd.prog 55 = some 0 := by kernel_rfl
theorem tAgg_56 : tAgg Tryd.prog 56 = some 0 := by kernel_rfl
theorem tOne_57 : tOne Tryd.prog 57 = true := by kernel_rfl
theorem tZero_57 : tZero Tryd.prog 57 = some (.nilFunc) := by kernel_rfl
theorem tOne_58 : tOne Tryd.prog 58 = true := by kernel_rfl
theorem tZero_58 : tZero Tryd.prog 58 = some (.int .u8 0) := by kernel_rfl
theorem con_58 : Tryd.prog.concrete 58 = true := by kernel_rfl
theorem tOne_59 : tOne Tryd.prog 59 = true := by kernel_rfl
theorem tZero_59 : tZero Tryd.prog 59 = some (.int .u8 0) := by kernel_rfl
theorem con_59 : Tryd.prog.concrete 59 = true := by kernel_rfl
theorem tOne_60 : tOne Tryd.prog 60 = true := by kernel_rfl
theorem tZero_60 : tZero Tryd.prog 60 = some (.nilFunc) := by kernel_rfl
theorem tOne_61 : tOne Tryd.prog 61 = true := by kernel_rfl
theorem tZero_61 : tZero Tryd.prog 61 = some (.pointer none) := by kernel_rfl
theorem tOne_62 : tOne Tryd.prog 62 = true := by kernel_rfl
theorem tZero_62 : tZero Tryd.prog 62 = some (.int .i32 0) := by kernel_rfl
theorem con_62 : Tryd.prog.concrete 62 = true := by kernel_rfl
theorem tOne_63 : tOne Tryd.prog 63 = true := by kernel_rfl
theorem tZero_63 : tZero Tryd.prog 63 = some (.int .i32 0) := by kernel_rfl
theorem con_63 : Tryd.prog.concrete 63 = true := by kernel_rfl
theorem tAgg_64 : tAgg Tryd.prog 64 = some 11 := by kernel_rfl
theorem tB_64 : tB Tryd.prog 64 = some ([(0, 1), (1, 1), (2, 1), (3, 1), (4, 1), (5, 1), (6, 1), (7, 1), (8, 1), (9, 1), (10, 1)], [.int .u64 0, .int .u64 0, .int .u32 0, .int .u8 0, .int .u8 0, .int .u8 0, .int .u8 0, .nilFunc, .pointer none, .int .i32 0, .int .i32 0]) := by kernel_rfl
theorem tFe_64_0 : tFe Tryd.prog 64 0 = some (0, none) := by kernel_rfl
theorem tFld_64_0 : tFld Tryd.prog 64 0 = some 0 := by kernel_rfl
theorem tFe_64_1 : tFe Tryd.prog 64 1 = some (1, none) := by kernel_rfl
theorem tFld_64_1 : tFld Tryd.prog 64 1 = some 1 := by kernel_rfl
theorem tFe_64_2 : tFe Tryd.prog 64 2 = some (2, none) := by kernel_rfl
theorem tFld_64_2 : tFld Tryd.prog 64 2 = some 2 := by kernel_rfl
theorem tFe_64_3 : tFe Tryd.prog 64 3 = some (3, none) := by kernel_rfl
theorem tFld_64_3 : tFld Tryd.prog 64 3 = some 3 := by kernel_rfl
theorem tFe_64_4 : tFe Tryd.prog 64 4 = some (4, none) := by kernel_rfl
theorem tFld_64_4 : tFld Tryd.prog 64 4 = some 4 := by kernel_rfl
theorem tFe_64_5 : tFe Tryd.prog 64 5 = some (5, none) := by kernel_rfl
theorem tFld_64_5 : tFld Tryd.prog 64 5 = some 5 := by kernel_rfl
theorem tFe_64_6 : tFe Tryd.prog 64 6 = some (6, none) := by kernel_rfl
theorem tFld_64_6 : tFld Tryd.prog 64 6 = some 6 := by kernel_rfl
theorem tFe_64_7 : tFe Tryd.prog 64 7 = some (7, none) := by kernel_rfl
theorem tFld_64_7 : tFld Tryd.prog 64 7 = some 7 := by kernel_rfl
theorem tFe_64_8 : tFe Tryd.prog 64 8 = some (8, none) := by kernel_rfl
theorem tFld_64_8 : tFld Tryd.prog 64 8 = some 8 := by kernel_rfl
theorem tFe_64_9 : tFe Tryd.prog 64 9 = some (9, none) := by kernel_rfl
theorem tFld_64_9 : tFld Tryd.prog 64 9 = some 9 := by kernel_rfl
theorem tFe_64_10 : tFe Tryd.prog 64 10 = some (10, none) := by kernel_rfl
theorem tFld_64_10 : tFld Tryd.prog 64 10 = some 10 := by kernel_rfl
theorem tZero_64 : tZero Tryd.prog 64 = some (.agg #[.int .u64 0, .int .u64 0, .int .u32 0, .int .u8 0, .int .u8 0, .int .u8 0, .int .u8 0, .nilFunc, .pointer none, .int .i32 0, .int .i32 0]) := by kernel_rfl
theorem tAgg_65 : tAgg Tryd.prog 65 = some 11 := by kernel_rfl
theorem tB_65 : tB Tryd.prog 65 = some ([(0, 1), (1, 1), (2, 1), (3, 1), (4, 1), (5, 1), (6, 1), (7, 1), (8, 1), (9, 1), (10, 1)], [.int .u64 0, .int .u64 0, .int .u32 0, .int .u8 0, .int .u8 0, .int .u8 0, .int .u8 0, .nilFunc, .pointer none, .int .i32 0, .int .i32 0]) := by kernel_rfl
theorem tFe_65_0 : tFe Tryd.prog 65 0 = some (0, none) := by kernel_rfl
theorem tFld_65_0 : tFld Tryd.prog 65 0 = some 0 := by kernel_rfl
theorem tFe_65_1 : tFe Tryd.prog 65 1 = some (1, none) := by kernel_rfl
theorem tFld_65_1 : tFld Tryd.prog 65 1 = some 1 := by kernel_rfl
theorem tFe_65_2 : tFe Tryd.prog 65 2 = some (2, none) := by kernel_rfl
theorem tFld_65_2 : tFld Tryd.prog 65 2 = some 2 := by kernel_rfl
theorem tFe_65_3 : tFe Tryd.prog 65 3 = some (3, none) := by kernel_rfl
theorem tFld_65_3 : tFld Tryd.prog 65 3 = some 3 := by kernel_rfl
theorem tFe_65_4 : tFe Tryd.prog 65 4 = some (4, none) := by kernel_rfl
theorem tFld_65_4 : tFld Tryd.prog 65 4 = some 4 := by kernel_rfl
theorem tFe_65_5 : tFe Tryd.prog 65 5 = some (5, none) := by kernel_rfl
theorem tFld_65_5 : tFld Tryd.prog 65 5 = some 5 := by kernel_rfl
theorem tFe_65_6 : tFe Tryd.prog 65 6 = some (6, none) := by kernel_rfl
theorem tFld_65_6 : tFld Tryd.prog 65 6 = some 6 := by kernel_rfl
theorem tFe_65_7 : tFe Tryd.prog 65 7 = some (7, none) := by kernel_rfl
theorem tFld_65_7 : tFld Tryd.prog 65 7 = some 7 := by kernel_rfl
theorem tFe_65_8 : tFe Tryd.prog 65 8 = some (8, none) := by kernel_rfl
theorem tFld_65_8 : tFld Tryd.prog 65 8 = some 8 := by kernel_rfl
theorem tFe_65_9 : tFe Tryd.prog 65 9 = some (9, none) := by kernel_rfl
theorem tFld_65_9 : tFld Tryd.prog 65 9 = some 9 := by kernel_rfl
theorem tFe_65_10 : tFe Tryd.prog 65 10 = some (10, none) := by kernel_rfl
theorem tFld_65_10 : tFld Tryd.prog 65 10 = some 10 := by kernel_rfl
theorem tZero_65 : tZero Tryd.prog 65 = some (.agg #[.int .u64 0, .int .u64 0, .int .u32 0, .int .u8 0, .int .u8 0, .int .u8 0, .int .u8 0, .nilFunc, .pointer none, .int .i32 0, .int .i32 0]) := by kernel_rfl
theorem tApp_22 : tApp Tryd.prog 22 1 = some (3, 8) := by kernel_rfl
theorem tInf_22 : ((Tryd.prog.info? 3).map (·.size)).isSome = true := by kernel_rfl
theorem tApp_24 : tApp Tryd.prog 24 1 = some (27, 16) := by kernel_rfl
theorem tInf_24 : ((Tryd.prog.info? 27).map (·.size)).isSome = true := by kernel_rfl
theorem tApp_38 : tApp Tryd.prog 38 1 = some (5, 1) := by kernel_rfl
theorem tInf_38 : ((Tryd.prog.info? 5).map (·.size)).isSome = true := by kernel_rfl
theorem eg_2 : ∀ args w, (callFunc 2 args).run Tryd.prog w = .ok (.enter 2 args) w := enters_of Tryd.func2 (by kernel_rfl) rfl
theorem eg_3 : ∀ args w, (callFunc 3 args).run Tryd.prog w = .ok (.enter 3 args) w := enters_of Tryd.func3 (by kernel_rfl) rfl
theorem eg_4 : ∀ args w, (callFunc 4 args).run Tryd.prog w = .ok (.enter 4 args) w := enters_of Tryd.func4 (by kernel_rfl) rfl
theorem eg_5 : ∀ args w, (callFunc 5 args).run Tryd.prog w = .ok (.enter 5 args) w := enters_of Tryd.func5 (by kernel_rfl) rfl
theorem eg_6 : ∀ args w, (callFunc 6 args).run Tryd.prog w = .ok (.enter 6 args) w := enters_of Tryd.func6 (by kernel_rfl) rfl
theorem eg_7 : ∀ args w, (callFunc 7 args).run Tryd.prog w = .ok (.enter 7 args) w := enters_of Tryd.func7 (by kernel_rfl) rfl
theorem eg_8 : ∀ args w, (callFunc 8 args).run Tryd.prog w = .ok (.enter 8 args) w := enters_of Tryd.func8 (by kernel_rfl) rfl
theorem eg_9 : ∀ args w, (callFunc 9 args).run Tryd.prog w = .ok (.enter 9 args) w := enters_of Tryd.func9 (by kernel_rfl) rfl
theorem eg_10 : ∀ args w, (callFunc 10 args).run Tryd.prog w = .ok (.enter 10 args) w := enters_of Tryd.func10 (by kernel_rfl) rfl
theorem eg_11 : ∀ args w, (callFunc 11 args).run Tryd.prog w = .ok (.enter 11 args) w := enters_of Tryd.func11 (by kernel_rfl) rfl
theorem eg_12 : ∀ args w, (callFunc 12 args).run Tryd.prog w = .ok (.enter 12 args) w := enters_of Tryd.func12 (by kernel_rfl) rfl
theorem eg_13 : ∀ args w, (callFunc 13 args).run Tryd.prog w = .ok (.enter 13 args) w := enters_of Tryd.func13 (by kernel_rfl) rfl
theorem eg_14 : ∀ args w, (callFunc 14 args).run Tryd.prog w = .ok (.enter 14 args) w := enters_of Tryd.func14 (by kernel_rfl) rfl
theorem eg_15 : ∀ args w, (callFunc 15 args).run Tryd.prog w = .ok (.enter 15 args) w := enters_of Tryd.func15 (by kernel_rfl) rfl
theorem eg_16 : ∀ args w, (callFunc 16 args).run Tryd.prog w = .ok (.enter 16 args) w := enters_of Tryd.func16 (by kernel_rfl) rfl
theorem eg_17 : ∀ args w, (callFunc 17 args).run Tryd.prog w = .ok (.enter 17 args) w := enters_of Tryd.func17 (by kernel_rfl) rfl
theorem eg_18 : ∀ args w, (callFunc 18 args).run Tryd.prog w = .ok (.enter 18 args) w := enters_of Tryd.func18 (by kernel_rfl) rfl
theorem eg_19 : ∀ args w, (callFunc 19 args).run Tryd.prog w = .ok (.enter 19 args) w := enters_of Tryd.func19 (by kernel_rfl) rfl
theorem eg_20 : ∀ args w, (callFunc 20 args).run Tryd.prog w = .ok (.enter 20 args) w := enters_of Tryd.func20 (by kernel_rfl) rfl
theorem eg_42 : ∀ args w, (callFunc 42 args).run Tryd.prog w = .ok (.enter 42 args) w := enters_of Tryd.func42 (by kernel_rfl) rfl
end Go.Proofs.YtbkfhjaibhnkmaaDoor
