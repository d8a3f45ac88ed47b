/- Closed facts of the program's types and functions. -/
import Derived.Test.YtnfbkngfdemkpaaProg
import Derived.Test.YtnfbkngfdemkpaaGD
set_option linter.unusedVariables false
set_option linter.unusedSimpArgs false
namespace Go.Proofs.Ytnfbkngfdemkpaa
open Go.Kn Go.Num
theorem mix : Try.prog.follows .mixedOrders = true := by kernel_rfl
theorem ar_22 : tyArr Try.prog 22 = some (4, 1) := by kernel_rfl
theorem ar_26 : tyArr Try.prog 26 = some (4, 1) := by kernel_rfl
theorem ar_31 : tyArr Try.prog 31 = some (16, 1) := by kernel_rfl
theorem ar_34 : tyArr Try.prog 34 = some (4, 18) := by kernel_rfl
theorem ar_42 : tyArr Try.prog 42 = some (3, 1) := by kernel_rfl
theorem ar_46 : tyArr Try.prog 46 = some (3, 36) := by kernel_rfl
theorem ar_51 : tyArr Try.prog 51 = some (9, 1) := by kernel_rfl
theorem ar_86 : tyArr Try.prog 86 = some (32, 1) := by kernel_rfl
theorem ar_98 : tyArr Try.prog 98 = some (17, 1) := by kernel_rfl
theorem bo_4 : tyBool Try.prog 4 = true := by kernel_rfl
theorem eg_22 : Try.prog.eqGuardType Try.prog.depth 22 = false := by kernel_rfl
theorem eg_26 : Try.prog.eqGuardType Try.prog.depth 26 = false := by kernel_rfl
theorem eg_31 : Try.prog.eqGuardType Try.prog.depth 31 = false := by kernel_rfl
theorem eg_42 : Try.prog.eqGuardType Try.prog.depth 42 = false := by kernel_rfl
theorem eg_44 : Try.prog.eqGuardType Try.prog.depth 44 = false := by kernel_rfl
theorem eg_46 : Try.prog.eqGuardType Try.prog.depth 46 = false := by kernel_rfl
theorem eg_51 : Try.prog.eqGuardType Try.prog.depth 51 = false := by kernel_rfl
theorem el_22 : tyEl Try.prog 22 = some (4, 1, false) := by kernel_rfl
theorem el_26 : tyEl Try.prog 26 = some (4, 1, false) := by kernel_rfl
theorem el_34 : tyEl Try.prog 34 = some (4, 18, true) := by kernel_rfl
theorem el_42 : tyEl Try.prog 42 = some (3, 1, false) := by kernel_rfl
theorem en_4 : entersB Try.prog 4 = true := by kernel_rfl
theorem en_5 : entersB Try.prog 5 = true := by kernel_rfl
theorem en_6 : entersB Try.prog 6 = true := by kernel_rfl
theorem en_7 : entersB Try.prog 7 = true := by kernel_rfl
theorem en_8 : entersB Try.prog 8 = true := by kernel_rfl
theorem en_9 : entersB Try.prog 9 = true := by kernel_rfl
theorem en_10 : entersB Try.prog 10 = true := by kernel_rfl
theorem en_11 : entersB Try.prog 11 = true := by kernel_rfl
theorem en_12 : entersB Try.prog 12 = true := by kernel_rfl
theorem en_13 : entersB Try.prog 13 = true := by kernel_rfl
theorem en_14 : entersB Try.prog 14 = true := by kernel_rfl
theorem en_15 : entersB Try.prog 15 = true := by kernel_rfl
theorem en_16 : entersB Try.prog 16 = true := by kernel_rfl
theorem en_17 : entersB Try.prog 17 = true := by kernel_rfl
theorem en_18 : entersB Try.prog 18 = true := by kernel_rfl
theorem en_19 : entersB Try.prog 19 = true := by kernel_rfl
theorem en_20 : entersB Try.prog 20 = true := by kernel_rfl
theorem en_21 : entersB Try.prog 21 = true := by kernel_rfl
theorem en_22 : entersB Try.prog 22 = true := by kernel_rfl
theorem en_23 : entersB Try.prog 23 = true := by kernel_rfl
theorem en_24 : entersB Try.prog 24 = true := by kernel_rfl
theorem en_25 : entersB Try.prog 25 = true := by kernel_rfl
theorem en_26 : entersB Try.prog 26 = true := by kernel_rfl
theorem en_27 : entersB Try.prog 27 = true := by kernel_rfl
theorem en_28 : entersB Try.prog 28 = true := by kernel_rfl
theorem en_29 : entersB Try.prog 29 = true := by kernel_rfl
theorem en_30 : entersB Try.prog 30 = true := by kernel_rfl
theorem en_31 : entersB Try.prog 31 = true := by kernel_rfl
theorem en_32 : entersB Try.prog 32 = true := by kernel_rfl
theorem en_33 : entersB Try.prog 33 = true := by kernel_rfl
theorem en_34 : entersB Try.prog 34 = true := by kernel_rfl
theorem en_35 : entersB Try.prog 35 = true := by kernel_rfl
theorem en_36 : entersB Try.prog 36 = true := by kernel_rfl
theorem en_37 : entersB Try.prog 37 = true := by kernel_rfl
theorem en_38 : entersB Try.prog 38 = true := by kernel_rfl
theorem en_39 : entersB Try.prog 39 = true := by kernel_rfl
theorem en_40 : entersB Try.prog 40 = true := by kernel_rfl
theorem en_41 : entersB Try.prog 41 = true := by kernel_rfl
theorem en_42 : entersB Try.prog 42 = true := by kernel_rfl
theorem en_43 : entersB Try.prog 43 = true := by kernel_rfl
theorem en_44 : entersB Try.prog 44 = true := by kernel_rfl
theorem en_45 : entersB Try.prog 45 = true := by kernel_rfl
theorem en_46 : entersB Try.prog 46 = true := by kernel_rfl
theorem en_47 : entersB Try.prog 47 = true := by kernel_rfl
theorem en_48 : entersB Try.prog 48 = true := by kernel_rfl
theorem en_49 : entersB Try.prog 49 = true := by kernel_rfl
theorem en_50 : entersB Try.prog 50 = true := by kernel_rfl
theorem en_51 : entersB Try.prog 51 = true := by kernel_rfl
theorem en_52 : entersB Try.prog 52 = true := by kernel_rfl
theorem en_53 : entersB Try.prog 53 = true := by kernel_rfl
theorem en_54 : entersB Try.prog 54 = true := by kernel_rfl
theorem en_55 : entersB Try.prog 55 = true := by kernel_rfl
theorem en_56 : entersB Try.prog 56 = true := by kernel_rfl
theorem en_57 : entersB Try.prog 57 = true := by kernel_rfl
theorem en_58 : entersB Try.prog 58 = true := by kernel_rfl
theorem en_59 : entersB Try.prog 59 = true := by kernel_rfl
theorem en_60 : entersB Try.prog 60 = true := by kernel_rfl
theorem en_61 : entersB Try.prog 61 = true := by kernel_rfl
theorem en_62 : entersB Try.prog 62 = true := by kernel_rfl
theorem en_63 : entersB Try.prog 63 = true := by kernel_rfl
theorem en_64 : entersB Try.prog 64 = true := by kernel_rfl
theorem en_65 : entersB Try.prog 65 = true := by kernel_rfl
theorem en_66 : entersB Try.prog 66 = true := by kernel_rfl
theorem en_67 : entersB Try.prog 67 = true := by kernel_rfl
theorem en_68 : entersB Try.prog 68 = true := by kernel_rfl
theorem en_69 : entersB Try.prog 69 = true := by kernel_rfl
theorem en_70 : entersB Try.prog 70 = true := by kernel_rfl
theorem en_71 : entersB Try.prog 71 = true := by kernel_rfl
theorem en_72 : entersB Try.prog 72 = true := by kernel_rfl
theorem en_73 : entersB Try.prog 73 = true := by kernel_rfl
theorem en_74 : entersB Try.prog 74 = true := by kernel_rfl
theorem en_75 : entersB Try.prog 75 = true := by kernel_rfl
theorem en_76 : entersB Try.prog 76 = true := by kernel_rfl
theorem en_77 : entersB Try.prog 77 = true := by kernel_rfl
theorem en_78 : entersB Try.prog 78 = true := by kernel_rfl
theorem fd_33_0 : tyField Try.prog 33 0 = some (0, 1) := by kernel_rfl
theorem fd_33_1 : tyField Try.prog 33 1 = some (1, 1) := by kernel_rfl
theorem fd_33_2 : tyField Try.prog 33 2 = some (2, 16) := by kernel_rfl
theorem in_3 : tyInt Try.prog 3 = some .i64 := by kernel_rfl
theorem in_5 : tyInt Try.prog 5 = some .u8 := by kernel_rfl
theorem in_23 : tyInt Try.prog 23 = some .i8 := by kernel_rfl
theorem in_30 : tyInt Try.prog 30 = some .u32 := by kernel_rfl
theorem in_69 : tyInt Try.prog 69 = some .u64 := by kernel_rfl
theorem lv_31 : leaves Try.prog 8 31 = some (true, (List.replicate 16 (some IntKind.u32))) := by kernel_rfl
theorem lw_22 : leaves Try.prog 8 22 = some (true, ([some .i64] ++ ([some .i64] ++ ([some .i64] ++ [some .i64])))) := by kernel_rfl
theorem lw_26 : leaves Try.prog 8 26 = some (true, ([some .i64] ++ ([some .i64] ++ ([some .i64] ++ [some .i64])))) := by kernel_rfl
theorem lw_42 : leaves Try.prog 8 42 = some (true, ([some .i64] ++ ([some .i64] ++ [some .i64]))) := by kernel_rfl
theorem lw_44 : leaves Try.prog 8 44 = some (true, (LI ++ LI)) := by kernel_rfl
theorem lw_46 : leaves Try.prog 8 46 = some (true, (LI ++ (LI ++ (LI ++ (LI ++ (LI ++ LI)))))) := by kernel_rfl
theorem lw_51 : leaves Try.prog 8 51 = some (true, ([some .i64] ++ ([some .i64] ++ ([some .i64] ++ ([some .i64] ++ ([some .i64] ++ ([some .i64] ++ ([some .i64] ++ ([some .i64] ++ [some .i64]))))))))) := by kernel_rfl
theorem on_3 : tyOne Try.prog 3 = true := by kernel_rfl
theorem pl_33 : tyPlaces Try.prog 33 = some [(0, 1), (1, 1), (2, 16)] := by kernel_rfl
theorem pl_44 : tyPlaces Try.prog 44 = some [(0, 18), (18, 18)] := by kernel_rfl
theorem sl_87 : tySlice Try.prog 87 = some 1 := by kernel_rfl
theorem sl_88 : tySlice Try.prog 88 = some 1 := by kernel_rfl
theorem sl_94 : tySlice Try.prog 94 = some 18 := by kernel_rfl
theorem st_9 : Try.prog.underlying 9 = some .string := by kernel_rfl
theorem sz_3 : (Try.prog.info? 3).map (·.size) = some 1 := by kernel_rfl
theorem sz_33 : (Try.prog.info? 33).map (·.size) = some 18 := by kernel_rfl
theorem ty_3 : tyOf Try.prog 3 = some (false, 1) := by kernel_rfl
theorem ty_4 : tyOf Try.prog 4 = some (false, 1) := by kernel_rfl
theorem ty_22 : tyOf Try.prog 22 = some (true, 4) := by kernel_rfl
theorem ty_26 : tyOf Try.prog 26 = some (true, 4) := by kernel_rfl
theorem ty_30 : tyOf Try.prog 30 = some (false, 1) := by kernel_rfl
theorem ty_31 : tyOf Try.prog 31 = some (true, 16) := by kernel_rfl
theorem ty_33 : tyOf Try.prog 33 = some (true, 18) := by kernel_rfl
theorem ty_34 : tyOf Try.prog 34 = some (true, 72) := by kernel_rfl
theorem ty_42 : tyOf Try.prog 42 = some (true, 3) := by kernel_rfl
theorem ty_44 : tyOf Try.prog 44 = some (true, 36) := by kernel_rfl
theorem ty_46 : tyOf Try.prog 46 = some (true, 108) := by kernel_rfl
theorem ty_51 : tyOf Try.prog 51 = some (true, 9) := by kernel_rfl
theorem us_88 : Try.prog.underlying 88 = some (.slice 3) := by kernel_rfl
theorem us_94 : Try.prog.underlying 94 = some (.slice 33) := by kernel_rfl
theorem z_3 : tyZero Try.prog 3 = some [.int .i64 0] := by kernel_rfl
theorem z_31 : tyZero Try.prog 31 = some (uw (List.replicate 16 0)) := by kernel_rfl
theorem z_33 : tyZero Try.prog 33 = some zR := by kernel_rfl
theorem z_86 : tyZero Try.prog 86 = some (uw (List.replicate 32 0)) := by kernel_rfl
theorem z_98 : tyZero Try.prog 98 = some (uw (List.replicate 17 0)) := by kernel_rfl
theorem zp_22 : tyZero Try.prog 22 = some (flat [ci .i64 0, ci .i64 0, ci .i64 0, ci .i64 0]) := by kernel_rfl
theorem zp_26 : tyZero Try.prog 26 = some (flat [ci .i64 0, ci .i64 0, ci .i64 0, ci .i64 0]) := by kernel_rfl
theorem zp_33 : tyZero Try.prog 33 = some (flat [pI I0]) := by kernel_rfl
theorem zp_34 : tyZero Try.prog 34 = some (flat [pI I0, pI I0, pI I0, pI I0]) := by kernel_rfl
theorem zp_42 : tyZero Try.prog 42 = some (flat [ci .i64 0, ci .i64 0, ci .i64 0]) := by kernel_rfl
theorem zp_44 : tyZero Try.prog 44 = some (flat [pI I0, pI I0]) := by kernel_rfl
theorem zp_46 : tyZero Try.prog 46 = some (flat [pI I0, pI I0, pI I0, pI I0, pI I0, pI I0]) := by kernel_rfl
theorem zp_51 : tyZero Try.prog 51 = some (flat [ci .i64 0, ci .i64 0, ci .i64 0, ci .i64 0, ci .i64 0, ci .i64 0, ci .i64 0, ci .i64 0, ci .i64 0]) := by kernel_rfl
end Go.Proofs.Ytnfbkngfdemkpaa
