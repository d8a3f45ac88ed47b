/- Closed facts of the program's types and functions. -/
import Derived.Test.YthbjhbmpfeeilaaProg
import Derived.Test.YthbjhbmpfeeilaaTy
set_option linter.unusedVariables false
set_option linter.unusedSimpArgs false
namespace Go.Proofs.Ythbjhbmpfeeilaa
open Go.Kn Go.Num
theorem mix : Try.prog.follows .mixedOrders = true := by kernel_rfl
theorem ar_23 : tyArr Try.prog 23 = some (3, 1) := by kernel_rfl
theorem ar_26 : tyArr Try.prog 26 = some (16, 1) := by kernel_rfl
theorem ar_30 : tyArr Try.prog 30 = some (3, 18) := by kernel_rfl
theorem ar_57 : tyArr Try.prog 57 = some (3, 36) := by kernel_rfl
theorem ar_102 : tyArr Try.prog 102 = some (32, 1) := by kernel_rfl
theorem ar_109 : tyArr Try.prog 109 = some (17, 1) := by kernel_rfl
theorem bo_4 : tyBool Try.prog 4 = true := by kernel_rfl
theorem eg_23 : Try.prog.eqGuardType Try.prog.depth 23 = false := by kernel_rfl
theorem eg_26 : Try.prog.eqGuardType Try.prog.depth 26 = false := by kernel_rfl
theorem eg_28 : Try.prog.eqGuardType Try.prog.depth 28 = false := by kernel_rfl
theorem eg_30 : Try.prog.eqGuardType Try.prog.depth 30 = false := by kernel_rfl
theorem eg_55 : Try.prog.eqGuardType Try.prog.depth 55 = false := by kernel_rfl
theorem eg_57 : Try.prog.eqGuardType Try.prog.depth 57 = false := by kernel_rfl
theorem el_23 : tyEl Try.prog 23 = some (3, 1, false) := by kernel_rfl
theorem el_30 : tyEl Try.prog 30 = some (3, 18, true) := by kernel_rfl
theorem en_9 : entersB Try.prog 9 = true := by kernel_rfl
theorem en_10 : entersB Try.prog 10 = true := by kernel_rfl
theorem en_11 : entersB Try.prog 11 = true := by kernel_rfl
theorem en_12 : entersB Try.prog 12 = true := by kernel_rfl
theorem en_13 : entersB Try.prog 13 = true := by kernel_rfl
theorem en_14 : entersB Try.prog 14 = true := by kernel_rfl
theorem en_15 : entersB Try.prog 15 = true := by kernel_rfl
theorem en_16 : entersB Try.prog 16 = true := by kernel_rfl
theorem en_17 : entersB Try.prog 17 = true := by kernel_rfl
theorem en_18 : entersB Try.prog 18 = true := by kernel_rfl
theorem en_19 : entersB Try.prog 19 = true := by kernel_rfl
theorem en_20 : entersB Try.prog 20 = true := by kernel_rfl
theorem en_21 : entersB Try.prog 21 = true := by kernel_rfl
theorem en_22 : entersB Try.prog 22 = true := by kernel_rfl
theorem en_23 : entersB Try.prog 23 = true := by kernel_rfl
theorem en_24 : entersB Try.prog 24 = true := by kernel_rfl
theorem en_25 : entersB Try.prog 25 = true := by kernel_rfl
theorem en_26 : entersB Try.prog 26 = true := by kernel_rfl
theorem en_27 : entersB Try.prog 27 = true := by kernel_rfl
theorem en_28 : entersB Try.prog 28 = true := by kernel_rfl
theorem en_29 : entersB Try.prog 29 = true := by kernel_rfl
theorem en_30 : entersB Try.prog 30 = true := by kernel_rfl
theorem en_31 : entersB Try.prog 31 = true := by kernel_rfl
theorem en_32 : entersB Try.prog 32 = true := by kernel_rfl
theorem en_33 : entersB Try.prog 33 = true := by kernel_rfl
theorem en_34 : entersB Try.prog 34 = true := by kernel_rfl
theorem en_35 : entersB Try.prog 35 = true := by kernel_rfl
theorem en_36 : entersB Try.prog 36 = true := by kernel_rfl
theorem en_37 : entersB Try.prog 37 = true := by kernel_rfl
theorem en_38 : entersB Try.prog 38 = true := by kernel_rfl
theorem en_39 : entersB Try.prog 39 = true := by kernel_rfl
theorem en_40 : entersB Try.prog 40 = true := by kernel_rfl
theorem en_41 : entersB Try.prog 41 = true := by kernel_rfl
theorem en_42 : entersB Try.prog 42 = true := by kernel_rfl
theorem en_43 : entersB Try.prog 43 = true := by kernel_rfl
theorem en_44 : entersB Try.prog 44 = true := by kernel_rfl
theorem en_45 : entersB Try.prog 45 = true := by kernel_rfl
theorem en_46 : entersB Try.prog 46 = true := by kernel_rfl
theorem en_47 : entersB Try.prog 47 = true := by kernel_rfl
theorem en_48 : entersB Try.prog 48 = true := by kernel_rfl
theorem en_49 : entersB Try.prog 49 = true := by kernel_rfl
theorem en_50 : entersB Try.prog 50 = true := by kernel_rfl
theorem en_51 : entersB Try.prog 51 = true := by kernel_rfl
theorem en_52 : entersB Try.prog 52 = true := by kernel_rfl
theorem en_53 : entersB Try.prog 53 = true := by kernel_rfl
theorem en_54 : entersB Try.prog 54 = true := by kernel_rfl
theorem en_55 : entersB Try.prog 55 = true := by kernel_rfl
theorem en_56 : entersB Try.prog 56 = true := by kernel_rfl
theorem en_57 : entersB Try.prog 57 = true := by kernel_rfl
theorem en_58 : entersB Try.prog 58 = true := by kernel_rfl
theorem en_59 : entersB Try.prog 59 = true := by kernel_rfl
theorem en_60 : entersB Try.prog 60 = true := by kernel_rfl
theorem en_61 : entersB Try.prog 61 = true := by kernel_rfl
theorem en_62 : entersB Try.prog 62 = true := by kernel_rfl
theorem en_63 : entersB Try.prog 63 = true := by kernel_rfl
theorem en_64 : entersB Try.prog 64 = true := by kernel_rfl
theorem en_65 : entersB Try.prog 65 = true := by kernel_rfl
theorem en_66 : entersB Try.prog 66 = true := by kernel_rfl
theorem en_67 : entersB Try.prog 67 = true := by kernel_rfl
theorem en_68 : entersB Try.prog 68 = true := by kernel_rfl
theorem en_69 : entersB Try.prog 69 = true := by kernel_rfl
theorem en_70 : entersB Try.prog 70 = true := by kernel_rfl
theorem en_71 : entersB Try.prog 71 = true := by kernel_rfl
theorem en_72 : entersB Try.prog 72 = true := by kernel_rfl
theorem en_73 : entersB Try.prog 73 = true := by kernel_rfl
theorem en_74 : entersB Try.prog 74 = true := by kernel_rfl
theorem en_75 : entersB Try.prog 75 = true := by kernel_rfl
theorem en_76 : entersB Try.prog 76 = true := by kernel_rfl
theorem en_77 : entersB Try.prog 77 = true := by kernel_rfl
theorem en_78 : entersB Try.prog 78 = true := by kernel_rfl
theorem en_79 : entersB Try.prog 79 = true := by kernel_rfl
theorem en_80 : entersB Try.prog 80 = true := by kernel_rfl
theorem en_81 : entersB Try.prog 81 = true := by kernel_rfl
theorem en_82 : entersB Try.prog 82 = true := by kernel_rfl
theorem en_83 : entersB Try.prog 83 = true := by kernel_rfl
theorem en_84 : entersB Try.prog 84 = true := by kernel_rfl
theorem en_85 : entersB Try.prog 85 = true := by kernel_rfl
theorem en_86 : entersB Try.prog 86 = true := by kernel_rfl
theorem en_87 : entersB Try.prog 87 = true := by kernel_rfl
theorem en_88 : entersB Try.prog 88 = true := by kernel_rfl
theorem en_89 : entersB Try.prog 89 = true := by kernel_rfl
theorem en_90 : entersB Try.prog 90 = true := by kernel_rfl
theorem en_91 : entersB Try.prog 91 = true := by kernel_rfl
theorem en_92 : entersB Try.prog 92 = true := by kernel_rfl
theorem en_93 : entersB Try.prog 93 = true := by kernel_rfl
theorem en_94 : entersB Try.prog 94 = true := by kernel_rfl
theorem en_95 : entersB Try.prog 95 = true := by kernel_rfl
theorem en_96 : entersB Try.prog 96 = true := by kernel_rfl
theorem en_97 : entersB Try.prog 97 = true := by kernel_rfl
theorem en_98 : entersB Try.prog 98 = true := by kernel_rfl
theorem en_99 : entersB Try.prog 99 = true := by kernel_rfl
theorem en_100 : entersB Try.prog 100 = true := by kernel_rfl
theorem en_101 : entersB Try.prog 101 = true := by kernel_rfl
theorem en_102 : entersB Try.prog 102 = true := by kernel_rfl
theorem en_103 : entersB Try.prog 103 = true := by kernel_rfl
theorem en_104 : entersB Try.prog 104 = true := by kernel_rfl
theorem en_105 : entersB Try.prog 105 = true := by kernel_rfl
theorem en_106 : entersB Try.prog 106 = true := by kernel_rfl
theorem en_107 : entersB Try.prog 107 = true := by kernel_rfl
theorem en_108 : entersB Try.prog 108 = true := by kernel_rfl
theorem en_109 : entersB Try.prog 109 = true := by kernel_rfl
theorem en_110 : entersB Try.prog 110 = true := by kernel_rfl
theorem en_111 : entersB Try.prog 111 = true := by kernel_rfl
theorem en_112 : entersB Try.prog 112 = true := by kernel_rfl
theorem en_113 : entersB Try.prog 113 = true := by kernel_rfl
theorem en_114 : entersB Try.prog 114 = true := by kernel_rfl
theorem en_115 : entersB Try.prog 115 = true := by kernel_rfl
theorem en_116 : entersB Try.prog 116 = true := by kernel_rfl
theorem fd_28_0 : tyField Try.prog 28 0 = some (0, 1) := by kernel_rfl
theorem fd_28_1 : tyField Try.prog 28 1 = some (1, 1) := by kernel_rfl
theorem fd_28_2 : tyField Try.prog 28 2 = some (2, 16) := by kernel_rfl
theorem fd_37_0 : tyField Try.prog 37 0 = some (0, 3) := by kernel_rfl
theorem fd_37_1 : tyField Try.prog 37 1 = some (3, 1) := by kernel_rfl
theorem fd_55_0 : tyField Try.prog 55 0 = some (0, 18) := by kernel_rfl
theorem fd_55_1 : tyField Try.prog 55 1 = some (18, 18) := by kernel_rfl
theorem in_3 : tyInt Try.prog 3 = some .i64 := by kernel_rfl
theorem in_5 : tyInt Try.prog 5 = some .u8 := by kernel_rfl
theorem in_25 : tyInt Try.prog 25 = some .u32 := by kernel_rfl
theorem in_78 : tyInt Try.prog 78 = some .u64 := by kernel_rfl
theorem lv_26 : leaves Try.prog 8 26 = some (true, (List.replicate 16 (some IntKind.u32))) := by kernel_rfl
theorem lw_23 : leaves Try.prog 8 23 = some (true, ([some .i64] ++ ([some .i64] ++ [some .i64]))) := by kernel_rfl
theorem lw_28 : leaves Try.prog 8 28 = some (true, LI) := by kernel_rfl
theorem lw_30 : leaves Try.prog 8 30 = some (true, (LI ++ (LI ++ LI))) := by kernel_rfl
theorem lw_55 : leaves Try.prog 8 55 = some (true, (LI ++ LI)) := by kernel_rfl
theorem lw_57 : leaves Try.prog 8 57 = some (true, (LI ++ (LI ++ (LI ++ (LI ++ (LI ++ LI)))))) := by kernel_rfl
theorem on_3 : tyOne Try.prog 3 = true := by kernel_rfl
theorem pl_28 : tyPlaces Try.prog 28 = some [(0, 1), (1, 1), (2, 16)] := by kernel_rfl
theorem pl_37 : tyPlaces Try.prog 37 = some [(0, 3), (3, 1)] := by kernel_rfl
theorem pl_55 : tyPlaces Try.prog 55 = some [(0, 18), (18, 18)] := by kernel_rfl
theorem sl_70 : tySlice Try.prog 70 = some 1 := by kernel_rfl
theorem sl_103 : tySlice Try.prog 103 = some 1 := by kernel_rfl
theorem sl_104 : tySlice Try.prog 104 = some 18 := by kernel_rfl
theorem st_9 : Try.prog.underlying 9 = some .string := by kernel_rfl
theorem sz_3 : (Try.prog.info? 3).map (·.size) = some 1 := by kernel_rfl
theorem sz_28 : (Try.prog.info? 28).map (·.size) = some 18 := by kernel_rfl
theorem ty_3 : tyOf Try.prog 3 = some (false, 1) := by kernel_rfl
theorem ty_4 : tyOf Try.prog 4 = some (false, 1) := by kernel_rfl
theorem ty_23 : tyOf Try.prog 23 = some (true, 3) := by kernel_rfl
theorem ty_25 : tyOf Try.prog 25 = some (false, 1) := by kernel_rfl
theorem ty_26 : tyOf Try.prog 26 = some (true, 16) := by kernel_rfl
theorem ty_28 : tyOf Try.prog 28 = some (true, 18) := by kernel_rfl
theorem ty_30 : tyOf Try.prog 30 = some (true, 54) := by kernel_rfl
theorem ty_33 : tyOf Try.prog 33 = some (false, 1) := by kernel_rfl
theorem ty_37 : tyOf Try.prog 37 = some (true, 4) := by kernel_rfl
theorem ty_55 : tyOf Try.prog 55 = some (true, 36) := by kernel_rfl
theorem ty_57 : tyOf Try.prog 57 = some (true, 108) := by kernel_rfl
theorem us_70 : Try.prog.underlying 70 = some (.slice 3) := by kernel_rfl
theorem us_104 : Try.prog.underlying 104 = some (.slice 28) := by kernel_rfl
theorem z_3 : tyZero Try.prog 3 = some [.int .i64 0] := by kernel_rfl
theorem z_26 : tyZero Try.prog 26 = some (uw (List.replicate 16 0)) := by kernel_rfl
theorem z_28 : tyZero Try.prog 28 = some zR := by kernel_rfl
theorem z_102 : tyZero Try.prog 102 = some (uw (List.replicate 32 0)) := by kernel_rfl
theorem z_109 : tyZero Try.prog 109 = some (uw (List.replicate 17 0)) := by kernel_rfl
theorem zp_23 : tyZero Try.prog 23 = some (flat [ci .i64 0, ci .i64 0, ci .i64 0]) := by kernel_rfl
theorem zp_28 : tyZero Try.prog 28 = some (flat [pI I0]) := by kernel_rfl
theorem zp_30 : tyZero Try.prog 30 = some (flat [pI I0, pI I0, pI I0]) := by kernel_rfl
theorem zp_37 : tyZero Try.prog 37 = some (flat [ci .i64 0, ci .i64 0, ci .i64 0, ci .i64 0]) := by kernel_rfl
theorem zp_55 : tyZero Try.prog 55 = some (flat [pI I0, pI I0]) := by kernel_rfl
theorem zp_57 : tyZero Try.prog 57 = some (flat [pI I0, pI I0, pI I0, pI I0, pI I0, pI I0]) := by kernel_rfl
end Go.Proofs.Ythbjhbmpfeeilaa
