/- Closed facts of the program's types and functions. -/
import Derived.Test.YthbjhbmpfeeilaaGreatProg
import Derived.Test.YthbjhbmpfeeilaaGreatGD
set_option linter.unusedVariables false
set_option linter.unusedSimpArgs false
namespace Go.Proofs.YthbjhbmpfeeilaaGreat
open Go.Kn Go.Num
theorem mix : Tryz.prog.follows .mixedOrders = true := by kernel_rfl
theorem ar_23 : tyArr Tryz.prog 23 = some (16, 1) := by kernel_rfl
theorem ar_29 : tyArr Tryz.prog 29 = some (3, 36) := by kernel_rfl
theorem ar_31 : tyArr Tryz.prog 31 = some (3, 1) := by kernel_rfl
theorem ar_45 : tyArr Tryz.prog 45 = some (3, 18) := by kernel_rfl
theorem ar_79 : tyArr Tryz.prog 79 = some (2, 18) := by kernel_rfl
theorem ar_98 : tyArr Tryz.prog 98 = some (32, 1) := by kernel_rfl
theorem ar_108 : tyArr Tryz.prog 108 = some (17, 1) := by kernel_rfl
theorem bo_4 : tyBool Tryz.prog 4 = true := by kernel_rfl
theorem eg_23 : Tryz.prog.eqGuardType Tryz.prog.depth 23 = false := by kernel_rfl
theorem eg_25 : Tryz.prog.eqGuardType Tryz.prog.depth 25 = false := by kernel_rfl
theorem eg_27 : Tryz.prog.eqGuardType Tryz.prog.depth 27 = false := by kernel_rfl
theorem eg_29 : Tryz.prog.eqGuardType Tryz.prog.depth 29 = false := by kernel_rfl
theorem eg_31 : Tryz.prog.eqGuardType Tryz.prog.depth 31 = false := by kernel_rfl
theorem eg_45 : Tryz.prog.eqGuardType Tryz.prog.depth 45 = false := by kernel_rfl
theorem el_31 : tyEl Tryz.prog 31 = some (3, 1, false) := by kernel_rfl
theorem el_45 : tyEl Tryz.prog 45 = some (3, 18, true) := by kernel_rfl
theorem en_4 : entersB Tryz.prog 4 = true := by kernel_rfl
theorem en_5 : entersB Tryz.prog 5 = true := by kernel_rfl
theorem en_6 : entersB Tryz.prog 6 = true := by kernel_rfl
theorem en_7 : entersB Tryz.prog 7 = true := by kernel_rfl
theorem en_8 : entersB Tryz.prog 8 = true := by kernel_rfl
theorem en_9 : entersB Tryz.prog 9 = true := by kernel_rfl
theorem en_10 : entersB Tryz.prog 10 = true := by kernel_rfl
theorem en_11 : entersB Tryz.prog 11 = true := by kernel_rfl
theorem en_12 : entersB Tryz.prog 12 = true := by kernel_rfl
theorem en_13 : entersB Tryz.prog 13 = true := by kernel_rfl
theorem en_14 : entersB Tryz.prog 14 = true := by kernel_rfl
theorem en_15 : entersB Tryz.prog 15 = true := by kernel_rfl
theorem en_16 : entersB Tryz.prog 16 = true := by kernel_rfl
theorem en_17 : entersB Tryz.prog 17 = true := by kernel_rfl
theorem en_18 : entersB Tryz.prog 18 = true := by kernel_rfl
theorem en_19 : entersB Tryz.prog 19 = true := by kernel_rfl
theorem en_20 : entersB Tryz.prog 20 = true := by kernel_rfl
theorem en_21 : entersB Tryz.prog 21 = true := by kernel_rfl
theorem en_22 : entersB Tryz.prog 22 = true := by kernel_rfl
theorem en_23 : entersB Tryz.prog 23 = true := by kernel_rfl
theorem en_24 : entersB Tryz.prog 24 = true := by kernel_rfl
theorem en_25 : entersB Tryz.prog 25 = true := by kernel_rfl
theorem en_26 : entersB Tryz.prog 26 = true := by kernel_rfl
theorem en_27 : entersB Tryz.prog 27 = true := by kernel_rfl
theorem en_28 : entersB Tryz.prog 28 = true := by kernel_rfl
theorem en_29 : entersB Tryz.prog 29 = true := by kernel_rfl
theorem en_30 : entersB Tryz.prog 30 = true := by kernel_rfl
theorem en_31 : entersB Tryz.prog 31 = true := by kernel_rfl
theorem en_32 : entersB Tryz.prog 32 = true := by kernel_rfl
theorem en_33 : entersB Tryz.prog 33 = true := by kernel_rfl
theorem en_34 : entersB Tryz.prog 34 = true := by kernel_rfl
theorem en_35 : entersB Tryz.prog 35 = true := by kernel_rfl
theorem en_36 : entersB Tryz.prog 36 = true := by kernel_rfl
theorem en_37 : entersB Tryz.prog 37 = true := by kernel_rfl
theorem en_38 : entersB Tryz.prog 38 = true := by kernel_rfl
theorem en_39 : entersB Tryz.prog 39 = true := by kernel_rfl
theorem en_40 : entersB Tryz.prog 40 = true := by kernel_rfl
theorem en_41 : entersB Tryz.prog 41 = true := by kernel_rfl
theorem en_42 : entersB Tryz.prog 42 = true := by kernel_rfl
theorem en_43 : entersB Tryz.prog 43 = true := by kernel_rfl
theorem en_44 : entersB Tryz.prog 44 = true := by kernel_rfl
theorem en_45 : entersB Tryz.prog 45 = true := by kernel_rfl
theorem en_46 : entersB Tryz.prog 46 = true := by kernel_rfl
theorem en_47 : entersB Tryz.prog 47 = true := by kernel_rfl
theorem en_48 : entersB Tryz.prog 48 = true := by kernel_rfl
theorem en_49 : entersB Tryz.prog 49 = true := by kernel_rfl
theorem en_50 : entersB Tryz.prog 50 = true := by kernel_rfl
theorem en_51 : entersB Tryz.prog 51 = true := by kernel_rfl
theorem en_52 : entersB Tryz.prog 52 = true := by kernel_rfl
theorem en_53 : entersB Tryz.prog 53 = true := by kernel_rfl
theorem en_54 : entersB Tryz.prog 54 = true := by kernel_rfl
theorem en_55 : entersB Tryz.prog 55 = true := by kernel_rfl
theorem en_56 : entersB Tryz.prog 56 = true := by kernel_rfl
theorem en_57 : entersB Tryz.prog 57 = true := by kernel_rfl
theorem en_58 : entersB Tryz.prog 58 = true := by kernel_rfl
theorem en_59 : entersB Tryz.prog 59 = true := by kernel_rfl
theorem en_60 : entersB Tryz.prog 60 = true := by kernel_rfl
theorem en_61 : entersB Tryz.prog 61 = true := by kernel_rfl
theorem en_62 : entersB Tryz.prog 62 = true := by kernel_rfl
theorem en_63 : entersB Tryz.prog 63 = true := by kernel_rfl
theorem en_64 : entersB Tryz.prog 64 = true := by kernel_rfl
theorem en_65 : entersB Tryz.prog 65 = true := by kernel_rfl
theorem en_66 : entersB Tryz.prog 66 = true := by kernel_rfl
theorem en_67 : entersB Tryz.prog 67 = true := by kernel_rfl
theorem en_68 : entersB Tryz.prog 68 = true := by kernel_rfl
theorem en_69 : entersB Tryz.prog 69 = true := by kernel_rfl
theorem en_70 : entersB Tryz.prog 70 = true := by kernel_rfl
theorem en_71 : entersB Tryz.prog 71 = true := by kernel_rfl
theorem en_72 : entersB Tryz.prog 72 = true := by kernel_rfl
theorem en_73 : entersB Tryz.prog 73 = true := by kernel_rfl
theorem en_74 : entersB Tryz.prog 74 = true := by kernel_rfl
theorem en_75 : entersB Tryz.prog 75 = true := by kernel_rfl
theorem en_76 : entersB Tryz.prog 76 = true := by kernel_rfl
theorem en_77 : entersB Tryz.prog 77 = true := by kernel_rfl
theorem en_78 : entersB Tryz.prog 78 = true := by kernel_rfl
theorem en_79 : entersB Tryz.prog 79 = true := by kernel_rfl
theorem en_80 : entersB Tryz.prog 80 = true := by kernel_rfl
theorem en_81 : entersB Tryz.prog 81 = true := by kernel_rfl
theorem en_82 : entersB Tryz.prog 82 = true := by kernel_rfl
theorem en_83 : entersB Tryz.prog 83 = true := by kernel_rfl
theorem en_84 : entersB Tryz.prog 84 = true := by kernel_rfl
theorem en_85 : entersB Tryz.prog 85 = true := by kernel_rfl
theorem en_86 : entersB Tryz.prog 86 = true := by kernel_rfl
theorem en_87 : entersB Tryz.prog 87 = true := by kernel_rfl
theorem en_88 : entersB Tryz.prog 88 = true := by kernel_rfl
theorem en_89 : entersB Tryz.prog 89 = true := by kernel_rfl
theorem en_90 : entersB Tryz.prog 90 = true := by kernel_rfl
theorem en_91 : entersB Tryz.prog 91 = true := by kernel_rfl
theorem en_92 : entersB Tryz.prog 92 = true := by kernel_rfl
theorem en_93 : entersB Tryz.prog 93 = true := by kernel_rfl
theorem en_94 : entersB Tryz.prog 94 = true := by kernel_rfl
theorem en_95 : entersB Tryz.prog 95 = true := by kernel_rfl
theorem en_96 : entersB Tryz.prog 96 = true := by kernel_rfl
theorem en_97 : entersB Tryz.prog 97 = true := by kernel_rfl
theorem en_98 : entersB Tryz.prog 98 = true := by kernel_rfl
theorem en_99 : entersB Tryz.prog 99 = true := by kernel_rfl
theorem en_100 : entersB Tryz.prog 100 = true := by kernel_rfl
theorem en_101 : entersB Tryz.prog 101 = true := by kernel_rfl
theorem en_102 : entersB Tryz.prog 102 = true := by kernel_rfl
theorem en_103 : entersB Tryz.prog 103 = true := by kernel_rfl
theorem en_104 : entersB Tryz.prog 104 = true := by kernel_rfl
theorem en_105 : entersB Tryz.prog 105 = true := by kernel_rfl
theorem en_106 : entersB Tryz.prog 106 = true := by kernel_rfl
theorem en_107 : entersB Tryz.prog 107 = true := by kernel_rfl
theorem en_108 : entersB Tryz.prog 108 = true := by kernel_rfl
theorem en_109 : entersB Tryz.prog 109 = true := by kernel_rfl
theorem en_110 : entersB Tryz.prog 110 = true := by kernel_rfl
theorem en_111 : entersB Tryz.prog 111 = true := by kernel_rfl
theorem en_112 : entersB Tryz.prog 112 = true := by kernel_rfl
theorem en_113 : entersB Tryz.prog 113 = true := by kernel_rfl
theorem en_114 : entersB Tryz.prog 114 = true := by kernel_rfl
theorem en_115 : entersB Tryz.prog 115 = true := by kernel_rfl
theorem en_116 : entersB Tryz.prog 116 = true := by kernel_rfl
theorem en_117 : entersB Tryz.prog 117 = true := by kernel_rfl
theorem en_118 : entersB Tryz.prog 118 = true := by kernel_rfl
theorem en_119 : entersB Tryz.prog 119 = true := by kernel_rfl
theorem en_120 : entersB Tryz.prog 120 = true := by kernel_rfl
theorem fd_25_0 : tyField Tryz.prog 25 0 = some (0, 1) := by kernel_rfl
theorem fd_25_1 : tyField Tryz.prog 25 1 = some (1, 1) := by kernel_rfl
theorem fd_25_2 : tyField Tryz.prog 25 2 = some (2, 16) := by kernel_rfl
theorem fd_27_0 : tyField Tryz.prog 27 0 = some (0, 18) := by kernel_rfl
theorem fd_27_1 : tyField Tryz.prog 27 1 = some (18, 18) := by kernel_rfl
theorem in_3 : tyInt Tryz.prog 3 = some .i64 := by kernel_rfl
theorem in_5 : tyInt Tryz.prog 5 = some .u8 := by kernel_rfl
theorem in_22 : tyInt Tryz.prog 22 = some .u32 := by kernel_rfl
theorem in_85 : tyInt Tryz.prog 85 = some .u64 := by kernel_rfl
theorem lv_23 : leaves Tryz.prog 8 23 = some (true, (List.replicate 16 (some IntKind.u32))) := by kernel_rfl
theorem lw_25 : leaves Tryz.prog 8 25 = some (true, LI) := by kernel_rfl
theorem lw_27 : leaves Tryz.prog 8 27 = some (true, (LI ++ LI)) := by kernel_rfl
theorem lw_29 : leaves Tryz.prog 8 29 = some (true, (LI ++ (LI ++ (LI ++ (LI ++ (LI ++ LI)))))) := by kernel_rfl
theorem lw_31 : leaves Tryz.prog 8 31 = some (true, ([some .i64] ++ ([some .i64] ++ [some .i64]))) := by kernel_rfl
theorem lw_45 : leaves Tryz.prog 8 45 = some (true, (LI ++ (LI ++ LI))) := by kernel_rfl
theorem on_3 : tyOne Tryz.prog 3 = true := by kernel_rfl
theorem pl_25 : tyPlaces Tryz.prog 25 = some [(0, 1), (1, 1), (2, 16)] := by kernel_rfl
theorem pl_27 : tyPlaces Tryz.prog 27 = some [(0, 18), (18, 18)] := by kernel_rfl
theorem sl_68 : tySlice Tryz.prog 68 = some 1 := by kernel_rfl
theorem sl_99 : tySlice Tryz.prog 99 = some 1 := by kernel_rfl
theorem sl_103 : tySlice Tryz.prog 103 = some 18 := by kernel_rfl
theorem st_9 : Tryz.prog.underlying 9 = some .string := by kernel_rfl
theorem sz_3 : (Tryz.prog.info? 3).map (·.size) = some 1 := by kernel_rfl
theorem sz_25 : (Tryz.prog.info? 25).map (·.size) = some 18 := by kernel_rfl
theorem ty_3 : tyOf Tryz.prog 3 = some (false, 1) := by kernel_rfl
theorem ty_4 : tyOf Tryz.prog 4 = some (false, 1) := by kernel_rfl
theorem ty_22 : tyOf Tryz.prog 22 = some (false, 1) := by kernel_rfl
theorem ty_23 : tyOf Tryz.prog 23 = some (true, 16) := by kernel_rfl
theorem ty_25 : tyOf Tryz.prog 25 = some (true, 18) := by kernel_rfl
theorem ty_27 : tyOf Tryz.prog 27 = some (true, 36) := by kernel_rfl
theorem ty_29 : tyOf Tryz.prog 29 = some (true, 108) := by kernel_rfl
theorem ty_31 : tyOf Tryz.prog 31 = some (true, 3) := by kernel_rfl
theorem ty_45 : tyOf Tryz.prog 45 = some (true, 54) := by kernel_rfl
theorem ty_79 : tyOf Tryz.prog 79 = some (true, 36) := by kernel_rfl
theorem us_68 : Tryz.prog.underlying 68 = some (.slice 3) := by kernel_rfl
theorem us_103 : Tryz.prog.underlying 103 = some (.slice 25) := by kernel_rfl
theorem z_3 : tyZero Tryz.prog 3 = some [.int .i64 0] := by kernel_rfl
theorem z_23 : tyZero Tryz.prog 23 = some (uw (List.replicate 16 0)) := by kernel_rfl
theorem z_25 : tyZero Tryz.prog 25 = some zR := by kernel_rfl
theorem z_98 : tyZero Tryz.prog 98 = some (uw (List.replicate 32 0)) := by kernel_rfl
theorem z_108 : tyZero Tryz.prog 108 = some (uw (List.replicate 17 0)) := by kernel_rfl
theorem zp_25 : tyZero Tryz.prog 25 = some (flat [pI I0]) := by kernel_rfl
theorem zp_27 : tyZero Tryz.prog 27 = some (flat [pI I0, pI I0]) := by kernel_rfl
theorem zp_29 : tyZero Tryz.prog 29 = some (flat [pI I0, pI I0, pI I0, pI I0, pI I0, pI I0]) := by kernel_rfl
theorem zp_31 : tyZero Tryz.prog 31 = some (flat [ci .i64 0, ci .i64 0, ci .i64 0]) := by kernel_rfl
theorem zp_45 : tyZero Tryz.prog 45 = some (flat [pI I0, pI I0, pI I0]) := by kernel_rfl
theorem zp_79 : tyZero Tryz.prog 79 = some (flat [pI I0, pI I0]) := by kernel_rfl
end Go.Proofs.YthbjhbmpfeeilaaGreat
