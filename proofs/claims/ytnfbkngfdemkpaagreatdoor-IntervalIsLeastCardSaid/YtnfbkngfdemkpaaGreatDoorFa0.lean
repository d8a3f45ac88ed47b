/- Closed facts of the program's types and functions. -/
import Derived.Test.YtnfbkngfdemkpaaGreatDoorProg
import Derived.Test.YtnfbkngfdemkpaaGreatDoorGD
set_option linter.unusedVariables false
set_option linter.unusedSimpArgs false
namespace Go.Proofs.YtnfbkngfdemkpaaGreatDoor
open Go.Kn Go.Num
theorem mix : Tryz.prog.follows .mixedOrders = true := by kernel_rfl
theorem ar_24 : tyArr Tryz.prog 24 = some (16, 1) := by kernel_rfl
theorem ar_60 : tyArr Tryz.prog 60 = some (2, 72) := by kernel_rfl
theorem ar_96 : tyArr Tryz.prog 96 = some (2, 18) := by kernel_rfl
theorem ar_102 : tyArr Tryz.prog 102 = some (32, 1) := by kernel_rfl
theorem ar_134 : tyArr Tryz.prog 134 = some (17, 1) := by kernel_rfl
theorem bo_4 : tyBool Tryz.prog 4 = true := by kernel_rfl
theorem eg_24 : Tryz.prog.eqGuardType Tryz.prog.depth 24 = false := by kernel_rfl
theorem eg_26 : Tryz.prog.eqGuardType Tryz.prog.depth 26 = false := by kernel_rfl
theorem eg_28 : Tryz.prog.eqGuardType Tryz.prog.depth 28 = false := by kernel_rfl
theorem eg_31 : Tryz.prog.eqGuardType Tryz.prog.depth 31 = false := by kernel_rfl
theorem en_11 : entersB Tryz.prog 11 = true := by kernel_rfl
theorem en_12 : entersB Tryz.prog 12 = true := by kernel_rfl
theorem en_13 : entersB Tryz.prog 13 = true := by kernel_rfl
theorem en_15 : entersB Tryz.prog 15 = true := by kernel_rfl
theorem en_16 : entersB Tryz.prog 16 = true := by kernel_rfl
theorem en_17 : entersB Tryz.prog 17 = true := by kernel_rfl
theorem en_18 : entersB Tryz.prog 18 = true := by kernel_rfl
theorem en_19 : entersB Tryz.prog 19 = true := by kernel_rfl
theorem en_23 : entersB Tryz.prog 23 = true := by kernel_rfl
theorem en_25 : entersB Tryz.prog 25 = true := by kernel_rfl
theorem en_28 : entersB Tryz.prog 28 = true := by kernel_rfl
theorem en_29 : entersB Tryz.prog 29 = true := by kernel_rfl
theorem en_30 : entersB Tryz.prog 30 = true := by kernel_rfl
theorem en_31 : entersB Tryz.prog 31 = true := by kernel_rfl
theorem en_32 : entersB Tryz.prog 32 = true := by kernel_rfl
theorem en_33 : entersB Tryz.prog 33 = true := by kernel_rfl
theorem en_34 : entersB Tryz.prog 34 = true := by kernel_rfl
theorem en_35 : entersB Tryz.prog 35 = true := by kernel_rfl
theorem en_36 : entersB Tryz.prog 36 = true := by kernel_rfl
theorem en_38 : entersB Tryz.prog 38 = true := by kernel_rfl
theorem en_39 : entersB Tryz.prog 39 = true := by kernel_rfl
theorem en_45 : entersB Tryz.prog 45 = true := by kernel_rfl
theorem en_46 : entersB Tryz.prog 46 = true := by kernel_rfl
theorem en_51 : entersB Tryz.prog 51 = true := by kernel_rfl
theorem en_53 : entersB Tryz.prog 53 = true := by kernel_rfl
theorem en_55 : entersB Tryz.prog 55 = true := by kernel_rfl
theorem en_56 : entersB Tryz.prog 56 = true := by kernel_rfl
theorem en_57 : entersB Tryz.prog 57 = true := by kernel_rfl
theorem en_58 : entersB Tryz.prog 58 = true := by kernel_rfl
theorem en_59 : entersB Tryz.prog 59 = true := by kernel_rfl
theorem en_60 : entersB Tryz.prog 60 = true := by kernel_rfl
theorem en_61 : entersB Tryz.prog 61 = true := by kernel_rfl
theorem en_62 : entersB Tryz.prog 62 = true := by kernel_rfl
theorem en_63 : entersB Tryz.prog 63 = true := by kernel_rfl
theorem en_64 : entersB Tryz.prog 64 = true := by kernel_rfl
theorem en_65 : entersB Tryz.prog 65 = true := by kernel_rfl
theorem en_66 : entersB Tryz.prog 66 = true := by kernel_rfl
theorem en_67 : entersB Tryz.prog 67 = true := by kernel_rfl
theorem en_68 : entersB Tryz.prog 68 = true := by kernel_rfl
theorem en_69 : entersB Tryz.prog 69 = true := by kernel_rfl
theorem en_70 : entersB Tryz.prog 70 = true := by kernel_rfl
theorem en_71 : entersB Tryz.prog 71 = true := by kernel_rfl
theorem en_72 : entersB Tryz.prog 72 = true := by kernel_rfl
theorem en_73 : entersB Tryz.prog 73 = true := by kernel_rfl
theorem en_74 : entersB Tryz.prog 74 = true := by kernel_rfl
theorem en_75 : entersB Tryz.prog 75 = true := by kernel_rfl
theorem en_76 : entersB Tryz.prog 76 = true := by kernel_rfl
theorem en_77 : entersB Tryz.prog 77 = true := by kernel_rfl
theorem en_78 : entersB Tryz.prog 78 = true := by kernel_rfl
theorem en_79 : entersB Tryz.prog 79 = true := by kernel_rfl
theorem en_80 : entersB Tryz.prog 80 = true := by kernel_rfl
theorem en_81 : entersB Tryz.prog 81 = true := by kernel_rfl
theorem en_82 : entersB Tryz.prog 82 = true := by kernel_rfl
theorem en_83 : entersB Tryz.prog 83 = true := by kernel_rfl
theorem en_84 : entersB Tryz.prog 84 = true := by kernel_rfl
theorem en_85 : entersB Tryz.prog 85 = true := by kernel_rfl
theorem en_86 : entersB Tryz.prog 86 = true := by kernel_rfl
theorem en_87 : entersB Tryz.prog 87 = true := by kernel_rfl
theorem en_88 : entersB Tryz.prog 88 = true := by kernel_rfl
theorem en_89 : entersB Tryz.prog 89 = true := by kernel_rfl
theorem en_90 : entersB Tryz.prog 90 = true := by kernel_rfl
theorem en_91 : entersB Tryz.prog 91 = true := by kernel_rfl
theorem en_92 : entersB Tryz.prog 92 = true := by kernel_rfl
theorem en_93 : entersB Tryz.prog 93 = true := by kernel_rfl
theorem en_94 : entersB Tryz.prog 94 = true := by kernel_rfl
theorem en_95 : entersB Tryz.prog 95 = true := by kernel_rfl
theorem en_96 : entersB Tryz.prog 96 = true := by kernel_rfl
theorem en_97 : entersB Tryz.prog 97 = true := by kernel_rfl
theorem en_98 : entersB Tryz.prog 98 = true := by kernel_rfl
theorem en_99 : entersB Tryz.prog 99 = true := by kernel_rfl
theorem en_100 : entersB Tryz.prog 100 = true := by kernel_rfl
theorem en_101 : entersB Tryz.prog 101 = true := by kernel_rfl
theorem en_102 : entersB Tryz.prog 102 = true := by kernel_rfl
theorem en_103 : entersB Tryz.prog 103 = true := by kernel_rfl
theorem en_104 : entersB Tryz.prog 104 = true := by kernel_rfl
theorem en_105 : entersB Tryz.prog 105 = true := by kernel_rfl
theorem en_106 : entersB Tryz.prog 106 = true := by kernel_rfl
theorem en_107 : entersB Tryz.prog 107 = true := by kernel_rfl
theorem en_108 : entersB Tryz.prog 108 = true := by kernel_rfl
theorem en_109 : entersB Tryz.prog 109 = true := by kernel_rfl
theorem en_110 : entersB Tryz.prog 110 = true := by kernel_rfl
theorem en_111 : entersB Tryz.prog 111 = true := by kernel_rfl
theorem en_112 : entersB Tryz.prog 112 = true := by kernel_rfl
theorem en_113 : entersB Tryz.prog 113 = true := by kernel_rfl
theorem en_114 : entersB Tryz.prog 114 = true := by kernel_rfl
theorem en_115 : entersB Tryz.prog 115 = true := by kernel_rfl
theorem en_116 : entersB Tryz.prog 116 = true := by kernel_rfl
theorem en_117 : entersB Tryz.prog 117 = true := by kernel_rfl
theorem en_118 : entersB Tryz.prog 118 = true := by kernel_rfl
theorem en_119 : entersB Tryz.prog 119 = true := by kernel_rfl
theorem en_120 : entersB Tryz.prog 120 = true := by kernel_rfl
theorem en_121 : entersB Tryz.prog 121 = true := by kernel_rfl
theorem en_122 : entersB Tryz.prog 122 = true := by kernel_rfl
theorem en_123 : entersB Tryz.prog 123 = true := by kernel_rfl
theorem en_124 : entersB Tryz.prog 124 = true := by kernel_rfl
theorem en_125 : entersB Tryz.prog 125 = true := by kernel_rfl
theorem en_126 : entersB Tryz.prog 126 = true := by kernel_rfl
theorem en_127 : entersB Tryz.prog 127 = true := by kernel_rfl
theorem en_129 : entersB Tryz.prog 129 = true := by kernel_rfl
theorem en_130 : entersB Tryz.prog 130 = true := by kernel_rfl
theorem en_131 : entersB Tryz.prog 131 = true := by kernel_rfl
theorem en_132 : entersB Tryz.prog 132 = true := by kernel_rfl
theorem en_133 : entersB Tryz.prog 133 = true := by kernel_rfl
theorem en_134 : entersB Tryz.prog 134 = true := by kernel_rfl
theorem en_135 : entersB Tryz.prog 135 = true := by kernel_rfl
theorem en_136 : entersB Tryz.prog 136 = true := by kernel_rfl
theorem en_137 : entersB Tryz.prog 137 = true := by kernel_rfl
theorem en_138 : entersB Tryz.prog 138 = true := by kernel_rfl
theorem en_139 : entersB Tryz.prog 139 = true := by kernel_rfl
theorem en_140 : entersB Tryz.prog 140 = true := by kernel_rfl
theorem en_141 : entersB Tryz.prog 141 = true := by kernel_rfl
theorem en_142 : entersB Tryz.prog 142 = true := by kernel_rfl
theorem en_143 : entersB Tryz.prog 143 = true := by kernel_rfl
theorem en_144 : entersB Tryz.prog 144 = true := by kernel_rfl
theorem en_145 : entersB Tryz.prog 145 = true := by kernel_rfl
theorem en_146 : entersB Tryz.prog 146 = true := by kernel_rfl
theorem en_148 : entersB Tryz.prog 148 = true := by kernel_rfl
theorem en_149 : entersB Tryz.prog 149 = true := by kernel_rfl
theorem en_150 : entersB Tryz.prog 150 = true := by kernel_rfl
theorem en_151 : entersB Tryz.prog 151 = true := by kernel_rfl
theorem en_153 : entersB Tryz.prog 153 = true := by kernel_rfl
theorem en_154 : entersB Tryz.prog 154 = true := by kernel_rfl
theorem en_155 : entersB Tryz.prog 155 = true := by kernel_rfl
theorem en_156 : entersB Tryz.prog 156 = true := by kernel_rfl
theorem en_157 : entersB Tryz.prog 157 = true := by kernel_rfl
theorem en_158 : entersB Tryz.prog 158 = true := by kernel_rfl
theorem en_159 : entersB Tryz.prog 159 = true := by kernel_rfl
theorem en_160 : entersB Tryz.prog 160 = true := by kernel_rfl
theorem en_161 : entersB Tryz.prog 161 = true := by kernel_rfl
theorem en_162 : entersB Tryz.prog 162 = true := by kernel_rfl
theorem en_164 : entersB Tryz.prog 164 = true := by kernel_rfl
theorem fd_26_0 : tyField Tryz.prog 26 0 = some (0, 1) := by kernel_rfl
theorem fd_26_1 : tyField Tryz.prog 26 1 = some (1, 1) := by kernel_rfl
theorem fd_26_2 : tyField Tryz.prog 26 2 = some (2, 16) := by kernel_rfl
theorem fd_28_0 : tyField Tryz.prog 28 0 = some (0, 18) := by kernel_rfl
theorem fd_28_1 : tyField Tryz.prog 28 1 = some (18, 18) := by kernel_rfl
theorem fd_31_0 : tyField Tryz.prog 31 0 = some (0, 36) := by kernel_rfl
theorem fd_31_1 : tyField Tryz.prog 31 1 = some (36, 36) := by kernel_rfl
theorem fd_85_0 : tyField Tryz.prog 85 0 = some (0, 36) := by kernel_rfl
theorem fd_85_1 : tyField Tryz.prog 85 1 = some (36, 36) := by kernel_rfl
theorem in_3 : tyInt Tryz.prog 3 = some .i64 := by kernel_rfl
theorem in_5 : tyInt Tryz.prog 5 = some .u8 := by kernel_rfl
theorem in_23 : tyInt Tryz.prog 23 = some .u32 := by kernel_rfl
theorem in_104 : tyInt Tryz.prog 104 = some .u64 := by kernel_rfl
theorem lv_24 : leaves Tryz.prog 8 24 = some (true, (List.replicate 16 (some IntKind.u32))) := by kernel_rfl
theorem lw_26 : leaves Tryz.prog 8 26 = some (true, LI) := by kernel_rfl
theorem lw_28 : leaves Tryz.prog 8 28 = some (true, (LI ++ LI)) := by kernel_rfl
theorem lw_31 : leaves Tryz.prog 8 31 = some (true, (LI ++ (LI ++ (LI ++ LI)))) := by kernel_rfl
theorem on_3 : tyOne Tryz.prog 3 = true := by kernel_rfl
theorem pl_26 : tyPlaces Tryz.prog 26 = some [(0, 1), (1, 1), (2, 16)] := by kernel_rfl
theorem pl_28 : tyPlaces Tryz.prog 28 = some [(0, 18), (18, 18)] := by kernel_rfl
theorem pl_31 : tyPlaces Tryz.prog 31 = some [(0, 36), (36, 36)] := by kernel_rfl
theorem pl_39 : tyPlaces Tryz.prog 39 = some [(0, 72), (72, 1)] := by kernel_rfl
theorem pl_85 : tyPlaces Tryz.prog 85 = some [(0, 36), (36, 36)] := by kernel_rfl
theorem sl_22 : tySlice Tryz.prog 22 = some 72 := by kernel_rfl
theorem sl_53 : tySlice Tryz.prog 53 = some 36 := by kernel_rfl
theorem sl_90 : tySlice Tryz.prog 90 = some 1 := by kernel_rfl
theorem sl_106 : tySlice Tryz.prog 106 = some 1 := by kernel_rfl
theorem sl_129 : tySlice Tryz.prog 129 = some 18 := by kernel_rfl
theorem st_9 : Tryz.prog.underlying 9 = some .string := by kernel_rfl
theorem sz_3 : (Tryz.prog.info? 3).map (·.size) = some 1 := by kernel_rfl
theorem sz_26 : (Tryz.prog.info? 26).map (·.size) = some 18 := by kernel_rfl
theorem sz_28 : (Tryz.prog.info? 28).map (·.size) = some 36 := by kernel_rfl
theorem sz_31 : (Tryz.prog.info? 31).map (·.size) = some 72 := by kernel_rfl
theorem ty_3 : tyOf Tryz.prog 3 = some (false, 1) := by kernel_rfl
theorem ty_4 : tyOf Tryz.prog 4 = some (false, 1) := by kernel_rfl
theorem ty_23 : tyOf Tryz.prog 23 = some (false, 1) := by kernel_rfl
theorem ty_24 : tyOf Tryz.prog 24 = some (true, 16) := by kernel_rfl
theorem ty_26 : tyOf Tryz.prog 26 = some (true, 18) := by kernel_rfl
theorem ty_28 : tyOf Tryz.prog 28 = some (true, 36) := by kernel_rfl
theorem ty_31 : tyOf Tryz.prog 31 = some (true, 72) := by kernel_rfl
theorem ty_39 : tyOf Tryz.prog 39 = some (true, 73) := by kernel_rfl
theorem ty_52 : tyOf Tryz.prog 52 = some (false, 1) := by kernel_rfl
theorem ty_60 : tyOf Tryz.prog 60 = some (true, 144) := by kernel_rfl
theorem ty_85 : tyOf Tryz.prog 85 = some (true, 72) := by kernel_rfl
theorem ty_96 : tyOf Tryz.prog 96 = some (true, 36) := by kernel_rfl
theorem us_22 : Tryz.prog.underlying 22 = some (.slice 31) := by kernel_rfl
theorem us_53 : Tryz.prog.underlying 53 = some (.slice 28) := by kernel_rfl
theorem us_90 : Tryz.prog.underlying 90 = some (.slice 3) := by kernel_rfl
theorem us_129 : Tryz.prog.underlying 129 = some (.slice 26) := by kernel_rfl
theorem z_3 : tyZero Tryz.prog 3 = some [.int .i64 0] := by kernel_rfl
theorem z_24 : tyZero Tryz.prog 24 = some (uw (List.replicate 16 0)) := by kernel_rfl
theorem z_26 : tyZero Tryz.prog 26 = some zR := by kernel_rfl
theorem z_28 : tyZero Tryz.prog 28 = some (([.bool false] ++ [.bool false] ++ (List.replicate 16 (.int .u32 0))) ++ ([.bool false] ++ [.bool false] ++ (List.replicate 16 (.int .u32 0)))) := by kernel_rfl
theorem z_31 : tyZero Tryz.prog 31 = some ((([.bool false] ++ [.bool false] ++ (List.replicate 16 (.int .u32 0))) ++ ([.bool false] ++ [.bool false] ++ (List.replicate 16 (.int .u32 0)))) ++ (([.bool false] ++ [.bool false] ++ (List.replicate 16 (.int .u32 0))) ++ ([.bool false] ++ [.bool false] ++ (List.replicate 16 (.int .u32 0))))) := by kernel_rfl
theorem z_102 : tyZero Tryz.prog 102 = some (uw (List.replicate 32 0)) := by kernel_rfl
theorem z_134 : tyZero Tryz.prog 134 = some (uw (List.replicate 17 0)) := by kernel_rfl
theorem zp_4 : tyZero Tryz.prog 4 = some (flat [cb false]) := by kernel_rfl
theorem zp_26 : tyZero Tryz.prog 26 = some (flat [pI I0]) := by kernel_rfl
theorem zp_28 : tyZero Tryz.prog 28 = some (flat [pI I0, pI I0]) := by kernel_rfl
theorem zp_31 : tyZero Tryz.prog 31 = some (flat [pI I0, pI I0, pI I0, pI I0]) := by kernel_rfl
theorem zp_39 : tyZero Tryz.prog 39 = some (flat [pI I0, pI I0, pI I0, pI I0, cb false]) := by kernel_rfl
theorem zp_60 : tyZero Tryz.prog 60 = some (flat [pI I0, pI I0, pI I0, pI I0, pI I0, pI I0, pI I0, pI I0]) := by kernel_rfl
theorem zp_85 : tyZero Tryz.prog 85 = some (flat [pI I0, pI I0, pI I0, pI I0]) := by kernel_rfl
theorem zp_96 : tyZero Tryz.prog 96 = some (flat [pI I0, pI I0]) := by kernel_rfl
end Go.Proofs.YtnfbkngfdemkpaaGreatDoor
