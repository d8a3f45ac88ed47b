/- Closed facts of the program's types and functions. -/
import Derived.Test.YtapbefpeopaecaaGreatDoorProg
import Derived.Test.YtapbefpeopaecaaGreatDoorZGE
set_option linter.unusedVariables false
set_option linter.unusedSimpArgs false
namespace Go.Proofs.YtapbefpeopaecaaGreatDoor
open Go.Kn Go.Num
theorem mix : Tryz.prog.follows .mixedOrders = true := by kernel_rfl
theorem ar_23 : tyArr Tryz.prog 23 = some (3, 1) := by kernel_rfl
theorem ar_35 : tyArr Tryz.prog 35 = some (16, 1) := by kernel_rfl
theorem ar_41 : tyArr Tryz.prog 41 = some (3, 36) := by kernel_rfl
theorem ar_74 : tyArr Tryz.prog 74 = some (2, 3) := by kernel_rfl
theorem ar_75 : tyArr Tryz.prog 75 = some (2, 36) := by kernel_rfl
theorem ar_94 : tyArr Tryz.prog 94 = some (3, 18) := by kernel_rfl
theorem eM_ : tyArr Tryz.prog 118 = some (2, 18) := by kernel_rfl
theorem kb_ : tyArr Tryz.prog 132 = some (32, 1) := by kernel_rfl
theorem fD_ : tyArr Tryz.prog 146 = some (17, 1) := by kernel_rfl
theorem bo_4 : j6_ Tryz.prog 4 = true := by kernel_rfl
theorem eg_23 : Tryz.prog.eqGuardType Tryz.prog.depth 23 = false := by kernel_rfl
theorem eg_35 : Tryz.prog.eqGuardType Tryz.prog.depth 35 = false := by kernel_rfl
theorem eg_37 : Tryz.prog.eqGuardType Tryz.prog.depth 37 = false := by kernel_rfl
theorem eg_39 : Tryz.prog.eqGuardType Tryz.prog.depth 39 = false := by kernel_rfl
theorem eg_41 : Tryz.prog.eqGuardType Tryz.prog.depth 41 = false := by kernel_rfl
theorem el_23 : tyEl Tryz.prog 23 = some (3, 1, false) := by kernel_rfl
theorem el_94 : tyEl Tryz.prog 94 = some (3, 18, true) := by kernel_rfl
theorem en_10 : ar_ Tryz.prog 10 = true := by kernel_rfl
theorem en_11 : ar_ Tryz.prog 11 = true := by kernel_rfl
theorem en_12 : ar_ Tryz.prog 12 = true := by kernel_rfl
theorem en_13 : ar_ Tryz.prog 13 = true := by kernel_rfl
theorem en_14 : ar_ Tryz.prog 14 = true := by kernel_rfl
theorem en_15 : ar_ Tryz.prog 15 = true := by kernel_rfl
theorem en_16 : ar_ Tryz.prog 16 = true := by kernel_rfl
theorem en_17 : ar_ Tryz.prog 17 = true := by kernel_rfl
theorem en_18 : ar_ Tryz.prog 18 = true := by kernel_rfl
theorem en_19 : ar_ Tryz.prog 19 = true := by kernel_rfl
theorem en_20 : ar_ Tryz.prog 20 = true := by kernel_rfl
theorem en_21 : ar_ Tryz.prog 21 = true := by kernel_rfl
theorem en_22 : ar_ Tryz.prog 22 = true := by kernel_rfl
theorem en_23 : ar_ Tryz.prog 23 = true := by kernel_rfl
theorem en_25 : ar_ Tryz.prog 25 = true := by kernel_rfl
theorem en_26 : ar_ Tryz.prog 26 = true := by kernel_rfl
theorem en_27 : ar_ Tryz.prog 27 = true := by kernel_rfl
theorem en_28 : ar_ Tryz.prog 28 = true := by kernel_rfl
theorem en_29 : ar_ Tryz.prog 29 = true := by kernel_rfl
theorem en_30 : ar_ Tryz.prog 30 = true := by kernel_rfl
theorem en_31 : ar_ Tryz.prog 31 = true := by kernel_rfl
theorem en_32 : ar_ Tryz.prog 32 = true := by kernel_rfl
theorem en_33 : ar_ Tryz.prog 33 = true := by kernel_rfl
theorem en_34 : ar_ Tryz.prog 34 = true := by kernel_rfl
theorem en_35 : ar_ Tryz.prog 35 = true := by kernel_rfl
theorem en_36 : ar_ Tryz.prog 36 = true := by kernel_rfl
theorem en_37 : ar_ Tryz.prog 37 = true := by kernel_rfl
theorem en_38 : ar_ Tryz.prog 38 = true := by kernel_rfl
theorem en_39 : ar_ Tryz.prog 39 = true := by kernel_rfl
theorem en_40 : ar_ Tryz.prog 40 = true := by kernel_rfl
theorem en_41 : ar_ Tryz.prog 41 = true := by kernel_rfl
theorem en_42 : ar_ Tryz.prog 42 = true := by kernel_rfl
theorem en_43 : ar_ Tryz.prog 43 = true := by kernel_rfl
theorem en_44 : ar_ Tryz.prog 44 = true := by kernel_rfl
theorem en_45 : ar_ Tryz.prog 45 = true := by kernel_rfl
theorem en_46 : ar_ Tryz.prog 46 = true := by kernel_rfl
theorem en_47 : ar_ Tryz.prog 47 = true := by kernel_rfl
theorem en_48 : ar_ Tryz.prog 48 = true := by kernel_rfl
theorem en_49 : ar_ Tryz.prog 49 = true := by kernel_rfl
theorem en_50 : ar_ Tryz.prog 50 = true := by kernel_rfl
theorem en_51 : ar_ Tryz.prog 51 = true := by kernel_rfl
theorem en_52 : ar_ Tryz.prog 52 = true := by kernel_rfl
theorem en_53 : ar_ Tryz.prog 53 = true := by kernel_rfl
theorem en_54 : ar_ Tryz.prog 54 = true := by kernel_rfl
theorem en_55 : ar_ Tryz.prog 55 = true := by kernel_rfl
theorem en_56 : ar_ Tryz.prog 56 = true := by kernel_rfl
theorem en_57 : ar_ Tryz.prog 57 = true := by kernel_rfl
theorem en_58 : ar_ Tryz.prog 58 = true := by kernel_rfl
theorem en_59 : ar_ Tryz.prog 59 = true := by kernel_rfl
theorem en_60 : ar_ Tryz.prog 60 = true := by kernel_rfl
theorem en_61 : ar_ Tryz.prog 61 = true := by kernel_rfl
theorem en_62 : ar_ Tryz.prog 62 = true := by kernel_rfl
theorem en_63 : ar_ Tryz.prog 63 = true := by kernel_rfl
theorem en_64 : ar_ Tryz.prog 64 = true := by kernel_rfl
theorem en_65 : ar_ Tryz.prog 65 = true := by kernel_rfl
theorem en_66 : ar_ Tryz.prog 66 = true := by kernel_rfl
theorem en_67 : ar_ Tryz.prog 67 = true := by kernel_rfl
theorem en_68 : ar_ Tryz.prog 68 = true := by kernel_rfl
theorem en_69 : ar_ Tryz.prog 69 = true := by kernel_rfl
theorem en_70 : ar_ Tryz.prog 70 = true := by kernel_rfl
theorem en_71 : ar_ Tryz.prog 71 = true := by kernel_rfl
theorem en_72 : ar_ Tryz.prog 72 = true := by kernel_rfl
theorem en_73 : ar_ Tryz.prog 73 = true := by kernel_rfl
theorem en_74 : ar_ Tryz.prog 74 = true := by kernel_rfl
theorem en_75 : ar_ Tryz.prog 75 = true := by kernel_rfl
theorem en_76 : ar_ Tryz.prog 76 = true := by kernel_rfl
theorem en_77 : ar_ Tryz.prog 77 = true := by kernel_rfl
theorem en_78 : ar_ Tryz.prog 78 = true := by kernel_rfl
theorem en_79 : ar_ Tryz.prog 79 = true := by kernel_rfl
theorem en_80 : ar_ Tryz.prog 80 = true := by kernel_rfl
theorem en_81 : ar_ Tryz.prog 81 = true := by kernel_rfl
theorem en_82 : ar_ Tryz.prog 82 = true := by kernel_rfl
theorem en_83 : ar_ Tryz.prog 83 = true := by kernel_rfl
theorem en_84 : ar_ Tryz.prog 84 = true := by kernel_rfl
theorem en_85 : ar_ Tryz.prog 85 = true := by kernel_rfl
theorem en_86 : ar_ Tryz.prog 86 = true := by kernel_rfl
theorem en_87 : ar_ Tryz.prog 87 = true := by kernel_rfl
theorem en_88 : ar_ Tryz.prog 88 = true := by kernel_rfl
theorem en_89 : ar_ Tryz.prog 89 = true := by kernel_rfl
theorem en_90 : ar_ Tryz.prog 90 = true := by kernel_rfl
theorem en_91 : ar_ Tryz.prog 91 = true := by kernel_rfl
theorem en_92 : ar_ Tryz.prog 92 = true := by kernel_rfl
theorem en_93 : ar_ Tryz.prog 93 = true := by kernel_rfl
theorem en_94 : ar_ Tryz.prog 94 = true := by kernel_rfl
theorem en_95 : ar_ Tryz.prog 95 = true := by kernel_rfl
theorem en_96 : ar_ Tryz.prog 96 = true := by kernel_rfl
theorem en_97 : ar_ Tryz.prog 97 = true := by kernel_rfl
theorem en_98 : ar_ Tryz.prog 98 = true := by kernel_rfl
theorem en_99 : ar_ Tryz.prog 99 = true := by kernel_rfl
theorem so_ : ar_ Tryz.prog 100 = true := by kernel_rfl
theorem sb_ : ar_ Tryz.prog 101 = true := by kernel_rfl
theorem sm_ : ar_ Tryz.prog 102 = true := by kernel_rfl
theorem hu_ : ar_ Tryz.prog 103 = true := by kernel_rfl
theorem hF_ : ar_ Tryz.prog 104 = true := by kernel_rfl
theorem p1_ : ar_ Tryz.prog 105 = true := by kernel_rfl
theorem lt_ : ar_ Tryz.prog 106 = true := by kernel_rfl
theorem fQ_ : ar_ Tryz.prog 107 = true := by kernel_rfl
theorem h1_ : ar_ Tryz.prog 108 = true := by kernel_rfl
theorem lV_ : ar_ Tryz.prog 109 = true := by kernel_rfl
theorem sg_ : ar_ Tryz.prog 110 = true := by kernel_rfl
theorem lU_ : ar_ Tryz.prog 111 = true := by kernel_rfl
theorem eQ_ : ar_ Tryz.prog 112 = true := by kernel_rfl
theorem se_ : ar_ Tryz.prog 113 = true := by kernel_rfl
theorem lo_ : ar_ Tryz.prog 114 = true := by kernel_rfl
theorem iN_ : ar_ Tryz.prog 115 = true := by kernel_rfl
theorem pO_ : ar_ Tryz.prog 116 = true := by kernel_rfl
theorem pi_ : ar_ Tryz.prog 117 = true := by kernel_rfl
theorem mZ_ : ar_ Tryz.prog 118 = true := by kernel_rfl
theorem ly_ : ar_ Tryz.prog 119 = true := by kernel_rfl
theorem po_ : ar_ Tryz.prog 120 = true := by kernel_rfl
theorem l1_ : ar_ Tryz.prog 121 = true := by kernel_rfl
theorem px_ : ar_ Tryz.prog 122 = true := by kernel_rfl
theorem ir_ : ar_ Tryz.prog 123 = true := by kernel_rfl
theorem pF_ : ar_ Tryz.prog 124 = true := by kernel_rfl
theorem n4_ : ar_ Tryz.prog 125 = true := by kernel_rfl
theorem ny_ : ar_ Tryz.prog 126 = true := by kernel_rfl
theorem rw_ : ar_ Tryz.prog 127 = true := by kernel_rfl
theorem oe_ : ar_ Tryz.prog 128 = true := by kernel_rfl
theorem rz_ : ar_ Tryz.prog 129 = true := by kernel_rfl
theorem iG_ : ar_ Tryz.prog 130 = true := by kernel_rfl
theorem lT_ : ar_ Tryz.prog 131 = true := by kernel_rfl
theorem hw_ : ar_ Tryz.prog 132 = true := by kernel_rfl
theorem pE_ : ar_ Tryz.prog 133 = true := by kernel_rfl
theorem rq_ : ar_ Tryz.prog 134 = true := by kernel_rfl
theorem fj_ : ar_ Tryz.prog 135 = true := by kernel_rfl
theorem e7_ : ar_ Tryz.prog 136 = true := by kernel_rfl
theorem mK_ : ar_ Tryz.prog 137 = true := by kernel_rfl
theorem rs_ : ar_ Tryz.prog 138 = true := by kernel_rfl
theorem k0_ : ar_ Tryz.prog 139 = true := by kernel_rfl
theorem pQ_ : ar_ Tryz.prog 140 = true := by kernel_rfl
theorem iB_ : ar_ Tryz.prog 141 = true := by kernel_rfl
theorem pL_ : ar_ Tryz.prog 142 = true := by kernel_rfl
theorem sc_ : ar_ Tryz.prog 143 = true := by kernel_rfl
theorem nr_ : ar_ Tryz.prog 144 = true := by kernel_rfl
theorem nS_ : ar_ Tryz.prog 145 = true := by kernel_rfl
theorem mY_ : ar_ Tryz.prog 146 = true := by kernel_rfl
theorem pU_ : ar_ Tryz.prog 147 = true := by kernel_rfl
theorem rm_ : ar_ Tryz.prog 148 = true := by kernel_rfl
theorem i2_ : ar_ Tryz.prog 149 = true := by kernel_rfl
theorem mH_ : ar_ Tryz.prog 150 = true := by kernel_rfl
theorem rh_ : ar_ Tryz.prog 151 = true := by kernel_rfl
theorem kn_ : ar_ Tryz.prog 152 = true := by kernel_rfl
theorem lC_ : ar_ Tryz.prog 153 = true := by kernel_rfl
theorem pV_ : ar_ Tryz.prog 154 = true := by kernel_rfl
theorem sh_ : ar_ Tryz.prog 156 = true := by kernel_rfl
theorem rE_ : ar_ Tryz.prog 157 = true := by kernel_rfl
theorem rZ_ : ar_ Tryz.prog 158 = true := by kernel_rfl
theorem rG_ : ar_ Tryz.prog 159 = true := by kernel_rfl
theorem rj_ : ar_ Tryz.prog 160 = true := by kernel_rfl
theorem r3_ : ar_ Tryz.prog 161 = true := by kernel_rfl
theorem p9_ : ar_ Tryz.prog 163 = true := by kernel_rfl
theorem qk_ : eB_ Tryz.prog 29 0 = some (0, 1) := by kernel_rfl
theorem qZ_ : eB_ Tryz.prog 29 1 = some (1, 1) := by kernel_rfl
theorem er_ : eB_ Tryz.prog 37 0 = some (0, 1) := by kernel_rfl
theorem by_ : eB_ Tryz.prog 37 1 = some (1, 1) := by kernel_rfl
theorem bJ_ : eB_ Tryz.prog 37 2 = some (2, 16) := by kernel_rfl
theorem cI_ : eB_ Tryz.prog 39 0 = some (0, 18) := by kernel_rfl
theorem b7_ : eB_ Tryz.prog 39 1 = some (18, 18) := by kernel_rfl
theorem qf_ : eB_ Tryz.prog 45 0 = some (0, 1) := by kernel_rfl
theorem nd_ : eB_ Tryz.prog 45 1 = some (1, 1) := by kernel_rfl
theorem hh_ : eB_ Tryz.prog 97 0 = some (0, 3) := by kernel_rfl
theorem nT_ : eB_ Tryz.prog 97 1 = some (3, 1) := by kernel_rfl
theorem in_3 : tyInt Tryz.prog 3 = some .i64 := by kernel_rfl
theorem in_5 : tyInt Tryz.prog 5 = some .u8 := by kernel_rfl
theorem in_34 : tyInt Tryz.prog 34 = some .u32 := by kernel_rfl
theorem cc_ : tyInt Tryz.prog 112 = some .u64 := by kernel_rfl
theorem lv_35 : d7_ Tryz.prog 8 35 = some (true, (List.replicate 16 (some IntKind.u32))) := by kernel_rfl
theorem lw_23 : d7_ Tryz.prog 8 23 = some (true, ([some .i64] ++ ([some .i64] ++ [some .i64]))) := by kernel_rfl
theorem lw_37 : d7_ Tryz.prog 8 37 = some (true, LI) := by kernel_rfl
theorem lw_39 : d7_ Tryz.prog 8 39 = some (true, (LI ++ LI)) := by kernel_rfl
theorem lw_41 : d7_ Tryz.prog 8 41 = some (true, (LI ++ (LI ++ (LI ++ (LI ++ (LI ++ LI)))))) := by kernel_rfl
theorem on_3 : tyOne Tryz.prog 3 = true := by kernel_rfl
theorem pl_29 : fG_ Tryz.prog 29 = some [(0, 1), (1, 1)] := by kernel_rfl
theorem pl_37 : fG_ Tryz.prog 37 = some [(0, 1), (1, 1), (2, 16)] := by kernel_rfl
theorem pl_39 : fG_ Tryz.prog 39 = some [(0, 18), (18, 18)] := by kernel_rfl
theorem pl_45 : fG_ Tryz.prog 45 = some [(0, 1), (1, 1)] := by kernel_rfl
theorem pl_97 : fG_ Tryz.prog 97 = some [(0, 3), (3, 1)] := by kernel_rfl
theorem sl_24 : ek_ Tryz.prog 24 = some 108 := by kernel_rfl
theorem sl_43 : ek_ Tryz.prog 43 = some 36 := by kernel_rfl
theorem sl_81 : ek_ Tryz.prog 81 = some 1 := by kernel_rfl
theorem lN_ : ek_ Tryz.prog 128 = some 1 := by kernel_rfl
theorem l4_ : ek_ Tryz.prog 143 = some 18 := by kernel_rfl
theorem st_9 : Tryz.prog.underlying 9 = some .string := by kernel_rfl
theorem sz_3 : (Tryz.prog.info? 3).map (·.size) = some 1 := by kernel_rfl
theorem sz_37 : (Tryz.prog.info? 37).map (·.size) = some 18 := by kernel_rfl
theorem sz_39 : (Tryz.prog.info? 39).map (·.size) = some 36 := by kernel_rfl
theorem sz_41 : (Tryz.prog.info? 41).map (·.size) = some 108 := by kernel_rfl
theorem ty_3 : tyOf Tryz.prog 3 = some (false, 1) := by kernel_rfl
theorem ty_4 : tyOf Tryz.prog 4 = some (false, 1) := by kernel_rfl
theorem ty_23 : tyOf Tryz.prog 23 = some (true, 3) := by kernel_rfl
theorem ty_24 : tyOf Tryz.prog 24 = some (false, 1) := by kernel_rfl
theorem ty_25 : tyOf Tryz.prog 25 = some (false, 1) := by kernel_rfl
theorem ty_29 : tyOf Tryz.prog 29 = some (true, 2) := by kernel_rfl
theorem ty_34 : tyOf Tryz.prog 34 = some (false, 1) := by kernel_rfl
theorem ty_35 : tyOf Tryz.prog 35 = some (true, 16) := by kernel_rfl
theorem ty_37 : tyOf Tryz.prog 37 = some (true, 18) := by kernel_rfl
theorem ty_39 : tyOf Tryz.prog 39 = some (true, 36) := by kernel_rfl
theorem ty_41 : tyOf Tryz.prog 41 = some (true, 108) := by kernel_rfl
theorem ty_43 : tyOf Tryz.prog 43 = some (false, 1) := by kernel_rfl
theorem ty_45 : tyOf Tryz.prog 45 = some (true, 2) := by kernel_rfl
theorem ty_74 : tyOf Tryz.prog 74 = some (true, 6) := by kernel_rfl
theorem ty_75 : tyOf Tryz.prog 75 = some (true, 72) := by kernel_rfl
theorem ty_94 : tyOf Tryz.prog 94 = some (true, 54) := by kernel_rfl
theorem ty_97 : tyOf Tryz.prog 97 = some (true, 4) := by kernel_rfl
theorem lc_ : tyOf Tryz.prog 118 = some (true, 36) := by kernel_rfl
theorem us_24 : Tryz.prog.underlying 24 = some (.slice 41) := by kernel_rfl
theorem us_43 : Tryz.prog.underlying 43 = some (.slice 39) := by kernel_rfl
theorem us_81 : Tryz.prog.underlying 81 = some (.slice 3) := by kernel_rfl
theorem fi_ : Tryz.prog.underlying 143 = some (.slice 37) := by kernel_rfl
theorem z_3 : du_ Tryz.prog 3 = some [.int .i64 0] := by kernel_rfl
theorem z_35 : du_ Tryz.prog 35 = some (uw (List.replicate 16 0)) := by kernel_rfl
theorem z_37 : du_ Tryz.prog 37 = some zR := by kernel_rfl
theorem z_39 : du_ Tryz.prog 39 = some (([.bool false] ++ [.bool false] ++ (List.replicate 16 (.int .u32 0))) ++ ([.bool false] ++ [.bool false] ++ (List.replicate 16 (.int .u32 0)))) := by kernel_rfl
theorem z_41 : du_ Tryz.prog 41 = some ((([.bool false] ++ [.bool false] ++ (List.replicate 16 (.int .u32 0))) ++ ([.bool false] ++ [.bool false] ++ (List.replicate 16 (.int .u32 0)))) ++ (([.bool false] ++ [.bool false] ++ (List.replicate 16 (.int .u32 0))) ++ ([.bool false] ++ [.bool false] ++ (List.replicate 16 (.int .u32 0)))) ++ (([.bool false] ++ [.bool false] ++ (List.replicate 16 (.int .u32 0))) ++ ([.bool false] ++ [.bool false] ++ (List.replicate 16 (.int .u32 0))))) := by kernel_rfl
theorem z_132 : du_ Tryz.prog 132 = some (uw (List.replicate 32 0)) := by kernel_rfl
theorem z_146 : du_ Tryz.prog 146 = some (uw (List.replicate 17 0)) := by kernel_rfl
theorem zp_23 : du_ Tryz.prog 23 = some (flat [ci .i64 0, ci .i64 0, ci .i64 0]) := by kernel_rfl
theorem zp_29 : du_ Tryz.prog 29 = some (flat [csl none 0 0, ci .i64 0]) := by kernel_rfl
theorem zp_37 : du_ Tryz.prog 37 = some (flat [pI I0]) := by kernel_rfl
theorem zp_39 : du_ Tryz.prog 39 = some (flat [pI I0, pI I0]) := by kernel_rfl
theorem zp_41 : du_ Tryz.prog 41 = some (flat [pI I0, pI I0, pI I0, pI I0, pI I0, pI I0]) := by kernel_rfl
theorem zp_45 : du_ Tryz.prog 45 = some (flat [csl none 0 0, cb false]) := by kernel_rfl
theorem zp_74 : du_ Tryz.prog 74 = some (flat [ci .i64 0, ci .i64 0, ci .i64 0, ci .i64 0, ci .i64 0, ci .i64 0]) := by kernel_rfl
theorem zp_75 : du_ Tryz.prog 75 = some (flat [pI I0, pI I0, pI I0, pI I0]) := by kernel_rfl
theorem zp_94 : du_ Tryz.prog 94 = some (flat [pI I0, pI I0, pI I0]) := by kernel_rfl
theorem zp_97 : du_ Tryz.prog 97 = some (flat [ci .i64 0, ci .i64 0, ci .i64 0, ci .i64 0]) := by kernel_rfl
theorem jb_ : du_ Tryz.prog 118 = some (flat [pI I0, pI I0]) := by kernel_rfl
end Go.Proofs.YtapbefpeopaecaaGreatDoor

