/- The Go function skewbacklaw06.VectorRationalsMatchSpec returns true for every input, and leaves its arguments as they were. Conditions: none. -/
import Derived.Test.YthbjhbmpfeeilaaGreatRows
import Derived.Test.YthbjhbmpfeeilaaGreatGD
import Derived.Test.YthbjhbmpfeeilaaGreatL7
import Derived.Test.YthbjhbmpfeeilaaGreatPf
set_option linter.unusedVariables false
set_option linter.unusedSimpArgs false
namespace Go.Proofs.YthbjhbmpfeeilaaGreat
open Go.Kn Go.Num Go.ChangeShapes Go.WideShapes Go.ChangeAt Go.RowKit
theorem own : ownKnob Tryz.prog.godebug = none := by kernel_rfl
theorem laidOut : laidOutB Tryz.prog = true := by kernel_rfl
theorem lz_27 : lz Tryz.prog 8 27 = some (LI ++ LI) := by kernel_rfl
theorem ia_27 : isAggT Tryz.prog 27 = true := by kernel_rfl
theorem lz_29 : lz Tryz.prog 8 29 = some (LI ++ (LI ++ (LI ++ (LI ++ (LI ++ LI))))) := by kernel_rfl
theorem ia_29 : isAggT Tryz.prog 29 = true := by kernel_rfl
theorem lz_31 : lz Tryz.prog 8 31 = some ([some .i64] ++ ([some .i64] ++ [some .i64])) := by kernel_rfl
theorem ia_31 : isAggT Tryz.prog 31 = true := by kernel_rfl
set_option maxRecDepth 100000 in
theorem lifted (os : Os) (started : os.Started) (H : Type) (enc : TypeId × Value → H) :
    ReturnsInHanded {} Tryz.checked os 3 .any (Rows.vectorRationalsMatchSpecSpec.pre6 enc Tryz.prog Tryz.f3 Rows.vectorRationalsMatchSpecRow.domain false) (Rows.vectorRationalsMatchSpecSpec.post enc Tryz.prog Tryz.f3 false true false false) := by
  refine returnsInHanded_of_change (C := Tryz.checked) own started (by kernel_rfl) Tryz.func3
    (ChangeSpec.witness6 (enc := enc) (C := Tryz.checked) false ⟨#[], #[.agg #[.bool false, .bool false, .int .u32 0, .int .u32 0, .int .u32 0, .int .u32 0, .int .u32 0, .int .u32 0, .int .u32 0, .int .u32 0, .int .u32 0, .int .u32 0, .int .u32 0, .int .u32 0, .int .u32 0, .int .u32 0, .int .u32 0, .int .u32 0, .bool false, .bool false, .int .u32 0, .int .u32 0, .int .u32 0, .int .u32 0, .int .u32 0, .int .u32 0, .int .u32 0, .int .u32 0, .int .u32 0, .int .u32 0, .int .u32 0, .int .u32 0, .int .u32 0, .int .u32 0, .int .u32 0, .int .u32 0, .bool false, .bool false, .int .u32 0, .int .u32 0, .int .u32 0, .int .u32 0, .int .u32 0, .int .u32 0, .int .u32 0, .int .u32 0, .int .u32 0, .int .u32 0, .int .u32 0, .int .u32 0, .int .u32 0, .int .u32 0, .int .u32 0, .int .u32 0, .bool false, .bool false, .int .u32 0, .int .u32 0, .int .u32 0, .int .u32 0, .int .u32 0, .int .u32 0, .int .u32 0, .int .u32 0, .int .u32 0, .int .u32 0, .int .u32 0, .int .u32 0, .int .u32 0, .int .u32 0, .int .u32 0, .int .u32 0, .bool false, .bool false, .int .u32 0, .int .u32 0, .int .u32 0, .int .u32 0, .int .u32 0, .int .u32 0, .int .u32 0, .int .u32 0, .int .u32 0, .int .u32 0, .int .u32 0, .int .u32 0, .int .u32 0, .int .u32 0, .int .u32 0, .int .u32 0, .bool false, .bool false, .int .u32 0, .int .u32 0, .int .u32 0, .int .u32 0, .int .u32 0, .int .u32 0, .int .u32 0, .int .u32 0, .int .u32 0, .int .u32 0, .int .u32 0, .int .u32 0, .int .u32 0, .int .u32 0, .int .u32 0, .int .u32 0], .agg #[.bool false, .bool false, .int .u32 0, .int .u32 0, .int .u32 0, .int .u32 0, .int .u32 0, .int .u32 0, .int .u32 0, .int .u32 0, .int .u32 0, .int .u32 0, .int .u32 0, .int .u32 0, .int .u32 0, .int .u32 0, .int .u32 0, .int .u32 0, .bool false, .bool false, .int .u32 0, .int .u32 0, .int .u32 0, .int .u32 0, .int .u32 0, .int .u32 0, .int .u32 0, .int .u32 0, .int .u32 0, .int .u32 0, .int .u32 0, .int .u32 0, .int .u32 0, .int .u32 0, .int .u32 0, .int .u32 0, .bool false, .bool false, .int .u32 0, .int .u32 0, .int .u32 0, .int .u32 0, .int .u32 0, .int .u32 0, .int .u32 0, .int .u32 0, .int .u32 0, .int .u32 0, .int .u32 0, .int .u32 0, .int .u32 0, .int .u32 0, .int .u32 0, .int .u32 0, .bool false, .bool false, .int .u32 0, .int .u32 0, .int .u32 0, .int .u32 0, .int .u32 0, .int .u32 0, .int .u32 0, .int .u32 0, .int .u32 0, .int .u32 0, .int .u32 0, .int .u32 0, .int .u32 0, .int .u32 0, .int .u32 0, .int .u32 0, .bool false, .bool false, .int .u32 0, .int .u32 0, .int .u32 0, .int .u32 0, .int .u32 0, .int .u32 0, .int .u32 0, .int .u32 0, .int .u32 0, .int .u32 0, .int .u32 0, .int .u32 0, .int .u32 0, .int .u32 0, .int .u32 0, .int .u32 0, .bool false, .bool false, .int .u32 0, .int .u32 0, .int .u32 0, .int .u32 0, .int .u32 0, .int .u32 0, .int .u32 0, .int .u32 0, .int .u32 0, .int .u32 0, .int .u32 0, .int .u32 0, .int .u32 0, .int .u32 0, .int .u32 0, .int .u32 0], .agg #[.bool false, .bool false, .int .u32 0, .int .u32 0, .int .u32 0, .int .u32 0, .int .u32 0, .int .u32 0, .int .u32 0, .int .u32 0, .int .u32 0, .int .u32 0, .int .u32 0, .int .u32 0, .int .u32 0, .int .u32 0, .int .u32 0, .int .u32 0, .bool false, .bool false, .int .u32 0, .int .u32 0, .int .u32 0, .int .u32 0, .int .u32 0, .int .u32 0, .int .u32 0, .int .u32 0, .int .u32 0, .int .u32 0, .int .u32 0, .int .u32 0, .int .u32 0, .int .u32 0, .int .u32 0, .int .u32 0], .agg #[.int .i64 0, .int .i64 0, .int .i64 0]], []⟩ 8 (by kernel_rfl) (by kernel_rfl) (by kernel_rfl) (by kernel_rfl)) ?_
  intro W base args ds gs before hval0 hW hcnd _
  have hval : ∀ (j : Nat) t v, Tryz.f3.params[j]? = some t → args[j]? = some v → Value.okWide Tryz.prog W .any base t v := hval0
  have hW' := hW
  obtain ⟨p, q, hA0, hV, rfl, hfz, hnd⟩ := hW
  have hA : DataW.TrodAll enc Tryz.prog W 0 (fun _ => true) true Tryz.f3.params.toList args.toList ds p := hA0
  rw [Tryz.params3] at hA hval
  obtain ⟨v0, vs0, d0, ds0, p0, q0, hargs, rfl, rfl, h0, r0⟩ := trodAll_cons hA
  obtain ⟨v1, vs1, d1, ds1, p1, q1, rfl, rfl, rfl, h1, r1⟩ := trodAll_cons r0
  obtain ⟨v2, vs2, d2, ds2, p2, q2, rfl, rfl, rfl, h2, r2⟩ := trodAll_cons r1
  obtain ⟨v3, vs3, d3, ds3, p3, q3, rfl, rfl, rfl, h3, r3⟩ := trodAll_cons r2
  obtain ⟨rfl, rfl, rfl⟩ := trodAll_nil r3
  obtain rfl : args = #[v0, v1, v2, v3] := by cases args; simp_all
  obtain ⟨rfl, rfl⟩ := trodVars_none hV
  obtain ⟨cs0, rfl⟩ := okWide_agg ia_29 (hval 0 29 v0 rfl rfl)
  have k0 := h0
  have lt0 : ∀ x ∈ p0, x.block < W.heap.size := by obtain ⟨m, hm⟩ := k0; exact DataW.trod_lt m _ _ _ hm
  have w0 : LWF cs0 (LI ++ (LI ++ (LI ++ (LI ++ (LI ++ LI))))) := wf_Trod lz_29 h0
  obtain ⟨c0_0, e0_0, rfl, u0_0, w0_0⟩ := LWF.split w0
  obtain ⟨x0_0, rfl⟩ := openI u0_0
  obtain ⟨c0_1, e0_1, rfl, u0_1, w0_1⟩ := LWF.split w0_0
  obtain ⟨x0_1, rfl⟩ := openI u0_1
  obtain ⟨c0_2, e0_2, rfl, u0_2, w0_2⟩ := LWF.split w0_1
  obtain ⟨x0_2, rfl⟩ := openI u0_2
  obtain ⟨c0_3, e0_3, rfl, u0_3, w0_3⟩ := LWF.split w0_2
  obtain ⟨x0_3, rfl⟩ := openI u0_3
  obtain ⟨c0_4, e0_4, rfl, u0_4, w0_4⟩ := LWF.split w0_3
  obtain ⟨x0_4, rfl⟩ := openI u0_4
  obtain ⟨x0_5, rfl⟩ := openI w0_4
  obtain ⟨cs1, rfl⟩ := okWide_agg ia_29 (hval 1 29 v1 rfl rfl)
  have k1 := h1
  have lt1 : ∀ x ∈ p1, x.block < W.heap.size := by obtain ⟨m, hm⟩ := k1; exact DataW.trod_lt m _ _ _ hm
  have w1 : LWF cs1 (LI ++ (LI ++ (LI ++ (LI ++ (LI ++ LI))))) := wf_Trod lz_29 h1
  obtain ⟨c1_0, e1_0, rfl, u1_0, w1_0⟩ := LWF.split w1
  obtain ⟨x1_0, rfl⟩ := openI u1_0
  obtain ⟨c1_1, e1_1, rfl, u1_1, w1_1⟩ := LWF.split w1_0
  obtain ⟨x1_1, rfl⟩ := openI u1_1
  obtain ⟨c1_2, e1_2, rfl, u1_2, w1_2⟩ := LWF.split w1_1
  obtain ⟨x1_2, rfl⟩ := openI u1_2
  obtain ⟨c1_3, e1_3, rfl, u1_3, w1_3⟩ := LWF.split w1_2
  obtain ⟨x1_3, rfl⟩ := openI u1_3
  obtain ⟨c1_4, e1_4, rfl, u1_4, w1_4⟩ := LWF.split w1_3
  obtain ⟨x1_4, rfl⟩ := openI u1_4
  obtain ⟨x1_5, rfl⟩ := openI w1_4
  obtain ⟨cs2, rfl⟩ := okWide_agg ia_27 (hval 2 27 v2 rfl rfl)
  have k2 := h2
  have lt2 : ∀ x ∈ p2, x.block < W.heap.size := by obtain ⟨m, hm⟩ := k2; exact DataW.trod_lt m _ _ _ hm
  have w2 : LWF cs2 (LI ++ LI) := wf_Trod lz_27 h2
  obtain ⟨c2_0, e2_0, rfl, u2_0, w2_0⟩ := LWF.split w2
  obtain ⟨x2_0, rfl⟩ := openI u2_0
  obtain ⟨x2_1, rfl⟩ := openI w2_0
  obtain ⟨cs3, rfl⟩ := okWide_agg ia_31 (hval 3 31 v3 rfl rfl)
  have k3 := h3
  have lt3 : ∀ x ∈ p3, x.block < W.heap.size := by obtain ⟨m, hm⟩ := k3; exact DataW.trod_lt m _ _ _ hm
  have w3 : LWF cs3 ([some .i64] ++ ([some .i64] ++ [some .i64])) := wf_Trod lz_31 h3
  obtain ⟨c3_0, e3_0, rfl, u3_0, w3_0⟩ := LWF.split w3
  obtain ⟨x3_0, rfl⟩ := openW u3_0
  obtain ⟨c3_1, e3_1, rfl, u3_1, w3_1⟩ := LWF.split w3_0
  obtain ⟨x3_1, rfl⟩ := openW u3_1
  obtain ⟨x3_2, rfl⟩ := openW w3_1
  clear hA0 hval0
  refine (skewbacklaw06_VectorRationalsMatchSpec_ret ⟨⟨x0_0, x0_1⟩, ⟨x0_2, x0_3⟩, ⟨x0_4, x0_5⟩⟩ ⟨⟨x1_0, x1_1⟩, ⟨x1_2, x1_3⟩, ⟨x1_4, x1_5⟩⟩ ⟨x2_0, x2_1⟩ ⟨x3_0, x3_1, x3_2⟩ W).mono fun e W' ⟨he, bel⟩ => ?_
  rw [VectorRationals_true] at he
  subst he
  exact ⟨_, rfl, _, _, _, [], _, [], hW', trodAll_mk1 (shut_bool Tryz.underlying4 _), (trodAll_cons_mk (Below.trod laidOut (by kernel_rfl) (of_decide_eq_true (by kernel_rfl)) k0 bel lt0) (trodAll_cons_mk (Below.trod laidOut (by kernel_rfl) (of_decide_eq_true (by kernel_rfl)) k1 bel lt1) (trodAll_cons_mk (Below.trod laidOut (by kernel_rfl) (of_decide_eq_true (by kernel_rfl)) k2 bel lt2) (trodAll_cons_mk (Below.trod laidOut (by kernel_rfl) (of_decide_eq_true (by kernel_rfl)) k3 bel lt3) trodAll_mk0)))), rfl, bel.frame _, fun h => by cases h⟩
theorem holds : Rows.VectorRationalsMatchSpecSaid :=
  OpenClaim.holds_of_wide 3 Tryz.f3 rfl rfl rfl rfl rfl rfl rfl ⟨rfl, rfl, rfl, rfl, rfl⟩ rfl rfl rfl rfl rfl (by kernel_rfl) Tryz.func3 (by kernel_rfl)
    (of_decide_eq_true (by kernel_rfl)) (by unfold Func.isWrapper; first | (rw [if_pos (by decide +kernel)]; kernel_rfl) | (rw [if_neg (by decide +kernel)]; exact ⟨rfl, rfl⟩))
    (fun os started H enc _ => lifted os started H enc)
#print axioms holds
end Go.Proofs.YthbjhbmpfeeilaaGreat
