/- The Go function skewbacklaw06.VectorOrients returns true for every input, and leaves its arguments as they were. Conditions: none. -/
import Derived.Test.YthbjhbmpfeeilaaRows
import Derived.Test.YthbjhbmpfeeilaaHo
import Derived.Test.YthbjhbmpfeeilaaL4
import Derived.Test.YthbjhbmpfeeilaaPc
set_option linter.unusedVariables false
set_option linter.unusedSimpArgs false
namespace Go.Proofs.Ythbjhbmpfeeilaa
open Go.Kn Go.Num Go.ChangeShapes Go.WideShapes Go.ChangeAt Go.RowKit
theorem own : ownKnob Try.prog.godebug = none := by kernel_rfl
theorem laidOut : laidOutB Try.prog = true := by kernel_rfl
theorem lz_23 : lz Try.prog 8 23 = some ([some .i64] ++ ([some .i64] ++ [some .i64])) := by kernel_rfl
theorem ia_23 : isAggT Try.prog 23 = true := by kernel_rfl
set_option maxRecDepth 100000 in
theorem lifted (os : Os) (started : os.Started) (H : Type) (enc : TypeId × Value → H) :
    ReturnsInHanded {} Try.checked os 6 .any (Rows.vectorOrientsSpec.pre6 enc Try.prog Try.f6 Rows.vectorOrientsRow.domain false) (Rows.vectorOrientsSpec.post enc Try.prog Try.f6 false true false false) := by
  refine returnsInHanded_of_change (C := Try.checked) own started (by kernel_rfl) Try.func6
    (ChangeSpec.witness6 (enc := enc) (C := Try.checked) false ⟨#[], #[.agg #[.int .i64 0, .int .i64 0, .int .i64 0], .agg #[.int .i64 0, .int .i64 0, .int .i64 0], .agg #[.int .i64 0, .int .i64 0, .int .i64 0], .agg #[.int .i64 0, .int .i64 0, .int .i64 0], .agg #[.int .i64 0, .int .i64 0, .int .i64 0]], []⟩ 8 (by kernel_rfl) (by kernel_rfl) (by kernel_rfl) (by kernel_rfl)) ?_
  intro W base args ds gs before hval0 hW hcnd _
  have hval : ∀ (j : Nat) t v, Try.f6.params[j]? = some t → args[j]? = some v → Value.okWide Try.prog W .any base t v := hval0
  have hW' := hW
  obtain ⟨p, q, hA0, hV, rfl, hfz, hnd⟩ := hW
  have hA : DataW.TrodAll enc Try.prog W 0 (fun _ => true) true Try.f6.params.toList args.toList ds p := hA0
  rw [Try.params6] at hA hval
  obtain ⟨v0, vs0, d0, ds0, p0, q0, hargs, rfl, rfl, h0, r0⟩ := trodAll_cons hA
  obtain ⟨v1, vs1, d1, ds1, p1, q1, rfl, rfl, rfl, h1, r1⟩ := trodAll_cons r0
  obtain ⟨v2, vs2, d2, ds2, p2, q2, rfl, rfl, rfl, h2, r2⟩ := trodAll_cons r1
  obtain ⟨v3, vs3, d3, ds3, p3, q3, rfl, rfl, rfl, h3, r3⟩ := trodAll_cons r2
  obtain ⟨v4, vs4, d4, ds4, p4, q4, rfl, rfl, rfl, h4, r4⟩ := trodAll_cons r3
  obtain ⟨rfl, rfl, rfl⟩ := trodAll_nil r4
  obtain rfl : args = #[v0, v1, v2, v3, v4] := by cases args; simp_all
  obtain ⟨rfl, rfl⟩ := trodVars_none hV
  obtain ⟨cs0, rfl⟩ := okWide_agg ia_23 (hval 0 23 v0 rfl rfl)
  have k0 := h0
  have lt0 : ∀ x ∈ p0, x.block < W.heap.size := by obtain ⟨m, hm⟩ := k0; exact DataW.trod_lt m _ _ _ hm
  have w0 : LWF cs0 ([some .i64] ++ ([some .i64] ++ [some .i64])) := wf_Trod lz_23 h0
  obtain ⟨c0_0, e0_0, rfl, u0_0, w0_0⟩ := LWF.split w0
  obtain ⟨x0_0, rfl⟩ := openW u0_0
  obtain ⟨c0_1, e0_1, rfl, u0_1, w0_1⟩ := LWF.split w0_0
  obtain ⟨x0_1, rfl⟩ := openW u0_1
  obtain ⟨x0_2, rfl⟩ := openW w0_1
  obtain ⟨cs1, rfl⟩ := okWide_agg ia_23 (hval 1 23 v1 rfl rfl)
  have k1 := h1
  have lt1 : ∀ x ∈ p1, x.block < W.heap.size := by obtain ⟨m, hm⟩ := k1; exact DataW.trod_lt m _ _ _ hm
  have w1 : LWF cs1 ([some .i64] ++ ([some .i64] ++ [some .i64])) := wf_Trod lz_23 h1
  obtain ⟨c1_0, e1_0, rfl, u1_0, w1_0⟩ := LWF.split w1
  obtain ⟨x1_0, rfl⟩ := openW u1_0
  obtain ⟨c1_1, e1_1, rfl, u1_1, w1_1⟩ := LWF.split w1_0
  obtain ⟨x1_1, rfl⟩ := openW u1_1
  obtain ⟨x1_2, rfl⟩ := openW w1_1
  obtain ⟨cs2, rfl⟩ := okWide_agg ia_23 (hval 2 23 v2 rfl rfl)
  have k2 := h2
  have lt2 : ∀ x ∈ p2, x.block < W.heap.size := by obtain ⟨m, hm⟩ := k2; exact DataW.trod_lt m _ _ _ hm
  have w2 : LWF cs2 ([some .i64] ++ ([some .i64] ++ [some .i64])) := wf_Trod lz_23 h2
  obtain ⟨c2_0, e2_0, rfl, u2_0, w2_0⟩ := LWF.split w2
  obtain ⟨x2_0, rfl⟩ := openW u2_0
  obtain ⟨c2_1, e2_1, rfl, u2_1, w2_1⟩ := LWF.split w2_0
  obtain ⟨x2_1, rfl⟩ := openW u2_1
  obtain ⟨x2_2, rfl⟩ := openW w2_1
  obtain ⟨cs3, rfl⟩ := okWide_agg ia_23 (hval 3 23 v3 rfl rfl)
  have k3 := h3
  have lt3 : ∀ x ∈ p3, x.block < W.heap.size := by obtain ⟨m, hm⟩ := k3; exact DataW.trod_lt m _ _ _ hm
  have w3 : LWF cs3 ([some .i64] ++ ([some .i64] ++ [some .i64])) := wf_Trod lz_23 h3
  obtain ⟨c3_0, e3_0, rfl, u3_0, w3_0⟩ := LWF.split w3
  obtain ⟨x3_0, rfl⟩ := openW u3_0
  obtain ⟨c3_1, e3_1, rfl, u3_1, w3_1⟩ := LWF.split w3_0
  obtain ⟨x3_1, rfl⟩ := openW u3_1
  obtain ⟨x3_2, rfl⟩ := openW w3_1
  obtain ⟨cs4, rfl⟩ := okWide_agg ia_23 (hval 4 23 v4 rfl rfl)
  have k4 := h4
  have lt4 : ∀ x ∈ p4, x.block < W.heap.size := by obtain ⟨m, hm⟩ := k4; exact DataW.trod_lt m _ _ _ hm
  have w4 : LWF cs4 ([some .i64] ++ ([some .i64] ++ [some .i64])) := wf_Trod lz_23 h4
  obtain ⟨c4_0, e4_0, rfl, u4_0, w4_0⟩ := LWF.split w4
  obtain ⟨x4_0, rfl⟩ := openW u4_0
  obtain ⟨c4_1, e4_1, rfl, u4_1, w4_1⟩ := LWF.split w4_0
  obtain ⟨x4_1, rfl⟩ := openW u4_1
  obtain ⟨x4_2, rfl⟩ := openW w4_1
  clear hA0 hval0
  refine (skewbacklaw06_VectorOrients_ret ⟨x0_0, x0_1, x0_2⟩ ⟨x1_0, x1_1, x1_2⟩ ⟨x2_0, x2_1, x2_2⟩ ⟨x3_0, x3_1, x3_2⟩ ⟨x4_0, x4_1, x4_2⟩ W).mono fun e W' ⟨he, bel⟩ => ?_
  rw [VectorOrients_true] at he
  subst he
  exact ⟨_, rfl, _, _, _, [], _, [], hW', trodAll_mk1 (shut_bool Try.underlying4 _), (trodAll_cons_mk (Below.trod laidOut (by kernel_rfl) (of_decide_eq_true (by kernel_rfl)) k0 bel lt0) (trodAll_cons_mk (Below.trod laidOut (by kernel_rfl) (of_decide_eq_true (by kernel_rfl)) k1 bel lt1) (trodAll_cons_mk (Below.trod laidOut (by kernel_rfl) (of_decide_eq_true (by kernel_rfl)) k2 bel lt2) (trodAll_cons_mk (Below.trod laidOut (by kernel_rfl) (of_decide_eq_true (by kernel_rfl)) k3 bel lt3) (trodAll_cons_mk (Below.trod laidOut (by kernel_rfl) (of_decide_eq_true (by kernel_rfl)) k4 bel lt4) trodAll_mk0))))), rfl, bel.frame _, fun h => by cases h⟩
theorem holds : Rows.VectorOrientsSaid :=
  OpenClaim.holds_of_wide 6 Try.f6 rfl rfl rfl rfl rfl rfl rfl ⟨rfl, rfl, rfl, rfl, rfl⟩ rfl rfl rfl rfl rfl (by kernel_rfl) Try.func6 (by kernel_rfl)
    (of_decide_eq_true (by kernel_rfl)) (by unfold Func.isWrapper; first | (rw [if_pos (by decide +kernel)]; kernel_rfl) | (rw [if_neg (by decide +kernel)]; exact ⟨rfl, rfl⟩))
    (fun os started H enc _ => lifted os started H enc)
#print axioms holds
end Go.Proofs.Ythbjhbmpfeeilaa
