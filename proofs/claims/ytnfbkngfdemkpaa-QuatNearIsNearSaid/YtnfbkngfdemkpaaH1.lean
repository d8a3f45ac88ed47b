/- The Go function skewbacklaw10.QuatNearIsNear returns true for every input, and leaves its arguments as they were. Conditions: none. -/
import Derived.Test.YtnfbkngfdemkpaaRows
import Derived.Test.YtnfbkngfdemkpaaGD
import Derived.Test.YtnfbkngfdemkpaaQl
import Derived.Test.YtnfbkngfdemkpaaPn
set_option linter.unusedVariables false
set_option linter.unusedSimpArgs false
namespace Go.Proofs.Ytnfbkngfdemkpaa
open Go.Kn Go.Num Go.ChangeShapes Go.WideShapes Go.ChangeAt Go.RowKit
theorem own : ownKnob Try.prog.godebug = none := by kernel_rfl
theorem laidOut : laidOutB Try.prog = true := by kernel_rfl
theorem lz_22 : lz Try.prog 8 22 = some ([some .i64] ++ ([some .i64] ++ ([some .i64] ++ [some .i64]))) := by kernel_rfl
theorem ia_22 : isAggT Try.prog 22 = true := by kernel_rfl
set_option maxRecDepth 100000 in
theorem lifted (os : Os) (started : os.Started) (H : Type) (enc : TypeId × Value → H) :
    ReturnsInHanded {} Try.checked os 3 .any (Rows.quatNearIsNearSpec.pre6 enc Try.prog Try.f3 Rows.quatNearIsNearRow.domain false) (Rows.quatNearIsNearSpec.post enc Try.prog Try.f3 false true false false) := by
  refine returnsInHanded_of_change (C := Try.checked) own started (by kernel_rfl) Try.func3
    (ChangeSpec.witness6 (enc := enc) (C := Try.checked) false ⟨#[], #[.agg #[.int .i64 0, .int .i64 0, .int .i64 0, .int .i64 0], .int .i8 0], []⟩ 8 (by kernel_rfl) (by kernel_rfl) (by kernel_rfl) (by kernel_rfl)) ?_
  intro W base args ds gs before hval0 hW hcnd _
  have hval : ∀ (j : Nat) t v, Try.f3.params[j]? = some t → args[j]? = some v → Value.okWide Try.prog W .any base t v := hval0
  have hW' := hW
  obtain ⟨p, q, hA0, hV, rfl, hfz, hnd⟩ := hW
  have hA : DataW.TrodAll enc Try.prog W 0 (fun _ => true) true Try.f3.params.toList args.toList ds p := hA0
  rw [Try.params3] at hA hval
  obtain ⟨v0, vs0, d0, ds0, p0, q0, hargs, rfl, rfl, h0, r0⟩ := trodAll_cons hA
  obtain ⟨v1, vs1, d1, ds1, p1, q1, rfl, rfl, rfl, h1, r1⟩ := trodAll_cons r0
  obtain ⟨rfl, rfl, rfl⟩ := trodAll_nil r1
  obtain rfl : args = #[v0, v1] := by cases args; simp_all
  obtain ⟨rfl, rfl⟩ := trodVars_none hV
  obtain ⟨cs0, rfl⟩ := okWide_agg ia_22 (hval 0 22 v0 rfl rfl)
  have k0 := h0
  have lt0 : ∀ x ∈ p0, x.block < W.heap.size := by obtain ⟨m, hm⟩ := k0; exact DataW.trod_lt m _ _ _ hm
  have w0 : LWF cs0 ([some .i64] ++ ([some .i64] ++ ([some .i64] ++ [some .i64]))) := wf_Trod lz_22 h0
  obtain ⟨c0_0, e0_0, rfl, u0_0, w0_0⟩ := LWF.split w0
  obtain ⟨x0_0, rfl⟩ := openW u0_0
  obtain ⟨c0_1, e0_1, rfl, u0_1, w0_1⟩ := LWF.split w0_0
  obtain ⟨x0_1, rfl⟩ := openW u0_1
  obtain ⟨c0_2, e0_2, rfl, u0_2, w0_2⟩ := LWF.split w0_1
  obtain ⟨x0_2, rfl⟩ := openW u0_2
  obtain ⟨x0_3, rfl⟩ := openW w0_2
  obtain ⟨x1_0, rfl, hb1⟩ := okWideK Try.underlying23 (hval 1 23 v1 rfl rfl)
  have k1 := h1
  have lt1 : ∀ x ∈ p1, x.block < W.heap.size := by obtain ⟨m, hm⟩ := k1; exact DataW.trod_lt m _ _ _ hm
  clear hA0 hval0
  refine (skewbacklaw10_QuatNearIsNear_ret ⟨x0_0, x0_1, x0_2, x0_3⟩ x1_0 W).mono fun e W' ⟨he, bel⟩ => ?_
  rw [QuatNear_true _ _ (i8_rng hb1)] at he
  subst he
  exact ⟨_, rfl, _, _, _, [], _, [], hW', trodAll_mk1 (shut_bool Try.underlying4 _), (trodAll_cons_mk (Below.trod laidOut (by kernel_rfl) (of_decide_eq_true (by kernel_rfl)) k0 bel lt0) (trodAll_cons_mk (Below.trod laidOut (by kernel_rfl) (of_decide_eq_true (by kernel_rfl)) k1 bel lt1) trodAll_mk0)), rfl, bel.frame _, fun h => by cases h⟩
theorem holds : Rows.QuatNearIsNearSaid :=
  OpenClaim.holds_of_wide 3 Try.f3 rfl rfl rfl rfl rfl rfl rfl ⟨rfl, rfl, rfl, rfl, rfl⟩ rfl rfl rfl rfl rfl (by kernel_rfl) Try.func3 (by kernel_rfl)
    (of_decide_eq_true (by kernel_rfl)) (by unfold Func.isWrapper; first | (rw [if_pos (by decide +kernel)]; kernel_rfl) | (rw [if_neg (by decide +kernel)]; exact ⟨rfl, rfl⟩))
    (fun os started H enc _ => lifted os started H enc)
#print axioms holds
end Go.Proofs.Ytnfbkngfdemkpaa
