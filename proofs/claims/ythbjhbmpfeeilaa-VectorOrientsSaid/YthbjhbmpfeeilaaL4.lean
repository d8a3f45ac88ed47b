/- Walks: what these functions return. -/
import Derived.Test.YthbjhbmpfeeilaaFa0
import Derived.Test.YthbjhbmpfeeilaaFn
import Derived.Test.YthbjhbmpfeeilaaLa
import Derived.Test.YthbjhbmpfeeilaaRa
import Derived.Test.YthbjhbmpfeeilaaVa
import Derived.Test.YthbjhbmpfeeilaaVd
namespace Go.Proofs.Ythbjhbmpfeeilaa
open Go.Kn Go.Num
set_option linter.unusedVariables false
set_option linter.unusedSimpArgs false
set_option maxRecDepth 20000
set_option maxHeartbeats 8000000
theorem skewbacklaw06_VectorOrients_ret (a : (A3 W)) (b : (A3 W)) (c : (A3 W)) (d : (A3 W)) (e : (A3 W)) :
    Ret Try.prog 6 [AV [ci .i64 a.x.1, ci .i64 a.y.1, ci .i64 a.z.1], AV [ci .i64 b.x.1, ci .i64 b.y.1, ci .i64 b.z.1], AV [ci .i64 c.x.1, ci .i64 c.y.1, ci .i64 c.z.1], AV [ci .i64 d.x.1, ci .i64 d.y.1, ci .i64 d.z.1], AV [ci .i64 e.x.1, ci .i64 e.y.1, ci .i64 e.z.1]] (.bool (F_skewbacklaw06_VectorOrients a b c d e)) := by
 refine ret_of_W (N := 113) Try.func6 rfl rfl (by simp) (fun w0 => ?_)
 simp only [initF, Nat.reduceAdd]
 refine W_sr (fun K1 hK1 => ?_)
 refine WL_r rfl (r_boxp rfl rfl (fun b1 hb1 => ?_))
 refine WL_r rfl (r_boxp rfl rfl (fun b2 hb2 => ?_))
 refine WL_r rfl (r_boxp rfl rfl (fun b3 hb3 => ?_))
 refine WL_r rfl (r_boxp rfl rfl (fun b4 hb4 => ?_))
 refine WL_r rfl (r_boxp rfl rfl (fun b5 hb5 => ?_))
 refine WL_q rfl (q_assign rfl) ?_
 refine WL_nil (hK1 _ _ ?_)
 clear hK1 K1
 refine W_sr (fun K1 hK1 => ?_)
 refine WL_q rfl (q_loadp ty_23 rfl m4 rfl) ?_
 refine WL_q rfl (q_loadp ty_23 rfl m3 rfl) ?_
 refine WL_q rfl (q_loadp ty_23 rfl m2 rfl) ?_
 refine WL_q rfl (q_loadp ty_23 rfl m1 rfl) ?_
 refine WL_q rfl (q_ret en_23 (vector_Orient_ret a b c d) rfl) ?_
 refine WL_q rfl (q_assign rfl) ?_
 refine WL_nil (hK1 _ _ ?_)
 clear hK1 K1
 refine W_seq (fun K_1 hK_1 => ?_)
 refine W_join [17, 18, 19, 20, 21, 22, 23, 24, 25, 26, 27, 28, 29, 30, 31, 32, 33, 34, 35, 36, 37, 38, 39, 40, 41, 42, 43, 44, 45, 46, 47, 48, 49, 50, 51, 52, 53, 54, 55, 56, 57, 58, 59, 60, 61, 62, 63, 64, 65, 66, 67, 68, 69, 70] (fun g M => (g 70 = .bool (((F_vector_Orient a b c d).1 != (F_skewbackref06_Orient a b c d).1) || (((F_vector_Orient b a c d).1 != (W.neg (F_vector_Orient a b c d)).1) || (((F_vector_Orient a c b d).1 != (W.neg (F_vector_Orient a b c d)).1) || (((F_vector_Orient a b d c).1 != (W.neg (F_vector_Orient a b c d)).1) || (((F_vector_Orient b c a d).1 != (F_vector_Orient a b c d).1) || ((F_vector_Orient a a c d).1 != 0))))))) ∧ M = [⟨b5, 23, flat [ci .i64 e.x.1, ci .i64 e.y.1, ci .i64 e.z.1]⟩, ⟨b4, 23, flat [ci .i64 d.x.1, ci .i64 d.y.1, ci .i64 d.z.1]⟩, ⟨b3, 23, flat [ci .i64 c.x.1, ci .i64 c.y.1, ci .i64 c.z.1]⟩, ⟨b2, 23, flat [ci .i64 b.x.1, ci .i64 b.y.1, ci .i64 b.z.1]⟩, ⟨b1, 23, flat [ci .i64 a.x.1, ci .i64 a.y.1, ci .i64 a.z.1]⟩]) (fun K_2 hK_2 => ?_) ?_
 ·skip
  refine W_region_k (fun K1 hK1 => ?_)
  refine WL_q rfl (q_move rfl) ?_
  refine WL_q rfl (q_loadp ty_23 rfl m4 rfl) ?_
  refine WL_q rfl (q_loadp ty_23 rfl m3 rfl) ?_
  refine WL_q rfl (q_loadp ty_23 rfl m2 rfl) ?_
  refine WL_q rfl (q_loadp ty_23 rfl m1 rfl) ?_
  refine WL_q rfl (q_ret en_24 (skewbackref06_Orient_ret a b c d) rfl) ?_
  refine WL_q rfl (q_as (v' := .bool ((F_vector_Orient a b c d).1 != (F_skewbackref06_Orient a b c d).1)) (q_neq rfl rfl) rfl) ?_
  rcases bt ((F_vector_Orient a b c d).1 != (F_skewbackref06_Orient a b c d).1) with h11 | h11
  ·skip
   refine WL_q rfl (q_as (v' := .bool true) (q_move rfl) (congrArg Value.bool h11)) ?_
   refine WL_n rfl ?_
   refine WL_n rfl ?_
   refine WL_n rfl ?_
   refine WL_n rfl ?_
   refine WL_n rfl ?_
   refine WL_n rfl ?_
   refine WL_n rfl ?_
   refine WL_n rfl ?_
   refine WL_q rfl (q_pick rfl rfl) ?_
   refine WL_q rfl (q_move rfl) ?_
   refine WL_n rfl ?_
   refine WL_n rfl ?_
   refine WL_n rfl ?_
   refine WL_n rfl ?_
   refine WL_n rfl ?_
   refine WL_n rfl ?_
   refine WL_n rfl ?_
   refine WL_n rfl ?_
   refine WL_q rfl (q_pick rfl rfl) ?_
   refine WL_q rfl (q_move rfl) ?_
   refine WL_n rfl ?_
   refine WL_n rfl ?_
   refine WL_n rfl ?_
   refine WL_n rfl ?_
   refine WL_n rfl ?_
   refine WL_n rfl ?_
   refine WL_n rfl ?_
   refine WL_n rfl ?_
   refine WL_q rfl (q_pick rfl rfl) ?_
   refine WL_q rfl (q_move rfl) ?_
   refine WL_n rfl ?_
   refine WL_n rfl ?_
   refine WL_n rfl ?_
   refine WL_n rfl ?_
   refine WL_n rfl ?_
   refine WL_n rfl ?_
   refine WL_n rfl ?_
   refine WL_q rfl (q_pick rfl rfl) ?_
   refine WL_q rfl (q_move rfl) ?_
   refine WL_n rfl ?_
   refine WL_n rfl ?_
   refine WL_n rfl ?_
   refine WL_n rfl ?_
   refine WL_n rfl ?_
   refine WL_n rfl ?_
   refine WL_q rfl (q_pick rfl rfl) ?_
   refine WL_nil (hK1 _ _ ?_)
   clear hK1 K1
   refine hK_2 _ _ (by repeat (first | exact .refl | refine .cons rfl ?_)) ⟨_, s0, ?s70, rfl⟩
   case s70 => exact congrArg Value.bool (or_t h11)
  ·skip
   refine WL_q rfl (q_as (v' := .bool false) (q_move rfl) (congrArg Value.bool h11)) ?_
   refine WL_q rfl (q_loadp ty_23 rfl m3 rfl) ?_
   refine WL_q rfl (q_loadp ty_23 rfl m4 rfl) ?_
   refine WL_q rfl (q_loadp ty_23 rfl m2 rfl) ?_
   refine WL_q rfl (q_loadp ty_23 rfl m1 rfl) ?_
   refine WL_q rfl (q_ret en_23 (vector_Orient_ret b a c d) rfl) ?_
   refine WL_q rfl (q_move rfl) ?_
   refine WL_q rfl (q_as (v' := .int .i64 ((W.neg (F_vector_Orient a b c d)).1)) (q_neg rfl) rfl) ?_
   refine WL_q rfl (q_as (v' := .bool ((F_vector_Orient b a c d).1 != (W.neg (F_vector_Orient a b c d)).1)) (q_neq rfl rfl) rfl) ?_
   refine WL_q rfl (q_pick rfl rfl) ?_
   rcases bt ((F_vector_Orient b a c d).1 != (W.neg (F_vector_Orient a b c d)).1) with h12 | h12
   ·skip
    refine WL_q rfl (q_as (v' := .bool true) (q_move rfl) (congrArg Value.bool h12)) ?_
    refine WL_n rfl ?_
    refine WL_n rfl ?_
    refine WL_n rfl ?_
    refine WL_n rfl ?_
    refine WL_n rfl ?_
    refine WL_n rfl ?_
    refine WL_n rfl ?_
    refine WL_n rfl ?_
    refine WL_q rfl (q_pick rfl rfl) ?_
    refine WL_q rfl (q_move rfl) ?_
    refine WL_n rfl ?_
    refine WL_n rfl ?_
    refine WL_n rfl ?_
    refine WL_n rfl ?_
    refine WL_n rfl ?_
    refine WL_n rfl ?_
    refine WL_n rfl ?_
    refine WL_n rfl ?_
    refine WL_q rfl (q_pick rfl rfl) ?_
    refine WL_q rfl (q_move rfl) ?_
    refine WL_n rfl ?_
    refine WL_n rfl ?_
    refine WL_n rfl ?_
    refine WL_n rfl ?_
    refine WL_n rfl ?_
    refine WL_n rfl ?_
    refine WL_n rfl ?_
    refine WL_q rfl (q_pick rfl rfl) ?_
    refine WL_q rfl (q_move rfl) ?_
    refine WL_n rfl ?_
    refine WL_n rfl ?_
    refine WL_n rfl ?_
    refine WL_n rfl ?_
    refine WL_n rfl ?_
    refine WL_n rfl ?_
    refine WL_q rfl (q_pick rfl rfl) ?_
    refine WL_nil (hK1 _ _ ?_)
    clear hK1 K1
    refine hK_2 _ _ (by repeat (first | exact .refl | refine .cons rfl ?_)) ⟨_, s0, ?s70, rfl⟩
    case s70 => exact congrArg Value.bool (or_f h11 (or_t h12))
   ·skip
    refine WL_q rfl (q_as (v' := .bool false) (q_move rfl) (congrArg Value.bool h12)) ?_
    refine WL_q rfl (q_loadp ty_23 rfl m4 rfl) ?_
    refine WL_q rfl (q_loadp ty_23 rfl m2 rfl) ?_
    refine WL_q rfl (q_loadp ty_23 rfl m3 rfl) ?_
    refine WL_q rfl (q_loadp ty_23 rfl m1 rfl) ?_
    refine WL_q rfl (q_ret en_23 (vector_Orient_ret a c b d) rfl) ?_
    refine WL_q rfl (q_move rfl) ?_
    refine WL_q rfl (q_as (v' := .int .i64 ((W.neg (F_vector_Orient a b c d)).1)) (q_neg rfl) rfl) ?_
    refine WL_q rfl (q_as (v' := .bool ((F_vector_Orient a c b d).1 != (W.neg (F_vector_Orient a b c d)).1)) (q_neq rfl rfl) rfl) ?_
    refine WL_q rfl (q_pick rfl rfl) ?_
    rcases bt ((F_vector_Orient a c b d).1 != (W.neg (F_vector_Orient a b c d)).1) with h13 | h13
    ·skip
     refine WL_q rfl (q_as (v' := .bool true) (q_move rfl) (congrArg Value.bool h13)) ?_
     refine WL_n rfl ?_
     refine WL_n rfl ?_
     refine WL_n rfl ?_
     refine WL_n rfl ?_
     refine WL_n rfl ?_
     refine WL_n rfl ?_
     refine WL_n rfl ?_
     refine WL_n rfl ?_
     refine WL_q rfl (q_pick rfl rfl) ?_
     refine WL_q rfl (q_move rfl) ?_
     refine WL_n rfl ?_
     refine WL_n rfl ?_
     refine WL_n rfl ?_
     refine WL_n rfl ?_
     refine WL_n rfl ?_
     refine WL_n rfl ?_
     refine WL_n rfl ?_
     refine WL_q rfl (q_pick rfl rfl) ?_
     refine WL_q rfl (q_move rfl) ?_
     refine WL_n rfl ?_
     refine WL_n rfl ?_
     refine WL_n rfl ?_
     refine WL_n rfl ?_
     refine WL_n rfl ?_
     refine WL_n rfl ?_
     refine WL_q rfl (q_pick rfl rfl) ?_
     refine WL_nil (hK1 _ _ ?_)
     clear hK1 K1
     refine hK_2 _ _ (by repeat (first | exact .refl | refine .cons rfl ?_)) ⟨_, s0, ?s70, rfl⟩
     case s70 => exact congrArg Value.bool (or_f h11 (or_f h12 (or_t h13)))
    ·skip
     refine WL_q rfl (q_as (v' := .bool false) (q_move rfl) (congrArg Value.bool h13)) ?_
     refine WL_q rfl (q_loadp ty_23 rfl m4 rfl) ?_
     refine WL_q rfl (q_loadp ty_23 rfl m3 rfl) ?_
     refine WL_q rfl (q_loadp ty_23 rfl m1 rfl) ?_
     refine WL_q rfl (q_loadp ty_23 rfl m2 rfl) ?_
     refine WL_q rfl (q_ret en_23 (vector_Orient_ret a b d c) rfl) ?_
     refine WL_q rfl (q_move rfl) ?_
     refine WL_q rfl (q_as (v' := .int .i64 ((W.neg (F_vector_Orient a b c d)).1)) (q_neg rfl) rfl) ?_
     refine WL_q rfl (q_as (v' := .bool ((F_vector_Orient a b d c).1 != (W.neg (F_vector_Orient a b c d)).1)) (q_neq rfl rfl) rfl) ?_
     refine WL_q rfl (q_pick rfl rfl) ?_
     rcases bt ((F_vector_Orient a b d c).1 != (W.neg (F_vector_Orient a b c d)).1) with h14 | h14
     ·skip
      refine WL_q rfl (q_as (v' := .bool true) (q_move rfl) (congrArg Value.bool h14)) ?_
      refine WL_n rfl ?_
      refine WL_n rfl ?_
      refine WL_n rfl ?_
      refine WL_n rfl ?_
      refine WL_n rfl ?_
      refine WL_n rfl ?_
      refine WL_n rfl ?_
      refine WL_q rfl (q_pick rfl rfl) ?_
      refine WL_q rfl (q_move rfl) ?_
      refine WL_n rfl ?_
      refine WL_n rfl ?_
      refine WL_n rfl ?_
      refine WL_n rfl ?_
      refine WL_n rfl ?_
      refine WL_n rfl ?_
      refine WL_q rfl (q_pick rfl rfl) ?_
      refine WL_nil (hK1 _ _ ?_)
      clear hK1 K1
      refine hK_2 _ _ (by repeat (first | exact .refl | refine .cons rfl ?_)) ⟨_, s0, ?s70, rfl⟩
      case s70 => exact congrArg Value.bool (or_f h11 (or_f h12 (or_f h13 (or_t h14))))
     ·skip
      refine WL_q rfl (q_as (v' := .bool false) (q_move rfl) (congrArg Value.bool h14)) ?_
      refine WL_q rfl (q_loadp ty_23 rfl m3 rfl) ?_
      refine WL_q rfl (q_loadp ty_23 rfl m2 rfl) ?_
      refine WL_q rfl (q_loadp ty_23 rfl m4 rfl) ?_
      refine WL_q rfl (q_loadp ty_23 rfl m1 rfl) ?_
      refine WL_q rfl (q_ret en_23 (vector_Orient_ret b c a d) rfl) ?_
      refine WL_q rfl (q_move rfl) ?_
      refine WL_q rfl (q_as (v' := .bool ((F_vector_Orient b c a d).1 != (F_vector_Orient a b c d).1)) (q_neq rfl rfl) rfl) ?_
      refine WL_q rfl (q_pick rfl rfl) ?_
      rcases bt ((F_vector_Orient b c a d).1 != (F_vector_Orient a b c d).1) with h15 | h15
      ·skip
       refine WL_q rfl (q_as (v' := .bool true) (q_move rfl) (congrArg Value.bool h15)) ?_
       refine WL_n rfl ?_
       refine WL_n rfl ?_
       refine WL_n rfl ?_
       refine WL_n rfl ?_
       refine WL_n rfl ?_
       refine WL_n rfl ?_
       refine WL_q rfl (q_pick rfl rfl) ?_
       refine WL_nil (hK1 _ _ ?_)
       clear hK1 K1
       refine hK_2 _ _ (by repeat (first | exact .refl | refine .cons rfl ?_)) ⟨_, s0, ?s70, rfl⟩
       case s70 => exact congrArg Value.bool (or_f h11 (or_f h12 (or_f h13 (or_f h14 (or_t h15)))))
      ·skip
       refine WL_q rfl (q_as (v' := .bool false) (q_move rfl) (congrArg Value.bool h15)) ?_
       refine WL_q rfl (q_loadp ty_23 rfl m4 rfl) ?_
       refine WL_q rfl (q_loadp ty_23 rfl m4 rfl) ?_
       refine WL_q rfl (q_loadp ty_23 rfl m2 rfl) ?_
       refine WL_q rfl (q_loadp ty_23 rfl m1 rfl) ?_
       refine WL_q rfl (q_ret en_23 (vector_Orient_ret a a c d) rfl) ?_
       refine WL_q rfl (q_as (v' := .bool ((F_vector_Orient a a c d).1 != 0)) (q_neq rfl rfl) rfl) ?_
       refine WL_q rfl (q_pick rfl rfl) ?_
       refine WL_nil (hK1 _ _ ?_)
       clear hK1 K1
       refine hK_2 _ _ (by repeat (first | exact .refl | refine .cons rfl ?_)) ⟨_, s0, ?s70, rfl⟩
       case s70 => exact congrArg Value.bool (or_f h11 (or_f h12 (or_f h13 (or_f h14 (or_f h15 rfl)))))
 ·skip
  rintro g16 M ⟨hg70, rfl⟩
  simp only [setG, hg70]
  clear hg70
  rcases bt (((F_vector_Orient a b c d).1 != (F_skewbackref06_Orient a b c d).1) || (((F_vector_Orient b a c d).1 != (W.neg (F_vector_Orient a b c d)).1) || (((F_vector_Orient a c b d).1 != (W.neg (F_vector_Orient a b c d)).1) || (((F_vector_Orient a b d c).1 != (W.neg (F_vector_Orient a b c d)).1) || (((F_vector_Orient b c a d).1 != (F_vector_Orient a b c d).1) || ((F_vector_Orient a a c d).1 != 0)))))) with h17 | h17
  ·skip
   refine W_t h17 rfl ?_
   refine W_sr (fun K1 hK1 => ?_)
   refine WL_q rfl (q_assign rfl) ?_
   refine WL_nil (hK1 _ _ ?_)
   clear hK1 K1
   refine W_ret ?_
   refine thenK_r (ret1 rfl (.inr rfl) rfl ?_)
   exact (by exact congrArg (fun r : Bool => (.bool r : Value)) (show _ = (F_skewbacklaw06_VectorOrients a b c d e) from bif_t h17 rfl))
  ·skip
   refine W_f h17 rfl ?_
   refine W_skip ?_
   refine hK_1 _ _ ?_
   try clear hK_1 K_1
   refine W_seq (fun K_3 hK_3 => ?_)
   refine W_join [71, 72, 73, 74, 75, 76, 77, 78, 79, 80, 81, 82, 83, 84, 85, 86, 87, 88, 89, 90, 91, 92, 93] (fun g M => (g 93 = .bool (!(F_skewbackref06_Small a) || (!(F_skewbackref06_Small b) || (!(F_skewbackref06_Small c) || (!(F_skewbackref06_Small d) || (!(F_skewbackref06_Small e))))))) ∧ M = [⟨b5, 23, flat [ci .i64 e.x.1, ci .i64 e.y.1, ci .i64 e.z.1]⟩, ⟨b4, 23, flat [ci .i64 d.x.1, ci .i64 d.y.1, ci .i64 d.z.1]⟩, ⟨b3, 23, flat [ci .i64 c.x.1, ci .i64 c.y.1, ci .i64 c.z.1]⟩, ⟨b2, 23, flat [ci .i64 b.x.1, ci .i64 b.y.1, ci .i64 b.z.1]⟩, ⟨b1, 23, flat [ci .i64 a.x.1, ci .i64 a.y.1, ci .i64 a.z.1]⟩]) (fun K_4 hK_4 => ?_) ?_
   ·skip
    refine W_region_k (fun K1 hK1 => ?_)
    refine WL_q rfl (q_loadp ty_23 rfl m4 rfl) ?_
    refine WL_q rfl (q_ret en_25 (skewbackref06_Small_ret a) rfl) ?_
    refine WL_q rfl (q_not rfl) ?_
    rcases bt (F_skewbackref06_Small a) with h22 | h22
    ·skip
     refine WL_q rfl (q_as (v' := .bool false) (q_move rfl) (congrArg Value.bool (not_f h22))) ?_
     refine WL_q rfl (q_loadp ty_23 rfl m3 rfl) ?_
     refine WL_q rfl (q_ret en_25 (skewbackref06_Small_ret b) rfl) ?_
     refine WL_q rfl (q_not rfl) ?_
     refine WL_q rfl (q_pick rfl rfl) ?_
     rcases bt (F_skewbackref06_Small b) with h23 | h23
     ·skip
      refine WL_q rfl (q_as (v' := .bool false) (q_move rfl) (congrArg Value.bool (not_f h23))) ?_
      refine WL_q rfl (q_loadp ty_23 rfl m2 rfl) ?_
      refine WL_q rfl (q_ret en_25 (skewbackref06_Small_ret c) rfl) ?_
      refine WL_q rfl (q_not rfl) ?_
      refine WL_q rfl (q_pick rfl rfl) ?_
      rcases bt (F_skewbackref06_Small c) with h24 | h24
      ·skip
       refine WL_q rfl (q_as (v' := .bool false) (q_move rfl) (congrArg Value.bool (not_f h24))) ?_
       refine WL_q rfl (q_loadp ty_23 rfl m1 rfl) ?_
       refine WL_q rfl (q_ret en_25 (skewbackref06_Small_ret d) rfl) ?_
       refine WL_q rfl (q_not rfl) ?_
       refine WL_q rfl (q_pick rfl rfl) ?_
       rcases bt (F_skewbackref06_Small d) with h25 | h25
       ·skip
        refine WL_q rfl (q_as (v' := .bool false) (q_move rfl) (congrArg Value.bool (not_f h25))) ?_
        refine WL_q rfl (q_loadp ty_23 rfl m0 rfl) ?_
        refine WL_q rfl (q_ret en_25 (skewbackref06_Small_ret e) rfl) ?_
        refine WL_q rfl (q_not rfl) ?_
        refine WL_q rfl (q_pick rfl rfl) ?_
        refine WL_nil (hK1 _ _ ?_)
        clear hK1 K1
        refine hK_4 _ _ (by repeat (first | exact .refl | refine .cons rfl ?_)) ⟨_, s0, ?s93, rfl⟩
        case s93 => exact congrArg Value.bool (nor_t h22 (nor_t h23 (nor_t h24 (nor_t h25 rfl))))
       ·skip
        refine WL_q rfl (q_as (v' := .bool true) (q_move rfl) (congrArg Value.bool (not_t h25))) ?_
        refine WL_n rfl ?_
        refine WL_n rfl ?_
        refine WL_n rfl ?_
        refine WL_q rfl (q_pick rfl rfl) ?_
        refine WL_nil (hK1 _ _ ?_)
        clear hK1 K1
        refine hK_4 _ _ (by repeat (first | exact .refl | refine .cons rfl ?_)) ⟨_, s0, ?s93, rfl⟩
        case s93 => exact congrArg Value.bool (nor_t h22 (nor_t h23 (nor_t h24 (nor_f h25))))
      ·skip
       refine WL_q rfl (q_as (v' := .bool true) (q_move rfl) (congrArg Value.bool (not_t h24))) ?_
       refine WL_n rfl ?_
       refine WL_n rfl ?_
       refine WL_n rfl ?_
       refine WL_q rfl (q_pick rfl rfl) ?_
       refine WL_q rfl (q_move rfl) ?_
       refine WL_n rfl ?_
       refine WL_n rfl ?_
       refine WL_n rfl ?_
       refine WL_q rfl (q_pick rfl rfl) ?_
       refine WL_nil (hK1 _ _ ?_)
       clear hK1 K1
       refine hK_4 _ _ (by repeat (first | exact .refl | refine .cons rfl ?_)) ⟨_, s0, ?s93, rfl⟩
       case s93 => exact congrArg Value.bool (nor_t h22 (nor_t h23 (nor_f h24)))
     ·skip
      refine WL_q rfl (q_as (v' := .bool true) (q_move rfl) (congrArg Value.bool (not_t h23))) ?_
      refine WL_n rfl ?_
      refine WL_n rfl ?_
      refine WL_n rfl ?_
      refine WL_q rfl (q_pick rfl rfl) ?_
      refine WL_q rfl (q_move rfl) ?_
      refine WL_n rfl ?_
      refine WL_n rfl ?_
      refine WL_n rfl ?_
      refine WL_q rfl (q_pick rfl rfl) ?_
      refine WL_q rfl (q_move rfl) ?_
      refine WL_n rfl ?_
      refine WL_n rfl ?_
      refine WL_n rfl ?_
      refine WL_q rfl (q_pick rfl rfl) ?_
      refine WL_nil (hK1 _ _ ?_)
      clear hK1 K1
      refine hK_4 _ _ (by repeat (first | exact .refl | refine .cons rfl ?_)) ⟨_, s0, ?s93, rfl⟩
      case s93 => exact congrArg Value.bool (nor_t h22 (nor_f h23))
    ·skip
     refine WL_q rfl (q_as (v' := .bool true) (q_move rfl) (congrArg Value.bool (not_t h22))) ?_
     refine WL_n rfl ?_
     refine WL_n rfl ?_
     refine WL_n rfl ?_
     refine WL_q rfl (q_pick rfl rfl) ?_
     refine WL_q rfl (q_move rfl) ?_
     refine WL_n rfl ?_
     refine WL_n rfl ?_
     refine WL_n rfl ?_
     refine WL_q rfl (q_pick rfl rfl) ?_
     refine WL_q rfl (q_move rfl) ?_
     refine WL_n rfl ?_
     refine WL_n rfl ?_
     refine WL_n rfl ?_
     refine WL_q rfl (q_pick rfl rfl) ?_
     refine WL_q rfl (q_move rfl) ?_
     refine WL_n rfl ?_
     refine WL_n rfl ?_
     refine WL_n rfl ?_
     refine WL_q rfl (q_pick rfl rfl) ?_
     refine WL_nil (hK1 _ _ ?_)
     clear hK1 K1
     refine hK_4 _ _ (by repeat (first | exact .refl | refine .cons rfl ?_)) ⟨_, s0, ?s93, rfl⟩
     case s93 => exact congrArg Value.bool (nor_f h22)
   ·skip
    rintro g26 M ⟨hg93, rfl⟩
    simp only [setG, hg93]
    clear hg93
    rcases bt (!(F_skewbackref06_Small a) || (!(F_skewbackref06_Small b) || (!(F_skewbackref06_Small c) || (!(F_skewbackref06_Small d) || (!(F_skewbackref06_Small e)))))) with h27 | h27
    ·skip
     refine W_t h27 rfl ?_
     refine W_sr (fun K1 hK1 => ?_)
     refine WL_q rfl (q_ret en_9 skewbacklaw06_sanity_ret  rfl) ?_
     refine WL_q rfl (q_assign rfl) ?_
     refine WL_nil (hK1 _ _ ?_)
     clear hK1 K1
     refine W_ret ?_
     refine thenK_r (ret1 rfl (.inr rfl) rfl ?_)
     exact (by exact congrArg (fun r : Bool => (.bool r : Value)) (show _ = (F_skewbacklaw06_VectorOrients a b c d e) from bif_f h17 (bif_t h27 rfl)))
    ·skip
     refine W_f h27 rfl ?_
     refine W_skip ?_
     refine hK_3 _ _ ?_
     try clear hK_3 K_3
     refine W_join [10, 95, 96, 97, 98, 99, 100, 101, 102, 103, 104, 105, 106, 107, 108, 109, 110, 111, 112] (fun g M => (g 10 = .bool (F_skewbacklaw06_sanity && ((F_vector_Orient (F_vector_Add a e) (F_vector_Add b e) (F_vector_Add c e) (F_vector_Add d e)).1 == (F_vector_Orient a b c d).1))) ∧ M = [⟨b5, 23, flat [ci .i64 e.x.1, ci .i64 e.y.1, ci .i64 e.z.1]⟩, ⟨b4, 23, flat [ci .i64 d.x.1, ci .i64 d.y.1, ci .i64 d.z.1]⟩, ⟨b3, 23, flat [ci .i64 c.x.1, ci .i64 c.y.1, ci .i64 c.z.1]⟩, ⟨b2, 23, flat [ci .i64 b.x.1, ci .i64 b.y.1, ci .i64 b.z.1]⟩, ⟨b1, 23, flat [ci .i64 a.x.1, ci .i64 a.y.1, ci .i64 a.z.1]⟩]) (fun K_5 hK_5 => ?_) ?_
     ·skip
      refine W_draw (sk (sk (sk (sk (sk (s0)))))) (.quiet 0 [1,2,3,4,5,6,7,8,9,10,11,12,13,14,15,16,17,18] (.quiet 1 [2,3,4,5,6,7,8,9,10,11,12,13,14,15,16,17,18] (.quiet 2 [4,7,10,13,14,16,17,18] (.quiet 3 [4,7,10,13,14,16,17,18] (.quiet 4 [7,10,13,14,16,17,18] (.quiet 5 [7,10,13,14,16,17,18] (.quiet 6 [7,10,13,14,16,17,18] (.quiet 7 [10,13,14,16,17,18] (.quiet 8 [10,13,14,16,17,18] (.quiet 9 [10,13,14,16,17,18] (.quiet 10 [13,14,16,17,18] (.quiet 11 [13,14,16,17,18] (.quiet 12 [13,14,16,17,18] (.quiet 13 [14,16,17,18] (.quiet 14 [16,17,18] (.quiet 15 [16,17,18] (.quiet 16 [17,18] (.quiet 17 [18] (.quiet 18 [] (.fin)))))))))))))))))))) [0,1,2,3,4,5,6,7,8,9,10,11,12,13,14,15,16,17,18] mix (by kernel_rfl) (by kernel_rfl) (fun K1 hK1 => ?_)
      refine PL_q rfl rfl (q_ret en_9 skewbacklaw06_sanity_ret  rfl) ?_
      rcases bt F_skewbacklaw06_sanity with h29 | h29
      ·skip
       refine PL_q rfl rfl (q_as (v' := .bool true) (q_move rfl) (congrArg Value.bool h29)) ?_
       refine PL_q rfl rfl (q_loadp ty_23 rfl m4 rfl) ?_
       refine PL_q rfl rfl (q_loadp ty_23 rfl m0 rfl) ?_
       refine PL_q rfl rfl (q_ret en_26 (vector_Add_ret a e) rfl) ?_
       refine PL_q rfl rfl (q_loadp ty_23 rfl m3 rfl) ?_
       refine PL_q rfl rfl (q_loadp ty_23 rfl m0 rfl) ?_
       refine PL_q rfl rfl (q_ret en_26 (vector_Add_ret b e) rfl) ?_
       refine PL_q rfl rfl (q_loadp ty_23 rfl m2 rfl) ?_
       refine PL_q rfl rfl (q_loadp ty_23 rfl m0 rfl) ?_
       refine PL_q rfl rfl (q_ret en_26 (vector_Add_ret c e) rfl) ?_
       refine PL_q rfl rfl (q_loadp ty_23 rfl m1 rfl) ?_
       refine PL_q rfl rfl (q_loadp ty_23 rfl m0 rfl) ?_
       refine PL_q rfl rfl (q_ret en_26 (vector_Add_ret d e) rfl) ?_
       refine PL_q rfl rfl (q_ret en_23 (vector_Orient_ret (F_vector_Add a e) (F_vector_Add b e) (F_vector_Add c e) (F_vector_Add d e)) rfl) ?_
       refine PL_q rfl rfl (q_move rfl) ?_
       refine PL_q rfl rfl (q_as (v' := .bool ((F_vector_Orient (F_vector_Add a e) (F_vector_Add b e) (F_vector_Add c e) (F_vector_Add d e)).1 == (F_vector_Orient a b c d).1)) (q_eql rfl rfl) rfl) ?_
       refine PL_q rfl rfl (q_pick rfl rfl) ?_
       refine PL_q rfl rfl (q_assign rfl) ?_
       refine PL_fin (hK1 _ _ ?_)
       clear hK1 K1
       refine hK_5 _ _ (by repeat (first | exact .refl | refine .cons rfl ?_)) ⟨_, s0, ?s10, rfl⟩
       case s10 => exact congrArg Value.bool (and_t h29 rfl)
      ·skip
       refine PL_q rfl rfl (q_as (v' := .bool false) (q_move rfl) (congrArg Value.bool h29)) ?_
       refine PL_n rfl rfl ?_
       refine PL_n rfl rfl ?_
       refine PL_n rfl rfl ?_
       refine PL_n rfl rfl ?_
       refine PL_n rfl rfl ?_
       refine PL_n rfl rfl ?_
       refine PL_n rfl rfl ?_
       refine PL_n rfl rfl ?_
       refine PL_n rfl rfl ?_
       refine PL_n rfl rfl ?_
       refine PL_n rfl rfl ?_
       refine PL_n rfl rfl ?_
       refine PL_n rfl rfl ?_
       refine PL_n rfl rfl ?_
       refine PL_n rfl rfl ?_
       refine PL_q rfl rfl (q_pick rfl rfl) ?_
       refine PL_q rfl rfl (q_assign rfl) ?_
       refine PL_fin (hK1 _ _ ?_)
       clear hK1 K1
       refine hK_5 _ _ (by repeat (first | exact .refl | refine .cons rfl ?_)) ⟨_, s0, ?s10, rfl⟩
       case s10 => exact congrArg Value.bool (and_f h29)
     ·skip
      rintro g30 M ⟨hg10, rfl⟩
      simp only [setG, hg10]
      clear hg10
      refine W_ret ?_
      refine ret1 rfl (.inr rfl) rfl ?_
      exact (by exact congrArg (fun r : Bool => (.bool r : Value)) (show _ = (F_skewbacklaw06_VectorOrients a b c d e) from bif_f h17 (bif_f h27 rfl)))
end Go.Proofs.Ythbjhbmpfeeilaa
