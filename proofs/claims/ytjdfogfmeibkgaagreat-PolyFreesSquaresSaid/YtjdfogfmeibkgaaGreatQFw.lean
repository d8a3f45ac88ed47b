/- What these functions compute, as plain functions. No program stands in it. Walks: what these functions return. What Compose returns, and its law. No program stands in it. Coefficients of Bernstein, at numbers. No program stands in it. Integer polynomials at integers: zeros, and how great the coefficients of a factor can be. No program stands in it. Polynomials: the program's and the reference's squarefree parts. No program stands in it. -/
import Derived.Test.YtjdfogfmeibkgaaGreatQGE
import Derived.Test.YtjdfogfmeibkgaaGreatQFp
import Derived.Test.YtjdfogfmeibkgaaGreatQLa
import Derived.Test.YtjdfogfmeibkgaaGreatQGf
import Derived.Test.YtjdfogfmeibkgaaGreatQYb
import Derived.Test.YtjdfogfmeibkgaaGreatQYc
import Derived.Test.YtjdfogfmeibkgaaGreatQYf
import Derived.Test.YtjdfogfmeibkgaaGreatQYg
import Derived.Test.YtjdfogfmeibkgaaGreatQYr
import Derived.Test.YtjdfogfmeibkgaaGreatQQg
import Derived.Test.YtjdfogfmeibkgaaGreatQRb
import Derived.KernelRfl
set_option linter.unusedVariables false
set_option linter.unusedSimpArgs false
namespace Go.Num
open Go Go.Kn
def ba_ (p : (List I)) (q : (List I)) : Bool :=
  bif (!(ah_ p 2 12) || (!(ah_ q 2 12) || ((ae_ p) || ((ae_ q) || (((((p).length : Nat) : Int) == 0) || ((((q).length : Nat) : Int) == 0)))))) then (aI_) else (bif ((((((af_ (aa_ p q))).length : Nat) : Int) == 0) || ((ae_ (af_ (aa_ p q))) || (!(ai_ (af_ (aa_ p (aa_ p q))) (af_ (aa_ p q)))))) then (false) else ((aI_ && (((bZ_ (ac_ (af_ (aa_ p q)) (ad_ (af_ (aa_ p q))))).1 == 0) && ((((((ao_ (aa_ p q) (af_ (aa_ p q)))).length : Nat) : Int) == 0) && (((((ao_ (aa_ (aa_ (af_ (aa_ p q)) (af_ (aa_ p q))) (aa_ (af_ (aa_ p q)) (af_ (aa_ p q)))) (ab_ (aa_ p q)))).length : Nat) : Int) == 0))))))
end Go.Num

namespace Go.Proofs.YtjdfogfmeibkgaaGreat
open Go.Kn Go.Num
set_option linter.unusedVariables false
set_option linter.unusedSimpArgs false
set_option maxRecDepth 20000
set_option maxHeartbeats 8000000
theorem gb_ (vp : Value) (p : (List I)) (vq : Value) (q : (List I)) (w : World) (hp : Slr w elI vp p) (hq : Slr w elI vq q) :
    Calls Tryz.prog 6 [vp, vq].toArray w (fun e w' => e = .returned (.bool (ba_ p q)) ∧ Ext w w') := by
 obtain ⟨p_p, c_p, rfl⟩ := hp.form
 obtain ⟨p_q, c_q, rfl⟩ := hq.form
 refine aU_ (N := 85) Tryz.func6 rfl rfl (by simp) ?_
 obtain ⟨w0, rfl⟩ : ∃ w0, w0 = w := ⟨_, rfl⟩
 have Hp := hp.old
 have hm_p := hp.max
 have Hq := hq.old
 have hm_q := hq.max
 simp only [initF, Nat.reduceAdd]
 refine Rs fun K J => sE rfl (nl J (Sq fun K1 J1 => ?_))
 refine bD_ [7, 8, 9, 10, 11, 12, 13, 14, 15, 16, 17, 18, 19, 20, 21, 22, 23, 24, 25, 26, 27, 28, 29, 30, 31, 32] (fun g M => (g 32 = .bool (!(ah_ p 2 12) || (!(ah_ q 2 12) || ((ae_ p) || ((ae_ q) || (((((p).length : Nat) : Int) == 0) || ((((q).length : Nat) : Int) == 0))))))) ∧ M = []) (fun K2 J2 => ?_) ?_
 ·skip
  refine Rk fun K J => sE rfl (sQ (q_as (v' := .bool (ah_ p 2 12)) (aH_ en_22 rfl (fun w hw => cd_ _ p 2 12 w (SLe.ap hw (SLe.sub Hp sn)) (by first | omega | (simp only [List.length_cons, List.length_nil, and_true, true_and] <;> omega) | simp))) rfl) rfl ?_)
  refine sE rfl ?_
  rcases bt (ah_ p 2 12) with h6 | h6
  ·skip
   refine sB (not_f h6) rfl (sE rfl (sQ (q_as (v' := .bool (ah_ q 2 12)) (aH_ en_22 rfl (fun w hw => cd_ _ q 2 12 w (SLe.ap hw (SLe.sub Hq sn)) (by first | omega | (simp only [List.length_cons, List.length_nil, and_true, true_and] <;> omega) | simp))) rfl) rfl ?_))
   refine sE rfl (sE rfl ?_)
   rcases bt (ah_ q 2 12) with h7 | h7
   ·skip
    refine sB (not_f h7) rfl (sE rfl (sQ (q_as (v' := .bool (ae_ p)) (aH_ en_18 rfl (fun w hw => aC_ _ p w (SLe.ap hw (SLe.sub Hp sn)))) rfl) rfl (sE rfl ?_)))
    rcases bt (ae_ p) with h8 | h8
    ·skip
     refine sB h8 rfl (WL_n rfl (WL_n rfl (sE rfl (sE rfl (WL_n rfl (WL_n rfl (WL_n rfl (sE rfl (sE rfl (WL_n rfl (WL_n rfl (WL_n rfl (sE rfl (nl J ?_))))))))))))))
     refine J2 _ _ (by repeat first | exact .refl | refine .cons rfl ?_) ⟨_, s0, ?s32, rfl⟩
     case s32 => exact congrArg Value.bool (nor_t h6 (nor_t h7 (or_t h8)))
    ·skip
     refine sB h8 rfl (sE rfl (sQ (q_as (v' := .bool (ae_ q)) (aH_ en_18 rfl (fun w hw => aC_ _ q w (SLe.ap hw (SLe.sub Hq sn)))) rfl) rfl (sE rfl ?_)))
     rcases bt (ae_ q) with h9 | h9
     ·skip
      refine sB h9 rfl (WL_n rfl (WL_n rfl (WL_n rfl (sE rfl (sE rfl (WL_n rfl (WL_n rfl (WL_n rfl (sE rfl (nl J ?_))))))))))
      refine J2 _ _ (by repeat first | exact .refl | refine .cons rfl ?_) ⟨_, s0, ?s32, rfl⟩
      case s32 => exact congrArg Value.bool (nor_t h6 (nor_t h7 (or_f h8 (or_t h9))))
     ·skip
      refine sB h9 rfl (sE rfl (sQ (q_as (v' := .int .i64 (((p).length : Nat) : Int)) (aS_ (e := elI) sl_24 rfl (SLe.sub Hp sn)) rfl) rfl (sE rfl (sE rfl ?_))))
      rcases bt ((((p).length : Nat) : Int) == 0) with h10 | h10
      ·skip
       have ph10 := ea_ h10
       refine sB h10 rfl (WL_n rfl (WL_n rfl (WL_n rfl (sE rfl (nl J ?_)))))
       refine J2 _ _ (by repeat first | exact .refl | refine .cons rfl ?_) ⟨_, s0, ?s32, rfl⟩
       case s32 => exact congrArg Value.bool (nor_t h6 (nor_t h7 (or_f h8 (or_f h9 (or_t h10)))))
      ·skip
       have ph10 := c9_ h10
       refine sB h10 rfl (sE rfl (sQ (q_as (v' := .int .i64 (((q).length : Nat) : Int)) (aS_ (e := elI) sl_24 rfl (SLe.sub Hq sn)) rfl) rfl (sE rfl (sE rfl (nl J ?_)))))
       refine J2 _ _ (by repeat first | exact .refl | refine .cons rfl ?_) ⟨_, s0, ?s32, rfl⟩
       case s32 => exact congrArg Value.bool (nor_t h6 (nor_t h7 (or_f h8 (or_f h9 (or_f h10 rfl)))))
   ·skip
    refine sB (not_t h7) rfl (WL_n rfl (WL_n rfl (sE rfl (sE rfl (WL_n rfl (WL_n rfl (sE rfl (sE rfl (WL_n rfl (WL_n rfl (WL_n rfl (sE rfl (sE rfl (WL_n rfl (WL_n rfl (WL_n rfl (sE rfl (nl J ?_))))))))))))))))))
    refine J2 _ _ (by repeat first | exact .refl | refine .cons rfl ?_) ⟨_, s0, ?s32, rfl⟩
    case s32 => exact congrArg Value.bool (nor_t h6 (nor_f h7))
  ·skip
   refine sB (not_t h6) rfl (WL_n rfl (WL_n rfl (WL_n rfl (sE rfl (sE rfl (WL_n rfl (WL_n rfl (sE rfl (sE rfl (WL_n rfl (WL_n rfl (sE rfl (sE rfl (WL_n rfl (WL_n rfl (WL_n rfl (sE rfl (sE rfl (WL_n rfl ?_)))))))))))))))))))
   refine WL_n rfl (WL_n rfl (sE rfl (nl J ?_)))
   refine J2 _ _ (by repeat first | exact .refl | refine .cons rfl ?_) ⟨_, s0, ?s32, rfl⟩
   case s32 => exact congrArg Value.bool (nor_f h6)
 ·skip
  rintro g11 M ⟨hg32, rfl⟩
  simp only [setG, hg32]
  clear hg32
  rcases bt (!(ah_ p 2 12) || (!(ah_ q 2 12) || ((ae_ p) || ((ae_ q) || (((((p).length : Nat) : Int) == 0) || ((((q).length : Nat) : Int) == 0)))))) with h12 | h12
  ·skip
   refine W_t h12 rfl (Rs fun K J => sQ (q_ret en_14 bV_  rfl) rfl (sE rfl (nl J (W_ret (aj_ (ret1 rfl (.inr rfl) rfl ?_))))))
   exact (by exact congrArg (fun r : Bool => (.bool r : Value)) (show _ = (ba_ p q) from bif_t h12 rfl))
  ·skip
   have ph13 := c9_ (Bool.or_eq_false_iff.1 (Bool.or_eq_false_iff.1 (Bool.or_eq_false_iff.1 (Bool.or_eq_false_iff.1 (Bool.or_eq_false_iff.1 h12).2).2).2).2).1
   have ph14 := c9_ (Bool.or_eq_false_iff.1 (Bool.or_eq_false_iff.1 (Bool.or_eq_false_iff.1 (Bool.or_eq_false_iff.1 (Bool.or_eq_false_iff.1 h12).2).2).2).2).2
   refine W_f h12 rfl (am_ (J1 _ _ ?_))
   obtain ⟨hRp, hLp⟩ := few_f (Bool.or_eq_false_iff.1 h12).1
   obtain ⟨hRq, hLq⟩ := few_f (Bool.or_eq_false_iff.1 (Bool.or_eq_false_iff.1 h12).2).1
   refine Rs fun K J => sE rfl (sE rfl (WL_r rfl (an_ (E := 38) (e := elI) (l := (aa_ p q)) (fun v => v) en_31 rfl (fun w hw => cA_ _ p _ q w (SLe.ap hw (SLe.sub Hp sn)) (SLe.ap hw (SLe.sub Hq sn)) (by first | omega | (simp only [List.length_cons, List.length_nil, and_true, true_and] <;> omega) | simp)) (fun p15 c16 L17 hF18 => ?_))))
   have hb19 := (cy_ p q)
   have hr20 := (cx_ p q)
   refine sE rfl (nl J (Rs fun K J => sE rfl (WL_r rfl (an_ (E := 38) (e := elI) (l := (af_ (aa_ p q))) (fun v => v) en_29 rfl (fun w hw => fb_ _ (aa_ p q) w (SLe.ap hw (SLfe.sle (OwnG.slfe hF18 (List.sublist_append_left _ _)))) ⟨by assumption, by omega⟩) (fun p21 c22 L23 hF24 => ?_)))))
   have hb25 := (fd_ (aa_ p q))
   refine sE rfl (nl J (Sq fun K3 J3 => ?_))
   refine bD_ [39, 40, 41, 42, 43, 44, 45, 46, 47, 48, 49, 50, 51, 52, 53, 54] (fun g M => (g 54 = .bool ((((((af_ (aa_ p q))).length : Nat) : Int) == 0) || ((ae_ (af_ (aa_ p q))) || (!(ai_ (af_ (aa_ p (aa_ p q))) (af_ (aa_ p q))))))) ∧ M = (L23 ++ (L17 ++ []))) (fun K4 J4 => ?_) ?_
   ·skip
    refine Rk fun K J => sE rfl (sQ (q_as (v' := .int .i64 ((((af_ (aa_ p q))).length : Nat) : Int)) (aS_ (e := elI) sl_24 rfl (SLfe.sle (OwnG.slfe hF24 (List.sublist_append_left _ _)))) rfl) rfl (sE rfl ?_))
    rcases bt (((((af_ (aa_ p q))).length : Nat) : Int) == 0) with h39 | h39
    ·skip
     have ph39 := ea_ h39
     refine sB h39 rfl (WL_n rfl (WL_n rfl (sE rfl (sE rfl (WL_n rfl (WL_n rfl (WL_n rfl (WL_n rfl (WL_n rfl (WL_n rfl (WL_n rfl (sE rfl (nl J ?_)))))))))))))
     refine J4 _ _ (by repeat first | exact .refl | refine .cons rfl ?_) ⟨_, s0, ?s54, rfl⟩
     case s54 => exact congrArg Value.bool (or_t h39)
    ·skip
     have ph39 := c9_ h39
     refine sB h39 rfl (sE rfl (sQ (q_as (v' := .bool (ae_ (af_ (aa_ p q)))) (aH_ en_18 rfl (fun w hw => aC_ _ (af_ (aa_ p q)) w (SLe.ap hw (SLfe.sle (OwnG.slfe hF24 (List.sublist_append_left _ _)))))) rfl) rfl (sE rfl ?_)))
     rcases bt (ae_ (af_ (aa_ p q))) with h40 | h40
     ·skip
      refine sB h40 rfl (WL_n rfl (WL_n rfl (WL_n rfl (WL_n rfl (WL_n rfl (WL_n rfl (WL_n rfl (sE rfl (nl J ?_)))))))))
      refine J4 _ _ (by repeat first | exact .refl | refine .cons rfl ?_) ⟨_, s0, ?s54, rfl⟩
      case s54 => exact congrArg Value.bool (or_f h39 (or_t h40))
     ·skip
      refine sB h40 rfl (sE rfl (sE rfl (WL_r rfl (an_ (E := 38) (e := elI) (l := (aa_ p (aa_ p q))) (fun v => v) en_31 rfl (fun w hw => cA_ _ p _ (aa_ p q) w (SLe.ap hw (SLe.sub Hp sn)) (SLe.ap hw (SLfe.sle (OwnG.slfe hF18 (sR (List.sublist_append_left _ _))))) (by first | omega | (simp only [List.length_cons, List.length_nil, and_true, true_and] <;> omega) | simp)) (fun p41 c42 L43 hF44 => ?_)))))
      have hb45 := (cy_ p (aa_ p q))
      have hr46 := (cx_ p (aa_ p q))
      refine WL_r rfl (an_ (E := 38) (e := elI) (l := (af_ (aa_ p (aa_ p q)))) (fun v => v) en_29 rfl (fun w hw => fb_ _ (aa_ p (aa_ p q)) w (SLe.ap hw (SLfe.sle (OwnG.slfe hF44 (List.sublist_append_left _ _)))) ⟨by assumption, by omega⟩) (fun p47 c48 L49 hF50 => ?_))
      have hb51 := (fd_ (aa_ p (aa_ p q)))
      refine sE rfl (sQ (q_as (v' := .bool (ai_ (af_ (aa_ p (aa_ p q))) (af_ (aa_ p q)))) (aH_ en_17 rfl (fun w hw => ax_ _ (af_ (aa_ p (aa_ p q))) _ (af_ (aa_ p q)) w (SLe.ap hw (SLfe.sle (OwnG.slfe hF50 (List.sublist_append_left _ _)))) (SLe.ap hw (SLfe.sle (OwnG.slfe hF24 (sR (sR (List.sublist_append_left _ _)))))))) rfl) rfl (sE rfl (sE rfl (nl J ?_))))
      refine J4 _ _ (by repeat first | exact .refl | refine .cons rfl ?_) ⟨_, (sR (sR (s0))), ?s54, rfl⟩
      case s54 => exact congrArg Value.bool (or_f h39 (or_f h40 rfl))
   ·skip
    rintro g52 M ⟨hg54, rfl⟩
    simp only [setG, hg54]
    clear hg54
    rcases bt ((((((af_ (aa_ p q))).length : Nat) : Int) == 0) || ((ae_ (af_ (aa_ p q))) || (!(ai_ (af_ (aa_ p (aa_ p q))) (af_ (aa_ p q)))))) with h53 | h53
    ·skip
     refine W_t h53 rfl (Rs fun K J => sE rfl (nl J (W_ret (aj_ (ret1 rfl (.inr rfl) rfl ?_)))))
     exact (by exact congrArg (fun r : Bool => (.bool r : Value)) (show _ = (ba_ p q) from bif_f h12 (bif_t h53 rfl)))
    ·skip
     have ph54 := c9_ (Bool.or_eq_false_iff.1 h53).1
     refine W_f h53 rfl (am_ (J3 _ _ ?_))
     refine bD_ [4, 55, 56, 57, 58, 59, 60, 61, 62, 63, 64, 65, 66, 67, 68, 69, 70, 71, 72, 73, 74, 75, 76, 77, 78, 79, 80, 81, 82, 83, 84] (fun g M => (g 4 = .bool (aI_ && (((bZ_ (ac_ (af_ (aa_ p q)) (ad_ (af_ (aa_ p q))))).1 == 0) && ((((((ao_ (aa_ p q) (af_ (aa_ p q)))).length : Nat) : Int) == 0) && (((((ao_ (aa_ (aa_ (af_ (aa_ p q)) (af_ (aa_ p q))) (aa_ (af_ (aa_ p q)) (af_ (aa_ p q)))) (ab_ (aa_ p q)))).length : Nat) : Int) == 0))))) ∧ M = (L23 ++ (L17 ++ []))) (fun K5 J5 => ?_) ?_
     ·skip
      refine Rk fun K J => sQ (q_ret en_14 bV_  rfl) rfl ?_
      rcases bt aI_ with h101 | h101
      ·skip
       refine sB h101 rfl (sE rfl (sE rfl (WL_r rfl (an_ (E := 38) (e := elI) (l := (ad_ (af_ (aa_ p q)))) (fun v => v) en_33 rfl (fun w hw => eD_ _ (af_ (aa_ p q)) w (SLe.ap hw (SLfe.sle (OwnG.slfe hF24 (List.sublist_append_left _ _)))) (by first | omega | (simp only [List.length_cons, List.length_nil, and_true, true_and] <;> omega) | simp)) (fun p102 c103 L104 hF105 => ?_)))))
       have hb106 := (cM_ (af_ (aa_ p q)))
       refine WL_r rfl (an_ (E := 38) (e := elI) (l := (ac_ (af_ (aa_ p q)) (ad_ (af_ (aa_ p q))))) (fun v => v) en_27 rfl (fun w hw => d9_ _ (af_ (aa_ p q)) _ (ad_ (af_ (aa_ p q))) w (SLe.ap hw (SLfe.sle (OwnG.slfe hF24 (sR (List.sublist_append_left _ _))))) (SLe.ap hw (SLfe.sle (OwnG.slfe hF105 (List.sublist_append_left _ _)))) (by first | omega | (simp only [List.length_cons, List.length_nil, and_true, true_and] <;> omega) | simp)) (fun p107 c108 L109 hF110 => ?_))
       have hb111 := (dC_ (af_ (aa_ p q)) (ad_ (af_ (aa_ p q))))
       refine sQ (q_as (v' := .int .i64 ((bZ_ (ac_ (af_ (aa_ p q)) (ad_ (af_ (aa_ p q))))).1)) (aH_ en_20 rfl (fun w hw => fv_ _ (ac_ (af_ (aa_ p q)) (ad_ (af_ (aa_ p q)))) w (SLe.ap hw (SLfe.sle (OwnG.slfe hF110 (List.sublist_append_left _ _)))))) rfl) rfl (sE rfl (sE rfl ?_))
       rcases bt ((bZ_ (ac_ (af_ (aa_ p q)) (ad_ (af_ (aa_ p q))))).1 == 0) with h112 | h112
       ·skip
        refine sB h112 rfl (sE rfl (sE rfl (WL_r rfl (an_ (E := 38) (e := elI) (l := (ao_ (aa_ p q) (af_ (aa_ p q)))) (fun v => v) en_23 rfl (fun w hw => cO_ _ (aa_ p q) _ (af_ (aa_ p q)) w (SLe.ap hw (SLfe.sle (OwnG.slfe hF18 (sR (sR (sR (List.sublist_append_left _ _))))))) (SLe.ap hw (SLfe.sle (OwnG.slfe hF24 (sR (sR (List.sublist_append_left _ _)))))) (by first | omega | (simp only [List.length_cons, List.length_nil, and_true, true_and] <;> omega) | simp)) (fun p113 c114 L115 hF116 => ?_)))))
        have hb117 := (cn_ (aa_ p q) (af_ (aa_ p q)))
        refine sQ (q_as (v' := .int .i64 ((((ao_ (aa_ p q) (af_ (aa_ p q)))).length : Nat) : Int)) (aS_ (e := elI) sl_24 rfl (SLfe.sle (OwnG.slfe hF116 (List.sublist_append_left _ _)))) rfl) rfl (sE rfl (sE rfl ?_))
        rcases bt (((((ao_ (aa_ p q) (af_ (aa_ p q)))).length : Nat) : Int) == 0) with h118 | h118
        ·skip
         have ph118 := ea_ h118
         refine sB h118 rfl (sE rfl (sE rfl (WL_r rfl (an_ (E := 38) (e := elI) (l := (aa_ (af_ (aa_ p q)) (af_ (aa_ p q)))) (fun v => v) en_31 rfl (fun w hw => cA_ _ (af_ (aa_ p q)) _ (af_ (aa_ p q)) w (SLe.ap hw (SLfe.sle (OwnG.slfe hF24 (sR (sR (sR (List.sublist_append_left _ _))))))) (SLe.ap hw (SLfe.sle (OwnG.slfe hF24 (sR (sR (sR (List.sublist_append_left _ _))))))) (by first | omega | (simp only [List.length_cons, List.length_nil, and_true, true_and] <;> omega) | simp)) (fun p119 c120 L121 hF122 => ?_)))))
         have hb123 := (cy_ (af_ (aa_ p q)) (af_ (aa_ p q)))
         have hr124 := (cx_ (af_ (aa_ p q)) (af_ (aa_ p q)))
         refine sE rfl (sE rfl (WL_r rfl (an_ (E := 38) (e := elI) (l := (aa_ (af_ (aa_ p q)) (af_ (aa_ p q)))) (fun v => v) en_31 rfl (fun w hw => cA_ _ (af_ (aa_ p q)) _ (af_ (aa_ p q)) w (SLe.ap hw (SLfe.sle (OwnG.slfe hF24 (sR (sR (sR (sR (List.sublist_append_left _ _)))))))) (SLe.ap hw (SLfe.sle (OwnG.slfe hF24 (sR (sR (sR (sR (List.sublist_append_left _ _)))))))) (by first | omega | (simp only [List.length_cons, List.length_nil, and_true, true_and] <;> omega) | simp)) (fun p125 c126 L127 hF128 => ?_))))
         have hb129 := (cy_ (af_ (aa_ p q)) (af_ (aa_ p q)))
         have hr130 := (cx_ (af_ (aa_ p q)) (af_ (aa_ p q)))
         refine WL_r rfl (an_ (E := 38) (e := elI) (l := (aa_ (aa_ (af_ (aa_ p q)) (af_ (aa_ p q))) (aa_ (af_ (aa_ p q)) (af_ (aa_ p q))))) (fun v => v) en_31 rfl (fun w hw => cA_ _ (aa_ (af_ (aa_ p q)) (af_ (aa_ p q))) _ (aa_ (af_ (aa_ p q)) (af_ (aa_ p q))) w (SLe.ap hw (SLfe.sle (OwnG.slfe hF122 (sR (List.sublist_append_left _ _))))) (SLe.ap hw (SLfe.sle (OwnG.slfe hF128 (List.sublist_append_left _ _)))) (by first | omega | (simp only [List.length_cons, List.length_nil, and_true, true_and] <;> omega) | simp)) (fun p131 c132 L133 hF134 => ?_))
         have hb135 := (cy_ (aa_ (af_ (aa_ p q)) (af_ (aa_ p q))) (aa_ (af_ (aa_ p q)) (af_ (aa_ p q))))
         have hr136 := (cx_ (aa_ (af_ (aa_ p q)) (af_ (aa_ p q))) (aa_ (af_ (aa_ p q)) (af_ (aa_ p q))))
         refine sE rfl (WL_r rfl (an_ (E := 38) (e := elI) (l := (ab_ (aa_ p q))) (fun v => v) en_25 rfl (fun w hw => bM_ _ (aa_ p q) w (SLe.ap hw (SLfe.sle (OwnG.slfe hF18 (sR (sR (sR (sR (sR (sR (sR (List.sublist_append_left _ _))))))))))) (by first | omega | (simp only [List.length_cons, List.length_nil, and_true, true_and] <;> omega) | simp)) (fun p137 c138 L139 hF140 => ?_)))
         have hb141 := (ay_ (aa_ p q))
         refine WL_r rfl (an_ (E := 38) (e := elI) (l := (ao_ (aa_ (aa_ (af_ (aa_ p q)) (af_ (aa_ p q))) (aa_ (af_ (aa_ p q)) (af_ (aa_ p q)))) (ab_ (aa_ p q)))) (fun v => v) en_23 rfl (fun w hw => cO_ _ (aa_ (aa_ (af_ (aa_ p q)) (af_ (aa_ p q))) (aa_ (af_ (aa_ p q)) (af_ (aa_ p q)))) _ (ab_ (aa_ p q)) w (SLe.ap hw (SLfe.sle (OwnG.slfe hF134 (sR (List.sublist_append_left _ _))))) (SLe.ap hw (SLfe.sle (OwnG.slfe hF140 (List.sublist_append_left _ _)))) (by first | omega | (simp only [List.length_cons, List.length_nil, and_true, true_and] <;> omega) | simp)) (fun p142 c143 L144 hF145 => ?_))
         have hb146 := (cn_ (aa_ (aa_ (af_ (aa_ p q)) (af_ (aa_ p q))) (aa_ (af_ (aa_ p q)) (af_ (aa_ p q)))) (ab_ (aa_ p q)))
         refine sQ (q_as (v' := .int .i64 ((((ao_ (aa_ (aa_ (af_ (aa_ p q)) (af_ (aa_ p q))) (aa_ (af_ (aa_ p q)) (af_ (aa_ p q)))) (ab_ (aa_ p q)))).length : Nat) : Int)) (aS_ (e := elI) sl_24 rfl (SLfe.sle (OwnG.slfe hF145 (List.sublist_append_left _ _)))) rfl) rfl (sE rfl (sE rfl (sE rfl (nl J ?_))))
         refine J5 _ _ (by repeat first | exact .refl | refine .cons rfl ?_) ⟨_, (sR (sR (sR (sR (sR (sR (sR (sR (s0))))))))), ?s4, rfl⟩
         case s4 => exact congrArg Value.bool (and_t h101 (and_t h112 (and_t h118 rfl)))
        ·skip
         have ph118 := c9_ h118
         refine sB h118 rfl (WL_n rfl (WL_n rfl (WL_n rfl (WL_n rfl (WL_n rfl (WL_n rfl (WL_n rfl (WL_n rfl (WL_n rfl (WL_n rfl (WL_n rfl (WL_n rfl (sE rfl (sE rfl (nl J ?_)))))))))))))))
         refine J5 _ _ (by repeat first | exact .refl | refine .cons rfl ?_) ⟨_, (sR (sR (sR (s0)))), ?s4, rfl⟩
         case s4 => exact congrArg Value.bool (and_t h101 (and_t h112 (and_f h118)))
       ·skip
        refine sB h112 rfl (WL_n rfl (WL_n rfl (WL_n rfl (WL_n rfl (WL_n rfl (sE rfl (sE rfl (WL_n rfl (WL_n rfl (WL_n rfl (WL_n rfl (WL_n rfl (WL_n rfl (WL_n rfl (WL_n rfl (WL_n rfl (WL_n rfl (WL_n rfl (WL_n rfl ?_)))))))))))))))))))
        refine sE rfl (sE rfl (nl J ?_))
        refine J5 _ _ (by repeat first | exact .refl | refine .cons rfl ?_) ⟨_, (sR (sR (s0))), ?s4, rfl⟩
        case s4 => exact congrArg Value.bool (and_t h101 (and_f h112))
      ·skip
       refine sB h101 rfl (WL_n rfl (WL_n rfl (WL_n rfl (WL_n rfl (WL_n rfl (WL_n rfl (sE rfl (sE rfl (WL_n rfl (WL_n rfl (WL_n rfl (WL_n rfl (WL_n rfl (sE rfl (sE rfl (WL_n rfl (WL_n rfl (WL_n rfl (WL_n rfl ?_)))))))))))))))))))
       refine WL_n rfl (WL_n rfl (WL_n rfl (WL_n rfl (WL_n rfl (WL_n rfl (WL_n rfl (WL_n rfl (sE rfl (sE rfl (nl J ?_))))))))))
       refine J5 _ _ (by repeat first | exact .refl | refine .cons rfl ?_) ⟨_, s0, ?s4, rfl⟩
       case s4 => exact congrArg Value.bool (and_f h101)
     ·skip
      rintro g147 M ⟨hg4, rfl⟩
      simp only [setG, hg4]
      clear hg4
      refine W_ret (ret1 rfl (.inr rfl) rfl ?_)
      exact (by exact congrArg (fun r : Bool => (.bool r : Value)) (show _ = (ba_ p q) from bif_f h12 (bif_f h53 rfl)))
end Go.Proofs.YtjdfogfmeibkgaaGreat


set_option linter.unusedVariables false
set_option linter.unusedSimpArgs false
namespace Go.Num
open Go Go.Kn
section
variable {p : List I} {c : Nat → Int} {a b : Rt} {N D M F : Int}
end
end Go.Num


set_option linter.unusedVariables false
set_option linter.unusedSimpArgs false
namespace Go.Num
open Go Go.Kn
def ff (i : Int) : Nat → Int
  | 0 => 1
  | k + 1 => ff i k * (i - k)
def fac : Nat → Int
  | 0 => 1
  | n + 1 => fac n * ((n + 1 : Nat) : Int)
/-- What the coefficient k counts in the coefficient i of Bernstein. -/
def wt (n i k : Nat) : Int := ff i k * fac (n - k)
def bs (γ : Nat → Int) (n i : Nat) : Int := sumN (fun k => wt n i k * γ k) (i + 1)
section
variable {p : List I} {a b : Rt} {γ : Nat → Int} {n B : Nat}
theorem qI_ {v : Int} (h : B512 v) : (E (Z.of v)).1.bad = false := by
  have := gd_E h
  unfold gdI at this
  rw [Bool.and_eq_true] at this
  simpa using this.1
theorem mX_ {u v G : Int} (hu : B512 u) (hG : B512 G) (h0 : 0 < G) (h : G * v = u) : Z.quo (Z.of u) (Z.of G) = Z.of v := by
  rw [pz_ hu hG h0, ← h, Int.mul_ediv_cancel_left _ (by omega)]
end
end Go.Num


set_option linter.unusedVariables false
set_option linter.unusedSimpArgs false
namespace Go.Num
/-- The value of a polynomial with less than N + 1 coefficients. -/
def ev (N : Nat) (c : Nat → Int) (x : Int) : Int := sumN (fun i => c i * x ^ i) N
/-- The quotient by t - x. -/
def sy (N : Nat) (c : Nat → Int) (x : Int) (k : Nat) : Int := sumN (fun j => c (k + 1 + j) * x ^ j) N
section
variable {N : Nat} {c : Nat → Int} {x y : Int}
theorem kd_ (hz : ∀ i, N ≤ i → c i = 0) (k : Nat) : sy N c x k = c (k + 1) + x * sy N c x (k + 1) := by
  have e1 : sy N c x k = sumN (fun j => c (k + 1 + j) * x ^ j) (N + 1) := by
    unfold sy
    simp only [sumN]
    rw [hz (k + 1 + N) (by omega), Int.zero_mul, Int.add_zero]
  rw [e1, d0_]
  unfold sy
  rw [← d6_]
  congr 1
  · rw [Int.pow_zero, Int.mul_one, Nat.add_zero]
  · exact bx_ fun j _ => by rw [Int.pow_succ, show k + 1 + (j + 1) = k + 1 + 1 + j by omega]; grind
theorem gJ_ {n : Nat} (hz : ∀ i, n ≤ i → c i = 0) {k : Nat} (hk : n ≤ k + 1) : sy N c x k = 0 := cD_ fun j _ => by rw [hz _ (by omega), Int.zero_mul]
theorem ev_0 (hz : ∀ i, N ≤ i → c i = 0) : ev N c x = c 0 + x * sy N c x 0 := by
  have e1 : ev N c x = sumN (fun i => c i * x ^ i) (N + 1) := by
    unfold ev
    simp only [sumN]
    rw [hz N (Nat.le_refl _), Int.zero_mul, Int.add_zero]
  rw [e1, d0_]
  unfold sy
  rw [← d6_]
  congr 1
  · rw [Int.pow_zero, Int.mul_one]
  · exact bx_ fun j _ => by rw [Int.pow_succ, show 0 + 1 + j = j + 1 by omega]; grind
theorem ev_sy (hz : ∀ i, N ≤ i → c i = 0) : ev N c y = ev N c x + (y - x) * ev N (sy N c x) y := by
  have e1 : ev N c y = c 0 + y * sy N c y 0 := ev_0 hz
  have e2 : ev N c y = c 0 + sumN (fun k => (sy N c x k - x * sy N c x (k + 1)) * y ^ (k + 1)) N := by
    have : ev N c y = sumN (fun i => c i * y ^ i) (N + 1) := by
      unfold ev
      simp only [sumN]
      rw [hz N (Nat.le_refl _), Int.zero_mul, Int.add_zero]
    rw [this, d0_]
    congr 1
    · rw [Int.pow_zero, Int.mul_one]
    · exact bx_ fun k _ => by rw [kd_ hz k]; grind
  have e3 : sumN (fun k => (sy N c x k - x * sy N c x (k + 1)) * y ^ (k + 1)) N = y * ev N (sy N c x) y + -x * sumN (fun k => sy N c x (k + 1) * y ^ (k + 1)) N := by
    unfold ev
    rw [← d6_, ← d6_, ← gn_]
    exact bx_ fun k _ => by rw [Int.pow_succ]; grind
  have e4 : ev N (sy N c x) y = sy N c x 0 + sumN (fun k => sy N c x (k + 1) * y ^ (k + 1)) N := by
    have : ev N (sy N c x) y = sumN (fun i => sy N c x i * y ^ i) (N + 1) := by
      unfold ev
      simp only [sumN]
      rw [gJ_ (n := N) hz (by omega), Int.zero_mul, Int.add_zero]
    rw [this, d0_]
    congr 1
    rw [Int.pow_zero, Int.mul_one]
  rw [e2, e3, ev_0 (x := x) hz]
  rw [e4]
  grind
/-- A polynomial of degree n has at most n zeros. -/
theorem k9_ : ∀ (xs : List Int) (n : Nat) (c : Nat → Int), n < N → c n ≠ 0 → (∀ i, n < i → c i = 0) → xs.Nodup → (∀ x ∈ xs, ev N c x = 0) → xs.length ≤ n
  | [], n, c, _, _, _, _, _ => Nat.zero_le _
  | x :: xs, n, c, hn, h0, hz, nd, hr => by
    have hz' : ∀ i, N ≤ i → c i = 0 := fun i hi => hz i (by omega)
    have hx := hr x List.mem_cons_self
    obtain ⟨nd1, nd2⟩ := List.nodup_cons.1 nd
    cases n with
    | zero =>
      rw [ev_0 hz', gJ_ (n := 1) (fun i hi => hz i (by omega)) (by omega), Int.mul_zero, Int.add_zero] at hx
      exact absurd hx h0
    | succ n =>
      have h1 := k9_ xs n (sy N c x) (by omega) (by
        rw [kd_ hz', gJ_ (n := n + 2) (fun i hi => hz i (by omega)) (by omega), Int.mul_zero, Int.add_zero]; exact h0) (fun i hi => gJ_ (n := n + 2) (fun i hi => hz i (by omega)) (by omega)) nd2 (fun y hy => by
        have h2 := hr y (List.mem_cons_of_mem _ hy)
        rw [ev_sy (x := x) hz', hx, Int.zero_add] at h2
        rcases Int.mul_eq_zero.1 h2 with h3 | h3
        · exact absurd (show x ∈ xs by rw [show x = y by omega]; exact hy) nd1
        · exact h3)
      rw [List.length_cons]; omega
/-- Small values at m + 1 integers: small coefficients. -/
theorem mW_ {K M : Nat} : ∀ (m : Nat) (xs : List Int) (c : Nat → Int) (M : Nat), m < N → xs.length = m + 1 → xs.Nodup → (∀ x ∈ xs, x.natAbs ≤ K) → (∀ i, m < i → c i = 0) → (∀ x ∈ xs, (ev N c x).natAbs ≤ M) → ∀ i, (c i).natAbs ≤ (2 * K + 3) ^ m * M
  | 0, xs, c, M, hn, hl, nd, hK, hz, hv => fun i => by
    obtain ⟨x, rfl⟩ : ∃ x, xs = [x] := by
      match xs, hl with
      | [x], _ => exact ⟨x, rfl⟩
    have h1 := hv x List.mem_cons_self
    rw [ev_0 (fun i hi => hz i (by omega)), gJ_ (n := 1) (fun i hi => hz i (by omega)) (by omega), Int.mul_zero, Int.add_zero] at h1
    rw [Nat.pow_zero, Nat.one_mul]
    rcases Nat.eq_zero_or_pos i with e | e
    · rw [e]; exact h1
    · rw [hz i e]; exact Nat.zero_le _
  | m + 1, xs, c, M, hn, hl, nd, hK, hz, hv => fun i => by
    obtain ⟨x, xs, rfl⟩ : ∃ x ys, xs = x :: ys := by
      match xs, hl with
      | x :: ys, _ => exact ⟨x, ys, rfl⟩
    have hz' : ∀ i, N ≤ i → c i = 0 := fun i hi => hz i (by omega)
    obtain ⟨nd1, nd2⟩ := List.nodup_cons.1 nd
    have hx := hv x List.mem_cons_self
    have kx := hK x List.mem_cons_self
    have h1 := mW_ (K := K) (M := M) m xs (sy N c x) (2 * M) (by omega) (by simpa using hl) nd2 (fun y hy => hK y (List.mem_cons_of_mem _ hy)) (fun i hi => gJ_ (n := m + 2) (fun i hi => hz i (by omega)) (by omega)) (fun y hy => by
      have h2 := hv y (List.mem_cons_of_mem _ hy)
      have h3 : (y - x) * ev N (sy N c x) y = ev N c y - ev N c x := by rw [ev_sy (x := x) (y := y) hz']; omega
      have h4 : 1 ≤ (y - x).natAbs := by
        rcases Nat.eq_zero_or_pos (y - x).natAbs with e | e
        · exact absurd (show x ∈ xs by rw [show x = y by omega]; exact hy) nd1
        · exact e
      have h5 := congrArg Int.natAbs h3
      rw [Int.natAbs_mul] at h5
      have h6 := Nat.mul_le_mul_right (ev N (sy N c x) y).natAbs h4
      omega)
    have h2 : ∀ k, (x * sy N c x k).natAbs ≤ K * ((2 * K + 3) ^ m * (2 * M)) := fun k => by rw [Int.natAbs_mul]; exact Nat.mul_le_mul kx (h1 k)
    have h7 : M ≤ (2 * K + 3) ^ m * M := Nat.le_mul_of_pos_left _ (Nat.pow_pos (by omega))
    have e : (2 * K + 3) ^ (m + 1) * M = 2 * (K * ((2 * K + 3) ^ m * M)) + 3 * ((2 * K + 3) ^ m * M) := by rw [Nat.pow_succ]; grind
    have e2 : K * ((2 * K + 3) ^ m * (2 * M)) = 2 * (K * ((2 * K + 3) ^ m * M)) := by grind
    have e3 : (2 * K + 3) ^ m * (2 * M) = 2 * ((2 * K + 3) ^ m * M) := by grind
    rw [e]
    generalize K * ((2 * K + 3) ^ m * M) = A at *
    generalize (2 * K + 3) ^ m * M = B at *
    cases i with
    | zero =>
      have h3 : c 0 = ev N c x - x * sy N c x 0 := by rw [ev_0 hz']; omega
      have h4 := h2 0
      rw [h3]; omega
    | succ i =>
      have h3 : c (i + 1) = sy N c x i - x * sy N c x (i + 1) := by rw [kd_ hz' i]; omega
      have h4 := h2 (i + 1)
      have h5 := h1 i
      rw [h3]; omega
end
theorem if_ {α : Type} (p : α → Bool) : ∀ l : List α, (l.filter p).length + (l.filter fun x => !p x).length = l.length
  | [] => rfl
  | x :: l => by
    have := if_ p l
    rw [List.filter_cons, List.filter_cons, List.length_cons]
    cases p x <;> simp <;> omega
theorem pd_ {N : Nat} {c d : Nat → Int} {n m : Nat} (hc : ∀ i, n < i → c i = 0) (hd : ∀ i, m < i → d i = 0) (hN : n + m < N) (x : Int) : ev N (conv c d) x = ev N c x * ev N d x := by
  have h := pn_ (c := cR c) (d := cR d) (x := (x : Rat)) (n := n + 1) (m := m + 1) (fun i hi => by unfold cR; rw [hc i hi]; rfl) (fun i hi => by unfold cR; rw [hd i hi]; rfl) (K := N + 1) (by omega)
  have ec : ∀ (e : Nat → Int) (l : Nat), (∀ i, l < i → e i = 0) → l < N → ((ev N e x : Int) : Rat) = vl (cR e) x (l + 1) := fun e l he hl => by
    unfold ev
    rw [iS_]
    rw [← l3_ (c := cR e) (x := (x : Rat)) (n := l + 1) (m := N) (fun i hi => by unfold cR; rw [he i hi]; rfl) hl]
    exact bx_ fun i _ => by rw [Rat.intCast_mul, Rat.intCast_pow]; rfl
  apply Rat.intCast_inj.1
  rw [Rat.intCast_mul, ec c n hc (by omega), ec d m hd (by omega), ← h, ← gE_]
  have hcd : ∀ i, n + m < i → conv c d i = 0 := fun i hi => cC_ (n := n + 1) (m := m + 1) hc hd i (by omega)
  rw [ec _ (n + m) hcd hN, l3_ (c := cR (conv c d)) (x := (x : Rat)) (n := n + m + 1) (m := N + 1) (fun i hi => by unfold cR; rw [hcd i hi]; rfl) (by omega)]
def pts : List Int := [-3, -2, -1, 0, 1, 2, 3]
theorem ev_le {c : Nat → Int} {R : Nat} (hc : ∀ i, (c i).natAbs ≤ R) {x : Int} (hx : x.natAbs ≤ 3) : (ev 5 c x).natAbs ≤ 121 * R := by
  unfold ev
  simp only [sumN]
  have t : ∀ i, (c i * x ^ i).natAbs ≤ R * 3 ^ i := fun i => by
    rw [Int.natAbs_mul, Int.natAbs_pow]
    exact Nat.mul_le_mul (hc i) (Nat.pow_le_pow_left hx i)
  have t0 := t 0
  have t1 := t 1
  have t2 := t 2
  have t3 := t 3
  have t4 := t 4
  omega
/-- A factor of degree m of a polynomial of degree m + n ≤ 4: its coefficients. -/
theorem nb_ {g F : Nat → Int} {n m R : Nat} (hg0 : g n ≠ 0) (hg : ∀ i, n < i → g i = 0) (hF : ∀ i, m < i → F i = 0) (hmn : n + m ≤ 4) (hR : ∀ k, (conv g F k).natAbs ≤ R) (hm : m ≤ 3) : ∀ i, (F i).natAbs ≤ 9 ^ m * (121 * R) := by
  have hbad : ((pts.filter fun x => !(ev 5 g x != 0)).length) ≤ n := k9_ (N := 5) _ n g (by omega) hg0 hg (List.Pairwise.sublist List.filter_sublist (by decide)) (fun x hx => by
    have := (List.mem_filter.1 hx).2
    simpa using this)
  have hlen := if_ (fun x => ev 5 g x != 0) pts
  have hp : pts.length = 7 := rfl
  have hs : ((pts.filter fun x => ev 5 g x != 0).take (m + 1)).Sublist pts := (List.take_sublist _ _).trans List.filter_sublist
  have h3 : ∀ x ∈ pts, x.natAbs ≤ 3 := by decide
  exact mW_ (N := 5) (K := 3) (M := 0) m ((pts.filter fun x => ev 5 g x != 0).take (m + 1)) F (121 * R) (by omega) (by rw [List.length_take]; omega) (List.Pairwise.sublist hs (by decide)) (fun x hx => h3 x (hs.subset hx)) hF (fun x hx => by
    have h1 := (List.mem_filter.1 (List.mem_of_mem_take hx)).2
    have h2 : ev 5 g x ≠ 0 := by simpa using h1
    have h4 := ev_le hR (h3 x (hs.subset hx))
    rw [pd_ hg hF (by omega), Int.natAbs_mul] at h4
    have h5 := Nat.mul_le_mul_right (ev 5 F x).natAbs (show 1 ≤ (ev 5 g x).natAbs by omega)
    omega)
end Go.Num


set_option linter.unusedVariables false
set_option linter.unusedSimpArgs false
namespace Go.Num
open Go Go.Kn
/-- The new coefficient at j: r_j - c * g_(j-i). -/
def frE (g r : List I) (i : Nat) (c : Z) (j : Nat) : I := E (Z.sub (r.getD j I0).dec (Z.mul c (aD_ g ((j : Int) - (i : Int))).dec))
/-- The program's round. -/
theorem l5_ (p : List I) (i : Int) (r f : List I) (x : I) {g : List I} (hg : ac_ p (ad_ p) = g) {n : Nat} (hi : i = (n : Int)) : ∀ (fu k : Nat) (t : List I), g.length - k < fu → k ≤ g.length → t.length = r.length → n + g.length ≤ r.length → (∀ j, n + k ≤ j → t.getD j I0 = r.getD j I0) →
    (∃ t' k', bv_ p i r f x fu k t = .inl (k', t') ∧ t'.length = r.length ∧ (∀ j, t'.getD j I0 = if n + k ≤ j ∧ j < n + g.length then frE g r n ((f.set i.toNat x).getD i.toNat I0).dec j else t.getD j I0) ∧ ∀ j, n + k ≤ j → j < n + g.length → (frE g r n ((f.set i.toNat x).getD i.toNat I0).dec j).1.bad = false)
    ∨ (bv_ p i r f x fu k t = .inr badp ∧ ∃ j, n + k ≤ j ∧ j < n + g.length ∧ (frE g r n ((f.set i.toNat x).getD i.toNat I0).dec j).1.bad = true)
  | 0, k, t, h, _, _, _, _ => absurd h (Nat.not_lt_zero _)
  | fu + 1, k, t, h, hk, hl, hm, ht => by
    unfold bv_
    rw [hg]
    have hn : i.toNat = n := by omega
    generalize hc : ((f.set i.toNat x).getD i.toNat I0).dec = c at *
    rw [hn] at hc ⊢
    by_cases h1 : k < g.length
    · rw [decide_eq_true (by omega), cond_true]
      have hv : E (Z.sub (t.getD (n + k) I0).dec (E (Z.mul c (g.getD k I0).dec)).dec) = frE g r n c (n + k) := by
        unfold frE
        rw [ht (n + k) (Nat.le_refl _), E_dec, show ((n + k : Nat) : Int) - (n : Int) = ((k : Nat) : Int) by omega, jx_]
      simp only
      rw [hv, dx_ _ _ _ (by omega)]
      cases hb : (frE g r n c (n + k)).1.bad
      · rw [cond_false]
        rcases l5_ p i r f x hg hi fu (k + 1) (t.set (n + k) (frE g r n c (n + k))) (by omega) (by omega) (by rw [List.length_set]; exact hl) hm (fun j hj => by rw [ew_ _ _ _ _ (by omega)]; exact ht j (by omega)) with ⟨t', k', e1, e2, e3, e4⟩ | ⟨e1, j, j1, j2, j3⟩
        · rw [hn, hc] at e3 e4
          refine .inl ⟨t', k', e1, e2, fun j => ?_, fun j j1 j2 => ?_⟩
          · rw [e3 j]
            by_cases hj : j = n + k
            · subst hj
              rw [if_neg (by omega), if_pos (by omega), dx_ _ _ _ (by omega)]
            · rw [ew_ _ _ _ _ hj]
              by_cases hj2 : n + (k + 1) ≤ j ∧ j < n + g.length
              · rw [if_pos hj2, if_pos (by omega)]
              · rw [if_neg hj2, if_neg (by omega)]
          · by_cases hj : j = n + k
            · subst hj; exact hb
            · exact e4 j (by omega) j2
        · rw [hn, hc] at j3
          exact .inr ⟨e1, j, by omega, j2, j3⟩
      · exact .inr ⟨rfl, n + k, Nat.le_refl _, by omega, hb⟩
    · rw [decide_eq_false (by omega), cond_false]
      exact .inl ⟨t, k, rfl, hl, fun j => by rw [if_neg (by omega)], fun j j1 j2 => absurd j2 (by omega)⟩
end Go.Num

