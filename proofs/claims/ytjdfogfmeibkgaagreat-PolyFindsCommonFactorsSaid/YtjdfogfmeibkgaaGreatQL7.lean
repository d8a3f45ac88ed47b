/- Walks: what these functions return. Polynomials as functions from Nat: sums, products, values. No program stands in it. Polynomials: what the functions return, by coefficients, with their sizes. No program stands in it. -/
import Derived.Test.YtjdfogfmeibkgaaGreatQGE
import Derived.Test.YtjdfogfmeibkgaaGreatQFp
import Derived.Test.YtjdfogfmeibkgaaGreatQLa
import Derived.Test.YtjdfogfmeibkgaaGreatQWc
import Derived.Test.YtjdfogfmeibkgaaGreatQGf
import Derived.Test.YtjdfogfmeibkgaaGreatQYb
import Derived.Test.YtjdfogfmeibkgaaGreatQYc
import Derived.Test.YtjdfogfmeibkgaaGreatQYg
import Derived.Test.YtjdfogfmeibkgaaGreatQYr
import Derived.Test.YtjdfogfmeibkgaaGreatQYf
import Derived.KernelRfl
namespace Go.Proofs.YtjdfogfmeibkgaaGreat
open Go.Kn Go.Num
set_option linter.unusedVariables false
set_option linter.unusedSimpArgs false
set_option maxRecDepth 20000
set_option maxHeartbeats 8000000
theorem fs_ (vp : Value) (p : (List I)) (vq : Value) (q : (List I)) (vs : Value) (s : (List I)) (w : World) (hp : Slr w elI vp p) (hq : Slr w elI vq q) (hs : Slr w elI vs s) :
    Calls Tryz.prog 5 [vp, vq, vs].toArray w (fun e w' => e = .returned (.bool (aF_ p q s)) ∧ Ext w w') := by
 obtain ⟨p_p, c_p, rfl⟩ := hp.form
 obtain ⟨p_q, c_q, rfl⟩ := hq.form
 obtain ⟨p_s, c_s, rfl⟩ := hs.form
 refine aU_ (N := 111) Tryz.func5 rfl rfl (by simp) ?_
 obtain ⟨w0, rfl⟩ : ∃ w0, w0 = w := ⟨_, rfl⟩
 have Hp := hp.old
 have hm_p := hp.max
 have Hq := hq.old
 have hm_q := hq.max
 have Hs := hs.old
 have hm_s := hs.max
 simp only [initF, Nat.reduceAdd]
 refine Rs fun K J => sE rfl (nl J (Sq fun K1 J1 => ?_))
 refine bD_ [10, 11, 12, 13, 14, 15, 16, 17, 18, 19, 20, 21, 22, 23, 24, 25, 26, 27, 28, 29, 30, 31, 32, 33, 34] (fun g M => (g 34 = .bool (!(ah_ p 3 12) || (!(ah_ q 3 12) || (!(ah_ s 3 12) || ((ae_ p) || ((ae_ q) || (ae_ s))))))) ∧ M = []) (fun K2 J2 => ?_) ?_
 ·skip
  refine Rk fun K J => sE rfl (sQ (q_as (v' := .bool (ah_ p 3 12)) (aH_ en_22 rfl (fun w hw => cd_ _ p 3 12 w (SLe.ap hw (SLe.sub Hp sn)) (by first | omega | (simp only [List.length_cons, List.length_nil, and_true, true_and] <;> omega) | simp))) rfl) rfl ?_)
  refine sE rfl ?_
  rcases bt (ah_ p 3 12) with h6 | h6
  ·skip
   refine sB (not_f h6) rfl (sE rfl (sQ (q_as (v' := .bool (ah_ q 3 12)) (aH_ en_22 rfl (fun w hw => cd_ _ q 3 12 w (SLe.ap hw (SLe.sub Hq sn)) (by first | omega | (simp only [List.length_cons, List.length_nil, and_true, true_and] <;> omega) | simp))) rfl) rfl ?_))
   refine sE rfl (sE rfl ?_)
   rcases bt (ah_ q 3 12) with h7 | h7
   ·skip
    refine sB (not_f h7) rfl (sE rfl (sQ (q_as (v' := .bool (ah_ s 3 12)) (aH_ en_22 rfl (fun w hw => cd_ _ s 3 12 w (SLe.ap hw (SLe.sub Hs sn)) (by first | omega | (simp only [List.length_cons, List.length_nil, and_true, true_and] <;> omega) | simp))) rfl) rfl ?_))
    refine sE rfl (sE rfl ?_)
    rcases bt (ah_ s 3 12) with h8 | h8
    ·skip
     refine sB (not_f h8) rfl (sE rfl (sQ (q_as (v' := .bool (ae_ p)) (aH_ en_18 rfl (fun w hw => aC_ _ p w (SLe.ap hw (SLe.sub Hp sn)))) rfl) rfl (sE rfl ?_)))
     rcases bt (ae_ p) with h9 | h9
     ·skip
      refine sB h9 rfl (WL_n rfl (WL_n rfl (sE rfl (sE rfl (WL_n rfl (WL_n rfl (sE rfl (nl J ?_))))))))
      refine J2 _ _ (by repeat first | exact .refl | refine .cons rfl ?_) ⟨_, s0, ?s34, rfl⟩
      case s34 => exact congrArg Value.bool (nor_t h6 (nor_t h7 (nor_t h8 (or_t h9))))
     ·skip
      refine sB h9 rfl (sE rfl (sQ (q_as (v' := .bool (ae_ q)) (aH_ en_18 rfl (fun w hw => aC_ _ q w (SLe.ap hw (SLe.sub Hq sn)))) rfl) rfl (sE rfl ?_)))
      rcases bt (ae_ q) with h10 | h10
      ·skip
       refine sB h10 rfl (WL_n rfl (WL_n rfl (sE rfl (nl J ?_))))
       refine J2 _ _ (by repeat first | exact .refl | refine .cons rfl ?_) ⟨_, s0, ?s34, rfl⟩
       case s34 => exact congrArg Value.bool (nor_t h6 (nor_t h7 (nor_t h8 (or_f h9 (or_t h10)))))
      ·skip
       refine sB h10 rfl (sE rfl (sQ (q_as (v' := .bool (ae_ s)) (aH_ en_18 rfl (fun w hw => aC_ _ s w (SLe.ap hw (SLe.sub Hs sn)))) rfl) rfl (sE rfl (nl J ?_))))
       refine J2 _ _ (by repeat first | exact .refl | refine .cons rfl ?_) ⟨_, s0, ?s34, rfl⟩
       case s34 => exact congrArg Value.bool (nor_t h6 (nor_t h7 (nor_t h8 (or_f h9 (or_f h10 rfl)))))
    ·skip
     refine sB (not_t h8) rfl (WL_n rfl (WL_n rfl (sE rfl (sE rfl (WL_n rfl (WL_n rfl (sE rfl (sE rfl (WL_n rfl (WL_n rfl (sE rfl (nl J ?_))))))))))))
     refine J2 _ _ (by repeat first | exact .refl | refine .cons rfl ?_) ⟨_, s0, ?s34, rfl⟩
     case s34 => exact congrArg Value.bool (nor_t h6 (nor_t h7 (nor_f h8)))
   ·skip
    refine sB (not_t h7) rfl (WL_n rfl (WL_n rfl (WL_n rfl (sE rfl (sE rfl (WL_n rfl (WL_n rfl (sE rfl (sE rfl (WL_n rfl (WL_n rfl (sE rfl (sE rfl (WL_n rfl (WL_n rfl (sE rfl (nl J ?_)))))))))))))))))
    refine J2 _ _ (by repeat first | exact .refl | refine .cons rfl ?_) ⟨_, s0, ?s34, rfl⟩
    case s34 => exact congrArg Value.bool (nor_t h6 (nor_f h7))
  ·skip
   refine sB (not_t h6) rfl (WL_n rfl (WL_n rfl (WL_n rfl (sE rfl (sE rfl (WL_n rfl (WL_n rfl (WL_n rfl (sE rfl (sE rfl (WL_n rfl (WL_n rfl (sE rfl (sE rfl (WL_n rfl (WL_n rfl (sE rfl (sE rfl (WL_n rfl ?_)))))))))))))))))))
   refine WL_n rfl (sE rfl (nl J ?_))
   refine J2 _ _ (by repeat first | exact .refl | refine .cons rfl ?_) ⟨_, s0, ?s34, rfl⟩
   case s34 => exact congrArg Value.bool (nor_f h6)
 ·skip
  rintro g11 M ⟨hg34, rfl⟩
  simp only [setG, hg34]
  clear hg34
  rcases bt (!(ah_ p 3 12) || (!(ah_ q 3 12) || (!(ah_ s 3 12) || ((ae_ p) || ((ae_ q) || (ae_ s)))))) with h12 | h12
  ·skip
   refine W_t h12 rfl (Rs fun K J => sQ (q_ret en_14 bV_  rfl) rfl (sE rfl (nl J (W_ret (aj_ (ret1 rfl (.inr rfl) rfl ?_))))))
   exact (by exact congrArg (fun r : Bool => (.bool r : Value)) (show _ = (aF_ p q s) from bif_t h12 rfl))
  ·skip
   refine W_f h12 rfl (am_ (J1 _ _ ?_))
   obtain ⟨hRp, hLp⟩ := few_f (Bool.or_eq_false_iff.1 h12).1
   obtain ⟨hRq, hLq⟩ := few_f (Bool.or_eq_false_iff.1 (Bool.or_eq_false_iff.1 h12).2).1
   obtain ⟨hRs, hLs⟩ := few_f (Bool.or_eq_false_iff.1 (Bool.or_eq_false_iff.1 (Bool.or_eq_false_iff.1 h12).2).2).1
   refine Rs fun K J => sE rfl (sE rfl (WL_r rfl (an_ (E := 38) (e := elI) (l := (aa_ p s)) (fun v => v) en_31 rfl (fun w hw => cA_ _ p _ s w (SLe.ap hw (SLe.sub Hp sn)) (SLe.ap hw (SLe.sub Hs sn)) (by first | omega | (simp only [List.length_cons, List.length_nil, and_true, true_and] <;> omega) | simp)) (fun p13 c14 L15 hF16 => ?_))))
   have hb17 := (cy_ p s)
   have hr18 := (cx_ p s)
   refine sE rfl (nl J (Rs fun K J => sE rfl (sE rfl (WL_r rfl (an_ (E := 38) (e := elI) (l := (aa_ q s)) (fun v => v) en_31 rfl (fun w hw => cA_ _ q _ s w (SLe.ap hw (SLe.sub Hq sn)) (SLe.ap hw (SLe.sub Hs sn)) (by first | omega | (simp only [List.length_cons, List.length_nil, and_true, true_and] <;> omega) | simp)) (fun p19 c20 L21 hF22 => ?_))))))
   have hb23 := (cy_ q s)
   have hr24 := (cx_ q s)
   refine sE rfl (nl J (Rs fun K J => sE rfl (sE rfl (WL_r rfl (an_ (E := 38) (e := elI) (l := (ac_ (aa_ p s) (aa_ q s))) (fun v => v) en_27 rfl (fun w hw => d9_ _ (aa_ p s) _ (aa_ q s) w (SLe.ap hw (SLfe.sle (OwnG.slfe hF16 (sR (List.sublist_append_left _ _))))) (SLe.ap hw (SLfe.sle (OwnG.slfe hF22 (List.sublist_append_left _ _)))) (by first | omega | (simp only [List.length_cons, List.length_nil, and_true, true_and] <;> omega) | simp)) (fun p25 c26 L27 hF28 => ?_))))))
   have hb29 := (dC_ (aa_ p s) (aa_ q s))
   refine sE rfl (nl J (Sq fun K3 J3 => ?_))
   refine bD_ [45, 46, 47, 48, 49, 50, 51, 52] (fun g M => (g 52 = .bool ((((((aa_ p s)).length : Nat) : Int) == 0) && (((((aa_ q s)).length : Nat) : Int) == 0))) ∧ M = (L27 ++ (L21 ++ (L15 ++ [])))) (fun K4 J4 => ?_) ?_
   ·skip
    refine Rk fun K J => sE rfl (sQ (q_as (v' := .int .i64 ((((aa_ p s)).length : Nat) : Int)) (aS_ (e := elI) sl_24 rfl (SLfe.sle (OwnG.slfe hF16 (sR (sR (List.sublist_append_left _ _)))))) rfl) rfl (sE rfl ?_))
    rcases bt (((((aa_ p s)).length : Nat) : Int) == 0) with h31 | h31
    ·skip
     have ph31 := ea_ h31
     refine sB h31 rfl (sE rfl (sQ (q_as (v' := .int .i64 ((((aa_ q s)).length : Nat) : Int)) (aS_ (e := elI) sl_24 rfl (SLfe.sle (OwnG.slfe hF22 (sR (List.sublist_append_left _ _))))) rfl) rfl (sE rfl (sE rfl (nl J ?_)))))
     refine J4 _ _ (by repeat first | exact .refl | refine .cons rfl ?_) ⟨_, s0, ?s52, rfl⟩
     case s52 => exact congrArg Value.bool (and_t h31 rfl)
    ·skip
     have ph31 := c9_ h31
     refine sB h31 rfl (WL_n rfl (WL_n rfl (WL_n rfl (sE rfl (nl J ?_)))))
     refine J4 _ _ (by repeat first | exact .refl | refine .cons rfl ?_) ⟨_, s0, ?s52, rfl⟩
     case s52 => exact congrArg Value.bool (and_f h31)
   ·skip
    rintro g32 M ⟨hg52, rfl⟩
    simp only [setG, hg52]
    clear hg52
    rcases bt ((((((aa_ p s)).length : Nat) : Int) == 0) && (((((aa_ q s)).length : Nat) : Int) == 0)) with h33 | h33
    ·skip
     have ph34 := ea_ (Bool.and_eq_true_iff.1 h33).1
     have ph35 := ea_ (Bool.and_eq_true_iff.1 h33).2
     refine W_t h33 rfl ?_
     refine bD_ [6, 53, 54, 55, 56, 57, 58] (fun g M => (g 6 = .bool (aI_ && (((((ac_ (aa_ p s) (aa_ q s))).length : Nat) : Int) == 0))) ∧ M = (L27 ++ (L21 ++ (L15 ++ [])))) (fun K5 J5 => ?_) ?_
     ·skip
      refine Rk fun K J => sQ (q_ret en_14 bV_  rfl) rfl ?_
      rcases bt aI_ with h37 | h37
      ·skip
       refine sB h37 rfl (sE rfl (sQ (q_as (v' := .int .i64 ((((ac_ (aa_ p s) (aa_ q s))).length : Nat) : Int)) (aS_ (e := elI) sl_24 rfl (SLfe.sle (OwnG.slfe hF28 (List.sublist_append_left _ _)))) rfl) rfl (sE rfl (sE rfl (sE rfl (nl J ?_))))))
       refine J5 _ _ (by repeat first | exact .refl | refine .cons rfl ?_) ⟨_, s0, ?s6, rfl⟩
       case s6 => exact congrArg Value.bool (and_t h37 rfl)
      ·skip
       refine sB h37 rfl (WL_n rfl (WL_n rfl (WL_n rfl (sE rfl (sE rfl (nl J ?_))))))
       refine J5 _ _ (by repeat first | exact .refl | refine .cons rfl ?_) ⟨_, s0, ?s6, rfl⟩
       case s6 => exact congrArg Value.bool (and_f h37)
     ·skip
      rintro g38 M ⟨hg6, rfl⟩
      simp only [setG, hg6]
      clear hg6
      refine W_ret (aj_ (ret1 rfl (.inr rfl) rfl ?_))
      exact (by exact congrArg (fun r : Bool => (.bool r : Value)) (show _ = (aF_ p q s) from bif_f h12 (bif_t h33 rfl)))
    ·skip
     refine W_f h33 rfl (am_ (J3 _ _ (Sq fun K6 J6 => ?_)))
     refine bD_ [59, 60, 61, 62, 63, 64, 65, 66, 67, 68, 69, 70, 71, 72, 73, 74, 75, 76, 77, 78, 79, 80, 81, 82, 83, 84, 85, 86, 87, 88, 89] (fun g M => (g 89 = .bool ((((((ac_ (aa_ p s) (aa_ q s))).length : Nat) : Int) == 0) || ((ae_ (ac_ (aa_ p s) (aa_ q s))) || ((((((ao_ (aa_ p s) (ac_ (aa_ p s) (aa_ q s)))).length : Nat) : Int) != 0) || ((((((ao_ (aa_ q s) (ac_ (aa_ p s) (aa_ q s)))).length : Nat) : Int) != 0) || ((Z.signW ((ac_ (aa_ p s) (aa_ q s)).getD (((ac_ (aa_ p s) (aa_ q s))).length - 1) I0).dec).1 != 1)))))) ∧ M = (L27 ++ (L21 ++ (L15 ++ [])))) (fun K7 J7 => ?_) ?_
     ·skip
      refine Rk fun K J => sE rfl (sQ (q_as (v' := .int .i64 ((((ac_ (aa_ p s) (aa_ q s))).length : Nat) : Int)) (aS_ (e := elI) sl_24 rfl (SLfe.sle (OwnG.slfe hF28 (List.sublist_append_left _ _)))) rfl) rfl (sE rfl ?_))
      rcases bt (((((ac_ (aa_ p s) (aa_ q s))).length : Nat) : Int) == 0) with h57 | h57
      ·skip
       have ph57 := ea_ h57
       refine sB h57 rfl (WL_n rfl (WL_n rfl (sE rfl (sE rfl (WL_n rfl (WL_n rfl (WL_n rfl (WL_n rfl (WL_n rfl (sE rfl (sE rfl (WL_n rfl (WL_n rfl (WL_n rfl (WL_n rfl (WL_n rfl (sE rfl (sE rfl (WL_n rfl ?_)))))))))))))))))))
       refine WL_n rfl (WL_n rfl (WL_n rfl (WL_n rfl (WL_n rfl (WL_n rfl (WL_n rfl (sE rfl (nl J ?_))))))))
       refine J7 _ _ (by repeat first | exact .refl | refine .cons rfl ?_) ⟨_, s0, ?s89, rfl⟩
       case s89 => exact congrArg Value.bool (or_t h57)
      ·skip
       have ph57 := c9_ h57
       refine sB h57 rfl (sE rfl (sQ (q_as (v' := .bool (ae_ (ac_ (aa_ p s) (aa_ q s)))) (aH_ en_18 rfl (fun w hw => aC_ _ (ac_ (aa_ p s) (aa_ q s)) w (SLe.ap hw (SLfe.sle (OwnG.slfe hF28 (List.sublist_append_left _ _)))))) rfl) rfl (sE rfl ?_)))
       rcases bt (ae_ (ac_ (aa_ p s) (aa_ q s))) with h58 | h58
       ·skip
        refine sB h58 rfl (WL_n rfl (WL_n rfl (WL_n rfl (WL_n rfl (WL_n rfl (sE rfl (sE rfl (WL_n rfl (WL_n rfl (WL_n rfl (WL_n rfl (WL_n rfl (sE rfl (sE rfl (WL_n rfl (WL_n rfl (WL_n rfl (WL_n rfl (WL_n rfl ?_)))))))))))))))))))
        refine WL_n rfl (WL_n rfl (WL_n rfl (sE rfl (nl J ?_))))
        refine J7 _ _ (by repeat first | exact .refl | refine .cons rfl ?_) ⟨_, s0, ?s89, rfl⟩
        case s89 => exact congrArg Value.bool (or_f h57 (or_t h58))
       ·skip
        refine sB h58 rfl (sE rfl (sE rfl (WL_r rfl (an_ (E := 38) (e := elI) (l := (ao_ (aa_ p s) (ac_ (aa_ p s) (aa_ q s)))) (fun v => v) en_23 rfl (fun w hw => cO_ _ (aa_ p s) _ (ac_ (aa_ p s) (aa_ q s)) w (SLe.ap hw (SLfe.sle (OwnG.slfe hF16 (sR (sR (List.sublist_append_left _ _)))))) (SLe.ap hw (SLfe.sle (OwnG.slfe hF28 (List.sublist_append_left _ _)))) (by first | omega | (simp only [List.length_cons, List.length_nil, and_true, true_and] <;> omega) | simp)) (fun p59 c60 L61 hF62 => ?_)))))
        have hb63 := (cn_ (aa_ p s) (ac_ (aa_ p s) (aa_ q s)))
        refine sQ (q_as (v' := .int .i64 ((((ao_ (aa_ p s) (ac_ (aa_ p s) (aa_ q s)))).length : Nat) : Int)) (aS_ (e := elI) sl_24 rfl (SLfe.sle (OwnG.slfe hF62 (List.sublist_append_left _ _)))) rfl) rfl (sE rfl (sE rfl ?_))
        rcases bt (((((ao_ (aa_ p s) (ac_ (aa_ p s) (aa_ q s)))).length : Nat) : Int) != 0) with h64 | h64
        ·skip
         have ph65 := neI_t h64
         refine sB h64 rfl (WL_n rfl (WL_n rfl (WL_n rfl (WL_n rfl (WL_n rfl (sE rfl (sE rfl (WL_n rfl (WL_n rfl (WL_n rfl (WL_n rfl (WL_n rfl (WL_n rfl (WL_n rfl (WL_n rfl (sE rfl (nl J ?_)))))))))))))))))
         refine J7 _ _ (by repeat first | exact .refl | refine .cons rfl ?_) ⟨_, (sR (s0)), ?s89, rfl⟩
         case s89 => exact congrArg Value.bool (or_f h57 (or_f h58 (or_t h64)))
        ·skip
         have ph66 := neI_f h64
         refine sB h64 rfl (sE rfl (sE rfl (WL_r rfl (an_ (E := 38) (e := elI) (l := (ao_ (aa_ q s) (ac_ (aa_ p s) (aa_ q s)))) (fun v => v) en_23 rfl (fun w hw => cO_ _ (aa_ q s) _ (ac_ (aa_ p s) (aa_ q s)) w (SLe.ap hw (SLfe.sle (OwnG.slfe hF22 (sR (sR (List.sublist_append_left _ _)))))) (SLe.ap hw (SLfe.sle (OwnG.slfe hF28 (sR (List.sublist_append_left _ _))))) (by first | omega | (simp only [List.length_cons, List.length_nil, and_true, true_and] <;> omega) | simp)) (fun p67 c68 L69 hF70 => ?_)))))
         have hb71 := (cn_ (aa_ q s) (ac_ (aa_ p s) (aa_ q s)))
         refine sQ (q_as (v' := .int .i64 ((((ao_ (aa_ q s) (ac_ (aa_ p s) (aa_ q s)))).length : Nat) : Int)) (aS_ (e := elI) sl_24 rfl (SLfe.sle (OwnG.slfe hF70 (List.sublist_append_left _ _)))) rfl) rfl (sE rfl (sE rfl ?_))
         rcases bt (((((ao_ (aa_ q s) (ac_ (aa_ p s) (aa_ q s)))).length : Nat) : Int) != 0) with h72 | h72
         ·skip
          have ph73 := neI_t h72
          refine sB h72 rfl (WL_n rfl (WL_n rfl (WL_n rfl (WL_n rfl (WL_n rfl (WL_n rfl (WL_n rfl (WL_n rfl (sE rfl (nl J ?_))))))))))
          refine J7 _ _ (by repeat first | exact .refl | refine .cons rfl ?_) ⟨_, (sR (sR (s0))), ?s89, rfl⟩
          case s89 => exact congrArg Value.bool (or_f h57 (or_f h58 (or_f h64 (or_t h72))))
         ·skip
          have ph74 := neI_f h72
          refine sB h72 rfl (sE rfl (sE rfl (sQ (q_as (v' := .int .i64 ((((ac_ (aa_ p s) (aa_ q s))).length : Nat) : Int)) (aS_ (e := elI) sl_24 rfl (SLfe.sle (OwnG.slfe hF28 (sR (sR (List.sublist_append_left _ _)))))) rfl) rfl (sV (.int .i64 (((((ac_ (aa_ p s) (aa_ q s))).length : Nat) : Int) - 1)) rfl (congrArg (Value.int .i64) (wx (by omega) (by omega) (by omega))) (sQ (q_as (v' := .pointer (some (slb (.slice p25 (ac_ (aa_ p s) (aa_ q s)).length c26) ((((ac_ (aa_ p s) (aa_ q s))).length - 1) * 18 + 0)))) (c4_ (e := elI) (l := (ac_ (aa_ p s) (aa_ q s))) (k := (((ac_ (aa_ p s) (aa_ q s))).length - 1)) sl_24 rfl rfl (by omega) (SLfe.sle (OwnG.slfe hF28 (sR (sR (List.sublist_append_left _ _))))) (by first | omega | (simp only [List.length_set, List.length_append, List.length_cons, List.length_nil]; omega))) rfl) rfl ?_)))))
          refine sQ (q_ldG (e := elI) (l := (ac_ (aa_ p s) (aa_ q s))) (k := (((ac_ (aa_ p s) (aa_ q s))).length - 1)) (o := 0) ty_38 rfl (SLfe.sle (OwnG.slfe hF28 (sR (sR (List.sublist_append_left _ _))))) (aA_ I0 (by first | omega | (simp only [List.length_set, List.length_append, List.length_cons, List.length_nil]; omega))) rfl) rfl ?_
          refine sC (.int .i64 ((Z.signW ((ac_ (aa_ p s) (aa_ q s)).getD (((ac_ (aa_ p s) (aa_ q s))).length - 1) I0).dec).1)) en_32 (bK_ ((ac_ (aa_ p s) (aa_ q s)).getD (((ac_ (aa_ p s) (aa_ q s))).length - 1) I0).1 ((ac_ (aa_ p s) (aa_ q s)).getD (((ac_ (aa_ p s) (aa_ q s))).length - 1) I0).2) rfl rfl rfl (sE rfl (sE rfl (nl J ?_)))
          refine J7 _ _ (by repeat first | exact .refl | refine .cons rfl ?_) ⟨_, (sR (sR (s0))), ?s89, rfl⟩
          case s89 => exact congrArg Value.bool (or_f h57 (or_f h58 (or_f h64 (or_f h72 rfl))))
     ·skip
      rintro g75 M ⟨hg89, rfl⟩
      simp only [setG, hg89]
      clear hg89
      rcases bt ((((((ac_ (aa_ p s) (aa_ q s))).length : Nat) : Int) == 0) || ((ae_ (ac_ (aa_ p s) (aa_ q s))) || ((((((ao_ (aa_ p s) (ac_ (aa_ p s) (aa_ q s)))).length : Nat) : Int) != 0) || ((((((ao_ (aa_ q s) (ac_ (aa_ p s) (aa_ q s)))).length : Nat) : Int) != 0) || ((Z.signW ((ac_ (aa_ p s) (aa_ q s)).getD (((ac_ (aa_ p s) (aa_ q s))).length - 1) I0).dec).1 != 1))))) with h76 | h76
      ·skip
       refine W_t h76 rfl (Rs fun K J => sE rfl (nl J (W_ret (aj_ (ret1 rfl (.inr rfl) rfl ?_)))))
       exact (by exact congrArg (fun r : Bool => (.bool r : Value)) (show _ = (aF_ p q s) from bif_f h12 (bif_f h33 (bif_t h76 rfl))))
      ·skip
       have ph77 := c9_ (Bool.or_eq_false_iff.1 h76).1
       have ph78 := neI_f (Bool.or_eq_false_iff.1 (Bool.or_eq_false_iff.1 (Bool.or_eq_false_iff.1 h76).2).2).1
       have ph79 := neI_f (Bool.or_eq_false_iff.1 (Bool.or_eq_false_iff.1 (Bool.or_eq_false_iff.1 (Bool.or_eq_false_iff.1 h76).2).2).2).1
       refine W_f h76 rfl (am_ (J6 _ _ ?_))
       refine bD_ [6, 90, 91, 92, 93, 94, 95, 96, 97, 98, 99, 100, 101, 102, 103, 104, 105, 106, 107, 108, 109, 110] (fun g M => (g 6 = .bool (aI_ && ((((((ao_ (ac_ (aa_ p s) (aa_ q s)) s)).length : Nat) : Int) == 0) && ((ai_ (ab_ (ac_ (aa_ p s) (aa_ q s))) (ac_ (aa_ p s) (aa_ q s))) && (ai_ (ac_ (aa_ q s) (aa_ p s)) (ac_ (aa_ p s) (aa_ q s))))))) ∧ M = (L27 ++ (L21 ++ (L15 ++ [])))) (fun K8 J8 => ?_) ?_
       ·skip
        refine Rk fun K J => sQ (q_ret en_14 bV_  rfl) rfl ?_
        rcases bt aI_ with h98 | h98
        ·skip
         refine sB h98 rfl (sE rfl (sE rfl (WL_r rfl (an_ (E := 38) (e := elI) (l := (ao_ (ac_ (aa_ p s) (aa_ q s)) s)) (fun v => v) en_23 rfl (fun w hw => cO_ _ (ac_ (aa_ p s) (aa_ q s)) _ s w (SLe.ap hw (SLfe.sle (OwnG.slfe hF28 (List.sublist_append_left _ _)))) (SLe.ap hw (SLe.sub Hs sn)) (by first | omega | (simp only [List.length_cons, List.length_nil, and_true, true_and] <;> omega) | simp)) (fun p99 c100 L101 hF102 => ?_)))))
         have hb103 := (cn_ (ac_ (aa_ p s) (aa_ q s)) s)
         refine sQ (q_as (v' := .int .i64 ((((ao_ (ac_ (aa_ p s) (aa_ q s)) s)).length : Nat) : Int)) (aS_ (e := elI) sl_24 rfl (SLfe.sle (OwnG.slfe hF102 (List.sublist_append_left _ _)))) rfl) rfl (sE rfl (sE rfl ?_))
         rcases bt (((((ao_ (ac_ (aa_ p s) (aa_ q s)) s)).length : Nat) : Int) == 0) with h104 | h104
         ·skip
          have ph104 := ea_ h104
          refine sB h104 rfl (sE rfl (WL_r rfl (an_ (E := 38) (e := elI) (l := (ab_ (ac_ (aa_ p s) (aa_ q s)))) (fun v => v) en_25 rfl (fun w hw => bM_ _ (ac_ (aa_ p s) (aa_ q s)) w (SLe.ap hw (SLfe.sle (OwnG.slfe hF28 (sR (List.sublist_append_left _ _))))) (by first | omega | (simp only [List.length_cons, List.length_nil, and_true, true_and] <;> omega) | simp)) (fun p105 c106 L107 hF108 => ?_))))
          have hb109 := (ay_ (ac_ (aa_ p s) (aa_ q s)))
          refine sE rfl (sQ (q_as (v' := .bool (ai_ (ab_ (ac_ (aa_ p s) (aa_ q s))) (ac_ (aa_ p s) (aa_ q s)))) (aH_ en_17 rfl (fun w hw => ax_ _ (ab_ (ac_ (aa_ p s) (aa_ q s))) _ (ac_ (aa_ p s) (aa_ q s)) w (SLe.ap hw (SLfe.sle (OwnG.slfe hF108 (List.sublist_append_left _ _)))) (SLe.ap hw (SLfe.sle (OwnG.slfe hF28 (sR (sR (List.sublist_append_left _ _)))))))) rfl) rfl (sE rfl ?_))
          rcases bt (ai_ (ab_ (ac_ (aa_ p s) (aa_ q s))) (ac_ (aa_ p s) (aa_ q s))) with h110 | h110
          ·skip
           refine sB h110 rfl (sE rfl (sE rfl (WL_r rfl (an_ (E := 38) (e := elI) (l := (ac_ (aa_ q s) (aa_ p s))) (fun v => v) en_27 rfl (fun w hw => d9_ _ (aa_ q s) _ (aa_ p s) w (SLe.ap hw (SLfe.sle (OwnG.slfe hF22 (sR (sR (sR (List.sublist_append_left _ _))))))) (SLe.ap hw (SLfe.sle (OwnG.slfe hF16 (sR (sR (sR (sR (List.sublist_append_left _ _)))))))) (by first | omega | (simp only [List.length_cons, List.length_nil, and_true, true_and] <;> omega) | simp)) (fun p111 c112 L113 hF114 => ?_)))))
           have hb115 := (dC_ (aa_ q s) (aa_ p s))
           refine sE rfl (sQ (q_as (v' := .bool (ai_ (ac_ (aa_ q s) (aa_ p s)) (ac_ (aa_ p s) (aa_ q s)))) (aH_ en_17 rfl (fun w hw => ax_ _ (ac_ (aa_ q s) (aa_ p s)) _ (ac_ (aa_ p s) (aa_ q s)) w (SLe.ap hw (SLfe.sle (OwnG.slfe hF114 (List.sublist_append_left _ _)))) (SLe.ap hw (SLfe.sle (OwnG.slfe hF28 (sR (sR (sR (List.sublist_append_left _ _))))))))) rfl) rfl (sE rfl (sE rfl (nl J ?_))))
           refine J8 _ _ (by repeat first | exact .refl | refine .cons rfl ?_) ⟨_, (sR (sR (sR (s0)))), ?s6, rfl⟩
           case s6 => exact congrArg Value.bool (and_t h98 (and_t h104 (and_t h110 rfl)))
          ·skip
           refine sB h110 rfl (WL_n rfl (WL_n rfl (WL_n rfl (WL_n rfl (WL_n rfl (sE rfl (sE rfl (nl J ?_))))))))
           refine J8 _ _ (by repeat first | exact .refl | refine .cons rfl ?_) ⟨_, (sR (sR (s0))), ?s6, rfl⟩
           case s6 => exact congrArg Value.bool (and_t h98 (and_t h104 (and_f h110)))
         ·skip
          have ph104 := c9_ h104
          refine sB h104 rfl (WL_n rfl (WL_n rfl (WL_n rfl (WL_n rfl (sE rfl (sE rfl (WL_n rfl (WL_n rfl (WL_n rfl (WL_n rfl (WL_n rfl (sE rfl (sE rfl (nl J ?_))))))))))))))
          refine J8 _ _ (by repeat first | exact .refl | refine .cons rfl ?_) ⟨_, (sR (s0)), ?s6, rfl⟩
          case s6 => exact congrArg Value.bool (and_t h98 (and_f h104))
        ·skip
         refine sB h98 rfl (WL_n rfl (WL_n rfl (WL_n rfl (WL_n rfl (WL_n rfl (sE rfl (sE rfl (WL_n rfl (WL_n rfl (WL_n rfl (WL_n rfl (sE rfl (sE rfl (WL_n rfl (WL_n rfl (WL_n rfl (WL_n rfl (WL_n rfl (sE rfl ?_)))))))))))))))))))
         refine sE rfl (nl J ?_)
         refine J8 _ _ (by repeat first | exact .refl | refine .cons rfl ?_) ⟨_, s0, ?s6, rfl⟩
         case s6 => exact congrArg Value.bool (and_f h98)
       ·skip
        rintro g116 M ⟨hg6, rfl⟩
        simp only [setG, hg6]
        clear hg6
        refine W_ret (ret1 rfl (.inr rfl) rfl ?_)
        exact (by exact congrArg (fun r : Bool => (.bool r : Value)) (show _ = (aF_ p q s) from bif_f h12 (bif_f h33 (bif_f h76 rfl))))
end Go.Proofs.YtjdfogfmeibkgaaGreat


set_option linter.unusedVariables false
set_option linter.unusedSimpArgs false
namespace Go.Num
class Rg (α : Type) [Add α] [Mul α] [OfNat α 0] : Prop where
  aa : ∀ a b c : α, a + b + c = a + (b + c)
  ac : ∀ a b : α, a + b = b + a
  a0 : ∀ a : α, a + 0 = a
  ma : ∀ a b c : α, a * b * c = a * (b * c)
  mc : ∀ a b : α, a * b = b * a
  md : ∀ a b c : α, a * (b + c) = a * b + a * c
  m0 : ∀ a : α, a * 0 = 0
instance : Rg Int := ⟨Int.add_assoc, Int.add_comm, Int.add_zero, Int.mul_assoc, Int.mul_comm, Int.mul_add, Int.mul_zero⟩
instance : Rg Rat := ⟨Rat.add_assoc, Rat.add_comm, Rat.add_zero, Rat.mul_assoc, Rat.mul_comm, Rat.mul_add, Rat.mul_zero⟩
theorem Rg.za {α : Type} [Add α] [Mul α] [OfNat α 0] [Rg α] (a : α) : 0 + a = a := by rw [Rg.ac, Rg.a0]
theorem Rg.zm {α : Type} [Add α] [Mul α] [OfNat α 0] [Rg α] (a : α) : 0 * a = 0 := by rw [Rg.mc, Rg.m0]
/-- The sum of the first n values. -/
def sumN {α : Type} [Add α] [OfNat α 0] (f : Nat → α) : Nat → α
  | 0 => 0
  | n + 1 => sumN f n + f n
theorem bx_ {α : Type} [Add α] [OfNat α 0] {f g : Nat → α} : ∀ {n : Nat}, (∀ i, i < n → f i = g i) → sumN f n = sumN g n
  | 0, _ => rfl
  | n + 1, h => by simp only [sumN]; rw [bx_ fun i hi => h i (by omega), h n (by omega)]
theorem cD_ {α : Type} [Add α] [Mul α] [OfNat α 0] [Rg α] {f : Nat → α} : ∀ {n : Nat}, (∀ i, i < n → f i = 0) → sumN f n = 0
  | 0, _ => rfl
  | n + 1, h => by simp only [sumN]; rw [cD_ fun i hi => h i (by omega), h n (by omega), Rg.a0]
theorem gn_ {α : Type} [Add α] [Mul α] [OfNat α 0] [Rg α] (f g : Nat → α) : ∀ n : Nat, sumN (fun i => f i + g i) n = sumN f n + sumN g n
  | 0 => (Rg.a0 _).symm
  | n + 1 => by
    simp only [sumN]
    rw [gn_ f g n, Rg.aa, Rg.aa, ← Rg.aa (sumN g n), Rg.ac (sumN g n) (f n), Rg.aa]
theorem d6_ {α : Type} [Add α] [Mul α] [OfNat α 0] [Rg α] (c : α) (f : Nat → α) : ∀ n : Nat, sumN (fun i => c * f i) n = c * sumN f n
  | 0 => (Rg.m0 _).symm
  | n + 1 => by simp only [sumN]; rw [d6_ c f n, Rg.md]
theorem hs_ {α : Type} [Add α] [Mul α] [OfNat α 0] [Rg α] (c : α) (f : Nat → α) (n : Nat) : sumN (fun i => f i * c) n = sumN f n * c := by
  rw [Rg.mc _ c, ← d6_]; exact bx_ fun i _ => Rg.mc _ _
theorem d0_ {α : Type} [Add α] [Mul α] [OfNat α 0] [Rg α] (f : Nat → α) : ∀ n : Nat, sumN f (n + 1) = f 0 + sumN (fun i => f (i + 1)) n
  | 0 => by simp only [sumN]; rw [Rg.ac]
  | n + 1 => by rw [sumN, d0_ f n, Rg.aa]; rfl
theorem ll_ {α : Type} [Add α] [Mul α] [OfNat α 0] [Rg α] (f : Nat → α) : ∀ n : Nat, sumN f n = sumN (fun i => f (n - 1 - i)) n
  | 0 => rfl
  | n + 1 => by
    rw [d0_ (fun i => f (n + 1 - 1 - i)), sumN, Rg.ac, ll_ f n]
    rw [show n + 1 - 1 - 0 = n by omega]
    congr 1
    exact bx_ fun i hi => congrArg f (by omega)
theorem dn_ {α : Type} [Add α] [Mul α] [OfNat α 0] [Rg α] {f : Nat → α} {n : Nat} (h : ∀ i, n ≤ i → f i = 0) : ∀ m : Nat, n ≤ m → sumN f m = sumN f n
  | 0, hm => by rw [show n = 0 by omega]
  | m + 1, hm => by
    rcases Nat.lt_or_ge n (m + 1) with g | g
    · rw [sumN, h m (by omega), Rg.a0, dn_ h m (by omega)]
    · rw [show n = m + 1 by omega]
theorem i2_ {α : Type} [Add α] [Mul α] [OfNat α 0] [Rg α] {f : Nat → α} {a : Nat} (h : ∀ i, i ≠ a → f i = 0) {n : Nat} (hn : a < n) : sumN f n = f a := by
  rw [dn_ (n := a + 1) (fun i hi => h i (by omega)) n hn, sumN, cD_ fun i hi => h i (by omega), Rg.za]
theorem iQ_ {α : Type} [Add α] [Mul α] [OfNat α 0] [Rg α] (f : Nat → Nat → α) : ∀ n : Nat, sumN (fun k => sumN (fun i => f i (k - i)) (k + 1)) n = sumN (fun i => sumN (fun j => f i j) (n - i)) n
  | 0 => rfl
  | n + 1 => by
    rw [sumN, iQ_ f n]
    rw [bx_ (f := fun i => sumN (fun j => f i j) (n + 1 - i)) (g := fun i => sumN (fun j => f i j) (n - i) + f i (n - i)) (fun i hi => by
      rw [show n + 1 - i = n - i + 1 by omega]; rfl)]
    rw [gn_]
    congr 1
    rw [sumN, Nat.sub_self, sumN, Rg.a0]
/-- The coefficients of a product. -/
def conv {α : Type} [Add α] [Mul α] [OfNat α 0] (c d : Nat → α) (k : Nat) : α := sumN (fun i => c i * d (k - i)) (k + 1)
theorem ce_ {α : Type} [Add α] [Mul α] [OfNat α 0] [Rg α] (c d : Nat → α) : conv c d = conv d c := by
  funext k
  unfold conv
  rw [ll_]
  refine bx_ fun i hi => ?_
  rw [Rg.mc, show k - (k + 1 - 1 - i) = i by omega, show k + 1 - 1 - i = k - i by omega]
theorem gi_ {α : Type} [Add α] [Mul α] [OfNat α 0] [Rg α] (c d e : Nat → α) : conv c (fun i => d i + e i) = fun k => conv c d k + conv c e k := by
  funext k
  unfold conv
  rw [← gn_]
  exact bx_ fun i _ => Rg.md _ _ _
theorem gq_ {α : Type} [Add α] [Mul α] [OfNat α 0] [Rg α] (a : α) (c d : Nat → α) : conv (fun i => a * c i) d = fun k => a * conv c d k := by
  funext k
  unfold conv
  rw [← d6_]
  exact bx_ fun i _ => Rg.ma _ _ _
theorem cV_ {α : Type} [Add α] [Mul α] [OfNat α 0] [Rg α] (a : α) (c d : Nat → α) : conv c (fun i => a * d i) = fun k => a * conv c d k := by
  rw [ce_, gq_, ce_]
theorem e0_ {α : Type} [Add α] [Mul α] [OfNat α 0] [Rg α] (c d e : Nat → α) : conv (conv c d) e = conv c (conv d e) := by
  funext k
  unfold conv
  have h := iQ_ (fun j m => c j * (d m * e (k - j - m))) (k + 1)
  refine Eq.trans (bx_ fun i hi => ?_) (h.trans (bx_ fun i hi => ?_))
  · rw [← hs_]
    refine bx_ fun j hj => ?_
    rw [Rg.ma, show k - j - (i - j) = k - i by omega]
  · rw [d6_, show k + 1 - i = k - i + 1 by omega]
theorem cC_ {α : Type} [Add α] [Mul α] [OfNat α 0] [Rg α] {c d : Nat → α} {n m : Nat} (hc : ∀ i, n ≤ i → c i = 0) (hd : ∀ i, m ≤ i → d i = 0) (k : Nat) (hk : n + m ≤ k + 1) : conv c d k = 0 := by
  refine cD_ fun i hi => ?_
  rcases Nat.lt_or_ge i n with h | h
  · rw [hd _ (by omega), Rg.m0]
  · rw [hc _ h, Rg.zm]
theorem c3_ {α : Type} [Add α] [Mul α] [OfNat α 0] [Rg α] {c d : Nat → α} {n m : Nat} (hc : ∀ i, n < i → c i = 0) (hd : ∀ i, m < i → d i = 0) : conv c d (n + m) = c n * d m := by
  unfold conv
  rw [i2_ (a := n) (fun i hi => ?_) (by omega), show n + m - n = m by omega]
  rcases Nat.lt_or_ge n i with h | h
  · rw [hc _ h, Rg.zm]
  · rw [hd _ (by omega), Rg.m0]
/-- Coefficients as rational numbers. -/
def cR (c : Nat → Int) (i : Nat) : Rat := (c i : Rat)
theorem iS_ (f : Nat → Int) : ∀ n : Nat, ((sumN f n : Int) : Rat) = sumN (fun i => (f i : Rat)) n
  | 0 => rfl
  | n + 1 => by simp only [sumN]; rw [Rat.intCast_add, iS_ f n]
theorem gE_ (c d : Nat → Int) : cR (conv c d) = conv (cR c) (cR d) := by
  funext k
  unfold cR conv
  rw [iS_]
  exact bx_ fun i _ => Rat.intCast_mul ..
theorem kb_ (q : Rat) : q * ((q.den : Int) : Rat) = ((q.num : Int) : Rat) := by
  have h := Rat.num_divInt_den q
  rw [Rat.divInt_eq_div, Rat.div_def] at h
  have h0 : (((q.den : Nat) : Int) : Rat) ≠ 0 := fun h => q.den_nz (by have := Rat.intCast_eq_zero_iff.1 h; omega)
  have e : (((q.num : Int) : Rat) * (((q.den : Nat) : Int) : Rat)⁻¹) * (((q.den : Nat) : Int) : Rat) = ((q.num : Int) : Rat) := by rw [Rat.mul_assoc, Rat.inv_mul_cancel _ h0, Rat.mul_one]
  rw [h] at e; exact e
end Go.Num


set_option linter.unusedVariables false
set_option linter.unusedSimpArgs false
namespace Go.Num
open Go Go.Kn
theorem I0_E : I0 = E (Z.of 0) := rfl
theorem vI0 : vI I0 = 0 := vI_E B0
theorem lk_ {u v : Int} (hu : B512 u) (hv : B512 v) : Z.sub (Z.of u) (Z.of v) = Z.of (u - v) := by
  rw [Z.sub, o4_ hv, lz_ hu (show (-v).natAbs < _ by rw [Int.natAbs_neg]; exact hv), Int.sub_eq_add_neg]
theorem p6_ {u : Int} (hu : B512 u) : Z.abs (Z.of u) = Z.of (u.natAbs : Nat) := by rw [Z.abs, df_ (Z.of_some hu)]
/-- p is the right polynomial with the coefficients c. -/
structure Po (p : List I) (c : Nat → Int) : Prop where
  g : p.all gdI = true
  s : strip p = p
  l : p.length ≤ 25
  c : ∀ k, vI (p.getD k I0) = c k
section
variable {p q : List I} {c d : Nat → Int}
theorem oZ_ (h : Rgt p) (hg : p.all gdI = true) : Po p (fun k => vI (p.getD k I0)) := by
  rcases h with rfl | h
  · rw [b3_] at hg; cases hg
  · exact ⟨h.1, h.2.1, h.2.2, fun _ => rfl⟩
theorem mw_ (h : p.all gdI = true) (k : Nat) : gdI (p.getD k I0) = true := by
  by_cases hk : k < p.length
  · rw [show p.getD k I0 = p[k] by simp [List.getD, hk]]
    exact List.all_eq_true.1 h _ (List.getElem_mem hk)
  · rw [dW_ (by omega)]; exact gd_E B0
theorem Po.get (h : Po p c) (k : Nat) : p.getD k I0 = E (Z.of (c k)) := by rw [← h.c k]; exact (gd_eq (mw_ h.g k)).1
theorem Po.B (h : Po p c) (k : Nat) : B512 (c k) := by rw [← h.c k]; exact (gd_eq (mw_ h.g k)).2
theorem Po.zero (h : Po p c) {k : Nat} (hk : p.length ≤ k) : c k = 0 := by rw [← h.c k, dW_ hk, vI0]
theorem Po.last (h : Po p c) {n : Nat} (hn : p.length = n + 1) : c n ≠ 0 := by
  rcases dB_ p with rfl | ⟨m, x, rfl⟩
  · cases hn
  · have h1 := gQ_ h.s
    have h2 : n = m.length := by simp at hn; omega
    have h3 := h.get n
    rw [show (m ++ [x]).getD n I0 = x by simp [h2]] at h3
    rw [h3, zr_E (h.B n)] at h1
    exact of_decide_eq_false h1
theorem Po.short (h : Po p c) {n : Nat} (hz : ∀ k, n ≤ k → c k = 0) : p.length ≤ n := by
  rcases Nat.lt_or_ge n p.length with g | g
  · exact absurd (hz (p.length - 1) (by omega)) (h.last (by omega))
  · exact g
theorem Po.eq (h : Po p c) (g : Po q c) : p = q := by
  have e : p.length = q.length := Nat.le_antisymm (h.short fun k hk => g.zero hk) (g.short fun k hk => h.zero hk)
  refine List.ext_getElem e fun k h1 h2 => ?_
  have a := h.get k
  rw [← g.get k] at a
  simpa [List.getD, h1, h2] using a
theorem Po.cast (h : Po p c) (e : ∀ k, c k = d k) : Po p d := ⟨h.g, h.s, h.l, fun k => (h.c k).trans (e k)⟩
theorem ls_ : Po [] (fun _ => 0) := ⟨rfl, rfl, by decide, fun k => by rw [show ([] : List I).getD k I0 = I0 by simp]; exact vI0⟩
theorem Po.nil (h : Po p c) (hz : ∀ k, c k = 0) : p = [] := (h.cast hz).eq ls_
theorem gW_ : ∀ (n : Nat) (l : List I), l.length ≤ n → ∀ k, (strip l).length ≤ k → zrI (l.getD k I0) = true
  | 0, l, h, k, _ => by
    rw [dW_ (by omega)]; exact zr0
  | n + 1, l, h, k, hk => by
    rcases dB_ l with rfl | ⟨m, x, rfl⟩
    · rw [show ([] : List I).getD k I0 = I0 by simp]; exact zr0
    · rw [dH_] at hk
      cases hx : zrI x
      · rw [hx, cond_false] at hk
        rw [dW_ hk]; exact zr0
      · rw [hx, cond_true] at hk
        rcases Nat.lt_trichotomy k m.length with g | g | g
        · rw [show (m ++ [x]).getD k I0 = m.getD k I0 by simp [List.getD, List.getElem?_append_left g]]
          exact gW_ n m (by simp at h; omega) k hk
        · rw [show (m ++ [x]).getD k I0 = x by simp [g]]; exact hx
        · rw [dW_ (by simp; omega)]; exact zr0
theorem mf_ {l : List I} (h : ∀ k, l.getD k I0 = E (Z.of (c k))) (hB : ∀ k, B512 (c k)) (hz : ∀ k, 25 ≤ k → c k = 0) : Po (mkP l) c := by
  have hg : l.all gdI = true := List.all_eq_true.2 fun x hx => by
    obtain ⟨k, hk, rfl⟩ := List.getElem_of_mem hx
    have e := h k
    rw [show l.getD k I0 = l[k] by simp [List.getD, hk]] at e
    rw [e]; exact gd_E (hB k)
  have hl : (strip l).length ≤ 25 := f8_ _ l (Nat.le_refl _) fun j hj => by rw [h j, hz j hj]; exact zr0
  have e : mkP l = strip l := by unfold mkP; rw [hg, cond_true, if_pos hl]
  rw [e]
  refine ⟨jv_ hg, ih_ l, hl, fun k => ?_⟩
  by_cases hk : k < (strip l).length
  · have e2 : (strip l).getD k I0 = l.getD k I0 := by
      rw [eL_ l]
      simp only [List.getD, List.getElem?_take, hk, if_true]
    rw [e2, h k, vI_E (hB k)]
  · have := gW_ _ l (Nat.le_refl _) k (by omega)
    rw [h k, zr_E (hB k)] at this
    rw [dW_ (by omega), vI0, of_decide_eq_true this]
theorem om_ (f : Nat → I) (n k : Nat) : ((List.range n).map f).getD k I0 = if k < n then f k else I0 := by
  by_cases h : k < n <;> simp [List.getD, h]
theorem l6_ {f : Nat → I} {n : Nat} (h : ∀ k, k < n → f k = E (Z.of (c k))) (h0 : ∀ k, n ≤ k → c k = 0) (hB : ∀ k, B512 (c k)) (hz : ∀ k, 25 ≤ k → c k = 0) : Po (mkP ((List.range n).map f)) c := by
  refine mf_ (fun k => ?_) hB hz
  rw [om_]
  split
  · exact h k ‹_›
  · rw [h0 k (by omega)]; rfl
theorem Po.l3 (h : Po p c) : p.length ≤ 1000 := Nat.le_trans h.l (by decide)
theorem Po.nb (h : Po p c) : ae_ p = false := by rw [fB_ h.l3, h.g]; rfl
theorem j3_ {e : Nat → Int} {f : I → I → I} (h : Po p c) (g : Po q d) (hf : ∀ k, f (E (Z.of (c k))) (E (Z.of (d k))) = E (Z.of (e k))) (hB : ∀ k, B512 (e k)) (h0 : ∀ k, c k = 0 → d k = 0 → e k = 0) : Po (bl_ p q f) e := by
  rw [gU_ f h.l3 g.l3, h.g, g.g, Bool.and_true, cond_true]
  have hl := h.l
  have gl := g.l
  refine l6_ (fun k _ => ?_) (fun k hk => ?_) hB (fun k hk => ?_)
  · rw [h.get, g.get, hf]
  · exact h0 k (h.zero (by omega)) (g.zero (by omega))
  · exact h0 k (h.zero (by omega)) (g.zero (by omega))
theorem rj_ (h : Po p c) (g : Po q d) (hB : ∀ k, B512 (c k + d k)) : Po (dA_ p q) (fun k => c k + d k) :=
  j3_ h g (fun k => by rw [E_dec, E_dec, lz_ (h.B k) (g.B k)]) hB (fun k h1 h2 => by rw [h1, h2]; rfl)
theorem mG_ (h : Po p c) (hB : ∀ k, B512 (((k + 1 : Nat) : Int) * c (k + 1))) : Po (ad_ p) (fun k => ((k + 1 : Nat) : Int) * c (k + 1)) := by
  have hl := h.l
  unfold ad_
  rw [h.nb, cond_false, eJ_]
  refine l6_ (fun k hk => ?_) (fun k hk => ?_) hB (fun k hk => ?_)
  · unfold cK_
    rw [h.get, E_dec, id_ (show ((k + 1 : Nat) : Int).natAbs < 4294967296 ^ 16 from Nat.lt_of_lt_of_le (show _ < 4294967296 by omega) (Nat.le_self_pow (by decide) _)) (h.B _)]
    rfl
  · rw [h.zero (by omega), Int.mul_zero]
  · rw [h.zero (by omega), Int.mul_zero]
theorem ot_ (h : Po p c) (g : Po q d) (k : Nat) (hs : ∀ t, B512 (sumN (fun i => c i * d (k - i)) t)) (hm : ∀ i j, B512 (c i * d j)) :
    ∀ (t i : Nat), k + 1 - i < t → i ≤ k + 1 → (bN_ k q p t i (E (Z.of (sumN (fun i => c i * d (k - i)) i)))).2 = E (Z.of (conv c d k))
  | 0, i, ht, _ => absurd ht (Nat.not_lt_zero _)
  | t + 1, i, ht, hi => by
    unfold bN_
    have e : ∀ a b, a ≤ b → p.length ≤ a → sumN (fun i => c i * d (k - i)) b = sumN (fun i => c i * d (k - i)) a := fun a b hab hpa =>
      dn_ (fun j hj => by rw [h.zero (by omega), Int.zero_mul]) b hab
    by_cases hk : ((i : Nat) : Int) ≤ min ((k : Nat) : Int) (((p.length : Nat) : Int) - 1)
    · rw [decide_eq_true hk, cond_true, h.get, g.get, E_dec, E_dec, E_dec, id_ (h.B _) (g.B _), lz_ (hs _) (hm _ _)]
      exact ot_ h g k hs hm t (i + 1) (by omega) (by omega)
    · rw [decide_eq_false hk, cond_false]
      show E (Z.of _) = E (Z.of (sumN _ (k + 1)))
      rcases Nat.lt_or_ge i (k + 1) with h1 | h1
      · rw [← e i (k + 1) (by omega) (by omega)]
      · rw [show i = k + 1 by omega]
theorem qj_ (h : Po p c) (g : Po q d) (hs : ∀ k t, B512 (sumN (fun i => c i * d (k - i)) t)) (hm : ∀ i j, B512 (c i * d j)) (hl : p.length + q.length ≤ 26) : Po (aa_ p q) (conv c d) := by
  unfold aa_
  rw [h.nb, g.nb, Bool.or_false, cond_false]
  by_cases h0 : p = []
  · subst h0
    rw [show ((((([] : List I).length : Nat) : Int) == 0) || (((q.length : Nat) : Int) == 0)) = true by simp, cond_true]
    exact ls_.cast fun k => Eq.symm (cD_ fun i _ => by rw [h.zero (Nat.zero_le _), Int.zero_mul])
  · by_cases g0 : q = []
    · subst g0
      rw [show ((((p.length : Nat) : Int) == 0) || (((([] : List I).length : Nat) : Int) == 0)) = true by simp, cond_true]
      refine ls_.cast fun k => Eq.symm (cD_ fun i _ => ?_)
      rw [g.zero (Nat.zero_le _), Int.mul_zero]
    · have h1 : 0 < p.length := List.length_pos_iff.2 h0
      have h2 : 0 < q.length := List.length_pos_iff.2 g0
      rw [show ((((p.length : Nat) : Int) == 0) || (((q.length : Nat) : Int) == 0)) = false by
        rw [Bool.or_eq_false_iff]; exact ⟨beq_eq_false_iff_ne.2 (by omega), beq_eq_false_iff_ne.2 (by omega)⟩, cond_false, eJ_]
      have hz : ∀ k, p.length + q.length ≤ k + 1 → conv c d k = 0 := fun k hk => cC_ (fun i hi => h.zero hi) (fun i hi => g.zero hi) k hk
      refine l6_ (fun k _ => ?_) (fun k hk => hz k (by omega)) (fun k => hs k (k + 1)) (fun k hk => hz k (by omega))
      unfold cP_
      show (bN_ _ _ _ _ _ _).2 = _
      rw [show I0 = E (Z.of (sumN (fun i => c i * d (k - i)) (((k : Nat) : Int) - ((q.length : Nat) : Int) + 1).toNat)) by
        rw [cD_ fun i hi => by rw [g.zero (by omega), Int.mul_zero]]; rfl]
      exact ot_ h g k (hs k) hm _ _ (by omega) (by omega)
theorem pt_ {v : Int} {k : Nat} (m : Nat) (hm : 4294967296 ^ 16 = 2 ^ m) (h : v.natAbs < 2 ^ k) (hk : k ≤ m) : B512 v := by
  unfold B512
  rw [hm]
  exact Nat.lt_of_lt_of_le h (Nat.pow_le_pow_right (by decide) hk)
theorem jz_ {v : Int} {k : Nat} (h : v.natAbs < 2 ^ k) (hk : k ≤ 512) : B512 v := pt_ 512 my_ h hk
/-- At most n coefficients, of at most b bits. -/
structure Bd (c : Nat → Int) (n b : Nat) : Prop where
  z : ∀ k, n ≤ k → c k = 0
  b : ∀ k, (c k).natAbs < 2 ^ b
variable {n m b b' : Nat}
theorem Bd.mono (h : Bd c n b) {n' b1 : Nat} (hn : n ≤ n') (hb : b ≤ b1) : Bd c n' b1 := ⟨fun k hk => h.z k (by omega), fun k => Nat.lt_of_lt_of_le (h.b k) (Nat.pow_le_pow_right (by decide) hb)⟩
theorem Bd.B (h : Bd c n b) (hb : b ≤ 512) (k : Nat) : B512 (c k) := jz_ (h.b k) hb
theorem Bd.add (h : Bd c n b) (g : Bd d m b) : Bd (fun k => c k + d k) (max n m) (b + 1) :=
  ⟨fun k hk => by show c k + d k = 0; rw [h.z k (by omega), g.z k (by omega)]; rfl, fun k => by
    show (c k + d k).natAbs < _
    have h1 := h.b k
    have h2 := g.b k
    have h3 := Int.natAbs_add_le (c k) (d k)
    rw [Nat.pow_succ]; omega⟩
theorem iN_ {u v : Int} (h : u.natAbs < 2 ^ b) (g : v.natAbs < 2 ^ b') : (u * v).natAbs < 2 ^ (b + b') := by
  rw [Int.natAbs_mul, Nat.pow_add]
  exact Nat.mul_lt_mul_of_lt_of_le h (Nat.le_of_lt g) (Nat.pow_pos (by decide))
theorem k4_ {f : Nat → Int} {A : Nat} (h : ∀ i, (f i).natAbs ≤ A) : ∀ t : Nat, (sumN f t).natAbs ≤ t * A
  | 0 => by simp [sumN]
  | t + 1 => by
    have h1 := k4_ h t
    have h2 := h t
    have h3 := Int.natAbs_add_le (sumN f t) (f t)
    rw [Nat.succ_mul]; show (sumN f t + f t).natAbs ≤ _; omega
theorem on_ {f : Nat → Int} {e : Nat} (h : ∀ i, (f i).natAbs < 2 ^ b) (hz : ∀ i, n ≤ i → f i = 0) (hn : n ≤ 2 ^ e) (t : Nat) : (sumN f t).natAbs < 2 ^ (b + e) := by
  have hb : 0 < 2 ^ b := Nat.pow_pos (by decide)
  have k1 : ∀ t, t ≤ n → (sumN f t).natAbs < 2 ^ (b + e) := fun t ht => by
    have h1 := k4_ (f := f) (A := 2 ^ b - 1) (fun i => by have := h i; omega) t
    have h2 : t * (2 ^ b - 1) ≤ 2 ^ e * (2 ^ b - 1) := Nat.mul_le_mul_right _ (by omega)
    have h3 : 2 ^ e * (2 ^ b - 1) < 2 ^ e * 2 ^ b := Nat.mul_lt_mul_of_pos_left (by omega) (Nat.pow_pos (by decide))
    rw [Nat.pow_add, Nat.mul_comm (2 ^ b)]; omega
  rcases Nat.lt_or_ge n t with g | g
  · rw [dn_ hz t (by omega)]; exact k1 n (Nat.le_refl _)
  · exact k1 t g
theorem jF_ (h : Bd c n b) (g : Bd d m b') {e : Nat} (hn : n ≤ 2 ^ e) (k t : Nat) : (sumN (fun i => c i * d (k - i)) t).natAbs < 2 ^ (b + b' + e) :=
  on_ (n := n) (fun i => iN_ (h.b _) (g.b _)) (fun i hi => by rw [h.z i hi, Int.zero_mul]) hn t
theorem Bd.conv (h : Bd c n b) (g : Bd d m b') {e : Nat} (hn : n ≤ 2 ^ e) : Bd (conv c d) (n + m - 1) (b + b' + e) :=
  ⟨fun k hk => cC_ h.z g.z k (by omega), fun k => jF_ h g hn k (k + 1)⟩
theorem Po.len (h : Po p c) (hb : Bd c n b) : p.length ≤ n := h.short hb.z
theorem hF_ (h : Po p c) (g : Po q d) (hb : Bd c n b) (gb : Bd d m b') {e : Nat} (hn : n ≤ 2 ^ e) (hl : n + m ≤ 26) (hk : b + b' + e ≤ 512) : Po (aa_ p q) (conv c d) :=
  qj_ h g (fun k t => jz_ (jF_ hb gb hn k t) hk) (fun i j => jz_ (iN_ (hb.b i) (gb.b j)) (by omega)) (by have := h.len hb; have := g.len gb; omega)
theorem ra_ (h : Po p c) (g : Po q d) (hb : Bd c n b) (gb : Bd d m b) (hk : b + 1 ≤ 512) : Po (dA_ p q) (fun k => c k + d k) :=
  rj_ h g fun k => jz_ ((hb.add gb).b k) hk
theorem pQ_ {v : Int} (hv : B512 v) {b : Int} (h : (Z.bitsW (Z.of v)).1 ≤ b) : v.natAbs < 2 ^ b.toNat := by
  have h1 : ((Z.of v).bits : Int) ≤ b := h
  unfold Z.bits at h1
  rw [Z.of_some hv] at h1
  simp only at h1
  exact Nat.lt_of_lt_of_le (bl_lt _) (Nat.pow_le_pow_right (by decide) (by omega))
theorem lu_ (p : List I) (a b : Int) : ∀ (k i : Nat), p.length - i < k → (sm (fun _ : Nat => true) (fun r => r) (br_ p a b k i)) = true → ∀ j, i ≤ j → j < p.length → (Z.bitsW (p.getD j I0).dec).1 ≤ b
  | 0, i, h, _, _, _, _ => absurd h (Nat.not_lt_zero _)
  | k + 1, i, h, hs, j, hj, hl => by
    unfold br_ at hs
    rw [decide_eq_true (show ((i : Nat) : Int) < ((p.length : Nat) : Int) by omega), cond_true] at hs
    by_cases hb : b < (Z.bitsW (p.getD i I0).dec).1
    · rw [decide_eq_true hb] at hs; cases hs
    · rw [decide_eq_false hb, cond_false] at hs
      rcases Nat.lt_or_ge i j with g | g
      · exact lu_ p a b k (i + 1) (by omega) hs j (by omega) hl
      · rw [show j = i by omega]; omega
theorem gt_ {a b : Int} (h : ah_ p a b = true) (hg : p.all gdI = true) : ∃ c, Po p c ∧ Bd c (a + 1).toNat b.toNat := by
  have h1 := few_f (p := p) (d := a) (b := b) (by rw [h]; rfl)
  have h2 := jU_ h
  have hp := oZ_ h1.1 hg
  refine ⟨_, hp, fun k hk => hp.zero (by omega), fun k => ?_⟩
  by_cases hk : k < p.length
  · unfold ah_ at h
    rw [h2.1, decide_eq_false (by omega)] at h
    have h3 := lu_ p a b _ 0 (by omega) h k (by omega) hk
    rw [hp.get k, E_dec] at h3
    exact pQ_ (hp.B k) h3
  · show (vI (p.getD k I0)).natAbs < _
    rw [dW_ (by omega), vI0]; exact Nat.pow_pos (by decide)
end
end Go.Num

