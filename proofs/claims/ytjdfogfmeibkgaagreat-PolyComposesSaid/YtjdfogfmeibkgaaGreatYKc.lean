/- A list that is read: an argument, or a list of our own. No program stands in it. Walks: what these functions return. Remainders of polynomials, by coefficients. No program stands in it. What is left of a product and a rest, divided by a factor. No program stands in it. -/
import Derived.Test.YtjdfogfmeibkgaaGreatYGE
import Derived.Test.YtjdfogfmeibkgaaGreatYFp
import Derived.Test.YtjdfogfmeibkgaaGreatYLa
import Derived.Test.YtjdfogfmeibkgaaGreatYWc
import Derived.Test.YtjdfogfmeibkgaaGreatYGf
import Derived.Test.YtjdfogfmeibkgaaGreatYYb
import Derived.Test.YtjdfogfmeibkgaaGreatYYc
import Derived.Test.YtjdfogfmeibkgaaGreatYYr
import Derived.Test.YtjdfogfmeibkgaaGreatYL5
import Derived.KernelRfl
import Derived.Test.YtjdfogfmeibkgaaGreatYPV
set_option linter.unusedVariables false
namespace Go.Kn
open Go Go.Num
variable {α : Type} {w0 : World} {e : El α} {v : Value} {l : List α} {L : List Blk}
def RdL {α : Type} (w0 : World) (e : El α) (v : Value) (l : List α) (L : List Blk) : Prop := SLe w0 [] L e v l ∧ l.length ≤ 9223372036854775807
theorem RdL.own {E : TypeId} (h : OwnG w0 E e v l L) : RdL w0 e v l L := ⟨SLfe.sle (OwnG.slfe h (List.Sublist.refl _)), OwnG.max h⟩
theorem RdL.old (h : SLe w0 [] [] e v l) (hm : l.length ≤ 9223372036854775807) : RdL w0 e v l [] := ⟨h, hm⟩
theorem RdL.max (h : RdL w0 e v l L) : l.length ≤ 9223372036854775807 := h.2
end Go.Kn

namespace Go.Proofs.YtjdfogfmeibkgaaGreat
open Go.Kn Go.Num
set_option linter.unusedVariables false
set_option linter.unusedSimpArgs false
set_option maxRecDepth 20000
set_option maxHeartbeats 8000000
theorem hI_ (vq : Value) (q : (List I)) (vs : Value) (s : (List I)) (vr : Value) (r : (List I)) (w : World) (hq : Slr w elI vq q) (hs : Slr w elI vs s) (hr : Slr w elI vr r) :
    Calls Tryz.prog 9 [vq, vs, vr].toArray w (fun e w' => e = .returned (.bool (b0_ q s r)) ∧ Ext w w') := by
 obtain ⟨p_q, c_q, rfl⟩ := hq.form
 obtain ⟨p_s, c_s, rfl⟩ := hs.form
 obtain ⟨p_r, c_r, rfl⟩ := hr.form
 refine aN_ (N := 83) Tryz.func9 rfl rfl (by simp) ?_
 obtain ⟨w0, rfl⟩ : ∃ w0, w0 = w := ⟨_, rfl⟩
 have Hq := hq.old
 have hm_q := hq.max
 have Hs := hs.old
 have hm_s := hs.max
 have Hr := hr.old
 have hm_r := hr.max
 simp only [initF, Nat.reduceAdd]
 refine Rs fun K J => sE rfl (nl J (Sq fun K1 J1 => ?_))
 refine bH_ [10, 11, 12, 13, 14, 15, 16, 17, 18, 19, 20, 21, 22, 23, 24, 25, 26, 27, 28, 29, 30, 31, 32, 33, 34, 35, 36, 37, 38, 39, 40, 41] (fun g M => (g 41 = .bool (!(ag_ q 4 20) || (!(ag_ s 4 20) || (!(ag_ r 4 20) || ((ad_ q) || ((ad_ s) || ((ad_ r) || decide ((((q).length : Nat) : Int) ≤ (((r).length : Nat) : Int))))))))) ∧ M = []) (fun K2 J2 => ?_) ?_
 ·skip
  refine Rk fun K J => sE rfl (sQ (q_as (v' := .bool (ag_ q 4 20)) (aB_ en_22 rfl (fun w hw => b1_ _ q 4 20 w (SLe.ap hw (SLe.sub Hq sn)) (by first | omega | (simp only [List.length_cons, List.length_nil, and_true, true_and] <;> omega) | simp))) rfl) rfl ?_)
  refine sE rfl ?_
  rcases bt (ag_ q 4 20) with h7 | h7
  ·skip
   refine sB (not_f h7) rfl (sE rfl (sQ (q_as (v' := .bool (ag_ s 4 20)) (aB_ en_22 rfl (fun w hw => b1_ _ s 4 20 w (SLe.ap hw (SLe.sub Hs sn)) (by first | omega | (simp only [List.length_cons, List.length_nil, and_true, true_and] <;> omega) | simp))) rfl) rfl ?_))
   refine sE rfl (sE rfl ?_)
   rcases bt (ag_ s 4 20) with h8 | h8
   ·skip
    refine sB (not_f h8) rfl (sE rfl (sQ (q_as (v' := .bool (ag_ r 4 20)) (aB_ en_22 rfl (fun w hw => b1_ _ r 4 20 w (SLe.ap hw (SLe.sub Hr sn)) (by first | omega | (simp only [List.length_cons, List.length_nil, and_true, true_and] <;> omega) | simp))) rfl) rfl ?_))
    refine sE rfl (sE rfl ?_)
    rcases bt (ag_ r 4 20) with h9 | h9
    ·skip
     refine sB (not_f h9) rfl (sE rfl (sQ (q_as (v' := .bool (ad_ q)) (aB_ en_18 rfl (fun w hw => aY_ _ q w (SLe.ap hw (SLe.sub Hq sn)))) rfl) rfl (sE rfl ?_)))
     rcases bt (ad_ q) with h10 | h10
     ·skip
      refine sB h10 rfl (WL_n rfl (WL_n rfl (sE rfl (sE rfl (WL_n rfl (WL_n rfl (sE rfl (sE rfl (WL_n rfl (WL_n rfl (WL_n rfl (WL_n rfl (WL_n rfl (sE rfl (nl J ?_)))))))))))))))
      refine J2 _ _ (by repeat first | exact .refl | refine .cons rfl ?_) ⟨_, s0, ?s41, rfl⟩
      case s41 => exact congrArg Value.bool (nor_t h7 (nor_t h8 (nor_t h9 (or_t h10))))
     ·skip
      refine sB h10 rfl (sE rfl (sQ (q_as (v' := .bool (ad_ s)) (aB_ en_18 rfl (fun w hw => aY_ _ s w (SLe.ap hw (SLe.sub Hs sn)))) rfl) rfl (sE rfl ?_)))
      rcases bt (ad_ s) with h11 | h11
      ·skip
       refine sB h11 rfl (WL_n rfl (WL_n rfl (sE rfl (sE rfl (WL_n rfl (WL_n rfl (WL_n rfl (WL_n rfl (WL_n rfl (sE rfl (nl J ?_)))))))))))
       refine J2 _ _ (by repeat first | exact .refl | refine .cons rfl ?_) ⟨_, s0, ?s41, rfl⟩
       case s41 => exact congrArg Value.bool (nor_t h7 (nor_t h8 (nor_t h9 (or_f h10 (or_t h11)))))
      ·skip
       refine sB h11 rfl (sE rfl (sQ (q_as (v' := .bool (ad_ r)) (aB_ en_18 rfl (fun w hw => aY_ _ r w (SLe.ap hw (SLe.sub Hr sn)))) rfl) rfl (sE rfl ?_)))
       rcases bt (ad_ r) with h12 | h12
       ·skip
        refine sB h12 rfl (WL_n rfl (WL_n rfl (WL_n rfl (WL_n rfl (WL_n rfl (sE rfl (nl J ?_)))))))
        refine J2 _ _ (by repeat first | exact .refl | refine .cons rfl ?_) ⟨_, s0, ?s41, rfl⟩
        case s41 => exact congrArg Value.bool (nor_t h7 (nor_t h8 (nor_t h9 (or_f h10 (or_f h11 (or_t h12))))))
       ·skip
        refine sB h12 rfl (sE rfl (sQ (q_as (v' := .int .i64 (((r).length : Nat) : Int)) (bc_ (e := elI) sl_24 rfl (SLe.sub Hr sn)) rfl) rfl (sE rfl (sQ (q_as (v' := .int .i64 (((q).length : Nat) : Int)) (bc_ (e := elI) sl_24 rfl (SLe.sub Hq sn)) rfl) rfl (sE rfl (sE rfl (nl J ?_)))))))
        refine J2 _ _ (by repeat first | exact .refl | refine .cons rfl ?_) ⟨_, s0, ?s41, rfl⟩
        case s41 => exact congrArg Value.bool (nor_t h7 (nor_t h8 (nor_t h9 (or_f h10 (or_f h11 (or_f h12 rfl))))))
    ·skip
     refine sB (not_t h9) rfl (WL_n rfl (WL_n rfl (sE rfl (sE rfl (WL_n rfl (WL_n rfl (sE rfl (sE rfl (WL_n rfl (WL_n rfl (sE rfl (sE rfl (WL_n rfl (WL_n rfl (WL_n rfl (WL_n rfl (WL_n rfl (sE rfl (nl J ?_)))))))))))))))))))
     refine J2 _ _ (by repeat first | exact .refl | refine .cons rfl ?_) ⟨_, s0, ?s41, rfl⟩
     case s41 => exact congrArg Value.bool (nor_t h7 (nor_t h8 (nor_f h9)))
   ·skip
    refine sB (not_t h8) rfl (WL_n rfl (WL_n rfl (WL_n rfl (sE rfl (sE rfl (WL_n rfl (WL_n rfl (sE rfl (sE rfl (WL_n rfl (WL_n rfl (sE rfl (sE rfl (WL_n rfl (WL_n rfl (sE rfl (sE rfl (WL_n rfl (WL_n rfl ?_)))))))))))))))))))
    refine WL_n rfl (WL_n rfl (WL_n rfl (sE rfl (nl J ?_))))
    refine J2 _ _ (by repeat first | exact .refl | refine .cons rfl ?_) ⟨_, s0, ?s41, rfl⟩
    case s41 => exact congrArg Value.bool (nor_t h7 (nor_f h8))
  ·skip
   refine sB (not_t h7) rfl (WL_n rfl (WL_n rfl (WL_n rfl (sE rfl (sE rfl (WL_n rfl (WL_n rfl (WL_n rfl (sE rfl (sE rfl (WL_n rfl (WL_n rfl (sE rfl (sE rfl (WL_n rfl (WL_n rfl (sE rfl (sE rfl (WL_n rfl ?_)))))))))))))))))))
   refine WL_n rfl (sE rfl (sE rfl (WL_n rfl (WL_n rfl (WL_n rfl (WL_n rfl (WL_n rfl (sE rfl (nl J ?_)))))))))
   refine J2 _ _ (by repeat first | exact .refl | refine .cons rfl ?_) ⟨_, s0, ?s41, rfl⟩
   case s41 => exact congrArg Value.bool (nor_f h7)
 ·skip
  rintro g13 M ⟨hg41, rfl⟩
  simp only [setG, hg41]
  clear hg41
  rcases bt (!(ag_ q 4 20) || (!(ag_ s 4 20) || (!(ag_ r 4 20) || ((ad_ q) || ((ad_ s) || ((ad_ r) || decide ((((q).length : Nat) : Int) ≤ (((r).length : Nat) : Int)))))))) with h14 | h14
  ·skip
   refine W_t h14 rfl (Rs fun K J => sQ (q_ret en_14 bY_  rfl) rfl (sE rfl (nl J (W_ret (ai_ (ret1 rfl (.inr rfl) rfl ?_))))))
   exact (by exact congrArg (fun r : Bool => (.bool r : Value)) (show _ = (b0_ q s r) from bif_t h14 rfl))
  ·skip
   have ph15 := of_decide_eq_false (Bool.or_eq_false_iff.1 (Bool.or_eq_false_iff.1 (Bool.or_eq_false_iff.1 (Bool.or_eq_false_iff.1 (Bool.or_eq_false_iff.1 (Bool.or_eq_false_iff.1 h14).2).2).2).2).2).2
   refine W_f h14 rfl (an_ (J1 _ _ ?_))
   obtain ⟨hRq, hLq⟩ := few_f (Bool.or_eq_false_iff.1 h14).1
   obtain ⟨hRs, hLs⟩ := few_f (Bool.or_eq_false_iff.1 (Bool.or_eq_false_iff.1 h14).2).1
   obtain ⟨hRr, hLr⟩ := few_f (Bool.or_eq_false_iff.1 (Bool.or_eq_false_iff.1 (Bool.or_eq_false_iff.1 h14).2).2).1
   refine Rs fun K J => sE rfl (sE rfl (WL_r rfl (at_ (E := 38) (e := elI) (l := (ac_ q s)) (fun v => v) en_31 rfl (fun w hw => ce_ _ q _ s w (SLe.ap hw (SLe.sub Hq sn)) (SLe.ap hw (SLe.sub Hs sn)) (by first | omega | (simp only [List.length_cons, List.length_nil, and_true, true_and] <;> omega) | simp)) (fun p16 c17 L18 hF19 => ?_))))
   have hb20 := (bO_ q s)
   have hr21 := (cj_ q s)
   refine sE rfl (WL_r rfl (at_ (E := 38) (e := elI) (l := (ak_ (ac_ q s) r)) (fun v => v) en_42 rfl (fun w hw => dE_ _ (ac_ q s) _ r w (SLe.ap hw (SLfe.sle (OwnG.slfe hF19 (List.sublist_append_left _ _)))) (SLe.ap hw (SLe.sub Hr sn)) (by first | omega | (simp only [List.length_cons, List.length_nil, and_true, true_and] <;> omega) | simp)) (fun p22 c23 L24 hF25 => ?_)))
   have hb26 := (c2_ (ac_ q s) r)
   refine sE rfl (nl J (Rs fun K J => sE rfl (sE rfl (nl J (Sq fun K3 J3 => Rs fun K J => sE rfl (nl J ?_))))))
   refine cB_ (fun S M h => J3 S M h) [8, 9, 49, 50, 51, 52, 53, 54, 55, 56, 57, 58, 59, 60, 61, 62, 63, 64, 65, 66, 67] (fun g M => ∃ (wn : List I) (i : Nat) (p_wn : Option Addr) (c_wn : Nat) (L_wn : List Blk), (aW_ q s r (((ak_ (ac_ q s) r).length + 2)) r 0) = (wn, i) ∧ (wn.length ≤ 25) ∧ (g 8 = .slice p_wn wn.length c_wn ∧ g 9 = .int .i64 ((i : Nat) : Int) ∧ RdL w0 elI (.slice p_wn wn.length c_wn) wn L_wn) ∧ M = (L_wn ++ (L24 ++ (L18 ++ [])))) (fun K_u27 hK_u27 => ?_) ?_
   ·skip
    refine aq_ ?_
    refine aD_ [8, 9, 49, 50, 51, 52, 53, 54, 55, 56, 57, 58, 59, 60, 61, 62, 63, 64, 65, 66, 67] (fun g nn M => ∃ (wn : List I) (i : Nat) (p_wn : Option Addr) (c_wn : Nat) (L_wn : List Blk), (aW_ q s r nn wn i) = (aW_ q s r (((ak_ (ac_ q s) r).length + 2)) r 0) ∧ (((ak_ (ac_ q s) r).length : Int) - q.length + 1 - i).toNat < nn ∧ (i ≤ 26 ∧ wn.length ≤ 25) ∧ (g 8 = .slice p_wn wn.length c_wn ∧ g 9 = .int .i64 ((i : Nat) : Int) ∧ RdL w0 elI (.slice p_wn wn.length c_wn) wn L_wn) ∧ M = (L_wn ++ (L24 ++ (L18 ++ [])))) (((ak_ (ac_ q s) r).length + 2)) ?start ?round
    case start => exact ⟨_, s0, r, 0, p_r, c_r, [], rfl, (by omega), ⟨by omega, by omega⟩, ⟨rfl, rfl, (RdL.old Hr hm_r)⟩, rfl⟩
    case round =>
     rintro nn g M ⟨wn, i, p_wn, c_wn, L_wn, hT0, hq0, hinv0, ⟨hg8, hg9, hO_wn⟩, rfl⟩
     obtain ⟨k0, rfl⟩ : ∃ m, nn = m + 1 := ⟨nn - 1, by omega⟩
     simp only [setG, hg8, hg9]
     clear hg8 hg9
     have hm_wn := RdL.max hO_wn
     refine Sq fun K6 J6 => Rs fun K J => sE rfl (sE rfl (sQ (q_as (v' := .int .i64 ((((ak_ (ac_ q s) r)).length : Nat) : Int)) (bc_ (e := elI) sl_24 rfl (SLfe.sle (OwnG.slfe hF25 (sR (List.sublist_append_left _ _))))) rfl) rfl (sE rfl (sQ (q_as (v' := .int .i64 (((q).length : Nat) : Int)) (bc_ (e := elI) sl_24 rfl (SLe.sub Hq sn)) rfl) rfl (sV (.int .i64 (((((ak_ (ac_ q s) r)).length : Nat) : Int) - (((q).length : Nat) : Int))) rfl (congrArg (Value.int .i64) (wx (by omega) (by omega) (by omega))) (sV (.int .i64 ((((((ak_ (ac_ q s) r)).length : Nat) : Int) - (((q).length : Nat) : Int)) + 1)) rfl (congrArg (Value.int .i64) (wx (by omega) (by omega) (by omega))) (sE rfl (nl J ?_))))))))
     rcases bt (decide (((i : Nat) : Int) < ((((((ak_ (ac_ q s) r)).length : Nat) : Int) - (((q).length : Nat) : Int)) + 1))) with h34 | h34
     ·skip
      have ph34 := of_decide_eq_true h34
      refine W_t h34 rfl (an_ (J6 _ _ (Sq fun K7 J7 => aq_ (Rk fun K J => sE rfl (sE rfl (sE rfl (sQ (q_as (v' := .int .i64 (((q).length : Nat) : Int)) (bc_ (e := elI) sl_24 rfl (SLe.sub Hq sn)) rfl) rfl (sV (.int .i64 ((((q).length : Nat) : Int) - 1)) rfl (congrArg (Value.int .i64) (wx (by omega) (by omega) (by omega))) (sQ (q_as (v' := .pointer (some (slb (.slice p_q q.length c_q) (((q).length - 1) * 18 + 0)))) (dw_ (e := elI) (l := q) (k := ((q).length - 1)) sl_24 rfl rfl (by omega) (SLe.sub Hq sn) (by first | omega | (simp only [List.length_set, List.length_append, List.length_cons, List.length_nil]; omega))) rfl) rfl ?_)))))))))
      refine sQ (q_ldG (e := elI) (l := q) (k := ((q).length - 1)) (o := 0) ty_38 rfl (SLe.sub Hq sn) (aM_ I0 (by first | omega | (simp only [List.length_set, List.length_append, List.length_cons, List.length_nil]; omega))) rfl) rfl ?_
      refine sC (AV [pI (E (Z.abs (q.getD ((q).length - 1) I0).dec))]) en_44 (eO_ (q.getD ((q).length - 1) I0).1 (q.getD ((q).length - 1) I0).2) rfl rfl rfl (WL_r rfl (at_ (E := 38) (e := elI) (l := (c1_ wn (E (Z.abs (q.getD ((q).length - 1) I0).dec)))) (fun v => v) en_43 rfl (fun w hw => iI_ _ wn (E (Z.abs (q.getD ((q).length - 1) I0).dec)) w (SLe.ap hw (SLe.sub hO_wn.1 (List.sublist_append_left _ _))) (by first | omega | (simp only [List.length_cons, List.length_nil, and_true, true_and] <;> omega) | simp)) (fun p35 c36 L37 hF38 => ?_)))
      have hb39 := (iH_ wn (E (Z.abs (q.getD ((q).length - 1) I0).dec)))
      refine sE rfl (nl J (J7 _ _ (Rk fun K J => sE rfl (sV (.int .i64 (((i + 1) : Nat) : Int)) rfl (congrArg (Value.int .i64) (wx (by omega) (by omega) (by omega))) (sE rfl (nl J (⟨(by repeat first | exact .refl | refine .cons rfl ?_), _, _, (sA (sR (s0))), (Nat.lt_succ_self _), (c1_ wn (E (Z.abs (q.getD ((q).length - 1) I0).dec))), (i + 1), p35, c36, L37, (by exact (hT0.symm.trans (Eq.symm (bif_t h34 rfl))).symm), (Nat.lt_of_lt_of_le (by omega) (Nat.le_of_lt_succ hq0)), ⟨by omega, by omega⟩, ⟨rfl, rfl, (RdL.own hF38)⟩, rfl⟩)))))))
     ·skip
      have ph34 := of_decide_eq_false h34
      refine W_f h34 rfl (bo_ (ao_ (ao_ (as_ (hK_u27 _ _ (by repeat first | exact .refl | refine .cons rfl ?_) ⟨_, s0, wn, i, p_wn, c_wn, L_wn, (by exact hT0.symm.trans (Eq.symm (bif_f h34 rfl))), (by omega), ⟨rfl, rfl, hO_wn⟩, rfl⟩)))))
   ·skip
    rintro g M ⟨wn, i, p_wn, c_wn, L_wn, hCu27, hPu27, ⟨hg8, hg9, hO_wn⟩, rfl⟩
    simp only [setG, hg8, hg9]
    clear hg8 hg9
    have hm_wn := RdL.max hO_wn
    refine bH_ [6, 68, 69, 70, 71, 72, 73, 74, 75, 76, 77, 78, 79, 80, 81, 82] (fun g M => (g 6 = .bool (aJ_ && ((ae_ (aP_ (ak_ (ac_ q s) r) q) wn) && (ae_ (aP_ r q) r)))) ∧ M = (L_wn ++ (L24 ++ (L18 ++ [])))) (fun K8 J8 => ?_) ?_
    ·skip
     refine Rk fun K J => sQ (q_ret en_14 bY_  rfl) rfl ?_
     rcases bt aJ_ with h52 | h52
     ·skip
      refine sB h52 rfl (sE rfl (sE rfl (WL_r rfl (at_ (E := 38) (e := elI) (l := (aP_ (ak_ (ac_ q s) r) q)) (fun v => v) en_23 rfl (fun w hw => eD_ _ (ak_ (ac_ q s) r) _ q w (SLe.ap hw (SLfe.sle (OwnG.slfe hF25 (sR (List.sublist_append_left _ _))))) (SLe.ap hw (SLe.sub Hq sn)) (by first | omega | (simp only [List.length_cons, List.length_nil, and_true, true_and] <;> omega) | simp)) (fun p53 c54 L55 hF56 => ?_)))))
      have hb57 := (dF_ (ak_ (ac_ q s) r) q)
      refine sE rfl (sQ (q_as (v' := .bool (ae_ (aP_ (ak_ (ac_ q s) r) q) wn)) (aB_ en_17 rfl (fun w hw => aA_ _ (aP_ (ak_ (ac_ q s) r) q) _ wn w (SLe.ap hw (SLfe.sle (OwnG.slfe hF56 (List.sublist_append_left _ _)))) (SLe.ap hw (SLe.sub hO_wn.1 (sR (List.sublist_append_left _ _)))))) rfl) rfl (sE rfl ?_))
      rcases bt (ae_ (aP_ (ak_ (ac_ q s) r) q) wn) with h58 | h58
      ·skip
       refine sB h58 rfl (sE rfl (sE rfl (WL_r rfl (at_ (E := 38) (e := elI) (l := (aP_ r q)) (fun v => v) en_23 rfl (fun w hw => eD_ _ r _ q w (SLe.ap hw (SLe.sub Hr sn)) (SLe.ap hw (SLe.sub Hq sn)) (by first | omega | (simp only [List.length_cons, List.length_nil, and_true, true_and] <;> omega) | simp)) (fun p59 c60 L61 hF62 => ?_)))))
       have hb63 := (dF_ r q)
       refine sE rfl (sQ (q_as (v' := .bool (ae_ (aP_ r q) r)) (aB_ en_17 rfl (fun w hw => aA_ _ (aP_ r q) _ r w (SLe.ap hw (SLfe.sle (OwnG.slfe hF62 (List.sublist_append_left _ _)))) (SLe.ap hw (SLe.sub Hr sn)))) rfl) rfl (sE rfl (sE rfl (nl J ?_))))
       refine J8 _ _ (by repeat first | exact .refl | refine .cons rfl ?_) ⟨_, (sR (sR (s0))), ?s6, rfl⟩
       case s6 => exact congrArg Value.bool (and_t h52 (and_t h58 rfl))
      ·skip
       refine sB h58 rfl (WL_n rfl (WL_n rfl (WL_n rfl (WL_n rfl (WL_n rfl (sE rfl (sE rfl (nl J ?_))))))))
       refine J8 _ _ (by repeat first | exact .refl | refine .cons rfl ?_) ⟨_, (sR (s0)), ?s6, rfl⟩
       case s6 => exact congrArg Value.bool (and_t h52 (and_f h58))
     ·skip
      refine sB h52 rfl (WL_n rfl (WL_n rfl (WL_n rfl (WL_n rfl (WL_n rfl (sE rfl (sE rfl (WL_n rfl (WL_n rfl (WL_n rfl (WL_n rfl (WL_n rfl (sE rfl (sE rfl (nl J ?_)))))))))))))))
      refine J8 _ _ (by repeat first | exact .refl | refine .cons rfl ?_) ⟨_, s0, ?s6, rfl⟩
      case s6 => exact congrArg Value.bool (and_f h52)
    ·skip
     rintro g64 M ⟨hg6, rfl⟩
     simp only [setG, hg6]
     clear hg6
     refine W_ret (ret1 rfl (.inr rfl) rfl ?_)
     exact (by exact congrArg (fun r : Bool => (.bool r : Value)) (show _ = (b0_ q s r) from bif_f h14 (trs (Eq.symm (apS hCu27)) rfl)))
end Go.Proofs.YtjdfogfmeibkgaaGreat


set_option linter.unusedVariables false
set_option linter.unusedSimpArgs false
namespace Go.Num
open Go Go.Kn
/-- The coefficients, moved up by i. -/
def shf (d : Nat → Int) (i k : Nat) : Int := if i ≤ k then d (k - i) else 0
/-- One round of a division. -/
def rstep (a o : Int) (d : Nat → Int) (n i : Nat) (r : Nat → Int) (k : Nat) : Int := a * r k - o * r (i + n) * shf d i k
def remf (a o : Int) (d : Nat → Int) (n : Nat) : Nat → (Nat → Int) → Nat → Int
  | 0, r => r
  | m + 1, r => remf a o d n m (rstep a o d n m r)
/-- There are enough digits for each round. -/
def RemB (a o : Int) (d : Nat → Int) (n : Nat) : Nat → (Nat → Int) → Prop
  | 0, r => ∀ k, B512 (r k)
  | m + 1, r => (∀ k, B512 (r k)) ∧ B512 (o * r (m + n)) ∧ (∀ k, B512 (a * r k)) ∧ (∀ k, B512 (o * r (m + n) * d k)) ∧ RemB a o d n m (rstep a o d n m r)
theorem RemB.B {a o : Int} {d : Nat → Int} {n : Nat} : ∀ {m : Nat} {r : Nat → Int}, RemB a o d n m r → ∀ k, B512 (r k)
  | 0, _, h => h
  | _ + 1, _, h => h.1
theorem sz_ {u : Int} {b b' : Nat} (h : u.natAbs < 2 ^ b) (hb : b ≤ b') : u.natAbs < 2 ^ b' := Nat.lt_of_lt_of_le h (Nat.pow_le_pow_right (by decide) hb)
theorem o6_ {u v : Int} {b : Nat} (h : u.natAbs < 2 ^ b) (g : v.natAbs < 2 ^ b) : (u - v).natAbs < 2 ^ (b + 1) := by
  rw [Nat.pow_succ]; omega
theorem oN_ {o u : Int} {b : Nat} (ho : o.natAbs ≤ 1) (h : u.natAbs < 2 ^ b) : (o * u).natAbs < 2 ^ b := by
  rw [Int.natAbs_mul]
  have := Nat.mul_le_mul_right u.natAbs ho
  omega
theorem oD_ {d : Nat → Int} {b : Nat} (hd : ∀ k, (d k).natAbs < 2 ^ b) (i k : Nat) : (shf d i k).natAbs < 2 ^ b := by
  unfold shf; split
  · exact hd _
  · exact Nat.pow_pos (by decide)
theorem jO_ {a o : Int} {d : Nat → Int} {n c : Nat} (ha : a.natAbs < 2 ^ c) (ho : o.natAbs ≤ 1) (hd : ∀ k, (d k).natAbs < 2 ^ c) : ∀ (m b : Nat) (r : Nat → Int), (∀ k, (r k).natAbs < 2 ^ b) → b + m * (c + 1) ≤ 512 → RemB a o d n m r
  | 0, b, r, h, hb => fun k => ec_ (h k) (by omega)
  | m + 1, b, r, h, hb => by
    rw [Nat.succ_mul] at hb
    have h1 := oN_ ho (h (m + n))
    have h2 : ∀ k, (a * r k).natAbs < 2 ^ (c + b) := fun k => fa_ ha (h k)
    have h3 : ∀ v : Int, v.natAbs < 2 ^ c → (o * r (m + n) * v).natAbs < 2 ^ (c + b) := fun v hv => by rw [Nat.add_comm c b]; exact fa_ h1 hv
    exact ⟨fun k => ec_ (h k) (by omega), ec_ h1 (by omega), fun k => ec_ (h2 k) (by omega), fun k => ec_ (h3 _ (hd k)) (by omega),
      jO_ ha ho hd m (c + b + 1) _ (fun k => o6_ (h2 k) (h3 _ (oD_ hd m k))) (by omega)⟩
section
variable {p q : List I} {c d : Nat → Int} {n : Nat}
theorem rX_ (g : Po q d) (i k : Nat) : aV_ q ((k : Int) - (i : Int)) = E (Z.of (shf d i k)) := by
  unfold shf
  by_cases h : i ≤ k
  · rw [if_pos h, show (k : Int) - (i : Int) = ((k - i : Nat) : Int) by omega, md_, g.get]
  · rw [if_neg h]; unfold aV_
    rw [decide_eq_true (by omega), Bool.true_or, cond_true]; rfl
theorem shf_B (g : Po q d) (i k : Nat) : B512 (shf d i k) := by
  unfold shf; split
  · exact g.B _
  · exact B0
theorem mV_ (g : Po q d) (hn : q.length = n + 1) {r : Nat → Int} {i : Nat} (l : List I) (h1 : B512 (d n).natAbs) (h2 : ∀ k, B512 (r k)) (h3 : B512 ((d n).sign * r (i + n))) (h4 : ∀ k, B512 (((d n).natAbs : Int) * r k)) (h5 : ∀ k, B512 ((d n).sign * r (i + n) * d k))
    (h6 : ∀ k, B512 (rstep (d n).natAbs (d n).sign d n i r k)) : ∀ (f k : Nat) (t : List I), l.length - k < f → k ≤ l.length → t.length = l.length →
    (∀ j, t.getD j I0 = E (Z.of (if j < k then rstep (d n).natAbs (d n).sign d n i r j else r j))) →
    ∃ t', bk_ p q (i : Int) l (E (Z.of ((d n).sign * r (i + n)))) f k t = .inl (l.length, t') ∧ t'.length = l.length ∧ ∀ j, t'.getD j I0 = E (Z.of (if j < l.length then rstep (d n).natAbs (d n).sign d n i r j else r j))
  | 0, k, t, hf, _, _, _ => absurd hf (Nat.not_lt_zero _)
  | f + 1, k, t, hf, hk, ht, hv => by
    unfold bk_
    by_cases hl : k < l.length
    · rw [decide_eq_true (by omega), cond_true]
      have e := hv k
      rw [if_neg (Nat.lt_irrefl k)] at e
      have h5' : B512 ((d n).sign * r (i + n) * shf d i k) := by
        unfold shf; split
        · exact h5 _
        · rw [Int.mul_zero]; exact B0
      have e2 : E (Z.sub (Z.mul (Z.abs (q.getD (q.length - 1) I0).dec) (t.getD k I0).dec) (Z.mul (E (Z.of ((d n).sign * r (i + n)))).dec (aV_ q ((k : Int) - (i : Int))).dec)) = E (Z.of (rstep (d n).natAbs (d n).sign d n i r k)) := by
        rw [hn, Nat.add_sub_cancel, g.get, e, rX_ g, E_dec, E_dec, E_dec, E_dec, n5_ (g.B _), ee_ h1 (h2 k), ee_ h3 (shf_B g i k), sm_ (h4 k) h5']
        rfl
      simp only
      rw [e2, gC_ t k _ (by omega), lY_ (h6 k), cond_false]
      refine mV_ g hn l h1 h2 h3 h4 h5 h6 f (k + 1) _ (by omega) (by omega) (by rw [List.length_set]; exact ht) fun j => ?_
      by_cases hj : j = k
      · subst hj; rw [gC_ t j _ (by omega), if_pos (by omega)]
      · rw [ip_ t k j _ hj, hv j]
        by_cases hjk : j < k
        · rw [if_pos hjk, if_pos (by omega)]
        · rw [if_neg hjk, if_neg (by omega)]
    · rw [decide_eq_false (by omega), cond_false]
      have : k = l.length := by omega
      subst this
      exact ⟨t, rfl, ht, hv⟩
theorem iO_ (g : Po q d) (hn : q.length = n + 1) {r : Nat → Int} {i L j : Nat} (hz : ∀ k, L ≤ k → r k = 0) (hi : i + n < L) (hj : L ≤ j) : rstep (d n).natAbs (d n).sign d n i r j = 0 := by
  unfold rstep
  have e : shf d i j = 0 := by
    unfold shf; rw [if_pos (by omega)]; exact g.zero (by omega)
  rw [hz j hj, e, Int.mul_zero, Int.mul_zero]; rfl
theorem abs_B {v : Int} (h : B512 v) : B512 (v.natAbs : Int) := by unfold B512 at *; rw [Int.natAbs_natCast]; exact h
theorem oc_ (g : Po q d) (hn : q.length = n + 1) : ∀ (m f : Nat) (i : Int) (l : List I) (r : Nat → Int), i = (m : Int) - 1 → m < f → (m ≤ l.length - n) → (∀ j, l.getD j I0 = E (Z.of (r j))) → (∀ k, l.length ≤ k → r k = 0) →
    RemB (d n).natAbs (d n).sign d n m r → ∃ i' l', a4_ p q f i l = .inl (i', l') ∧ l'.length = l.length ∧ (∀ j, l'.getD j I0 = E (Z.of (remf (d n).natAbs (d n).sign d n m r j))) ∧ (∀ k, l.length ≤ k → remf (d n).natAbs (d n).sign d n m r k = 0) ∧ ∀ k, B512 (remf (d n).natAbs (d n).sign d n m r k)
  | m, 0, i, l, r, _, hf, _, _, _, _ => absurd hf (Nat.not_lt_zero _)
  | 0, f + 1, i, l, r, hi, hf, hm, hl, hz, hB => by
    unfold a4_
    rw [decide_eq_false (by omega), cond_false]
    exact ⟨i, l, rfl, rfl, hl, hz, hB⟩
  | m + 1, f + 1, i, l, r, hi, hf, hm, hl, hz, hB => by
    unfold a4_
    rw [decide_eq_true (by omega), cond_true]
    obtain ⟨b1, b2, b3, b4, b5⟩ := hB
    have e : E (Z.mul (Z.of (Z.signW (q.getD (q.length - 1) I0).dec).1) (l.getD (i.toNat + (q.length - 1)) I0).dec) = E (Z.of ((d n).sign * r (m + n))) := by
      have hs : B512 (d n).sign := by
        rcases Int.lt_trichotomy (d n) 0 with h | h | h
        · rw [Int.sign_eq_neg_one_of_neg h]; decide
        · rw [h]; decide
        · rw [Int.sign_eq_one_of_pos h]; decide
      rw [hn, Nat.add_sub_cancel, g.get, hl, E_dec, E_dec, eM_ (g.B n), show i.toNat = m by omega, ee_ hs (b1 _)]
    obtain ⟨t, h1, h2, h3⟩ := mV_ (p := p) g hn (i := m) l (abs_B (g.B n)) b1 b2 b3 b4 b5.B (l.length + 1) 0 l (by omega) (Nat.zero_le _) rfl (fun j => by rw [if_neg (Nat.not_lt_zero _)]; exact hl j)
    simp only
    rw [e, show i = (m : Int) by omega, h1]
    have k1 : ∀ j, t.getD j I0 = E (Z.of (rstep (d n).natAbs (d n).sign d n m r j)) := fun j => by
      rw [h3 j]
      split
      · rfl
      · rw [hz j (by omega), iO_ g hn hz (by omega) (by omega)]
    obtain ⟨i', l', a1, a2, a3, a4, a5⟩ := oc_ g hn m f ((m : Int) - 1) t _ rfl (by omega) (by omega) k1 (fun k hk => iO_ g hn hz (by omega) (by omega)) b5
    exact ⟨i', l', a1, a2.trans h2, a3, fun k hk => a4 k (by omega), a5⟩
theorem pd_ (h : Po p c) (g : Po q d) (hn : q.length = n + 1) (hB : RemB (d n).natAbs (d n).sign d n (p.length - n) c) : Po (aP_ p q) (remf (d n).natAbs (d n).sign d n (p.length - n) c) := by
  unfold aP_
  rw [h.nb, g.nb, show ((((q.length : Nat) : Int) == 0)) = false from beq_eq_false_iff_ne.2 (by omega), Bool.false_or, Bool.false_or, cond_false, List.nil_append, hn]
  have hl := h.l
  have go : ∀ i : Int, i = ((p.length : Nat) : Int) - 1 - (((n + 1 : Nat) : Int) - 1) → ∃ i' l', a4_ p q (p.length + 1) i p = .inl (i', l') ∧ l'.length = p.length ∧ (∀ j, l'.getD j I0 = E (Z.of (remf (d n).natAbs (d n).sign d n (p.length - n) c j))) ∧ (∀ k, p.length ≤ k → remf (d n).natAbs (d n).sign d n (p.length - n) c k = 0) ∧ ∀ k, B512 (remf (d n).natAbs (d n).sign d n (p.length - n) c k) := fun i hi => by
    by_cases hs : n ≤ p.length
    · exact oc_ g hn (p.length - n) (p.length + 1) i p c (by omega) (by omega) (Nat.le_refl _) h.get (fun k hk => h.zero hk) hB
    · have e0 : p.length - n = 0 := by omega
      rw [e0] at hB ⊢
      unfold a4_
      rw [decide_eq_false (by omega), cond_false]
      exact ⟨i, p, rfl, rfl, h.get, fun k hk => h.zero hk, h.B⟩
  obtain ⟨i', l', a1, a2, a3, a4, a5⟩ := go _ rfl
  rw [a1]
  show Po (ap_ l') _
  rw [jC_]
  exact lL_ a3 a5 fun k hk => a4 k (by omega)
end
end Go.Num


set_option linter.unusedVariables false
set_option linter.unusedSimpArgs false
namespace Go.Num
open Go Go.Kn
theorem mv_ (d : Nat → Int) (m k : Nat) : conv d (fun i => if i = m then 1 else 0) k = shf d m k := by
  rw [g6_]
  unfold conv shf
  by_cases h : m ≤ k
  · rw [if_pos h, lK_ (a := m) (fun i hi => ?_) (by omega)]
    · show (if m = m then 1 else 0) * d (k - m) = _
      rw [if_pos rfl, Int.one_mul]
    · show (if i = m then 1 else 0) * d (k - i) = _
      rw [if_neg hi, Int.zero_mul]
  · rw [if_neg h]
    refine dz_ fun i hi => ?_
    show (if i = m then 1 else 0) * d (k - i) = _
    rw [if_neg (by omega), Int.zero_mul]
theorem mn_ (d S : Nat → Int) (m k : Nat) (hS : ∀ i, m < i → S i = 0) : conv d S k = conv d (fun i => if i < m then S i else 0) k + S m * shf d m k := by
  have e : conv d (fun i => S m * (if i = m then 1 else 0)) k = S m * shf d m k := by rw [← mv_, li_]
  rw [← e]
  rw [show conv d S = fun k => conv d (fun i => if i < m then S i else 0) k + conv d (fun i => S m * (if i = m then 1 else 0)) k by
    rw [← l0_]
    congr 1
    funext i
    rcases Nat.lt_trichotomy i m with h | h | h
    · rw [if_pos h, if_neg (by omega), Int.mul_zero, Int.add_zero]
    · rw [if_neg (by omega), if_pos h, h, Int.mul_one, Int.zero_add]
    · rw [if_neg (by omega), if_neg (by omega), hS i h, Int.mul_zero]; rfl]
theorem lD_ {a o : Int} {d : Nat → Int} {n : Nat} (ho : o * d n = a) (hd : ∀ i, n < i → d i = 0) : ∀ (m : Nat) (S R : Nat → Int), (∀ i, m ≤ i → S i = 0) → (∀ i, n ≤ i → R i = 0) → remf a o d n m (fun k => conv d S k + R k) = fun k => a ^ m * R k
  | 0, S, R, hS, hR => by
    funext k
    show conv d S k + R k = _
    rw [show conv d S k = 0 from dz_ fun i _ => by rw [hS _ (Nat.zero_le _), Int.mul_zero], Int.pow_zero, Int.zero_add, Int.one_mul]
  | m + 1, S, R, hS, hR => by
    have hS' : ∀ i, m < i → S i = 0 := fun i hi => hS i hi
    have e : rstep a o d n m (fun k => conv d S k + R k) = fun k => conv d (fun i => a * (if i < m then S i else 0)) k + a * R k := by
      funext k
      show a * (conv d S k + R k) - o * (conv d S (m + n) + R (m + n)) * shf d m k = _
      rw [hR (m + n) (by omega), Nat.add_comm m n, lR_ (n := n) (m := m) hd hS', li_, mn_ d S m k hS', ← ho]
      grind
    show remf a o d n m (rstep a o d n m _) = _
    rw [e, lD_ ho hd m _ (fun k => a * R k) (fun i hi => by rw [if_neg (by omega), Int.mul_zero]) (fun i hi => by show a * R i = 0; rw [hR i hi, Int.mul_zero])]
    funext k
    rw [Int.pow_succ, Int.mul_assoc]
theorem oT_ (v : Int) : v.sign * v = (v.natAbs : Int) := by
  rcases Int.lt_trichotomy v 0 with h | h | h
  · rw [Int.sign_eq_neg_one_of_neg h]; omega
  · subst h; rfl
  · rw [Int.sign_eq_one_of_pos h]; omega
theorem oq_ (v : Int) : v.sign.natAbs ≤ 1 := by
  rcases Int.lt_trichotomy v 0 with h | h | h
  · rw [Int.sign_eq_neg_one_of_neg h]; decide
  · subst h; decide
  · rw [Int.sign_eq_one_of_pos h]; decide
theorem hv_ {q s r : List I} {R : Nat → Int} {a : Int} {n T : Nat} (hq : q.length = n + 1) (ha : E (Z.abs (q.getD (q.length - 1) I0).dec) = E (Z.of a)) (hB : B512 a)
    (hT : ((ak_ (ac_ q s) r).length - n = T)) (hR : ∀ j k, j ≤ T → B512 (R k * a ^ j)) :
    ∀ (f i : Nat) (w : List I), T - i < f → i ≤ T → Po w (fun k => R k * a ^ i) → Po (aW_ q s r f w i).1 (fun k => R k * a ^ T)
  | 0, i, w, hf, _, _ => absurd hf (Nat.not_lt_zero _)
  | f + 1, i, w, hf, hi, hw => by
    unfold aW_
    by_cases h : i < T
    · rw [decide_eq_true (by omega), cond_true, ha]
      have e : ∀ k, R k * a ^ i * a = R k * a ^ (i + 1) := fun k => by rw [Int.pow_succ, Int.mul_assoc]
      exact hv_ hq ha hB hT hR f (i + 1) _ (by omega) (by omega) ((oj_ hw hB (fun k => by rw [e]; exact hR (i + 1) k (by omega))).cast e)
    · rw [decide_eq_false (by omega), cond_false]
      rw [show T = i by omega]; exact hw
theorem oB_ {a : Int} {b : Nat} (ha : a.natAbs < 2 ^ b) (j : Nat) : (a ^ j).natAbs < 2 ^ (b * j + 1) := by
  rw [Int.natAbs_pow]
  have h := Nat.pow_le_pow_left (Nat.le_of_lt ha) j
  rw [← Nat.pow_mul] at h
  exact Nat.lt_of_le_of_lt h (Nat.pow_lt_pow_right (by decide) (by omega))
theorem jp_ {p : List I} (hl : p.length ≤ 1000) (h : ad_ p = false) : p.all gdI = true := by
  rw [eU_ hl] at h; simpa using h
theorem mH_ (q s r : List I) : b0_ q s r = true := by
  unfold b0_
  cases hc : (!(ag_ q 4 20) || (!(ag_ s 4 20) || (!(ag_ r 4 20) || ((ad_ q) || ((ad_ s) || ((ad_ r) || decide ((((q).length : Nat) : Int) ≤ (((r).length : Nat) : Int))))))))
  case true => rw [cond_true]; exact go_
  simp only [Bool.or_eq_false_iff, Bool.not_eq_false', decide_eq_false_iff_not] at hc
  obtain ⟨fq, fs, fr, bq, bs, br, hl⟩ := hc
  have rq := (few_f (p := q) (d := 4) (b := 20) (by rw [fq]; rfl)).1
  have rs := (few_f (p := s) (d := 4) (b := 20) (by rw [fs]; rfl)).1
  have rr := (few_f (p := r) (d := 4) (b := 20) (by rw [fr]; rfl)).1
  obtain ⟨d, g, gb⟩ := cS_ fq (jp_ (h1_ rq) bq)
  obtain ⟨S, hs, sb⟩ := cS_ fs (jp_ (h1_ rs) bs)
  obtain ⟨R, hr, rb⟩ := cS_ fr (jp_ (h1_ rr) br)
  obtain ⟨n, hn⟩ : ∃ n, q.length = n + 1 := ⟨q.length - 1, by omega⟩
  have hR : ∀ i, n ≤ i → R i = 0 := fun i hi => hr.zero (by omega)
  have hd : ∀ i, n < i → d i = 0 := fun i hi => g.zero (by omega)
  have pb := (gb.conv sb (e := 3) (by decide)).add ((rb.mono (Nat.le_refl _) (show _ ≤ Int.toNat 20 + Int.toNat 20 + 3 by decide)))
  have hp := iP_ (fM_ g hs gb sb (e := 3) (by decide) (by decide) (by decide)) hr (gb.conv sb (e := 3) (by decide)) (rb.mono (Nat.le_refl _) (show _ ≤ Int.toNat 20 + Int.toNat 20 + 3 by decide)) (by decide)
  have hT : (ak_ (ac_ q s) r).length ≤ n + 5 := hp.short fun k hk => by
    show conv d S k + R k = 0
    rw [hR k (by omega), iq_ (n := n + 1) (m := 5) (fun i hi => hd i (by omega)) sb.z k (by omega)]; rfl
  have hS : ∀ i, (ak_ (ac_ q s) r).length - n ≤ i → S i = 0 := fun i hi => by
    rcases Nat.lt_or_ge i s.length with h1 | h1
    · exfalso
      obtain ⟨m, hm⟩ : ∃ m, s.length = m + 1 := ⟨s.length - 1, by omega⟩
      have k1 := hp.zero (k := n + m) (by omega)
      have k2 : conv d S (n + m) + R (n + m) = 0 := k1
      rw [hR (n + m) (by omega), lR_ (n := n) (m := m) hd (fun i hi => hs.zero (by omega)), Int.add_zero] at k2
      rcases Int.mul_eq_zero.1 k2 with h | h
      · exact g.last hn h
      · exact hs.last hm h
    · exact hs.zero h1
  have ha : (((d n).natAbs : Int)).natAbs < 2 ^ 20 := by rw [Int.natAbs_natCast]; exact gb.b n
  have u := pd_ hp g hn (jO_ (c := 20) ha (oq_ _) gb.b _ _ _ pb.b (by
    have : (Int.toNat 20 + Int.toNat 20 + 3 + 1) = 44 := by decide
    rw [this]; omega))
  rw [lD_ (oT_ (d n)) hd _ S R hS hR] at u
  have hBR : ∀ j k, j ≤ (ak_ (ac_ q s) r).length - n → B512 (R k * ((d n).natAbs : Int) ^ j) := fun j k hj => by
    have := fa_ (rb.b k) (oB_ ha j)
    refine ec_ this ?_
    have : Int.toNat 20 = 20 := by decide
    rw [this]; omega
  have w := hv_ (s := s) (r := r) hn (a := ((d n).natAbs : Int)) (by rw [hn, Nat.add_sub_cancel, g.get, E_dec, n5_ (g.B n)]) (abs_B (g.B n)) rfl hBR
    ((ak_ (ac_ q s) r).length + 2) 0 r (by omega) (Nat.zero_le _) (hr.cast fun k => by rw [Int.pow_zero, Int.mul_one])
  have v := pd_ hr g hn (by
    rw [show r.length - n = 0 by omega]; exact hr.B)
  rw [show r.length - n = 0 by omega] at v
  rw [cond_false]
  show (aJ_ && (ae_ (aP_ (ak_ (ac_ q s) r) q) (aW_ q s r ((ak_ (ac_ q s) r).length + 2) r 0).1 && ae_ (aP_ r q) r)) = true
  rw [u.eq (w.cast fun k => Int.mul_comm _ _), v.eq hr, gJ_, gJ_, go_]; rfl
end Go.Num

