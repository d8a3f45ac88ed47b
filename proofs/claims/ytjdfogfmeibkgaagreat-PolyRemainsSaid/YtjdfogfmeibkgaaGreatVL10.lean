/- Walks: what these functions return. Polynomials as functions from Nat: sums, products, values. No program stands in it. Polynomials: what the functions return, by coefficients, with their sizes. No program stands in it. Remainders of polynomials, by coefficients. No program stands in it. -/
import Derived.Test.YtjdfogfmeibkgaaGreatVGE
import Derived.Test.YtjdfogfmeibkgaaGreatVFp
import Derived.Test.YtjdfogfmeibkgaaGreatVLa
import Derived.Test.YtjdfogfmeibkgaaGreatVWc
import Derived.Test.YtjdfogfmeibkgaaGreatVGf
import Derived.Test.YtjdfogfmeibkgaaGreatVYb
import Derived.Test.YtjdfogfmeibkgaaGreatVYc
import Derived.Test.YtjdfogfmeibkgaaGreatVYr
import Derived.Test.YtjdfogfmeibkgaaGreatVYf
import Derived.KernelRfl
namespace Go.Proofs.YtjdfogfmeibkgaaGreat
open Go.Kn Go.Num
set_option linter.unusedVariables false
set_option linter.unusedSimpArgs false
set_option maxRecDepth 20000
set_option maxHeartbeats 8000000
theorem gB_ (vq : Value) (q : (List I)) (vs : Value) (s : (List I)) (vr : Value) (r : (List I)) (w : World) (hq : Slr w elI vq q) (hs : Slr w elI vs s) (hr : Slr w elI vr r) :
    Calls Tryz.prog 9 [vq, vs, vr].toArray w (fun e w' => e = .returned (.bool (bG_ q s r)) ∧ Ext w w') := by
 obtain ⟨p_q, c_q, rfl⟩ := hq.form
 obtain ⟨p_s, c_s, rfl⟩ := hs.form
 obtain ⟨p_r, c_r, rfl⟩ := hr.form
 refine aQ_ (N := 83) Tryz.func9 rfl rfl (by simp) ?_
 obtain ⟨w0, rfl⟩ : ∃ w0, w0 = w := ⟨_, rfl⟩
 have Hq := hq.old
 have hm_q := hq.max
 have Hs := hs.old
 have hm_s := hs.max
 have Hr := hr.old
 have hm_r := hr.max
 simp only [initF, Nat.reduceAdd]
 refine Rs fun K J => sE rfl (nl J (Sq fun K1 J1 => ?_))
 refine bJ_ [10, 11, 12, 13, 14, 15, 16, 17, 18, 19, 20, 21, 22, 23, 24, 25, 26, 27, 28, 29, 30, 31, 32, 33, 34, 35, 36, 37, 38, 39, 40, 41] (fun g M => (g 41 = .bool (!(al_ q 4 20) || (!(al_ s 4 20) || (!(al_ r 4 20) || ((ab_ q) || ((ab_ s) || ((ab_ r) || decide ((((q).length : Nat) : Int) ≤ (((r).length : Nat) : Int))))))))) ∧ M = []) (fun K2 J2 => ?_) ?_
 ·skip
  refine Rk fun K J => sE rfl (sQ (q_as (v' := .bool (al_ q 4 20)) (aM_ en_22 rfl (fun w hw => cT_ _ q 4 20 w (SLe.ap hw (SLe.sub Hq sn)) (by first | omega | (simp only [List.length_cons, List.length_nil, and_true, true_and] <;> omega) | simp))) rfl) rfl ?_)
  refine sE rfl ?_
  rcases bt (al_ q 4 20) with h7 | h7
  ·skip
   refine sB (not_f h7) rfl (sE rfl (sQ (q_as (v' := .bool (al_ s 4 20)) (aM_ en_22 rfl (fun w hw => cT_ _ s 4 20 w (SLe.ap hw (SLe.sub Hs sn)) (by first | omega | (simp only [List.length_cons, List.length_nil, and_true, true_and] <;> omega) | simp))) rfl) rfl ?_))
   refine sE rfl (sE rfl ?_)
   rcases bt (al_ s 4 20) with h8 | h8
   ·skip
    refine sB (not_f h8) rfl (sE rfl (sQ (q_as (v' := .bool (al_ r 4 20)) (aM_ en_22 rfl (fun w hw => cT_ _ r 4 20 w (SLe.ap hw (SLe.sub Hr sn)) (by first | omega | (simp only [List.length_cons, List.length_nil, and_true, true_and] <;> omega) | simp))) rfl) rfl ?_))
    refine sE rfl (sE rfl ?_)
    rcases bt (al_ r 4 20) with h9 | h9
    ·skip
     refine sB (not_f h9) rfl (sE rfl (sQ (q_as (v' := .bool (ab_ q)) (aM_ en_18 rfl (fun w hw => aP_ _ q w (SLe.ap hw (SLe.sub Hq sn)))) rfl) rfl (sE rfl ?_)))
     rcases bt (ab_ q) with h10 | h10
     ·skip
      refine sB h10 rfl (WL_n rfl (WL_n rfl (sE rfl (sE rfl (WL_n rfl (WL_n rfl (sE rfl (sE rfl (WL_n rfl (WL_n rfl (WL_n rfl (WL_n rfl (WL_n rfl (sE rfl (nl J ?_)))))))))))))))
      refine J2 _ _ (by repeat first | exact .refl | refine .cons rfl ?_) ⟨_, s0, ?s41, rfl⟩
      case s41 => exact congrArg Value.bool (nor_t h7 (nor_t h8 (nor_t h9 (or_t h10))))
     ·skip
      refine sB h10 rfl (sE rfl (sQ (q_as (v' := .bool (ab_ s)) (aM_ en_18 rfl (fun w hw => aP_ _ s w (SLe.ap hw (SLe.sub Hs sn)))) rfl) rfl (sE rfl ?_)))
      rcases bt (ab_ s) with h11 | h11
      ·skip
       refine sB h11 rfl (WL_n rfl (WL_n rfl (sE rfl (sE rfl (WL_n rfl (WL_n rfl (WL_n rfl (WL_n rfl (WL_n rfl (sE rfl (nl J ?_)))))))))))
       refine J2 _ _ (by repeat first | exact .refl | refine .cons rfl ?_) ⟨_, s0, ?s41, rfl⟩
       case s41 => exact congrArg Value.bool (nor_t h7 (nor_t h8 (nor_t h9 (or_f h10 (or_t h11)))))
      ·skip
       refine sB h11 rfl (sE rfl (sQ (q_as (v' := .bool (ab_ r)) (aM_ en_18 rfl (fun w hw => aP_ _ r w (SLe.ap hw (SLe.sub Hr sn)))) rfl) rfl (sE rfl ?_)))
       rcases bt (ab_ r) with h12 | h12
       ·skip
        refine sB h12 rfl (WL_n rfl (WL_n rfl (WL_n rfl (WL_n rfl (WL_n rfl (sE rfl (nl J ?_)))))))
        refine J2 _ _ (by repeat first | exact .refl | refine .cons rfl ?_) ⟨_, s0, ?s41, rfl⟩
        case s41 => exact congrArg Value.bool (nor_t h7 (nor_t h8 (nor_t h9 (or_f h10 (or_f h11 (or_t h12))))))
       ·skip
        refine sB h12 rfl (sE rfl (sQ (q_as (v' := .int .i64 (((r).length : Nat) : Int)) (aV_ (e := elI) sl_24 rfl (SLe.sub Hr sn)) rfl) rfl (sE rfl (sQ (q_as (v' := .int .i64 (((q).length : Nat) : Int)) (aV_ (e := elI) sl_24 rfl (SLe.sub Hq sn)) rfl) rfl (sE rfl (sE rfl (nl J ?_)))))))
        refine J2 _ _ (by repeat first | exact .refl | refine .cons rfl ?_) ⟨_, s0, ?s41, rfl⟩
        case s41 => exact congrArg Value.bool (nor_t h7 (nor_t h8 (nor_t h9 (or_f h10 (or_f h11 (or_f h12 rfl))))))
    ·skip
     refine sB (not_t h9) rfl (WL_n rfl (WL_n rfl (sE rfl (sE rfl (WL_n rfl (WL_n rfl (sE rfl (sE rfl (WL_n rfl (WL_n rfl (sE rfl (sE rfl (WL_n rfl (WL_n rfl (WL_n rfl (WL_n rfl (WL_n rfl (sE rfl (nl J ?_)))))))))))))))))))
     refine J2 _ _ (by repeat first | exact .refl | refine .cons rfl ?_) ⟨_, s0, ?s41, rfl⟩
     case s41 => exact congrArg Value.bool (nor_t h7 (nor_t h8 (nor_f h9)))
   ·skip
    refine sB (not_t h8) rfl (WL_n rfl (WL_n rfl (WL_n rfl (sE rfl (sE rfl (WL_n rfl (WL_n rfl (sE rfl (sE rfl (WL_n rfl (WL_n rfl (sE rfl (sE rfl (WL_n rfl (WL_n rfl (sE rfl (sE rfl (WL_n rfl (WL_n rfl ?_)))))))))))))))))))
    refine WL_n rfl (WL_n rfl (WL_n rfl (sE rfl (nl J ?_))))
    refine J2 _ _ (by repeat first | exact .refl | refine .cons rfl ?_) ⟨_, s0, ?s41, rfl⟩
    case s41 => exact congrArg Value.bool (nor_t h7 (nor_f h8))
  ·skip
   refine sB (not_t h7) rfl (WL_n rfl (WL_n rfl (WL_n rfl (sE rfl (sE rfl (WL_n rfl (WL_n rfl (WL_n rfl (sE rfl (sE rfl (WL_n rfl (WL_n rfl (sE rfl (sE rfl (WL_n rfl (WL_n rfl (sE rfl (sE rfl (WL_n rfl ?_)))))))))))))))))))
   refine WL_n rfl (sE rfl (sE rfl (WL_n rfl (WL_n rfl (WL_n rfl (WL_n rfl (WL_n rfl (sE rfl (nl J ?_)))))))))
   refine J2 _ _ (by repeat first | exact .refl | refine .cons rfl ?_) ⟨_, s0, ?s41, rfl⟩
   case s41 => exact congrArg Value.bool (nor_f h7)
 ·skip
  rintro g13 M ⟨hg41, rfl⟩
  simp only [setG, hg41]
  clear hg41
  rcases bt (!(al_ q 4 20) || (!(al_ s 4 20) || (!(al_ r 4 20) || ((ab_ q) || ((ab_ s) || ((ab_ r) || decide ((((q).length : Nat) : Int) ≤ (((r).length : Nat) : Int)))))))) with h14 | h14
  ·skip
   refine W_t h14 rfl (Rs fun K J => sQ (q_ret en_14 dm_  rfl) rfl (sE rfl (nl J (W_ret (ag_ (ret1 rfl (.inr rfl) rfl ?_))))))
   exact (by exact congrArg (fun r : Bool => (.bool r : Value)) (show _ = (bG_ q s r) from bif_t h14 rfl))
  ·skip
   have ph15 := of_decide_eq_false (Bool.or_eq_false_iff.1 (Bool.or_eq_false_iff.1 (Bool.or_eq_false_iff.1 (Bool.or_eq_false_iff.1 (Bool.or_eq_false_iff.1 (Bool.or_eq_false_iff.1 h14).2).2).2).2).2).2
   refine W_f h14 rfl (aj_ (J1 _ _ ?_))
   obtain ⟨hRq, hLq⟩ := few_f (Bool.or_eq_false_iff.1 h14).1
   obtain ⟨hRs, hLs⟩ := few_f (Bool.or_eq_false_iff.1 (Bool.or_eq_false_iff.1 h14).2).1
   obtain ⟨hRr, hLr⟩ := few_f (Bool.or_eq_false_iff.1 (Bool.or_eq_false_iff.1 (Bool.or_eq_false_iff.1 h14).2).2).1
   refine Rs fun K J => sE rfl (sE rfl (WL_r rfl (ao_ (E := 38) (e := elI) (l := (as_ q s)) (fun v => v) en_31 rfl (fun w hw => eZ_ _ q _ s w (SLe.ap hw (SLe.sub Hq sn)) (SLe.ap hw (SLe.sub Hs sn)) (by first | omega | (simp only [List.length_cons, List.length_nil, and_true, true_and] <;> omega) | simp)) (fun p16 c17 L18 hF19 => ?_))))
   have hb20 := (fd_ q s)
   have hr21 := (e4_ q s)
   refine sE rfl (WL_r rfl (ao_ (E := 38) (e := elI) (l := (aN_ (as_ q s) r)) (fun v => v) en_42 rfl (fun w hw => gn_ _ (as_ q s) _ r w (SLe.ap hw (SLfe.sle (OwnG.slfe hF19 (List.sublist_append_left _ _)))) (SLe.ap hw (SLe.sub Hr sn)) (by first | omega | (simp only [List.length_cons, List.length_nil, and_true, true_and] <;> omega) | simp)) (fun p22 c23 L24 hF25 => ?_)))
   have hb26 := (fa_ (as_ q s) r)
   refine sE rfl (nl J (Rs fun K J => sE rfl (sE rfl (nl J (Sq fun K3 J3 => Rs fun K J => sE rfl (nl J ?_))))))
   refine b5_ (fun S M h => J3 S M h) [8, 9, 49, 50, 51, 52, 53, 54, 55, 56, 57, 58, 59, 60, 61, 62, 63, 64, 65, 66, 67] (fun g M => ∃ (wn : List I) (i : Nat) (p_wn : Option Addr) (c_wn : Nat) (L_wn : List Blk), (aF_ q s r (((aN_ (as_ q s) r).length + 2)) r 0) = (wn, i) ∧ (wn.length ≤ 25) ∧ (g 8 = .slice p_wn wn.length c_wn ∧ g 9 = .int .i64 ((i : Nat) : Int) ∧ RdL w0 elI (.slice p_wn wn.length c_wn) wn L_wn) ∧ M = (L_wn ++ (L24 ++ (L18 ++ [])))) (fun K_u27 hK_u27 => ?_) ?_
   ·skip
    refine am_ ?_
    refine aG_ [8, 9, 49, 50, 51, 52, 53, 54, 55, 56, 57, 58, 59, 60, 61, 62, 63, 64, 65, 66, 67] (fun g nn M => ∃ (wn : List I) (i : Nat) (p_wn : Option Addr) (c_wn : Nat) (L_wn : List Blk), (aF_ q s r nn wn i) = (aF_ q s r (((aN_ (as_ q s) r).length + 2)) r 0) ∧ (((aN_ (as_ q s) r).length : Int) - q.length + 1 - i).toNat < nn ∧ (i ≤ 26 ∧ wn.length ≤ 25) ∧ (g 8 = .slice p_wn wn.length c_wn ∧ g 9 = .int .i64 ((i : Nat) : Int) ∧ RdL w0 elI (.slice p_wn wn.length c_wn) wn L_wn) ∧ M = (L_wn ++ (L24 ++ (L18 ++ [])))) (((aN_ (as_ q s) r).length + 2)) ?start ?round
    case start => exact ⟨_, s0, r, 0, p_r, c_r, [], rfl, (by omega), ⟨by omega, by omega⟩, ⟨rfl, rfl, (RdL.old Hr hm_r)⟩, rfl⟩
    case round =>
     rintro nn g M ⟨wn, i, p_wn, c_wn, L_wn, hT0, hq0, hinv0, ⟨hg8, hg9, hO_wn⟩, rfl⟩
     obtain ⟨k0, rfl⟩ : ∃ m, nn = m + 1 := ⟨nn - 1, by omega⟩
     simp only [setG, hg8, hg9]
     clear hg8 hg9
     have hm_wn := RdL.max hO_wn
     refine Sq fun K6 J6 => Rs fun K J => sE rfl (sE rfl (sQ (q_as (v' := .int .i64 ((((aN_ (as_ q s) r)).length : Nat) : Int)) (aV_ (e := elI) sl_24 rfl (SLfe.sle (OwnG.slfe hF25 (sR (List.sublist_append_left _ _))))) rfl) rfl (sE rfl (sQ (q_as (v' := .int .i64 (((q).length : Nat) : Int)) (aV_ (e := elI) sl_24 rfl (SLe.sub Hq sn)) rfl) rfl (sV (.int .i64 (((((aN_ (as_ q s) r)).length : Nat) : Int) - (((q).length : Nat) : Int))) rfl (congrArg (Value.int .i64) (wx (by omega) (by omega) (by omega))) (sV (.int .i64 ((((((aN_ (as_ q s) r)).length : Nat) : Int) - (((q).length : Nat) : Int)) + 1)) rfl (congrArg (Value.int .i64) (wx (by omega) (by omega) (by omega))) (sE rfl (nl J ?_))))))))
     rcases bt (decide (((i : Nat) : Int) < ((((((aN_ (as_ q s) r)).length : Nat) : Int) - (((q).length : Nat) : Int)) + 1))) with h34 | h34
     ·skip
      have ph34 := of_decide_eq_true h34
      refine W_t h34 rfl (aj_ (J6 _ _ (Sq fun K7 J7 => am_ (Rk fun K J => sE rfl (sE rfl (sE rfl (sQ (q_as (v' := .int .i64 (((q).length : Nat) : Int)) (aV_ (e := elI) sl_24 rfl (SLe.sub Hq sn)) rfl) rfl (sV (.int .i64 ((((q).length : Nat) : Int) - 1)) rfl (congrArg (Value.int .i64) (wx (by omega) (by omega) (by omega))) (sQ (q_as (v' := .pointer (some (slb (.slice p_q q.length c_q) (((q).length - 1) * 18 + 0)))) (cM_ (e := elI) (l := q) (k := ((q).length - 1)) sl_24 rfl rfl (by omega) (SLe.sub Hq sn) (by first | omega | (simp only [List.length_set, List.length_append, List.length_cons, List.length_nil]; omega))) rfl) rfl ?_)))))))))
      refine sQ (q_ldG (e := elI) (l := q) (k := ((q).length - 1)) (o := 0) ty_38 rfl (SLe.sub Hq sn) (aw_ I0 (by first | omega | (simp only [List.length_set, List.length_append, List.length_cons, List.length_nil]; omega))) rfl) rfl ?_
      refine sC (AV [pI (E (Z.abs (q.getD ((q).length - 1) I0).dec))]) en_44 (d4_ (q.getD ((q).length - 1) I0).1 (q.getD ((q).length - 1) I0).2) rfl rfl rfl (WL_r rfl (ao_ (E := 38) (e := elI) (l := (cm_ wn (E (Z.abs (q.getD ((q).length - 1) I0).dec)))) (fun v => v) en_43 rfl (fun w hw => hu_ _ wn (E (Z.abs (q.getD ((q).length - 1) I0).dec)) w (SLe.ap hw (SLe.sub hO_wn.1 (List.sublist_append_left _ _))) (by first | omega | (simp only [List.length_cons, List.length_nil, and_true, true_and] <;> omega) | simp)) (fun p35 c36 L37 hF38 => ?_)))
      have hb39 := (hl_ wn (E (Z.abs (q.getD ((q).length - 1) I0).dec)))
      refine sE rfl (nl J (J7 _ _ (Rk fun K J => sE rfl (sV (.int .i64 (((i + 1) : Nat) : Int)) rfl (congrArg (Value.int .i64) (wx (by omega) (by omega) (by omega))) (sE rfl (nl J (⟨(by repeat first | exact .refl | refine .cons rfl ?_), _, _, (sA (sR (s0))), (Nat.lt_succ_self _), (cm_ wn (E (Z.abs (q.getD ((q).length - 1) I0).dec))), (i + 1), p35, c36, L37, (by exact (hT0.symm.trans (Eq.symm (bif_t h34 rfl))).symm), (Nat.lt_of_lt_of_le (by omega) (Nat.le_of_lt_succ hq0)), ⟨by omega, by omega⟩, ⟨rfl, rfl, (RdL.own hF38)⟩, rfl⟩)))))))
     ·skip
      have ph34 := of_decide_eq_false h34
      refine W_f h34 rfl (br_ (ak_ (ak_ (ap_ (hK_u27 _ _ (by repeat first | exact .refl | refine .cons rfl ?_) ⟨_, s0, wn, i, p_wn, c_wn, L_wn, (by exact hT0.symm.trans (Eq.symm (bif_f h34 rfl))), (by omega), ⟨rfl, rfl, hO_wn⟩, rfl⟩)))))
   ·skip
    rintro g M ⟨wn, i, p_wn, c_wn, L_wn, hCu27, hPu27, ⟨hg8, hg9, hO_wn⟩, rfl⟩
    simp only [setG, hg8, hg9]
    clear hg8 hg9
    have hm_wn := RdL.max hO_wn
    refine bJ_ [6, 68, 69, 70, 71, 72, 73, 74, 75, 76, 77, 78, 79, 80, 81, 82] (fun g M => (g 6 = .bool (bz_ && ((af_ (ay_ (aN_ (as_ q s) r) q) wn) && (af_ (ay_ r q) r)))) ∧ M = (L_wn ++ (L24 ++ (L18 ++ [])))) (fun K8 J8 => ?_) ?_
    ·skip
     refine Rk fun K J => sQ (q_ret en_14 dm_  rfl) rfl ?_
     rcases bt bz_ with h52 | h52
     ·skip
      refine sB h52 rfl (sE rfl (sE rfl (WL_r rfl (ao_ (E := 38) (e := elI) (l := (ay_ (aN_ (as_ q s) r) q)) (fun v => v) en_23 rfl (fun w hw => dQ_ _ (aN_ (as_ q s) r) _ q w (SLe.ap hw (SLfe.sle (OwnG.slfe hF25 (sR (List.sublist_append_left _ _))))) (SLe.ap hw (SLe.sub Hq sn)) (by first | omega | (simp only [List.length_cons, List.length_nil, and_true, true_and] <;> omega) | simp)) (fun p53 c54 L55 hF56 => ?_)))))
      have hb57 := (cY_ (aN_ (as_ q s) r) q)
      refine sE rfl (sQ (q_as (v' := .bool (af_ (ay_ (aN_ (as_ q s) r) q) wn)) (aM_ en_17 rfl (fun w hw => az_ _ (ay_ (aN_ (as_ q s) r) q) _ wn w (SLe.ap hw (SLfe.sle (OwnG.slfe hF56 (List.sublist_append_left _ _)))) (SLe.ap hw (SLe.sub hO_wn.1 (sR (List.sublist_append_left _ _)))))) rfl) rfl (sE rfl ?_))
      rcases bt (af_ (ay_ (aN_ (as_ q s) r) q) wn) with h58 | h58
      ·skip
       refine sB h58 rfl (sE rfl (sE rfl (WL_r rfl (ao_ (E := 38) (e := elI) (l := (ay_ r q)) (fun v => v) en_23 rfl (fun w hw => dQ_ _ r _ q w (SLe.ap hw (SLe.sub Hr sn)) (SLe.ap hw (SLe.sub Hq sn)) (by first | omega | (simp only [List.length_cons, List.length_nil, and_true, true_and] <;> omega) | simp)) (fun p59 c60 L61 hF62 => ?_)))))
       have hb63 := (cY_ r q)
       refine sE rfl (sQ (q_as (v' := .bool (af_ (ay_ r q) r)) (aM_ en_17 rfl (fun w hw => az_ _ (ay_ r q) _ r w (SLe.ap hw (SLfe.sle (OwnG.slfe hF62 (List.sublist_append_left _ _)))) (SLe.ap hw (SLe.sub Hr sn)))) rfl) rfl (sE rfl (sE rfl (nl J ?_))))
       refine J8 _ _ (by repeat first | exact .refl | refine .cons rfl ?_) ⟨_, (sR (sR (s0))), ?s6, rfl⟩
       case s6 => exact congrArg Value.bool (and_t h52 (and_t h58 rfl))
      ·skip
       refine sB h58 rfl (WL_n rfl (WL_n rfl (WL_n rfl (WL_n rfl (WL_n rfl (sE rfl (sE rfl (nl J ?_))))))))
       refine J8 _ _ (by repeat first | exact .refl | refine .cons rfl ?_) ⟨_, (sR (s0)), ?s6, rfl⟩
       case s6 => exact congrArg Value.bool (and_t h52 (and_f h58))
     ·skip
      refine sB h52 rfl (WL_n rfl (WL_n rfl (WL_n rfl (WL_n rfl (WL_n rfl (sE rfl (sE rfl (WL_n rfl (WL_n rfl (WL_n rfl (WL_n rfl (WL_n rfl (sE rfl (sE rfl (nl J ?_)))))))))))))))
      refine J8 _ _ (by repeat first | exact .refl | refine .cons rfl ?_) ⟨_, s0, ?s6, rfl⟩
      case s6 => exact congrArg Value.bool (and_f h52)
    ·skip
     rintro g64 M ⟨hg6, rfl⟩
     simp only [setG, hg6]
     clear hg6
     refine W_ret (ret1 rfl (.inr rfl) rfl ?_)
     exact (by exact congrArg (fun r : Bool => (.bool r : Value)) (show _ = (bG_ q s r) from bif_f h14 (trs (Eq.symm (apS hCu27)) rfl)))
end Go.Proofs.YtjdfogfmeibkgaaGreat


set_option linter.unusedVariables false
set_option linter.unusedSimpArgs false
namespace Go.Num
class Rg (α : Type) [Add α] [Mul α] [OfNat α 0] : Prop where
  aa : ∀ a b c : α, a + b + c = a + (b + c)
  ac : ∀ a b : α, a + b = b + a
  a0 : ∀ a : α, a + 0 = a
  ma : ∀ a b c : α, a * b * c = a * (b * c)
  mc : ∀ a b : α, a * b = b * a
  md : ∀ a b c : α, a * (b + c) = a * b + a * c
  m0 : ∀ a : α, a * 0 = 0
instance : Rg Int := ⟨Int.add_assoc, Int.add_comm, Int.add_zero, Int.mul_assoc, Int.mul_comm, Int.mul_add, Int.mul_zero⟩
instance : Rg Rat := ⟨Rat.add_assoc, Rat.add_comm, Rat.add_zero, Rat.mul_assoc, Rat.mul_comm, Rat.mul_add, Rat.mul_zero⟩
theorem Rg.za {α : Type} [Add α] [Mul α] [OfNat α 0] [Rg α] (a : α) : 0 + a = a := by rw [Rg.ac, Rg.a0]
theorem Rg.zm {α : Type} [Add α] [Mul α] [OfNat α 0] [Rg α] (a : α) : 0 * a = 0 := by rw [Rg.mc, Rg.m0]
/-- The sum of the first n values. -/
def sumN {α : Type} [Add α] [OfNat α 0] (f : Nat → α) : Nat → α
  | 0 => 0
  | n + 1 => sumN f n + f n
theorem ew_ {α : Type} [Add α] [OfNat α 0] {f g : Nat → α} : ∀ {n : Nat}, (∀ i, i < n → f i = g i) → sumN f n = sumN g n
  | 0, _ => rfl
  | n + 1, h => by simp only [sumN]; rw [ew_ fun i hi => h i (by omega), h n (by omega)]
theorem dN_ {α : Type} [Add α] [Mul α] [OfNat α 0] [Rg α] {f : Nat → α} : ∀ {n : Nat}, (∀ i, i < n → f i = 0) → sumN f n = 0
  | 0, _ => rfl
  | n + 1, h => by simp only [sumN]; rw [dN_ fun i hi => h i (by omega), h n (by omega), Rg.a0]
theorem kg_ {α : Type} [Add α] [Mul α] [OfNat α 0] [Rg α] (f g : Nat → α) : ∀ n : Nat, sumN (fun i => f i + g i) n = sumN f n + sumN g n
  | 0 => (Rg.a0 _).symm
  | n + 1 => by
    simp only [sumN]
    rw [kg_ f g n, Rg.aa, Rg.aa, ← Rg.aa (sumN g n), Rg.ac (sumN g n) (f n), Rg.aa]
theorem jE_ {α : Type} [Add α] [Mul α] [OfNat α 0] [Rg α] (c : α) (f : Nat → α) : ∀ n : Nat, sumN (fun i => c * f i) n = c * sumN f n
  | 0 => (Rg.m0 _).symm
  | n + 1 => by simp only [sumN]; rw [jE_ c f n, Rg.md]
theorem hG_ {α : Type} [Add α] [Mul α] [OfNat α 0] [Rg α] (f : Nat → α) : ∀ n : Nat, sumN f (n + 1) = f 0 + sumN (fun i => f (i + 1)) n
  | 0 => by simp only [sumN]; rw [Rg.ac]
  | n + 1 => by rw [sumN, hG_ f n, Rg.aa]; rfl
theorem jH_ {α : Type} [Add α] [Mul α] [OfNat α 0] [Rg α] (f : Nat → α) : ∀ n : Nat, sumN f n = sumN (fun i => f (n - 1 - i)) n
  | 0 => rfl
  | n + 1 => by
    rw [hG_ (fun i => f (n + 1 - 1 - i)), sumN, Rg.ac, jH_ f n]
    rw [show n + 1 - 1 - 0 = n by omega]
    congr 1
    exact ew_ fun i hi => congrArg f (by omega)
theorem fZ_ {α : Type} [Add α] [Mul α] [OfNat α 0] [Rg α] {f : Nat → α} {n : Nat} (h : ∀ i, n ≤ i → f i = 0) : ∀ m : Nat, n ≤ m → sumN f m = sumN f n
  | 0, hm => by rw [show n = 0 by omega]
  | m + 1, hm => by
    rcases Nat.lt_or_ge n (m + 1) with g | g
    · rw [sumN, h m (by omega), Rg.a0, fZ_ h m (by omega)]
    · rw [show n = m + 1 by omega]
theorem kk_ {α : Type} [Add α] [Mul α] [OfNat α 0] [Rg α] {f : Nat → α} {a : Nat} (h : ∀ i, i ≠ a → f i = 0) {n : Nat} (hn : a < n) : sumN f n = f a := by
  rw [fZ_ (n := a + 1) (fun i hi => h i (by omega)) n hn, sumN, dN_ fun i hi => h i (by omega), Rg.za]
/-- The coefficients of a product. -/
def conv {α : Type} [Add α] [Mul α] [OfNat α 0] (c d : Nat → α) (k : Nat) : α := sumN (fun i => c i * d (k - i)) (k + 1)
theorem gT_ {α : Type} [Add α] [Mul α] [OfNat α 0] [Rg α] (c d : Nat → α) : conv c d = conv d c := by
  funext k
  unfold conv
  rw [jH_]
  refine ew_ fun i hi => ?_
  rw [Rg.mc, show k - (k + 1 - 1 - i) = i by omega, show k + 1 - 1 - i = k - i by omega]
theorem mH_ {α : Type} [Add α] [Mul α] [OfNat α 0] [Rg α] (c d e : Nat → α) : conv c (fun i => d i + e i) = fun k => conv c d k + conv c e k := by
  funext k
  unfold conv
  rw [← kg_]
  exact ew_ fun i _ => Rg.md _ _ _
theorem md_ {α : Type} [Add α] [Mul α] [OfNat α 0] [Rg α] (a : α) (c d : Nat → α) : conv (fun i => a * c i) d = fun k => a * conv c d k := by
  funext k
  unfold conv
  rw [← jE_]
  exact ew_ fun i _ => Rg.ma _ _ _
theorem jP_ {α : Type} [Add α] [Mul α] [OfNat α 0] [Rg α] (a : α) (c d : Nat → α) : conv c (fun i => a * d i) = fun k => a * conv c d k := by
  rw [gT_, md_, gT_]
theorem hg_ {α : Type} [Add α] [Mul α] [OfNat α 0] [Rg α] {c d : Nat → α} {n m : Nat} (hc : ∀ i, n ≤ i → c i = 0) (hd : ∀ i, m ≤ i → d i = 0) (k : Nat) (hk : n + m ≤ k + 1) : conv c d k = 0 := by
  refine dN_ fun i hi => ?_
  rcases Nat.lt_or_ge i n with h | h
  · rw [hd _ (by omega), Rg.m0]
  · rw [hc _ h, Rg.zm]
theorem kh_ {α : Type} [Add α] [Mul α] [OfNat α 0] [Rg α] {c d : Nat → α} {n m : Nat} (hc : ∀ i, n < i → c i = 0) (hd : ∀ i, m < i → d i = 0) : conv c d (n + m) = c n * d m := by
  unfold conv
  rw [kk_ (a := n) (fun i hi => ?_) (by omega), show n + m - n = m by omega]
  rcases Nat.lt_or_ge n i with h | h
  · rw [hc _ h, Rg.zm]
  · rw [hd _ (by omega), Rg.m0]
end Go.Num


set_option linter.unusedVariables false
set_option linter.unusedSimpArgs false
namespace Go.Num
open Go Go.Kn
theorem vI0 : vI I0 = 0 := vI_E B0
theorem oV_ {u v : Int} (hu : B512 u) (hv : B512 v) : Z.sub (Z.of u) (Z.of v) = Z.of (u - v) := by
  rw [Z.sub, m5_ hv, jV_ hu (show (-v).natAbs < _ by rw [Int.natAbs_neg]; exact hv), Int.sub_eq_add_neg]
theorem lO_ {u : Int} (hu : B512 u) : Z.abs (Z.of u) = Z.of (u.natAbs : Nat) := by rw [Z.abs, c3_ (Z.of_some hu)]
/-- p is the right polynomial with the coefficients c. -/
structure Po (p : List I) (c : Nat → Int) : Prop where
  g : p.all gdI = true
  s : strip p = p
  l : p.length ≤ 25
  c : ∀ k, vI (p.getD k I0) = c k
section
variable {p q : List I} {c d : Nat → Int}
theorem oI_ (h : Rgt p) (hg : p.all gdI = true) : Po p (fun k => vI (p.getD k I0)) := by
  rcases h with rfl | h
  · rw [bW_] at hg; cases hg
  · exact ⟨h.1, h.2.1, h.2.2, fun _ => rfl⟩
theorem lU_ (h : p.all gdI = true) (k : Nat) : gdI (p.getD k I0) = true := by
  by_cases hk : k < p.length
  · rw [show p.getD k I0 = p[k] by simp [List.getD, hk]]
    exact List.all_eq_true.1 h _ (List.getElem_mem hk)
  · rw [d9_ (by omega)]; exact gd_E B0
theorem Po.get (h : Po p c) (k : Nat) : p.getD k I0 = E (Z.of (c k)) := by rw [← h.c k]; exact (gd_eq (lU_ h.g k)).1
theorem Po.B (h : Po p c) (k : Nat) : B512 (c k) := by rw [← h.c k]; exact (gd_eq (lU_ h.g k)).2
theorem Po.zero (h : Po p c) {k : Nat} (hk : p.length ≤ k) : c k = 0 := by rw [← h.c k, d9_ hk, vI0]
theorem Po.last (h : Po p c) {n : Nat} (hn : p.length = n + 1) : c n ≠ 0 := by
  rcases dn_ p with rfl | ⟨m, x, rfl⟩
  · cases hn
  · have h1 := f8_ h.s
    have h2 : n = m.length := by simp at hn; omega
    have h3 := h.get n
    rw [show (m ++ [x]).getD n I0 = x by simp [h2]] at h3
    rw [h3, zr_E (h.B n)] at h1
    exact of_decide_eq_false h1
theorem Po.short (h : Po p c) {n : Nat} (hz : ∀ k, n ≤ k → c k = 0) : p.length ≤ n := by
  rcases Nat.lt_or_ge n p.length with g | g
  · exact absurd (hz (p.length - 1) (by omega)) (h.last (by omega))
  · exact g
theorem Po.eq (h : Po p c) (g : Po q c) : p = q := by
  have e : p.length = q.length := Nat.le_antisymm (h.short fun k hk => g.zero hk) (g.short fun k hk => h.zero hk)
  refine List.ext_getElem e fun k h1 h2 => ?_
  have a := h.get k
  rw [← g.get k] at a
  simpa [List.getD, h1, h2] using a
theorem Po.cast (h : Po p c) (e : ∀ k, c k = d k) : Po p d := ⟨h.g, h.s, h.l, fun k => (h.c k).trans (e k)⟩
theorem nv_ : Po [] (fun _ => 0) := ⟨rfl, rfl, by decide, fun k => by rw [show ([] : List I).getD k I0 = I0 by simp]; exact vI0⟩
theorem Po.nil (h : Po p c) (hz : ∀ k, c k = 0) : p = [] := (h.cast hz).eq nv_
theorem gm_ : ∀ (n : Nat) (l : List I), l.length ≤ n → ∀ k, (strip l).length ≤ k → zrI (l.getD k I0) = true
  | 0, l, h, k, _ => by
    rw [d9_ (by omega)]; exact zr0
  | n + 1, l, h, k, hk => by
    rcases dn_ l with rfl | ⟨m, x, rfl⟩
    · rw [show ([] : List I).getD k I0 = I0 by simp]; exact zr0
    · rw [dl_] at hk
      cases hx : zrI x
      · rw [hx, cond_false] at hk
        rw [d9_ hk]; exact zr0
      · rw [hx, cond_true] at hk
        rcases Nat.lt_trichotomy k m.length with g | g | g
        · rw [show (m ++ [x]).getD k I0 = m.getD k I0 by simp [List.getD, List.getElem?_append_left g]]
          exact gm_ n m (by simp at h; omega) k hk
        · rw [show (m ++ [x]).getD k I0 = x by simp [g]]; exact hx
        · rw [d9_ (by simp; omega)]; exact zr0
theorem nq_ {l : List I} (h : ∀ k, l.getD k I0 = E (Z.of (c k))) (hB : ∀ k, B512 (c k)) (hz : ∀ k, 25 ≤ k → c k = 0) : Po (mkP l) c := by
  have hg : l.all gdI = true := List.all_eq_true.2 fun x hx => by
    obtain ⟨k, hk, rfl⟩ := List.getElem_of_mem hx
    have e := h k
    rw [show l.getD k I0 = l[k] by simp [List.getD, hk]] at e
    rw [e]; exact gd_E (hB k)
  have hl : (strip l).length ≤ 25 := fA_ _ l (Nat.le_refl _) fun j hj => by rw [h j, hz j hj]; exact zr0
  have e : mkP l = strip l := by unfold mkP; rw [hg, cond_true, if_pos hl]
  rw [e]
  refine ⟨is_ hg, hC_ l, hl, fun k => ?_⟩
  by_cases hk : k < (strip l).length
  · have e2 : (strip l).getD k I0 = l.getD k I0 := by
      rw [el_ l]
      simp only [List.getD, List.getElem?_take, hk, if_true]
    rw [e2, h k, vI_E (hB k)]
  · have := gm_ _ l (Nat.le_refl _) k (by omega)
    rw [h k, zr_E (hB k)] at this
    rw [d9_ (by omega), vI0, of_decide_eq_true this]
theorem mU_ (f : Nat → I) (n k : Nat) : ((List.range n).map f).getD k I0 = if k < n then f k else I0 := by
  by_cases h : k < n <;> simp [List.getD, h]
theorem nr_ {f : Nat → I} {n : Nat} (h : ∀ k, k < n → f k = E (Z.of (c k))) (h0 : ∀ k, n ≤ k → c k = 0) (hB : ∀ k, B512 (c k)) (hz : ∀ k, 25 ≤ k → c k = 0) : Po (mkP ((List.range n).map f)) c := by
  refine nq_ (fun k => ?_) hB hz
  rw [mU_]
  split
  · exact h k ‹_›
  · rw [h0 k (by omega)]; rfl
theorem Po.l3 (h : Po p c) : p.length ≤ 1000 := Nat.le_trans h.l (by decide)
theorem lt_ (h : Rgt p) : p.length ≤ 1000 := Nat.le_trans (l2_ h) (by decide)
theorem Po.nb (h : Po p c) : ab_ p = false := by rw [fe_ h.l3, h.g]; rfl
theorem k4_ {e : Nat → Int} {f : I → I → I} (h : Po p c) (g : Po q d) (hf : ∀ k, f (E (Z.of (c k))) (E (Z.of (d k))) = E (Z.of (e k))) (hB : ∀ k, B512 (e k)) (h0 : ∀ k, c k = 0 → d k = 0 → e k = 0) : Po (be_ p q f) e := by
  rw [gh_ f h.l3 g.l3, h.g, g.g, Bool.and_true, cond_true]
  have hl := h.l
  have gl := g.l
  refine nr_ (fun k _ => ?_) (fun k hk => ?_) hB (fun k hk => ?_)
  · rw [h.get, g.get, hf]
  · exact h0 k (h.zero (by omega)) (g.zero (by omega))
  · exact h0 k (h.zero (by omega)) (g.zero (by omega))
theorem oZ_ (h : Po p c) (g : Po q d) (hB : ∀ k, B512 (c k + d k)) : Po (aN_ p q) (fun k => c k + d k) :=
  k4_ h g (fun k => by rw [E_dec, E_dec, jV_ (h.B k) (g.B k)]) hB (fun k h1 h2 => by rw [h1, h2]; rfl)
theorem mS_ {a : Int} (h : Po p c) (ha : B512 a) (hB : ∀ k, B512 (c k * a)) : Po (cm_ p (E (Z.of a))) (fun k => c k * a) := by
  unfold cm_
  rw [show cG_ (E (Z.of a)) = true from gd_E ha, cond_true]
  exact k4_ h nv_ (fun k => by unfold cK_; rw [E_dec, E_dec, ix_ (h.B k) ha]) hB (fun k h1 _ => by rw [h1, Int.zero_mul])
theorem mX_ (h : Po p c) (g : Po q d) (k : Nat) (hs : ∀ t, B512 (sumN (fun i => c i * d (k - i)) t)) (hm : ∀ i j, B512 (c i * d j)) :
    ∀ (t i : Nat), k + 1 - i < t → i ≤ k + 1 → (bI_ k q p t i (E (Z.of (sumN (fun i => c i * d (k - i)) i)))).2 = E (Z.of (conv c d k))
  | 0, i, ht, _ => absurd ht (Nat.not_lt_zero _)
  | t + 1, i, ht, hi => by
    unfold bI_
    have e : ∀ a b, a ≤ b → p.length ≤ a → sumN (fun i => c i * d (k - i)) b = sumN (fun i => c i * d (k - i)) a := fun a b hab hpa =>
      fZ_ (fun j hj => by rw [h.zero (by omega), Int.zero_mul]) b hab
    by_cases hk : ((i : Nat) : Int) ≤ min ((k : Nat) : Int) (((p.length : Nat) : Int) - 1)
    · rw [decide_eq_true hk, cond_true, h.get, g.get, E_dec, E_dec, E_dec, ix_ (h.B _) (g.B _), jV_ (hs _) (hm _ _)]
      exact mX_ h g k hs hm t (i + 1) (by omega) (by omega)
    · rw [decide_eq_false hk, cond_false]
      show E (Z.of _) = E (Z.of (sumN _ (k + 1)))
      rcases Nat.lt_or_ge i (k + 1) with h1 | h1
      · rw [← e i (k + 1) (by omega) (by omega)]
      · rw [show i = k + 1 by omega]
theorem pi_ (h : Po p c) (g : Po q d) (hs : ∀ k t, B512 (sumN (fun i => c i * d (k - i)) t)) (hm : ∀ i j, B512 (c i * d j)) (hl : p.length + q.length ≤ 26) : Po (as_ p q) (conv c d) := by
  unfold as_
  rw [h.nb, g.nb, Bool.or_false, cond_false]
  by_cases h0 : p = []
  · subst h0
    rw [show ((((([] : List I).length : Nat) : Int) == 0) || (((q.length : Nat) : Int) == 0)) = true by simp, cond_true]
    exact nv_.cast fun k => Eq.symm (dN_ fun i _ => by rw [h.zero (Nat.zero_le _), Int.zero_mul])
  · by_cases g0 : q = []
    · subst g0
      rw [show ((((p.length : Nat) : Int) == 0) || (((([] : List I).length : Nat) : Int) == 0)) = true by simp, cond_true]
      refine nv_.cast fun k => Eq.symm (dN_ fun i _ => ?_)
      rw [g.zero (Nat.zero_le _), Int.mul_zero]
    · have h1 : 0 < p.length := List.length_pos_iff.2 h0
      have h2 : 0 < q.length := List.length_pos_iff.2 g0
      rw [show ((((p.length : Nat) : Int) == 0) || (((q.length : Nat) : Int) == 0)) = false by
        rw [Bool.or_eq_false_iff]; exact ⟨beq_eq_false_iff_ne.2 (by omega), beq_eq_false_iff_ne.2 (by omega)⟩, cond_false, eN_]
      have hz : ∀ k, p.length + q.length ≤ k + 1 → conv c d k = 0 := fun k hk => hg_ (fun i hi => h.zero hi) (fun i hi => g.zero hi) k hk
      refine nr_ (fun k _ => ?_) (fun k hk => hz k (by omega)) (fun k => hs k (k + 1)) (fun k hk => hz k (by omega))
      unfold cx_
      show (bI_ _ _ _ _ _ _).2 = _
      rw [show I0 = E (Z.of (sumN (fun i => c i * d (k - i)) (((k : Nat) : Int) - ((q.length : Nat) : Int) + 1).toNat)) by
        rw [dN_ fun i hi => by rw [g.zero (by omega), Int.mul_zero]]; rfl]
      exact mX_ h g k (hs k) hm _ _ (by omega) (by omega)
theorem nH_ {v : Int} {k : Nat} (m : Nat) (hm : 4294967296 ^ 16 = 2 ^ m) (h : v.natAbs < 2 ^ k) (hk : k ≤ m) : B512 v := by
  unfold B512
  rw [hm]
  exact Nat.lt_of_lt_of_le h (Nat.pow_le_pow_right (by decide) hk)
theorem fw_ {v : Int} {k : Nat} (h : v.natAbs < 2 ^ k) (hk : k ≤ 512) : B512 v := nH_ 512 oh_ h hk
/-- At most n coefficients, of at most b bits. -/
structure Bd (c : Nat → Int) (n b : Nat) : Prop where
  z : ∀ k, n ≤ k → c k = 0
  b : ∀ k, (c k).natAbs < 2 ^ b
variable {n m b b' : Nat}
theorem Bd.mono (h : Bd c n b) {n' b1 : Nat} (hn : n ≤ n') (hb : b ≤ b1) : Bd c n' b1 := ⟨fun k hk => h.z k (by omega), fun k => Nat.lt_of_lt_of_le (h.b k) (Nat.pow_le_pow_right (by decide) hb)⟩
theorem Bd.B (h : Bd c n b) (hb : b ≤ 512) (k : Nat) : B512 (c k) := fw_ (h.b k) hb
theorem Bd.add (h : Bd c n b) (g : Bd d m b) : Bd (fun k => c k + d k) (max n m) (b + 1) :=
  ⟨fun k hk => by show c k + d k = 0; rw [h.z k (by omega), g.z k (by omega)]; rfl, fun k => by
    show (c k + d k).natAbs < _
    have h1 := h.b k
    have h2 := g.b k
    have h3 := Int.natAbs_add_le (c k) (d k)
    rw [Nat.pow_succ]; omega⟩
theorem f7_ {u v : Int} (h : u.natAbs < 2 ^ b) (g : v.natAbs < 2 ^ b') : (u * v).natAbs < 2 ^ (b + b') := by
  rw [Int.natAbs_mul, Nat.pow_add]
  exact Nat.mul_lt_mul_of_lt_of_le h (Nat.le_of_lt g) (Nat.pow_pos (by decide))
theorem nh_ {f : Nat → Int} {A : Nat} (h : ∀ i, (f i).natAbs ≤ A) : ∀ t : Nat, (sumN f t).natAbs ≤ t * A
  | 0 => by simp [sumN]
  | t + 1 => by
    have h1 := nh_ h t
    have h2 := h t
    have h3 := Int.natAbs_add_le (sumN f t) (f t)
    rw [Nat.succ_mul]; show (sumN f t + f t).natAbs ≤ _; omega
theorem mo_ {f : Nat → Int} {e : Nat} (h : ∀ i, (f i).natAbs < 2 ^ b) (hz : ∀ i, n ≤ i → f i = 0) (hn : n ≤ 2 ^ e) (t : Nat) : (sumN f t).natAbs < 2 ^ (b + e) := by
  have hb : 0 < 2 ^ b := Nat.pow_pos (by decide)
  have k1 : ∀ t, t ≤ n → (sumN f t).natAbs < 2 ^ (b + e) := fun t ht => by
    have h1 := nh_ (f := f) (A := 2 ^ b - 1) (fun i => by have := h i; omega) t
    have h2 : t * (2 ^ b - 1) ≤ 2 ^ e * (2 ^ b - 1) := Nat.mul_le_mul_right _ (by omega)
    have h3 : 2 ^ e * (2 ^ b - 1) < 2 ^ e * 2 ^ b := Nat.mul_lt_mul_of_pos_left (by omega) (Nat.pow_pos (by decide))
    rw [Nat.pow_add, Nat.mul_comm (2 ^ b)]; omega
  rcases Nat.lt_or_ge n t with g | g
  · rw [fZ_ hz t (by omega)]; exact k1 n (Nat.le_refl _)
  · exact k1 t g
theorem iL_ (h : Bd c n b) (g : Bd d m b') {e : Nat} (hn : n ≤ 2 ^ e) (k t : Nat) : (sumN (fun i => c i * d (k - i)) t).natAbs < 2 ^ (b + b' + e) :=
  mo_ (n := n) (fun i => f7_ (h.b _) (g.b _)) (fun i hi => by rw [h.z i hi, Int.zero_mul]) hn t
theorem Bd.conv (h : Bd c n b) (g : Bd d m b') {e : Nat} (hn : n ≤ 2 ^ e) : Bd (conv c d) (n + m - 1) (b + b' + e) :=
  ⟨fun k hk => hg_ h.z g.z k (by omega), fun k => iL_ h g hn k (k + 1)⟩
theorem Po.len (h : Po p c) (hb : Bd c n b) : p.length ≤ n := h.short hb.z
theorem oA_ (h : Po p c) (g : Po q d) (hb : Bd c n b) (gb : Bd d m b') {e : Nat} (hn : n ≤ 2 ^ e) (hl : n + m ≤ 26) (hk : b + b' + e ≤ 512) : Po (as_ p q) (conv c d) :=
  pi_ h g (fun k t => fw_ (iL_ hb gb hn k t) hk) (fun i j => fw_ (f7_ (hb.b i) (gb.b j)) (by omega)) (by have := h.len hb; have := g.len gb; omega)
theorem oW_ (h : Po p c) (g : Po q d) (hb : Bd c n b) (gb : Bd d m b) (hk : b + 1 ≤ 512) : Po (aN_ p q) (fun k => c k + d k) :=
  oZ_ h g fun k => fw_ ((hb.add gb).b k) hk
theorem og_ {v : Int} (hv : B512 v) {b : Int} (h : (Z.bitsW (Z.of v)).1 ≤ b) : v.natAbs < 2 ^ b.toNat := by
  have h1 : ((Z.of v).bits : Int) ≤ b := h
  unfold Z.bits at h1
  rw [Z.of_some hv] at h1
  simp only at h1
  exact Nat.lt_of_lt_of_le (bl_lt _) (Nat.pow_le_pow_right (by decide) (by omega))
theorem kc_ (p : List I) (a b : Int) : ∀ (k i : Nat), p.length - i < k → (sm (fun _ : Nat => true) (fun r => r) (bq_ p a b k i)) = true → ∀ j, i ≤ j → j < p.length → (Z.bitsW (p.getD j I0).dec).1 ≤ b
  | 0, i, h, _, _, _, _ => absurd h (Nat.not_lt_zero _)
  | k + 1, i, h, hs, j, hj, hl => by
    unfold bq_ at hs
    rw [decide_eq_true (show ((i : Nat) : Int) < ((p.length : Nat) : Int) by omega), cond_true] at hs
    by_cases hb : b < (Z.bitsW (p.getD i I0).dec).1
    · rw [decide_eq_true hb] at hs; cases hs
    · rw [decide_eq_false hb, cond_false] at hs
      rcases Nat.lt_or_ge i j with g | g
      · exact kc_ p a b k (i + 1) (by omega) hs j (by omega) hl
      · rw [show j = i by omega]; omega
theorem il_ {a b : Int} (h : al_ p a b = true) (hg : p.all gdI = true) : ∃ c, Po p c ∧ Bd c (a + 1).toNat b.toNat := by
  have h1 := few_f (p := p) (d := a) (b := b) (by rw [h]; rfl)
  have h2 := i1_ h
  have hp := oI_ h1.1 hg
  refine ⟨_, hp, fun k hk => hp.zero (by omega), fun k => ?_⟩
  by_cases hk : k < p.length
  · unfold al_ at h
    rw [h2.1, decide_eq_false (by omega)] at h
    have h3 := kc_ p a b _ 0 (by omega) h k (by omega) hk
    rw [hp.get k, E_dec] at h3
    exact og_ (hp.B k) h3
  · show (vI (p.getD k I0)).natAbs < _
    rw [d9_ (by omega), vI0]; exact Nat.pow_pos (by decide)
end
end Go.Num


set_option linter.unusedVariables false
set_option linter.unusedSimpArgs false
namespace Go.Num
open Go Go.Kn
/-- The coefficients, moved up by i. -/
def shf (d : Nat → Int) (i k : Nat) : Int := if i ≤ k then d (k - i) else 0
/-- One round of a division. -/
def rstep (a o : Int) (d : Nat → Int) (n i : Nat) (r : Nat → Int) (k : Nat) : Int := a * r k - o * r (i + n) * shf d i k
def remf (a o : Int) (d : Nat → Int) (n : Nat) : Nat → (Nat → Int) → Nat → Int
  | 0, r => r
  | m + 1, r => remf a o d n m (rstep a o d n m r)
/-- There are enough digits for each round. -/
def RemB (a o : Int) (d : Nat → Int) (n : Nat) : Nat → (Nat → Int) → Prop
  | 0, r => ∀ k, B512 (r k)
  | m + 1, r => (∀ k, B512 (r k)) ∧ B512 (o * r (m + n)) ∧ (∀ k, B512 (a * r k)) ∧ (∀ k, B512 (o * r (m + n) * d k)) ∧ RemB a o d n m (rstep a o d n m r)
theorem RemB.B {a o : Int} {d : Nat → Int} {n : Nat} : ∀ {m : Nat} {r : Nat → Int}, RemB a o d n m r → ∀ k, B512 (r k)
  | 0, _, h => h
  | _ + 1, _, h => h.1
theorem pD_ {u : Int} {b b' : Nat} (h : u.natAbs < 2 ^ b) (hb : b ≤ b') : u.natAbs < 2 ^ b' := Nat.lt_of_lt_of_le h (Nat.pow_le_pow_right (by decide) hb)
theorem mF_ {u v : Int} {b : Nat} (h : u.natAbs < 2 ^ b) (g : v.natAbs < 2 ^ b) : (u - v).natAbs < 2 ^ (b + 1) := by
  rw [Nat.pow_succ]; omega
theorem mV_ {o u : Int} {b : Nat} (ho : o.natAbs ≤ 1) (h : u.natAbs < 2 ^ b) : (o * u).natAbs < 2 ^ b := by
  rw [Int.natAbs_mul]
  have := Nat.mul_le_mul_right u.natAbs ho
  omega
theorem mE_ {d : Nat → Int} {b : Nat} (hd : ∀ k, (d k).natAbs < 2 ^ b) (i k : Nat) : (shf d i k).natAbs < 2 ^ b := by
  unfold shf; split
  · exact hd _
  · exact Nat.pow_pos (by decide)
theorem iu_ {a o : Int} {d : Nat → Int} {n c : Nat} (ha : a.natAbs < 2 ^ c) (ho : o.natAbs ≤ 1) (hd : ∀ k, (d k).natAbs < 2 ^ c) : ∀ (m b : Nat) (r : Nat → Int), (∀ k, (r k).natAbs < 2 ^ b) → b + m * (c + 1) ≤ 512 → RemB a o d n m r
  | 0, b, r, h, hb => fun k => fw_ (h k) (by omega)
  | m + 1, b, r, h, hb => by
    rw [Nat.succ_mul] at hb
    have h1 := mV_ ho (h (m + n))
    have h2 : ∀ k, (a * r k).natAbs < 2 ^ (c + b) := fun k => f7_ ha (h k)
    have h3 : ∀ v : Int, v.natAbs < 2 ^ c → (o * r (m + n) * v).natAbs < 2 ^ (c + b) := fun v hv => by rw [Nat.add_comm c b]; exact f7_ h1 hv
    exact ⟨fun k => fw_ (h k) (by omega), fw_ h1 (by omega), fun k => fw_ (h2 k) (by omega), fun k => fw_ (h3 _ (hd k)) (by omega),
      iu_ ha ho hd m (c + b + 1) _ (fun k => mF_ (h2 k) (h3 _ (mE_ hd m k))) (by omega)⟩
section
variable {p q : List I} {c d : Nat → Int} {n : Nat}
theorem o0_ (g : Po q d) (i k : Nat) : aB_ q ((k : Int) - (i : Int)) = E (Z.of (shf d i k)) := by
  unfold shf
  by_cases h : i ≤ k
  · rw [if_pos h, show (k : Int) - (i : Int) = ((k - i : Nat) : Int) by omega, kt_, g.get]
  · rw [if_neg h]; unfold aB_
    rw [decide_eq_true (by omega), Bool.true_or, cond_true]; rfl
theorem shf_B (g : Po q d) (i k : Nat) : B512 (shf d i k) := by
  unfold shf; split
  · exact g.B _
  · exact B0
theorem l6_ (g : Po q d) (hn : q.length = n + 1) {r : Nat → Int} {i : Nat} (l : List I) (h1 : B512 (d n).natAbs) (h2 : ∀ k, B512 (r k)) (h3 : B512 ((d n).sign * r (i + n))) (h4 : ∀ k, B512 (((d n).natAbs : Int) * r k)) (h5 : ∀ k, B512 ((d n).sign * r (i + n) * d k))
    (h6 : ∀ k, B512 (rstep (d n).natAbs (d n).sign d n i r k)) : ∀ (f k : Nat) (t : List I), l.length - k < f → k ≤ l.length → t.length = l.length →
    (∀ j, t.getD j I0 = E (Z.of (if j < k then rstep (d n).natAbs (d n).sign d n i r j else r j))) →
    ∃ t', a2_ p q (i : Int) l (E (Z.of ((d n).sign * r (i + n)))) f k t = .inl (l.length, t') ∧ t'.length = l.length ∧ ∀ j, t'.getD j I0 = E (Z.of (if j < l.length then rstep (d n).natAbs (d n).sign d n i r j else r j))
  | 0, k, t, hf, _, _, _ => absurd hf (Nat.not_lt_zero _)
  | f + 1, k, t, hf, hk, ht, hv => by
    unfold a2_
    by_cases hl : k < l.length
    · rw [decide_eq_true (by omega), cond_true]
      have e := hv k
      rw [if_neg (Nat.lt_irrefl k)] at e
      have h5' : B512 ((d n).sign * r (i + n) * shf d i k) := by
        unfold shf; split
        · exact h5 _
        · rw [Int.mul_zero]; exact B0
      have e2 : E (Z.sub (Z.mul (Z.abs (q.getD (q.length - 1) I0).dec) (t.getD k I0).dec) (Z.mul (E (Z.of ((d n).sign * r (i + n)))).dec (aB_ q ((k : Int) - (i : Int))).dec)) = E (Z.of (rstep (d n).natAbs (d n).sign d n i r k)) := by
        rw [hn, Nat.add_sub_cancel, g.get, e, o0_ g, E_dec, E_dec, E_dec, E_dec, lO_ (g.B _), ix_ h1 (h2 k), ix_ h3 (shf_B g i k), oV_ (h4 k) h5']
        rfl
      simp only
      rw [e2, fJ_ t k _ (by omega), ou_ (h6 k), cond_false]
      refine l6_ g hn l h1 h2 h3 h4 h5 h6 f (k + 1) _ (by omega) (by omega) (by rw [List.length_set]; exact ht) fun j => ?_
      by_cases hj : j = k
      · subst hj; rw [fJ_ t j _ (by omega), if_pos (by omega)]
      · rw [g7_ t k j _ hj, hv j]
        by_cases hjk : j < k
        · rw [if_pos hjk, if_pos (by omega)]
        · rw [if_neg hjk, if_neg (by omega)]
    · rw [decide_eq_false (by omega), cond_false]
      have : k = l.length := by omega
      subst this
      exact ⟨t, rfl, ht, hv⟩
theorem hN_ (g : Po q d) (hn : q.length = n + 1) {r : Nat → Int} {i L j : Nat} (hz : ∀ k, L ≤ k → r k = 0) (hi : i + n < L) (hj : L ≤ j) : rstep (d n).natAbs (d n).sign d n i r j = 0 := by
  unfold rstep
  have e : shf d i j = 0 := by
    unfold shf; rw [if_pos (by omega)]; exact g.zero (by omega)
  rw [hz j hj, e, Int.mul_zero, Int.mul_zero]; rfl
theorem abs_B {v : Int} (h : B512 v) : B512 (v.natAbs : Int) := by unfold B512 at *; rw [Int.natAbs_natCast]; exact h
theorem kY_ (g : Po q d) (hn : q.length = n + 1) : ∀ (m f : Nat) (i : Int) (l : List I) (r : Nat → Int), i = (m : Int) - 1 → m < f → (m ≤ l.length - n) → (∀ j, l.getD j I0 = E (Z.of (r j))) → (∀ k, l.length ≤ k → r k = 0) →
    RemB (d n).natAbs (d n).sign d n m r → ∃ i' l', aL_ p q f i l = .inl (i', l') ∧ l'.length = l.length ∧ (∀ j, l'.getD j I0 = E (Z.of (remf (d n).natAbs (d n).sign d n m r j))) ∧ (∀ k, l.length ≤ k → remf (d n).natAbs (d n).sign d n m r k = 0) ∧ ∀ k, B512 (remf (d n).natAbs (d n).sign d n m r k)
  | m, 0, i, l, r, _, hf, _, _, _, _ => absurd hf (Nat.not_lt_zero _)
  | 0, f + 1, i, l, r, hi, hf, hm, hl, hz, hB => by
    unfold aL_
    rw [decide_eq_false (by omega), cond_false]
    exact ⟨i, l, rfl, rfl, hl, hz, hB⟩
  | m + 1, f + 1, i, l, r, hi, hf, hm, hl, hz, hB => by
    unfold aL_
    rw [decide_eq_true (by omega), cond_true]
    obtain ⟨b1, b2, b3, b4, b5⟩ := hB
    have e : E (Z.mul (Z.of (Z.signW (q.getD (q.length - 1) I0).dec).1) (l.getD (i.toNat + (q.length - 1)) I0).dec) = E (Z.of ((d n).sign * r (m + n))) := by
      have hs : B512 (d n).sign := by
        rcases Int.lt_trichotomy (d n) 0 with h | h | h
        · rw [Int.sign_eq_neg_one_of_neg h]; decide
        · rw [h]; decide
        · rw [Int.sign_eq_one_of_pos h]; decide
      rw [hn, Nat.add_sub_cancel, g.get, hl, E_dec, E_dec, jL_ (g.B n), show i.toNat = m by omega, ix_ hs (b1 _)]
    obtain ⟨t, h1, h2, h3⟩ := l6_ (p := p) g hn (i := m) l (abs_B (g.B n)) b1 b2 b3 b4 b5.B (l.length + 1) 0 l (by omega) (Nat.zero_le _) rfl (fun j => by rw [if_neg (Nat.not_lt_zero _)]; exact hl j)
    simp only
    rw [e, show i = (m : Int) by omega, h1]
    have k1 : ∀ j, t.getD j I0 = E (Z.of (rstep (d n).natAbs (d n).sign d n m r j)) := fun j => by
      rw [h3 j]
      split
      · rfl
      · rw [hz j (by omega), hN_ g hn hz (by omega) (by omega)]
    obtain ⟨i', l', a1, a2, a3, a4, a5⟩ := kY_ g hn m f ((m : Int) - 1) t _ rfl (by omega) (by omega) k1 (fun k hk => hN_ g hn hz (by omega) (by omega)) b5
    exact ⟨i', l', a1, a2.trans h2, a3, fun k hk => a4 k (by omega), a5⟩
theorem nj_ (h : Po p c) (g : Po q d) (hn : q.length = n + 1) (hB : RemB (d n).natAbs (d n).sign d n (p.length - n) c) : Po (ay_ p q) (remf (d n).natAbs (d n).sign d n (p.length - n) c) := by
  unfold ay_
  rw [h.nb, g.nb, show ((((q.length : Nat) : Int) == 0)) = false from beq_eq_false_iff_ne.2 (by omega), Bool.false_or, Bool.false_or, cond_false, List.nil_append, hn]
  have hl := h.l
  have go : ∀ i : Int, i = ((p.length : Nat) : Int) - 1 - (((n + 1 : Nat) : Int) - 1) → ∃ i' l', aL_ p q (p.length + 1) i p = .inl (i', l') ∧ l'.length = p.length ∧ (∀ j, l'.getD j I0 = E (Z.of (remf (d n).natAbs (d n).sign d n (p.length - n) c j))) ∧ (∀ k, p.length ≤ k → remf (d n).natAbs (d n).sign d n (p.length - n) c k = 0) ∧ ∀ k, B512 (remf (d n).natAbs (d n).sign d n (p.length - n) c k) := fun i hi => by
    by_cases hs : n ≤ p.length
    · exact kY_ g hn (p.length - n) (p.length + 1) i p c (by omega) (by omega) (Nat.le_refl _) h.get (fun k hk => h.zero hk) hB
    · have e0 : p.length - n = 0 := by omega
      rw [e0] at hB ⊢
      unfold aL_
      rw [decide_eq_false (by omega), cond_false]
      exact ⟨i, p, rfl, rfl, h.get, fun k hk => h.zero hk, h.B⟩
  obtain ⟨i', l', a1, a2, a3, a4, a5⟩ := go _ rfl
  rw [a1]
  show Po (ah_ l') _
  rw [k7_]
  exact nq_ a3 a5 fun k hk => a4 k (by omega)
end
end Go.Num

