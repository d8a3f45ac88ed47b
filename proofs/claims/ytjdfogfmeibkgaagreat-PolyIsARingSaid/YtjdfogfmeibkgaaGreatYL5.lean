/- Walks: what these functions return. Polynomials as functions from Nat: sums, products, values. No program stands in it. Polynomials: what the functions return, by coefficients, with their sizes. No program stands in it. What these functions compute, as plain functions. No program stands in it. -/
import Derived.Test.YtjdfogfmeibkgaaGreatYGE
import Derived.Test.YtjdfogfmeibkgaaGreatYFp
import Derived.Test.YtjdfogfmeibkgaaGreatYGa
import Derived.Test.YtjdfogfmeibkgaaGreatYLa
import Derived.Test.YtjdfogfmeibkgaaGreatYPb
import Derived.Test.YtjdfogfmeibkgaaGreatYYb
import Derived.Test.YtjdfogfmeibkgaaGreatYYc
import Derived.Test.YtjdfogfmeibkgaaGreatYYr
import Derived.Test.YtjdfogfmeibkgaaGreatYYf
import Derived.KernelRfl
namespace Go.Proofs.YtjdfogfmeibkgaaGreat
open Go.Kn Go.Num
set_option linter.unusedVariables false
set_option linter.unusedSimpArgs false
set_option maxRecDepth 20000
set_option maxHeartbeats 8000000
theorem cJ_ (a : Rt) (b : Int) (w : World)  :
    Calls Tryz.prog 52 [AV [pI a.n, pI a.d], .int .i64 b].toArray w (fun e w' => e = .returned (.bool (au_ a b)) ∧ Ext w w') := by
 refine aN_ (N := 21) Tryz.func52 rfl rfl (by simp) ?_
 obtain ⟨w0, rfl⟩ : ∃ w0, w0 = w := ⟨_, rfl⟩
 simp only [initF, Nat.reduceAdd]
 refine Rs fun K J => WL_r rfl (ci_ rfl rfl (fun b1 hb1 => sE rfl (nl J ?_)))
 refine bH_ [4, 5, 6, 7, 8, 9, 10, 11, 12, 13, 14, 15, 16, 17, 18, 19, 20] (fun g M => (g 4 = .bool ((ax_ a) && (decide ((Z.bitsW a.n.dec).1 ≤ b) && decide ((Z.bitsW a.d.dec).1 ≤ b)))) ∧ M = [⟨b1, 44, flat [pI a.n, pI a.d]⟩]) (fun K1 J1 => ?_) ?_
 ·skip
  refine Rk fun K J => sQ (qL ty_44 rfl m0 rfl) rfl (sQ (q_ret rg_ (fO_ a) rfl) rfl ?_)
  rcases bt (ax_ a) with h4 | h4
  ·skip
   refine sB h4 rfl (sQ (qF dl_ rfl rfl) rfl (sQ (qL ty_38 rfl m0 rfl) rfl (sC (.int .i64 ((Z.bitsW a.n.dec).1)) en_75 (du_ a.n.1 a.n.2) rfl rfl rfl (sE rfl (sE rfl (sE rfl ?_))))))
   rcases bt (decide ((Z.bitsW a.n.dec).1 ≤ b)) with h5 | h5
   ·skip
    have ph5 := of_decide_eq_true h5
    refine sB h5 rfl (sQ (qF cF_ rfl rfl) rfl (sQ (qL ty_38 rfl m0 rfl) rfl (sC (.int .i64 ((Z.bitsW a.d.dec).1)) en_75 (du_ a.d.1 a.d.2) rfl rfl rfl (sE rfl (sE rfl (sE rfl (sE rfl (nl J ?_))))))))
    refine J1 _ _ (by repeat first | exact .refl | refine .cons rfl ?_) ⟨_, s0, ?s4, rfl⟩
    case s4 => exact congrArg Value.bool (and_t h4 (and_t h5 rfl))
   ·skip
    have ph5 := of_decide_eq_false h5
    refine sB h5 rfl (WL_n rfl (WL_n rfl (WL_n rfl (WL_n rfl (WL_n rfl (sE rfl (sE rfl (nl J ?_))))))))
    refine J1 _ _ (by repeat first | exact .refl | refine .cons rfl ?_) ⟨_, s0, ?s4, rfl⟩
    case s4 => exact congrArg Value.bool (and_t h4 (and_f h5))
  ·skip
   refine sB h4 rfl (WL_n rfl (WL_n rfl (WL_n rfl (WL_n rfl (WL_n rfl (sE rfl (sE rfl (WL_n rfl (WL_n rfl (WL_n rfl (WL_n rfl (WL_n rfl (sE rfl (sE rfl (nl J ?_)))))))))))))))
   refine J1 _ _ (by repeat first | exact .refl | refine .cons rfl ?_) ⟨_, s0, ?s4, rfl⟩
   case s4 => exact congrArg Value.bool (and_f h4)
 ·skip
  rintro g6 M ⟨hg4, rfl⟩
  simp only [setG, hg4]
  clear hg4
  refine W_ret (ret1 rfl (.inr rfl) rfl ?_)
  exact (by rfl)

theorem hM_ (vp : Value) (p : (List I)) (vq : Value) (q : (List I)) (vs : Value) (s : (List I)) (x : Rt) (w : World) (hp : Slr w elI vp p) (hq : Slr w elI vq q) (hs : Slr w elI vs s) :
    Calls Tryz.prog 11 [vp, vq, vs, AV [pI x.n, pI x.d]].toArray w (fun e w' => e = .returned (.bool (b2_ p q s x)) ∧ Ext w w') := by
 obtain ⟨p_p, c_p, rfl⟩ := hp.form
 obtain ⟨p_q, c_q, rfl⟩ := hq.form
 obtain ⟨p_s, c_s, rfl⟩ := hs.form
 refine aN_ (N := 111) Tryz.func11 rfl rfl (by simp) ?_
 obtain ⟨w0, rfl⟩ : ∃ w0, w0 = w := ⟨_, rfl⟩
 have Hp := hp.old
 have hm_p := hp.max
 have Hq := hq.old
 have hm_q := hq.max
 have Hs := hs.old
 have hm_s := hs.max
 simp only [initF, Nat.reduceAdd]
 refine Rs fun K J => WL_r rfl (ci_ rfl rfl (fun b1 hb1 => sE rfl (nl J (Sq fun K1 J1 => ?_))))
 refine bH_ [12, 13, 14, 15, 16, 17, 18, 19, 20, 21, 22, 23, 24, 25, 26, 27, 28, 29] (fun g M => (g 29 = .bool (!(ag_ p 6 100) || (!(ag_ q 6 100) || (!(ag_ s 6 100) || (!(au_ x 20)))))) ∧ M = [⟨b1, 44, flat [pI x.n, pI x.d]⟩]) (fun K2 J2 => ?_) ?_
 ·skip
  refine Rk fun K J => sE rfl (sQ (q_as (v' := .bool (ag_ p 6 100)) (aB_ en_22 rfl (fun w hw => b1_ _ p 6 100 w (SLe.ap hw (SLe.sub Hp sn)) (by first | omega | (simp only [List.length_cons, List.length_nil, and_true, true_and] <;> omega) | simp))) rfl) rfl ?_)
  refine sE rfl ?_
  rcases bt (ag_ p 6 100) with h5 | h5
  ·skip
   refine sB (not_f h5) rfl (sE rfl (sQ (q_as (v' := .bool (ag_ q 6 100)) (aB_ en_22 rfl (fun w hw => b1_ _ q 6 100 w (SLe.ap hw (SLe.sub Hq sn)) (by first | omega | (simp only [List.length_cons, List.length_nil, and_true, true_and] <;> omega) | simp))) rfl) rfl ?_))
   refine sE rfl (sE rfl ?_)
   rcases bt (ag_ q 6 100) with h6 | h6
   ·skip
    refine sB (not_f h6) rfl (sE rfl (sQ (q_as (v' := .bool (ag_ s 6 100)) (aB_ en_22 rfl (fun w hw => b1_ _ s 6 100 w (SLe.ap hw (SLe.sub Hs sn)) (by first | omega | (simp only [List.length_cons, List.length_nil, and_true, true_and] <;> omega) | simp))) rfl) rfl ?_))
    refine sE rfl (sE rfl ?_)
    rcases bt (ag_ s 6 100) with h7 | h7
    ·skip
     refine sB (not_f h7) rfl (sQ (qL ty_44 rfl m0 rfl) rfl (sQ (q_as (v' := .bool (au_ x 20)) (aB_ en_52 rfl (fun w hw => cJ_ x 20 w)) rfl) rfl (sE rfl (sE rfl (nl J ?_)))))
     refine J2 _ _ (by repeat first | exact .refl | refine .cons rfl ?_) ⟨_, s0, ?s29, rfl⟩
     case s29 => exact congrArg Value.bool (nor_t h5 (nor_t h6 (nor_t h7 rfl)))
    ·skip
     refine sB (not_t h7) rfl (WL_n rfl (WL_n rfl (WL_n rfl (sE rfl (nl J ?_)))))
     refine J2 _ _ (by repeat first | exact .refl | refine .cons rfl ?_) ⟨_, s0, ?s29, rfl⟩
     case s29 => exact congrArg Value.bool (nor_t h5 (nor_t h6 (nor_f h7)))
   ·skip
    refine sB (not_t h6) rfl (WL_n rfl (WL_n rfl (WL_n rfl (sE rfl (sE rfl (WL_n rfl (WL_n rfl (WL_n rfl (sE rfl (nl J ?_))))))))))
    refine J2 _ _ (by repeat first | exact .refl | refine .cons rfl ?_) ⟨_, s0, ?s29, rfl⟩
    case s29 => exact congrArg Value.bool (nor_t h5 (nor_f h6))
  ·skip
   refine sB (not_t h5) rfl (WL_n rfl (WL_n rfl (WL_n rfl (sE rfl (sE rfl (WL_n rfl (WL_n rfl (WL_n rfl (sE rfl (sE rfl (WL_n rfl (WL_n rfl (WL_n rfl (sE rfl (nl J ?_)))))))))))))))
   refine J2 _ _ (by repeat first | exact .refl | refine .cons rfl ?_) ⟨_, s0, ?s29, rfl⟩
   case s29 => exact congrArg Value.bool (nor_f h5)
 ·skip
  rintro g8 M ⟨hg29, rfl⟩
  simp only [setG, hg29]
  clear hg29
  rcases bt (!(ag_ p 6 100) || (!(ag_ q 6 100) || (!(ag_ s 6 100) || (!(au_ x 20))))) with h9 | h9
  ·skip
   refine W_t h9 rfl (Rs fun K J => sQ (q_ret en_14 bY_  rfl) rfl (sE rfl (nl J (W_ret (ai_ (ret1 rfl (.inr rfl) rfl ?_))))))
   exact (by exact congrArg (fun r : Bool => (.bool r : Value)) (show _ = (b2_ p q s x) from bif_t h9 rfl))
  ·skip
   refine W_f h9 rfl (an_ (J1 _ _ ?_))
   obtain ⟨hRp, hLp⟩ := few_f (Bool.or_eq_false_iff.1 h9).1
   obtain ⟨hRq, hLq⟩ := few_f (Bool.or_eq_false_iff.1 (Bool.or_eq_false_iff.1 h9).2).1
   obtain ⟨hRs, hLs⟩ := few_f (Bool.or_eq_false_iff.1 (Bool.or_eq_false_iff.1 (Bool.or_eq_false_iff.1 h9).2).2).1
   refine bH_ [9, 31, 32, 33, 34, 35, 36, 37, 38, 39, 40, 41, 42, 43, 44, 45, 46] (fun g M => (g 9 = .bool ((ae_ (ak_ p q) (ak_ q p)) && (ae_ (ac_ p q) (ac_ q p)))) ∧ M = [⟨b1, 44, flat [pI x.n, pI x.d]⟩]) (fun K3 J3 => ?_) ?_
   ·skip
    refine Rk fun K J => sE rfl (sE rfl (WL_r rfl (at_ (E := 38) (e := elI) (l := (ak_ p q)) (fun v => v) en_42 rfl (fun w hw => dE_ _ p _ q w (SLe.ap hw (SLe.sub Hp sn)) (SLe.ap hw (SLe.sub Hq sn)) (by first | omega | (simp only [List.length_cons, List.length_nil, and_true, true_and] <;> omega) | simp)) (fun p43 c44 L45 hF46 => ?_))))
    have hb47 := (c2_ p q)
    refine sE rfl (sE rfl (WL_r rfl (at_ (E := 38) (e := elI) (l := (ak_ q p)) (fun v => v) en_42 rfl (fun w hw => dE_ _ q _ p w (SLe.ap hw (SLe.sub Hq sn)) (SLe.ap hw (SLe.sub Hp sn)) (by first | omega | (simp only [List.length_cons, List.length_nil, and_true, true_and] <;> omega) | simp)) (fun p48 c49 L50 hF51 => ?_))))
    have hb52 := (c2_ q p)
    refine sQ (q_as (v' := .bool (ae_ (ak_ p q) (ak_ q p))) (aB_ en_17 rfl (fun w hw => aA_ _ (ak_ p q) _ (ak_ q p) w (SLe.ap hw (SLfe.sle (OwnG.slfe hF46 (sR (List.sublist_append_left _ _))))) (SLe.ap hw (SLfe.sle (OwnG.slfe hF51 (List.sublist_append_left _ _)))))) rfl) rfl ?_
    rcases bt (ae_ (ak_ p q) (ak_ q p)) with h53 | h53
    ·skip
     refine sB h53 rfl (sE rfl (sE rfl (WL_r rfl (at_ (E := 38) (e := elI) (l := (ac_ p q)) (fun v => v) en_31 rfl (fun w hw => ce_ _ p _ q w (SLe.ap hw (SLe.sub Hp sn)) (SLe.ap hw (SLe.sub Hq sn)) (by first | omega | (simp only [List.length_cons, List.length_nil, and_true, true_and] <;> omega) | simp)) (fun p54 c55 L56 hF57 => ?_)))))
     have hb58 := (bO_ p q)
     have hr59 := (cj_ p q)
     refine sE rfl (sE rfl (WL_r rfl (at_ (E := 38) (e := elI) (l := (ac_ q p)) (fun v => v) en_31 rfl (fun w hw => ce_ _ q _ p w (SLe.ap hw (SLe.sub Hq sn)) (SLe.ap hw (SLe.sub Hp sn)) (by first | omega | (simp only [List.length_cons, List.length_nil, and_true, true_and] <;> omega) | simp)) (fun p60 c61 L62 hF63 => ?_))))
     have hb64 := (bO_ q p)
     have hr65 := (cj_ q p)
     refine sQ (q_as (v' := .bool (ae_ (ac_ p q) (ac_ q p))) (aB_ en_17 rfl (fun w hw => aA_ _ (ac_ p q) _ (ac_ q p) w (SLe.ap hw (SLfe.sle (OwnG.slfe hF57 (sR (List.sublist_append_left _ _))))) (SLe.ap hw (SLfe.sle (OwnG.slfe hF63 (List.sublist_append_left _ _)))))) rfl) rfl (sE rfl (sE rfl (nl J ?_)))
     refine J3 _ _ (by repeat first | exact .refl | refine .cons rfl ?_) ⟨_, (sR (sR (sR (sR (s0))))), ?s9, rfl⟩
     case s9 => exact congrArg Value.bool (and_t h53 rfl)
    ·skip
     refine sB h53 rfl (WL_n rfl (WL_n rfl (WL_n rfl (WL_n rfl (WL_n rfl (WL_n rfl (WL_n rfl (sE rfl (sE rfl (nl J ?_))))))))))
     refine J3 _ _ (by repeat first | exact .refl | refine .cons rfl ?_) ⟨_, (sR (sR (s0))), ?s9, rfl⟩
     case s9 => exact congrArg Value.bool (and_f h53)
   ·skip
    rintro g66 M ⟨hg9, rfl⟩
    simp only [setG, hg9]
    clear hg9
    refine bH_ [10, 47, 48, 49, 50, 51, 52, 53, 54, 55, 56, 57, 58, 59, 60, 61, 62, 63, 64, 65, 66, 67, 68, 69, 70, 71, 72] (fun g M => (g 10 = .bool ((ae_ (ac_ p (ak_ q s)) (ak_ (ac_ p q) (ac_ p s))) && (ae_ (ac_ (ac_ p q) s) (ac_ p (ac_ q s))))) ∧ M = [⟨b1, 44, flat [pI x.n, pI x.d]⟩]) (fun K4 J4 => ?_) ?_
    ·skip
     refine Rk fun K J => sE rfl (sE rfl (sE rfl (WL_r rfl (at_ (E := 38) (e := elI) (l := (ak_ q s)) (fun v => v) en_42 rfl (fun w hw => dE_ _ q _ s w (SLe.ap hw (SLe.sub Hq sn)) (SLe.ap hw (SLe.sub Hs sn)) (by first | omega | (simp only [List.length_cons, List.length_nil, and_true, true_and] <;> omega) | simp)) (fun p148 c149 L150 hF151 => ?_)))))
     have hb152 := (c2_ q s)
     refine WL_r rfl (at_ (E := 38) (e := elI) (l := (ac_ p (ak_ q s))) (fun v => v) en_31 rfl (fun w hw => ce_ _ p _ (ak_ q s) w (SLe.ap hw (SLe.sub Hp sn)) (SLe.ap hw (SLfe.sle (OwnG.slfe hF151 (List.sublist_append_left _ _)))) (by first | omega | (simp only [List.length_cons, List.length_nil, and_true, true_and] <;> omega) | simp)) (fun p153 c154 L155 hF156 => ?_))
     have hb157 := (bO_ p (ak_ q s))
     have hr158 := (cj_ p (ak_ q s))
     refine sE rfl (sE rfl (WL_r rfl (at_ (E := 38) (e := elI) (l := (ac_ p q)) (fun v => v) en_31 rfl (fun w hw => ce_ _ p _ q w (SLe.ap hw (SLe.sub Hp sn)) (SLe.ap hw (SLe.sub Hq sn)) (by first | omega | (simp only [List.length_cons, List.length_nil, and_true, true_and] <;> omega) | simp)) (fun p159 c160 L161 hF162 => ?_))))
     have hb163 := (bO_ p q)
     have hr164 := (cj_ p q)
     refine sE rfl (sE rfl (WL_r rfl (at_ (E := 38) (e := elI) (l := (ac_ p s)) (fun v => v) en_31 rfl (fun w hw => ce_ _ p _ s w (SLe.ap hw (SLe.sub Hp sn)) (SLe.ap hw (SLe.sub Hs sn)) (by first | omega | (simp only [List.length_cons, List.length_nil, and_true, true_and] <;> omega) | simp)) (fun p165 c166 L167 hF168 => ?_))))
     have hb169 := (bO_ p s)
     have hr170 := (cj_ p s)
     refine WL_r rfl (at_ (E := 38) (e := elI) (l := (ak_ (ac_ p q) (ac_ p s))) (fun v => v) en_42 rfl (fun w hw => dE_ _ (ac_ p q) _ (ac_ p s) w (SLe.ap hw (SLfe.sle (OwnG.slfe hF162 (sR (List.sublist_append_left _ _))))) (SLe.ap hw (SLfe.sle (OwnG.slfe hF168 (List.sublist_append_left _ _)))) (by first | omega | (simp only [List.length_cons, List.length_nil, and_true, true_and] <;> omega) | simp)) (fun p171 c172 L173 hF174 => ?_))
     have hb175 := (c2_ (ac_ p q) (ac_ p s))
     refine sQ (q_as (v' := .bool (ae_ (ac_ p (ak_ q s)) (ak_ (ac_ p q) (ac_ p s)))) (aB_ en_17 rfl (fun w hw => aA_ _ (ac_ p (ak_ q s)) _ (ak_ (ac_ p q) (ac_ p s)) w (SLe.ap hw (SLfe.sle (OwnG.slfe hF156 (sR (sR (sR (List.sublist_append_left _ _))))))) (SLe.ap hw (SLfe.sle (OwnG.slfe hF174 (List.sublist_append_left _ _)))))) rfl) rfl ?_
     rcases bt (ae_ (ac_ p (ak_ q s)) (ak_ (ac_ p q) (ac_ p s))) with h176 | h176
     ·skip
      refine sB h176 rfl (sE rfl (sE rfl (WL_r rfl (at_ (E := 38) (e := elI) (l := (ac_ p q)) (fun v => v) en_31 rfl (fun w hw => ce_ _ p _ q w (SLe.ap hw (SLe.sub Hp sn)) (SLe.ap hw (SLe.sub Hq sn)) (by first | omega | (simp only [List.length_cons, List.length_nil, and_true, true_and] <;> omega) | simp)) (fun p177 c178 L179 hF180 => ?_)))))
      have hb181 := (bO_ p q)
      have hr182 := (cj_ p q)
      refine sE rfl (WL_r rfl (at_ (E := 38) (e := elI) (l := (ac_ (ac_ p q) s)) (fun v => v) en_31 rfl (fun w hw => ce_ _ (ac_ p q) _ s w (SLe.ap hw (SLfe.sle (OwnG.slfe hF180 (List.sublist_append_left _ _)))) (SLe.ap hw (SLe.sub Hs sn)) (by first | omega | (simp only [List.length_cons, List.length_nil, and_true, true_and] <;> omega) | simp)) (fun p183 c184 L185 hF186 => ?_)))
      have hb187 := (bO_ (ac_ p q) s)
      have hr188 := (cj_ (ac_ p q) s)
      refine sE rfl (sE rfl (sE rfl (WL_r rfl (at_ (E := 38) (e := elI) (l := (ac_ q s)) (fun v => v) en_31 rfl (fun w hw => ce_ _ q _ s w (SLe.ap hw (SLe.sub Hq sn)) (SLe.ap hw (SLe.sub Hs sn)) (by first | omega | (simp only [List.length_cons, List.length_nil, and_true, true_and] <;> omega) | simp)) (fun p189 c190 L191 hF192 => ?_)))))
      have hb193 := (bO_ q s)
      have hr194 := (cj_ q s)
      refine WL_r rfl (at_ (E := 38) (e := elI) (l := (ac_ p (ac_ q s))) (fun v => v) en_31 rfl (fun w hw => ce_ _ p _ (ac_ q s) w (SLe.ap hw (SLe.sub Hp sn)) (SLe.ap hw (SLfe.sle (OwnG.slfe hF192 (List.sublist_append_left _ _)))) (by first | omega | (simp only [List.length_cons, List.length_nil, and_true, true_and] <;> omega) | simp)) (fun p195 c196 L197 hF198 => ?_))
      have hb199 := (bO_ p (ac_ q s))
      have hr200 := (cj_ p (ac_ q s))
      refine sQ (q_as (v' := .bool (ae_ (ac_ (ac_ p q) s) (ac_ p (ac_ q s)))) (aB_ en_17 rfl (fun w hw => aA_ _ (ac_ (ac_ p q) s) _ (ac_ p (ac_ q s)) w (SLe.ap hw (SLfe.sle (OwnG.slfe hF186 (sR (sR (List.sublist_append_left _ _)))))) (SLe.ap hw (SLfe.sle (OwnG.slfe hF198 (List.sublist_append_left _ _)))))) rfl) rfl (sE rfl (sE rfl (nl J ?_)))
      refine J4 _ _ (by repeat first | exact .refl | refine .cons rfl ?_) ⟨_, (sR (sR (sR (sR (sR (sR (sR (sR (sR (s0)))))))))), ?s10, rfl⟩
      case s10 => exact congrArg Value.bool (and_t h176 rfl)
     ·skip
      refine sB h176 rfl (WL_n rfl (WL_n rfl (WL_n rfl (WL_n rfl (WL_n rfl (WL_n rfl (WL_n rfl (WL_n rfl (WL_n rfl (WL_n rfl (WL_n rfl (sE rfl (sE rfl (nl J ?_))))))))))))))
      refine J4 _ _ (by repeat first | exact .refl | refine .cons rfl ?_) ⟨_, (sR (sR (sR (sR (sR (s0)))))), ?s10, rfl⟩
      case s10 => exact congrArg Value.bool (and_f h176)
    ·skip
     rintro g201 M ⟨hg10, rfl⟩
     simp only [setG, hg10]
     clear hg10
     refine bH_ [11, 73, 74, 75, 76, 77, 78, 79, 80, 81, 82, 83, 84, 85, 86, 87, 88, 89, 90, 91, 92, 93, 94, 95, 96, 97, 98, 99, 100] (fun g M => (g 11 = .bool ((decide (((ah_ (ac_ p q) x).n) = ((aO_ (ah_ p x) (ah_ q x)).n)) && decide (((ah_ (ac_ p q) x).d) = ((aO_ (ah_ p x) (ah_ q x)).d))) && (decide (((ah_ (ak_ p q) x).n) = ((a6_ (ah_ p x) (ah_ q x)).n)) && decide (((ah_ (ak_ p q) x).d) = ((a6_ (ah_ p x) (ah_ q x)).d))))) ∧ M = [⟨b1, 44, flat [pI x.n, pI x.d]⟩]) (fun K5 J5 => ?_) ?_
     ·skip
      refine dr s0 [0,4,12,20,24,32,36,9,16,28,40,44,48,52,56,60,68,76,80,88,92,65,72,84,96,100,104,108,112] [] mix (by kernel_rfl) (fun K J => pE rfl (pE rfl (pQ rfl (qL ty_44 rfl m0 rfl) (pE rfl (pQ rfl (qL ty_44 rfl m0 rfl) (pE rfl (pQ rfl (qL ty_44 rfl m0 rfl) (PL_o rfl rfl (at_ (E := 38) (e := elI) (l := (ac_ p q)) (fun v => v) en_31 rfl (fun w hw => ce_ _ p _ q w (SLe.ap hw (SLe.sub Hp sn)) (SLe.ap hw (SLe.sub Hq sn)) (by first | omega | (simp only [List.length_cons, List.length_nil, and_true, true_and] <;> omega) | simp)) (fun p221 c222 L223 hF224 => ⟨(fun _ => sR s0), (sR s0), ?_⟩))))))))))
      have hb225 := (bO_ p q)
      have hr226 := (cj_ p q)
      refine pQ rfl (q_as (v' := AV [pI ((ah_ (ac_ p q) x).n), pI ((ah_ (ac_ p q) x).d)]) (aB_ en_40 rfl (fun w hw => cY_ _ (ac_ p q) x w (SLe.ap hw (SLfe.sle (OwnG.slfe hF224 (List.sublist_append_left _ _)))) (by first | omega | (simp only [List.length_cons, List.length_nil, and_true, true_and] <;> omega) | simp))) rfl) ?_
      refine pQ rfl (q_as (v' := AV [pI ((ah_ p x).n), pI ((ah_ p x).d)]) (aB_ en_40 rfl (fun w hw => cY_ _ p x w (SLe.ap hw (SLe.sub Hp sn)) (by first | omega | (simp only [List.length_cons, List.length_nil, and_true, true_and] <;> omega) | simp))) rfl) ?_
      refine pQ rfl (q_as (v' := AV [pI ((ah_ q x).n), pI ((ah_ q x).d)]) (aB_ en_40 rfl (fun w hw => cY_ _ q x w (SLe.ap hw (SLe.sub Hq sn)) (by first | omega | (simp only [List.length_cons, List.length_nil, and_true, true_and] <;> omega) | simp))) rfl) ?_
      refine pQ rfl (q_ret en_53 (gR_ (ah_ p x) (ah_ q x)) rfl) ?_
      refine pQ rfl (fJ_ (r := (decide (((ah_ (ac_ p q) x).n) = ((aO_ (ah_ p x) (ah_ q x)).n)) && decide (((ah_ (ac_ p q) x).d) = ((aO_ (ah_ p x) (ah_ q x)).d)))) rfl rfl (dr_ 8 (by decide) eg_44 lw_44 (fW_ lv_pI (dP_ lv_pI)) (fW_ lv_pI (dP_ lv_pI)) (hS_ rfl eq_pI (eV_ eq_pI)))) ?_
      rcases bt (decide (((ah_ (ac_ p q) x).n) = ((aO_ (ah_ p x) (ah_ q x)).n)) && decide (((ah_ (ac_ p q) x).d) = ((aO_ (ah_ p x) (ah_ q x)).d))) with h227 | h227
      ·skip
       refine pB h227 rfl (pE rfl (pE rfl (pQ rfl (qL ty_44 rfl (List.mem_append_right _ (List.mem_cons_self)) rfl) (pE rfl (pQ rfl (qL ty_44 rfl (List.mem_append_right _ (List.mem_cons_self)) rfl) (pE rfl (pQ rfl (qL ty_44 rfl (List.mem_append_right _ (List.mem_cons_self)) rfl) (PL_o rfl rfl (at_ (E := 38) (e := elI) (l := (ak_ p q)) (fun v => v) en_42 rfl (fun w hw => dE_ _ p _ q w (SLe.ap hw (SLe.sub Hp sn)) (SLe.ap hw (SLe.sub Hq sn)) (by first | omega | (simp only [List.length_cons, List.length_nil, and_true, true_and] <;> omega) | simp)) (fun p228 c229 L230 hF231 => ⟨(fun _ => sR s0), (sR (sR s0)), ?_⟩))))))))))
       have hb232 := (c2_ p q)
       refine pQ rfl (q_as (v' := AV [pI ((ah_ (ak_ p q) x).n), pI ((ah_ (ak_ p q) x).d)]) (aB_ en_40 rfl (fun w hw => cY_ _ (ak_ p q) x w (SLe.ap hw (SLfe.sle (OwnG.slfe hF231 (List.sublist_append_left _ _)))) (by first | omega | (simp only [List.length_cons, List.length_nil, and_true, true_and] <;> omega) | simp))) rfl) ?_
       refine pQ rfl (q_as (v' := AV [pI ((ah_ p x).n), pI ((ah_ p x).d)]) (aB_ en_40 rfl (fun w hw => cY_ _ p x w (SLe.ap hw (SLe.sub Hp sn)) (by first | omega | (simp only [List.length_cons, List.length_nil, and_true, true_and] <;> omega) | simp))) rfl) ?_
       refine pQ rfl (q_as (v' := AV [pI ((ah_ q x).n), pI ((ah_ q x).d)]) (aB_ en_40 rfl (fun w hw => cY_ _ q x w (SLe.ap hw (SLe.sub Hq sn)) (by first | omega | (simp only [List.length_cons, List.length_nil, and_true, true_and] <;> omega) | simp))) rfl) ?_
       refine pQ rfl (q_ret en_54 (fA_ (ah_ p x) (ah_ q x)) rfl) ?_
       refine pQ rfl (fJ_ (r := (decide (((ah_ (ak_ p q) x).n) = ((a6_ (ah_ p x) (ah_ q x)).n)) && decide (((ah_ (ak_ p q) x).d) = ((a6_ (ah_ p x) (ah_ q x)).d)))) rfl rfl (dr_ 8 (by decide) eg_44 lw_44 (fW_ lv_pI (dP_ lv_pI)) (fW_ lv_pI (dP_ lv_pI)) (hS_ rfl eq_pI (eV_ eq_pI)))) (pE rfl (pE rfl (fl J ?_)))
       refine J5 _ _ (by repeat first | exact .refl | refine .cons rfl ?_) ⟨_, (sR (sR (s0))), ?s11, rfl⟩
       case s11 => exact congrArg Value.bool (and_t h227 rfl)
      ·skip
       refine pB h227 rfl (PL_n rfl rfl (PL_n rfl rfl (PL_n rfl rfl (PL_n rfl rfl (PL_n rfl rfl (PL_n rfl rfl (PL_n rfl rfl (PL_on rfl rfl (PL_n rfl rfl (PL_n rfl rfl (PL_n rfl rfl (PL_n rfl rfl (PL_n rfl rfl (pE rfl (pE rfl (fl J ?_))))))))))))))))
       refine J5 _ _ (by repeat first | exact .refl | refine .cons rfl ?_) ⟨_, (sR (s0)), ?s11, rfl⟩
       case s11 => exact congrArg Value.bool (and_f h227)
     ·skip
      rintro g233 M ⟨hg11, rfl⟩
      simp only [setG, hg11]
      clear hg11
      refine bH_ [8, 101, 102, 103, 104, 105, 106, 107, 108, 109, 110] (fun g M => (g 8 = .bool (aJ_ && (((ae_ (ak_ p q) (ak_ q p)) && (ae_ (ac_ p q) (ac_ q p))) && (((ae_ (ac_ p (ak_ q s)) (ak_ (ac_ p q) (ac_ p s))) && (ae_ (ac_ (ac_ p q) s) (ac_ p (ac_ q s)))) && ((decide (((ah_ (ac_ p q) x).n) = ((aO_ (ah_ p x) (ah_ q x)).n)) && decide (((ah_ (ac_ p q) x).d) = ((aO_ (ah_ p x) (ah_ q x)).d))) && (decide (((ah_ (ak_ p q) x).n) = ((a6_ (ah_ p x) (ah_ q x)).n)) && decide (((ah_ (ak_ p q) x).d) = ((a6_ (ah_ p x) (ah_ q x)).d)))))))) ∧ M = [⟨b1, 44, flat [pI x.n, pI x.d]⟩]) (fun K6 J6 => ?_) ?_
      ·skip
       refine Rk fun K J => sQ (q_ret en_14 bY_  rfl) rfl ?_
       rcases bt aJ_ with h237 | h237
       ·skip
        refine sB h237 rfl (sE rfl (sE rfl ?_))
        rcases bt ((ae_ (ak_ p q) (ak_ q p)) && (ae_ (ac_ p q) (ac_ q p))) with h238 | h238
        ·skip
         refine sB h238 rfl (sE rfl (sE rfl ?_))
         rcases bt ((ae_ (ac_ p (ak_ q s)) (ak_ (ac_ p q) (ac_ p s))) && (ae_ (ac_ (ac_ p q) s) (ac_ p (ac_ q s)))) with h239 | h239
         ·skip
          refine sB h239 rfl (sE rfl (sE rfl (sE rfl (nl J ?_))))
          refine J6 _ _ (by repeat first | exact .refl | refine .cons rfl ?_) ⟨_, s0, ?s8, rfl⟩
          case s8 => exact congrArg Value.bool (and_t h237 (and_t h238 (and_t h239 rfl)))
         ·skip
          refine sB h239 rfl (WL_n rfl (sE rfl (sE rfl (nl J ?_))))
          refine J6 _ _ (by repeat first | exact .refl | refine .cons rfl ?_) ⟨_, s0, ?s8, rfl⟩
          case s8 => exact congrArg Value.bool (and_t h237 (and_t h238 (and_f h239)))
        ·skip
         refine sB h238 rfl (WL_n rfl (sE rfl (sE rfl (WL_n rfl (sE rfl (sE rfl (nl J ?_)))))))
         refine J6 _ _ (by repeat first | exact .refl | refine .cons rfl ?_) ⟨_, s0, ?s8, rfl⟩
         case s8 => exact congrArg Value.bool (and_t h237 (and_f h238))
       ·skip
        refine sB h237 rfl (WL_n rfl (sE rfl (sE rfl (WL_n rfl (sE rfl (sE rfl (WL_n rfl (sE rfl (sE rfl (nl J ?_))))))))))
        refine J6 _ _ (by repeat first | exact .refl | refine .cons rfl ?_) ⟨_, s0, ?s8, rfl⟩
        case s8 => exact congrArg Value.bool (and_f h237)
      ·skip
       rintro g240 M ⟨hg8, rfl⟩
       simp only [setG, hg8]
       clear hg8
       refine W_ret (ret1 rfl (.inr rfl) rfl ?_)
       exact (by exact congrArg (fun r : Bool => (.bool r : Value)) (show _ = (b2_ p q s x) from bif_f h9 rfl))
end Go.Proofs.YtjdfogfmeibkgaaGreat


set_option linter.unusedVariables false
set_option linter.unusedSimpArgs false
namespace Go.Num
class Rg (α : Type) [Add α] [Mul α] [OfNat α 0] : Prop where
  aa : ∀ a b c : α, a + b + c = a + (b + c)
  ac : ∀ a b : α, a + b = b + a
  a0 : ∀ a : α, a + 0 = a
  ma : ∀ a b c : α, a * b * c = a * (b * c)
  mc : ∀ a b : α, a * b = b * a
  md : ∀ a b c : α, a * (b + c) = a * b + a * c
  m0 : ∀ a : α, a * 0 = 0
instance : Rg Int := ⟨Int.add_assoc, Int.add_comm, Int.add_zero, Int.mul_assoc, Int.mul_comm, Int.mul_add, Int.mul_zero⟩
instance : Rg Rat := ⟨Rat.add_assoc, Rat.add_comm, Rat.add_zero, Rat.mul_assoc, Rat.mul_comm, Rat.mul_add, Rat.mul_zero⟩
theorem Rg.za {α : Type} [Add α] [Mul α] [OfNat α 0] [Rg α] (a : α) : 0 + a = a := by rw [Rg.ac, Rg.a0]
theorem Rg.zm {α : Type} [Add α] [Mul α] [OfNat α 0] [Rg α] (a : α) : 0 * a = 0 := by rw [Rg.mc, Rg.m0]
/-- The sum of the first n values. -/
def sumN {α : Type} [Add α] [OfNat α 0] (f : Nat → α) : Nat → α
  | 0 => 0
  | n + 1 => sumN f n + f n
theorem cg_ {α : Type} [Add α] [OfNat α 0] {f g : Nat → α} : ∀ {n : Nat}, (∀ i, i < n → f i = g i) → sumN f n = sumN g n
  | 0, _ => rfl
  | n + 1, h => by simp only [sumN]; rw [cg_ fun i hi => h i (by omega), h n (by omega)]
theorem dz_ {α : Type} [Add α] [Mul α] [OfNat α 0] [Rg α] {f : Nat → α} : ∀ {n : Nat}, (∀ i, i < n → f i = 0) → sumN f n = 0
  | 0, _ => rfl
  | n + 1, h => by simp only [sumN]; rw [dz_ fun i hi => h i (by omega), h n (by omega), Rg.a0]
theorem hT_ {α : Type} [Add α] [Mul α] [OfNat α 0] [Rg α] (f g : Nat → α) : ∀ n : Nat, sumN (fun i => f i + g i) n = sumN f n + sumN g n
  | 0 => (Rg.a0 _).symm
  | n + 1 => by
    simp only [sumN]
    rw [hT_ f g n, Rg.aa, Rg.aa, ← Rg.aa (sumN g n), Rg.ac (sumN g n) (f n), Rg.aa]
theorem fI_ {α : Type} [Add α] [Mul α] [OfNat α 0] [Rg α] (c : α) (f : Nat → α) : ∀ n : Nat, sumN (fun i => c * f i) n = c * sumN f n
  | 0 => (Rg.m0 _).symm
  | n + 1 => by simp only [sumN]; rw [fI_ c f n, Rg.md]
theorem h6_ {α : Type} [Add α] [Mul α] [OfNat α 0] [Rg α] (c : α) (f : Nat → α) (n : Nat) : sumN (fun i => f i * c) n = sumN f n * c := by
  rw [Rg.mc _ c, ← fI_]; exact cg_ fun i _ => Rg.mc _ _
theorem hj_ {α : Type} [Add α] [Mul α] [OfNat α 0] [Rg α] (f : Nat → α) : ∀ n : Nat, sumN f (n + 1) = f 0 + sumN (fun i => f (i + 1)) n
  | 0 => by simp only [sumN]; rw [Rg.ac]
  | n + 1 => by rw [sumN, hj_ f n, Rg.aa]; rfl
theorem k7_ {α : Type} [Add α] [Mul α] [OfNat α 0] [Rg α] (f : Nat → α) : ∀ n : Nat, sumN f n = sumN (fun i => f (n - 1 - i)) n
  | 0 => rfl
  | n + 1 => by
    rw [hj_ (fun i => f (n + 1 - 1 - i)), sumN, Rg.ac, k7_ f n]
    rw [show n + 1 - 1 - 0 = n by omega]
    congr 1
    exact cg_ fun i hi => congrArg f (by omega)
theorem eP_ {α : Type} [Add α] [Mul α] [OfNat α 0] [Rg α] {f : Nat → α} {n : Nat} (h : ∀ i, n ≤ i → f i = 0) : ∀ m : Nat, n ≤ m → sumN f m = sumN f n
  | 0, hm => by rw [show n = 0 by omega]
  | m + 1, hm => by
    rcases Nat.lt_or_ge n (m + 1) with g | g
    · rw [sumN, h m (by omega), Rg.a0, eP_ h m (by omega)]
    · rw [show n = m + 1 by omega]
theorem lK_ {α : Type} [Add α] [Mul α] [OfNat α 0] [Rg α] {f : Nat → α} {a : Nat} (h : ∀ i, i ≠ a → f i = 0) {n : Nat} (hn : a < n) : sumN f n = f a := by
  rw [eP_ (n := a + 1) (fun i hi => h i (by omega)) n hn, sumN, dz_ fun i hi => h i (by omega), Rg.za]
theorem jt_ {α : Type} [Add α] [Mul α] [OfNat α 0] [Rg α] (f : Nat → Nat → α) : ∀ n : Nat, sumN (fun k => sumN (fun i => f i (k - i)) (k + 1)) n = sumN (fun i => sumN (fun j => f i j) (n - i)) n
  | 0 => rfl
  | n + 1 => by
    rw [sumN, jt_ f n]
    rw [cg_ (f := fun i => sumN (fun j => f i j) (n + 1 - i)) (g := fun i => sumN (fun j => f i j) (n - i) + f i (n - i)) (fun i hi => by
      rw [show n + 1 - i = n - i + 1 by omega]; rfl)]
    rw [hT_]
    congr 1
    rw [sumN, Nat.sub_self, sumN, Rg.a0]
/-- The coefficients of a product. -/
def conv {α : Type} [Add α] [Mul α] [OfNat α 0] (c d : Nat → α) (k : Nat) : α := sumN (fun i => c i * d (k - i)) (k + 1)
theorem g6_ {α : Type} [Add α] [Mul α] [OfNat α 0] [Rg α] (c d : Nat → α) : conv c d = conv d c := by
  funext k
  unfold conv
  rw [k7_]
  refine cg_ fun i hi => ?_
  rw [Rg.mc, show k - (k + 1 - 1 - i) = i by omega, show k + 1 - 1 - i = k - i by omega]
theorem l0_ {α : Type} [Add α] [Mul α] [OfNat α 0] [Rg α] (c d e : Nat → α) : conv c (fun i => d i + e i) = fun k => conv c d k + conv c e k := by
  funext k
  unfold conv
  rw [← hT_]
  exact cg_ fun i _ => Rg.md _ _ _
theorem oE_ {α : Type} [Add α] [Mul α] [OfNat α 0] [Rg α] (a : α) (c d : Nat → α) : conv (fun i => a * c i) d = fun k => a * conv c d k := by
  funext k
  unfold conv
  rw [← fI_]
  exact cg_ fun i _ => Rg.ma _ _ _
theorem li_ {α : Type} [Add α] [Mul α] [OfNat α 0] [Rg α] (a : α) (c d : Nat → α) : conv c (fun i => a * d i) = fun k => a * conv c d k := by
  rw [g6_, oE_, g6_]
theorem ml_ {α : Type} [Add α] [Mul α] [OfNat α 0] [Rg α] (c d e : Nat → α) : conv (conv c d) e = conv c (conv d e) := by
  funext k
  unfold conv
  have h := jt_ (fun j m => c j * (d m * e (k - j - m))) (k + 1)
  refine Eq.trans (cg_ fun i hi => ?_) (h.trans (cg_ fun i hi => ?_))
  · rw [← h6_]
    refine cg_ fun j hj => ?_
    rw [Rg.ma, show k - j - (i - j) = k - i by omega]
  · rw [fI_, show k + 1 - i = k - i + 1 by omega]
theorem iq_ {α : Type} [Add α] [Mul α] [OfNat α 0] [Rg α] {c d : Nat → α} {n m : Nat} (hc : ∀ i, n ≤ i → c i = 0) (hd : ∀ i, m ≤ i → d i = 0) (k : Nat) (hk : n + m ≤ k + 1) : conv c d k = 0 := by
  refine dz_ fun i hi => ?_
  rcases Nat.lt_or_ge i n with h | h
  · rw [hd _ (by omega), Rg.m0]
  · rw [hc _ h, Rg.zm]
theorem lR_ {α : Type} [Add α] [Mul α] [OfNat α 0] [Rg α] {c d : Nat → α} {n m : Nat} (hc : ∀ i, n < i → c i = 0) (hd : ∀ i, m < i → d i = 0) : conv c d (n + m) = c n * d m := by
  unfold conv
  rw [lK_ (a := n) (fun i hi => ?_) (by omega), show n + m - n = m by omega]
  rcases Nat.lt_or_ge n i with h | h
  · rw [hc _ h, Rg.zm]
  · rw [hd _ (by omega), Rg.m0]
end Go.Num


set_option linter.unusedVariables false
set_option linter.unusedSimpArgs false
namespace Go.Num
open Go Go.Kn
theorem I0_E : I0 = E (Z.of 0) := rfl
theorem vI0 : vI I0 = 0 := vI_E B0
theorem sm_ {u v : Int} (hu : B512 u) (hv : B512 v) : Z.sub (Z.of u) (Z.of v) = Z.of (u - v) := by
  rw [Z.sub, pG_ hv, iV_ hu (show (-v).natAbs < _ by rw [Int.natAbs_neg]; exact hv), Int.sub_eq_add_neg]
theorem n5_ {u : Int} (hu : B512 u) : Z.abs (Z.of u) = Z.of (u.natAbs : Nat) := by rw [Z.abs, de_ (Z.of_some hu)]
/-- p is the right polynomial with the coefficients c. -/
structure Po (p : List I) (c : Nat → Int) : Prop where
  g : p.all gdI = true
  s : strip p = p
  l : p.length ≤ 25
  c : ∀ k, vI (p.getD k I0) = c k
section
variable {p q : List I} {c d : Nat → Int}
theorem pw_ (h : Rgt p) (hg : p.all gdI = true) : Po p (fun k => vI (p.getD k I0)) := by
  rcases h with rfl | h
  · rw [a9_] at hg; cases hg
  · exact ⟨h.1, h.2.1, h.2.2, fun _ => rfl⟩
theorem nG_ (h : p.all gdI = true) (k : Nat) : gdI (p.getD k I0) = true := by
  by_cases hk : k < p.length
  · rw [show p.getD k I0 = p[k] by simp [List.getD, hk]]
    exact List.all_eq_true.1 h _ (List.getElem_mem hk)
  · rw [ed_ (by omega)]; exact gd_E B0
theorem Po.get (h : Po p c) (k : Nat) : p.getD k I0 = E (Z.of (c k)) := by rw [← h.c k]; exact (gd_eq (nG_ h.g k)).1
theorem Po.B (h : Po p c) (k : Nat) : B512 (c k) := by rw [← h.c k]; exact (gd_eq (nG_ h.g k)).2
theorem Po.zero (h : Po p c) {k : Nat} (hk : p.length ≤ k) : c k = 0 := by rw [← h.c k, ed_ hk, vI0]
theorem Po.last (h : Po p c) {n : Nat} (hn : p.length = n + 1) : c n ≠ 0 := by
  rcases d8_ p with rfl | ⟨m, x, rfl⟩
  · cases hn
  · have h1 := g9_ h.s
    have h2 : n = m.length := by simp at hn; omega
    have h3 := h.get n
    rw [show (m ++ [x]).getD n I0 = x by simp [h2]] at h3
    rw [h3, zr_E (h.B n)] at h1
    exact of_decide_eq_false h1
theorem Po.short (h : Po p c) {n : Nat} (hz : ∀ k, n ≤ k → c k = 0) : p.length ≤ n := by
  rcases Nat.lt_or_ge n p.length with g | g
  · exact absurd (hz (p.length - 1) (by omega)) (h.last (by omega))
  · exact g
theorem Po.eq (h : Po p c) (g : Po q c) : p = q := by
  have e : p.length = q.length := Nat.le_antisymm (h.short fun k hk => g.zero hk) (g.short fun k hk => h.zero hk)
  refine List.ext_getElem e fun k h1 h2 => ?_
  have a := h.get k
  rw [← g.get k] at a
  simpa [List.getD, h1, h2] using a
theorem Po.cast (h : Po p c) (e : ∀ k, c k = d k) : Po p d := ⟨h.g, h.s, h.l, fun k => (h.c k).trans (e k)⟩
theorem nx_ : Po [] (fun _ => 0) := ⟨rfl, rfl, by decide, fun k => by rw [show ([] : List I).getD k I0 = I0 by simp]; exact vI0⟩
theorem Po.nil (h : Po p c) (hz : ∀ k, c k = 0) : p = [] := (h.cast hz).eq nx_
theorem hE_ : ∀ (n : Nat) (l : List I), l.length ≤ n → ∀ k, (strip l).length ≤ k → zrI (l.getD k I0) = true
  | 0, l, h, k, _ => by
    rw [ed_ (by omega)]; exact zr0
  | n + 1, l, h, k, hk => by
    rcases d8_ l with rfl | ⟨m, x, rfl⟩
    · rw [show ([] : List I).getD k I0 = I0 by simp]; exact zr0
    · rw [d7_] at hk
      cases hx : zrI x
      · rw [hx, cond_false] at hk
        rw [ed_ hk]; exact zr0
      · rw [hx, cond_true] at hk
        rcases Nat.lt_trichotomy k m.length with g | g | g
        · rw [show (m ++ [x]).getD k I0 = m.getD k I0 by simp [List.getD, List.getElem?_append_left g]]
          exact hE_ n m (by simp at h; omega) k hk
        · rw [show (m ++ [x]).getD k I0 = x by simp [g]]; exact hx
        · rw [ed_ (by simp; omega)]; exact zr0
theorem lL_ {l : List I} (h : ∀ k, l.getD k I0 = E (Z.of (c k))) (hB : ∀ k, B512 (c k)) (hz : ∀ k, 25 ≤ k → c k = 0) : Po (mkP l) c := by
  have hg : l.all gdI = true := List.all_eq_true.2 fun x hx => by
    obtain ⟨k, hk, rfl⟩ := List.getElem_of_mem hx
    have e := h k
    rw [show l.getD k I0 = l[k] by simp [List.getD, hk]] at e
    rw [e]; exact gd_E (hB k)
  have hl : (strip l).length ≤ 25 := gw_ _ l (Nat.le_refl _) fun j hj => by rw [h j, hz j hj]; exact zr0
  have e : mkP l = strip l := by unfold mkP; rw [hg, cond_true, if_pos hl]
  rw [e]
  refine ⟨j8_ hg, i7_ l, hl, fun k => ?_⟩
  by_cases hk : k < (strip l).length
  · have e2 : (strip l).getD k I0 = l.getD k I0 := by
      rw [e7_ l]
      simp only [List.getD, List.getElem?_take, hk, if_true]
    rw [e2, h k, vI_E (hB k)]
  · have := hE_ _ l (Nat.le_refl _) k (by omega)
    rw [h k, zr_E (hB k)] at this
    rw [ed_ (by omega), vI0, of_decide_eq_true this]
theorem oy_ (f : Nat → I) (n k : Nat) : ((List.range n).map f).getD k I0 = if k < n then f k else I0 := by
  by_cases h : k < n <;> simp [List.getD, h]
theorem p9_ {f : Nat → I} {n : Nat} (h : ∀ k, k < n → f k = E (Z.of (c k))) (h0 : ∀ k, n ≤ k → c k = 0) (hB : ∀ k, B512 (c k)) (hz : ∀ k, 25 ≤ k → c k = 0) : Po (mkP ((List.range n).map f)) c := by
  refine lL_ (fun k => ?_) hB hz
  rw [oy_]
  split
  · exact h k ‹_›
  · rw [h0 k (by omega)]; rfl
theorem Po.l3 (h : Po p c) : p.length ≤ 1000 := Nat.le_trans h.l (by decide)
theorem h1_ (h : Rgt p) : p.length ≤ 1000 := Nat.le_trans (nW_ h) (by decide)
theorem Po.nb (h : Po p c) : ad_ p = false := by rw [eU_ h.l3, h.g]; rfl
theorem mZ_ {e : Nat → Int} {f : I → I → I} (h : Po p c) (g : Po q d) (hf : ∀ k, f (E (Z.of (c k))) (E (Z.of (d k))) = E (Z.of (e k))) (hB : ∀ k, B512 (e k)) (h0 : ∀ k, c k = 0 → d k = 0 → e k = 0) : Po (bw_ p q f) e := by
  rw [gA_ f h.l3 g.l3, h.g, g.g, Bool.and_true, cond_true]
  have hl := h.l
  have gl := g.l
  refine p9_ (fun k _ => ?_) (fun k hk => ?_) hB (fun k hk => ?_)
  · rw [h.get, g.get, hf]
  · exact h0 k (h.zero (by omega)) (g.zero (by omega))
  · exact h0 k (h.zero (by omega)) (g.zero (by omega))
theorem pL_ (h : Po p c) (g : Po q d) (hB : ∀ k, B512 (c k + d k)) : Po (ak_ p q) (fun k => c k + d k) :=
  mZ_ h g (fun k => by rw [E_dec, E_dec, iV_ (h.B k) (g.B k)]) hB (fun k h1 h2 => by rw [h1, h2]; rfl)
theorem oj_ {a : Int} (h : Po p c) (ha : B512 a) (hB : ∀ k, B512 (c k * a)) : Po (c1_ p (E (Z.of a))) (fun k => c k * a) := by
  unfold c1_
  rw [show dn_ (E (Z.of a)) = true from gd_E ha, cond_true]
  exact mZ_ h nx_ (fun k => by unfold dp_; rw [E_dec, E_dec, ee_ (h.B k) ha]) hB (fun k h1 _ => by rw [h1, Int.zero_mul])
theorem pM_ (h : Po p c) (g : Po q d) (k : Nat) (hs : ∀ t, B512 (sumN (fun i => c i * d (k - i)) t)) (hm : ∀ i j, B512 (c i * d j)) :
    ∀ (t i : Nat), k + 1 - i < t → i ≤ k + 1 → (b7_ k q p t i (E (Z.of (sumN (fun i => c i * d (k - i)) i)))).2 = E (Z.of (conv c d k))
  | 0, i, ht, _ => absurd ht (Nat.not_lt_zero _)
  | t + 1, i, ht, hi => by
    unfold b7_
    have e : ∀ a b, a ≤ b → p.length ≤ a → sumN (fun i => c i * d (k - i)) b = sumN (fun i => c i * d (k - i)) a := fun a b hab hpa =>
      eP_ (fun j hj => by rw [h.zero (by omega), Int.zero_mul]) b hab
    by_cases hk : ((i : Nat) : Int) ≤ min ((k : Nat) : Int) (((p.length : Nat) : Int) - 1)
    · rw [decide_eq_true hk, cond_true, h.get, g.get, E_dec, E_dec, E_dec, ee_ (h.B _) (g.B _), iV_ (hs _) (hm _ _)]
      exact pM_ h g k hs hm t (i + 1) (by omega) (by omega)
    · rw [decide_eq_false hk, cond_false]
      show E (Z.of _) = E (Z.of (sumN _ (k + 1)))
      rcases Nat.lt_or_ge i (k + 1) with h1 | h1
      · rw [← e i (k + 1) (by omega) (by omega)]
      · rw [show i = k + 1 by omega]
theorem r5_ (h : Po p c) (g : Po q d) (hs : ∀ k t, B512 (sumN (fun i => c i * d (k - i)) t)) (hm : ∀ i j, B512 (c i * d j)) (hl : p.length + q.length ≤ 26) : Po (ac_ p q) (conv c d) := by
  unfold ac_
  rw [h.nb, g.nb, Bool.or_false, cond_false]
  by_cases h0 : p = []
  · subst h0
    rw [show ((((([] : List I).length : Nat) : Int) == 0) || (((q.length : Nat) : Int) == 0)) = true by simp, cond_true]
    exact nx_.cast fun k => Eq.symm (dz_ fun i _ => by rw [h.zero (Nat.zero_le _), Int.zero_mul])
  · by_cases g0 : q = []
    · subst g0
      rw [show ((((p.length : Nat) : Int) == 0) || (((([] : List I).length : Nat) : Int) == 0)) = true by simp, cond_true]
      refine nx_.cast fun k => Eq.symm (dz_ fun i _ => ?_)
      rw [g.zero (Nat.zero_le _), Int.mul_zero]
    · have h1 : 0 < p.length := List.length_pos_iff.2 h0
      have h2 : 0 < q.length := List.length_pos_iff.2 g0
      rw [show ((((p.length : Nat) : Int) == 0) || (((q.length : Nat) : Int) == 0)) = false by
        rw [Bool.or_eq_false_iff]; exact ⟨beq_eq_false_iff_ne.2 (by omega), beq_eq_false_iff_ne.2 (by omega)⟩, cond_false, fG_]
      have hz : ∀ k, p.length + q.length ≤ k + 1 → conv c d k = 0 := fun k hk => iq_ (fun i hi => h.zero hi) (fun i hi => g.zero hi) k hk
      refine p9_ (fun k _ => ?_) (fun k hk => hz k (by omega)) (fun k => hs k (k + 1)) (fun k hk => hz k (by omega))
      unfold dg_
      show (b7_ _ _ _ _ _ _).2 = _
      rw [show I0 = E (Z.of (sumN (fun i => c i * d (k - i)) (((k : Nat) : Int) - ((q.length : Nat) : Int) + 1).toNat)) by
        rw [dz_ fun i hi => by rw [g.zero (by omega), Int.mul_zero]]; rfl]
      exact pM_ h g k (hs k) hm _ _ (by omega) (by omega)
theorem qI_ {v : Int} {k : Nat} (m : Nat) (hm : 4294967296 ^ 16 = 2 ^ m) (h : v.natAbs < 2 ^ k) (hk : k ≤ m) : B512 v := by
  unfold B512
  rw [hm]
  exact Nat.lt_of_lt_of_le h (Nat.pow_le_pow_right (by decide) hk)
theorem ec_ {v : Int} {k : Nat} (h : v.natAbs < 2 ^ k) (hk : k ≤ 512) : B512 v := qI_ 512 nB_ h hk
/-- At most n coefficients, of at most b bits. -/
structure Bd (c : Nat → Int) (n b : Nat) : Prop where
  z : ∀ k, n ≤ k → c k = 0
  b : ∀ k, (c k).natAbs < 2 ^ b
variable {n m b b' : Nat}
theorem Bd.mono (h : Bd c n b) {n' b1 : Nat} (hn : n ≤ n') (hb : b ≤ b1) : Bd c n' b1 := ⟨fun k hk => h.z k (by omega), fun k => Nat.lt_of_lt_of_le (h.b k) (Nat.pow_le_pow_right (by decide) hb)⟩
theorem Bd.B (h : Bd c n b) (hb : b ≤ 512) (k : Nat) : B512 (c k) := ec_ (h.b k) hb
theorem Bd.add (h : Bd c n b) (g : Bd d m b) : Bd (fun k => c k + d k) (max n m) (b + 1) :=
  ⟨fun k hk => by show c k + d k = 0; rw [h.z k (by omega), g.z k (by omega)]; rfl, fun k => by
    show (c k + d k).natAbs < _
    have h1 := h.b k
    have h2 := g.b k
    have h3 := Int.natAbs_add_le (c k) (d k)
    rw [Nat.pow_succ]; omega⟩
theorem fa_ {u v : Int} (h : u.natAbs < 2 ^ b) (g : v.natAbs < 2 ^ b') : (u * v).natAbs < 2 ^ (b + b') := by
  rw [Int.natAbs_mul, Nat.pow_add]
  exact Nat.mul_lt_mul_of_lt_of_le h (Nat.le_of_lt g) (Nat.pow_pos (by decide))
theorem pk_ {f : Nat → Int} {A : Nat} (h : ∀ i, (f i).natAbs ≤ A) : ∀ t : Nat, (sumN f t).natAbs ≤ t * A
  | 0 => by simp [sumN]
  | t + 1 => by
    have h1 := pk_ h t
    have h2 := h t
    have h3 := Int.natAbs_add_le (sumN f t) (f t)
    rw [Nat.succ_mul]; show (sumN f t + f t).natAbs ≤ _; omega
theorem o2_ {f : Nat → Int} {e : Nat} (h : ∀ i, (f i).natAbs < 2 ^ b) (hz : ∀ i, n ≤ i → f i = 0) (hn : n ≤ 2 ^ e) (t : Nat) : (sumN f t).natAbs < 2 ^ (b + e) := by
  have hb : 0 < 2 ^ b := Nat.pow_pos (by decide)
  have k1 : ∀ t, t ≤ n → (sumN f t).natAbs < 2 ^ (b + e) := fun t ht => by
    have h1 := pk_ (f := f) (A := 2 ^ b - 1) (fun i => by have := h i; omega) t
    have h2 : t * (2 ^ b - 1) ≤ 2 ^ e * (2 ^ b - 1) := Nat.mul_le_mul_right _ (by omega)
    have h3 : 2 ^ e * (2 ^ b - 1) < 2 ^ e * 2 ^ b := Nat.mul_lt_mul_of_pos_left (by omega) (Nat.pow_pos (by decide))
    rw [Nat.pow_add, Nat.mul_comm (2 ^ b)]; omega
  rcases Nat.lt_or_ge n t with g | g
  · rw [eP_ hz t (by omega)]; exact k1 n (Nat.le_refl _)
  · exact k1 t g
theorem kv_ (h : Bd c n b) (g : Bd d m b') {e : Nat} (hn : n ≤ 2 ^ e) (k t : Nat) : (sumN (fun i => c i * d (k - i)) t).natAbs < 2 ^ (b + b' + e) :=
  o2_ (n := n) (fun i => fa_ (h.b _) (g.b _)) (fun i hi => by rw [h.z i hi, Int.zero_mul]) hn t
theorem Bd.conv (h : Bd c n b) (g : Bd d m b') {e : Nat} (hn : n ≤ 2 ^ e) : Bd (conv c d) (n + m - 1) (b + b' + e) :=
  ⟨fun k hk => iq_ h.z g.z k (by omega), fun k => kv_ h g hn k (k + 1)⟩
theorem Po.len (h : Po p c) (hb : Bd c n b) : p.length ≤ n := h.short hb.z
theorem fM_ (h : Po p c) (g : Po q d) (hb : Bd c n b) (gb : Bd d m b') {e : Nat} (hn : n ≤ 2 ^ e) (hl : n + m ≤ 26) (hk : b + b' + e ≤ 512) : Po (ac_ p q) (conv c d) :=
  r5_ h g (fun k t => ec_ (kv_ hb gb hn k t) hk) (fun i j => ec_ (fa_ (hb.b i) (gb.b j)) (by omega)) (by have := h.len hb; have := g.len gb; omega)
theorem iP_ (h : Po p c) (g : Po q d) (hb : Bd c n b) (gb : Bd d m b) (hk : b + 1 ≤ 512) : Po (ak_ p q) (fun k => c k + d k) :=
  pL_ h g fun k => ec_ ((hb.add gb).b k) hk
theorem kK_ {v : Int} (hv : B512 v) {b : Int} (h : (Z.bitsW (Z.of v)).1 ≤ b) : v.natAbs < 2 ^ b.toNat := by
  have h1 : ((Z.of v).bits : Int) ≤ b := h
  unfold Z.bits at h1
  rw [Z.of_some hv] at h1
  simp only at h1
  exact Nat.lt_of_lt_of_le (bl_lt _) (Nat.pow_le_pow_right (by decide) (by omega))
theorem lT_ (p : List I) (a b : Int) : ∀ (k i : Nat), p.length - i < k → (sm (fun _ : Nat => true) (fun r => r) (bJ_ p a b k i)) = true → ∀ j, i ≤ j → j < p.length → (Z.bitsW (p.getD j I0).dec).1 ≤ b
  | 0, i, h, _, _, _, _ => absurd h (Nat.not_lt_zero _)
  | k + 1, i, h, hs, j, hj, hl => by
    unfold bJ_ at hs
    rw [decide_eq_true (show ((i : Nat) : Int) < ((p.length : Nat) : Int) by omega), cond_true] at hs
    by_cases hb : b < (Z.bitsW (p.getD i I0).dec).1
    · rw [decide_eq_true hb] at hs; cases hs
    · rw [decide_eq_false hb, cond_false] at hs
      rcases Nat.lt_or_ge i j with g | g
      · exact lT_ p a b k (i + 1) (by omega) hs j (by omega) hl
      · rw [show j = i by omega]; omega
theorem cS_ {a b : Int} (h : ag_ p a b = true) (hg : p.all gdI = true) : ∃ c, Po p c ∧ Bd c (a + 1).toNat b.toNat := by
  have h1 := few_f (p := p) (d := a) (b := b) (by rw [h]; rfl)
  have h2 := j1_ h
  have hp := pw_ h1.1 hg
  refine ⟨_, hp, fun k hk => hp.zero (by omega), fun k => ?_⟩
  by_cases hk : k < p.length
  · unfold ag_ at h
    rw [h2.1, decide_eq_false (by omega)] at h
    have h3 := lT_ p a b _ 0 (by omega) h k (by omega) hk
    rw [hp.get k, E_dec] at h3
    exact kK_ (hp.B k) h3
  · show (vI (p.getD k I0)).natAbs < _
    rw [ed_ (by omega), vI0]; exact Nat.pow_pos (by decide)
theorem eS_ (hp : p.length ≤ 1000) (hq : q.length ≤ 1000) (h : p.all gdI = false ∨ q.all gdI = false) : ak_ p q = badp := by
  unfold ak_
  rw [gA_ _ hp hq, show (p.all gdI && q.all gdI) = false by rcases h with h | h <;> simp [h]]; rfl
theorem cU_ (hp : p.length ≤ 1000) (hq : q.length ≤ 1000) (h : p.all gdI = false ∨ q.all gdI = false) : ac_ p q = badp := by
  unfold ac_
  rw [eU_ hp, eU_ hq, show (!p.all gdI || !q.all gdI) = true by rcases h with h | h <;> simp [h]]; rfl
end
end Go.Num

set_option linter.unusedVariables false
set_option linter.unusedSimpArgs false
namespace Go.Num
open Go Go.Kn
end Go.Num

