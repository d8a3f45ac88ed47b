/- Walks: what these functions return. Polynomials: lengths of greatest ev_ divisors and compositions. No program stands in it. The specification of rational arithmetic, where a seat does not hold it. No program stands in it. Rational numbers: the program's and the reference's functions are the same; what they compute of fractions. No program stands in it. Polynomials: values of coefficients, contents, and how long a greatest ev_ divisor is. No program stands in it. Polynomials: the program's and the reference's greatest ev_ divisors. No program stands in it. -/
import Derived.Test.YtjdfogfmeibkgaaGreatQGE
import Derived.Test.YtjdfogfmeibkgaaGreatQFp
import Derived.Test.YtjdfogfmeibkgaaGreatQGf
import Derived.Test.YtjdfogfmeibkgaaGreatQYb
import Derived.Test.YtjdfogfmeibkgaaGreatQYc
import Derived.Test.YtjdfogfmeibkgaaGreatQPb
import Derived.Test.YtjdfogfmeibkgaaGreatQYr
import Derived.Test.YtjdfogfmeibkgaaGreatQYl
import Derived.KernelRfl
namespace Go.Proofs.YtjdfogfmeibkgaaGreat
open Go.Kn Go.Num
set_option linter.unusedVariables false
set_option linter.unusedSimpArgs false
set_option maxRecDepth 20000
set_option maxHeartbeats 8000000
theorem d9_ (vp : Value) (p : (List I)) (vq : Value) (q : (List I)) (w : World) (hp : Slr w elI vp p) (hq : Slr w elI vq q) (hpre : p.length ≤ 100 ∧ q.length ≤ 100) :
    Calls Tryz.prog 27 [vp, vq].toArray w (fun e w' => ∃ v, e = .returned (v) ∧ Ext w w' ∧ Slo w.heap.size w' 38 elI v (ac_ p q)) := by
 obtain ⟨p_p, c_p, rfl⟩ := hp.form
 obtain ⟨p_q, c_q, rfl⟩ := hq.form
 refine bs_ (n := 28) (fun v => v) Tryz.func27 rfl rfl (by simp) ?_
 obtain ⟨w0, rfl⟩ : ∃ w0, w0 = w := ⟨_, rfl⟩
 have Hp := hp.old
 have hm_p := hp.max
 have Hq := hq.old
 have hm_q := hq.max
 simp only [initF, Nat.reduceAdd]
 refine Rs fun K J => sE rfl (nl J (Rs fun K J => sE rfl (WL_r rfl (an_ (E := 38) (e := elI) (l := (ab_ p)) (fun v => v) en_25 rfl (fun w hw => bM_ _ p w (SLe.ap hw (SLe.sub Hp sn)) (by first | omega | (simp only [List.length_cons, List.length_nil, and_true, true_and] <;> omega) | simp)) (fun p1 c2 L3 hF4 => ?_)))))
 have hb5 := (ay_ p)
 refine sE rfl (WL_r rfl (an_ (E := 38) (e := elI) (l := (ab_ q)) (fun v => v) en_25 rfl (fun w hw => bM_ _ q w (SLe.ap hw (SLe.sub Hq sn)) (by first | omega | (simp only [List.length_cons, List.length_nil, and_true, true_and] <;> omega) | simp)) (fun p6 c7 L8 hF9 => ?_)))
 have hb10 := (ay_ q)
 refine sE rfl (sE rfl (nl J ?_))
 refine bD_ [4, 5, 6, 11, 12, 13, 14, 15, 16, 17, 18, 19, 20, 21, 22, 23, 24, 25] (fun g M => ∃ (a : List I) (b : List I) (p_a : Option Addr) (c_a : Nat) (L_a : List Blk) (p_b : Option Addr) (c_b : Nat) (L_b : List Blk), (aQ_ p q ((gmP (ab_ q) + 1)) (ab_ p) (ab_ q)) = .inl (a, b) ∧ (a.length ≤ 25) ∧ (g 5 = .slice p_a a.length c_a ∧ g 6 = .slice p_b b.length c_b ∧ OwnG w0 38 elI (.slice p_a a.length c_a) a L_a ∧ OwnG w0 38 elI (.slice p_b b.length c_b) b L_b) ∧ M = (L_b ++ (L_a ++ []))) (fun K_u11 hK_u11 => ?_) ?_
 ·skip
  refine aq_ ?_
  refine aL_ [4, 5, 6, 11, 12, 13, 14, 15, 16, 17, 18, 19, 20, 21, 22, 23, 24, 25] (fun g nn M => ∃ (a : List I) (b : List I) (p_a : Option Addr) (c_a : Nat) (L_a : List Blk) (p_b : Option Addr) (c_b : Nat) (L_b : List Blk), (aQ_ p q nn a b) = (aQ_ p q ((gmP (ab_ q) + 1)) (ab_ p) (ab_ q)) ∧ gmP b < nn ∧ (a.length ≤ 25 ∧ b.length ≤ 25) ∧ (g 5 = .slice p_a a.length c_a ∧ g 6 = .slice p_b b.length c_b ∧ OwnG w0 38 elI (.slice p_a a.length c_a) a L_a ∧ OwnG w0 38 elI (.slice p_b b.length c_b) b L_b) ∧ M = (L_b ++ (L_a ++ []))) ((gmP (ab_ q) + 1)) ?start ?round
  case start => exact ⟨_, s0, (ab_ p), (ab_ q), p1, c2, L3, p6, c7, L8, rfl, (Nat.lt_succ_self _), ⟨ay_ _, ay_ _⟩, ⟨rfl, rfl, hF4, hF9⟩, rfl⟩
  case round =>
   rintro nn g M ⟨a, b, p_a, c_a, L_a, p_b, c_b, L_b, hT0, hq0, hinv0, ⟨hg5, hg6, hO_a, hO_b⟩, rfl⟩
   obtain ⟨k0, rfl⟩ : ∃ m, nn = m + 1 := ⟨nn - 1, by omega⟩
   simp only [setG, hg5, hg6]
   clear hg5 hg6
   have hm_a := OwnG.max hO_a
   have hm_b := OwnG.max hO_b
   refine Sq fun K7 J7 => Rs fun K J => sE rfl (sQ (q_as (v' := .int .i64 (((b).length : Nat) : Int)) (aS_ (e := elI) sl_24 rfl (SLfe.sle (OwnG.slfe hO_b (List.sublist_append_left _ _)))) rfl) rfl (sE rfl (nl J ?_)))
   rcases bt (decide (0 < (((b).length : Nat) : Int))) with h50 | h50
   ·skip
    have ph50 := of_decide_eq_true h50
    refine W_t h50 rfl (am_ (J7 _ _ (aq_ (Sq fun K8 J8 => ?_))))
    refine bD_ [14, 15, 16, 17, 18, 19] (fun g M => (g 19 = .bool ((ae_ a) || (ae_ b))) ∧ M = (L_b ++ (L_a ++ []))) (fun K9 J9 => ?_) ?_
    ·skip
     refine Rk fun K J => sE rfl (sQ (q_as (v' := .bool (ae_ a)) (aH_ en_18 rfl (fun w hw => aC_ _ a w (SLe.ap hw (SLfe.sle (OwnG.slfe hO_a (sR (List.sublist_append_left _ _))))))) rfl) rfl ?_)
     rcases bt (ae_ a) with h52 | h52
     ·skip
      refine sB h52 rfl (WL_n rfl (WL_n rfl (sE rfl (nl J ?_))))
      refine J9 _ _ (by repeat first | exact .refl | refine .cons rfl ?_) ⟨_, s0, ?s19, rfl⟩
      case s19 => exact congrArg Value.bool (or_t h52)
     ·skip
      refine sB h52 rfl (sE rfl (sQ (q_as (v' := .bool (ae_ b)) (aH_ en_18 rfl (fun w hw => aC_ _ b w (SLe.ap hw (SLfe.sle (OwnG.slfe hO_b (List.sublist_append_left _ _)))))) rfl) rfl (sE rfl (nl J ?_))))
      refine J9 _ _ (by repeat first | exact .refl | refine .cons rfl ?_) ⟨_, s0, ?s19, rfl⟩
      case s19 => exact congrArg Value.bool (or_f h52 rfl)
    ·skip
     rintro g53 M ⟨hg19, rfl⟩
     simp only [setG, hg19]
     clear hg19
     rcases bt ((ae_ a) || (ae_ b)) with h54 | h54
     ·skip
      refine W_t h54 rfl (Rs fun K J => WL_r rfl (an_ (E := 38) (e := elI) (l := F_poly_bad) (fun v => v) en_76 rfl (fun w hw => bO_  w) (fun p55 c56 L57 hF58 => sE rfl (nl J (W_ret (aj_ (aX_ (aj_ (aX_ (aj_ (ret1 rfl (.inr rfl) rfl ?_)))))))))))
      have hE : (F_poly_bad : (List I)) = (ac_ p q) := by exact (sm_q rfl (hT0.symm.trans (Eq.symm (bif_t h50 (bif_t h54 rfl)))))
      rw [← hE]
      exact ⟨_, rfl, ⟨L57, (List.sublist_append_left _ _), hF58⟩⟩
     ·skip
      refine W_f h54 rfl (am_ (J8 _ _ (Rk fun K J => sE rfl (sE rfl (sE rfl (WL_r rfl (an_ (E := 38) (e := elI) (l := (ao_ a b)) (fun v => v) en_23 rfl (fun w hw => cO_ _ a _ b w (SLe.ap hw (SLfe.sle (OwnG.slfe hO_a (sR (List.sublist_append_left _ _))))) (SLe.ap hw (SLfe.sle (OwnG.slfe hO_b (List.sublist_append_left _ _)))) (by first | omega | (simp only [List.length_cons, List.length_nil, and_true, true_and] <;> omega) | simp)) (fun p59 c60 L61 hF62 => ?_))))))))
      have hb63 := (cn_ a b)
      refine WL_r rfl (an_ (E := 38) (e := elI) (l := (ab_ (ao_ a b))) (fun v => v) en_25 rfl (fun w hw => bM_ _ (ao_ a b) w (SLe.ap hw (SLfe.sle (OwnG.slfe hF62 (List.sublist_append_left _ _)))) (by first | omega | (simp only [List.length_cons, List.length_nil, and_true, true_and] <;> omega) | simp)) (fun p64 c65 L66 hF67 => ?_))
      have hb68 := (ay_ (ao_ a b))
      refine sE rfl (sE rfl (nl J (⟨(by repeat first | exact .refl | refine .cons rfl ?_), _, _, (sA (sR (sA (sR (s0))))), (Nat.lt_succ_self _), b, (ab_ (ao_ a b)), p_b, c_b, L_b, p64, c65, L66, (by exact (hT0.symm.trans (Eq.symm (bif_t h50 (bif_f h54 rfl)))).symm), (Nat.lt_of_lt_of_le (kh_ hinv0 h54 h50) (Nat.le_of_lt_succ hq0)), ⟨hinv0.2, ay_ _⟩, ⟨rfl, rfl, hO_b, hF67⟩, rfl⟩)))
   ·skip
    have ph50 := of_decide_eq_false h50
    refine W_f h50 rfl (bw_ (ap_ (ap_ (as_ (hK_u11 _ _ (by repeat first | exact .refl | refine .cons rfl ?_) ⟨_, s0, a, b, p_a, c_a, L_a, p_b, c_b, L_b, (by exact hT0.symm.trans (Eq.symm (bif_f h50 rfl))), hinv0.1, ⟨rfl, rfl, hO_a, hO_b⟩, rfl⟩)))))
 ·skip
  rintro g M ⟨a, b, p_a, c_a, L_a, p_b, c_b, L_b, hCu11, hPu11, ⟨hg5, hg6, hO_a, hO_b⟩, rfl⟩
  simp only [setG, hg5, hg6]
  clear hg5 hg6
  have hm_a := OwnG.max hO_a
  have hm_b := OwnG.max hO_b
  refine Rs fun K J => sE rfl (WL_r rfl (r_inl en_91 Tryz.func91 rfl rfl rfl (Nat.le_of_ble_eq_true rfl) ?_))
  refine Rs fun Kd1 Jd1 => sE rfl (eK_ (Jd1 _ _ (Sq fun K10 J10 => ?_)))
  refine bD_ [3, 4, 5, 6, 7, 8, 9, 10, 11, 12, 13, 14, 15] (fun g M => (g 15 = .bool (((((a).length : Nat) : Int) == 0) || decide (0 < (Z.signW (a.getD ((a).length - 1) I0).dec).1))) ∧ M = (L_b ++ (L_a ++ []))) (fun K11 J11 => ?_) ?_
  ·skip
   refine Rk fun Kd1 Jd1 => sE rfl (sQ (q_as (v' := .int .i64 (((a).length : Nat) : Int)) (aS_ (e := elI) sl_24 rfl (SLfe.sle (OwnG.slfe hO_a (sR (List.sublist_append_left _ _))))) rfl) rfl (sE rfl ?_))
   rcases bt ((((a).length : Nat) : Int) == 0) with h70 | h70
   ·skip
    have ph70 := ea_ h70
    refine sB h70 rfl (WL_n rfl (WL_n rfl (WL_n rfl (WL_n rfl (WL_n rfl (WL_n rfl (WL_n rfl (WL_n rfl (sE rfl (eK_ (Jd1 _ _ ?_)))))))))))
    refine J11 _ _ (by repeat first | exact .refl | refine .cons rfl ?_) ⟨_, s0, ?s15, rfl⟩
    case s15 => exact congrArg Value.bool (or_t h70)
   ·skip
    have ph70 := c9_ h70
    refine sB h70 rfl (sE rfl (sE rfl (sQ (q_as (v' := .int .i64 (((a).length : Nat) : Int)) (aS_ (e := elI) sl_24 rfl (SLfe.sle (OwnG.slfe hO_a (sR (List.sublist_append_left _ _))))) rfl) rfl (sV (.int .i64 ((((a).length : Nat) : Int) - 1)) rfl (congrArg (Value.int .i64) (wx (by omega) (by omega) (by omega))) (sQ (q_as (v' := .pointer (some (slb (.slice p_a a.length c_a) (((a).length - 1) * 18 + 0)))) (c4_ (e := elI) (l := a) (k := ((a).length - 1)) sl_24 rfl rfl (by omega) (SLfe.sle (OwnG.slfe hO_a (sR (List.sublist_append_left _ _)))) (by first | omega | (simp only [List.length_set, List.length_append, List.length_cons, List.length_nil]; omega))) rfl) rfl ?_)))))
    refine sQ (q_ldG (e := elI) (l := a) (k := ((a).length - 1)) (o := 0) ty_38 rfl (SLfe.sle (OwnG.slfe hO_a (sR (List.sublist_append_left _ _)))) (aA_ I0 (by first | omega | (simp only [List.length_set, List.length_append, List.length_cons, List.length_nil]; omega))) rfl) rfl ?_
    refine sC (.int .i64 ((Z.signW (a.getD ((a).length - 1) I0).dec).1)) en_32 (bK_ (a.getD ((a).length - 1) I0).1 (a.getD ((a).length - 1) I0).2) rfl rfl rfl (sE rfl (sE rfl (eK_ (Jd1 _ _ ?_))))
    refine J11 _ _ (by repeat first | exact .refl | refine .cons rfl ?_) ⟨_, s0, ?s15, rfl⟩
    case s15 => exact congrArg Value.bool (or_f h70 rfl)
  ·skip
   rintro g71 M ⟨hg15, rfl⟩
   simp only [setG, hg15]
   clear hg15
   rcases bt (((((a).length : Nat) : Int) == 0) || decide (0 < (Z.signW (a.getD ((a).length - 1) I0).dec).1)) with h72 | h72
   ·skip
    refine W_t h72 rfl (Rs fun Kd1 Jd1 => sE rfl (sE rfl (eK_ (Jd1 _ _ (W_ret (aj_ (ret1 rfl (.inr rfl) rfl ?_)))))))
    refine sE rfl (nl J (W_ret (ret1 rfl (.inr rfl) rfl ?_)))
    have hE : (a : (List I)) = (ac_ p q) := by exact trs (Eq.symm (smS hCu11)) (bif_t h72 rfl)
    rw [← hE]
    exact ⟨_, rfl, ⟨L_a, (sR (List.sublist_append_left _ _)), hO_a⟩⟩
   ·skip
    have ph73 := c9_ (Bool.or_eq_false_iff.1 h72).1
    have ph74 := of_decide_eq_false (Bool.or_eq_false_iff.1 h72).2
    refine W_f h72 rfl (am_ (J10 _ _ (Rs fun Kd1 Jd1 => sE rfl (WL_r rfl (an_ (E := 38) (e := elI) (l := (bl_ ([] : List I) a (fun (y : I) (z : I) => (E (Z.sub y.dec z.dec))))) (fun v => v) en_86 rfl (fun w hw => eo_ _ ([] : List I) _ a _ (fun (y : I) (z : I) => (E (Z.sub y.dec z.dec))) w (SLe.ap hw (SLfe.sle SLfe.nil)) (SLe.ap hw (SLfe.sle (OwnG.slfe hO_a (sR (List.sublist_append_left _ _))))) (FnV.mk hw en_78 (fun w hw x hx => (dg_ x.1.1 x.2.1 x.1.2 x.2.2) w)) (by first | omega | (simp only [List.length_cons, List.length_nil, and_true, true_and] <;> omega) | simp)) (fun p75 c76 L77 hF78 => ?_))))))
    refine sE rfl (eK_ (Jd1 _ _ (W_ret (ret1 rfl (.inr rfl) rfl ?_))))
    refine sE rfl (nl J (W_ret (ret1 rfl (.inr rfl) rfl ?_)))
    have hE : ((bl_ ([] : List I) a (fun (y : I) (z : I) => (E (Z.sub y.dec z.dec)))) : (List I)) = (ac_ p q) := by exact trs (Eq.symm (smS hCu11)) (bif_f h72 rfl)
    rw [← hE]
    exact ⟨_, rfl, ⟨L77, (List.sublist_append_left _ _), hF78⟩⟩

end Go.Proofs.YtjdfogfmeibkgaaGreat


set_option linter.unusedVariables false
set_option linter.unusedSimpArgs false
namespace Go.Num
open Go Go.Kn
theorem fW_ (p : List I) (a b : Rt) : ∀ (k : Nat) (r : List I) (i : Int), r.length ≤ 25 → (bA_ p a b k r i).1.length ≤ 25
  | 0, r, i, h => h
  | k + 1, r, i, h => by
    unfold bA_
    cases decide (0 ≤ i)
    · exact h
    · exact fW_ p a b k _ _ (gX_ _ _)
theorem f2_ (p : List I) (a b : Rt) : (bC_ p a b).length ≤ 25 := eV_ dL_ (fW_ p a b _ _ _ (Nat.zero_le _))
theorem c0_ (p : List I) (a b : Rt) : (bi_ p a b).length ≤ 25 := ay_ _
theorem mT_ (p q : List I) : ∀ (k : Nat) (a b y : List I), aQ_ p q k a b = .inr y → y = badp
  | 0, a, b, y, h => by cases h
  | k + 1, a, b, y, h => by
    unfold aQ_ at h
    cases h1 : decide (0 < ((b.length : Nat) : Int))
    · rw [h1] at h; cases h
    · rw [h1] at h
      cases h2 : (ae_ a || ae_ b)
      · rw [h2] at h; exact mT_ p q k _ _ _ h
      · rw [h2] at h; exact (Sum.inr.inj h).symm
theorem m0_ (p q : List I) : ∀ (k : Nat) (a b : List I) (s : List I × List I), a.length ≤ 25 → b.length ≤ 25 → aQ_ p q k a b = .inl s → s.1.length ≤ 25
  | 0, a, b, s, ha, hb, h => by cases h; exact ha
  | k + 1, a, b, s, ha, hb, h => by
    unfold aQ_ at h
    cases h1 : decide (0 < ((b.length : Nat) : Int))
    · rw [h1] at h; cases h; exact ha
    · rw [h1] at h
      cases h2 : (ae_ a || ae_ b)
      · rw [h2] at h; exact m0_ p q k _ _ _ hb (ay_ _) h
      · rw [h2] at h; cases h
theorem dC_ (p q : List I) : (ac_ p q).length ≤ 25 := by
  unfold ac_
  cases h : aQ_ p q (gmP (ab_ q) + 1) (ab_ p) (ab_ q) with
  | inl s => exact eV_ (m0_ p q _ _ _ s (ay_ _) (ay_ _) h) (eq_ _ _ _)
  | inr y => rw [mT_ p q _ _ _ _ h]; exact dL_
end Go.Num


set_option linter.unusedVariables false
set_option linter.unusedSimpArgs false
namespace Go.Num
open Go Go.Kn
end Go.Num

set_option linter.unusedVariables false
set_option linter.unusedSimpArgs false
namespace Go.Num
open Go Go.Kn
abbrev B512 (v : Int) : Prop := v.natAbs < 4294967296 ^ 16
theorem mN_ {x : I} (h : x.1.good = true) : E x.dec = x := Subtype.ext (ph_ x.2 h)
theorem qE_ {x : I} (h : x.1.good = true) : ∃ v : Int, B512 v ∧ x = E (Z.of v) := by
  have h1 := bg_ x.2 h
  refine ⟨_, x.dec.h _ h1, ?_⟩
  rw [← Z.eq_of h1]; exact (mN_ h).symm
theorem oX_ {v : Int} (h : B512 v) : (E (Z.of v)).1.good = true := by
  show (Z.of v).enc.good = true
  rw [Z.enc_good, Z.of_some h]; rfl
theorem rb_ {v : Int} (h : B512 v) : (E (Z.of v)).1.bad = false := by
  have := oX_ h; unfold R.good at this; simp only [Bool.and_eq_true, Bool.not_eq_true'] at this; exact this.1
theorem pO_ {v : Int} (h : B512 v) : (Z.of v).sign = v.sign := by unfold Z.sign; rw [Z.of_some h]
theorem gy_ {v : Int} (h : B512 v) : (Z.signW (Z.of v)).1 = v.sign := pO_ h
theorem qW_ {u v : Int} (hu : B512 u) (hv : B512 v) : Z.gcd (Z.of u) (Z.of v) = Z.of (Int.gcd u v) := by rw [Z.gcd, bp_ (Z.of_some hu) (Z.of_some hv)]
theorem o9_ {u v : Int} (hu : B512 u) (hv : B512 v) (h : v ≠ 0) : Z.quo (Z.of u) (Z.of v) = Z.of (u.fdiv v) := by rw [Z.quo, bp_ (Z.of_some hu) (Z.of_some hv), if_neg h]
theorem id_ {u v : Int} (hu : B512 u) (hv : B512 v) : Z.mul (Z.of u) (Z.of v) = Z.of (u * v) := by rw [Z.mul, bp_ (Z.of_some hu) (Z.of_some hv)]
theorem lz_ {u v : Int} (hu : B512 u) (hv : B512 v) : Z.add (Z.of u) (Z.of v) = Z.of (u + v) := by rw [Z.add, bp_ (Z.of_some hu) (Z.of_some hv)]
theorem o4_ {u : Int} (hu : B512 u) : Z.neg (Z.of u) = Z.of (-u) := by rw [Z.neg, df_ (Z.of_some hu)]
theorem rq_ {v : Int} (h : ¬ B512 v) : Z.of v = Z.bad := by unfold Z.of; rw [dif_neg h]
theorem B0 : B512 0 := by decide
theorem gcd_B {u v : Int} (hv : B512 v) (h : v ≠ 0) : B512 (Int.gcd u v : Nat) := by
  have : Int.gcd u v ≤ v.natAbs := Nat.le_of_dvd (by omega) (Int.gcd_dvd_natAbs_right u v)
  show ((Int.gcd u v : Nat) : Int).natAbs < _
  rw [Int.natAbs_natCast]; exact Nat.lt_of_le_of_lt this hv
/-- a is the fraction n / d in lowest terms. -/
structure Rt.Is (a : Rt) (n d : Int) : Prop where
  en : a.n = E (Z.of n)
  ed : a.d = E (Z.of d)
  hn : B512 n
  hd : B512 d
  pos : 0 < d
  cop : Int.gcd n d = 1
theorem Rt.ext {a b : Rt} (h : a.n = b.n) (k : a.d = b.d) : a = b := by cases a; cases b; simp_all
theorem nK_ {u g : Int} (hg : 0 < g) : u.fdiv g = u / g := Int.fdiv_eq_ediv_of_nonneg _ (Int.le_of_lt hg)
end Go.Num


set_option linter.unusedVariables false
set_option linter.unusedSimpArgs false
namespace Go.Num
open Go Go.Kn
theorem gd_o {x : I} (h : gdI x = true) : ∃ v : Int, B512 v ∧ x = E (Z.of v) := qE_ (by unfold R.good; exact h)
theorem gd_E {v : Int} (h : B512 v) : gdI (E (Z.of v)) = true := by have := oX_ h; unfold R.good at this; exact this
/-- The number that a coefficient is. -/
def vI (x : I) : Int := x.dec.o.getD 0
theorem vI_E {v : Int} (h : B512 v) : vI (E (Z.of v)) = v := by unfold vI; rw [E_dec, Z.of_some h]; rfl
theorem gd_eq {x : I} (h : gdI x = true) : x = E (Z.of (vI x)) ∧ B512 (vI x) := by
  obtain ⟨v, hv, rfl⟩ := gd_o h
  rw [vI_E hv]; exact ⟨rfl, hv⟩
theorem l2_ {x : I} (h : gdI x = true) : x.dec = Z.of (vI x) := by
  conv => lhs; rw [(gd_eq h).1, E_dec]
theorem zr_E {v : Int} (h : B512 v) : zrI (E (Z.of v)) = decide (v = 0) := by
  unfold zrI
  rw [E_dec, gy_ h]
  by_cases h0 : v = 0
  · subst h0; rfl
  · rw [decide_eq_false h0]
    exact beq_eq_false_iff_ne.2 (fun hs => h0 (Int.sign_eq_zero_iff_zero.1 hs))
theorem zr_v {x : I} (h : gdI x = true) : zrI x = decide (vI x = 0) := by
  conv => lhs; rw [(gd_eq h).1]
  exact zr_E (gd_eq h).2
def fg (g : Nat) (x : I) : Nat := Int.gcd g (vI x)
theorem B_gcd {g : Nat} {v : Int} (hg : B512 (g : Int)) (hv : B512 v) : B512 ((Int.gcd g v : Nat) : Int) := by
  by_cases h : v = 0
  · subst h
    rw [Int.gcd_zero_right, Int.natAbs_natCast]; exact hg
  · exact gcd_B hv h
theorem ii_ (l0 : List I) : ∀ (r : List I) (g : Nat), r.all gdI = true → B512 (g : Int) → bL_ l0 r (E (Z.of (g : Int))) = E (Z.of ((r.foldl fg g : Nat) : Int)) ∧ B512 ((r.foldl fg g : Nat) : Int)
  | [], g, _, hg => ⟨rfl, hg⟩
  | x :: r, g, h, hg => by
    rw [List.all_cons, Bool.and_eq_true] at h
    have hx := gd_eq h.1
    have e : E (Z.gcd (E (Z.of (g : Int))).dec x.dec) = E (Z.of ((fg g x : Nat) : Int)) := by
      rw [E_dec, l2_ h.1, qW_ hg hx.2]; rfl
    unfold bL_
    rw [e]
    exact ii_ l0 r _ h.2 (B_gcd hg hx.2)
/-- The content. -/
def cN (l : List I) : Nat := l.foldl fg 0
theorem j5_ {l : List I} (h : l.all gdI = true) : av_ l = E (Z.of ((cN l : Nat) : Int)) ∧ B512 ((cN l : Nat) : Int) := ii_ l l 0 h B0
theorem k2_ : ∀ (l : List I) (g : Nat), l.foldl fg g ∣ g ∧ ∀ x ∈ l, ((l.foldl fg g : Nat) : Int) ∣ vI x
  | [], g => ⟨Nat.dvd_refl _, fun x hx => by cases hx⟩
  | y :: l, g => by
    obtain ⟨h1, h2⟩ := k2_ l (fg g y)
    have h3 : fg g y ∣ g := by have := Int.gcd_dvd_natAbs_left (g : Int) (vI y); simpa [fg] using this
    have h4 : ((fg g y : Nat) : Int) ∣ vI y := Int.gcd_dvd_right ..
    refine ⟨Nat.dvd_trans h1 h3, fun x hx => ?_⟩
    rcases List.mem_cons.1 hx with rfl | hx
    · exact Int.dvd_trans (Int.natCast_dvd_natCast.2 h1) h4
    · exact h2 x hx
theorem lb_ {l : List I} {x : I} (h : x ∈ l) : ((cN l : Nat) : Int) ∣ vI x := (k2_ l 0).2 x h
theorem ln_ {α : Type} (f : I → α) (l : List I) : (List.range l.length).map (fun k => f (l.getD k I0)) = l.map f := by
  refine List.ext_getElem? fun k => ?_
  by_cases h : k < l.length
  · simp [h]
  · simp [h]
/-- Right, or bad. -/
def Rgt (p : List I) : Prop := p = badp ∨ (p.all gdI = true ∧ strip p = p ∧ p.length ≤ 25)
theorem ih_ (l : List I) : strip (strip l) = strip l := by
  suffices ∀ n (l : List I), l.length ≤ n → strip (strip l) = strip l from this _ l (Nat.le_refl _)
  intro n
  induction n with
  | zero => intro l h; rw [List.eq_nil_of_length_eq_zero (show l.length = 0 by omega)]; rfl
  | succ n ih =>
    intro l h
    rcases dB_ l with rfl | ⟨m, x, rfl⟩
    · rfl
    · have hs := dH_ m x
      cases hx : zrI x
      · rw [hx, cond_false] at hs; rw [hs, hs]
      · rw [hx, cond_true] at hs
        rw [hs]
        exact ih m (by simp only [List.length_append, List.length_cons, List.length_nil] at h; omega)
theorem jv_ {l : List I} (h : l.all gdI = true) : (strip l).all gdI = true := by
  rw [eL_]
  rw [List.all_eq_true] at h ⊢
  exact fun x hx => h x (List.mem_of_mem_take hx)
theorem kq_ (l : List I) : Rgt (mkP l) := by
  unfold mkP
  cases h : l.all gdI
  · exact .inl rfl
  · simp only [cond_true]
    split
    · rename_i h2; exact .inr ⟨jv_ h, ih_ l, h2⟩
    · exact .inl rfl
theorem oI_ {l : List I} (h : l.all gdI = true) (h2 : strip l = l) (h3 : l.length ≤ 25) : mkP l = l := by
  unfold mkP
  rw [h, cond_true, h2, if_pos h3]
theorem gQ_ {m : List I} {x : I} (h : strip (m ++ [x]) = m ++ [x]) : zrI x = false := by
  cases hx : zrI x
  · rfl
  · rw [dH_, hx, cond_true] at h
    have := gD_ m
    rw [h] at this
    simp only [List.length_append, List.length_cons, List.length_nil] at this
    omega
theorem jd_ {l : List I} (f : I → I) (h : strip l = l) (hf : ∀ x ∈ l, zrI x = false → zrI (f x) = false) : strip (l.map f) = l.map f := by
  rcases dB_ l with rfl | ⟨m, x, rfl⟩
  · rfl
  · rw [List.map_append, List.map_cons, List.map_nil, dH_, hf x (by simp) (gQ_ h), cond_false]
theorem lh_ {p : List I} (h : p.all gdI = true) (hs : strip p = p) (hl : p.length ≤ 25) : ab_ p = p.map fun x => E (Z.of ((vI x).fdiv (cN p))) := by
  unfold ab_
  rw [gU_ _ (by omega) (by decide)]
  simp only [List.length_nil, Nat.max_zero, List.all_nil, Bool.and_true, h, cond_true]
  have hc := j5_ h
  have e : (List.range p.length).map (fun k => cf_ (p.getD k I0) (([] : List I).getD k I0) (av_ p)) = p.map fun x => E (Z.quo x.dec (Z.of ((cN p : Nat) : Int))) := by
    rw [← ln_ (fun x => E (Z.quo x.dec (Z.of ((cN p : Nat) : Int))))]
    refine List.map_congr_left fun k _ => ?_
    show E (Z.quo (p.getD k I0).dec (av_ p).dec) = _
    rw [hc.1, E_dec]
  rw [e]
  rcases dB_ p with rfl | ⟨m, x, rfl⟩
  · rfl
  have hx : gdI x = true := List.all_eq_true.1 h x (by simp)
  have hz := gQ_ hs
  rw [zr_v hx] at hz
  have hv0 : vI x ≠ 0 := of_decide_eq_false hz
  have hc0 : ((cN (m ++ [x]) : Nat) : Int) ≠ 0 := fun h0 => by
    have := lb_ (l := m ++ [x]) (x := x) (by simp)
    rw [h0] at this
    exact hv0 (Int.zero_dvd.1 this)
  have e2 : (m ++ [x]).map (fun x' => E (Z.quo x'.dec (Z.of ((cN (m ++ [x]) : Nat) : Int)))) = (m ++ [x]).map fun x' => E (Z.of ((vI x').fdiv (cN (m ++ [x])))) := by
    refine List.map_congr_left fun y hy => ?_
    have hy' := gd_eq (List.all_eq_true.1 h y hy)
    rw [l2_ (List.all_eq_true.1 h y hy), o9_ hy'.2 hc.2 hc0]
  rw [e2]
  have hB : ∀ y ∈ m ++ [x], B512 ((vI y).fdiv (cN (m ++ [x]))) := fun y hy => by
    have hy' := gd_eq (List.all_eq_true.1 h y hy)
    have hd := ir_ (lb_ hy)
    have hle : ((vI y).fdiv (cN (m ++ [x]))).natAbs ≤ (vI y).natAbs := by
      conv => rhs; rw [← hd]
      rw [Int.natAbs_mul]
      exact Nat.le_mul_of_pos_left _ (by omega)
    exact Nat.lt_of_le_of_lt hle hy'.2
  refine oI_ ?_ (jd_ _ hs fun y hy hzy => ?_) (by rw [List.length_map]; exact hl)
  · rw [List.all_eq_true]
    intro z hz
    obtain ⟨y, hy, rfl⟩ := List.mem_map.1 hz
    exact gd_E (hB y hy)
  · rw [zr_v (List.all_eq_true.1 h y hy)] at hzy
    rw [zr_E (hB y hy)]
    refine decide_eq_false fun h0 => of_decide_eq_false hzy ?_
    have hd := ir_ (lb_ hy)
    rw [h0, Int.mul_zero] at hd; exact hd.symm
theorem lv_ : badp.length = 1 := rfl
theorem jZ_ {p : List I} (h : Rgt p) (hg : p.all gdI = false) : p = badp := by
  rcases h with h | h
  · exact h
  · rw [h.1] at hg; cases hg
theorem gw_ (p : List I) (hp : p.length ≤ 1000) : Rgt (ab_ p) := by
  unfold ab_
  rw [gU_ _ hp (by decide)]
  cases (p.all gdI && List.all [] gdI)
  · exact .inl rfl
  · exact kq_ _
theorem lx_ (p q : List I) {n : Nat} (hn : 1 ≤ n) : ∀ (k : Nat) (a b : List I), gmP b < k → a ≠ [] → Rgt a → Rgt b → a.length ≤ n → b.length ≤ n → a.length ≤ 25 → b.length ≤ 25 →
    (∃ s, aQ_ p q k a b = .inl s ∧ s.1 ≠ [] ∧ Rgt s.1 ∧ s.1.length ≤ n) ∨ aQ_ p q k a b = .inr badp
  | 0, a, b, h, _, _, _, _, _, _, _ => absurd h (Nat.not_lt_zero _)
  | k + 1, a, b, h, ha, ra, rb, la, lb, ka, kb => by
    unfold aQ_
    cases h1 : decide (0 < ((b.length : Nat) : Int))
    · exact .inl ⟨_, rfl, ha, ra, la⟩
    · cases h2 : (ae_ a || ae_ b)
      · simp only [cond_true, cond_false]
        have hd := kh_ ⟨ka, kb⟩ h2 h1
        have hpos := of_decide_eq_true h1
        have hrl := cn_ a b
        have rr := gw_ (ao_ a b) (by omega)
        refine lx_ p q hn k b _ (by omega) (fun e => by rw [e] at hpos; exact absurd hpos (by decide)) rb rr lb ?_ kb (ay_ _)
        cases hg : (ab_ (ao_ a b)).all gdI
        · rw [jZ_ rr hg, lv_]; exact hn
        · obtain ⟨h4, h5⟩ := hc_ (by omega) hg
          rcases jo_ a b (by omega) with h6 | h6
          · rw [h6, b3_] at h4; cases h4
          · omega
      · exact .inr rfl
theorem pu_ {a : List I} (h : a.all gdI = true) (hs : strip a = a) (hl : a.length ≤ 25) : bl_ [] a (fun y z => E (Z.sub y.dec z.dec)) = a.map fun x => E (Z.of (-(vI x))) := by
  rw [gU_ _ (by decide) (by omega)]
  simp only [List.length_nil, Nat.zero_max, List.all_nil, Bool.true_and, h, cond_true]
  have e : (List.range a.length).map (fun k => E (Z.sub (([] : List I).getD k I0).dec (a.getD k I0).dec)) = a.map fun x => E (Z.of (-(vI x))) := by
    have e1 : (List.range a.length).map (fun k => E (Z.sub (([] : List I).getD k I0).dec (a.getD k I0).dec)) = a.map fun x => E (Z.sub (Z.of 0) x.dec) := by
      rw [← ln_ (fun x => E (Z.sub (Z.of 0) x.dec))]
      refine List.map_congr_left fun k _ => ?_
      rfl
    rw [e1]
    refine List.map_congr_left fun y hy => ?_
    have hy' := gd_eq (List.all_eq_true.1 h y hy)
    have hB : B512 (-(vI y)) := by unfold B512; rw [Int.natAbs_neg]; exact hy'.2
    rw [l2_ (List.all_eq_true.1 h y hy)]
    show E (Z.add (Z.of 0) (Z.neg (Z.of (vI y)))) = _
    rw [o4_ hy'.2, lz_ B0 hB, Int.zero_add]
  rw [e]
  have hB : ∀ y ∈ a, B512 (-(vI y)) := fun y hy => by unfold B512; rw [Int.natAbs_neg]; exact (gd_eq (List.all_eq_true.1 h y hy)).2
  refine oI_ ?_ (jd_ _ hs fun y hy hzy => ?_) (by rw [List.length_map]; exact hl)
  · rw [List.all_eq_true]
    intro z hz
    obtain ⟨y, hy, rfl⟩ := List.mem_map.1 hz
    exact gd_E (hB y hy)
  · rw [zr_v (List.all_eq_true.1 h y hy)] at hzy
    rw [zr_E (hB y hy)]
    exact decide_eq_false fun h0 => of_decide_eq_false hzy (by omega)
theorem lN_ {p : List I} (hp : p.length ≤ 1000) (h : (ad_ p).all gdI = true) : (ad_ p).length ≤ p.length - 1 := by
  unfold ad_ at h ⊢
  rw [fB_ hp, eJ_] at h ⊢
  cases hg : p.all gdI
  · rw [hg] at h; simp only [Bool.not_false, cond_true] at h; rw [bad_p, b3_] at h; cases h
  · rw [hg] at h
    simp only [Bool.not_true, cond_false] at h ⊢
    rw [kz_ h]
    refine Nat.le_trans (gD_ _) ?_
    rw [List.length_map, List.length_range]; omega
theorem pM_ {p : List I} (hp : Rgt p) (h : (ae_ (ac_ p (ad_ p)) || ae_ (ab_ p)) = false) (h0 : (((ab_ p).length : Nat) : Int) ≠ 0) :
    1 ≤ (ac_ p (ad_ p)).length ∧ (ac_ p (ad_ p)).length ≤ (ab_ p).length := by
  have hpl : p.length ≤ 25 := by
    rcases hp with h1 | h1
    · rw [h1]; exact dL_
    · exact h1.2.2
  obtain ⟨hg, hr⟩ := Bool.or_eq_false_iff.1 h
  rw [fB_ (Nat.le_trans (dC_ _ _) (by decide))] at hg
  rw [fB_ (Nat.le_trans (ay_ _) (by decide))] at hr
  have hr' : (ab_ p).all gdI = true := by simpa using hr
  have hg' : (ac_ p (ad_ p)).all gdI = true := by simpa using hg
  have hpg := (hc_ (by omega) hr').1
  obtain ⟨_, hs, _⟩ : p.all gdI = true ∧ strip p = p ∧ p.length ≤ 25 := by
    rcases hp with h1 | h1
    · rw [h1, b3_] at hpg; cases hpg
    · exact h1
  have hpv := lh_ hpg hs hpl
  have hrl : (ab_ p).length = p.length := by rw [hpv, List.length_map]
  have hp1 : 1 ≤ p.length := by omega
  have hdl : (ab_ (ad_ p)).length ≤ p.length := by
    have rd := gw_ (ad_ p) (Nat.le_trans (cM_ _) (by decide))
    cases hd : (ab_ (ad_ p)).all gdI
    · rw [jZ_ rd hd, lv_]; exact hp1
    · obtain ⟨h4, h5⟩ := hc_ (Nat.le_trans (cM_ _) (by decide)) hd
      have := lN_ (by omega) h4
      omega
  rw [hrl]
  unfold ac_ at hg' ⊢
  rcases lx_ p (ad_ p) hp1 (gmP (ab_ (ad_ p)) + 1) (ab_ p) (ab_ (ad_ p)) (Nat.lt_succ_self _) (fun e => by rw [e] at hrl; simp at hrl; omega) (gw_ _ (by omega)) (gw_ _ (Nat.le_trans (cM_ _) (by decide))) (by omega) hdl (ay_ _) (ay_ _) with ⟨s, h1, h2, h3, h4⟩ | h1
  · rw [h1] at hg' ⊢
    have hs1 : 1 ≤ s.1.length := by
      rcases Nat.eq_zero_or_pos s.1.length with h | h
      · exact absurd (List.eq_nil_of_length_eq_zero h) h2
      · exact h
    simp only [sm] at hg' ⊢
    cases hc : (((s.1.length : Nat) : Int) == 0) || decide (0 < (Z.signW (s.1.getD (s.1.length - 1) I0).dec).1)
    · rw [hc] at hg'
      simp only [cond_false] at hg' ⊢
      have hsl : s.1.length ≤ 25 := by omega
      cases hsg : s.1.all gdI
      · have hb := jZ_ h3 hsg
        rw [hb, gU_ _ (by decide) (by decide), b3_] at hg'
        rw [Bool.and_false, cond_false, b3_] at hg'; cases hg'
      · rcases h3 with h3 | h3
        · rw [h3, b3_] at hsg; cases hsg
        · rw [pu_ h3.1 h3.2.1 h3.2.2, List.length_map]; exact ⟨hs1, h4⟩
    · exact ⟨hs1, h4⟩
  · rw [h1] at hg'
    simp only [sm] at hg'
    rw [b3_] at hg'; cases hg'
end Go.Num


set_option linter.unusedVariables false
set_option linter.unusedSimpArgs false
namespace Go.Num
open Go Go.Kn
theorem p4_ {p : List I} (h : Rgt p) : p.length ≤ 25 := by
  rcases h with h | h
  · rw [h]; exact dL_
  · exact h.2.2
end Go.Num

