/- Walks: what these functions return. Polynomials as functions from Nat: sums, products, values. No program stands in it. Polynomials: what the functions return, by coefficients, with their sizes. No program stands in it. What these functions compute, as plain functions. No program stands in it. What Cmp returns: the sign of a difference; order, the greater and the lesser. No program stands in it. Intervals: what the program computes is what the reference defines. No program stands in it. Intervals: products, quotients, powers, hulls, what is in two of them. No program stands in it. Intervals as intervals of rational numbers: what they share, hulls, order; the statement on sets. No program stands in it. Rational arithmetic at numbers, with their sizes: no result lacks digits. No program stands in it. Polynomials: three statements: what is made, sums, values. No program stands in it. Values of polynomials at rational numbers. No program stands in it. Polynomials without their content; what is put into a polynomial. No program stands in it. Remainders of polynomials, by coefficients. No program stands in it. What is left of a product and a rest, divided by a factor. No program stands in it. -/
import Derived.Test.YtjdfogfmeibkgaaGreatUGE
import Derived.Test.YtjdfogfmeibkgaaGreatUFp
import Derived.Test.YtjdfogfmeibkgaaGreatULa
import Derived.Test.YtjdfogfmeibkgaaGreatUGf
import Derived.Test.YtjdfogfmeibkgaaGreatUYb
import Derived.Test.YtjdfogfmeibkgaaGreatUYr
import Derived.Test.YtjdfogfmeibkgaaGreatUYf
import Derived.KernelRfl
import Derived.Test.YtjdfogfmeibkgaaGreatUYg
namespace Go.Proofs.YtjdfogfmeibkgaaGreat
open Go.Kn Go.Num
set_option linter.unusedVariables false
set_option linter.unusedSimpArgs false
set_option maxRecDepth 20000
set_option maxHeartbeats 8000000
theorem fm_ (vp : Value) (p : (List I)) (vz : Value) (z : (List U8)) (w : World) (hp : Slr w elI vp p) (hz : Slr w elU8 vz z) :
    Calls Tryz.prog 7 [vp, vz].toArray w (fun e w' => e = .returned (.bool (a9_ p z)) ∧ Ext w w') := by
 obtain ⟨p_p, c_p, rfl⟩ := hp.form
 obtain ⟨p_z, c_z, rfl⟩ := hz.form
 refine aO_ (N := 61) Tryz.func7 rfl rfl (by simp) ?_
 obtain ⟨w0, rfl⟩ : ∃ w0, w0 = w := ⟨_, rfl⟩
 have Hp := hp.old
 have hm_p := hp.max
 have Hz := hz.old
 have hm_z := hz.max
 simp only [initF, Nat.reduceAdd]
 refine Rs fun K J => sE rfl (nl J (Sq fun K1 J1 => ?_))
 refine bI_ [8, 9, 10, 11, 12, 13, 14, 15, 16, 17, 18, 19, 20, 21, 22, 23, 24] (fun g M => (g 24 = .bool (!(aG_ p 6 30) || ((ac_ p) || (((((p).length : Nat) : Int) == 0) || decide (6 < (((z).length : Nat) : Int)))))) ∧ M = []) (fun K2 J2 => ?_) ?_
 ·skip
  refine Rk fun K J => sE rfl (sQ (q_as (v' := .bool (aG_ p 6 30)) (aN_ en_22 rfl (fun w hw => e5_ _ p 6 30 w (SLe.ap hw (SLe.sub Hp sn)) (by first | omega | (simp only [List.length_cons, List.length_nil, and_true, true_and] <;> omega) | simp))) rfl) rfl ?_)
  refine sE rfl ?_
  rcases bt (aG_ p 6 30) with h4 | h4
  ·skip
   refine sB (not_f h4) rfl (sE rfl (sQ (q_as (v' := .bool (ac_ p)) (aN_ en_18 rfl (fun w hw => aS_ _ p w (SLe.ap hw (SLe.sub Hp sn)))) rfl) rfl (sE rfl ?_)))
   rcases bt (ac_ p) with h5 | h5
   ·skip
    refine sB h5 rfl (WL_n rfl (WL_n rfl (WL_n rfl (sE rfl (sE rfl (WL_n rfl (WL_n rfl (WL_n rfl (sE rfl (nl J ?_))))))))))
    refine J2 _ _ (by repeat first | exact .refl | refine .cons rfl ?_) ⟨_, s0, ?s24, rfl⟩
    case s24 => exact congrArg Value.bool (nor_t h4 (or_t h5))
   ·skip
    refine sB h5 rfl (sE rfl (sQ (q_as (v' := .int .i64 (((p).length : Nat) : Int)) (aV_ (e := elI) sl_24 rfl (SLe.sub Hp sn)) rfl) rfl (sE rfl (sE rfl ?_))))
    rcases bt ((((p).length : Nat) : Int) == 0) with h6 | h6
    ·skip
     have ph6 := fy_ h6
     refine sB h6 rfl (WL_n rfl (WL_n rfl (WL_n rfl (sE rfl (nl J ?_)))))
     refine J2 _ _ (by repeat first | exact .refl | refine .cons rfl ?_) ⟨_, s0, ?s24, rfl⟩
     case s24 => exact congrArg Value.bool (nor_t h4 (or_f h5 (or_t h6)))
    ·skip
     have ph6 := d1_ h6
     refine sB h6 rfl (sE rfl (sQ (q_as (v' := .int .i64 (((z).length : Nat) : Int)) (aV_ (e := elU8) sl_40 rfl (SLe.sub Hz sn)) rfl) rfl (sE rfl (sE rfl (nl J ?_)))))
     refine J2 _ _ (by repeat first | exact .refl | refine .cons rfl ?_) ⟨_, s0, ?s24, rfl⟩
     case s24 => exact congrArg Value.bool (nor_t h4 (or_f h5 (or_f h6 rfl)))
  ·skip
   refine sB (not_t h4) rfl (WL_n rfl (WL_n rfl (sE rfl (sE rfl (WL_n rfl (WL_n rfl (WL_n rfl (sE rfl (sE rfl (WL_n rfl (WL_n rfl (WL_n rfl (sE rfl (nl J ?_))))))))))))))
   refine J2 _ _ (by repeat first | exact .refl | refine .cons rfl ?_) ⟨_, s0, ?s24, rfl⟩
   case s24 => exact congrArg Value.bool (nor_f h4)
 ·skip
  rintro g7 M ⟨hg24, rfl⟩
  simp only [setG, hg24]
  clear hg24
  rcases bt (!(aG_ p 6 30) || ((ac_ p) || (((((p).length : Nat) : Int) == 0) || decide (6 < (((z).length : Nat) : Int))))) with h8 | h8
  ·skip
   refine W_t h8 rfl (Rs fun K J => sQ (q_ret en_14 de_  rfl) rfl (sE rfl (nl J (W_ret (ag_ (ret1 rfl (.inr rfl) rfl ?_))))))
   exact (by exact congrArg (fun r : Bool => (.bool r : Value)) (show _ = (a9_ p z) from bif_t h8 rfl))
  ·skip
   have ph9 := d1_ (Bool.or_eq_false_iff.1 (Bool.or_eq_false_iff.1 (Bool.or_eq_false_iff.1 h8).2).2).1
   have ph10 := of_decide_eq_false (Bool.or_eq_false_iff.1 (Bool.or_eq_false_iff.1 (Bool.or_eq_false_iff.1 h8).2).2).2
   refine W_f h8 rfl (al_ (J1 _ _ ?_))
   obtain ⟨hRp, hLp⟩ := few_f (Bool.or_eq_false_iff.1 h8).1
   refine Rs fun K J => sE rfl (sE rfl (nl J (Sq fun K3 J3 => Rs fun K J => sE rfl (nl J ?_))))
   refine b9_ (fun S M h => J3 S M h) [5, 6, 27, 28, 29, 30, 31, 32, 33, 34, 35, 36, 37, 38, 39, 40, 41, 42] (fun g M => ∃ (q : List I) (i : Nat) (p_q : Option Addr) (c_q : Nat) (L_q : List Blk), (ah_ p z ((z.length + 1)) p 0) = (q, i) ∧ (q.length ≤ 25) ∧ (g 5 = .slice p_q q.length c_q ∧ g 6 = .int .i64 ((i : Nat) : Int) ∧ RdL w0 elI (.slice p_q q.length c_q) q L_q) ∧ M = (L_q ++ [])) (fun K_u11 hK_u11 => ?_) ?_
   ·skip
    refine am_ ?_
    refine aB_ [5, 6, 27, 28, 29, 30, 31, 32, 33, 34, 35, 36, 37, 38, 39, 40, 41, 42] (fun g nn M => ∃ (q : List I) (i : Nat) (p_q : Option Addr) (c_q : Nat) (L_q : List Blk), (ah_ p z nn q i) = (ah_ p z ((z.length + 1)) p 0) ∧ z.length - i < nn ∧ (i ≤ z.length ∧ q.length ≤ 25) ∧ (g 5 = .slice p_q q.length c_q ∧ g 6 = .int .i64 ((i : Nat) : Int) ∧ RdL w0 elI (.slice p_q q.length c_q) q L_q) ∧ M = (L_q ++ [])) ((z.length + 1)) ?start ?round
    case start => exact ⟨_, s0, p, 0, p_p, c_p, [], rfl, (by omega), ⟨by omega, by omega⟩, ⟨rfl, rfl, (RdL.old Hp hm_p)⟩, rfl⟩
    case round =>
     rintro nn g M ⟨q, i, p_q, c_q, L_q, hT0, hq0, hinv0, ⟨hg5, hg6, hO_q⟩, rfl⟩
     obtain ⟨k0, rfl⟩ : ∃ m, nn = m + 1 := ⟨nn - 1, by omega⟩
     simp only [setG, hg5, hg6]
     clear hg5 hg6
     have hm_q := RdL.max hO_q
     refine Sq fun K6 J6 => Rs fun K J => sE rfl (sE rfl (sQ (q_as (v' := .int .i64 (((z).length : Nat) : Int)) (aV_ (e := elU8) sl_40 rfl (SLe.sub Hz sn)) rfl) rfl (sE rfl (nl J ?_))))
     rcases bt (decide (((i : Nat) : Int) < (((z).length : Nat) : Int))) with h26 | h26
     ·skip
      have ph26 := of_decide_eq_true h26
      refine W_t h26 rfl (al_ (J6 _ _ (Sq fun K7 J7 => am_ (Rk fun K J => sE rfl (sE rfl (sE rfl (sQ (q_as (v' := .pointer (some (slb (.slice p_z z.length c_z) (i * 1 + 0)))) (ce_ (e := elU8) (l := z) (k := i) sl_40 rfl rfl (SLe.sub Hz sn) (by first | omega | (simp only [List.length_set, List.length_append, List.length_cons, List.length_nil]; omega))) rfl) rfl ?_)))))))
      refine sQ (hD_ (u := .int .u8 ((z.getD i u80).1)) (e := elU8) (l := z) (k := i) (o := 0) ty_5 rfl (SLe.sub Hz sn) (aw_ u80 (by first | omega | (simp only [List.length_set, List.length_append, List.length_cons, List.length_nil]; omega))) rfl) rfl ?_
      refine sQ (q_as (v' := .int .i64 ((W.cv ((z.getD i u80).1)).1)) (aY_ in_5 in_3 rfl) rfl) rfl (sV (.int .i64 ((W.sub (wl (-1)) (W.cv ((z.getD i u80).1))).1)) rfl rfl ?_)
      refine WL_r rfl (av_ [[ci .i64 ((W.sub (wl (-1)) (W.cv ((z.getD i u80).1))).1)], [ci .i64 1]] [ci .i64 ((W.sub (wl (-1)) (W.cv ((z.getD i u80).1))).1), ci .i64 1] us_70 z_3 sz_3 rfl (by decide) rfl rfl ⟨rfl, rfl, rfl, rfl, rfl, rfl, trivial⟩ rfl (fun b27 hb27 => ?_))
      refine WL_r rfl (aq_ (E := 38) (e := elI) (l := (aF_ [(W.sub (wl (-1)) (W.cv ((z.getD i u80).1))), (wl 1)])) (fun v => v) en_34 rfl (fun w hw => bd_ _ [(W.sub (wl (-1)) (W.cv ((z.getD i u80).1))), (wl 1)] w (SLe.ap hw (SLe.lit (e := elW) (l := [(W.sub (wl (-1)) (W.cv ((z.getD i u80).1))), (wl 1)]) m0 rfl (Nat.le_of_ble_eq_true rfl) rfl)) (by first | omega | (simp only [List.length_cons, List.length_nil, and_true, true_and] <;> omega) | simp)) (fun p28 c29 L30 hF31 => ?_))
      have hb32 := (bc_ [(W.sub (wl (-1)) (W.cv ((z.getD i u80).1))), (wl 1)])
      have hr33 := (bb_ [(W.sub (wl (-1)) (W.cv ((z.getD i u80).1))), (wl 1)])
      refine WL_r rfl (aq_ (E := 38) (e := elI) (l := (br_ q (aF_ [(W.sub (wl (-1)) (W.cv ((z.getD i u80).1))), (wl 1)]))) (fun v => v) en_31 rfl (fun w hw => e2_ _ q _ (aF_ [(W.sub (wl (-1)) (W.cv ((z.getD i u80).1))), (wl 1)]) w (SLe.ap hw (SLe.sub hO_q.1 (sR (sd (List.sublist_append_left _ _))))) (SLe.ap hw (SLfe.sle (OwnG.slfe hF31 (List.sublist_append_left _ _)))) (by first | omega | (simp only [List.length_cons, List.length_nil, and_true, true_and] <;> omega) | simp)) (fun p34 c35 L36 hF37 => ?_))
      have hb38 := (e1_ q (aF_ [(W.sub (wl (-1)) (W.cv ((z.getD i u80).1))), (wl 1)]))
      have hr39 := (fh_ q (aF_ [(W.sub (wl (-1)) (W.cv ((z.getD i u80).1))), (wl 1)]))
      refine sE rfl (nl J (J7 _ _ (Rk fun K J => sE rfl (sV (.int .i64 (((i + 1) : Nat) : Int)) rfl (congrArg (Value.int .i64) (wx (by omega) (by omega) (by omega))) (sE rfl (nl J (⟨(by repeat first | exact .refl | refine .cons rfl ?_), _, _, (sA (sR (sd (sR (s0))))), (Nat.lt_succ_self _), (br_ q (aF_ [(W.sub (wl (-1)) (W.cv ((z.getD i u80).1))), (wl 1)])), (i + 1), p34, c35, L36, (by exact (hT0.symm.trans (Eq.symm (bif_t h26 rfl))).symm), (Nat.lt_of_lt_of_le (by omega) (Nat.le_of_lt_succ hq0)), ⟨by omega, by omega⟩, ⟨rfl, rfl, (RdL.own hF37)⟩, rfl⟩)))))))
     ·skip
      have ph26 := of_decide_eq_false h26
      refine W_f h26 rfl (bp_ (ak_ (ak_ (ao_ (hK_u11 _ _ (by repeat first | exact .refl | refine .cons rfl ?_) ⟨_, s0, q, i, p_q, c_q, L_q, (by exact hT0.symm.trans (Eq.symm (bif_f h26 rfl))), (by omega), ⟨rfl, rfl, hO_q⟩, rfl⟩)))))
   ·skip
    rintro g M ⟨q, i, p_q, c_q, L_q, hCu11, hPu11, ⟨hg5, hg6, hO_q⟩, rfl⟩
    simp only [setG, hg5, hg6]
    clear hg5 hg6
    have hm_q := RdL.max hO_q
    refine Rs fun K J => sE rfl (sQ (q_as (v' := .int .i64 ((af_ q).1)) (aN_ en_35 rfl (fun w hw => b5_ _ q w (SLe.ap hw (SLe.sub hO_q.1 (List.sublist_append_left _ _))))) rfl) rfl (sE rfl (sQ (q_as (v' := .int .i64 ((af_ p).1)) (aN_ en_35 rfl (fun w hw => b5_ _ p w (SLe.ap hw (SLe.sub Hp sn)))) rfl) rfl (sV (.int .i64 ((W.sub (af_ q) (af_ p)).1)) rfl rfl (sE rfl (sQ (q_as (v' := .int .i64 (((z).length : Nat) : Int)) (aV_ (e := elU8) sl_40 rfl (SLe.sub Hz sn)) rfl) rfl (sV (.int .i64 ((W.sub (W.sub (af_ q) (af_ p)) (W.cv (((z).length : Nat) : Int))).1)) rfl (congrArg (Value.int .i64) (oY_ (by omega))) (sE rfl (nl J ?_)))))))))
    refine bI_ [4, 51, 52, 53, 54, 55, 56, 57, 58, 59, 60] (fun g M => (g 4 = .bool (bA_ && (decide (0 ≤ (W.sub (W.sub (af_ q) (af_ p)) (W.cv (((z).length : Nat) : Int))).1) && ((W.rem (W.sub (W.sub (af_ q) (af_ p)) (W.cv (((z).length : Nat) : Int))) (wl 2)).1 == 0)))) ∧ M = (L_q ++ [])) (fun K8 J8 => ?_) ?_
    ·skip
     refine Rk fun K J => sQ (q_ret en_14 de_  rfl) rfl ?_
     rcases bt bA_ with h42 | h42
     ·skip
      refine sB h42 rfl (sE rfl (sE rfl (sE rfl ?_)))
      rcases bt (decide (0 ≤ (W.sub (W.sub (af_ q) (af_ p)) (W.cv (((z).length : Nat) : Int))).1)) with h43 | h43
      ·skip
       have ph43 := of_decide_eq_true h43
       refine sB h43 rfl (sE rfl (sQ (q_as (v' := .int .i64 ((W.rem (W.sub (W.sub (af_ q) (af_ p)) (W.cv (((z).length : Nat) : Int))) (wl 2)).1)) (q_rem rfl rfl (by decide)) rfl) rfl ?_))
       refine sE rfl (sE rfl (sE rfl (nl J ?_)))
       refine J8 _ _ (by repeat first | exact .refl | refine .cons rfl ?_) ⟨_, s0, ?s4, rfl⟩
       case s4 => exact congrArg Value.bool (and_t h42 (and_t h43 rfl))
      ·skip
       have ph43 := of_decide_eq_false h43
       refine sB h43 rfl (WL_n rfl (WL_n rfl (WL_n rfl (sE rfl (sE rfl (nl J ?_))))))
       refine J8 _ _ (by repeat first | exact .refl | refine .cons rfl ?_) ⟨_, s0, ?s4, rfl⟩
       case s4 => exact congrArg Value.bool (and_t h42 (and_f h43))
     ·skip
      refine sB h42 rfl (WL_n rfl (WL_n rfl (sE rfl (sE rfl (WL_n rfl (WL_n rfl (WL_n rfl (sE rfl (sE rfl (nl J ?_))))))))))
      refine J8 _ _ (by repeat first | exact .refl | refine .cons rfl ?_) ⟨_, s0, ?s4, rfl⟩
      case s4 => exact congrArg Value.bool (and_f h42)
    ·skip
     rintro g44 M ⟨hg4, rfl⟩
     simp only [setG, hg4]
     clear hg4
     refine W_ret (ret1 rfl (.inr rfl) rfl ?_)
     exact (by exact congrArg (fun r : Bool => (.bool r : Value)) (show _ = (a9_ p z) from bif_f h8 (trs (Eq.symm (apS hCu11)) rfl)))
end Go.Proofs.YtjdfogfmeibkgaaGreat


set_option linter.unusedVariables false
set_option linter.unusedSimpArgs false
namespace Go.Num
class Rg (α : Type) [Add α] [Mul α] [OfNat α 0] : Prop where
  aa : ∀ a b c : α, a + b + c = a + (b + c)
  ac : ∀ a b : α, a + b = b + a
  a0 : ∀ a : α, a + 0 = a
  ma : ∀ a b c : α, a * b * c = a * (b * c)
  mc : ∀ a b : α, a * b = b * a
  md : ∀ a b c : α, a * (b + c) = a * b + a * c
  m0 : ∀ a : α, a * 0 = 0
instance : Rg Int := ⟨Int.add_assoc, Int.add_comm, Int.add_zero, Int.mul_assoc, Int.mul_comm, Int.mul_add, Int.mul_zero⟩
instance : Rg Rat := ⟨Rat.add_assoc, Rat.add_comm, Rat.add_zero, Rat.mul_assoc, Rat.mul_comm, Rat.mul_add, Rat.mul_zero⟩
theorem Rg.za {α : Type} [Add α] [Mul α] [OfNat α 0] [Rg α] (a : α) : 0 + a = a := by rw [Rg.ac, Rg.a0]
theorem Rg.zm {α : Type} [Add α] [Mul α] [OfNat α 0] [Rg α] (a : α) : 0 * a = 0 := by rw [Rg.mc, Rg.m0]
/-- The sum of the first n values. -/
def sumN {α : Type} [Add α] [OfNat α 0] (f : Nat → α) : Nat → α
  | 0 => 0
  | n + 1 => sumN f n + f n
theorem ga_ {α : Type} [Add α] [OfNat α 0] {f g : Nat → α} : ∀ {n : Nat}, (∀ i, i < n → f i = g i) → sumN f n = sumN g n
  | 0, _ => rfl
  | n + 1, h => by simp only [sumN]; rw [ga_ fun i hi => h i (by omega), h n (by omega)]
theorem d7_ {α : Type} [Add α] [Mul α] [OfNat α 0] [Rg α] {f : Nat → α} : ∀ {n : Nat}, (∀ i, i < n → f i = 0) → sumN f n = 0
  | 0, _ => rfl
  | n + 1, h => by simp only [sumN]; rw [d7_ fun i hi => h i (by omega), h n (by omega), Rg.a0]
theorem fs_ {α : Type} [Add α] [Mul α] [OfNat α 0] [Rg α] (f : Nat → α) : ∀ n : Nat, sumN f (n + 1) = f 0 + sumN (fun i => f (i + 1)) n
  | 0 => by simp only [sumN]; rw [Rg.ac]
  | n + 1 => by rw [sumN, fs_ f n, Rg.aa]; rfl
theorem jC_ {α : Type} [Add α] [Mul α] [OfNat α 0] [Rg α] (f : Nat → α) : ∀ n : Nat, sumN f n = sumN (fun i => f (n - 1 - i)) n
  | 0 => rfl
  | n + 1 => by
    rw [fs_ (fun i => f (n + 1 - 1 - i)), sumN, Rg.ac, jC_ f n]
    rw [show n + 1 - 1 - 0 = n by omega]
    congr 1
    exact ga_ fun i hi => congrArg f (by omega)
theorem fU_ {α : Type} [Add α] [Mul α] [OfNat α 0] [Rg α] {f : Nat → α} {n : Nat} (h : ∀ i, n ≤ i → f i = 0) : ∀ m : Nat, n ≤ m → sumN f m = sumN f n
  | 0, hm => by rw [show n = 0 by omega]
  | m + 1, hm => by
    rcases Nat.lt_or_ge n (m + 1) with g | g
    · rw [sumN, h m (by omega), Rg.a0, fU_ h m (by omega)]
    · rw [show n = m + 1 by omega]
theorem l3_ {α : Type} [Add α] [Mul α] [OfNat α 0] [Rg α] {f : Nat → α} {a : Nat} (h : ∀ i, i ≠ a → f i = 0) {n : Nat} (hn : a < n) : sumN f n = f a := by
  rw [fU_ (n := a + 1) (fun i hi => h i (by omega)) n hn, sumN, d7_ fun i hi => h i (by omega), Rg.za]
/-- The coefficients of a product. -/
def conv {α : Type} [Add α] [Mul α] [OfNat α 0] (c d : Nat → α) (k : Nat) : α := sumN (fun i => c i * d (k - i)) (k + 1)
theorem lK_ {α : Type} [Add α] [Mul α] [OfNat α 0] [Rg α] (c d : Nat → α) : conv c d = conv d c := by
  funext k
  unfold conv
  rw [jC_]
  refine ga_ fun i hi => ?_
  rw [Rg.mc, show k - (k + 1 - 1 - i) = i by omega, show k + 1 - 1 - i = k - i by omega]
theorem g1_ {α : Type} [Add α] [Mul α] [OfNat α 0] [Rg α] {c d : Nat → α} {n m : Nat} (hc : ∀ i, n ≤ i → c i = 0) (hd : ∀ i, m ≤ i → d i = 0) (k : Nat) (hk : n + m ≤ k + 1) : conv c d k = 0 := by
  refine d7_ fun i hi => ?_
  rcases Nat.lt_or_ge i n with h | h
  · rw [hd _ (by omega), Rg.m0]
  · rw [hc _ h, Rg.zm]
theorem lV_ {α : Type} [Add α] [Mul α] [OfNat α 0] [Rg α] {c d : Nat → α} {n m : Nat} (hc : ∀ i, n < i → c i = 0) (hd : ∀ i, m < i → d i = 0) : conv c d (n + m) = c n * d m := by
  unfold conv
  rw [l3_ (a := n) (fun i hi => ?_) (by omega), show n + m - n = m by omega]
  rcases Nat.lt_or_ge n i with h | h
  · rw [hc _ h, Rg.zm]
  · rw [hd _ (by omega), Rg.m0]
end Go.Num


set_option linter.unusedVariables false
set_option linter.unusedSimpArgs false
namespace Go.Num
open Go Go.Kn
theorem vI0 : vI I0 = 0 := vI_E B0
/-- p is the right polynomial with the coefficients c. -/
structure Po (p : List I) (c : Nat → Int) : Prop where
  g : p.all gdI = true
  s : strip p = p
  l : p.length ≤ 25
  c : ∀ k, vI (p.getD k I0) = c k
section
variable {p q : List I} {c d : Nat → Int}
theorem oX_ (h : Rgt p) (hg : p.all gdI = true) : Po p (fun k => vI (p.getD k I0)) := by
  rcases h with rfl | h
  · rw [bY_] at hg; cases hg
  · exact ⟨h.1, h.2.1, h.2.2, fun _ => rfl⟩
theorem kR_ (h : p.all gdI = true) (k : Nat) : gdI (p.getD k I0) = true := by
  by_cases hk : k < p.length
  · rw [show p.getD k I0 = p[k] by simp [List.getD, hk]]
    exact List.all_eq_true.1 h _ (List.getElem_mem hk)
  · rw [dQ_ (by omega)]; exact gd_E B0
theorem Po.get (h : Po p c) (k : Nat) : p.getD k I0 = E (Z.of (c k)) := by rw [← h.c k]; exact (gd_eq (kR_ h.g k)).1
theorem Po.B (h : Po p c) (k : Nat) : B512 (c k) := by rw [← h.c k]; exact (gd_eq (kR_ h.g k)).2
theorem Po.zero (h : Po p c) {k : Nat} (hk : p.length ≤ k) : c k = 0 := by rw [← h.c k, dQ_ hk, vI0]
theorem Po.last (h : Po p c) {n : Nat} (hn : p.length = n + 1) : c n ≠ 0 := by
  rcases df_ p with rfl | ⟨m, x, rfl⟩
  · cases hn
  · have h1 := f8_ h.s
    have h2 : n = m.length := by simp at hn; omega
    have h3 := h.get n
    rw [show (m ++ [x]).getD n I0 = x by simp [h2]] at h3
    rw [h3, zr_E (h.B n)] at h1
    exact of_decide_eq_false h1
theorem Po.short (h : Po p c) {n : Nat} (hz : ∀ k, n ≤ k → c k = 0) : p.length ≤ n := by
  rcases Nat.lt_or_ge n p.length with g | g
  · exact absurd (hz (p.length - 1) (by omega)) (h.last (by omega))
  · exact g
theorem Po.eq (h : Po p c) (g : Po q c) : p = q := by
  have e : p.length = q.length := Nat.le_antisymm (h.short fun k hk => g.zero hk) (g.short fun k hk => h.zero hk)
  refine List.ext_getElem e fun k h1 h2 => ?_
  have a := h.get k
  rw [← g.get k] at a
  simpa [List.getD, h1, h2] using a
theorem Po.cast (h : Po p c) (e : ∀ k, c k = d k) : Po p d := ⟨h.g, h.s, h.l, fun k => (h.c k).trans (e k)⟩
theorem ph_ : Po [] (fun _ => 0) := ⟨rfl, rfl, by decide, fun k => by rw [show ([] : List I).getD k I0 = I0 by simp]; exact vI0⟩
theorem Po.nil (h : Po p c) (hz : ∀ k, c k = 0) : p = [] := (h.cast hz).eq ph_
theorem gn_ : ∀ (n : Nat) (l : List I), l.length ≤ n → ∀ k, (strip l).length ≤ k → zrI (l.getD k I0) = true
  | 0, l, h, k, _ => by
    rw [dQ_ (by omega)]; exact zr0
  | n + 1, l, h, k, hk => by
    rcases df_ l with rfl | ⟨m, x, rfl⟩
    · rw [show ([] : List I).getD k I0 = I0 by simp]; exact zr0
    · rw [dc_] at hk
      cases hx : zrI x
      · rw [hx, cond_false] at hk
        rw [dQ_ hk]; exact zr0
      · rw [hx, cond_true] at hk
        rcases Nat.lt_trichotomy k m.length with g | g | g
        · rw [show (m ++ [x]).getD k I0 = m.getD k I0 by simp [List.getD, List.getElem?_append_left g]]
          exact gn_ n m (by simp at h; omega) k hk
        · rw [show (m ++ [x]).getD k I0 = x by simp [g]]; exact hx
        · rw [dQ_ (by simp; omega)]; exact zr0
theorem nf_ {l : List I} (h : ∀ k, l.getD k I0 = E (Z.of (c k))) (hB : ∀ k, B512 (c k)) (hz : ∀ k, 25 ≤ k → c k = 0) : Po (mkP l) c := by
  have hg : l.all gdI = true := List.all_eq_true.2 fun x hx => by
    obtain ⟨k, hk, rfl⟩ := List.getElem_of_mem hx
    have e := h k
    rw [show l.getD k I0 = l[k] by simp [List.getD, hk]] at e
    rw [e]; exact gd_E (hB k)
  have hl : (strip l).length ≤ 25 := fI_ _ l (Nat.le_refl _) fun j hj => by rw [h j, hz j hj]; exact zr0
  have e : mkP l = strip l := by unfold mkP; rw [hg, cond_true, if_pos hl]
  rw [e]
  refine ⟨iS_ hg, hs_ l, hl, fun k => ?_⟩
  by_cases hk : k < (strip l).length
  · have e2 : (strip l).getD k I0 = l.getD k I0 := by
      rw [ek_ l]
      simp only [List.getD, List.getElem?_take, hk, if_true]
    rw [e2, h k, vI_E (hB k)]
  · have := gn_ _ l (Nat.le_refl _) k (by omega)
    rw [h k, zr_E (hB k)] at this
    rw [dQ_ (by omega), vI0, of_decide_eq_true this]
theorem mq_ (f : Nat → I) (n k : Nat) : ((List.range n).map f).getD k I0 = if k < n then f k else I0 := by
  by_cases h : k < n <;> simp [List.getD, h]
theorem pe_ {f : Nat → I} {n : Nat} (h : ∀ k, k < n → f k = E (Z.of (c k))) (h0 : ∀ k, n ≤ k → c k = 0) (hB : ∀ k, B512 (c k)) (hz : ∀ k, 25 ≤ k → c k = 0) : Po (mkP ((List.range n).map f)) c := by
  refine nf_ (fun k => ?_) hB hz
  rw [mq_]
  split
  · exact h k ‹_›
  · rw [h0 k (by omega)]; rfl
theorem Po.l3 (h : Po p c) : p.length ≤ 1000 := Nat.le_trans h.l (by decide)
theorem oL_ (h : Rgt p) : p.length ≤ 1000 := Nat.le_trans (lS_ h) (by decide)
theorem Po.nb (h : Po p c) : ac_ p = false := by rw [e7_ h.l3, h.g]; rfl
theorem mU_ (h : Po p c) (g : Po q d) (k : Nat) (hs : ∀ t, B512 (sumN (fun i => c i * d (k - i)) t)) (hm : ∀ i j, B512 (c i * d j)) :
    ∀ (t i : Nat), k + 1 - i < t → i ≤ k + 1 → (bK_ k q p t i (E (Z.of (sumN (fun i => c i * d (k - i)) i)))).2 = E (Z.of (conv c d k))
  | 0, i, ht, _ => absurd ht (Nat.not_lt_zero _)
  | t + 1, i, ht, hi => by
    unfold bK_
    have e : ∀ a b, a ≤ b → p.length ≤ a → sumN (fun i => c i * d (k - i)) b = sumN (fun i => c i * d (k - i)) a := fun a b hab hpa =>
      fU_ (fun j hj => by rw [h.zero (by omega), Int.zero_mul]) b hab
    by_cases hk : ((i : Nat) : Int) ≤ min ((k : Nat) : Int) (((p.length : Nat) : Int) - 1)
    · rw [decide_eq_true hk, cond_true, h.get, g.get, E_dec, E_dec, E_dec, pk_ (h.B _) (g.B _), m0_ (hs _) (hm _ _)]
      exact mU_ h g k hs hm t (i + 1) (by omega) (by omega)
    · rw [decide_eq_false hk, cond_false]
      show E (Z.of _) = E (Z.of (sumN _ (k + 1)))
      rcases Nat.lt_or_ge i (k + 1) with h1 | h1
      · rw [← e i (k + 1) (by omega) (by omega)]
      · rw [show i = k + 1 by omega]
theorem oK_ (h : Po p c) (g : Po q d) (hs : ∀ k t, B512 (sumN (fun i => c i * d (k - i)) t)) (hm : ∀ i j, B512 (c i * d j)) (hl : p.length + q.length ≤ 26) : Po (br_ p q) (conv c d) := by
  unfold br_
  rw [h.nb, g.nb, Bool.or_false, cond_false]
  by_cases h0 : p = []
  · subst h0
    rw [show ((((([] : List I).length : Nat) : Int) == 0) || (((q.length : Nat) : Int) == 0)) = true by simp, cond_true]
    exact ph_.cast fun k => Eq.symm (d7_ fun i _ => by rw [h.zero (Nat.zero_le _), Int.zero_mul])
  · by_cases g0 : q = []
    · subst g0
      rw [show ((((p.length : Nat) : Int) == 0) || (((([] : List I).length : Nat) : Int) == 0)) = true by simp, cond_true]
      refine ph_.cast fun k => Eq.symm (d7_ fun i _ => ?_)
      rw [g.zero (Nat.zero_le _), Int.mul_zero]
    · have h1 : 0 < p.length := List.length_pos_iff.2 h0
      have h2 : 0 < q.length := List.length_pos_iff.2 g0
      rw [show ((((p.length : Nat) : Int) == 0) || (((q.length : Nat) : Int) == 0)) = false by
        rw [Bool.or_eq_false_iff]; exact ⟨beq_eq_false_iff_ne.2 (by omega), beq_eq_false_iff_ne.2 (by omega)⟩, cond_false, ev_]
      have hz : ∀ k, p.length + q.length ≤ k + 1 → conv c d k = 0 := fun k hk => g1_ (fun i hi => h.zero hi) (fun i hi => g.zero hi) k hk
      refine pe_ (fun k _ => ?_) (fun k hk => hz k (by omega)) (fun k => hs k (k + 1)) (fun k hk => hz k (by omega))
      unfold cy_
      show (bK_ _ _ _ _ _ _).2 = _
      rw [show I0 = E (Z.of (sumN (fun i => c i * d (k - i)) (((k : Nat) : Int) - ((q.length : Nat) : Int) + 1).toNat)) by
        rw [d7_ fun i hi => by rw [g.zero (by omega), Int.mul_zero]]; rfl]
      exact mU_ h g k (hs k) hm _ _ (by omega) (by omega)
theorem nt_ {v : Int} {k : Nat} (m : Nat) (hm : 4294967296 ^ 16 = 2 ^ m) (h : v.natAbs < 2 ^ k) (hk : k ≤ m) : B512 v := by
  unfold B512
  rw [hm]
  exact Nat.lt_of_lt_of_le h (Nat.pow_le_pow_right (by decide) hk)
theorem iu_ {v : Int} {k : Nat} (h : v.natAbs < 2 ^ k) (hk : k ≤ 512) : B512 v := nt_ 512 lC_ h hk
/-- At most n coefficients, of at most b bits. -/
structure Bd (c : Nat → Int) (n b : Nat) : Prop where
  z : ∀ k, n ≤ k → c k = 0
  b : ∀ k, (c k).natAbs < 2 ^ b
variable {n m b b' : Nat}
theorem Bd.mono (h : Bd c n b) {n' b1 : Nat} (hn : n ≤ n') (hb : b ≤ b1) : Bd c n' b1 := ⟨fun k hk => h.z k (by omega), fun k => Nat.lt_of_lt_of_le (h.b k) (Nat.pow_le_pow_right (by decide) hb)⟩
theorem Bd.B (h : Bd c n b) (hb : b ≤ 512) (k : Nat) : B512 (c k) := iu_ (h.b k) hb
theorem Bd.add (h : Bd c n b) (g : Bd d m b) : Bd (fun k => c k + d k) (max n m) (b + 1) :=
  ⟨fun k hk => by show c k + d k = 0; rw [h.z k (by omega), g.z k (by omega)]; rfl, fun k => by
    show (c k + d k).natAbs < _
    have h1 := h.b k
    have h2 := g.b k
    have h3 := Int.natAbs_add_le (c k) (d k)
    rw [Nat.pow_succ]; omega⟩
theorem jI_ {u v : Int} (h : u.natAbs < 2 ^ b) (g : v.natAbs < 2 ^ b') : (u * v).natAbs < 2 ^ (b + b') := by
  rw [Int.natAbs_mul, Nat.pow_add]
  exact Nat.mul_lt_mul_of_lt_of_le h (Nat.le_of_lt g) (Nat.pow_pos (by decide))
theorem mZ_ {f : Nat → Int} {A : Nat} (h : ∀ i, (f i).natAbs ≤ A) : ∀ t : Nat, (sumN f t).natAbs ≤ t * A
  | 0 => by simp [sumN]
  | t + 1 => by
    have h1 := mZ_ h t
    have h2 := h t
    have h3 := Int.natAbs_add_le (sumN f t) (f t)
    rw [Nat.succ_mul]; show (sumN f t + f t).natAbs ≤ _; omega
theorem mc_ {f : Nat → Int} {e : Nat} (h : ∀ i, (f i).natAbs < 2 ^ b) (hz : ∀ i, n ≤ i → f i = 0) (hn : n ≤ 2 ^ e) (t : Nat) : (sumN f t).natAbs < 2 ^ (b + e) := by
  have hb : 0 < 2 ^ b := Nat.pow_pos (by decide)
  have k1 : ∀ t, t ≤ n → (sumN f t).natAbs < 2 ^ (b + e) := fun t ht => by
    have h1 := mZ_ (f := f) (A := 2 ^ b - 1) (fun i => by have := h i; omega) t
    have h2 : t * (2 ^ b - 1) ≤ 2 ^ e * (2 ^ b - 1) := Nat.mul_le_mul_right _ (by omega)
    have h3 : 2 ^ e * (2 ^ b - 1) < 2 ^ e * 2 ^ b := Nat.mul_lt_mul_of_pos_left (by omega) (Nat.pow_pos (by decide))
    rw [Nat.pow_add, Nat.mul_comm (2 ^ b)]; omega
  rcases Nat.lt_or_ge n t with g | g
  · rw [fU_ hz t (by omega)]; exact k1 n (Nat.le_refl _)
  · exact k1 t g
theorem iQ_ (h : Bd c n b) (g : Bd d m b') {e : Nat} (hn : n ≤ 2 ^ e) (k t : Nat) : (sumN (fun i => c i * d (k - i)) t).natAbs < 2 ^ (b + b' + e) :=
  mc_ (n := n) (fun i => jI_ (h.b _) (g.b _)) (fun i hi => by rw [h.z i hi, Int.zero_mul]) hn t
theorem Bd.conv (h : Bd c n b) (g : Bd d m b') {e : Nat} (hn : n ≤ 2 ^ e) : Bd (conv c d) (n + m - 1) (b + b' + e) :=
  ⟨fun k hk => g1_ h.z g.z k (by omega), fun k => iQ_ h g hn k (k + 1)⟩
theorem Po.len (h : Po p c) (hb : Bd c n b) : p.length ≤ n := h.short hb.z
theorem oT_ (h : Po p c) (g : Po q d) (hb : Bd c n b) (gb : Bd d m b') {e : Nat} (hn : n ≤ 2 ^ e) (hl : n + m ≤ 26) (hk : b + b' + e ≤ 512) : Po (br_ p q) (conv c d) :=
  oK_ h g (fun k t => iu_ (iQ_ hb gb hn k t) hk) (fun i j => iu_ (jI_ (hb.b i) (gb.b j)) (by omega)) (by have := h.len hb; have := g.len gb; omega)
theorem nT_ {v : Int} (hv : B512 v) {b : Int} (h : (Z.bitsW (Z.of v)).1 ≤ b) : v.natAbs < 2 ^ b.toNat := by
  have h1 : ((Z.of v).bits : Int) ≤ b := h
  unfold Z.bits at h1
  rw [Z.of_some hv] at h1
  simp only at h1
  exact Nat.lt_of_lt_of_le (bl_lt _) (Nat.pow_le_pow_right (by decide) (by omega))
theorem kh_ (p : List I) (a b : Int) : ∀ (k i : Nat), p.length - i < k → (sm (fun _ : Nat => true) (fun r => r) (bo_ p a b k i)) = true → ∀ j, i ≤ j → j < p.length → (Z.bitsW (p.getD j I0).dec).1 ≤ b
  | 0, i, h, _, _, _, _ => absurd h (Nat.not_lt_zero _)
  | k + 1, i, h, hs, j, hj, hl => by
    unfold bo_ at hs
    rw [decide_eq_true (show ((i : Nat) : Int) < ((p.length : Nat) : Int) by omega), cond_true] at hs
    by_cases hb : b < (Z.bitsW (p.getD i I0).dec).1
    · rw [decide_eq_true hb] at hs; cases hs
    · rw [decide_eq_false hb, cond_false] at hs
      rcases Nat.lt_or_ge i j with g | g
      · exact kh_ p a b k (i + 1) (by omega) hs j (by omega) hl
      · rw [show j = i by omega]; omega
theorem mg_ {a b : Int} (h : aG_ p a b = true) (hg : p.all gdI = true) : ∃ c, Po p c ∧ Bd c (a + 1).toNat b.toNat := by
  have h1 := few_f (p := p) (d := a) (b := b) (by rw [h]; rfl)
  have h2 := ix_ h
  have hp := oX_ h1.1 hg
  refine ⟨_, hp, fun k hk => hp.zero (by omega), fun k => ?_⟩
  by_cases hk : k < p.length
  · unfold aG_ at h
    rw [h2.1, decide_eq_false (by omega)] at h
    have h3 := kh_ p a b _ 0 (by omega) h k (by omega) hk
    rw [hp.get k, E_dec] at h3
    exact nT_ (hp.B k) h3
  · show (vI (p.getD k I0)).natAbs < _
    rw [dQ_ (by omega), vI0]; exact Nat.pow_pos (by decide)
end
end Go.Num

set_option linter.unusedVariables false
set_option linter.unusedSimpArgs false
namespace Go.Num
open Go Go.Kn
end Go.Num


set_option linter.unusedVariables false
set_option linter.unusedSimpArgs false
namespace Go.Num
open Go Go.Kn
end Go.Num

set_option linter.unusedVariables false
set_option linter.unusedSimpArgs false
namespace Go.Num
open Go Go.Kn
/-- An interval that is not bad: its ends, in order. -/
structure Iv.Is (a : Iv) (n d m e : Int) : Prop where
  lo : a.lo.Is n d
  hi : a.hi.Is m e
  le : n * e ≤ m * d
end Go.Num

set_option linter.unusedVariables false
set_option linter.unusedSimpArgs false
namespace Go.Num
open Go Go.Kn
/-- The number that a fraction is. -/
def Rt.At (a : Rt) (q : Rat) : Prop := a.Is q.num (q.den : Int)
/-- An interval from p to q. -/
structure Iv.At (a : Iv) (p q : Rat) : Prop where
  lo : a.lo.At p
  hi : a.hi.At q
  le : p ≤ q
end Go.Num

set_option linter.unusedVariables false
set_option linter.unusedSimpArgs false
namespace Go.Num
open Go Go.Kn
end Go.Num

set_option linter.unusedVariables false
set_option linter.unusedSimpArgs false
namespace Go.Num
open Go Go.Kn
/-- Above and below of less than k bits. -/
structure Sz (q : Rat) (k : Nat) : Prop where
  n : q.num.natAbs < 2 ^ k
  d : q.den < 2 ^ k
theorem jy_ {a b : Nat} (h : a ≤ b) : (2 : Nat) ^ a ≤ 2 ^ b := Nat.pow_le_pow_right (by decide) h
theorem oE_ {v : Int} {k : Nat} (m : Nat) (hm : 4294967296 ^ 16 = 2 ^ m) (h : v.natAbs < 2 ^ k) (hk : k ≤ m) : B512 v := by
  unfold B512
  rw [hm]
  exact Nat.lt_of_lt_of_le h (jy_ hk)
theorem B_pow {v : Int} {k : Nat} (h : v.natAbs < 2 ^ k) (hk : k ≤ 512) : B512 v := oE_ 512 lC_ h hk
theorem Sz.mono {q : Rat} {j k : Nat} (h : Sz q j) (hk : j ≤ k) : Sz q k := ⟨Nat.lt_of_lt_of_le h.n (jy_ hk), Nat.lt_of_lt_of_le h.d (jy_ hk)⟩
theorem Sz.bd {q : Rat} {k : Nat} (h : Sz q k) (hk : k ≤ 512) : B512 (q.den : Int) := B_pow (by simpa using h.d) hk
theorem hc_ {a b j k : Nat} (h : a < 2 ^ j) (g : b < 2 ^ k) : a * b < 2 ^ (j + k) := by
  rw [Nat.pow_add]
  exact Nat.mul_lt_mul_of_lt_of_le h (Nat.le_of_lt g) (Nat.pow_pos (by decide))
theorem Sz.mul {p q : Rat} {j k : Nat} (h : Sz p j) (g : Sz q k) : Sz (p * q) (j + k) := by
  constructor
  · rw [Rat.num_mul]
    refine Nat.lt_of_le_of_lt (Int.natAbs_ediv_le_natAbs _ _) ?_
    rw [Int.natAbs_mul]; exact hc_ h.n g.n
  · rw [Rat.den_mul]
    exact Nat.lt_of_le_of_lt (Nat.div_le_self _ _) (hc_ h.d g.d)
theorem Sz.neg {p : Rat} {k : Nat} (h : Sz p k) : Sz (-p) k := ⟨by rw [Rat.neg_num, Int.natAbs_neg]; exact h.n, h.d⟩
theorem kC_ {n m : Int} {d e j k : Nat} (h1 : n.natAbs < 2 ^ j) (h2 : e < 2 ^ k) (h3 : m.natAbs < 2 ^ k) (h4 : d < 2 ^ j) : (n * e + m * d).natAbs < 2 ^ (j + k + 1) := by
  have a := hc_ h1 h2
  have b := hc_ h4 h3
  have c := Int.natAbs_add_le (n * e) (m * d)
  rw [Int.natAbs_mul, Int.natAbs_mul, Int.natAbs_natCast, Int.natAbs_natCast] at c
  rw [Nat.pow_succ]
  rw [Nat.mul_comm d] at b
  omega
theorem Sz.add {p q : Rat} {j k : Nat} (h : Sz p j) (g : Sz q k) : Sz (p + q) (j + k + 1) := by
  constructor
  · rw [Rat.num_add]
    exact Nat.lt_of_le_of_lt (Int.natAbs_ediv_le_natAbs _ _) (kC_ h.n g.d g.n h.d)
  · rw [Rat.den_add]
    exact Nat.lt_of_le_of_lt (Nat.div_le_self _ _) (Nat.lt_of_lt_of_le (hc_ h.d g.d) (jy_ (by omega)))
theorem Sz.int {n : Int} {k : Nat} (h : n.natAbs < 2 ^ k) (hk : 0 < k) : Sz (n : Rat) k := ⟨h, Nat.one_lt_two_pow (by omega)⟩
theorem At.is {a : Rt} {q : Rat} (h : a.At q) : a.Is q.num (q.den : Int) := h
end Go.Num

set_option linter.unusedVariables false
set_option linter.unusedSimpArgs false
namespace Go.Num
open Go Go.Kn
end Go.Num


set_option linter.unusedVariables false
set_option linter.unusedSimpArgs false
namespace Go.Num
open Go Go.Kn
theorem jR_ : bA_ = true := by kernel_rfl
theorem negW {w : W} (h : -1 ≤ w.1 ∧ w.1 ≤ 1) : (W.neg w).1 = -w.1 := by
  show IntKind.i64.wrap (0 - w.1) = _
  rw [wi (by omega)]; omega
end Go.Num


set_option linter.unusedVariables false
set_option linter.unusedSimpArgs false
namespace Go.Num
open Go Go.Kn
/-- The value of a polynomial with n coefficients. -/
def vl (c : Nat → Rat) (x : Rat) (n : Nat) : Rat := sumN (fun i => c i * x ^ i) n
def hv (c : Nat → Int) (N D : Int) (L : Nat) : Nat → Int
  | 0 => 0
  | t + 1 => hv c N D L t * N + c (L - 1 - t) * D ^ t
section
variable {c : Nat → Int} {N D : Int} {L : Nat}
/-- Enough digits for a value. -/
structure Room (c : Nat → Int) (N D : Int) (L : Nat) : Prop where
  h : ∀ t, t ≤ L → B512 (hv c N D L t)
  m : ∀ t, t < L → B512 (hv c N D L t * N)
  p : ∀ t, t < L → B512 (D ^ t)
  q : ∀ t, t < L → B512 (c (L - 1 - t) * D ^ t)
variable {p : List I} {x : Rt}
end
end Go.Num


set_option linter.unusedVariables false
set_option linter.unusedSimpArgs false
namespace Go.Num
open Go Go.Kn
section
variable {p q : List I} {c d : Nat → Int}
theorem Po.mem (h : Po p c) {x : I} (hx : x ∈ p) : ∃ k, vI x = c k := by
  obtain ⟨k, hk, rfl⟩ := List.getElem_of_mem hx
  refine ⟨k, ?_⟩
  rw [← h.c k]
  simp [List.getD, hk]
def lin (u v : Int) (k : Nat) : Int := if k = 0 then u else if k = 1 then v else 0
theorem oZ_ {u v : Int} (hu : B512 u) (hv : B512 v) : Po (ai_ [E (Z.of u), E (Z.of v)]) (lin u v) := by
  rw [jg_]
  refine nf_ (fun k => ?_) (fun k => ?_) fun k hk => ?_
  · match k with
    | 0 => rfl
    | 1 => rfl
    | k + 2 => rw [dQ_ (by simp)]; unfold lin; rw [if_neg (by omega), if_neg (by omega)]; rfl
  · unfold lin; split
    · exact hu
    · split
      · exact hv
      · exact B0
  · unfold lin; rw [if_neg (by omega), if_neg (by omega)]
theorem or_ {u v : Int} {b : Nat} (hu : u.natAbs < 2 ^ b) (hv : v.natAbs < 2 ^ b) : Bd (lin u v) 2 b :=
  ⟨fun k hk => by unfold lin; rw [if_neg (by omega), if_neg (by omega)], fun k => by
    unfold lin; split
    · exact hu
    · split
      · exact hv
      · exact Nat.pow_pos (by decide)⟩
variable {u v W : Int} {L : Nat}
end
end Go.Num


set_option linter.unusedVariables false
set_option linter.unusedSimpArgs false
namespace Go.Num
open Go Go.Kn
/-- The coefficients, moved up by i. -/
def shf (d : Nat → Int) (i k : Nat) : Int := if i ≤ k then d (k - i) else 0
/-- One round of a division. -/
def rstep (a o : Int) (d : Nat → Int) (n i : Nat) (r : Nat → Int) (k : Nat) : Int := a * r k - o * r (i + n) * shf d i k
/-- There are enough digits for each round. -/
def RemB (a o : Int) (d : Nat → Int) (n : Nat) : Nat → (Nat → Int) → Prop
  | 0, r => ∀ k, B512 (r k)
  | m + 1, r => (∀ k, B512 (r k)) ∧ B512 (o * r (m + n)) ∧ (∀ k, B512 (a * r k)) ∧ (∀ k, B512 (o * r (m + n) * d k)) ∧ RemB a o d n m (rstep a o d n m r)
theorem RemB.B {a o : Int} {d : Nat → Int} {n : Nat} : ∀ {m : Nat} {r : Nat → Int}, RemB a o d n m r → ∀ k, B512 (r k)
  | 0, _, h => h
  | _ + 1, _, h => h.1
theorem pp_ {u : Int} {b b' : Nat} (h : u.natAbs < 2 ^ b) (hb : b ≤ b') : u.natAbs < 2 ^ b' := Nat.lt_of_lt_of_le h (Nat.pow_le_pow_right (by decide) hb)
section
variable {p q : List I} {c d : Nat → Int} {n : Nat}
end
end Go.Num


set_option linter.unusedVariables false
set_option linter.unusedSimpArgs false
namespace Go.Num
open Go Go.Kn
theorem nw_ {p : List I} (hl : p.length ≤ 1000) (h : ac_ p = false) : p.all gdI = true := by
  rw [e7_ hl] at h; simpa using h
end Go.Num

