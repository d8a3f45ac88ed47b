/- Walks: what these functions return. Polynomials: three statements: what is made, sums, values. No program stands in it. Polynomials: the program's and the reference's squarefree parts. No program stands in it. From a reading of an argument that is a slice to the list that it reads. No program stands in it. -/
import Derived.Test.YtjdfogfmeibkgaaGreatZGE
import Derived.Test.YtjdfogfmeibkgaaGreatZFp
import Derived.Test.YtjdfogfmeibkgaaGreatZLa
import Derived.Test.YtjdfogfmeibkgaaGreatZYb
import Derived.Test.YtjdfogfmeibkgaaGreatZYc
import Derived.Test.YtjdfogfmeibkgaaGreatZYf
import Derived.Test.YtjdfogfmeibkgaaGreatZYg
import Derived.Test.YtjdfogfmeibkgaaGreatZYr
import Derived.Test.YtjdfogfmeibkgaaGreatZYt
import Derived.KernelRfl
import Derived.Test.YtjdfogfmeibkgaaGreatZGD
import Derived.ProofKit
import Derived.OpenShut
import Derived.ChangeOld
import Derived.ChangeArms
namespace Go.Proofs.YtjdfogfmeibkgaaGreat
open Go.Kn Go.Num
set_option linter.unusedVariables false
set_option linter.unusedSimpArgs false
set_option maxRecDepth 20000
set_option maxHeartbeats 8000000
theorem gf_ (vp : Value) (p : (List I)) (vq : Value) (q : (List I)) (w : World) (hp : Slr w elI vp p) (hq : Slr w elI vq q) :
    Calls Tryz.prog 4 [vp, vq].toArray w (fun e w' => e = .returned (.bool (br_ p q)) ∧ Ext w w') := by
 obtain ⟨p_p, c_p, rfl⟩ := hp.form
 obtain ⟨p_q, c_q, rfl⟩ := hq.form
 refine aX_ (N := 49) Tryz.func4 rfl rfl (by simp) ?_
 obtain ⟨w0, rfl⟩ : ∃ w0, w0 = w := ⟨_, rfl⟩
 have Hp := hp.old
 have hm_p := hp.max
 have Hq := hq.old
 have hm_q := hq.max
 simp only [initF, Nat.reduceAdd]
 refine Rs fun K J => sE rfl (nl J (Sq fun K1 J1 => ?_))
 refine bL_ [6, 7, 8, 9, 10, 11, 12, 13] (fun g M => (g 13 = .bool (!(aK_ p 10 512) || (!(aK_ q 10 512)))) ∧ M = []) (fun K2 J2 => ?_) ?_
 ·skip
  refine Rk fun K J => sE rfl (sQ (q_as (v' := .bool (aK_ p 10 512)) (aB_ en_22 rfl (fun w hw => eN_ _ p 10 512 w (SLe.ap hw (SLe.sub Hp sn)) (by first | omega | (simp only [List.length_cons, List.length_nil, and_true, true_and] <;> omega) | simp))) rfl) rfl ?_)
  refine sE rfl ?_
  rcases bt (aK_ p 10 512) with h2 | h2
  ·skip
   refine sB (not_f h2) rfl (sE rfl (sQ (q_as (v' := .bool (aK_ q 10 512)) (aB_ en_22 rfl (fun w hw => eN_ _ q 10 512 w (SLe.ap hw (SLe.sub Hq sn)) (by first | omega | (simp only [List.length_cons, List.length_nil, and_true, true_and] <;> omega) | simp))) rfl) rfl ?_))
   refine sE rfl (sE rfl (nl J ?_))
   refine J2 _ _ (by repeat first | exact .refl | refine .cons rfl ?_) ⟨_, s0, ?s13, rfl⟩
   case s13 => exact congrArg Value.bool (nor_t h2 rfl)
  ·skip
   refine sB (not_t h2) rfl (WL_n rfl (WL_n rfl (WL_n rfl (sE rfl (nl J ?_)))))
   refine J2 _ _ (by repeat first | exact .refl | refine .cons rfl ?_) ⟨_, s0, ?s13, rfl⟩
   case s13 => exact congrArg Value.bool (nor_f h2)
 ·skip
  rintro g3 M ⟨hg13, rfl⟩
  simp only [setG, hg13]
  clear hg13
  rcases bt (!(aK_ p 10 512) || (!(aK_ q 10 512))) with h4 | h4
  ·skip
   refine W_t h4 rfl (Rs fun K J => sQ (q_ret en_14 d8_  rfl) rfl (sE rfl (nl J (W_ret (aj_ (ret1 rfl (.inr rfl) rfl ?_))))))
   exact (by exact congrArg (fun r : Bool => (.bool r : Value)) (show _ = (br_ p q) from bif_t h4 rfl))
  ·skip
   refine W_f h4 rfl (am_ (J1 _ _ ?_))
   obtain ⟨hRp, hLp⟩ := few_f (Bool.or_eq_false_iff.1 h4).1
   obtain ⟨hRq, hLq⟩ := few_f (Bool.or_eq_false_iff.1 h4).2
   refine bL_ [5, 15, 16, 17, 18, 19, 20, 21, 22, 23, 24, 25, 26, 27, 28] (fun g M => (g 5 = .bool ((al_ (a8_ p q) (ax_ p q)) && (al_ (ab_ p) (aa_ p)))) ∧ M = []) (fun K3 J3 => ?_) ?_
   ·skip
    refine Rk fun K J => sE rfl (sE rfl (WL_r rfl (as_ (E := 38) (e := elI) (l := (a8_ p q)) (fun v => v) en_23 rfl (fun w hw => fl_ _ p _ q w (SLe.ap hw (SLe.sub Hp sn)) (SLe.ap hw (SLe.sub Hq sn)) (by first | omega | (simp only [List.length_cons, List.length_nil, and_true, true_and] <;> omega) | simp)) (fun p36 c37 L38 hF39 => ?_))))
    have hb40 := (db_ p q)
    refine sE rfl (sE rfl (WL_r rfl (as_ (E := 38) (e := elI) (l := (ax_ p q)) (fun v => v) en_24 rfl (fun w hw => eM_ _ p _ q w (SLe.ap hw (SLe.sub Hp sn)) (SLe.ap hw (SLe.sub Hq sn)) (by first | omega | (simp only [List.length_cons, List.length_nil, and_true, true_and] <;> omega) | simp)) (fun p41 c42 L43 hF44 => ?_))))
    have hb45 := (eK_ p q)
    refine sQ (q_as (v' := .bool (al_ (a8_ p q) (ax_ p q))) (aB_ en_17 rfl (fun w hw => aG_ _ (a8_ p q) _ (ax_ p q) w (SLe.ap hw (SLfe.sle (OwnG.slfe hF39 (sR (List.sublist_append_left _ _))))) (SLe.ap hw (SLfe.sle (OwnG.slfe hF44 (List.sublist_append_left _ _)))))) rfl) rfl ?_
    rcases bt (al_ (a8_ p q) (ax_ p q)) with h46 | h46
    ·skip
     refine sB h46 rfl (sE rfl (WL_r rfl (as_ (E := 38) (e := elI) (l := (ab_ p)) (fun v => v) en_25 rfl (fun w hw => cx_ _ p w (SLe.ap hw (SLe.sub Hp sn)) (by first | omega | (simp only [List.length_cons, List.length_nil, and_true, true_and] <;> omega) | simp)) (fun p47 c48 L49 hF50 => ?_))))
     have hb51 := (aA_ p)
     refine sE rfl (WL_r rfl (as_ (E := 38) (e := elI) (l := (aa_ p)) (fun v => v) en_26 rfl (fun w hw => b7_ _ p w (SLe.ap hw (SLe.sub Hp sn)) (by first | omega | (simp only [List.length_cons, List.length_nil, and_true, true_and] <;> omega) | simp)) (fun p52 c53 L54 hF55 => ?_)))
     have hb56 := (aO_ p)
     refine sQ (q_as (v' := .bool (al_ (ab_ p) (aa_ p))) (aB_ en_17 rfl (fun w hw => aG_ _ (ab_ p) _ (aa_ p) w (SLe.ap hw (SLfe.sle (OwnG.slfe hF50 (sR (List.sublist_append_left _ _))))) (SLe.ap hw (SLfe.sle (OwnG.slfe hF55 (List.sublist_append_left _ _)))))) rfl) rfl (sE rfl (sE rfl (nl J ?_)))
     refine J3 _ _ (by repeat first | exact .refl | refine .cons rfl ?_) ⟨_, (sR (sR (sR (sR (s0))))), ?s5, rfl⟩
     case s5 => exact congrArg Value.bool (and_t h46 rfl)
    ·skip
     refine sB h46 rfl (WL_n rfl (WL_n rfl (WL_n rfl (WL_n rfl (WL_n rfl (sE rfl (sE rfl (nl J ?_))))))))
     refine J3 _ _ (by repeat first | exact .refl | refine .cons rfl ?_) ⟨_, (sR (sR (s0))), ?s5, rfl⟩
     case s5 => exact congrArg Value.bool (and_f h46)
   ·skip
    rintro g57 M ⟨hg5, rfl⟩
    simp only [setG, hg5]
    clear hg5
    refine bL_ [4, 29, 30, 31, 32, 33, 34, 35, 36, 37, 38, 39, 40, 41, 42, 43, 44, 45, 46, 47, 48] (fun g M => (g 4 = .bool (cf_ && (((al_ (a8_ p q) (ax_ p q)) && (al_ (ab_ p) (aa_ p))) && ((al_ (ak_ p q) (ae_ p q)) && (al_ (cl_ p) (bd_ p)))))) ∧ M = []) (fun K4 J4 => ?_) ?_
    ·skip
     refine Rk fun K J => sQ (q_ret en_14 d8_  rfl) rfl ?_
     rcases bt cf_ with h79 | h79
     ·skip
      refine sB h79 rfl (sE rfl (sE rfl ?_))
      rcases bt ((al_ (a8_ p q) (ax_ p q)) && (al_ (ab_ p) (aa_ p))) with h80 | h80
      ·skip
       refine sB h80 rfl (sE rfl (sE rfl (WL_r rfl (as_ (E := 38) (e := elI) (l := (ak_ p q)) (fun v => v) en_27 rfl (fun w hw => gt_ _ p _ q w (SLe.ap hw (SLe.sub Hp sn)) (SLe.ap hw (SLe.sub Hq sn)) (by first | omega | (simp only [List.length_cons, List.length_nil, and_true, true_and] <;> omega) | simp)) (fun p81 c82 L83 hF84 => ?_)))))
       have hb85 := (ec_ p q)
       refine sE rfl (sE rfl (WL_r rfl (as_ (E := 38) (e := elI) (l := (ae_ p q)) (fun v => v) en_28 rfl (fun w hw => eC_ _ p _ q w (SLe.ap hw (SLe.sub Hp sn)) (SLe.ap hw (SLe.sub Hq sn)) (by first | omega | (simp only [List.length_cons, List.length_nil, and_true, true_and] <;> omega) | simp)) (fun p86 c87 L88 hF89 => ?_))))
       have hb90 := (eE_ p q)
       refine sQ (q_as (v' := .bool (al_ (ak_ p q) (ae_ p q))) (aB_ en_17 rfl (fun w hw => aG_ _ (ak_ p q) _ (ae_ p q) w (SLe.ap hw (SLfe.sle (OwnG.slfe hF84 (sR (List.sublist_append_left _ _))))) (SLe.ap hw (SLfe.sle (OwnG.slfe hF89 (List.sublist_append_left _ _)))))) rfl) rfl (sE rfl ?_)
       rcases bt (al_ (ak_ p q) (ae_ p q)) with h91 | h91
       ·skip
        refine sB h91 rfl (sE rfl (WL_r rfl (as_ (E := 38) (e := elI) (l := (cl_ p)) (fun v => v) en_29 rfl (fun w hw => g9_ _ p w (SLe.ap hw (SLe.sub Hp sn)) ⟨by assumption, by omega⟩) (fun p92 c93 L94 hF95 => sE rfl (WL_r rfl (as_ (E := 38) (e := elI) (l := (bd_ p)) (fun v => v) en_30 rfl (fun w hw => gb_ _ p w (SLe.ap hw (SLe.sub Hp sn)) ⟨by assumption, by omega⟩) (fun p96 c97 L98 hF99 => sQ (q_as (v' := .bool (al_ (cl_ p) (bd_ p))) (aB_ en_17 rfl (fun w hw => aG_ _ (cl_ p) _ (bd_ p) w (SLe.ap hw (SLfe.sle (OwnG.slfe hF95 (sR (List.sublist_append_left _ _))))) (SLe.ap hw (SLfe.sle (OwnG.slfe hF99 (List.sublist_append_left _ _)))))) rfl) rfl (sE rfl (sE rfl (nl J ?_))))))))))
        refine J4 _ _ (by repeat first | exact .refl | refine .cons rfl ?_) ⟨_, (sR (sR (sR (sR (s0))))), ?s4, rfl⟩
        case s4 => exact congrArg Value.bool (and_t h79 (and_t h80 (and_t h91 rfl)))
       ·skip
        refine sB h91 rfl (WL_n rfl (WL_n rfl (WL_n rfl (WL_n rfl (WL_n rfl (sE rfl (sE rfl (nl J ?_))))))))
        refine J4 _ _ (by repeat first | exact .refl | refine .cons rfl ?_) ⟨_, (sR (sR (s0))), ?s4, rfl⟩
        case s4 => exact congrArg Value.bool (and_t h79 (and_t h80 (and_f h91)))
      ·skip
       refine sB h80 rfl (WL_n rfl (WL_n rfl (WL_n rfl (WL_n rfl (WL_n rfl (WL_n rfl (WL_n rfl (sE rfl (sE rfl (WL_n rfl (WL_n rfl (WL_n rfl (WL_n rfl (WL_n rfl (sE rfl (sE rfl (nl J ?_)))))))))))))))))
       refine J4 _ _ (by repeat first | exact .refl | refine .cons rfl ?_) ⟨_, s0, ?s4, rfl⟩
       case s4 => exact congrArg Value.bool (and_t h79 (and_f h80))
     ·skip
      refine sB h79 rfl (WL_n rfl (sE rfl (sE rfl (WL_n rfl (WL_n rfl (WL_n rfl (WL_n rfl (WL_n rfl (WL_n rfl (WL_n rfl (sE rfl (sE rfl (WL_n rfl (WL_n rfl (WL_n rfl (WL_n rfl (WL_n rfl (sE rfl (sE rfl ?_)))))))))))))))))))
      refine nl J ?_
      refine J4 _ _ (by repeat first | exact .refl | refine .cons rfl ?_) ⟨_, s0, ?s4, rfl⟩
      case s4 => exact congrArg Value.bool (and_f h79)
    ·skip
     rintro g100 M ⟨hg4, rfl⟩
     simp only [setG, hg4]
     clear hg4
     refine W_ret (ret1 rfl (.inr rfl) rfl ?_)
     exact (by exact congrArg (fun r : Bool => (.bool r : Value)) (show _ = (br_ p q) from bif_f h4 rfl))
end Go.Proofs.YtjdfogfmeibkgaaGreat


set_option linter.unusedVariables false
set_option linter.unusedSimpArgs false
namespace Go.Num
open Go Go.Kn
theorem lu_ : cf_ = true := by kernel_rfl
theorem ox_ (l : List I) : aq_ l = ah_ l := by rw [kG_, gM_]
end Go.Num


set_option linter.unusedVariables false
set_option linter.unusedSimpArgs false
namespace Go.Num
open Go Go.Kn
/-- The new coefficient at j: r_j - c * g_(j-i). -/
def frE (g r : List I) (i : Nat) (c : Z) (j : Nat) : I := E (Z.sub (r.getD j I0).dec (Z.mul c (aR_ g ((j : Int) - (i : Int))).dec))
theorem E_gd {z : Z} (h : (E z).1.bad = false) : gdI (E z) = true := by
  rw [E_bad] at h
  have h' : z.o ≠ none := of_decide_eq_false h
  cases hz : z.o with
  | none => exact absurd hz h'
  | some v => rw [Z.eq_of hz]; exact gd_E (z.h v hz)
theorem qE_ {g r : List I} {i : Nat} {c : Z} (hc : c.o = none) (j : Nat) : (frE g r i c j).1.bad = true := by
  unfold frE
  rw [E_bad, Z.mul, cC_ (.inl hc), Z.sub, Z.neg, eL_ rfl, Z.add, cC_ (.inr rfl)]
  rfl
theorem re_ {g : List I} {i j : Nat} (h : j < i ∨ i + g.length ≤ j) : aR_ g ((j : Int) - (i : Int)) = I0 := by
  unfold aR_
  by_cases h1 : j < i
  · rw [decide_eq_true (show (j : Int) - (i : Int) < 0 by omega)]; rfl
  · rw [decide_eq_false (show ¬ (j : Int) - (i : Int) < 0 by omega), decide_eq_true (show ((g.length : Nat) : Int) ≤ (j : Int) - (i : Int) by omega)]; rfl
theorem oM_ {g r : List I} {i : Nat} {c : Z} (hc : c.o ≠ none) {j : Nat} (hr : gdI (r.getD j I0) = true) (h : j < i ∨ i + g.length ≤ j) : frE g r i c j = r.getD j I0 := by
  unfold frE
  rw [re_ h]
  cases hz : c.o with
  | none => exact absurd hz hc
  | some v =>
    have hv : B512 v := c.h v hz
    have h0 : I0.dec = Z.of 0 := by decide +kernel
    obtain ⟨e, hB⟩ := gd_eq hr
    rw [Z.eq_of hz, h0, o7_ hv B0, Int.mul_zero, ko_ hr, Z.sub, nN_ B0, Int.neg_zero, m6_ hB B0, Int.add_zero]
    exact e.symm
/-- The program's round. -/
theorem na_ (p : List I) (i : Int) (r f : List I) (x : I) {g : List I} (hg : ak_ p (af_ p) = g) {n : Nat} (hi : i = (n : Int)) : ∀ (fu k : Nat) (t : List I), g.length - k < fu → k ≤ g.length → t.length = r.length → n + g.length ≤ r.length → (∀ j, n + k ≤ j → t.getD j I0 = r.getD j I0) →
    (∃ t' k', bX_ p i r f x fu k t = .inl (k', t') ∧ t'.length = r.length ∧ (∀ j, t'.getD j I0 = if n + k ≤ j ∧ j < n + g.length then frE g r n ((f.set i.toNat x).getD i.toNat I0).dec j else t.getD j I0) ∧ ∀ j, n + k ≤ j → j < n + g.length → (frE g r n ((f.set i.toNat x).getD i.toNat I0).dec j).1.bad = false)
    ∨ (bX_ p i r f x fu k t = .inr badp ∧ ∃ j, n + k ≤ j ∧ j < n + g.length ∧ (frE g r n ((f.set i.toNat x).getD i.toNat I0).dec j).1.bad = true)
  | 0, k, t, h, _, _, _, _ => absurd h (Nat.not_lt_zero _)
  | fu + 1, k, t, h, hk, hl, hm, ht => by
    unfold bX_
    rw [hg]
    have hn : i.toNat = n := by omega
    generalize hc : ((f.set i.toNat x).getD i.toNat I0).dec = c at *
    rw [hn] at hc ⊢
    by_cases h1 : k < g.length
    · rw [decide_eq_true (by omega), cond_true]
      have hv : E (Z.sub (t.getD (n + k) I0).dec (E (Z.mul c (g.getD k I0).dec)).dec) = frE g r n c (n + k) := by
        unfold frE
        rw [ht (n + k) (Nat.le_refl _), E_dec, show ((n + k : Nat) : Int) - (n : Int) = ((k : Nat) : Int) by omega, j3_]
      simp only
      rw [hv, fi_ _ _ _ (by omega)]
      cases hb : (frE g r n c (n + k)).1.bad
      · rw [cond_false]
        rcases na_ p i r f x hg hi fu (k + 1) (t.set (n + k) (frE g r n c (n + k))) (by omega) (by omega) (by rw [List.length_set]; exact hl) hm (fun j hj => by rw [e9_ _ _ _ _ (by omega)]; exact ht j (by omega)) with ⟨t', k', e1, e2, e3, e4⟩ | ⟨e1, j, j1, j2, j3⟩
        · rw [hn, hc] at e3 e4
          refine .inl ⟨t', k', e1, e2, fun j => ?_, fun j j1 j2 => ?_⟩
          · rw [e3 j]
            by_cases hj : j = n + k
            · subst hj
              rw [if_neg (by omega), if_pos (by omega), fi_ _ _ _ (by omega)]
            · rw [e9_ _ _ _ _ hj]
              by_cases hj2 : n + (k + 1) ≤ j ∧ j < n + g.length
              · rw [if_pos hj2, if_pos (by omega)]
              · rw [if_neg hj2, if_neg (by omega)]
          · by_cases hj : j = n + k
            · subst hj; exact hb
            · exact e4 j (by omega) j2
        · rw [hn, hc] at j3
          exact .inr ⟨e1, j, by omega, j2, j3⟩
      · exact .inr ⟨rfl, n + k, Nat.le_refl _, by omega, hb⟩
    · rw [decide_eq_false (by omega), cond_false]
      exact .inl ⟨t, k, rfl, hl, fun j => by rw [if_neg (by omega)], fun j j1 j2 => absurd j2 (by omega)⟩
/-- The reference's round. -/
theorem m3_ (p : List I) (i : Int) (r f : List I) (y x : I) {g : List I} (hg : ae_ p (ac_ p) = g) {n : Nat} (hi : i = (n : Int)) : ∀ (fu k : Nat) (t : List I), r.length - k < fu → t.length = r.length →
    (∃ t' k', a4_ p r i f y x fu k t = .inl (k', t') ∧ t'.length = r.length ∧ (∀ j, t'.getD j I0 = if k ≤ j ∧ j < r.length then frE g r n ((f.set i.toNat x).getD i.toNat I0).dec j else t.getD j I0) ∧ ∀ j, k ≤ j → j < r.length → (frE g r n ((f.set i.toNat x).getD i.toNat I0).dec j).1.bad = false)
    ∨ (a4_ p r i f y x fu k t = .inr badp ∧ ∃ j, k ≤ j ∧ j < r.length ∧ (frE g r n ((f.set i.toNat x).getD i.toNat I0).dec j).1.bad = true)
  | 0, k, t, h, _ => absurd h (Nat.not_lt_zero _)
  | fu + 1, k, t, h, hl => by
    unfold a4_
    rw [hg]
    have hn : i.toNat = n := by omega
    generalize hc : ((f.set i.toNat x).getD i.toNat I0).dec = c at *
    by_cases h1 : k < r.length
    · rw [decide_eq_true (by omega), cond_true]
      have hv : E (Z.sub (r.getD k I0).dec (Z.mul c (aQ_ g (((k : Nat) : Int) - i)).dec)) = frE g r n c k := by
        unfold frE
        rw [at_eq, hi]
      simp only
      rw [hv, fi_ _ _ _ (by omega)]
      cases hb : (frE g r n c k).1.bad
      · rw [cond_false]
        rcases m3_ p i r f y x hg hi fu (k + 1) (t.set k (frE g r n c k)) (by omega) (by rw [List.length_set]; exact hl) with ⟨t', k', e1, e2, e3, e4⟩ | ⟨e1, j, j1, j2, j3⟩
        · rw [hc] at e3 e4
          refine .inl ⟨t', k', e1, e2, fun j => ?_, fun j j1 j2 => ?_⟩
          · rw [e3 j]
            by_cases hj : j = k
            · subst hj
              rw [if_neg (by omega), if_pos (by omega), fi_ _ _ _ (by omega)]
            · rw [e9_ _ _ _ _ hj]
              by_cases hj2 : k + 1 ≤ j ∧ j < r.length
              · rw [if_pos hj2, if_pos (by omega)]
              · rw [if_neg hj2, if_neg (by omega)]
          · by_cases hj : j = k
            · subst hj; exact hb
            · exact e4 j (by omega) j2
        · rw [hc] at j3
          exact .inr ⟨e1, j, by omega, j2, j3⟩
      · exact .inr ⟨rfl, k, Nat.le_refl _, by omega, hb⟩
    · rw [decide_eq_false (by omega), cond_false]
      exact .inl ⟨t, k, rfl, hl, fun j => by rw [if_neg (by omega)], fun j j1 j2 => absurd j2 (by omega)⟩
theorem lw_ {r : List I} (h : r.all gdI = true) {j : Nat} (hj : j < r.length) : gdI (r.getD j I0) = true := by
  rw [List.getD_eq_getElem?_getD, List.getElem?_eq_getElem hj]
  exact List.all_eq_true.1 h _ (List.getElem_mem hj)
theorem or_ {a b : List I} (hl : a.length = b.length) (h : ∀ j, j < a.length → a.getD j I0 = b.getD j I0) : a = b := by
  refine List.ext_getElem hl fun j h1 h2 => ?_
  have := h j h1
  rwa [List.getD_eq_getElem?_getD, List.getElem?_eq_getElem h1, List.getD_eq_getElem?_getD, List.getElem?_eq_getElem h2] at this
theorem qB_ {r : List I} (h : ∀ j, j < r.length → gdI (r.getD j I0) = true) : r.all gdI = true := by
  rw [List.all_eq_true]
  intro x hx
  obtain ⟨j, hj, rfl⟩ := List.getElem_of_mem hx
  have := h j hj
  rwa [List.getD_eq_getElem?_getD, List.getElem?_eq_getElem hj] at this
/-- Both rounds end alike. -/
theorem lV_ (p : List I) (i : Int) (r f : List I) (y x : I) {g : List I} (hg : ak_ p (af_ p) = g) (hg' : ae_ p (ac_ p) = g) {n : Nat} (hi : i = (n : Int)) (hr : r.all gdI = true) (hm : n + g.length ≤ r.length) (h1 : 1 ≤ g.length) :
    (∃ t' k' k'', bX_ p i r f x (g.length + 1) 0 r = .inl (k', t') ∧ a4_ p r i f y x (r.length + 1) 0 ([] ++ r) = .inl (k'', t') ∧ t'.length = r.length ∧ t'.all gdI = true)
    ∨ (bX_ p i r f x (g.length + 1) 0 r = .inr badp ∧ a4_ p r i f y x (r.length + 1) 0 ([] ++ r) = .inr badp) := by
  have hP := na_ p i r f x hg hi (g.length + 1) 0 r (by omega) (Nat.zero_le _) rfl hm (fun _ _ => rfl)
  have hR := m3_ p i r f y x hg' hi (r.length + 1) 0 ([] ++ r) (by omega) rfl
  rw [List.nil_append] at hR ⊢
  generalize hc : ((f.set i.toNat x).getD i.toNat I0).dec = c at *
  rcases hP with ⟨t', k', e1, e2, e3, e4⟩ | ⟨e1, j, j1, j2, j3⟩
  · have hcn : c.o ≠ none := fun h => by
      have := e4 n (by omega) (by omega)
      rw [qE_ h] at this; cases this
    rcases hR with ⟨t2, k2, d1, d2, d3, d4⟩ | ⟨d1, j, j1, j2, j3⟩
    · have ht : t' = t2 := or_ (by rw [e2, d2]) fun j hj => by
        rw [e2] at hj
        rw [d3 j, if_pos ⟨Nat.zero_le _, hj⟩, e3 j]
        by_cases h : n + 0 ≤ j ∧ j < n + g.length
        · rw [if_pos h]
        · rw [if_neg h, oM_ hcn (lw_ hr hj) (by omega)]
      refine .inl ⟨t', k', k2, e1, by rw [ht]; exact d1, e2, qB_ fun j hj => ?_⟩
      rw [e2] at hj
      rw [ht, d3 j, if_pos ⟨Nat.zero_le _, hj⟩]
      exact E_gd (d4 j (Nat.zero_le _) hj)
    · exfalso
      by_cases h : n + 0 ≤ j ∧ j < n + g.length
      · rw [e4 j h.1 h.2] at j3; cases j3
      · have hgd := lw_ hr j2
        rw [oM_ hcn hgd (by omega)] at j3
        unfold gdI at hgd
        rw [j3] at hgd; cases hgd
  · rcases hR with ⟨t2, k2, d1, d2, d3, d4⟩ | ⟨d1, _⟩
    · rw [d4 j (Nat.zero_le _) (by omega)] at j3; cases j3
    · exact .inr ⟨e1, d1⟩
theorem i0_ (p : List I) {g : List I} (hg : ak_ p (af_ p) = g) (hg' : ae_ p (ac_ p) = g) (h1 : 1 ≤ g.length) {m : Nat} : ∀ (fu : Nat) (i : Int) (r f : List I), r.all gdI = true → r.length = m → i + g.length ≤ m →
    bJ_ p fu r i f = (match ct_ p fu i r f with | .inl (i, r, f) => .inl (r, i, f) | .inr x => .inr x)
  | 0, i, r, f, _, _, _ => rfl
  | fu + 1, i, r, f, hr, hl, hm => by
    unfold bJ_ ct_
    by_cases h0 : 0 ≤ i
    · rw [decide_eq_true h0]
      simp only [cond_true]
      obtain ⟨n, rfl⟩ := Int.eq_ofNat_of_zero_le h0
      have hat : aQ_ r ((n : Int) + ((((ae_ p (ac_ p)).length : Nat) : Int) - 1)) = r.getD ((n : Int).toNat + ((ak_ p (af_ p)).length - 1)) I0 := by
        rw [hg, hg', at_eq, show (n : Int) + (((g.length : Nat) : Int) - 1) = ((n + (g.length - 1) : Nat) : Int) by omega, j3_, Int.toNat_natCast]
      rw [hat, hg, hg']
      generalize hx : E (Z.quo (r.getD ((n : Int).toNat + (g.length - 1)) I0).dec (g.getD (g.length - 1) I0).dec) = x
      rcases lV_ p (n : Int) r f (r.getD ((n : Int).toNat + (g.length - 1)) I0) x hg hg' rfl hr (by omega) h1 with ⟨t', k', k'', e1, e2, e3, e4⟩ | ⟨e1, e2⟩
      · rw [e1, e2]
        exact i0_ p hg hg' h1 fu _ _ _ e4 (by rw [e3, hl]) (by omega)
      · rw [e1, e2]; rfl
    · rw [decide_eq_false h0]; rfl
theorem oa_ {p : List I} (hp : Rgt p) : cl_ p = bd_ p := by
  have hl := jn_ hp
  have e1 : aa_ p = ab_ p := (fF_ (by omega)).symm
  have e2 : ae_ p (ac_ p) = ak_ p (af_ p) := by
    rw [← iV_ (by omega), ← kO_ (by omega) (Nat.le_trans (c0_ _) (by decide))]
  unfold cl_ bd_
  rw [e1, e2]
  have hb : (ad_ (ak_ p (af_ p)) || ad_ (ab_ p)) = (ai_ (ak_ p (af_ p)) || ai_ (ab_ p)) := by
    rw [dT_, dT_, dz_ (Nat.le_trans (ec_ _ _) (by decide)), dz_ (Nat.le_trans (aA_ _) (by decide))]
  rw [hb]
  cases h : (ai_ (ak_ p (af_ p)) || ai_ (ab_ p))
  · rw [cond_false, cond_false]
    by_cases h0 : (((ab_ p).length : Nat) : Int) = 0
    · have : ((((ab_ p).length : Nat) : Int) == 0) = true := beq_iff_eq.2 h0
      rw [this]; rfl
    · have h0' : ((((ab_ p).length : Nat) : Int) == 0) = false := beq_eq_false_iff_ne.2 h0
      rw [h0', cond_false, cond_false]
      obtain ⟨g1, g2⟩ := kP_ hp h h0
      have hpg : (ab_ p).all gdI = true := by
        have := (Bool.or_eq_false_iff.1 h).2
        rw [dz_ (Nat.le_trans (aA_ _) (by decide))] at this
        simpa using this
      rw [List.length_replicate, show ((((ab_ p).length - ((ak_ p (af_ p)).length - 1) : Nat)) : Int) - 1 = (((ab_ p).length : Nat) : Int) - 1 - ((((ak_ p (af_ p)).length : Nat) : Int) - 1) by omega]
      rw [i0_ p (g := ak_ p (af_ p)) rfl e2 g1 (m := (ab_ p).length) _ _ _ _ hpg rfl (by omega)]
      cases ct_ p ((ab_ p).length + 2) ((((ab_ p).length : Nat) : Int) - 1 - ((((ak_ p (af_ p)).length : Nat) : Int) - 1)) (ab_ p) (List.replicate ((ab_ p).length - ((ak_ p (af_ p)).length - 1)) I0) with
      | inr x => rfl
      | inl s =>
        simp only [sm]
        rw [← ox_, dT_]
        have hmk : aq_ s.2.2 = mkP s.2.2 := kG_ _
        rcases jz_ s.2.2 with hk | hk
        · rw [hmk, hk]; decide +kernel
        · rw [hmk, hk.1, ← kb_ hk.1 hk.2.2]; rfl
  · rw [cond_true, cond_true]; rfl
theorem mi_ (p q : List I) : br_ p q = true := by
  unfold br_
  cases h : (!(aK_ p 10 512) || (!(aK_ q 10 512)))
  · have h1 := few_f (Bool.or_eq_false_iff.1 h).1
    have h2 := few_f (Bool.or_eq_false_iff.1 h).2
    have l1 : p.length ≤ 1000 := by omega
    have l2 : q.length ≤ 1000 := by omega
    rw [kK_ l1 l2, fF_ l1, kO_ l1 l2, oa_ h1.1, g8_, g8_, g8_, g8_, lu_]
    simp
  · rw [cond_true]; exact lu_
end Go.Num


set_option linter.unusedVariables false
set_option linter.unusedSimpArgs false
namespace Go.Num
open Go Go.Kn Go.RowKit Go.ChangeShapes Go.WideShapes
section
variable {H : Type} {enc : TypeId × Value → H} {P : Program} {w : World} {base : Nat} {spare : Nat → Bool} {held : Bool} {α : Type} {e : El α}
theorem Rd.app {a : Addr} {A B : List Value} (h : Rd w a A) (k : Rd w (a.add A.length) B) : Rd w a (A ++ B) := fun j v hj => by
  rcases Nat.lt_or_ge j A.length with h' | h'
  · rw [List.getElem?_append_left h'] at hj; exact h j v hj
  · rw [List.getElem?_append_right h'] at hj
    have := k _ _ hj
    rw [kC_, Nat.add_sub_cancel' h'] at this
    exact this
theorem Rd.of_cells {a : Addr} {n : Nat} {cs : List Value} (h : w.cells? base a n = some cs) : Rd w a cs := fun j v hj => by
  obtain ⟨_, hl, hc⟩ := World.cells?_some h
  have hj' : j < cs.length := (List.getElem?_eq_some_iff.1 hj).1
  have h1 := hc j (by omega)
  rw [hj] at h1
  exact h1
theorem mN_ {a : Addr} {len : Nat} (h : ∀ i, i < len → ∃ x : α, w.cells? base (a.add (i * e.n)) e.n = some (e.cs x)) : ∀ k, k ≤ len → ∃ l : List α, l.length = k ∧ Rd w a (rows e l)
  | 0, _ => ⟨[], rfl, fun j v hj => by simp [rows] at hj⟩
  | k + 1, hk => by
    obtain ⟨l, hl, hr⟩ := mN_ h k (by omega)
    obtain ⟨x, hx⟩ := h k (by omega)
    refine ⟨l ++ [x], by simp [hl], ?_⟩
    rw [e6_]
    refine Rd.app hr ?_
    rw [c4_, hl]
    have := Rd.of_cells hx
    simpa [rows] using this
theorem qc_ {T E : TypeId} {ls : List Leaf} {v : Value} {d : DataW H} {p : List MemPlace} {b0 : Nat} {r : Reach} (hT : P.underlying T = some (.slice E)) (hl : lz P 8 E = some ls) (hn : P.cellsOf E = e.n)
    (op : ∀ cs, LWF cs ls → ∃ x : α, cs = e.cs x) (hv : Value.okWide P w r b0 T v) (ht : DataW.Trod enc P w base spare held T v d p) : ∃ l : List α, Slr w e v l := by
  obtain ⟨fuel, hf⟩ := ht
  have hv' : ∃ a n c, v = .slice a n c := by
    unfold Value.okWide at hv
    rw [hT] at hv
    unfold Cell.okWide at hv
    rw [hT] at hv
    cases v <;> simp_all [Cell.ok]
  obtain ⟨a, n, c, rfl⟩ := hv'
  have e1 : (Value.slice a n c).cells.toList = [.slice a n c] := rfl
  rw [e1] at hf
  rcases DataW.trod_slice hT hf with ⟨h, _⟩ | ⟨a', len, cap, elems, rest, m, _, h, _, _, hlc, hc, hel, hall, _⟩
  · cases h
    exact ⟨[], none, 0, rfl, Nat.le_refl _, by decide, .inl ⟨rfl, rfl, rfl⟩⟩
  · cases h
    have hx : ∀ i, i < n → ∃ x : α, w.cells? base (a'.add (i * e.n)) e.n = some (e.cs x) := fun i hi => by
      have h1 := hall i hi
      rw [List.getElem?_eq_getElem (by omega), hn] at h1
      cases hc' : w.cells? base (a'.add (i * e.n)) e.n with
      | none => rw [hc'] at h1; cases h1
      | some cs =>
        rw [hc'] at h1
        obtain ⟨x, hx⟩ := op cs (gV_ 8 hl h1)
        exact ⟨x, by rw [hx]⟩
    obtain ⟨l, hl', hr⟩ := mN_ hx n (Nat.le_refl _)
    exact ⟨l, some a', c, by rw [hl'], by omega, hc, .inr ⟨a', rfl, hr⟩⟩
end
theorem rv_ {cs : List Value} (h : LWF cs LI) : ∃ x : I, cs = elI.cs x := by
  obtain ⟨x0, rfl⟩ := openI h
  exact ⟨x0, by first | rfl | exact (List.append_nil _).symm | simp [El.cs, elI, flat]⟩
end Go.Num

