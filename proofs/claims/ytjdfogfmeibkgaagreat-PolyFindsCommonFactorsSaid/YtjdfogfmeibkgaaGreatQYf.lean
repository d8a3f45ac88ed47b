/- Walks: what these functions return. Polynomials: what is right; small facts. No program stands in it. -/
import Derived.Test.YtjdfogfmeibkgaaGreatQGE
import Derived.Test.YtjdfogfmeibkgaaGreatQFp
import Derived.Test.YtjdfogfmeibkgaaGreatQSa
import Derived.Test.YtjdfogfmeibkgaaGreatQWc
import Derived.Test.YtjdfogfmeibkgaaGreatQWe
import Derived.Test.YtjdfogfmeibkgaaGreatQWh
import Derived.Test.YtjdfogfmeibkgaaGreatQGf
import Derived.Test.YtjdfogfmeibkgaaGreatQYb
import Derived.Test.YtjdfogfmeibkgaaGreatQYg
import Derived.Test.YtjdfogfmeibkgaaGreatQYr
import Derived.KernelRfl
namespace Go.Proofs.YtjdfogfmeibkgaaGreat
open Go.Kn Go.Num
set_option linter.unusedVariables false
set_option linter.unusedSimpArgs false
set_option maxRecDepth 20000
set_option maxHeartbeats 8000000
theorem fb_ (vp : Value) (p : (List I)) (w : World) (hp : Slr w elI vp p) (hpre : Rgt p ∧ p.length ≤ 100) :
    Calls Tryz.prog 29 [vp].toArray w (fun e w' => ∃ v, e = .returned (v) ∧ Ext w w' ∧ Slo w.heap.size w' 38 elI v (af_ p)) := by
 obtain ⟨p_p, c_p, rfl⟩ := hp.form
 refine bs_ (n := 92) (fun v => v) Tryz.func29 rfl rfl (by simp) ?_
 obtain ⟨w0, rfl⟩ : ∃ w0, w0 = w := ⟨_, rfl⟩
 have Hp := hp.old
 have hm_p := hp.max
 simp only [initF, Nat.reduceAdd]
 refine Rs fun K J => sE rfl (nl J (Rs fun K J => sE rfl (sE rfl (WL_r rfl (an_ (E := 38) (e := elI) (l := (ad_ p)) (fun v => v) en_33 rfl (fun w hw => eD_ _ p w (SLe.ap hw (SLe.sub Hp sn)) (by first | omega | (simp only [List.length_cons, List.length_nil, and_true, true_and] <;> omega) | simp)) (fun p1 c2 L3 hF4 => ?_))))))
 have hb5 := (cM_ p)
 refine WL_r rfl (an_ (E := 38) (e := elI) (l := (ac_ p (ad_ p))) (fun v => v) en_27 rfl (fun w hw => d9_ _ p _ (ad_ p) w (SLe.ap hw (SLe.sub Hp sn)) (SLe.ap hw (SLfe.sle (OwnG.slfe hF4 (List.sublist_append_left _ _)))) (by first | omega | (simp only [List.length_cons, List.length_nil, and_true, true_and] <;> omega) | simp)) (fun p6 c7 L8 hF9 => ?_))
 have hb10 := (dC_ p (ad_ p))
 refine sE rfl (WL_r rfl (an_ (E := 38) (e := elI) (l := (ab_ p)) (fun v => v) en_25 rfl (fun w hw => bM_ _ p w (SLe.ap hw (SLe.sub Hp sn)) (by first | omega | (simp only [List.length_cons, List.length_nil, and_true, true_and] <;> omega) | simp)) (fun p11 c12 L13 hF14 => ?_)))
 have hb15 := (ay_ p)
 refine sE rfl (sE rfl (nl J (Sq fun K1 J1 => ?_)))
 refine bD_ [16, 17, 18, 19, 20, 21] (fun g M => (g 21 = .bool ((ae_ (ac_ p (ad_ p))) || (ae_ (ab_ p)))) ∧ M = (L13 ++ (L8 ++ (L3 ++ [])))) (fun K2 J2 => ?_) ?_
 ·skip
  refine Rk fun K J => sE rfl (sQ (q_as (v' := .bool (ae_ (ac_ p (ad_ p)))) (aH_ en_18 rfl (fun w hw => aC_ _ (ac_ p (ad_ p)) w (SLe.ap hw (SLfe.sle (OwnG.slfe hF9 (sR (List.sublist_append_left _ _))))))) rfl) rfl ?_)
  rcases bt (ae_ (ac_ p (ad_ p))) with h17 | h17
  ·skip
   refine sB h17 rfl (WL_n rfl (WL_n rfl (sE rfl (nl J ?_))))
   refine J2 _ _ (by repeat first | exact .refl | refine .cons rfl ?_) ⟨_, s0, ?s21, rfl⟩
   case s21 => exact congrArg Value.bool (or_t h17)
  ·skip
   refine sB h17 rfl (sE rfl (sQ (q_as (v' := .bool (ae_ (ab_ p))) (aH_ en_18 rfl (fun w hw => aC_ _ (ab_ p) w (SLe.ap hw (SLfe.sle (OwnG.slfe hF14 (List.sublist_append_left _ _)))))) rfl) rfl (sE rfl (nl J ?_))))
   refine J2 _ _ (by repeat first | exact .refl | refine .cons rfl ?_) ⟨_, s0, ?s21, rfl⟩
   case s21 => exact congrArg Value.bool (or_f h17 rfl)
 ·skip
  rintro g18 M ⟨hg21, rfl⟩
  simp only [setG, hg21]
  clear hg21
  rcases bt ((ae_ (ac_ p (ad_ p))) || (ae_ (ab_ p))) with h19 | h19
  ·skip
   refine W_t h19 rfl (Rs fun K J => WL_r rfl (an_ (E := 38) (e := elI) (l := F_poly_bad) (fun v => v) en_76 rfl (fun w hw => bO_  w) (fun p20 c21 L22 hF23 => sE rfl (nl J (W_ret (aj_ (ret1 rfl (.inr rfl) rfl ?_)))))))
   have hE : (F_poly_bad : (List I)) = (af_ p) := by exact bif_t h19 rfl
   rw [← hE]
   exact ⟨_, rfl, ⟨L22, (List.sublist_append_left _ _), hF23⟩⟩
  ·skip
   refine W_f h19 rfl (am_ (J1 _ _ (Sq fun K3 J3 => Rs fun K J => sE rfl (sQ (q_as (v' := .int .i64 ((((ab_ p)).length : Nat) : Int)) (aS_ (e := elI) sl_24 rfl (SLfe.sle (OwnG.slfe hF14 (List.sublist_append_left _ _)))) rfl) rfl (sE rfl (nl J ?_))))))
   rcases bt (((((ab_ p)).length : Nat) : Int) == 0) with h24 | h24
   ·skip
    have ph24 := ea_ h24
    refine W_t h24 rfl (Rs fun K J => sE rfl (nl J (W_ret (aj_ (ret1 rfl (.inr rfl) rfl ?_)))))
    have hE : (([] : List I) : (List I)) = (af_ p) := by exact bif_f h19 (bif_t h24 rfl)
    rw [← hE]
    exact ⟨_, rfl, ⟨[], sn, OwnG.nil⟩⟩
   ·skip
    have ph24 := c9_ h24
    refine W_f h24 rfl (am_ (J3 _ _ (Rs fun K J => ?_)))
    have hfr := pM_ hpre.1 h19 (c9_ h24)
    refine sE rfl (sQ (q_as (v' := .int .i64 ((((ac_ p (ad_ p))).length : Nat) : Int)) (aS_ (e := elI) sl_24 rfl (SLfe.sle (OwnG.slfe hF9 (sR (List.sublist_append_left _ _))))) rfl) rfl (sV (.int .i64 (((((ac_ p (ad_ p))).length : Nat) : Int) - 1)) rfl (congrArg (Value.int .i64) (wx (by omega) (by omega) (by omega))) (sE rfl (nl J (Rs fun K J => sE rfl (sQ (q_as (v' := .int .i64 ((((ab_ p)).length : Nat) : Int)) (aS_ (e := elI) sl_24 rfl (SLfe.sle (OwnG.slfe hF14 (List.sublist_append_left _ _)))) rfl) rfl (sE rfl (sV (.int .i64 (((((ab_ p)).length : Nat) : Int) - (((((ac_ p (ad_ p))).length : Nat) : Int) - 1))) rfl (congrArg (Value.int .i64) (wx (by omega) (by omega) (by omega))) (WL_r rfl (j2_ (E := 38) (e := elI) (n := (((ab_ p)).length - (((ac_ p (ad_ p))).length - 1))) (c := (((ab_ p)).length - (((ac_ p (ad_ p))).length - 1))) 68 I0 us_24 (by kernel_rfl) (by decide) (by kernel_rfl) rfl rfl (by omega) (by omega) (by omega) (by omega) (by decide) (by decide) (fun p25 L26 hO27 => ?_)))))))))))
    have hl28 : (List.replicate (((ab_ p)).length - (((ac_ p (ad_ p))).length - 1)) I0).length = (((ab_ p)).length - (((ac_ p (ad_ p))).length - 1)) := List.length_replicate
    refine sE rfl (nl J (Sq fun K4 J4 => Rs fun K J => sE rfl (sQ (q_as (v' := .int .i64 ((((List.replicate (((ab_ p)).length - (((ac_ p (ad_ p))).length - 1)) I0)).length : Nat) : Int)) (aS_ (e := elI) sl_24 rfl (SLfe.sle (OwnG.slfe hO27 (List.sublist_append_left _ _)))) rfl) rfl (sV (.int .i64 (((((List.replicate (((ab_ p)).length - (((ac_ p (ad_ p))).length - 1)) I0)).length : Nat) : Int) - 1)) rfl (congrArg (Value.int .i64) (wx (by omega) (by omega) (by omega))) (sE rfl (nl J ?_))))))
    refine ch_ (fun S M h => J4 S M h) [2, 7, 8, 9, 37, 38, 39, 40, 41, 42, 43, 44, 45, 46, 47, 48, 49, 50, 51, 52, 53, 54, 55, 56, 57, 58, 59, 60, 61, 62, 63, 64, 65, 66, 67, 68, 69, 70, 71, 72, 73, 74, 75, 76, 77, 78, 79, 80, 81, 82, 83, 84, 85, 86, 87, 88] (fun g M => ∃ (i : Int) (r : List I) (f : List I) (L_r : List Blk) (L_f : List Blk), (bu_ p (((ab_ p).length + 2)) (((((List.replicate (((ab_ p)).length - (((ac_ p (ad_ p))).length - 1)) I0)).length : Nat) : Int) - 1) (ab_ p) (List.replicate (((ab_ p)).length - (((ac_ p (ad_ p))).length - 1)) I0)) = .inl (i, r, f) ∧ (f.length ≤ 200) ∧ (g 7 = .int .i64 i ∧ OwnG w0 38 elI (.slice p11 (ab_ p).length c12) r L_r ∧ OwnG w0 38 elI (.slice p25 (List.replicate (((ab_ p)).length - (((ac_ p (ad_ p))).length - 1)) I0).length (((ab_ p)).length - (((ac_ p (ad_ p))).length - 1))) f L_f) ∧ M = (L_f ++ (L_r ++ (L8 ++ (L3 ++ []))))) (fun K_u29 hK_u29 => ?_) ?_
    ·skip
     refine aq_ ?_
     refine aL_ [2, 7, 8, 9, 37, 38, 39, 40, 41, 42, 43, 44, 45, 46, 47, 48, 49, 50, 51, 52, 53, 54, 55, 56, 57, 58, 59, 60, 61, 62, 63, 64, 65, 66, 67, 68, 69, 70, 71, 72, 73, 74, 75, 76, 77, 78, 79, 80, 81, 82, 83, 84, 85, 86, 87, 88] (fun g nn M => ∃ (i : Int) (r : List I) (f : List I) (L_r : List Blk) (L_f : List Blk), (bu_ p nn i r f) = (bu_ p (((ab_ p).length + 2)) (((((List.replicate (((ab_ p)).length - (((ac_ p (ad_ p))).length - 1)) I0)).length : Nat) : Int) - 1) (ab_ p) (List.replicate (((ab_ p)).length - (((ac_ p (ad_ p))).length - 1)) I0)) ∧ (i + 1).toNat < nn ∧ (i < (f.length : Int) ∧ -1 ≤ i ∧ f.length = (ab_ p).length + 1 - ((ac_ p (ad_ p))).length ∧ r.length = (ab_ p).length) ∧ (g 7 = .int .i64 i ∧ OwnG w0 38 elI (.slice p11 (ab_ p).length c12) r L_r ∧ OwnG w0 38 elI (.slice p25 (List.replicate (((ab_ p)).length - (((ac_ p (ad_ p))).length - 1)) I0).length (((ab_ p)).length - (((ac_ p (ad_ p))).length - 1))) f L_f) ∧ M = (L_f ++ (L_r ++ (L8 ++ (L3 ++ []))))) (((ab_ p).length + 2)) ?start ?round
     case start => exact ⟨_, s0, (((((List.replicate (((ab_ p)).length - (((ac_ p (ad_ p))).length - 1)) I0)).length : Nat) : Int) - 1), (ab_ p), (List.replicate (((ab_ p)).length - (((ac_ p (ad_ p))).length - 1)) I0), L13, L26, rfl, (by first | omega | (simp only [List.length_append, List.length_cons, List.length_nil, List.length_set, List.length_take, and_true, true_and, or_true, true_or, Nat.zero_add] <;> omega)), (by first | omega | (simp only [List.length_append, List.length_cons, List.length_nil, List.length_set, List.length_take, and_true, true_and, or_true, true_or, Nat.zero_add] <;> omega)), ⟨rfl, hF14, hO27⟩, rfl⟩
     case round =>
      rintro nn g M ⟨i, r, f, L_r, L_f, hT0, hq0, hinv0, ⟨hg7, hO_r, hO_f⟩, rfl⟩
      obtain ⟨k0, rfl⟩ : ∃ m, nn = m + 1 := ⟨nn - 1, by omega⟩
      simp only [setG, hg7]
      clear hg7
      have hm_r := OwnG.max hO_r
      have hm_f := OwnG.max hO_f
      refine Sq fun K21 J21 => Rs fun K J => sE rfl (sE rfl (nl J ?_))
      rcases bt (decide (0 ≤ i)) with h100 | h100
      ·skip
       have ph100 := of_decide_eq_true h100
       refine W_t h100 rfl (am_ (J21 _ _ (Sq fun K22 J22 => aq_ (ds (sR s0) [0,4,8,12,16,20,24,28,32,36,40,44,48,52,57] [14] mix (by kernel_rfl) (fun K J => pE rfl (pE rfl (pE rfl (pE rfl (pE rfl (pV (.int .i64 (i + (((((ac_ p (ad_ p))).length : Nat) : Int) - 1))) rfl (congrArg (Value.int .i64) (wx (by omega) (by omega) (by omega))) (pQ rfl (q_as (v' := .pointer (some (slb (.slice p11 (ab_ p).length c12) (((i).toNat + (((ac_ p (ad_ p))).length - 1)) * 18 + 0)))) (c4_ (e := elI) (l := r) (k := ((i).toNat + (((ac_ p (ad_ p))).length - 1))) sl_24 rfl rfl (by omega) (SLfe.sle (OwnG.slfe hO_r (sR (List.sublist_append_left _ _)))) (by first | omega | (simp only [List.length_set, List.length_append, List.length_cons, List.length_nil]; omega))) rfl) ?_)))))))))))
       refine pQ rfl (q_ldG (e := elI) (l := r) (k := ((i).toNat + (((ac_ p (ad_ p))).length - 1))) (o := 0) ty_38 rfl (SLfe.sle (OwnG.slfe hO_r (sR (List.sublist_append_left _ _)))) (aA_ I0 (by first | omega | (simp only [List.length_set, List.length_append, List.length_cons, List.length_nil]; omega))) rfl) ?_
       refine pE rfl (pE rfl (pQ rfl (q_as (v' := .pointer (some (slb (.slice p6 (ac_ p (ad_ p)).length c7) ((((ac_ p (ad_ p))).length - 1) * 18 + 0)))) (c4_ (e := elI) (l := (ac_ p (ad_ p))) (k := (((ac_ p (ad_ p))).length - 1)) sl_24 rfl rfl (by omega) (SLfe.sle (OwnG.slfe hF9 (sR (sR (List.sublist_append_left _ _))))) (by first | omega | (simp only [List.length_set, List.length_append, List.length_cons, List.length_nil]; omega))) rfl) ?_))
       refine pQ rfl (q_ldG (e := elI) (l := (ac_ p (ad_ p))) (k := (((ac_ p (ad_ p))).length - 1)) (o := 0) ty_38 rfl (SLfe.sle (OwnG.slfe hF9 (sR (sR (List.sublist_append_left _ _))))) (aA_ I0 (by first | omega | (simp only [List.length_set, List.length_append, List.length_cons, List.length_nil]; omega))) rfl) ?_
       obtain ⟨r101, hr101⟩ := nm ((E (Z.quo (r.getD ((i).toNat + (((ac_ p (ad_ p))).length - 1)) I0).dec ((ac_ p (ad_ p)).getD (((ac_ p (ad_ p))).length - 1) I0).dec)) : I)
       refine pC (AV [pI r101]) en_88 (ca_ (r.getD ((i).toNat + (((ac_ p (ad_ p))).length - 1)) I0).1 ((ac_ p (ad_ p)).getD (((ac_ p (ad_ p))).length - 1) I0).1 (r.getD ((i).toNat + (((ac_ p (ad_ p))).length - 1)) I0).2 ((ac_ p (ad_ p)).getD (((ac_ p (ad_ p))).length - 1) I0).2) rfl rfl (by rw [hr101]; first | done | rfl) (pQ rfl (q_as (v' := .pointer (some (slb (.slice p25 (List.replicate (((ab_ p)).length - (((ac_ p (ad_ p))).length - 1)) I0).length (((ab_ p)).length - (((ac_ p (ad_ p))).length - 1))) (((i).toNat) * 18 + 0)))) (c4_ (e := elI) (l := f) (k := (i).toNat) sl_24 rfl rfl (by omega) (SLfe.sle (OwnG.slfe hO_f (List.sublist_append_left _ _))) (by first | omega | (simp only [List.length_set, List.length_append, List.length_cons, List.length_nil]; omega))) rfl) ?_)
       refine PL_o rfl rfl (gh_ (e := elI) (l := f) (k := (i).toNat) (z := r101) ty_38 rfl rfl hO_f (by first | omega | (simp only [List.length_set, List.length_append, List.length_cons, List.length_nil]; omega)) rp_l rfl rfl (fun L102 hO103 => ⟨nf, (sR s0), ?_⟩))
       refine fl J (Rs fun K J => sE rfl (sQ (q_as (v' := .int .i64 ((((ac_ p (ad_ p))).length : Nat) : Int)) (aS_ (e := elI) sl_24 rfl (SLfe.sle (OwnG.slfe hF9 (sR (sR (List.sublist_append_left _ _)))))) rfl) rfl (sE rfl (nl J ?_))))
       refine ch_ (fun S M h => J22 S M h) [2, 8, 9, 57, 58, 59, 60, 61, 62, 63, 64, 65, 66, 67, 68, 69, 70, 71, 72, 73, 74, 75, 76, 77, 78, 79, 80, 81, 82, 83, 84, 85, 86, 87, 88] (fun g M => ∃ (k : Nat) (t : List I) (L_t : List Blk), (bv_ p i r f r101 ((((ac_ p (ad_ p))).length + 1)) 0 r) = .inl (k, t) ∧ (t.length = r.length) ∧ (g 57 = .int .i64 ((k : Nat) : Int) ∧ OwnG w0 38 elI (.slice p11 (ab_ p).length c12) t L_t) ∧ M = (L102 ++ (L_t ++ (L8 ++ (L3 ++ []))))) (fun K_u104 hK_u104 => ?_) ?_
       ·skip
        refine aq_ ?_
        refine aL_ [2, 8, 9, 57, 58, 59, 60, 61, 62, 63, 64, 65, 66, 67, 68, 69, 70, 71, 72, 73, 74, 75, 76, 77, 78, 79, 80, 81, 82, 83, 84, 85, 86, 87, 88] (fun g nn M => ∃ (k : Nat) (t : List I) (L_t : List Blk), (bv_ p i r f r101 nn k t) = (bv_ p i r f r101 ((((ac_ p (ad_ p))).length + 1)) 0 r) ∧ ((ac_ p (ad_ p))).length - k < nn ∧ (k ≤ ((ac_ p (ad_ p))).length ∧ t.length = r.length) ∧ (g 57 = .int .i64 ((k : Nat) : Int) ∧ OwnG w0 38 elI (.slice p11 (ab_ p).length c12) t L_t) ∧ M = (L102 ++ (L_t ++ (L8 ++ (L3 ++ []))))) ((((ac_ p (ad_ p))).length + 1)) ?start ?round
        case start => exact ⟨_, s0, 0, r, L_r, rfl, (by first | omega | (simp only [List.length_append, List.length_cons, List.length_nil, List.length_set, List.length_take, and_true, true_and, or_true, true_or, Nat.zero_add] <;> omega)), (by first | omega | (simp only [List.length_append, List.length_cons, List.length_nil, List.length_set, List.length_take, and_true, true_and, or_true, true_or, Nat.zero_add] <;> omega)), ⟨rfl, hO_r⟩, rfl⟩
        case round =>
         rintro nn g M ⟨k, t, L_t, hT1, hq1, hinv1, ⟨hg57, hO_t⟩, rfl⟩
         obtain ⟨k1, rfl⟩ : ∃ m, nn = m + 1 := ⟨nn - 1, by omega⟩
         simp only [setG, hg57]
         clear hg57
         have hm_t := OwnG.max hO_t
         refine Rs fun K J => sE rfl (nl J (Sq fun K27 J27 => ?_))
         rcases bt (decide (((k : Nat) : Int) < ((((ac_ p (ad_ p))).length : Nat) : Int))) with h125 | h125
         ·skip
          have ph125 := of_decide_eq_true h125
          refine W_t h125 rfl (am_ (J27 _ _ (Sq fun K28 J28 => aq_ (Rs fun K J => sE rfl (sQ (q_as (v' := .pointer (some (slb (.slice p6 (ac_ p (ad_ p)).length c7) (k * 18 + 0)))) (cp_ (e := elI) (l := (ac_ p (ad_ p))) (k := k) sl_24 rfl rfl (SLfe.sle (OwnG.slfe hF9 (sR (sR (List.sublist_append_left _ _))))) (by first | omega | (simp only [List.length_set, List.length_append, List.length_cons, List.length_nil]; omega))) rfl) rfl ?_)))))
          refine sQ (q_ldG (e := elI) (l := (ac_ p (ad_ p))) (k := k) (o := 0) ty_38 rfl (SLfe.sle (OwnG.slfe hF9 (sR (sR (List.sublist_append_left _ _))))) (aA_ I0 (by first | omega | (simp only [List.length_set, List.length_append, List.length_cons, List.length_nil]; omega))) rfl) rfl ?_
          refine sN zp_38 rfl fun b126 hb126 => sE rfl (sS [pI ((ac_ p (ad_ p)).getD k I0)] ty_38 rfl rfl rfl rfl rfl (.head _) rfl hb126 (nl J (ds (sk (sA (sR s0))) [0,4,8,12,16,20,24,28,32,36,40,44,48,52,56,60,64,68,73] [18] mix (by kernel_rfl) (fun K J => pE rfl (pE rfl (pE rfl (pV (.int .i64 (i + ((k : Nat) : Int))) rfl (congrArg (Value.int .i64) (wx (by omega) (by omega) (by omega))) (pE rfl (pE rfl (pE rfl (pV (.int .i64 (i + ((k : Nat) : Int))) rfl (congrArg (Value.int .i64) (wx (by omega) (by omega) (by omega))) (pQ rfl (q_as (v' := .pointer (some (slb (.slice p11 (ab_ p).length c12) (((i).toNat + k) * 18 + 0)))) (c4_ (e := elI) (l := t) (k := ((i).toNat + k)) sl_24 rfl rfl (by omega) (SLfe.sle (OwnG.slfe hO_t (sd (sR (List.sublist_append_left _ _))))) (by first | omega | (simp only [List.length_set, List.length_append, List.length_cons, List.length_nil]; omega))) rfl) ?_))))))))))))
          refine pQ rfl (q_ldG (e := elI) (l := t) (k := ((i).toNat + k)) (o := 0) ty_38 rfl (SLfe.sle (OwnG.slfe hO_t (sd (sR (List.sublist_append_left _ _))))) (aA_ I0 (by first | omega | (simp only [List.length_set, List.length_append, List.length_cons, List.length_nil]; omega))) rfl) ?_
          refine pE rfl (pE rfl (pQ rfl (q_as (v' := .pointer (some (slb (.slice p25 (List.replicate (((ab_ p)).length - (((ac_ p (ad_ p))).length - 1)) I0).length (((ab_ p)).length - (((ac_ p (ad_ p))).length - 1))) (((i).toNat) * 18 + 0)))) (c4_ (e := elI) (l := (f.set ((i).toNat) r101)) (k := (i).toNat) sl_24 rfl rfl (by omega) (SLfe.sle (OwnG.slfe hO103 (sd (List.sublist_append_left _ _)))) (by first | omega | (simp only [List.length_set, List.length_append, List.length_cons, List.length_nil]; omega))) rfl) ?_))
          refine pQ rfl (q_ldG (e := elI) (l := (f.set ((i).toNat) r101)) (k := (i).toNat) (o := 0) ty_38 rfl (SLfe.sle (OwnG.slfe hO103 (sd (List.sublist_append_left _ _)))) (aA_ I0 (by first | omega | (simp only [List.length_set, List.length_append, List.length_cons, List.length_nil]; omega))) rfl) ?_
          refine pQ rfl (qL ty_38 rfl m0 rfl) ?_
          obtain ⟨r127, hr127⟩ := nm ((E (Z.mul ((f.set ((i).toNat) r101).getD ((i).toNat) I0).dec ((ac_ p (ad_ p)).getD k I0).dec)) : I)
          refine pC (AV [pI r127]) en_77 (aK_ ((f.set ((i).toNat) r101).getD ((i).toNat) I0).1 ((ac_ p (ad_ p)).getD k I0).1 ((f.set ((i).toNat) r101).getD ((i).toNat) I0).2 ((ac_ p (ad_ p)).getD k I0).2) rfl rfl (by rw [hr127]; first | done | rfl) (pC (AV [pI (E (Z.sub (t.getD ((i).toNat + k) I0).dec r127.dec))]) en_78 (dg_ (t.getD ((i).toNat + k) I0).1 r127.1 (t.getD ((i).toNat + k) I0).2 r127.2) rfl rfl rfl (pQ rfl (q_as (v' := .pointer (some (slb (.slice p11 (ab_ p).length c12) (((i).toNat + k) * 18 + 0)))) (c4_ (e := elI) (l := t) (k := ((i).toNat + k)) sl_24 rfl rfl (by omega) (SLfe.sle (OwnG.slfe hO_t (sd (sR (List.sublist_append_left _ _))))) (by first | omega | (simp only [List.length_set, List.length_append, List.length_cons, List.length_nil]; omega))) rfl) ?_))
          refine PL_o rfl rfl (gh_ (e := elI) (l := t) (k := ((i).toNat + k)) (z := (E (Z.sub (t.getD ((i).toNat + k) I0).dec r127.dec))) ty_38 rfl rfl hO_t (by first | omega | (simp only [List.length_set, List.length_append, List.length_cons, List.length_nil]; omega)) (rp_s (rp_sl rp_l)) rfl rfl (fun L128 hO129 => ⟨nf, (sk (sA (sR s0))), ?_⟩))
          refine fl J (Rs fun K J => sE rfl (sE rfl (sE rfl (sV (.int .i64 (i + ((k : Nat) : Int))) rfl (congrArg (Value.int .i64) (wx (by omega) (by omega) (by omega))) (sQ (q_as (v' := .pointer (some (slb (.slice p11 (ab_ p).length c12) (((i).toNat + k) * 18 + 0)))) (c4_ (e := elI) (l := (t.set ((i).toNat + k) (E (Z.sub (t.getD ((i).toNat + k) I0).dec r127.dec)))) (k := ((i).toNat + k)) sl_24 rfl rfl (by omega) (SLfe.sle (OwnG.slfe hO129 (sd (sR (List.sublist_append_left _ _))))) (by first | omega | (simp only [List.length_set, List.length_append, List.length_cons, List.length_nil]; omega))) rfl) rfl ?_)))))
          refine sQ (q_as (v' := .pointer (some (slb (.slice p11 (ab_ p).length c12) (((i).toNat + k) * 18 + 0)))) (mj_ eu_ rfl rfl) rfl) rfl (sQ (jD_ (u := .bool (((t.set ((i).toNat + k) (E (Z.sub (t.getD ((i).toNat + k) I0).dec r127.dec))).getD ((i).toNat + k) I0).1.bad)) (e := elI) (l := (t.set ((i).toNat + k) (E (Z.sub (t.getD ((i).toNat + k) I0).dec r127.dec)))) (k := ((i).toNat + k)) (o := 0) ty_4 rfl (SLfe.sle (OwnG.slfe hO129 (sd (sR (List.sublist_append_left _ _))))) (aA_ I0 (by first | omega | (simp only [List.length_set, List.length_append, List.length_cons, List.length_nil]; omega))) rfl) rfl ?_)
          refine nl J ?_
          rcases bt (((t.set ((i).toNat + k) (E (Z.sub (t.getD ((i).toNat + k) I0).dec r127.dec))).getD ((i).toNat + k) I0).1.bad) with h130 | h130
          ·skip
           refine W_t h130 rfl (Rs fun K J => WL_r rfl (an_ (E := 38) (e := elI) (l := F_poly_bad) (fun v => v) en_76 rfl (fun w hw => bO_  w) (fun p131 c132 L133 hF134 => sE rfl (nl J (W_ret (aX_ (aj_ (aj_ (aX_ (aj_ (aX_ (aj_ (aj_ (aX_ (aj_ (aj_ (ret1 rfl (.inr rfl) rfl ?_)))))))))))))))))
           have hE : (F_poly_bad : (List I)) = (af_ p) := by subst hr127; subst hr101; exact bif_f h19 (bif_f h24 ((sm_q rfl (hT0.symm.trans (Eq.symm (bif_t h100 ((sm_q rfl (hT1.symm.trans (Eq.symm (bif_t h125 (bif_t h130 rfl))))))))))))
           rw [← hE]
           exact ⟨_, rfl, ⟨L133, (List.sublist_append_left _ _), hF134⟩⟩
          ·skip
           refine W_f h130 rfl (am_ (J28 _ _ (Rk fun K J => sV (.int .i64 (((k + 1) : Nat) : Int)) rfl (congrArg (Value.int .i64) (wx (by omega) (by omega) (by omega))) (sE rfl (nl J (⟨(by repeat first | exact .refl | refine .cons rfl ?_), _, _, (sd (s0)), (Nat.lt_succ_self _), (k + 1), (t.set ((i).toNat + k) (E (Z.sub (t.getD ((i).toNat + k) I0).dec r127.dec))), L128, (by subst hr127; exact (hT1.symm.trans (Eq.symm (bif_t h125 (bif_f h130 rfl)))).symm), (Nat.lt_of_lt_of_le (by first | omega | (simp only [List.length_append, List.length_cons, List.length_nil, List.length_set, List.length_take, and_true, true_and, or_true, true_or, Nat.zero_add] <;> omega)) (Nat.le_of_lt_succ hq1)), (by first | omega | (simp only [List.length_append, List.length_cons, List.length_nil, List.length_set, List.length_take, and_true, true_and, or_true, true_or, Nat.zero_add] <;> omega)), ⟨rfl, hO129⟩, rfl⟩))))))
         ·skip
          have ph125 := of_decide_eq_false h125
          refine W_f h125 rfl (bw_ (ap_ (ap_ (as_ (hK_u104 _ _ (by repeat first | exact .refl | refine .cons rfl ?_) ⟨_, s0, k, t, L_t, (by exact hT1.symm.trans (Eq.symm (bif_f h125 rfl))), (by first | omega | (simp only [List.length_append, List.length_cons, List.length_nil, List.length_set, List.length_take, and_true, true_and, or_true, true_or, Nat.zero_add] <;> omega)), ⟨rfl, hO_t⟩, rfl⟩)))))
       ·skip
        rintro g M ⟨k, t, L_t, hCu104, hPu104, ⟨hg57, hO_t⟩, rfl⟩
        simp only [setG, hg57]
        clear hg57
        have hm_t := OwnG.max hO_t
        refine Rk fun K J => sE rfl (sV (.int .i64 (i - 1)) rfl (congrArg (Value.int .i64) (wx (by omega) (by omega) (by omega))) (sE rfl (nl J (⟨(by repeat first | exact .refl | refine .cons rfl ?_), _, _, s0, (Nat.lt_succ_self _), (i - 1), t, (f.set ((i).toNat) r101), L_t, L102, (by subst hr101; exact (hT0.symm.trans (Eq.symm (bif_t h100 (trs (Eq.symm (smS hCu104)) rfl)))).symm), (Nat.lt_of_lt_of_le (by first | omega | (simp only [List.length_append, List.length_cons, List.length_nil, List.length_set, List.length_take, and_true, true_and, or_true, true_or, Nat.zero_add] <;> omega)) (Nat.le_of_lt_succ hq0)), (by first | omega | (simp only [List.length_append, List.length_cons, List.length_nil, List.length_set, List.length_take, and_true, true_and, or_true, true_or, Nat.zero_add] <;> omega)), ⟨rfl, hO_t, hO103⟩, rfl⟩))))
      ·skip
       have ph100 := of_decide_eq_false h100
       refine W_f h100 rfl (bw_ (ap_ (ap_ (as_ (hK_u29 _ _ (by repeat first | exact .refl | refine .cons rfl ?_) ⟨_, s0, i, r, f, L_r, L_f, (by exact hT0.symm.trans (Eq.symm (bif_f h100 rfl))), (by first | omega | (simp only [List.length_append, List.length_cons, List.length_nil, List.length_set, List.length_take, and_true, true_and, or_true, true_or, Nat.zero_add] <;> omega)), ⟨rfl, hO_r, hO_f⟩, rfl⟩)))))
    ·skip
     rintro g M ⟨i, r, f, L_r, L_f, hCu29, hPu29, ⟨hg7, hO_r, hO_f⟩, rfl⟩
     simp only [setG, hg7]
     clear hg7
     have hm_r := OwnG.max hO_r
     have hm_f := OwnG.max hO_f
     refine Rs fun K J => sE rfl (WL_r rfl (an_ (E := 38) (e := elI) (l := (ak_ f)) (fun v => v) en_15 rfl (fun w hw => dh_ _ f w (SLe.ap hw (SLfe.sle (OwnG.slfe hO_f (List.sublist_append_left _ _)))) (by first | omega | (simp only [List.length_cons, List.length_nil, and_true, true_and] <;> omega) | simp)) (fun p135 c136 L137 hF138 => ?_)))
     have hb139 := (cw_ f)
     refine WL_r rfl (r_inl en_91 Tryz.func91 rfl rfl rfl (Nat.le_of_ble_eq_true rfl) ?_)
     refine Rs fun Kd1 Jd1 => sE rfl (eK_ (Jd1 _ _ (Sq fun K29 J29 => ?_)))
     refine bD_ [3, 4, 5, 6, 7, 8, 9, 10, 11, 12, 13, 14, 15] (fun g M => (g 15 = .bool ((((((ak_ f)).length : Nat) : Int) == 0) || decide (0 < (Z.signW ((ak_ f).getD (((ak_ f)).length - 1) I0).dec).1))) ∧ M = (L137 ++ (L_f ++ (L_r ++ (L8 ++ (L3 ++ [])))))) (fun K30 J30 => ?_) ?_
     ·skip
      refine Rk fun Kd1 Jd1 => sE rfl (sQ (q_as (v' := .int .i64 ((((ak_ f)).length : Nat) : Int)) (aS_ (e := elI) sl_24 rfl (SLfe.sle (OwnG.slfe hF138 (List.sublist_append_left _ _)))) rfl) rfl (sE rfl ?_))
      rcases bt (((((ak_ f)).length : Nat) : Int) == 0) with h141 | h141
      ·skip
       have ph141 := ea_ h141
       refine sB h141 rfl (WL_n rfl (WL_n rfl (WL_n rfl (WL_n rfl (WL_n rfl (WL_n rfl (WL_n rfl (WL_n rfl (sE rfl (eK_ (Jd1 _ _ ?_)))))))))))
       refine J30 _ _ (by repeat first | exact .refl | refine .cons rfl ?_) ⟨_, s0, ?s15, rfl⟩
       case s15 => exact congrArg Value.bool (or_t h141)
      ·skip
       have ph141 := c9_ h141
       refine sB h141 rfl (sE rfl (sE rfl (sQ (q_as (v' := .int .i64 ((((ak_ f)).length : Nat) : Int)) (aS_ (e := elI) sl_24 rfl (SLfe.sle (OwnG.slfe hF138 (List.sublist_append_left _ _)))) rfl) rfl (sV (.int .i64 (((((ak_ f)).length : Nat) : Int) - 1)) rfl (congrArg (Value.int .i64) (wx (by omega) (by omega) (by omega))) (sQ (q_as (v' := .pointer (some (slb (.slice p135 (ak_ f).length c136) ((((ak_ f)).length - 1) * 18 + 0)))) (c4_ (e := elI) (l := (ak_ f)) (k := (((ak_ f)).length - 1)) sl_24 rfl rfl (by omega) (SLfe.sle (OwnG.slfe hF138 (List.sublist_append_left _ _))) (by first | omega | (simp only [List.length_set, List.length_append, List.length_cons, List.length_nil]; omega))) rfl) rfl ?_)))))
       refine sQ (q_ldG (e := elI) (l := (ak_ f)) (k := (((ak_ f)).length - 1)) (o := 0) ty_38 rfl (SLfe.sle (OwnG.slfe hF138 (List.sublist_append_left _ _))) (aA_ I0 (by first | omega | (simp only [List.length_set, List.length_append, List.length_cons, List.length_nil]; omega))) rfl) rfl ?_
       refine sC (.int .i64 ((Z.signW ((ak_ f).getD (((ak_ f)).length - 1) I0).dec).1)) en_32 (bK_ ((ak_ f).getD (((ak_ f)).length - 1) I0).1 ((ak_ f).getD (((ak_ f)).length - 1) I0).2) rfl rfl rfl (sE rfl (sE rfl (eK_ (Jd1 _ _ ?_))))
       refine J30 _ _ (by repeat first | exact .refl | refine .cons rfl ?_) ⟨_, s0, ?s15, rfl⟩
       case s15 => exact congrArg Value.bool (or_f h141 rfl)
     ·skip
      rintro g142 M ⟨hg15, rfl⟩
      simp only [setG, hg15]
      clear hg15
      rcases bt ((((((ak_ f)).length : Nat) : Int) == 0) || decide (0 < (Z.signW ((ak_ f).getD (((ak_ f)).length - 1) I0).dec).1)) with h143 | h143
      ·skip
       refine W_t h143 rfl (Rs fun Kd1 Jd1 => sE rfl (sE rfl (eK_ (Jd1 _ _ (W_ret (aj_ (ret1 rfl (.inr rfl) rfl ?_)))))))
       refine sE rfl (nl J (W_ret (ret1 rfl (.inr rfl) rfl ?_)))
       have hE : ((ak_ f) : (List I)) = (af_ p) := by exact bif_f h19 (bif_f h24 (trs (Eq.symm (smS hCu29)) (bif_t h143 rfl)))
       rw [← hE]
       exact ⟨_, rfl, ⟨L137, (List.sublist_append_left _ _), hF138⟩⟩
      ·skip
       have ph144 := c9_ (Bool.or_eq_false_iff.1 h143).1
       have ph145 := of_decide_eq_false (Bool.or_eq_false_iff.1 h143).2
       refine W_f h143 rfl (am_ (J29 _ _ (Rs fun Kd1 Jd1 => sE rfl (WL_r rfl (an_ (E := 38) (e := elI) (l := (bl_ ([] : List I) (ak_ f) (fun (y : I) (z : I) => (E (Z.sub y.dec z.dec))))) (fun v => v) en_86 rfl (fun w hw => eo_ _ ([] : List I) _ (ak_ f) _ (fun (y : I) (z : I) => (E (Z.sub y.dec z.dec))) w (SLe.ap hw (SLfe.sle SLfe.nil)) (SLe.ap hw (SLfe.sle (OwnG.slfe hF138 (List.sublist_append_left _ _)))) (FnV.mk hw en_78 (fun w hw x hx => (dg_ x.1.1 x.2.1 x.1.2 x.2.2) w)) (by first | omega | (simp only [List.length_cons, List.length_nil, and_true, true_and] <;> omega) | simp)) (fun p146 c147 L148 hF149 => ?_))))))
       refine sE rfl (eK_ (Jd1 _ _ (W_ret (ret1 rfl (.inr rfl) rfl ?_))))
       refine sE rfl (nl J (W_ret (ret1 rfl (.inr rfl) rfl ?_)))
       have hE : ((bl_ ([] : List I) (ak_ f) (fun (y : I) (z : I) => (E (Z.sub y.dec z.dec)))) : (List I)) = (af_ p) := by exact bif_f h19 (bif_f h24 (trs (Eq.symm (smS hCu29)) (bif_f h143 rfl)))
       rw [← hE]
       exact ⟨_, rfl, ⟨L148, (List.sublist_append_left _ _), hF149⟩⟩

end Go.Proofs.YtjdfogfmeibkgaaGreat


set_option linter.unusedVariables false
set_option linter.unusedSimpArgs false
namespace Go.Num
open Go Go.Kn
theorem bo_ (l : List W) : Rgt (bc_ l) := by unfold bc_; rw [jm_]; exact kq_ _
theorem cx_ (p q : List I) : Rgt (aa_ p q) := by
  unfold aa_
  cases (ae_ p || ae_ q)
  · simp only [cond_false]
    cases ((((p.length : Nat) : Int) == 0) || (((q.length : Nat) : Int) == 0))
    · rw [cond_false, eJ_]; exact kq_ _
    · exact .inr ⟨rfl, rfl, Nat.zero_le _⟩
  · exact .inl rfl
theorem mO_ {p : List I} (h : aO_ p = true) : Rgt p := by
  unfold aO_ at h
  cases h1 : ((((p.length : Nat) : Int) == 1) && decide ((p.getD 0 I0) = (E Z.bad)))
  · rw [h1, cond_false, pE_] at h
    cases hg : p.all gdI
    · rw [hg] at h; cases h
    · rw [hg] at h
      by_cases hl : (25 : Int) < ((p.length : Nat) : Int)
      · rw [decide_eq_true hl] at h; cases h
      · rw [decide_eq_false hl] at h
        refine .inr ⟨hg, ?_, by omega⟩
        rcases dB_ p with rfl | ⟨m, x, rfl⟩
        · rfl
        · simp only [Bool.not_true, Bool.or_false, cond_false, Bool.or_eq_true] at h
          rcases h with h | h
          · simp at h; omega
          · rw [show (m ++ [x]).length - 1 = m.length by simp, show (m ++ [x]).getD m.length I0 = x by simp, oN_] at h
            rw [dH_]
            have : zrI x = false := by simpa using h
            rw [this]; rfl
  · rw [Bool.and_eq_true] at h1
    have hl : p.length = 1 := by have := h1.1; simp at this; omega
    obtain ⟨x, rfl⟩ : ∃ x, p = [x] := List.length_eq_one_iff.1 hl
    have hx : x = E Z.bad := of_decide_eq_true h1.2
    exact .inl (by rw [hx]; rfl)
theorem jU_ {p : List I} {d b : Int} (h : ah_ p d b = true) : aO_ p = true ∧ ((p.length : Nat) : Int) ≤ d + 1 := by
  unfold ah_ at h
  cases h1 : (!aO_ p) || decide (d + 1 < ((p.length : Nat) : Int))
  · rw [Bool.or_eq_false_iff] at h1
    exact ⟨by simpa using h1.1, by have := of_decide_eq_false h1.2; omega⟩
  · rw [h1] at h; cases h
theorem few_f {p : List I} {d b : Int} (h : (!ah_ p d b) = false) : Rgt p ∧ p.length ≤ 25 := by
  have h1 := mO_ (jU_ (p := p) (d := d) (b := b) (by simpa using h)).1
  exact ⟨h1, p4_ h1⟩
theorem jf_ (a : List I) : ∀ (k i : Nat), ∃ j, bj_ a a k i = .inl j
  | 0, i => ⟨i, rfl⟩
  | k + 1, i => by
    unfold bj_
    rw [decide_eq_true rfl]
    cases decide ((i : Int) < ((a.length : Nat) : Int))
    · exact ⟨i, rfl⟩
    · exact jf_ a k (i + 1)
theorem ji_ (a : List I) : ai_ a a = true := by
  unfold ai_
  obtain ⟨j, h⟩ := jf_ a (a.length + 1) 0
  rw [h, bne_self_eq_false]; rfl
theorem i9_ (p : List I) (i : Int) (r f : List I) (x : I) : ∀ (k n : Nat) (t y : List I), bv_ p i r f x k n t = .inr y → y = badp
  | 0, n, t, y, h => by cases h
  | k + 1, n, t, y, h => by
    unfold bv_ at h
    revert h
    cases decide (((n : Nat) : Int) < (((ac_ p (ad_ p)).length : Nat) : Int))
    · intro h; cases h
    · simp only [cond_true]
      intro h
      rw [Bool.cond_eq_ite] at h
      revert h
      split
      · intro h; cases h; exact bad_p
      · exact fun h => i9_ p i r f x k _ _ y h
theorem jK_ (p : List I) : ∀ (k : Nat) (i : Int) (r f y : List I), bu_ p k i r f = .inr y → y = badp
  | 0, i, r, f, y, h => by cases h
  | k + 1, i, r, f, y, h => by
    unfold bu_ at h
    revert h
    cases decide (0 ≤ i)
    · intro h; cases h
    · simp only [cond_true]
      generalize hx : bv_ p i r f _ _ 0 r = X
      cases X with
      | inl s => exact fun h => jK_ p k _ _ _ y h
      | inr z => intro h; cases h; exact i9_ p i r f _ _ _ _ _ hx
theorem fd_ (p : List I) : (af_ p).length ≤ 25 := by
  unfold af_
  refine eV_ dL_ (eV_ (Nat.zero_le _) ?_)
  generalize hx : bu_ p _ _ _ _ = X
  cases X with
  | inl s => exact eV_ (cw_ _) (eq_ _ _ _)
  | inr z => rw [show z = badp from jK_ p _ _ _ _ _ hx]; exact dL_
end Go.Num

