/- Walks: what these functions return. -/
import Derived.Test.YtjdfogfmeibkgaaGreatZGE
import Derived.Test.YtjdfogfmeibkgaaGreatZFp
import Derived.Test.YtjdfogfmeibkgaaGreatZSg
import Derived.Test.YtjdfogfmeibkgaaGreatZWc
import Derived.Test.YtjdfogfmeibkgaaGreatZWe
import Derived.Test.YtjdfogfmeibkgaaGreatZWh
import Derived.Test.YtjdfogfmeibkgaaGreatZGf
import Derived.Test.YtjdfogfmeibkgaaGreatZYb
import Derived.Test.YtjdfogfmeibkgaaGreatZYg
import Derived.Test.YtjdfogfmeibkgaaGreatZYp
import Derived.Test.YtjdfogfmeibkgaaGreatZYr
namespace Go.Proofs.YtjdfogfmeibkgaaGreat
open Go.Kn Go.Num
set_option linter.unusedVariables false
set_option linter.unusedSimpArgs false
set_option maxRecDepth 20000
set_option maxHeartbeats 8000000
theorem g9_ (vp : Value) (p : (List I)) (w : World) (hp : Slr w elI vp p) (hpre : Rgt p ∧ p.length ≤ 100) :
    Calls Tryz.prog 29 [vp].toArray w (fun e w' => ∃ v, e = .returned (v) ∧ Ext w w' ∧ Slo w.heap.size w' 38 elI v (cl_ p)) := by
 obtain ⟨p_p, c_p, rfl⟩ := hp.form
 refine bi_ (n := 92) (fun v => v) Tryz.func29 rfl rfl (by simp) ?_
 obtain ⟨w0, rfl⟩ : ∃ w0, w0 = w := ⟨_, rfl⟩
 have Hp := hp.old
 have hm_p := hp.max
 simp only [initF, Nat.reduceAdd]
 refine Rs fun K J => sE rfl (nl J (Rs fun K J => sE rfl (sE rfl (WL_r rfl (as_ (E := 38) (e := elI) (l := (af_ p)) (fun v => v) en_33 rfl (fun w hw => gx_ _ p w (SLe.ap hw (SLe.sub Hp sn)) (by first | omega | (simp only [List.length_cons, List.length_nil, and_true, true_and] <;> omega) | simp)) (fun p1 c2 L3 hF4 => ?_))))))
 have hb5 := (c0_ p)
 refine WL_r rfl (as_ (E := 38) (e := elI) (l := (ak_ p (af_ p))) (fun v => v) en_27 rfl (fun w hw => gt_ _ p _ (af_ p) w (SLe.ap hw (SLe.sub Hp sn)) (SLe.ap hw (SLfe.sle (OwnG.slfe hF4 (List.sublist_append_left _ _)))) (by first | omega | (simp only [List.length_cons, List.length_nil, and_true, true_and] <;> omega) | simp)) (fun p6 c7 L8 hF9 => ?_))
 have hb10 := (ec_ p (af_ p))
 refine sE rfl (WL_r rfl (as_ (E := 38) (e := elI) (l := (ab_ p)) (fun v => v) en_25 rfl (fun w hw => cx_ _ p w (SLe.ap hw (SLe.sub Hp sn)) (by first | omega | (simp only [List.length_cons, List.length_nil, and_true, true_and] <;> omega) | simp)) (fun p11 c12 L13 hF14 => ?_)))
 have hb15 := (aA_ p)
 refine sE rfl (sE rfl (nl J (Sq fun K1 J1 => ?_)))
 refine bL_ [16, 17, 18, 19, 20, 21] (fun g M => (g 21 = .bool ((ai_ (ak_ p (af_ p))) || (ai_ (ab_ p)))) ∧ M = (L13 ++ (L8 ++ (L3 ++ [])))) (fun K2 J2 => ?_) ?_
 ·skip
  refine Rk fun K J => sE rfl (sQ (q_as (v' := .bool (ai_ (ak_ p (af_ p)))) (aB_ en_18 rfl (fun w hw => bs_ _ (ak_ p (af_ p)) w (SLe.ap hw (SLfe.sle (OwnG.slfe hF9 (sR (List.sublist_append_left _ _))))))) rfl) rfl ?_)
  rcases bt (ai_ (ak_ p (af_ p))) with h17 | h17
  ·skip
   refine sB h17 rfl (WL_n rfl (WL_n rfl (sE rfl (nl J ?_))))
   refine J2 _ _ (by repeat first | exact .refl | refine .cons rfl ?_) ⟨_, s0, ?s21, rfl⟩
   case s21 => exact congrArg Value.bool (or_t h17)
  ·skip
   refine sB h17 rfl (sE rfl (sQ (q_as (v' := .bool (ai_ (ab_ p))) (aB_ en_18 rfl (fun w hw => bs_ _ (ab_ p) w (SLe.ap hw (SLfe.sle (OwnG.slfe hF14 (List.sublist_append_left _ _)))))) rfl) rfl (sE rfl (nl J ?_))))
   refine J2 _ _ (by repeat first | exact .refl | refine .cons rfl ?_) ⟨_, s0, ?s21, rfl⟩
   case s21 => exact congrArg Value.bool (or_f h17 rfl)
 ·skip
  rintro g18 M ⟨hg21, rfl⟩
  simp only [setG, hg21]
  clear hg21
  rcases bt ((ai_ (ak_ p (af_ p))) || (ai_ (ab_ p))) with h19 | h19
  ·skip
   refine W_t h19 rfl (Rs fun K J => WL_r rfl (as_ (E := 38) (e := elI) (l := F_poly_bad) (fun v => v) en_76 rfl (fun w hw => cc_  w) (fun p20 c21 L22 hF23 => sE rfl (nl J (W_ret (aj_ (ret1 rfl (.inr rfl) rfl ?_)))))))
   have hE : (F_poly_bad : (List I)) = (cl_ p) := by exact bif_t h19 rfl
   rw [← hE]
   exact ⟨_, rfl, ⟨L22, (List.sublist_append_left _ _), hF23⟩⟩
  ·skip
   refine W_f h19 rfl (am_ (J1 _ _ (Sq fun K3 J3 => Rs fun K J => sE rfl (sQ (q_as (v' := .int .i64 ((((ab_ p)).length : Nat) : Int)) (aY_ (e := elI) sl_24 rfl (SLfe.sle (OwnG.slfe hF14 (List.sublist_append_left _ _)))) rfl) rfl (sE rfl (nl J ?_))))))
   rcases bt (((((ab_ p)).length : Nat) : Int) == 0) with h24 | h24
   ·skip
    have ph24 := f3_ h24
    refine W_t h24 rfl (Rs fun K J => sE rfl (nl J (W_ret (aj_ (ret1 rfl (.inr rfl) rfl ?_)))))
    have hE : (([] : List I) : (List I)) = (cl_ p) := by exact bif_f h19 (bif_t h24 rfl)
    rw [← hE]
    exact ⟨_, rfl, ⟨[], sn, OwnG.nil⟩⟩
   ·skip
    have ph24 := ea_ h24
    refine W_f h24 rfl (am_ (J3 _ _ (Rs fun K J => ?_)))
    have hfr := kP_ hpre.1 h19 (ea_ h24)
    refine sE rfl (sQ (q_as (v' := .int .i64 ((((ak_ p (af_ p))).length : Nat) : Int)) (aY_ (e := elI) sl_24 rfl (SLfe.sle (OwnG.slfe hF9 (sR (List.sublist_append_left _ _))))) rfl) rfl (sV (.int .i64 (((((ak_ p (af_ p))).length : Nat) : Int) - 1)) rfl (congrArg (Value.int .i64) (wx (by omega) (by omega) (by omega))) (sE rfl (nl J (Rs fun K J => sE rfl (sQ (q_as (v' := .int .i64 ((((ab_ p)).length : Nat) : Int)) (aY_ (e := elI) sl_24 rfl (SLfe.sle (OwnG.slfe hF14 (List.sublist_append_left _ _)))) rfl) rfl (sE rfl (sV (.int .i64 (((((ab_ p)).length : Nat) : Int) - (((((ak_ p (af_ p))).length : Nat) : Int) - 1))) rfl (congrArg (Value.int .i64) (wx (by omega) (by omega) (by omega))) (WL_r rfl (jq_ (E := 38) (e := elI) (n := (((ab_ p)).length - (((ak_ p (af_ p))).length - 1))) (c := (((ab_ p)).length - (((ak_ p (af_ p))).length - 1))) 68 I0 us_24 (by kernel_rfl) (by decide) (by kernel_rfl) rfl rfl (by omega) (by omega) (by omega) (by omega) (by decide) (by decide) (fun p25 L26 hO27 => ?_)))))))))))
    have hl28 : (List.replicate (((ab_ p)).length - (((ak_ p (af_ p))).length - 1)) I0).length = (((ab_ p)).length - (((ak_ p (af_ p))).length - 1)) := List.length_replicate
    refine sE rfl (nl J (Sq fun K4 J4 => Rs fun K J => sE rfl (sQ (q_as (v' := .int .i64 ((((List.replicate (((ab_ p)).length - (((ak_ p (af_ p))).length - 1)) I0)).length : Nat) : Int)) (aY_ (e := elI) sl_24 rfl (SLfe.sle (OwnG.slfe hO27 (List.sublist_append_left _ _)))) rfl) rfl (sV (.int .i64 (((((List.replicate (((ab_ p)).length - (((ak_ p (af_ p))).length - 1)) I0)).length : Nat) : Int) - 1)) rfl (congrArg (Value.int .i64) (wx (by omega) (by omega) (by omega))) (sE rfl (nl J ?_))))))
    refine cb_ (fun S M h => J4 S M h) [2, 7, 8, 9, 37, 38, 39, 40, 41, 42, 43, 44, 45, 46, 47, 48, 49, 50, 51, 52, 53, 54, 55, 56, 57, 58, 59, 60, 61, 62, 63, 64, 65, 66, 67, 68, 69, 70, 71, 72, 73, 74, 75, 76, 77, 78, 79, 80, 81, 82, 83, 84, 85, 86, 87, 88] (fun g M => ∃ (i : Int) (r : List I) (f : List I) (L_r : List Blk) (L_f : List Blk), (ct_ p (((ab_ p).length + 2)) (((((List.replicate (((ab_ p)).length - (((ak_ p (af_ p))).length - 1)) I0)).length : Nat) : Int) - 1) (ab_ p) (List.replicate (((ab_ p)).length - (((ak_ p (af_ p))).length - 1)) I0)) = .inl (i, r, f) ∧ (f.length ≤ 200) ∧ (g 7 = .int .i64 i ∧ OwnG w0 38 elI (.slice p11 (ab_ p).length c12) r L_r ∧ OwnG w0 38 elI (.slice p25 (List.replicate (((ab_ p)).length - (((ak_ p (af_ p))).length - 1)) I0).length (((ab_ p)).length - (((ak_ p (af_ p))).length - 1))) f L_f) ∧ M = (L_f ++ (L_r ++ (L8 ++ (L3 ++ []))))) (fun K_u29 hK_u29 => ?_) ?_
    ·skip
     refine ap_ ?_
     refine aC_ [2, 7, 8, 9, 37, 38, 39, 40, 41, 42, 43, 44, 45, 46, 47, 48, 49, 50, 51, 52, 53, 54, 55, 56, 57, 58, 59, 60, 61, 62, 63, 64, 65, 66, 67, 68, 69, 70, 71, 72, 73, 74, 75, 76, 77, 78, 79, 80, 81, 82, 83, 84, 85, 86, 87, 88] (fun g nn M => ∃ (i : Int) (r : List I) (f : List I) (L_r : List Blk) (L_f : List Blk), (ct_ p nn i r f) = (ct_ p (((ab_ p).length + 2)) (((((List.replicate (((ab_ p)).length - (((ak_ p (af_ p))).length - 1)) I0)).length : Nat) : Int) - 1) (ab_ p) (List.replicate (((ab_ p)).length - (((ak_ p (af_ p))).length - 1)) I0)) ∧ (i + 1).toNat < nn ∧ (i < (f.length : Int) ∧ -1 ≤ i ∧ f.length = (ab_ p).length + 1 - ((ak_ p (af_ p))).length ∧ r.length = (ab_ p).length) ∧ (g 7 = .int .i64 i ∧ OwnG w0 38 elI (.slice p11 (ab_ p).length c12) r L_r ∧ OwnG w0 38 elI (.slice p25 (List.replicate (((ab_ p)).length - (((ak_ p (af_ p))).length - 1)) I0).length (((ab_ p)).length - (((ak_ p (af_ p))).length - 1))) f L_f) ∧ M = (L_f ++ (L_r ++ (L8 ++ (L3 ++ []))))) (((ab_ p).length + 2)) ?start ?round
     case start => exact ⟨_, s0, (((((List.replicate (((ab_ p)).length - (((ak_ p (af_ p))).length - 1)) I0)).length : Nat) : Int) - 1), (ab_ p), (List.replicate (((ab_ p)).length - (((ak_ p (af_ p))).length - 1)) I0), L13, L26, rfl, (by first | omega | (simp only [List.length_append, List.length_cons, List.length_nil, List.length_set, List.length_take, and_true, true_and, or_true, true_or, Nat.zero_add] <;> omega)), (by first | omega | (simp only [List.length_append, List.length_cons, List.length_nil, List.length_set, List.length_take, and_true, true_and, or_true, true_or, Nat.zero_add] <;> omega)), ⟨rfl, hF14, hO27⟩, rfl⟩
     case round =>
      rintro nn g M ⟨i, r, f, L_r, L_f, hT0, hq0, hinv0, ⟨hg7, hO_r, hO_f⟩, rfl⟩
      obtain ⟨k0, rfl⟩ : ∃ m, nn = m + 1 := ⟨nn - 1, by omega⟩
      simp only [setG, hg7]
      clear hg7
      have hm_r := OwnG.max hO_r
      have hm_f := OwnG.max hO_f
      refine Sq fun K21 J21 => Rs fun K J => sE rfl (sE rfl (nl J ?_))
      rcases bt (decide (0 ≤ i)) with h100 | h100
      ·skip
       have ph100 := of_decide_eq_true h100
       refine W_t h100 rfl (am_ (J21 _ _ (Sq fun K22 J22 => ap_ (ds (sR s0) [0,4,8,12,16,20,24,28,32,36,40,44,48,52,57] [14] mix (by kernel_rfl) (fun K J => pE rfl (pE rfl (pE rfl (pE rfl (pE rfl (pV (.int .i64 (i + (((((ak_ p (af_ p))).length : Nat) : Int) - 1))) rfl (congrArg (Value.int .i64) (wx (by omega) (by omega) (by omega))) (pQ rfl (q_as (v' := .pointer (some (slb (.slice p11 (ab_ p).length c12) (((i).toNat + (((ak_ p (af_ p))).length - 1)) * 18 + 0)))) (cX_ (e := elI) (l := r) (k := ((i).toNat + (((ak_ p (af_ p))).length - 1))) sl_24 rfl rfl (by omega) (SLfe.sle (OwnG.slfe hO_r (sR (List.sublist_append_left _ _)))) (by first | omega | (simp only [List.length_set, List.length_append, List.length_cons, List.length_nil]; omega))) rfl) ?_)))))))))))
       refine pQ rfl (q_ldG (e := elI) (l := r) (k := ((i).toNat + (((ak_ p (af_ p))).length - 1))) (o := 0) ty_38 rfl (SLfe.sle (OwnG.slfe hO_r (sR (List.sublist_append_left _ _)))) (aw_ I0 (by first | omega | (simp only [List.length_set, List.length_append, List.length_cons, List.length_nil]; omega))) rfl) ?_
       refine pE rfl (pE rfl (pQ rfl (q_as (v' := .pointer (some (slb (.slice p6 (ak_ p (af_ p)).length c7) ((((ak_ p (af_ p))).length - 1) * 18 + 0)))) (cX_ (e := elI) (l := (ak_ p (af_ p))) (k := (((ak_ p (af_ p))).length - 1)) sl_24 rfl rfl (by omega) (SLfe.sle (OwnG.slfe hF9 (sR (sR (List.sublist_append_left _ _))))) (by first | omega | (simp only [List.length_set, List.length_append, List.length_cons, List.length_nil]; omega))) rfl) ?_))
       refine pQ rfl (q_ldG (e := elI) (l := (ak_ p (af_ p))) (k := (((ak_ p (af_ p))).length - 1)) (o := 0) ty_38 rfl (SLfe.sle (OwnG.slfe hF9 (sR (sR (List.sublist_append_left _ _))))) (aw_ I0 (by first | omega | (simp only [List.length_set, List.length_append, List.length_cons, List.length_nil]; omega))) rfl) ?_
       obtain ⟨r101, hr101⟩ := nm ((E (Z.quo (r.getD ((i).toNat + (((ak_ p (af_ p))).length - 1)) I0).dec ((ak_ p (af_ p)).getD (((ak_ p (af_ p))).length - 1) I0).dec)) : I)
       refine pC (AV [pI r101]) en_88 (cL_ (r.getD ((i).toNat + (((ak_ p (af_ p))).length - 1)) I0).1 ((ak_ p (af_ p)).getD (((ak_ p (af_ p))).length - 1) I0).1 (r.getD ((i).toNat + (((ak_ p (af_ p))).length - 1)) I0).2 ((ak_ p (af_ p)).getD (((ak_ p (af_ p))).length - 1) I0).2) rfl rfl (by rw [hr101]; first | done | rfl) (pQ rfl (q_as (v' := .pointer (some (slb (.slice p25 (List.replicate (((ab_ p)).length - (((ak_ p (af_ p))).length - 1)) I0).length (((ab_ p)).length - (((ak_ p (af_ p))).length - 1))) (((i).toNat) * 18 + 0)))) (cX_ (e := elI) (l := f) (k := (i).toNat) sl_24 rfl rfl (by omega) (SLfe.sle (OwnG.slfe hO_f (List.sublist_append_left _ _))) (by first | omega | (simp only [List.length_set, List.length_append, List.length_cons, List.length_nil]; omega))) rfl) ?_)
       refine PL_o rfl rfl (fj_ (e := elI) (l := f) (k := (i).toNat) (z := r101) ty_38 rfl rfl hO_f (by first | omega | (simp only [List.length_set, List.length_append, List.length_cons, List.length_nil]; omega)) rp_l rfl rfl (fun L102 hO103 => ⟨nf, (sR s0), ?_⟩))
       refine fl J (Rs fun K J => sE rfl (sQ (q_as (v' := .int .i64 ((((ak_ p (af_ p))).length : Nat) : Int)) (aY_ (e := elI) sl_24 rfl (SLfe.sle (OwnG.slfe hF9 (sR (sR (List.sublist_append_left _ _)))))) rfl) rfl (sE rfl (nl J ?_))))
       refine cb_ (fun S M h => J22 S M h) [2, 8, 9, 57, 58, 59, 60, 61, 62, 63, 64, 65, 66, 67, 68, 69, 70, 71, 72, 73, 74, 75, 76, 77, 78, 79, 80, 81, 82, 83, 84, 85, 86, 87, 88] (fun g M => ∃ (k : Nat) (t : List I) (L_t : List Blk), (bX_ p i r f r101 ((((ak_ p (af_ p))).length + 1)) 0 r) = .inl (k, t) ∧ (t.length = r.length) ∧ (g 57 = .int .i64 ((k : Nat) : Int) ∧ OwnG w0 38 elI (.slice p11 (ab_ p).length c12) t L_t) ∧ M = (L102 ++ (L_t ++ (L8 ++ (L3 ++ []))))) (fun K_u104 hK_u104 => ?_) ?_
       ·skip
        refine ap_ ?_
        refine aC_ [2, 8, 9, 57, 58, 59, 60, 61, 62, 63, 64, 65, 66, 67, 68, 69, 70, 71, 72, 73, 74, 75, 76, 77, 78, 79, 80, 81, 82, 83, 84, 85, 86, 87, 88] (fun g nn M => ∃ (k : Nat) (t : List I) (L_t : List Blk), (bX_ p i r f r101 nn k t) = (bX_ p i r f r101 ((((ak_ p (af_ p))).length + 1)) 0 r) ∧ ((ak_ p (af_ p))).length - k < nn ∧ (k ≤ ((ak_ p (af_ p))).length ∧ t.length = r.length) ∧ (g 57 = .int .i64 ((k : Nat) : Int) ∧ OwnG w0 38 elI (.slice p11 (ab_ p).length c12) t L_t) ∧ M = (L102 ++ (L_t ++ (L8 ++ (L3 ++ []))))) ((((ak_ p (af_ p))).length + 1)) ?start ?round
        case start => exact ⟨_, s0, 0, r, L_r, rfl, (by first | omega | (simp only [List.length_append, List.length_cons, List.length_nil, List.length_set, List.length_take, and_true, true_and, or_true, true_or, Nat.zero_add] <;> omega)), (by first | omega | (simp only [List.length_append, List.length_cons, List.length_nil, List.length_set, List.length_take, and_true, true_and, or_true, true_or, Nat.zero_add] <;> omega)), ⟨rfl, hO_r⟩, rfl⟩
        case round =>
         rintro nn g M ⟨k, t, L_t, hT1, hq1, hinv1, ⟨hg57, hO_t⟩, rfl⟩
         obtain ⟨k1, rfl⟩ : ∃ m, nn = m + 1 := ⟨nn - 1, by omega⟩
         simp only [setG, hg57]
         clear hg57
         have hm_t := OwnG.max hO_t
         refine Rs fun K J => sE rfl (nl J (Sq fun K27 J27 => ?_))
         rcases bt (decide (((k : Nat) : Int) < ((((ak_ p (af_ p))).length : Nat) : Int))) with h125 | h125
         ·skip
          have ph125 := of_decide_eq_true h125
          refine W_t h125 rfl (am_ (J27 _ _ (Sq fun K28 J28 => ap_ (Rs fun K J => sE rfl (sQ (q_as (v' := .pointer (some (slb (.slice p6 (ak_ p (af_ p)).length c7) (k * 18 + 0)))) (cj_ (e := elI) (l := (ak_ p (af_ p))) (k := k) sl_24 rfl rfl (SLfe.sle (OwnG.slfe hF9 (sR (sR (List.sublist_append_left _ _))))) (by first | omega | (simp only [List.length_set, List.length_append, List.length_cons, List.length_nil]; omega))) rfl) rfl ?_)))))
          refine sQ (q_ldG (e := elI) (l := (ak_ p (af_ p))) (k := k) (o := 0) ty_38 rfl (SLfe.sle (OwnG.slfe hF9 (sR (sR (List.sublist_append_left _ _))))) (aw_ I0 (by first | omega | (simp only [List.length_set, List.length_append, List.length_cons, List.length_nil]; omega))) rfl) rfl ?_
          refine sN zp_38 rfl fun b126 hb126 => sE rfl (sS [pI ((ak_ p (af_ p)).getD k I0)] ty_38 rfl rfl rfl rfl rfl (.head _) rfl hb126 (nl J (ds (sk (sA (sR s0))) [0,4,8,12,16,20,24,28,32,36,40,44,48,52,56,60,64,68,73] [18] mix (by kernel_rfl) (fun K J => pE rfl (pE rfl (pE rfl (pV (.int .i64 (i + ((k : Nat) : Int))) rfl (congrArg (Value.int .i64) (wx (by omega) (by omega) (by omega))) (pE rfl (pE rfl (pE rfl (pV (.int .i64 (i + ((k : Nat) : Int))) rfl (congrArg (Value.int .i64) (wx (by omega) (by omega) (by omega))) (pQ rfl (q_as (v' := .pointer (some (slb (.slice p11 (ab_ p).length c12) (((i).toNat + k) * 18 + 0)))) (cX_ (e := elI) (l := t) (k := ((i).toNat + k)) sl_24 rfl rfl (by omega) (SLfe.sle (OwnG.slfe hO_t (sd (sR (List.sublist_append_left _ _))))) (by first | omega | (simp only [List.length_set, List.length_append, List.length_cons, List.length_nil]; omega))) rfl) ?_))))))))))))
          refine pQ rfl (q_ldG (e := elI) (l := t) (k := ((i).toNat + k)) (o := 0) ty_38 rfl (SLfe.sle (OwnG.slfe hO_t (sd (sR (List.sublist_append_left _ _))))) (aw_ I0 (by first | omega | (simp only [List.length_set, List.length_append, List.length_cons, List.length_nil]; omega))) rfl) ?_
          refine pE rfl (pE rfl (pQ rfl (q_as (v' := .pointer (some (slb (.slice p25 (List.replicate (((ab_ p)).length - (((ak_ p (af_ p))).length - 1)) I0).length (((ab_ p)).length - (((ak_ p (af_ p))).length - 1))) (((i).toNat) * 18 + 0)))) (cX_ (e := elI) (l := (f.set ((i).toNat) r101)) (k := (i).toNat) sl_24 rfl rfl (by omega) (SLfe.sle (OwnG.slfe hO103 (sd (List.sublist_append_left _ _)))) (by first | omega | (simp only [List.length_set, List.length_append, List.length_cons, List.length_nil]; omega))) rfl) ?_))
          refine pQ rfl (q_ldG (e := elI) (l := (f.set ((i).toNat) r101)) (k := (i).toNat) (o := 0) ty_38 rfl (SLfe.sle (OwnG.slfe hO103 (sd (List.sublist_append_left _ _)))) (aw_ I0 (by first | omega | (simp only [List.length_set, List.length_append, List.length_cons, List.length_nil]; omega))) rfl) ?_
          refine pQ rfl (qL ty_38 rfl m0 rfl) ?_
          obtain ⟨r127, hr127⟩ := nm ((E (Z.mul ((f.set ((i).toNat) r101).getD ((i).toNat) I0).dec ((ak_ p (af_ p)).getD k I0).dec)) : I)
          refine pC (AV [pI r127]) en_77 (a0_ ((f.set ((i).toNat) r101).getD ((i).toNat) I0).1 ((ak_ p (af_ p)).getD k I0).1 ((f.set ((i).toNat) r101).getD ((i).toNat) I0).2 ((ak_ p (af_ p)).getD k I0).2) rfl rfl (by rw [hr127]; first | done | rfl) (pC (AV [pI (E (Z.sub (t.getD ((i).toNat + k) I0).dec r127.dec))]) en_78 (dQ_ (t.getD ((i).toNat + k) I0).1 r127.1 (t.getD ((i).toNat + k) I0).2 r127.2) rfl rfl rfl (pQ rfl (q_as (v' := .pointer (some (slb (.slice p11 (ab_ p).length c12) (((i).toNat + k) * 18 + 0)))) (cX_ (e := elI) (l := t) (k := ((i).toNat + k)) sl_24 rfl rfl (by omega) (SLfe.sle (OwnG.slfe hO_t (sd (sR (List.sublist_append_left _ _))))) (by first | omega | (simp only [List.length_set, List.length_append, List.length_cons, List.length_nil]; omega))) rfl) ?_))
          refine PL_o rfl rfl (fj_ (e := elI) (l := t) (k := ((i).toNat + k)) (z := (E (Z.sub (t.getD ((i).toNat + k) I0).dec r127.dec))) ty_38 rfl rfl hO_t (by first | omega | (simp only [List.length_set, List.length_append, List.length_cons, List.length_nil]; omega)) (rp_s (rp_sl rp_l)) rfl rfl (fun L128 hO129 => ⟨nf, (sk (sA (sR s0))), ?_⟩))
          refine fl J (Rs fun K J => sE rfl (sE rfl (sE rfl (sV (.int .i64 (i + ((k : Nat) : Int))) rfl (congrArg (Value.int .i64) (wx (by omega) (by omega) (by omega))) (sQ (q_as (v' := .pointer (some (slb (.slice p11 (ab_ p).length c12) (((i).toNat + k) * 18 + 0)))) (cX_ (e := elI) (l := (t.set ((i).toNat + k) (E (Z.sub (t.getD ((i).toNat + k) I0).dec r127.dec)))) (k := ((i).toNat + k)) sl_24 rfl rfl (by omega) (SLfe.sle (OwnG.slfe hO129 (sd (sR (List.sublist_append_left _ _))))) (by first | omega | (simp only [List.length_set, List.length_append, List.length_cons, List.length_nil]; omega))) rfl) rfl ?_)))))
          refine sQ (q_as (v' := .pointer (some (slb (.slice p11 (ab_ p).length c12) (((i).toNat + k) * 18 + 0)))) (j6_ ep_ rfl rfl) rfl) rfl (sQ (h7_ (u := .bool (((t.set ((i).toNat + k) (E (Z.sub (t.getD ((i).toNat + k) I0).dec r127.dec))).getD ((i).toNat + k) I0).1.bad)) (e := elI) (l := (t.set ((i).toNat + k) (E (Z.sub (t.getD ((i).toNat + k) I0).dec r127.dec)))) (k := ((i).toNat + k)) (o := 0) ty_4 rfl (SLfe.sle (OwnG.slfe hO129 (sd (sR (List.sublist_append_left _ _))))) (aw_ I0 (by first | omega | (simp only [List.length_set, List.length_append, List.length_cons, List.length_nil]; omega))) rfl) rfl ?_)
          refine nl J ?_
          rcases bt (((t.set ((i).toNat + k) (E (Z.sub (t.getD ((i).toNat + k) I0).dec r127.dec))).getD ((i).toNat + k) I0).1.bad) with h130 | h130
          ·skip
           refine W_t h130 rfl (Rs fun K J => WL_r rfl (as_ (E := 38) (e := elI) (l := F_poly_bad) (fun v => v) en_76 rfl (fun w hw => cc_  w) (fun p131 c132 L133 hF134 => sE rfl (nl J (W_ret (aN_ (aj_ (aj_ (aN_ (aj_ (aN_ (aj_ (aj_ (aN_ (aj_ (aj_ (ret1 rfl (.inr rfl) rfl ?_)))))))))))))))))
           have hE : (F_poly_bad : (List I)) = (cl_ p) := by subst hr127; subst hr101; exact bif_f h19 (bif_f h24 ((sm_q rfl (hT0.symm.trans (Eq.symm (bif_t h100 ((sm_q rfl (hT1.symm.trans (Eq.symm (bif_t h125 (bif_t h130 rfl))))))))))))
           rw [← hE]
           exact ⟨_, rfl, ⟨L133, (List.sublist_append_left _ _), hF134⟩⟩
          ·skip
           refine W_f h130 rfl (am_ (J28 _ _ (Rk fun K J => sV (.int .i64 (((k + 1) : Nat) : Int)) rfl (congrArg (Value.int .i64) (wx (by omega) (by omega) (by omega))) (sE rfl (nl J (⟨(by repeat first | exact .refl | refine .cons rfl ?_), _, _, (sd (s0)), (Nat.lt_succ_self _), (k + 1), (t.set ((i).toNat + k) (E (Z.sub (t.getD ((i).toNat + k) I0).dec r127.dec))), L128, (by subst hr127; exact (hT1.symm.trans (Eq.symm (bif_t h125 (bif_f h130 rfl)))).symm), (Nat.lt_of_lt_of_le (by first | omega | (simp only [List.length_append, List.length_cons, List.length_nil, List.length_set, List.length_take, and_true, true_and, or_true, true_or, Nat.zero_add] <;> omega)) (Nat.le_of_lt_succ hq1)), (by first | omega | (simp only [List.length_append, List.length_cons, List.length_nil, List.length_set, List.length_take, and_true, true_and, or_true, true_or, Nat.zero_add] <;> omega)), ⟨rfl, hO129⟩, rfl⟩))))))
         ·skip
          have ph125 := of_decide_eq_false h125
          refine W_f h125 rfl (bg_ (an_ (an_ (ar_ (hK_u104 _ _ (by repeat first | exact .refl | refine .cons rfl ?_) ⟨_, s0, k, t, L_t, (by exact hT1.symm.trans (Eq.symm (bif_f h125 rfl))), (by first | omega | (simp only [List.length_append, List.length_cons, List.length_nil, List.length_set, List.length_take, and_true, true_and, or_true, true_or, Nat.zero_add] <;> omega)), ⟨rfl, hO_t⟩, rfl⟩)))))
       ·skip
        rintro g M ⟨k, t, L_t, hCu104, hPu104, ⟨hg57, hO_t⟩, rfl⟩
        simp only [setG, hg57]
        clear hg57
        have hm_t := OwnG.max hO_t
        refine Rk fun K J => sE rfl (sV (.int .i64 (i - 1)) rfl (congrArg (Value.int .i64) (wx (by omega) (by omega) (by omega))) (sE rfl (nl J (⟨(by repeat first | exact .refl | refine .cons rfl ?_), _, _, s0, (Nat.lt_succ_self _), (i - 1), t, (f.set ((i).toNat) r101), L_t, L102, (by subst hr101; exact (hT0.symm.trans (Eq.symm (bif_t h100 (trs (Eq.symm (smS hCu104)) rfl)))).symm), (Nat.lt_of_lt_of_le (by first | omega | (simp only [List.length_append, List.length_cons, List.length_nil, List.length_set, List.length_take, and_true, true_and, or_true, true_or, Nat.zero_add] <;> omega)) (Nat.le_of_lt_succ hq0)), (by first | omega | (simp only [List.length_append, List.length_cons, List.length_nil, List.length_set, List.length_take, and_true, true_and, or_true, true_or, Nat.zero_add] <;> omega)), ⟨rfl, hO_t, hO103⟩, rfl⟩))))
      ·skip
       have ph100 := of_decide_eq_false h100
       refine W_f h100 rfl (bg_ (an_ (an_ (ar_ (hK_u29 _ _ (by repeat first | exact .refl | refine .cons rfl ?_) ⟨_, s0, i, r, f, L_r, L_f, (by exact hT0.symm.trans (Eq.symm (bif_f h100 rfl))), (by first | omega | (simp only [List.length_append, List.length_cons, List.length_nil, List.length_set, List.length_take, and_true, true_and, or_true, true_or, Nat.zero_add] <;> omega)), ⟨rfl, hO_r, hO_f⟩, rfl⟩)))))
    ·skip
     rintro g M ⟨i, r, f, L_r, L_f, hCu29, hPu29, ⟨hg7, hO_r, hO_f⟩, rfl⟩
     simp only [setG, hg7]
     clear hg7
     have hm_r := OwnG.max hO_r
     have hm_f := OwnG.max hO_f
     refine Rs fun K J => sE rfl (WL_r rfl (as_ (E := 38) (e := elI) (l := (aq_ f)) (fun v => v) en_15 rfl (fun w hw => dP_ _ f w (SLe.ap hw (SLfe.sle (OwnG.slfe hO_f (List.sublist_append_left _ _)))) (by first | omega | (simp only [List.length_cons, List.length_nil, and_true, true_and] <;> omega) | simp)) (fun p135 c136 L137 hF138 => ?_)))
     have hb139 := (dq_ f)
     refine WL_r rfl (r_inl en_91 Tryz.func91 rfl rfl rfl (Nat.le_of_ble_eq_true rfl) ?_)
     refine Rs fun Kd1 Jd1 => sE rfl (dm_ (Jd1 _ _ (Sq fun K29 J29 => ?_)))
     refine bL_ [3, 4, 5, 6, 7, 8, 9, 10, 11, 12, 13, 14, 15] (fun g M => (g 15 = .bool ((((((aq_ f)).length : Nat) : Int) == 0) || decide (0 < (Z.signW ((aq_ f).getD (((aq_ f)).length - 1) I0).dec).1))) ∧ M = (L137 ++ (L_f ++ (L_r ++ (L8 ++ (L3 ++ [])))))) (fun K30 J30 => ?_) ?_
     ·skip
      refine Rk fun Kd1 Jd1 => sE rfl (sQ (q_as (v' := .int .i64 ((((aq_ f)).length : Nat) : Int)) (aY_ (e := elI) sl_24 rfl (SLfe.sle (OwnG.slfe hF138 (List.sublist_append_left _ _)))) rfl) rfl (sE rfl ?_))
      rcases bt (((((aq_ f)).length : Nat) : Int) == 0) with h141 | h141
      ·skip
       have ph141 := f3_ h141
       refine sB h141 rfl (WL_n rfl (WL_n rfl (WL_n rfl (WL_n rfl (WL_n rfl (WL_n rfl (WL_n rfl (WL_n rfl (sE rfl (dm_ (Jd1 _ _ ?_)))))))))))
       refine J30 _ _ (by repeat first | exact .refl | refine .cons rfl ?_) ⟨_, s0, ?s15, rfl⟩
       case s15 => exact congrArg Value.bool (or_t h141)
      ·skip
       have ph141 := ea_ h141
       refine sB h141 rfl (sE rfl (sE rfl (sQ (q_as (v' := .int .i64 ((((aq_ f)).length : Nat) : Int)) (aY_ (e := elI) sl_24 rfl (SLfe.sle (OwnG.slfe hF138 (List.sublist_append_left _ _)))) rfl) rfl (sV (.int .i64 (((((aq_ f)).length : Nat) : Int) - 1)) rfl (congrArg (Value.int .i64) (wx (by omega) (by omega) (by omega))) (sQ (q_as (v' := .pointer (some (slb (.slice p135 (aq_ f).length c136) ((((aq_ f)).length - 1) * 18 + 0)))) (cX_ (e := elI) (l := (aq_ f)) (k := (((aq_ f)).length - 1)) sl_24 rfl rfl (by omega) (SLfe.sle (OwnG.slfe hF138 (List.sublist_append_left _ _))) (by first | omega | (simp only [List.length_set, List.length_append, List.length_cons, List.length_nil]; omega))) rfl) rfl ?_)))))
       refine sQ (q_ldG (e := elI) (l := (aq_ f)) (k := (((aq_ f)).length - 1)) (o := 0) ty_38 rfl (SLfe.sle (OwnG.slfe hF138 (List.sublist_append_left _ _))) (aw_ I0 (by first | omega | (simp only [List.length_set, List.length_append, List.length_cons, List.length_nil]; omega))) rfl) rfl ?_
       refine sC (.int .i64 ((Z.signW ((aq_ f).getD (((aq_ f)).length - 1) I0).dec).1)) en_32 (cg_ ((aq_ f).getD (((aq_ f)).length - 1) I0).1 ((aq_ f).getD (((aq_ f)).length - 1) I0).2) rfl rfl rfl (sE rfl (sE rfl (dm_ (Jd1 _ _ ?_))))
       refine J30 _ _ (by repeat first | exact .refl | refine .cons rfl ?_) ⟨_, s0, ?s15, rfl⟩
       case s15 => exact congrArg Value.bool (or_f h141 rfl)
     ·skip
      rintro g142 M ⟨hg15, rfl⟩
      simp only [setG, hg15]
      clear hg15
      rcases bt ((((((aq_ f)).length : Nat) : Int) == 0) || decide (0 < (Z.signW ((aq_ f).getD (((aq_ f)).length - 1) I0).dec).1)) with h143 | h143
      ·skip
       refine W_t h143 rfl (Rs fun Kd1 Jd1 => sE rfl (sE rfl (dm_ (Jd1 _ _ (W_ret (aj_ (ret1 rfl (.inr rfl) rfl ?_)))))))
       refine sE rfl (nl J (W_ret (ret1 rfl (.inr rfl) rfl ?_)))
       have hE : ((aq_ f) : (List I)) = (cl_ p) := by exact bif_f h19 (bif_f h24 (trs (Eq.symm (smS hCu29)) (bif_t h143 rfl)))
       rw [← hE]
       exact ⟨_, rfl, ⟨L137, (List.sublist_append_left _ _), hF138⟩⟩
      ·skip
       have ph144 := ea_ (Bool.or_eq_false_iff.1 h143).1
       have ph145 := of_decide_eq_false (Bool.or_eq_false_iff.1 h143).2
       refine W_f h143 rfl (am_ (J29 _ _ (Rs fun Kd1 Jd1 => sE rfl (WL_r rfl (as_ (E := 38) (e := elI) (l := (bO_ ([] : List I) (aq_ f) (fun (y : I) (z : I) => (E (Z.sub y.dec z.dec))))) (fun v => v) en_86 rfl (fun w hw => eZ_ _ ([] : List I) _ (aq_ f) _ (fun (y : I) (z : I) => (E (Z.sub y.dec z.dec))) w (SLe.ap hw (SLfe.sle SLfe.nil)) (SLe.ap hw (SLfe.sle (OwnG.slfe hF138 (List.sublist_append_left _ _)))) (FnV.mk hw en_78 (fun w hw x hx => (dQ_ x.1.1 x.2.1 x.1.2 x.2.2) w)) (by first | omega | (simp only [List.length_cons, List.length_nil, and_true, true_and] <;> omega) | simp)) (fun p146 c147 L148 hF149 => ?_))))))
       refine sE rfl (dm_ (Jd1 _ _ (W_ret (ret1 rfl (.inr rfl) rfl ?_))))
       refine sE rfl (nl J (W_ret (ret1 rfl (.inr rfl) rfl ?_)))
       have hE : ((bO_ ([] : List I) (aq_ f) (fun (y : I) (z : I) => (E (Z.sub y.dec z.dec)))) : (List I)) = (cl_ p) := by exact bif_f h19 (bif_f h24 (trs (Eq.symm (smS hCu29)) (bif_f h143 rfl)))
       rw [← hE]
       exact ⟨_, rfl, ⟨L148, (List.sublist_append_left _ _), hF149⟩⟩

theorem gb_ (vp : Value) (p : (List I)) (w : World) (hp : Slr w elI vp p) (hpre : Rgt p ∧ p.length ≤ 100) :
    Calls Tryz.prog 30 [vp].toArray w (fun e w' => ∃ v, e = .returned (v) ∧ Ext w w' ∧ Slo w.heap.size w' 38 elI v (bd_ p)) := by
 obtain ⟨p_p, c_p, rfl⟩ := hp.form
 refine bi_ (n := 93) (fun v => v) Tryz.func30 rfl rfl (by simp) ?_
 obtain ⟨w0, rfl⟩ : ∃ w0, w0 = w := ⟨_, rfl⟩
 have Hp := hp.old
 have hm_p := hp.max
 simp only [initF, Nat.reduceAdd]
 refine Rs fun K J => sE rfl (nl J (Rs fun K J => sE rfl (sE rfl (WL_r rfl (as_ (E := 38) (e := elI) (l := (ac_ p)) (fun v => v) en_50 rfl (fun w hw => fA_ _ p w (SLe.ap hw (SLe.sub Hp sn)) (by first | omega | (simp only [List.length_cons, List.length_nil, and_true, true_and] <;> omega) | simp)) (fun p1 c2 L3 hF4 => ?_))))))
 have hb5 := (fE_ p)
 refine WL_r rfl (as_ (E := 38) (e := elI) (l := (ae_ p (ac_ p))) (fun v => v) en_28 rfl (fun w hw => eC_ _ p _ (ac_ p) w (SLe.ap hw (SLe.sub Hp sn)) (SLe.ap hw (SLfe.sle (OwnG.slfe hF4 (List.sublist_append_left _ _)))) (by first | omega | (simp only [List.length_cons, List.length_nil, and_true, true_and] <;> omega) | simp)) (fun p6 c7 L8 hF9 => ?_))
 have hb10 := (eE_ p (ac_ p))
 refine sE rfl (nl J (Rs fun K J => sE rfl (WL_r rfl (as_ (E := 38) (e := elI) (l := (aa_ p)) (fun v => v) en_26 rfl (fun w hw => b7_ _ p w (SLe.ap hw (SLe.sub Hp sn)) (by first | omega | (simp only [List.length_cons, List.length_nil, and_true, true_and] <;> omega) | simp)) (fun p11 c12 L13 hF14 => ?_)))))
 have hb15 := (aO_ p)
 refine sE rfl (nl J (Sq fun K1 J1 => ?_))
 refine bL_ [16, 17, 18, 19, 20, 21] (fun g M => (g 21 = .bool ((ad_ (ae_ p (ac_ p))) || (ad_ (aa_ p)))) ∧ M = (L13 ++ (L8 ++ (L3 ++ [])))) (fun K2 J2 => ?_) ?_
 ·skip
  refine Rk fun K J => sE rfl (sQ (q_as (v' := .bool (ad_ (ae_ p (ac_ p)))) (aB_ en_19 rfl (fun w hw => a1_ _ (ae_ p (ac_ p)) w (SLe.ap hw (SLfe.sle (OwnG.slfe hF9 (sR (List.sublist_append_left _ _))))))) rfl) rfl ?_)
  rcases bt (ad_ (ae_ p (ac_ p))) with h17 | h17
  ·skip
   refine sB h17 rfl (WL_n rfl (WL_n rfl (sE rfl (nl J ?_))))
   refine J2 _ _ (by repeat first | exact .refl | refine .cons rfl ?_) ⟨_, s0, ?s21, rfl⟩
   case s21 => exact congrArg Value.bool (or_t h17)
  ·skip
   refine sB h17 rfl (sE rfl (sQ (q_as (v' := .bool (ad_ (aa_ p))) (aB_ en_19 rfl (fun w hw => a1_ _ (aa_ p) w (SLe.ap hw (SLfe.sle (OwnG.slfe hF14 (List.sublist_append_left _ _)))))) rfl) rfl (sE rfl (nl J ?_))))
   refine J2 _ _ (by repeat first | exact .refl | refine .cons rfl ?_) ⟨_, s0, ?s21, rfl⟩
   case s21 => exact congrArg Value.bool (or_f h17 rfl)
 ·skip
  rintro g18 M ⟨hg21, rfl⟩
  simp only [setG, hg21]
  clear hg21
  rcases bt ((ad_ (ae_ p (ac_ p))) || (ad_ (aa_ p))) with h19 | h19
  ·skip
   refine W_t h19 rfl (Rs fun K J => WL_r rfl (as_ (E := 38) (e := elI) (l := F_skewbackref08_bad) (fun v => v) en_70 rfl (fun w hw => bB_  w) (fun p20 c21 L22 hF23 => sE rfl (nl J (W_ret (aj_ (ret1 rfl (.inr rfl) rfl ?_)))))))
   have hE : (F_skewbackref08_bad : (List I)) = (bd_ p) := by exact bif_t h19 rfl
   rw [← hE]
   exact ⟨_, rfl, ⟨L22, (List.sublist_append_left _ _), hF23⟩⟩
  ·skip
   refine W_f h19 rfl (am_ (J1 _ _ (Sq fun K3 J3 => Rs fun K J => sE rfl (sQ (q_as (v' := .int .i64 ((((aa_ p)).length : Nat) : Int)) (aY_ (e := elI) sl_24 rfl (SLfe.sle (OwnG.slfe hF14 (List.sublist_append_left _ _)))) rfl) rfl (sE rfl (nl J ?_))))))
   rcases bt (((((aa_ p)).length : Nat) : Int) == 0) with h24 | h24
   ·skip
    have ph24 := f3_ h24
    refine W_t h24 rfl (Rs fun K J => sE rfl (nl J (W_ret (aj_ (ret1 rfl (.inr rfl) rfl ?_)))))
    have hE : (([] : List I) : (List I)) = (bd_ p) := by exact bif_f h19 (bif_t h24 rfl)
    rw [← hE]
    exact ⟨_, rfl, ⟨[], sn, OwnG.nil⟩⟩
   ·skip
    have ph24 := ea_ h24
    refine W_f h24 rfl (am_ (J3 _ _ (Rs fun K J => ?_)))
    have hfr := mm_ hpre.1 h19 (ea_ h24)
    refine sE rfl (sQ (q_as (v' := .int .i64 ((((ae_ p (ac_ p))).length : Nat) : Int)) (aY_ (e := elI) sl_24 rfl (SLfe.sle (OwnG.slfe hF9 (sR (List.sublist_append_left _ _))))) rfl) rfl (sV (.int .i64 (((((ae_ p (ac_ p))).length : Nat) : Int) - 1)) rfl (congrArg (Value.int .i64) (wx (by omega) (by omega) (by omega))) (sE rfl (nl J (Rs fun K J => sE rfl (sQ (q_as (v' := .int .i64 ((((aa_ p)).length : Nat) : Int)) (aY_ (e := elI) sl_24 rfl (SLfe.sle (OwnG.slfe hF14 (List.sublist_append_left _ _)))) rfl) rfl (sE rfl (sV (.int .i64 (((((aa_ p)).length : Nat) : Int) - (((((ae_ p (ac_ p))).length : Nat) : Int) - 1))) rfl (congrArg (Value.int .i64) (wx (by omega) (by omega) (by omega))) (WL_r rfl (jq_ (E := 38) (e := elI) (n := (((aa_ p)).length - (((ae_ p (ac_ p))).length - 1))) (c := (((aa_ p)).length - (((ae_ p (ac_ p))).length - 1))) 68 I0 us_22 (by kernel_rfl) (by decide) (by kernel_rfl) rfl rfl (by omega) (by omega) (by omega) (by omega) (by decide) (by decide) (fun p25 L26 hO27 => ?_)))))))))))
    have hl28 : (List.replicate (((aa_ p)).length - (((ae_ p (ac_ p))).length - 1)) I0).length = (((aa_ p)).length - (((ae_ p (ac_ p))).length - 1)) := List.length_replicate
    refine sE rfl (nl J (Sq fun K4 J4 => Rs fun K J => sE rfl (sQ (q_as (v' := .int .i64 ((((aa_ p)).length : Nat) : Int)) (aY_ (e := elI) sl_24 rfl (SLfe.sle (OwnG.slfe hF14 (sR (List.sublist_append_left _ _))))) rfl) rfl (sV (.int .i64 (((((aa_ p)).length : Nat) : Int) - 1)) rfl (congrArg (Value.int .i64) (wx (by omega) (by omega) (by omega))) (sE rfl (sV (.int .i64 ((((((aa_ p)).length : Nat) : Int) - 1) - (((((ae_ p (ac_ p))).length : Nat) : Int) - 1))) rfl (congrArg (Value.int .i64) (wx (by omega) (by omega) (by omega))) (sE rfl (nl J ?_))))))))
    refine cb_ (fun S M h => J4 S M h) [2, 4, 7, 8, 9, 39, 40, 41, 42, 43, 44, 45, 46, 47, 48, 49, 50, 51, 52, 53, 54, 55, 56, 57, 58, 59, 60, 61, 62, 63, 64, 65, 66, 67, 68, 69, 70, 71, 72, 73, 74, 75, 76, 77, 78, 79, 80, 81, 82, 83, 84, 85, 86, 87, 88, 89] (fun g M => ∃ (r : List I) (i : Int) (f : List I) (p_r : Option Addr) (c_r : Nat) (L_r : List Blk) (L_f : List Blk), (bJ_ p (((aa_ p).length + 2)) (aa_ p) ((((((aa_ p)).length : Nat) : Int) - 1) - (((((ae_ p (ac_ p))).length : Nat) : Int) - 1)) (List.replicate (((aa_ p)).length - (((ae_ p (ac_ p))).length - 1)) I0)) = .inl (r, i, f) ∧ (f.length ≤ 200) ∧ (g 4 = .slice p_r r.length c_r ∧ g 7 = .int .i64 i ∧ OwnG w0 38 elI (.slice p_r r.length c_r) r L_r ∧ OwnG w0 38 elI (.slice p25 (List.replicate (((aa_ p)).length - (((ae_ p (ac_ p))).length - 1)) I0).length (((aa_ p)).length - (((ae_ p (ac_ p))).length - 1))) f L_f) ∧ M = (L_f ++ (L_r ++ (L8 ++ (L3 ++ []))))) (fun K_u29 hK_u29 => ?_) ?_
    ·skip
     refine ap_ ?_
     refine aC_ [2, 4, 7, 8, 9, 39, 40, 41, 42, 43, 44, 45, 46, 47, 48, 49, 50, 51, 52, 53, 54, 55, 56, 57, 58, 59, 60, 61, 62, 63, 64, 65, 66, 67, 68, 69, 70, 71, 72, 73, 74, 75, 76, 77, 78, 79, 80, 81, 82, 83, 84, 85, 86, 87, 88, 89] (fun g nn M => ∃ (r : List I) (i : Int) (f : List I) (p_r : Option Addr) (c_r : Nat) (L_r : List Blk) (L_f : List Blk), (bJ_ p nn r i f) = (bJ_ p (((aa_ p).length + 2)) (aa_ p) ((((((aa_ p)).length : Nat) : Int) - 1) - (((((ae_ p (ac_ p))).length : Nat) : Int) - 1)) (List.replicate (((aa_ p)).length - (((ae_ p (ac_ p))).length - 1)) I0)) ∧ (i + 1).toNat < nn ∧ (i < (f.length : Int) ∧ -1 ≤ i ∧ f.length = (aa_ p).length + 1 - ((ae_ p (ac_ p))).length ∧ r.length = (aa_ p).length) ∧ (g 4 = .slice p_r r.length c_r ∧ g 7 = .int .i64 i ∧ OwnG w0 38 elI (.slice p_r r.length c_r) r L_r ∧ OwnG w0 38 elI (.slice p25 (List.replicate (((aa_ p)).length - (((ae_ p (ac_ p))).length - 1)) I0).length (((aa_ p)).length - (((ae_ p (ac_ p))).length - 1))) f L_f) ∧ M = (L_f ++ (L_r ++ (L8 ++ (L3 ++ []))))) (((aa_ p).length + 2)) ?start ?round
     case start => exact ⟨_, s0, (aa_ p), ((((((aa_ p)).length : Nat) : Int) - 1) - (((((ae_ p (ac_ p))).length : Nat) : Int) - 1)), (List.replicate (((aa_ p)).length - (((ae_ p (ac_ p))).length - 1)) I0), p11, c12, L13, L26, rfl, (by first | omega | (simp only [List.length_append, List.length_cons, List.length_nil, List.length_set, List.length_take, and_true, true_and, or_true, true_or, Nat.zero_add] <;> omega)), (by first | omega | (simp only [List.length_append, List.length_cons, List.length_nil, List.length_set, List.length_take, and_true, true_and, or_true, true_or, Nat.zero_add] <;> omega)), ⟨rfl, rfl, hF14, hO27⟩, rfl⟩
     case round =>
      rintro nn g M ⟨r, i, f, p_r, c_r, L_r, L_f, hT0, hq0, hinv0, ⟨hg4, hg7, hO_r, hO_f⟩, rfl⟩
      obtain ⟨k0, rfl⟩ : ∃ m, nn = m + 1 := ⟨nn - 1, by omega⟩
      simp only [setG, hg4, hg7]
      clear hg4 hg7
      have hm_r := OwnG.max hO_r
      have hm_f := OwnG.max hO_f
      refine Sq fun K23 J23 => Rs fun K J => sE rfl (sE rfl (nl J ?_))
      rcases bt (decide (0 ≤ i)) with h112 | h112
      ·skip
       have ph112 := of_decide_eq_true h112
       refine W_t h112 rfl (am_ (J23 _ _ (Sq fun K24 J24 => ap_ (ds (sR s0) [0,4,8,12,16,20,24,28,32,36,40,44,48,53] [13] mix (by kernel_rfl) (fun K J => pE rfl (pE rfl (pE rfl (pE rfl (pE rfl (pV (.int .i64 (i + (((((ae_ p (ac_ p))).length : Nat) : Int) - 1))) rfl (congrArg (Value.int .i64) (wx (by omega) (by omega) (by omega))) ?_))))))))))
       obtain ⟨r113, hr113⟩ := nm ((aQ_ r (i + (((((ae_ p (ac_ p))).length : Nat) : Int) - 1))) : I)
       refine pQ rfl (q_as (v' := AV [pI r113]) (aB_ en_84 rfl (fun w hw => dV_ _ r (i + (((((ae_ p (ac_ p))).length : Nat) : Int) - 1)) w (SLe.ap hw (SLfe.sle (OwnG.slfe hO_r (sR (List.sublist_append_left _ _))))))) (by rw [hr113]; first | done | rfl)) (pE rfl (pE rfl (pQ rfl (q_as (v' := .pointer (some (slb (.slice p6 (ae_ p (ac_ p)).length c7) ((((ae_ p (ac_ p))).length - 1) * 18 + 0)))) (cX_ (e := elI) (l := (ae_ p (ac_ p))) (k := (((ae_ p (ac_ p))).length - 1)) sl_24 rfl rfl (by omega) (SLfe.sle (OwnG.slfe hF9 (sR (sR (List.sublist_append_left _ _))))) (by first | omega | (simp only [List.length_set, List.length_append, List.length_cons, List.length_nil]; omega))) rfl) ?_)))
       refine pQ rfl (q_ldG (e := elI) (l := (ae_ p (ac_ p))) (k := (((ae_ p (ac_ p))).length - 1)) (o := 0) ty_38 rfl (SLfe.sle (OwnG.slfe hF9 (sR (sR (List.sublist_append_left _ _))))) (aw_ I0 (by first | omega | (simp only [List.length_set, List.length_append, List.length_cons, List.length_nil]; omega))) rfl) ?_
       obtain ⟨r114, hr114⟩ := nm ((E (Z.quo r113.dec ((ae_ p (ac_ p)).getD (((ae_ p (ac_ p))).length - 1) I0).dec)) : I)
       refine pC (AV [pI r114]) en_90 (eB_ r113.1 ((ae_ p (ac_ p)).getD (((ae_ p (ac_ p))).length - 1) I0).1 r113.2 ((ae_ p (ac_ p)).getD (((ae_ p (ac_ p))).length - 1) I0).2) rfl rfl (by rw [hr114]; first | done | rfl) (pQ rfl (q_as (v' := .pointer (some (slb (.slice p25 (List.replicate (((aa_ p)).length - (((ae_ p (ac_ p))).length - 1)) I0).length (((aa_ p)).length - (((ae_ p (ac_ p))).length - 1))) (((i).toNat) * 18 + 0)))) (cX_ (e := elI) (l := f) (k := (i).toNat) sl_22 rfl rfl (by omega) (SLfe.sle (OwnG.slfe hO_f (List.sublist_append_left _ _))) (by first | omega | (simp only [List.length_set, List.length_append, List.length_cons, List.length_nil]; omega))) rfl) ?_)
       refine PL_o rfl rfl (fj_ (e := elI) (l := f) (k := (i).toNat) (z := r114) ty_38 rfl rfl hO_f (by first | omega | (simp only [List.length_set, List.length_append, List.length_cons, List.length_nil]; omega)) rp_l rfl rfl (fun L115 hO116 => ⟨nf, (sR s0), ?_⟩))
       refine fl J (Rs fun K J => WL_r rfl (aE_ [] [] us_22 z_38 sz_38 rfl (by decide) rfl rfl trivial rfl (fun b117 hb117 => sE rfl (WL_r rfl (oP_ us_22 us_24 (c3_ (e := elI) (l := []) (m := r) 68 us_22 (by kernel_rfl) (by decide) rfl rfl (OwnG.lit (e := elI) (l := []) (qs := []) hb117 rfl (Nat.le_of_ble_eq_true rfl) rfl) (SLfe.sle (OwnG.slfe hO_r (sd (sR (List.sublist_append_left _ _))))) fq_b (by simp only [List.length_append, List.length_cons, List.length_nil]; omega) (by decide) (fun p118 c119 L120 hO121 => ?_)))))))
       refine sE rfl (nl J (Sq fun K25 J25 => Rs fun K J => sE rfl (nl J ?_)))
       refine cb_ (fun S M h => J25 S M h) [2, 9, 59, 60, 61, 62, 63, 64, 65, 66, 67, 68, 69, 70, 71, 72, 73, 74, 75, 76, 77, 78, 79, 80, 81, 82, 83, 84, 85, 86, 87, 88] (fun g M => ∃ (k : Nat) (t : List I) (L_t : List Blk), (a4_ p r i f r113 r114 ((r.length + 1)) 0 ([] ++ r)) = .inl (k, t) ∧ (t.length = r.length) ∧ (g 9 = .int .i64 ((k : Nat) : Int) ∧ OwnG w0 38 elI (.slice p118 ([] ++ r).length c119) t L_t) ∧ M = (L_t ++ (L115 ++ (L_r ++ (L8 ++ (L3 ++ [])))))) (fun K_u122 hK_u122 => ?_) ?_
       ·skip
        refine ap_ ?_
        refine aC_ [2, 9, 59, 60, 61, 62, 63, 64, 65, 66, 67, 68, 69, 70, 71, 72, 73, 74, 75, 76, 77, 78, 79, 80, 81, 82, 83, 84, 85, 86, 87, 88] (fun g nn M => ∃ (k : Nat) (t : List I) (L_t : List Blk), (a4_ p r i f r113 r114 nn k t) = (a4_ p r i f r113 r114 ((r.length + 1)) 0 ([] ++ r)) ∧ r.length - k < nn ∧ (k ≤ r.length ∧ t.length = r.length) ∧ (g 9 = .int .i64 ((k : Nat) : Int) ∧ OwnG w0 38 elI (.slice p118 ([] ++ r).length c119) t L_t) ∧ M = (L_t ++ (L115 ++ (L_r ++ (L8 ++ (L3 ++ [])))))) ((r.length + 1)) ?start ?round
        case start => exact ⟨_, s0, 0, ([] ++ r), L120, rfl, (by first | omega | (simp only [List.length_append, List.length_cons, List.length_nil, List.length_set, List.length_take, and_true, true_and, or_true, true_or, Nat.zero_add] <;> omega)), (by first | omega | (simp only [List.length_append, List.length_cons, List.length_nil, List.length_set, List.length_take, and_true, true_and, or_true, true_or, Nat.zero_add] <;> omega)), ⟨rfl, hO121⟩, rfl⟩
        case round =>
         rintro nn g M ⟨k, t, L_t, hT1, hq1, hinv1, ⟨hg9, hO_t⟩, rfl⟩
         obtain ⟨k1, rfl⟩ : ∃ m, nn = m + 1 := ⟨nn - 1, by omega⟩
         simp only [setG, hg9]
         clear hg9
         have hm_t := OwnG.max hO_t
         refine Sq fun K30 J30 => Rs fun K J => sE rfl (sE rfl (sQ (q_as (v' := .int .i64 (((r).length : Nat) : Int)) (aY_ (e := elI) sl_24 rfl (SLfe.sle (OwnG.slfe hO_r (sR (sR (List.sublist_append_left _ _)))))) rfl) rfl (sE rfl (nl J ?_))))
         rcases bt (decide (((k : Nat) : Int) < (((r).length : Nat) : Int))) with h143 | h143
         ·skip
          have ph143 := of_decide_eq_true h143
          refine W_t h143 rfl (am_ (J30 _ _ (Sq fun K31 J31 => ap_ (ds (sR s0) [0,4,8,12,16,20,24,28,32,36,40,44,48,52,56,60,64,68,73] [18] mix (by kernel_rfl) (fun K J => pE rfl (pE rfl (pE rfl (pE rfl (pQ rfl (q_as (v' := .pointer (some (slb (.slice p_r r.length c_r) (k * 18 + 0)))) (cj_ (e := elI) (l := r) (k := k) sl_24 rfl rfl (SLfe.sle (OwnG.slfe hO_r (sR (sR (List.sublist_append_left _ _))))) (by first | omega | (simp only [List.length_set, List.length_append, List.length_cons, List.length_nil]; omega))) rfl) ?_)))))))))
          refine pQ rfl (q_ldG (e := elI) (l := r) (k := k) (o := 0) ty_38 rfl (SLfe.sle (OwnG.slfe hO_r (sR (sR (List.sublist_append_left _ _))))) (aw_ I0 (by first | omega | (simp only [List.length_set, List.length_append, List.length_cons, List.length_nil]; omega))) rfl) ?_
          refine pE rfl (pE rfl (pQ rfl (q_as (v' := .pointer (some (slb (.slice p25 (List.replicate (((aa_ p)).length - (((ae_ p (ac_ p))).length - 1)) I0).length (((aa_ p)).length - (((ae_ p (ac_ p))).length - 1))) (((i).toNat) * 18 + 0)))) (cX_ (e := elI) (l := (f.set ((i).toNat) r114)) (k := (i).toNat) sl_22 rfl rfl (by omega) (SLfe.sle (OwnG.slfe hO116 (sR (List.sublist_append_left _ _)))) (by first | omega | (simp only [List.length_set, List.length_append, List.length_cons, List.length_nil]; omega))) rfl) ?_))
          refine pQ rfl (q_ldG (e := elI) (l := (f.set ((i).toNat) r114)) (k := (i).toNat) (o := 0) ty_38 rfl (SLfe.sle (OwnG.slfe hO116 (sR (List.sublist_append_left _ _)))) (aw_ I0 (by first | omega | (simp only [List.length_set, List.length_append, List.length_cons, List.length_nil]; omega))) rfl) ?_
          refine pE rfl (pE rfl (pE rfl (pV (.int .i64 (((k : Nat) : Int) - i)) rfl (congrArg (Value.int .i64) (wx (by omega) (by omega) (by omega))) ?_)))
          obtain ⟨r144, hr144⟩ := nm ((aQ_ (ae_ p (ac_ p)) (((k : Nat) : Int) - i)) : I)
          refine pQ rfl (q_as (v' := AV [pI r144]) (aB_ en_84 rfl (fun w hw => dV_ _ (ae_ p (ac_ p)) (((k : Nat) : Int) - i) w (SLe.ap hw (SLfe.sle (OwnG.slfe hF9 (sR (sR (sR (List.sublist_append_left _ _))))))))) (by rw [hr144]; first | done | rfl)) (pC (AV [pI (E (Z.mul ((f.set ((i).toNat) r114).getD ((i).toNat) I0).dec r144.dec))]) en_82 (cq_ ((f.set ((i).toNat) r114).getD ((i).toNat) I0).1 r144.1 ((f.set ((i).toNat) r114).getD ((i).toNat) I0).2 r144.2) rfl rfl rfl ?_)
          obtain ⟨r145, hr145⟩ := nm ((E (Z.sub (r.getD k I0).dec (Z.mul ((f.set ((i).toNat) r114).getD ((i).toNat) I0).dec r144.dec))) : I)
          refine pC (AV [pI r145]) en_83 (eJ_ (r.getD k I0).1 (E (Z.mul ((f.set ((i).toNat) r114).getD ((i).toNat) I0).dec r144.dec)).1 (r.getD k I0).2 (E (Z.mul ((f.set ((i).toNat) r114).getD ((i).toNat) I0).dec r144.dec)).2) rfl rfl ((cg2 (fun p q => AV [pI (E (Z.sub p q))]) rfl (E_dec _)).trans (by rw [hr145])) (pQ rfl (q_as (v' := .pointer (some (slb (.slice p118 ([] ++ r).length c119) (k * 18 + 0)))) (cj_ (e := elI) (l := t) (k := k) sl_22 rfl rfl (SLfe.sle (OwnG.slfe hO_t (List.sublist_append_left _ _))) (by first | omega | (simp only [List.length_set, List.length_append, List.length_cons, List.length_nil]; omega))) rfl) ?_)
          refine PL_o rfl rfl (fj_ (e := elI) (l := t) (k := k) (z := r145) ty_38 rfl rfl hO_t (by first | omega | (simp only [List.length_set, List.length_append, List.length_cons, List.length_nil]; omega)) rp_l rfl rfl (fun L146 hO147 => ⟨nf, (sR s0), ?_⟩))
          refine fl J (Rs fun K J => sE rfl (sE rfl (sQ (q_as (v' := .pointer (some (slb (.slice p118 ([] ++ r).length c119) (k * 18 + 0)))) (cj_ (e := elI) (l := (t.set k r145)) (k := k) sl_22 rfl rfl (SLfe.sle (OwnG.slfe hO147 (List.sublist_append_left _ _))) (by first | omega | (simp only [List.length_set, List.length_append, List.length_cons, List.length_nil]; omega))) rfl) rfl ?_)))
          refine sQ (q_as (v' := .pointer (some (slb (.slice p118 ([] ++ r).length c119) (k * 18 + 0)))) (j6_ ep_ rfl rfl) rfl) rfl (sQ (h7_ (u := .bool (((t.set k r145).getD k I0).1.bad)) (e := elI) (l := (t.set k r145)) (k := k) (o := 0) ty_4 rfl (SLfe.sle (OwnG.slfe hO147 (List.sublist_append_left _ _))) (aw_ I0 (by first | omega | (simp only [List.length_set, List.length_append, List.length_cons, List.length_nil]; omega))) rfl) rfl ?_)
          refine nl J ?_
          rcases bt (((t.set k r145).getD k I0).1.bad) with h148 | h148
          ·skip
           refine W_t h148 rfl (Rs fun K J => WL_r rfl (as_ (E := 38) (e := elI) (l := F_skewbackref08_bad) (fun v => v) en_70 rfl (fun w hw => bB_  w) (fun p149 c150 L151 hF152 => sE rfl (nl J (W_ret (aN_ (aj_ (aj_ (aN_ (aj_ (aj_ (aN_ (aj_ (aj_ (aN_ (aj_ (aj_ (ret1 rfl (.inr rfl) rfl ?_))))))))))))))))))
           have hE : (F_skewbackref08_bad : (List I)) = (bd_ p) := by subst hr145; subst hr144; subst hr114; subst hr113; exact bif_f h19 (bif_f h24 ((sm_q rfl (hT0.symm.trans (Eq.symm (bif_t h112 ((sm_q rfl (hT1.symm.trans (Eq.symm (bif_t h143 (bif_t h148 rfl))))))))))))
           rw [← hE]
           exact ⟨_, rfl, ⟨L151, (List.sublist_append_left _ _), hF152⟩⟩
          ·skip
           refine W_f h148 rfl (am_ (J31 _ _ (Rk fun K J => sE rfl (sV (.int .i64 (((k + 1) : Nat) : Int)) rfl (congrArg (Value.int .i64) (wx (by omega) (by omega) (by omega))) (sE rfl (nl J (⟨(by repeat first | exact .refl | refine .cons rfl ?_), _, _, s0, (Nat.lt_succ_self _), (k + 1), (t.set k r145), L146, (by subst hr145; subst hr144; exact (hT1.symm.trans (Eq.symm (bif_t h143 (bif_f h148 rfl)))).symm), (Nat.lt_of_lt_of_le (by first | omega | (simp only [List.length_append, List.length_cons, List.length_nil, List.length_set, List.length_take, and_true, true_and, or_true, true_or, Nat.zero_add] <;> omega)) (Nat.le_of_lt_succ hq1)), (by first | omega | (simp only [List.length_append, List.length_cons, List.length_nil, List.length_set, List.length_take, and_true, true_and, or_true, true_or, Nat.zero_add] <;> omega)), ⟨rfl, hO147⟩, rfl⟩)))))))
         ·skip
          have ph143 := of_decide_eq_false h143
          refine W_f h143 rfl (bg_ (an_ (an_ (ar_ (hK_u122 _ _ (by repeat first | exact .refl | refine .cons rfl ?_) ⟨_, s0, k, t, L_t, (by exact hT1.symm.trans (Eq.symm (bif_f h143 rfl))), (by first | omega | (simp only [List.length_append, List.length_cons, List.length_nil, List.length_set, List.length_take, and_true, true_and, or_true, true_or, Nat.zero_add] <;> omega)), ⟨rfl, hO_t⟩, rfl⟩)))))
       ·skip
        rintro g M ⟨k, t, L_t, hCu122, hPu122, ⟨hg9, hO_t⟩, rfl⟩
        simp only [setG, hg9]
        clear hg9
        have hm_t := OwnG.max hO_t
        refine Rk fun K J => sE rfl (sE rfl (nl J (J24 _ _ (qy_ pp_ (Rk fun K J => sE rfl (sV (.int .i64 (i - 1)) rfl (congrArg (Value.int .i64) (wx (by omega) (by omega) (by omega))) (sE rfl (nl J (⟨(by repeat first | exact .refl | refine .cons rfl ?_), _, _, (sA (sA (sR (s0)))), (Nat.lt_succ_self _), t, (i - 1), (f.set ((i).toNat) r114), p118, c119, L_t, L115, (by subst hr114; subst hr113; exact (hT0.symm.trans (Eq.symm (bif_t h112 (trs (Eq.symm (smS hCu122)) rfl)))).symm), (Nat.lt_of_lt_of_le (by first | omega | (simp only [List.length_append, List.length_cons, List.length_nil, List.length_set, List.length_take, and_true, true_and, or_true, true_or, Nat.zero_add] <;> omega)) (Nat.le_of_lt_succ hq0)), (by first | omega | (simp only [List.length_append, List.length_cons, List.length_nil, List.length_set, List.length_take, and_true, true_and, or_true, true_or, Nat.zero_add] <;> omega)), ⟨(slEq (OwnG.len hO_t)), rfl, (OwnG.fix hO_t), hO116⟩, rfl⟩)))))))))
      ·skip
       have ph112 := of_decide_eq_false h112
       refine W_f h112 rfl (bg_ (an_ (an_ (ar_ (hK_u29 _ _ (by repeat first | exact .refl | refine .cons rfl ?_) ⟨_, s0, r, i, f, p_r, c_r, L_r, L_f, (by exact hT0.symm.trans (Eq.symm (bif_f h112 rfl))), (by first | omega | (simp only [List.length_append, List.length_cons, List.length_nil, List.length_set, List.length_take, and_true, true_and, or_true, true_or, Nat.zero_add] <;> omega)), ⟨rfl, rfl, hO_r, hO_f⟩, rfl⟩)))))
    ·skip
     rintro g M ⟨r, i, f, p_r, c_r, L_r, L_f, hCu29, hPu29, ⟨hg4, hg7, hO_r, hO_f⟩, rfl⟩
     simp only [setG, hg4, hg7]
     clear hg4 hg7
     have hm_r := OwnG.max hO_r
     have hm_f := OwnG.max hO_f
     refine Rs fun K J => sE rfl (WL_r rfl (as_ (E := 38) (e := elI) (l := (ah_ f)) (fun v => v) en_16 rfl (fun w hw => cd_ _ f w (SLe.ap hw (SLfe.sle (OwnG.slfe hO_f (List.sublist_append_left _ _)))) (by first | omega | (simp only [List.length_cons, List.length_nil, and_true, true_and] <;> omega) | simp)) (fun p153 c154 L155 hF156 => ?_)))
     have hb157 := (ce_ f)
     refine WL_r rfl (r_inl en_92 Tryz.func92 rfl rfl rfl (Nat.le_of_ble_eq_true rfl) ?_)
     refine Rs fun Kd1 Jd1 => sE rfl (dm_ (Jd1 _ _ (Sq fun K32 J32 => ?_)))
     refine bL_ [3, 4, 5, 6, 7, 8, 9, 10, 11, 12, 13, 14, 15, 16, 17, 18, 19] (fun g M => (g 19 = .bool ((((((ah_ f)).length : Nat) : Int) == 0) || ((ad_ (ah_ f)) || decide (0 < (Z.signW ((ah_ f).getD (((ah_ f)).length - 1) I0).dec).1)))) ∧ M = (L155 ++ (L_f ++ (L_r ++ (L8 ++ (L3 ++ [])))))) (fun K33 J33 => ?_) ?_
     ·skip
      refine Rk fun Kd1 Jd1 => sE rfl (sQ (q_as (v' := .int .i64 ((((ah_ f)).length : Nat) : Int)) (aY_ (e := elI) sl_24 rfl (SLfe.sle (OwnG.slfe hF156 (List.sublist_append_left _ _)))) rfl) rfl (sE rfl ?_))
      rcases bt (((((ah_ f)).length : Nat) : Int) == 0) with h160 | h160
      ·skip
       have ph160 := f3_ h160
       refine sB h160 rfl (WL_n rfl (WL_n rfl (sE rfl (sE rfl (WL_n rfl (WL_n rfl (WL_n rfl (WL_n rfl (WL_n rfl (WL_n rfl (WL_n rfl (WL_n rfl (sE rfl (dm_ (Jd1 _ _ ?_)))))))))))))))
       refine J33 _ _ (by repeat first | exact .refl | refine .cons rfl ?_) ⟨_, s0, ?s19, rfl⟩
       case s19 => exact congrArg Value.bool (or_t h160)
      ·skip
       have ph160 := ea_ h160
       refine sB h160 rfl (sE rfl (sQ (q_as (v' := .bool (ad_ (ah_ f))) (aB_ en_19 rfl (fun w hw => a1_ _ (ah_ f) w (SLe.ap hw (SLfe.sle (OwnG.slfe hF156 (List.sublist_append_left _ _)))))) rfl) rfl (sE rfl ?_)))
       rcases bt (ad_ (ah_ f)) with h161 | h161
       ·skip
        refine sB h161 rfl (WL_n rfl (WL_n rfl (WL_n rfl (WL_n rfl (WL_n rfl (WL_n rfl (WL_n rfl (WL_n rfl (sE rfl (dm_ (Jd1 _ _ ?_)))))))))))
        refine J33 _ _ (by repeat first | exact .refl | refine .cons rfl ?_) ⟨_, s0, ?s19, rfl⟩
        case s19 => exact congrArg Value.bool (or_f h160 (or_t h161))
       ·skip
        refine sB h161 rfl (sE rfl (sE rfl (sQ (q_as (v' := .int .i64 ((((ah_ f)).length : Nat) : Int)) (aY_ (e := elI) sl_24 rfl (SLfe.sle (OwnG.slfe hF156 (List.sublist_append_left _ _)))) rfl) rfl (sV (.int .i64 (((((ah_ f)).length : Nat) : Int) - 1)) rfl (congrArg (Value.int .i64) (wx (by omega) (by omega) (by omega))) (sQ (q_as (v' := .pointer (some (slb (.slice p153 (ah_ f).length c154) ((((ah_ f)).length - 1) * 18 + 0)))) (cX_ (e := elI) (l := (ah_ f)) (k := (((ah_ f)).length - 1)) sl_24 rfl rfl (by omega) (SLfe.sle (OwnG.slfe hF156 (List.sublist_append_left _ _))) (by first | omega | (simp only [List.length_set, List.length_append, List.length_cons, List.length_nil]; omega))) rfl) rfl ?_)))))
        refine sQ (q_ldG (e := elI) (l := (ah_ f)) (k := (((ah_ f)).length - 1)) (o := 0) ty_38 rfl (SLfe.sle (OwnG.slfe hF156 (List.sublist_append_left _ _))) (aw_ I0 (by first | omega | (simp only [List.length_set, List.length_append, List.length_cons, List.length_nil]; omega))) rfl) rfl ?_
        refine sC (.int .i64 ((Z.signW ((ah_ f).getD (((ah_ f)).length - 1) I0).dec).1)) en_71 (cE_ ((ah_ f).getD (((ah_ f)).length - 1) I0).1 ((ah_ f).getD (((ah_ f)).length - 1) I0).2) rfl rfl rfl (sE rfl (sE rfl (dm_ (Jd1 _ _ ?_))))
        refine J33 _ _ (by repeat first | exact .refl | refine .cons rfl ?_) ⟨_, s0, ?s19, rfl⟩
        case s19 => exact congrArg Value.bool (or_f h160 (or_f h161 rfl))
     ·skip
      rintro g162 M ⟨hg19, rfl⟩
      simp only [setG, hg19]
      clear hg19
      rcases bt ((((((ah_ f)).length : Nat) : Int) == 0) || ((ad_ (ah_ f)) || decide (0 < (Z.signW ((ah_ f).getD (((ah_ f)).length - 1) I0).dec).1))) with h163 | h163
      ·skip
       refine W_t h163 rfl (Rs fun Kd1 Jd1 => sE rfl (sE rfl (dm_ (Jd1 _ _ (W_ret (aj_ (ret1 rfl (.inr rfl) rfl ?_)))))))
       refine sE rfl (nl J (W_ret (ret1 rfl (.inr rfl) rfl ?_)))
       have hE : ((ah_ f) : (List I)) = (bd_ p) := by exact bif_f h19 (bif_f h24 (trs (Eq.symm (smS hCu29)) (bif_t h163 rfl)))
       rw [← hE]
       exact ⟨_, rfl, ⟨L155, (List.sublist_append_left _ _), hF156⟩⟩
      ·skip
       have ph164 := ea_ (Bool.or_eq_false_iff.1 h163).1
       have ph165 := of_decide_eq_false (Bool.or_eq_false_iff.1 (Bool.or_eq_false_iff.1 h163).2).2
       refine W_f h163 rfl (am_ (J32 _ _ (Rs fun Kd1 Jd1 => sE rfl (sC (AV [pI (E (Z.of (-1)))]) en_81 (bT_ (wl (-1)).1 (wl (-1)).2) rfl rfl rfl ?_))))
       refine WL_r rfl (as_ (E := 38) (e := elI) (l := (a5_ (ah_ f) (E (Z.of (-1))))) (fun v => v) en_49 rfl (fun w hw => ei_ _ (ah_ f) (E (Z.of (-1))) w (SLe.ap hw (SLfe.sle (OwnG.slfe hF156 (List.sublist_append_left _ _)))) (by first | omega | (simp only [List.length_cons, List.length_nil, and_true, true_and] <;> omega) | simp)) (fun p166 c167 L168 hF169 => ?_))
       have hb170 := (ds_ (ah_ f) (E (Z.of (-1))))
       refine sE rfl (dm_ (Jd1 _ _ (W_ret (ret1 rfl (.inr rfl) rfl ?_))))
       refine sE rfl (nl J (W_ret (ret1 rfl (.inr rfl) rfl ?_)))
       have hE : ((a5_ (ah_ f) (E (Z.of (-1)))) : (List I)) = (bd_ p) := by exact bif_f h19 (bif_f h24 (trs (Eq.symm (smS hCu29)) (bif_f h163 rfl)))
       rw [← hE]
       exact ⟨_, rfl, ⟨L168, (List.sublist_append_left _ _), hF169⟩⟩
end Go.Proofs.YtjdfogfmeibkgaaGreat

