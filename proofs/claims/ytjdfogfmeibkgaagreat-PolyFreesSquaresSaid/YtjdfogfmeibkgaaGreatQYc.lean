/- Walks: what these functions return. -/
import Derived.Test.YtjdfogfmeibkgaaGreatQGE
import Derived.Test.YtjdfogfmeibkgaaGreatQFp
import Derived.Test.YtjdfogfmeibkgaaGreatQWi
import Derived.Test.YtjdfogfmeibkgaaGreatQWa
import Derived.Test.YtjdfogfmeibkgaaGreatQWc
import Derived.Test.YtjdfogfmeibkgaaGreatQWe
import Derived.Test.YtjdfogfmeibkgaaGreatQWh
import Derived.Test.YtjdfogfmeibkgaaGreatQGf
import Derived.Test.YtjdfogfmeibkgaaGreatQYb
import Derived.Test.YtjdfogfmeibkgaaGreatQYl
namespace Go.Proofs.YtjdfogfmeibkgaaGreat
open Go.Kn Go.Num
set_option linter.unusedVariables false
set_option linter.unusedSimpArgs false
set_option maxRecDepth 20000
set_option maxHeartbeats 8000000
theorem fF_ (d : I) (n : Int) (w : World)  (hpre : n ≤ 200) :
    Calls Tryz.prog 143 [AV [pI d], .int .i64 n].toArray w (fun e w' => ∃ v, e = .returned (v) ∧ Ext w w' ∧ Slo w.heap.size w' 38 elI v (aB_ d n)) := by
 refine bs_ (n := 24) (fun v => v) Tryz.func143 rfl rfl (by simp) ?_
 obtain ⟨w0, rfl⟩ : ∃ w0, w0 = w := ⟨_, rfl⟩
 simp only [initF, Nat.reduceAdd]
 refine Rs fun K J => WL_r rfl (cG_ rfl rfl (fun b1 hb1 => sE rfl (nl J (Rs fun K J => sC (AV [pI (E (Z.of 1))]) en_62 (aY_ (wl 1).1 (wl 1).2) rfl rfl rfl ?_))))
 refine WL_r rfl (az_ [[pI (E (Z.of 1))]] [pI (E (Z.of 1))] us_22 z_38 sz_38 rfl (by decide) rfl rfl ⟨rfl, rfl, rfl, trivial⟩ rfl (fun b2 hb2 => sE rfl (nl J ?_)))
 refine bD_ [5, 8, 9, 10, 11, 12, 13, 14, 15, 16, 17, 18, 19, 20, 21, 22] (fun g M => ∃ (out : List I) (p_out : Option Addr) (c_out : Nat) (L_out : List Blk), (bS_ d n ((n.toNat + 1)) [(E (Z.of 1))]) = out ∧ (g 5 = .slice p_out out.length c_out ∧ OwnG w0 38 elI (.slice p_out out.length c_out) out L_out) ∧ M = (L_out ++ (⟨b1, 38, flat [pI d]⟩ :: []))) (fun K_u3 hK_u3 => ?_) ?_
 ·skip
  refine aq_ ?_
  refine aL_ [5, 8, 9, 10, 11, 12, 13, 14, 15, 16, 17, 18, 19, 20, 21, 22] (fun g nn M => ∃ (out : List I) (p_out : Option Addr) (c_out : Nat) (L_out : List Blk), (bS_ d n nn out) = (bS_ d n ((n.toNat + 1)) [(E (Z.of 1))]) ∧ n.toNat - out.length < nn ∧ (1 ≤ out.length ∧ (out.length : Int) ≤ max n 1) ∧ (g 5 = .slice p_out out.length c_out ∧ OwnG w0 38 elI (.slice p_out out.length c_out) out L_out) ∧ M = (L_out ++ (⟨b1, 38, flat [pI d]⟩ :: []))) ((n.toNat + 1)) ?start ?round
  case start => exact ⟨_, s0, [(E (Z.of 1))], (some ⟨b2, 0, none⟩), 1, [⟨b2, 38, flat [pI (E (Z.of 1))]⟩], rfl, (by first | omega | (simp only [List.length_append, List.length_cons, List.length_nil, List.length_set, List.length_take, and_true, true_and, or_true, true_or, Nat.zero_add] <;> omega)), (by first | omega | (simp only [List.length_append, List.length_cons, List.length_nil, List.length_set, List.length_take, and_true, true_and, or_true, true_or, Nat.zero_add] <;> omega)), ⟨rfl, (OwnG.lit (e := elI) (l := [(E (Z.of 1))]) (qs := [pI (E (Z.of 1))]) hb2 rfl (Nat.le_of_ble_eq_true rfl) rfl)⟩, rfl⟩
  case round =>
   rintro nn g M ⟨out, p_out, c_out, L_out, hT0, hq0, hinv0, ⟨hg5, hO_out⟩, rfl⟩
   obtain ⟨k0, rfl⟩ : ∃ m, nn = m + 1 := ⟨nn - 1, by omega⟩
   simp only [setG, hg5]
   clear hg5
   have hm_out := OwnG.max hO_out
   refine Sq fun K2 J2 => Rs fun K J => sE rfl (sQ (q_as (v' := .int .i64 (((out).length : Nat) : Int)) (aS_ (e := elI) sl_22 rfl (SLfe.sle (OwnG.slfe hO_out (List.sublist_append_left _ _)))) rfl) rfl (sE rfl (sE rfl (nl J ?_))))
   rcases bt (decide ((((out).length : Nat) : Int) < n)) with h10 | h10
   ·skip
    have ph10 := of_decide_eq_true h10
    refine W_t h10 rfl (am_ (J2 _ _ (aq_ (dr sn [0,4,8,12,16,20,24,28,32,37,41,44] [10] mix (by kernel_rfl) (fun K J => pE rfl (pE rfl (pE rfl (pQ rfl (q_as (v' := .int .i64 (((out).length : Nat) : Int)) (aS_ (e := elI) sl_22 rfl (SLfe.sle (OwnG.slfe hO_out (List.sublist_append_left _ _)))) rfl) (pV (.int .i64 ((((out).length : Nat) : Int) - 1)) rfl (congrArg (Value.int .i64) (wx (by omega) (by omega) (by omega))) (pQ rfl (q_as (v' := .pointer (some (slb (.slice p_out out.length c_out) (((out).length - 1) * 18 + 0)))) (c4_ (e := elI) (l := out) (k := ((out).length - 1)) sl_22 rfl rfl (by omega) (SLfe.sle (OwnG.slfe hO_out (List.sublist_append_left _ _))) (by first | omega | (simp only [List.length_set, List.length_append, List.length_cons, List.length_nil]; omega))) rfl) ?_))))))))))
    refine pQ rfl (q_ldG (e := elI) (l := out) (k := ((out).length - 1)) (o := 0) ty_38 rfl (SLfe.sle (OwnG.slfe hO_out (List.sublist_append_left _ _))) (aA_ I0 (by first | omega | (simp only [List.length_set, List.length_append, List.length_cons, List.length_nil]; omega))) rfl) ?_
    refine pQ rfl (qL ty_38 rfl (List.mem_append_right _ (List.mem_cons_self)) rfl) (pC (AV [pI (E (Z.mul (out.getD ((out).length - 1) I0).dec d.dec))]) en_77 (aK_ (out.getD ((out).length - 1) I0).1 d.1 (out.getD ((out).length - 1) I0).2 d.2) rfl rfl rfl (PL_o rfl rfl (az_ [[pI (E (Z.mul (out.getD ((out).length - 1) I0).dec d.dec))]] [pI (E (Z.mul (out.getD ((out).length - 1) I0).dec d.dec))] us_22 z_38 sz_38 rfl (by decide) rfl rfl ⟨rfl, rfl, rfl, trivial⟩ rfl (fun b11 hb11 => ⟨(fun _ => sd s0), sn, PL_o rfl rfl (dN_ (e := elI) (l := out) (m := [(E (Z.mul (out.getD ((out).length - 1) I0).dec d.dec))]) 68 us_22 (by kernel_rfl) (by decide) rfl rfl hO_out (SLe.lit (e := elI) (l := [(E (Z.mul (out.getD ((out).length - 1) I0).dec d.dec))]) m0 rfl (Nat.le_of_ble_eq_true rfl) rfl) (fq_s fq_l) (by simp only [List.length_append, List.length_cons, List.length_nil]; omega) (by decide) (fun p12 c13 L14 hO15 => ⟨nf, sn, ?_⟩))⟩))))
    refine pE rfl (fl J (⟨(by repeat first | exact .refl | refine .cons rfl ?_), _, _, (sA (sd (s0))), (Nat.lt_succ_self _), (out ++ [(E (Z.mul (out.getD ((out).length - 1) I0).dec d.dec))]), p12, c13, L14, (by exact (hT0.symm.trans (Eq.symm (bif_t h10 rfl))).symm), (Nat.lt_of_lt_of_le (by first | omega | (simp only [List.length_append, List.length_cons, List.length_nil, List.length_set, List.length_take, and_true, true_and, or_true, true_or, Nat.zero_add] <;> omega)) (Nat.le_of_lt_succ hq0)), (by first | omega | (simp only [List.length_append, List.length_cons, List.length_nil, List.length_set, List.length_take, and_true, true_and, or_true, true_or, Nat.zero_add] <;> omega)), ⟨rfl, hO15⟩, rfl⟩))
   ·skip
    have ph10 := of_decide_eq_false h10
    refine W_f h10 rfl (bw_ (ap_ (ap_ (as_ (hK_u3 _ _ (by repeat first | exact .refl | refine .cons rfl ?_) ⟨_, s0, out, p_out, c_out, L_out, (by exact hT0.symm.trans (Eq.symm (bif_f h10 rfl))), ⟨rfl, hO_out⟩, rfl⟩)))))
 ·skip
  rintro g M ⟨out, p_out, c_out, L_out, hCu3, ⟨hg5, hO_out⟩, rfl⟩
  simp only [setG, hg5]
  clear hg5
  have hm_out := OwnG.max hO_out
  refine Rs fun K J => sE rfl (sE rfl (nl J (W_ret (ret1 rfl (.inr rfl) rfl ?_))))
  have hE : (out : (List I)) = (aB_ d n) := by exact (by unfold aB_; exact trs (Eq.symm (apS hCu3)) rfl)
  rw [← hE]
  exact ⟨_, rfl, ⟨L_out, (List.sublist_append_left _ _), hO_out⟩⟩

theorem h2_ (vp : Value) (p : (List I)) (x : Rt) (w : World) (hp : Slr w elI vp p) (hpre : p.length ≤ 100) :
    Calls Tryz.prog 102 [vp, AV [pI x.n, pI x.d]].toArray w (fun e w' => e = .returned (.tuple #[AV [pI ((b2_ p x).1)], AV [pI ((b2_ p x).2)]]) ∧ Ext w w') := by
 obtain ⟨p_p, c_p, rfl⟩ := hp.form
 refine aU_ (N := 51) Tryz.func102 rfl rfl (by simp) ?_
 obtain ⟨w0, rfl⟩ : ∃ w0, w0 = w := ⟨_, rfl⟩
 have Hp := hp.old
 have hm_p := hp.max
 simp only [initF, Nat.reduceAdd]
 refine Rs fun K J => sX [csl p_p p.length c_p] rfl rfl rfl fun b1 hb1 => WL_r rfl (cG_ rfl rfl (fun b2 hb2 => sN zp_38 rfl fun b3 hb3 => sN zp_38 rfl fun b4 hb4 => nl J (Sq fun K1 J1 => ?_)))
 refine bD_ [9, 10, 11, 12, 13, 14, 15, 16] (fun g M => (g 16 = .bool ((ae_ p) || (!(b7_ [x])))) ∧ M = [⟨b4, 38, flat [pI I0]⟩, ⟨b3, 38, flat [pI I0]⟩, ⟨b2, 44, flat [pI x.n, pI x.d]⟩, ⟨b1, 24, flat [csl p_p p.length c_p]⟩]) (fun K2 J2 => ?_) ?_
 ·skip
  refine Rk fun K J => sQ (qC ty_24 rfl m3 rfl) rfl (sQ (q_as (v' := .bool (ae_ p)) (aH_ en_18 rfl (fun w hw => aC_ _ p w (SLe.ap hw (SLe.sub Hp sn)))) rfl) rfl ?_)
  rcases bt (ae_ p) with h7 | h7
  ·skip
   refine sB h7 rfl (WL_n rfl (WL_n rfl (WL_n rfl (WL_n rfl (sE rfl (nl J ?_))))))
   refine J2 _ _ (by repeat first | exact .refl | refine .cons rfl ?_) ⟨_, s0, ?s16, rfl⟩
   case s16 => exact congrArg Value.bool (or_t h7)
  ·skip
   refine sB h7 rfl (sQ (qL ty_44 rfl m2 rfl) rfl (WL_r rfl (az_ [[pI x.n, pI x.d]] [pI x.n, pI x.d] mq_ z_44 sz_44 rfl (by decide) rfl rfl ⟨rfl, rfl, rfl, trivial⟩ rfl (fun b8 hb8 => sQ (q_as (v' := .bool (b7_ [x])) (aH_ l4_ rfl (fun w hw => fa_ _ [x] w (SLe.ap hw (SLe.lit (e := elRt) (l := [x]) m0 rfl (Nat.le_of_ble_eq_true rfl) rfl)))) rfl) rfl (sE rfl (sE rfl (nl J ?_)))))))
   refine J2 _ _ (by repeat first | exact .refl | refine .cons rfl ?_) ⟨_, (sd (s0)), ?s16, rfl⟩
   case s16 => exact congrArg Value.bool (or_f h7 rfl)
 ·skip
  rintro g9 M ⟨hg16, rfl⟩
  simp only [setG, hg16]
  clear hg16
  rcases bt ((ae_ p) || (!(b7_ [x]))) with h10 | h10
  ·skip
   refine W_t h10 rfl (Rs fun K J => sC (AV [pI (E Z.bad)]) en_65 bz_ rfl rfl rfl (sC (AV [pI (E (Z.of 1))]) en_62 (aY_ (wl 1).1 (wl 1).2) rfl rfl rfl ?_))
   refine sS [pI (E Z.bad)] ty_38 rfl rfl rfl rfl rfl (.tail _ (.head _)) rfl hb3 (sS [pI (E (Z.of 1))] ty_38 rfl rfl rfl rfl rfl (.head _) rfl hb4 (nl J (W_ret (aj_ (ret2 rfl (.inr rfl) (resP rfl m1 ty_38 rfl) (resP rfl m0 ty_38 rfl) ?_)))))
   exact (by exact congrArg (fun r : I × I => (.tuple #[AV [pI r.1], AV [pI r.2]] : Value)) (show _ = (b2_ p x) from bif_t h10 rfl))
  ·skip
   refine W_f h10 rfl (am_ (J1 _ _ (Rs fun K J => sQ (qF dy_ rfl rfl) rfl (sQ (qL ty_38 rfl m2 rfl) rfl (sQ (qC ty_24 rfl m3 rfl) rfl (sQ (q_as (v' := .int .i64 (((p).length : Nat) : Int)) (aS_ (e := elI) sl_24 rfl (SLe.sub Hp sn)) rfl) rfl (WL_r rfl (an_ (E := 38) (e := elI) (l := (aB_ x.d (((p).length : Nat) : Int))) (fun v => v) oP_ rfl (fun w hw => fF_ x.d (((p).length : Nat) : Int) w (by first | omega | (simp only [List.length_cons, List.length_nil, and_true, true_and] <;> omega) | simp)) (fun p11 c12 L13 hF14 => ?_)))))))))
   have hb15 := (fI_ x.d (((p).length : Nat) : Int))
   refine sN zp_22 rfl fun b16 hb16 => sS [csl p11 (aB_ x.d (((p).length : Nat) : Int)).length c12] ty_22 rfl rfl rfl rfl rfl (.head _) rfl hb16 (nl J (Sq fun K3 J3 => Rs fun K J => sQ (qC ty_24 rfl (List.mem_cons_of_mem _ (List.mem_append_right _ (List.mem_cons_of_mem _ (List.mem_cons_of_mem _ (List.mem_cons_of_mem _ (List.mem_cons_self)))))) rfl) rfl (WL_r rfl (r_inl q2_ Tryz.func144 rfl rfl rfl (Nat.le_of_ble_eq_true rfl) ?_))))
   refine Rs fun Kd1 Jd1 => sX [csl p_p p.length c_p] rfl rfl rfl fun b17 hb17 => sE rfl (eK_ (Jd1 _ _ (Rs fun Kd1 Jd1 => sQ (hP_ rfl rfl) rfl (sE rfl (eK_ (Jd1 _ _ (W_ret (ret1 rfl (.inr rfl) rfl ?_))))))))
   refine nl J (aq_ (pV_ rfl q3_ Tryz.func157 rfl rfl (Nat.le_of_ble_eq_true rfl) (Nat.le_of_ble_eq_true rfl) (fun ly4 qy4 hzy4 hpy4 hay4 hby4 hty4 => ?_)))
   refine Rs fun K J => sQ (qC ty_24 rfl m0 rfl) rfl (sQ (q_as (v' := .int .i64 (((p).length : Nat) : Int)) (aS_ (e := elI) sl_24 rfl (SLe.sub Hp sn)) rfl) rfl (sV (.int .i64 ((((p).length : Nat) : Int) - 1)) rfl (congrArg (Value.int .i64) (wx (by omega) (by omega) (by omega))) (sE rfl (nl J (aq_ ?_)))))
   refine aL_ [3, 7, 8, 9, 10, 11, 12, 13, 14, 15, 16, 17, 18] (fun g nn M => ∃ (i : Int) (mb3 : I), (cB_ p x nn i mb3) = (cB_ p x ((p.length + 1)) ((((p).length : Nat) : Int) - 1) I0) ∧ (i + 1).toNat < nn ∧ (i < (p.length : Int) ∧ -1 ≤ i) ∧ (g 3 = .int .i64 i) ∧ M = (⟨b17, 24, flat [csl p_p p.length c_p]⟩ :: (⟨b16, 22, flat [csl p11 (aB_ x.d (((p).length : Nat) : Int)).length c12]⟩ :: (L13 ++ (⟨b4, 38, flat [pI I0]⟩ :: (⟨b3, 38, flat [pI mb3]⟩ :: (⟨b2, 44, flat [pI x.n, pI x.d]⟩ :: (⟨b1, 24, flat [csl p_p p.length c_p]⟩ :: [])))))))) ((p.length + 1)) ?start ?round
   case start => exact ⟨_, s0, ((((p).length : Nat) : Int) - 1), I0, rfl, (by first | omega | (simp only [List.length_append, List.length_cons, List.length_nil, List.length_set, List.length_take, and_true, true_and, or_true, true_or, Nat.zero_add] <;> omega)), (by first | omega | (simp only [List.length_append, List.length_cons, List.length_nil, List.length_set, List.length_take, and_true, true_and, or_true, true_or, Nat.zero_add] <;> omega)), rfl, rfl⟩
   case round =>
    rintro nn g M ⟨i, mb3, hT0, hq0, hinv0, hg3, rfl⟩
    obtain ⟨k0, rfl⟩ : ∃ m, nn = m + 1 := ⟨nn - 1, by omega⟩
    simp only [setG, hg3]
    clear hg3
    refine Sq fun K9 J9 => Rs fun K J => sE rfl (sE rfl (nl J ?_))
    rcases bt (decide (0 ≤ i)) with h26 | h26
    ·skip
     have ph26 := of_decide_eq_true h26
     refine W_t h26 rfl (am_ (J9 _ _ (Sq fun K10 J10 => aq_ (Rs fun K J => sE rfl (sE rfl (sQ (qC ty_24 rfl m0 rfl) rfl (sE rfl (sQ (q_as (v' := .pointer (some (slb (.slice p_p p.length c_p) (((i).toNat) * 18 + 0)))) (c4_ (e := elI) (l := p) (k := (i).toNat) sl_24 rfl rfl (by omega) (SLe.sub Hp sn) (by first | omega | (simp only [List.length_set, List.length_append, List.length_cons, List.length_nil]; omega))) rfl) rfl ?_))))))))
     refine sQ (q_ldG (e := elI) (l := p) (k := (i).toNat) (o := 0) ty_38 rfl (SLe.sub Hp sn) (aA_ I0 (by first | omega | (simp only [List.length_set, List.length_append, List.length_cons, List.length_nil]; omega))) rfl) rfl ?_
     refine WL_y rfl (pL_ (ps := [26, 27]) rfl rfl rfl hpy4 hay4 hby4 hty4 rfl rfl hzy4 ?_)
     refine Rs fun Kd1 Jd1 => sE rfl (eK_ (Jd1 _ _ (Rk fun Kd1 Jd1 => sN zp_38 rfl fun b27 hb27 => sS [pI (p.getD ((i).toNat) I0)] ty_38 rfl rfl rfl rfl rfl (.head _) rfl hb27 (eK_ (Jd1 _ _ (pN_ ?_))))))
     refine aq_ (dr (sk (sk (sk (sA (sk (sd s0)))))) [0,4,8,12,16,20,24,28,32,36,40,44,48,52,56,61] [15] mix (by kernel_rfl) (fun Kd1 Jd1 => pQ rfl (qL ty_38 rfl (List.mem_cons_of_mem _ (List.mem_cons_of_mem _ (List.mem_cons_of_mem _ (List.mem_append_right _ (List.mem_cons_of_mem _ (List.mem_cons_self)))))) rfl) (pQ rfl (qF eW_ rfl rfl) (pQ rfl (qL ty_38 rfl (List.mem_cons_of_mem _ (List.mem_cons_of_mem _ (List.mem_cons_of_mem _ (List.mem_append_right _ (List.mem_cons_of_mem _ (List.mem_cons_of_mem _ (List.mem_cons_self))))))) rfl) (pC (AV [pI (E (Z.mul mb3.dec x.n.dec))]) en_77 (aK_ mb3.1 x.n.1 mb3.2 x.n.2) rfl rfl rfl (pQ rfl (qL ty_38 rfl m0 rfl) (pQ rfl (qC ty_22 rfl m2 rfl) (pQ rfl (qC ty_24 rfl (List.mem_cons_of_mem _ (List.mem_cons_of_mem _ (List.mem_cons_of_mem _ (List.mem_append_right _ (List.mem_cons_of_mem _ (List.mem_cons_of_mem _ (List.mem_cons_of_mem _ (List.mem_cons_self)))))))) rfl) (pQ rfl (q_as (v' := .int .i64 (((p).length : Nat) : Int)) (aS_ (e := elI) sl_24 rfl (SLe.sub Hp sn)) rfl) (pV (.int .i64 ((((p).length : Nat) : Int) - 1)) rfl (congrArg (Value.int .i64) (wx (by omega) (by omega) (by omega))) (pE rfl (pV (.int .i64 (((((p).length : Nat) : Int) - 1) - i)) rfl (congrArg (Value.int .i64) (wx (by omega) (by omega) (by omega))) (pQ rfl (q_as (v' := .pointer (some (slb (.slice p11 (aB_ x.d (((p).length : Nat) : Int)).length c12) ((((p).length - 1) - (i).toNat) * 18 + 0)))) (c4_ (e := elI) (l := (aB_ x.d (((p).length : Nat) : Int))) (k := (((p).length - 1) - (i).toNat)) sl_22 rfl rfl (by omega) (SLfe.sle (OwnG.slfe hF14 (sd (sd (sd (List.sublist_append_left _ _)))))) (by first | omega | (simp only [List.length_set, List.length_append, List.length_cons, List.length_nil]; omega))) rfl) ?_)))))))))))))
     refine pQ rfl (q_ldG (e := elI) (l := (aB_ x.d (((p).length : Nat) : Int))) (k := (((p).length - 1) - (i).toNat)) (o := 0) ty_38 rfl (SLfe.sle (OwnG.slfe hF14 (sd (sd (sd (List.sublist_append_left _ _)))))) (aA_ I0 (by first | omega | (simp only [List.length_set, List.length_append, List.length_cons, List.length_nil]; omega))) rfl) ?_
     obtain ⟨r28, hr28⟩ := nm ((E (Z.mul (p.getD ((i).toNat) I0).dec ((aB_ x.d (((p).length : Nat) : Int)).getD (((p).length - 1) - (i).toNat) I0).dec)) : I)
     refine pC (AV [pI r28]) en_77 (aK_ (p.getD ((i).toNat) I0).1 ((aB_ x.d (((p).length : Nat) : Int)).getD (((p).length - 1) - (i).toNat) I0).1 (p.getD ((i).toNat) I0).2 ((aB_ x.d (((p).length : Nat) : Int)).getD (((p).length - 1) - (i).toNat) I0).2) rfl rfl (by rw [hr28]; first | done | rfl) (pC (AV [pI (E (Z.add (Z.mul mb3.dec x.n.dec) r28.dec))]) en_94 (cY_ (E (Z.mul mb3.dec x.n.dec)).1 r28.1 (E (Z.mul mb3.dec x.n.dec)).2 r28.2) rfl rfl (cg2 (fun p q => AV [pI (E (Z.add p q))]) (E_dec _) rfl) (oS [pI (E (Z.add (Z.mul mb3.dec x.n.dec) r28.dec))] ty_38 rfl rfl rfl rfl rfl rfl (.tail _ (.tail _ (.tail _ (Upd.left (.tail _ (.head _)) _)))) rfl hb3 rfl (sk (sk (sk (sA (sk (sd s0)))))) (qq_ (Jd1 _ _ (ly_ (pY_ ?_))))))
     refine sV (.bool false) rfl rfl (nl J (dw_ rfl (am_ (ly_ (J10 _ _ (Rk fun K J => sE rfl (sV (.int .i64 (i - 1)) rfl (congrArg (Value.int .i64) (wx (by omega) (by omega) (by omega))) (sE rfl (nl J (⟨(by repeat first | exact .refl | refine .cons rfl ?_), _, _, (sd (s0)), (Nat.lt_succ_self _), (i - 1), (E (Z.add (Z.mul mb3.dec x.n.dec) r28.dec)), (by subst hr28; exact (hT0.symm.trans (Eq.symm (bif_t h26 rfl))).symm), (Nat.lt_of_lt_of_le (by first | omega | (simp only [List.length_append, List.length_cons, List.length_nil, List.length_set, List.length_take, and_true, true_and, or_true, true_or, Nat.zero_add] <;> omega)) (Nat.le_of_lt_succ hq0)), (by first | omega | (simp only [List.length_append, List.length_cons, List.length_nil, List.length_set, List.length_take, and_true, true_and, or_true, true_or, Nat.zero_add] <;> omega)), rfl, rfl⟩))))))))))
    ·skip
     have ph26 := of_decide_eq_false h26
     refine W_f h26 rfl (bw_ (ap_ (ap_ (as_ ?_))))
     have hCu19 : (cB_ p x ((p.length + 1)) ((((p).length : Nat) : Int) - 1) I0) = (i, mb3) := by exact hT0.symm.trans (Eq.symm (bif_f h26 rfl))
     refine (qL_ rfl (.inl rfl) rfl ?_)
     refine J3 _ _ (ds (sk (sk (sA (sd (sd s0))))) [0,6,10,14,18,22,26,30,33,37] [8,9] mix (by kernel_rfl) (fun K J => pQ rfl (qL ty_38 rfl (List.mem_cons_of_mem _ (List.mem_cons_of_mem _ (List.mem_append_right _ (List.mem_cons_of_mem _ (List.mem_cons_self))))) rfl) (PL_s rfl rfl (kn_ (v := .slice p11 (aB_ x.d (((p).length : Nat) : Int)).length c12) ty_22 rfl m1 rfl) (PL_s rfl rfl (kn_ (v := .slice p_p p.length c_p) ty_24 rfl (List.mem_cons_of_mem _ (List.mem_cons_of_mem _ (List.mem_append_right _ (List.mem_cons_of_mem _ (List.mem_cons_self))))) rfl) (PL_s rfl rfl (q_as (v' := .int .i64 (((p).length : Nat) : Int)) (aS_ (e := elI) sl_24 rfl (SLe.sub Hp sn)) rfl) (tV (.int .i64 ((((p).length : Nat) : Int) - 1)) rfl (congrArg (Value.int .i64) (wx (by omega) (by omega) (by omega))) (PL_s rfl rfl (q_as (v' := .int .i64 (((((((p).length : Nat) : Int) - 1)).toNat : Nat) : Int)) (hi_ rfl rfl) (congrArg (Value.int .i64) (by omega))) (PL_s rfl rfl (q_as (v' := .pointer (some (slb (.slice p11 (aB_ x.d (((p).length : Nat) : Int)).length c12) (((((((p).length : Nat) : Int) - 1)).toNat) * 18 + 0)))) (cp_ (e := elI) (l := (aB_ x.d (((p).length : Nat) : Int))) (k := (((((p).length : Nat) : Int) - 1)).toNat) sl_22 rfl rfl (SLfe.sle (OwnG.slfe hF14 (sd (sd (List.sublist_append_left _ _))))) (by first | omega | (simp only [List.length_set, List.length_append, List.length_cons, List.length_nil]; omega))) rfl) ?_))))))))
     refine PL_s rfl rfl (q_ldG (e := elI) (l := (aB_ x.d (((p).length : Nat) : Int))) (k := (((((p).length : Nat) : Int) - 1)).toNat) (o := 0) ty_38 rfl (SLfe.sle (OwnG.slfe hF14 (sd (sd (List.sublist_append_left _ _))))) (aA_ I0 (by first | omega | (simp only [List.length_set, List.length_append, List.length_cons, List.length_nil]; omega))) rfl) ?_
     refine oS [pI mb3] ty_38 rfl rfl rfl rfl rfl rfl (.tail _ (.tail _ (Upd.left (.tail _ (.head _)) _))) rfl hb3 rfl (sk (sk (sA (sd (sd s0))))) (oS [pI ((aB_ x.d (((p).length : Nat) : Int)).getD ((((((p).length : Nat) : Int) - 1)).toNat) I0)] ty_38 rfl rfl rfl rfl rfl rfl (.tail _ (.tail _ (Upd.left (.head _) _))) rfl hb4 rfl (sk (sk (sA (sd (sd s0))))) (fl J (W_ret (ret2 rfl (.inr rfl) (resP rfl (List.mem_cons_of_mem _ (List.mem_cons_of_mem _ (List.mem_append_right _ (List.mem_cons_of_mem _ (List.mem_cons_self))))) ty_38 rfl) (resP rfl (List.mem_cons_of_mem _ (List.mem_cons_of_mem _ (List.mem_append_right _ (List.mem_cons_self)))) ty_38 rfl) ?_))))
     exact (by exact congrArg (fun r : I × I => (.tuple #[AV [pI r.1], AV [pI r.2]] : Value)) (show _ = (b2_ p x) from bif_f h10 (trs (Eq.symm (apS hCu19)) rfl)))

theorem gu_ (vp : Value) (p : (List I)) (x : Rt) (w : World) (hp : Slr w elI vp p) (hpre : p.length ≤ 100) :
    Calls Tryz.prog 40 [vp, AV [pI x.n, pI x.d]].toArray w (fun e w' => e = .returned (AV [pI ((dY_ p x).n), pI ((dY_ p x).d)]) ∧ Ext w w') := by
 obtain ⟨p_p, c_p, rfl⟩ := hp.form
 refine aU_ (N := 11) Tryz.func40 rfl rfl (by simp) ?_
 obtain ⟨w0, rfl⟩ : ∃ w0, w0 = w := ⟨_, rfl⟩
 have Hp := hp.old
 have hm_p := hp.max
 simp only [initF, Nat.reduceAdd]
 refine Rs fun K J => WL_r rfl (cG_ rfl rfl (fun b1 hb1 => sN zp_44 rfl fun b2 hb2 => nl J (Rs fun K J => sE rfl (sQ (qL ty_44 rfl m1 rfl) rfl (sQ (q_as (v' := .tuple #[AV [pI ((b2_ p x).1)], AV [pI ((b2_ p x).2)]]) (aH_ qs_ rfl (fun w hw => h2_ _ p x w (SLe.ap hw (SLe.sub Hp sn)) (by first | omega | (simp only [List.length_cons, List.length_nil, and_true, true_and] <;> omega) | simp))) rfl) rfl ?_)))))
 refine sE rfl (sE rfl ?_)
 obtain ⟨r3, hr3⟩ := nm ((bJ_ ((b2_ p x).1) ((b2_ p x).2)) : Rt)
 refine sC (AV [pI r3.n, pI r3.d]) en_61 (dr_ ((b2_ p x).1) ((b2_ p x).2)) rfl rfl (by rw [hr3]; first | done | rfl) (sS [pI r3.n, pI r3.d] ty_44 rfl rfl rfl rfl rfl (.head _) rfl hb2 (nl J (W_ret (ret1 rfl (.inr rfl) (resP rfl m0 ty_44 rfl) ?_))))
 exact (by subst hr3; rfl)

theorem cO_ (vp : Value) (p : (List I)) (vq : Value) (q : (List I)) (w : World) (hp : Slr w elI vp p) (hq : Slr w elI vq q) (hpre : p.length ≤ 100 ∧ q.length ≤ 100) :
    Calls Tryz.prog 23 [vp, vq].toArray w (fun e w' => ∃ v, e = .returned (v) ∧ Ext w w' ∧ Slo w.heap.size w' 38 elI v (ao_ p q)) := by
 obtain ⟨p_p, c_p, rfl⟩ := hp.form
 obtain ⟨p_q, c_q, rfl⟩ := hq.form
 refine bs_ (n := 89) (fun v => v) Tryz.func23 rfl rfl (by simp) ?_
 obtain ⟨w0, rfl⟩ : ∃ w0, w0 = w := ⟨_, rfl⟩
 have Hp := hp.old
 have hm_p := hp.max
 have Hq := hq.old
 have hm_q := hq.max
 simp only [initF, Nat.reduceAdd]
 refine Rs fun K J => sE rfl (nl J (Sq fun K1 J1 => ?_))
 refine bD_ [12, 13, 14, 15, 16, 17, 18, 19, 20, 21, 22] (fun g M => (g 22 = .bool ((ae_ p) || ((ae_ q) || ((((q).length : Nat) : Int) == 0)))) ∧ M = []) (fun K2 J2 => ?_) ?_
 ·skip
  refine Rk fun K J => sE rfl (sQ (q_as (v' := .bool (ae_ p)) (aH_ en_18 rfl (fun w hw => aC_ _ p w (SLe.ap hw (SLe.sub Hp sn)))) rfl) rfl ?_)
  rcases bt (ae_ p) with h3 | h3
  ·skip
   refine sB h3 rfl (WL_n rfl (WL_n rfl (sE rfl (sE rfl (WL_n rfl (WL_n rfl (WL_n rfl (sE rfl (nl J ?_)))))))))
   refine J2 _ _ (by repeat first | exact .refl | refine .cons rfl ?_) ⟨_, s0, ?s22, rfl⟩
   case s22 => exact congrArg Value.bool (or_t h3)
  ·skip
   refine sB h3 rfl (sE rfl (sQ (q_as (v' := .bool (ae_ q)) (aH_ en_18 rfl (fun w hw => aC_ _ q w (SLe.ap hw (SLe.sub Hq sn)))) rfl) rfl (sE rfl ?_)))
   rcases bt (ae_ q) with h4 | h4
   ·skip
    refine sB h4 rfl (WL_n rfl (WL_n rfl (WL_n rfl (sE rfl (nl J ?_)))))
    refine J2 _ _ (by repeat first | exact .refl | refine .cons rfl ?_) ⟨_, s0, ?s22, rfl⟩
    case s22 => exact congrArg Value.bool (or_f h3 (or_t h4))
   ·skip
    refine sB h4 rfl (sE rfl (sQ (q_as (v' := .int .i64 (((q).length : Nat) : Int)) (aS_ (e := elI) sl_24 rfl (SLe.sub Hq sn)) rfl) rfl (sE rfl (sE rfl (nl J ?_)))))
    refine J2 _ _ (by repeat first | exact .refl | refine .cons rfl ?_) ⟨_, s0, ?s22, rfl⟩
    case s22 => exact congrArg Value.bool (or_f h3 (or_f h4 rfl))
 ·skip
  rintro g5 M ⟨hg22, rfl⟩
  simp only [setG, hg22]
  clear hg22
  rcases bt ((ae_ p) || ((ae_ q) || ((((q).length : Nat) : Int) == 0))) with h6 | h6
  ·skip
   refine W_t h6 rfl (Rs fun K J => WL_r rfl (an_ (E := 38) (e := elI) (l := F_poly_bad) (fun v => v) en_76 rfl (fun w hw => bO_  w) (fun p7 c8 L9 hF10 => sE rfl (nl J (W_ret (aj_ (ret1 rfl (.inr rfl) rfl ?_)))))))
   have hE : (F_poly_bad : (List I)) = (ao_ p q) := by exact bif_t h6 rfl
   rw [← hE]
   exact ⟨_, rfl, ⟨L9, (List.sublist_append_left _ _), hF10⟩⟩
  ·skip
   have ph11 := c9_ (Bool.or_eq_false_iff.1 (Bool.or_eq_false_iff.1 h6).2).2
   refine W_f h6 rfl (am_ (J1 _ _ (Rs fun K J => sE rfl (sQ (q_as (v' := .int .i64 (((q).length : Nat) : Int)) (aS_ (e := elI) sl_24 rfl (SLe.sub Hq sn)) rfl) rfl (sV (.int .i64 ((((q).length : Nat) : Int) - 1)) rfl (congrArg (Value.int .i64) (wx (by omega) (by omega) (by omega))) (sE rfl (nl J (W_sdr sn (.quiet 0 [2,3,4,9,10,13,14] (.quiet 1 [2,3,4,9,10,13,14] (.quiet 2 [3,4,9,10,13,14] (.quiet 3 [4,9,10,13,14] (.quiet 4 [9,10,13,14] (.quiet 5 [7,8,9,10,13,14] (.quiet 6 [7,8,9,10,13,14] (.quiet 7 [8,9,10,13,14] (.quiet 8 [9,10,13,14] (.quiet 9 [10,13,14] (.quiet 10 [13,14] (.both 11 (.only 12 (.only 13 (.only 14 (.fin)))) 12 (.only 11 (.only 13 (.only 14 (.fin)))))))))))))))) [0,1,2,3,4,5,6,7,8,9,10,11,12] mix (by kernel_rfl) (by kernel_rfl) (fun K J => pE rfl (pE rfl (pQ rfl (q_as (v' := .pointer (some (slb (.slice p_q q.length c_q) (((q).length - 1) * 18 + 0)))) (c4_ (e := elI) (l := q) (k := ((q).length - 1)) sl_24 rfl rfl (by omega) (SLe.sub Hq sn) (by first | omega | (simp only [List.length_set, List.length_append, List.length_cons, List.length_nil]; omega))) rfl) ?_)))))))))))
   refine pQ rfl (q_ldG (e := elI) (l := q) (k := ((q).length - 1)) (o := 0) ty_38 rfl (SLe.sub Hq sn) (aA_ I0 (by first | omega | (simp only [List.length_set, List.length_append, List.length_cons, List.length_nil]; omega))) rfl) ?_
   refine pC (AV [pI (E (Z.abs (q.getD ((q).length - 1) I0).dec))]) en_44 (e5_ (q.getD ((q).length - 1) I0).1 (q.getD ((q).length - 1) I0).2) rfl rfl rfl (pE rfl (pE rfl (pQ rfl (q_as (v' := .pointer (some (slb (.slice p_q q.length c_q) (((q).length - 1) * 18 + 0)))) (c4_ (e := elI) (l := q) (k := ((q).length - 1)) sl_24 rfl rfl (by omega) (SLe.sub Hq sn) (by first | omega | (simp only [List.length_set, List.length_append, List.length_cons, List.length_nil]; omega))) rfl) ?_)))
   refine pQ rfl (q_ldG (e := elI) (l := q) (k := ((q).length - 1)) (o := 0) ty_38 rfl (SLe.sub Hq sn) (aA_ I0 (by first | omega | (simp only [List.length_set, List.length_append, List.length_cons, List.length_nil]; omega))) rfl) ?_
   refine pC (.int .i64 ((Z.signW (q.getD ((q).length - 1) I0).dec).1)) en_32 (bK_ (q.getD ((q).length - 1) I0).1 (q.getD ((q).length - 1) I0).2) rfl rfl rfl (pC (AV [pI (E (Z.of (Z.signW (q.getD ((q).length - 1) I0).dec).1))]) en_62 (aY_ (Z.signW (q.getD ((q).length - 1) I0).dec).1 (Z.signW (q.getD ((q).length - 1) I0).dec).2) rfl rfl rfl ?_)
   refine PL_b ?_ ?_
   ·skip
    refine PL_o rfl rfl (dK_ zp_38 (fun b12 hb12 => ⟨(fun _ => sd s0), sn, PL_o rfl rfl (dK_ zp_38 (fun b13 hb13 => ⟨(fun _ => sd s0), sn, oS [pI (E (Z.abs (q.getD ((q).length - 1) I0).dec))] ty_38 rfl rfl rfl rfl rfl rfl (.tail _ (.head _)) rfl hb12 rfl sn (oS [pI (E (Z.of (Z.signW (q.getD ((q).length - 1) I0).dec).1))] ty_38 rfl rfl rfl rfl rfl rfl (.head _) rfl hb13 rfl sn (fl J (Rs fun K J => WL_r rfl (az_ [] [] us_24 z_38 sz_38 rfl (by decide) rfl rfl trivial rfl (fun b14 hb14 => sE rfl (WL_r rfl (dN_ (e := elI) (l := []) (m := p) 68 us_24 (by kernel_rfl) (by decide) rfl rfl (OwnG.lit (e := elI) (l := []) (qs := []) hb14 rfl (Nat.le_of_ble_eq_true rfl) rfl) (SLe.sub Hp sn) fq_b (by simp only [List.length_append, List.length_cons, List.length_nil]; omega) (by decide) (fun p15 c16 L17 hO18 => ?_))))))))⟩))⟩))
    refine sE rfl (nl J (Sq fun K3 J3 => Rs fun K J => sE rfl (sQ (q_as (v' := .int .i64 (((p).length : Nat) : Int)) (aS_ (e := elI) sl_24 rfl (SLe.sub Hp sn)) rfl) rfl (sV (.int .i64 ((((p).length : Nat) : Int) - 1)) rfl (congrArg (Value.int .i64) (wx (by omega) (by omega) (by omega))) (sE rfl (sV (.int .i64 (((((p).length : Nat) : Int) - 1) - ((((q).length : Nat) : Int) - 1))) rfl (congrArg (Value.int .i64) (wx (by omega) (by omega) (by omega))) (sE rfl (nl J ?_))))))))
    refine ch_ (fun S M h => J3 S M h) [4, 9, 10, 11, 46, 47, 48, 49, 50, 51, 52, 53, 54, 55, 56, 57, 58, 59, 60, 61, 62, 63, 64, 65, 66, 67, 68, 69, 70, 71, 72, 73, 74, 75, 76, 77, 78, 79, 80, 81, 82, 83, 84, 85, 86] (fun g M => ∃ (i : Int) (r : List I) (L_r : List Blk), (aP_ p q ((p.length + 1)) (((((p).length : Nat) : Int) - 1) - ((((q).length : Nat) : Int) - 1)) ([] ++ p)) = .inl (i, r) ∧ (r.length = p.length) ∧ (g 9 = .int .i64 i ∧ OwnG w0 38 elI (.slice p15 ([] ++ p).length c16) r L_r) ∧ M = (L_r ++ (⟨b13, 38, flat [pI (E (Z.of (Z.signW (q.getD ((q).length - 1) I0).dec).1))]⟩ :: (⟨b12, 38, flat [pI (E (Z.abs (q.getD ((q).length - 1) I0).dec))]⟩ :: [])))) (fun K_u19 hK_u19 => ?_) ?_
    ·skip
     refine aq_ ?_
     refine aL_ [4, 9, 10, 11, 46, 47, 48, 49, 50, 51, 52, 53, 54, 55, 56, 57, 58, 59, 60, 61, 62, 63, 64, 65, 66, 67, 68, 69, 70, 71, 72, 73, 74, 75, 76, 77, 78, 79, 80, 81, 82, 83, 84, 85, 86] (fun g nn M => ∃ (i : Int) (r : List I) (L_r : List Blk), (aP_ p q nn i r) = (aP_ p q ((p.length + 1)) (((((p).length : Nat) : Int) - 1) - ((((q).length : Nat) : Int) - 1)) ([] ++ p)) ∧ (i + 1).toNat < nn ∧ ((i + q.length ≤ p.length ∧ -1 ≤ i ∨ i < 0) ∧ r.length = p.length) ∧ (g 9 = .int .i64 i ∧ OwnG w0 38 elI (.slice p15 ([] ++ p).length c16) r L_r) ∧ M = (L_r ++ (⟨b13, 38, flat [pI (E (Z.of (Z.signW (q.getD ((q).length - 1) I0).dec).1))]⟩ :: (⟨b12, 38, flat [pI (E (Z.abs (q.getD ((q).length - 1) I0).dec))]⟩ :: [])))) ((p.length + 1)) ?start ?round
     case start => exact ⟨_, s0, (((((p).length : Nat) : Int) - 1) - ((((q).length : Nat) : Int) - 1)), ([] ++ p), L17, rfl, (by first | omega | (simp only [List.length_append, List.length_cons, List.length_nil, List.length_set, List.length_take, and_true, true_and, or_true, true_or, Nat.zero_add] <;> omega)), (by first | omega | (simp only [List.length_append, List.length_cons, List.length_nil, List.length_set, List.length_take, and_true, true_and, or_true, true_or, Nat.zero_add] <;> omega)), ⟨rfl, hO18⟩, rfl⟩
     case round =>
      rintro nn g M ⟨i, r, L_r, hT0, hq0, hinv0, ⟨hg9, hO_r⟩, rfl⟩
      obtain ⟨k0, rfl⟩ : ∃ m, nn = m + 1 := ⟨nn - 1, by omega⟩
      simp only [setG, hg9]
      clear hg9
      have hm_r := OwnG.max hO_r
      refine Sq fun K20 J20 => Rs fun K J => sE rfl (sE rfl (nl J ?_))
      rcases bt (decide (0 ≤ i)) with h83 | h83
      ·skip
       have ph83 := of_decide_eq_true h83
       refine W_t h83 rfl (am_ (J20 _ _ (Sq fun K21 J21 => aq_ (ds s0 [0,4,8,12,16,20,24,28,33,37] [9] mix (by kernel_rfl) (fun K J => pQ rfl (qL ty_38 rfl (List.mem_append_right _ (List.mem_cons_self)) rfl) (pE rfl (pE rfl (pE rfl (pV (.int .i64 (i + ((((q).length : Nat) : Int) - 1))) rfl (congrArg (Value.int .i64) (wx (by omega) (by omega) (by omega))) (pQ rfl (q_as (v' := .pointer (some (slb (.slice p15 ([] ++ p).length c16) (((i).toNat + ((q).length - 1)) * 18 + 0)))) (c4_ (e := elI) (l := r) (k := ((i).toNat + ((q).length - 1))) sl_24 rfl rfl (by omega) (SLfe.sle (OwnG.slfe hO_r (List.sublist_append_left _ _))) (by first | omega | (simp only [List.length_set, List.length_append, List.length_cons, List.length_nil]; omega))) rfl) ?_))))))))))
       refine pQ rfl (q_ldG (e := elI) (l := r) (k := ((i).toNat + ((q).length - 1))) (o := 0) ty_38 rfl (SLfe.sle (OwnG.slfe hO_r (List.sublist_append_left _ _))) (aA_ I0 (by first | omega | (simp only [List.length_set, List.length_append, List.length_cons, List.length_nil]; omega))) rfl) ?_
       obtain ⟨r84, hr84⟩ := nm ((E (Z.mul (Z.of (Z.signW (q.getD ((q).length - 1) I0).dec).1) (r.getD ((i).toNat + ((q).length - 1)) I0).dec)) : I)
       refine pC (AV [pI r84]) en_77 (aK_ (E (Z.of (Z.signW (q.getD ((q).length - 1) I0).dec).1)).1 (r.getD ((i).toNat + ((q).length - 1)) I0).1 (E (Z.of (Z.signW (q.getD ((q).length - 1) I0).dec).1)).2 (r.getD ((i).toNat + ((q).length - 1)) I0).2) rfl rfl ((cg2 (fun p q => AV [pI (E (Z.mul p q))]) (E_dec _) rfl).trans (by rw [hr84])) (PL_o rfl rfl (dK_ zp_38 (fun b85 hb85 => ⟨(fun _ => sd s0), (sd s0), oS [pI r84] ty_38 rfl rfl rfl rfl rfl rfl (.head _) rfl hb85 rfl (sd s0) (fl J (Rs fun K J => sE rfl (sQ (q_as (v' := .int .i64 (((r).length : Nat) : Int)) (aS_ (e := elI) sl_24 rfl (SLfe.sle (OwnG.slfe hO_r (sd (List.sublist_append_left _ _))))) rfl) rfl (sE rfl (nl J ?_)))))⟩)))
       refine ch_ (fun S M h => J21 S M h) [4, 11, 60, 61, 62, 63, 64, 65, 66, 67, 68, 69, 70, 71, 72, 73, 74, 75, 76, 77, 78, 79, 80, 81, 82, 83, 84, 85, 86] (fun g M => ∃ (k : Nat) (t : List I) (L_t : List Blk), (a5_ p q i r r84 ((r.length + 1)) 0 r) = .inl (k, t) ∧ (t.length = r.length) ∧ (g 60 = .int .i64 ((k : Nat) : Int) ∧ OwnG w0 38 elI (.slice p15 ([] ++ p).length c16) t L_t) ∧ M = (⟨b85, 38, flat [pI r84]⟩ :: (L_t ++ (⟨b13, 38, flat [pI (E (Z.of (Z.signW (q.getD ((q).length - 1) I0).dec).1))]⟩ :: (⟨b12, 38, flat [pI (E (Z.abs (q.getD ((q).length - 1) I0).dec))]⟩ :: []))))) (fun K_u86 hK_u86 => ?_) ?_
       ·skip
        refine aq_ ?_
        refine aL_ [4, 11, 60, 61, 62, 63, 64, 65, 66, 67, 68, 69, 70, 71, 72, 73, 74, 75, 76, 77, 78, 79, 80, 81, 82, 83, 84, 85, 86] (fun g nn M => ∃ (k : Nat) (t : List I) (L_t : List Blk), (a5_ p q i r r84 nn k t) = (a5_ p q i r r84 ((r.length + 1)) 0 r) ∧ r.length - k < nn ∧ (k ≤ r.length ∧ t.length = r.length) ∧ (g 60 = .int .i64 ((k : Nat) : Int) ∧ OwnG w0 38 elI (.slice p15 ([] ++ p).length c16) t L_t) ∧ M = (⟨b85, 38, flat [pI r84]⟩ :: (L_t ++ (⟨b13, 38, flat [pI (E (Z.of (Z.signW (q.getD ((q).length - 1) I0).dec).1))]⟩ :: (⟨b12, 38, flat [pI (E (Z.abs (q.getD ((q).length - 1) I0).dec))]⟩ :: []))))) ((r.length + 1)) ?start ?round
        case start => exact ⟨_, s0, 0, r, L_r, rfl, (by first | omega | (simp only [List.length_append, List.length_cons, List.length_nil, List.length_set, List.length_take, and_true, true_and, or_true, true_or, Nat.zero_add] <;> omega)), (by first | omega | (simp only [List.length_append, List.length_cons, List.length_nil, List.length_set, List.length_take, and_true, true_and, or_true, true_or, Nat.zero_add] <;> omega)), ⟨rfl, hO_r⟩, rfl⟩
        case round =>
         rintro nn g M ⟨k, t, L_t, hT1, hq1, hinv1, ⟨hg60, hO_t⟩, rfl⟩
         obtain ⟨k1, rfl⟩ : ∃ m, nn = m + 1 := ⟨nn - 1, by omega⟩
         simp only [setG, hg60]
         clear hg60
         have hm_t := OwnG.max hO_t
         refine Rs fun K J => sE rfl (nl J (Sq fun K26 J26 => ?_))
         rcases bt (decide (((k : Nat) : Int) < (((r).length : Nat) : Int))) with h105 | h105
         ·skip
          have ph105 := of_decide_eq_true h105
          refine W_t h105 rfl (am_ (J26 _ _ (Sq fun K27 J27 => aq_ (Rs fun K J => sE rfl (sE rfl (nl J (ds (sk (sR s0)) [0,4,8,12,16,20,24,28,32,36,40,44,48,52,56,60,64,69] [17] mix (by kernel_rfl) (fun K J => pE rfl (pE rfl (pQ rfl (qL ty_38 rfl (List.mem_cons_of_mem _ (List.mem_append_right _ (List.mem_cons_of_mem _ (List.mem_cons_self)))) rfl) (pE rfl (pE rfl (pQ rfl (q_as (v' := .pointer (some (slb (.slice p15 ([] ++ p).length c16) (k * 18 + 0)))) (cp_ (e := elI) (l := t) (k := k) sl_24 rfl rfl (SLfe.sle (OwnG.slfe hO_t (sd (List.sublist_append_left _ _)))) (by first | omega | (simp only [List.length_set, List.length_append, List.length_cons, List.length_nil]; omega))) rfl) ?_)))))))))))))
          refine pQ rfl (q_ldG (e := elI) (l := t) (k := k) (o := 0) ty_38 rfl (SLfe.sle (OwnG.slfe hO_t (sd (List.sublist_append_left _ _)))) (aA_ I0 (by first | omega | (simp only [List.length_set, List.length_append, List.length_cons, List.length_nil]; omega))) rfl) ?_
          refine pC (AV [pI (E (Z.mul (Z.abs (q.getD ((q).length - 1) I0).dec) (t.getD k I0).dec))]) en_77 (aK_ (E (Z.abs (q.getD ((q).length - 1) I0).dec)).1 (t.getD k I0).1 (E (Z.abs (q.getD ((q).length - 1) I0).dec)).2 (t.getD k I0).2) rfl rfl (cg2 (fun p q => AV [pI (E (Z.mul p q))]) (E_dec _) rfl) (pQ rfl (qL ty_38 rfl m0 rfl) (pE rfl (pE rfl (pE rfl (pV (.int .i64 (((k : Nat) : Int) - i)) rfl (congrArg (Value.int .i64) (wx (by omega) (by omega) (by omega))) (pQ rfl (q_as (v' := AV [pI (aD_ q (((k : Nat) : Int) - i))]) (aH_ en_79 rfl (fun w hw => ex_ _ q (((k : Nat) : Int) - i) w (SLe.ap hw (SLe.sub Hq sn)))) rfl) (pC (AV [pI (E (Z.mul r84.dec (aD_ q (((k : Nat) : Int) - i)).dec))]) en_77 (aK_ r84.1 (aD_ q (((k : Nat) : Int) - i)).1 r84.2 (aD_ q (((k : Nat) : Int) - i)).2) rfl rfl rfl ?_)))))))
          obtain ⟨r106, hr106⟩ := nm ((E (Z.sub (Z.mul (Z.abs (q.getD ((q).length - 1) I0).dec) (t.getD k I0).dec) (Z.mul r84.dec (aD_ q (((k : Nat) : Int) - i)).dec))) : I)
          refine pC (AV [pI r106]) en_78 (dg_ (E (Z.mul (Z.abs (q.getD ((q).length - 1) I0).dec) (t.getD k I0).dec)).1 (E (Z.mul r84.dec (aD_ q (((k : Nat) : Int) - i)).dec)).1 (E (Z.mul (Z.abs (q.getD ((q).length - 1) I0).dec) (t.getD k I0).dec)).2 (E (Z.mul r84.dec (aD_ q (((k : Nat) : Int) - i)).dec)).2) rfl rfl ((cg2 (fun p q => AV [pI (E (Z.sub p q))]) (E_dec _) (E_dec _)).trans (by rw [hr106])) (pQ rfl (q_as (v' := .pointer (some (slb (.slice p15 ([] ++ p).length c16) (k * 18 + 0)))) (cp_ (e := elI) (l := t) (k := k) sl_24 rfl rfl (SLfe.sle (OwnG.slfe hO_t (sd (List.sublist_append_left _ _)))) (by first | omega | (simp only [List.length_set, List.length_append, List.length_cons, List.length_nil]; omega))) rfl) ?_)
          refine PL_o rfl rfl (gh_ (e := elI) (l := t) (k := k) (z := r106) ty_38 rfl rfl hO_t (by first | omega | (simp only [List.length_set, List.length_append, List.length_cons, List.length_nil]; omega)) (rp_s rp_l) rfl rfl (fun L107 hO108 => ⟨nf, (sk (sR s0)), ?_⟩))
          refine fl J (Rs fun K J => sE rfl (sE rfl (sQ (q_as (v' := .pointer (some (slb (.slice p15 ([] ++ p).length c16) (k * 18 + 0)))) (cp_ (e := elI) (l := (t.set k r106)) (k := k) sl_24 rfl rfl (SLfe.sle (OwnG.slfe hO108 (sd (List.sublist_append_left _ _)))) (by first | omega | (simp only [List.length_set, List.length_append, List.length_cons, List.length_nil]; omega))) rfl) rfl ?_)))
          refine sQ (q_as (v' := .pointer (some (slb (.slice p15 ([] ++ p).length c16) (k * 18 + 0)))) (mj_ eu_ rfl rfl) rfl) rfl (sQ (jD_ (u := .bool (((t.set k r106).getD k I0).1.bad)) (e := elI) (l := (t.set k r106)) (k := k) (o := 0) ty_4 rfl (SLfe.sle (OwnG.slfe hO108 (sd (List.sublist_append_left _ _)))) (aA_ I0 (by first | omega | (simp only [List.length_set, List.length_append, List.length_cons, List.length_nil]; omega))) rfl) rfl ?_)
          refine nl J ?_
          rcases bt (((t.set k r106).getD k I0).1.bad) with h109 | h109
          ·skip
           refine W_t h109 rfl (Rs fun K J => WL_r rfl (an_ (E := 38) (e := elI) (l := F_poly_bad) (fun v => v) en_76 rfl (fun w hw => bO_  w) (fun p110 c111 L112 hF113 => sE rfl (nl J (W_ret (aX_ (aj_ (aj_ (aX_ (aj_ (aX_ (aj_ (aj_ (aX_ (aj_ (aj_ (ret1 rfl (.inr rfl) rfl ?_)))))))))))))))))
           have hE : (F_poly_bad : (List I)) = (ao_ p q) := by subst hr106; subst hr84; exact bif_f h6 ((sm_q rfl (hT0.symm.trans (Eq.symm (bif_t h83 ((sm_q rfl (hT1.symm.trans (Eq.symm (bif_t h105 (bif_t h109 rfl)))))))))))
           rw [← hE]
           exact ⟨_, rfl, ⟨L112, (List.sublist_append_left _ _), hF113⟩⟩
          ·skip
           refine W_f h109 rfl (am_ (J27 _ _ (Rk fun K J => sV (.int .i64 (((k + 1) : Nat) : Int)) rfl (congrArg (Value.int .i64) (wx (by omega) (by omega) (by omega))) (sE rfl (nl J (⟨(by repeat first | exact .refl | refine .cons rfl ?_), _, _, s0, (Nat.lt_succ_self _), (k + 1), (t.set k r106), L107, (by subst hr106; exact (hT1.symm.trans (Eq.symm (bif_t h105 (bif_f h109 rfl)))).symm), (Nat.lt_of_lt_of_le (by first | omega | (simp only [List.length_append, List.length_cons, List.length_nil, List.length_set, List.length_take, and_true, true_and, or_true, true_or, Nat.zero_add] <;> omega)) (Nat.le_of_lt_succ hq1)), (by first | omega | (simp only [List.length_append, List.length_cons, List.length_nil, List.length_set, List.length_take, and_true, true_and, or_true, true_or, Nat.zero_add] <;> omega)), ⟨rfl, hO108⟩, rfl⟩))))))
         ·skip
          have ph105 := of_decide_eq_false h105
          refine W_f h105 rfl (bw_ (ap_ (ap_ (as_ (hK_u86 _ _ (by repeat first | exact .refl | refine .cons rfl ?_) ⟨_, s0, k, t, L_t, (by exact hT1.symm.trans (Eq.symm (bif_f h105 rfl))), (by first | omega | (simp only [List.length_append, List.length_cons, List.length_nil, List.length_set, List.length_take, and_true, true_and, or_true, true_or, Nat.zero_add] <;> omega)), ⟨rfl, hO_t⟩, rfl⟩)))))
       ·skip
        rintro g M ⟨k, t, L_t, hCu86, hPu86, ⟨hg60, hO_t⟩, rfl⟩
        simp only [setG, hg60]
        clear hg60
        have hm_t := OwnG.max hO_t
        refine Rk fun K J => sE rfl (sV (.int .i64 (i - 1)) rfl (congrArg (Value.int .i64) (wx (by omega) (by omega) (by omega))) (sE rfl (nl J (⟨(by repeat first | exact .refl | refine .cons rfl ?_), _, _, (sd (s0)), (Nat.lt_succ_self _), (i - 1), t, L_t, (by subst hr84; exact (hT0.symm.trans (Eq.symm (bif_t h83 (trs (Eq.symm (smS hCu86)) rfl)))).symm), (Nat.lt_of_lt_of_le (by first | omega | (simp only [List.length_append, List.length_cons, List.length_nil, List.length_set, List.length_take, and_true, true_and, or_true, true_or, Nat.zero_add] <;> omega)) (Nat.le_of_lt_succ hq0)), (by first | omega | (simp only [List.length_append, List.length_cons, List.length_nil, List.length_set, List.length_take, and_true, true_and, or_true, true_or, Nat.zero_add] <;> omega)), ⟨rfl, hO_t⟩, rfl⟩))))
      ·skip
       have ph83 := of_decide_eq_false h83
       refine W_f h83 rfl (bw_ (ap_ (ap_ (as_ (hK_u19 _ _ (by repeat first | exact .refl | refine .cons rfl ?_) ⟨_, s0, i, r, L_r, (by exact hT0.symm.trans (Eq.symm (bif_f h83 rfl))), (by first | omega | (simp only [List.length_append, List.length_cons, List.length_nil, List.length_set, List.length_take, and_true, true_and, or_true, true_or, Nat.zero_add] <;> omega)), ⟨rfl, hO_r⟩, rfl⟩)))))
    ·skip
     rintro g M ⟨i, r, L_r, hCu19, hPu19, ⟨hg9, hO_r⟩, rfl⟩
     simp only [setG, hg9]
     clear hg9
     have hm_r := OwnG.max hO_r
     refine Rs fun K J => sE rfl (WL_r rfl (an_ (E := 38) (e := elI) (l := (ak_ r)) (fun v => v) en_15 rfl (fun w hw => dh_ _ r w (SLe.ap hw (SLfe.sle (OwnG.slfe hO_r (List.sublist_append_left _ _)))) (by first | omega | (simp only [List.length_cons, List.length_nil, and_true, true_and] <;> omega) | simp)) (fun p114 c115 L116 hF117 => ?_)))
     have hb118 := (cw_ r)
     refine sE rfl (nl J (W_ret (ret1 rfl (.inr rfl) rfl ?_)))
     have hE : ((ak_ r) : (List I)) = (ao_ p q) := by exact bif_f h6 (trs (Eq.symm (smS hCu19)) rfl)
     rw [← hE]
     exact ⟨_, rfl, ⟨L116, (List.sublist_append_left _ _), hF117⟩⟩
   ·skip
    refine PL_o rfl rfl (dK_ zp_38 (fun b119 hb119 => ⟨(fun _ => sd s0), sn, PL_o rfl rfl (dK_ zp_38 (fun b120 hb120 => ⟨(fun _ => sd s0), sn, oS [pI (E (Z.abs (q.getD ((q).length - 1) I0).dec))] ty_38 rfl rfl rfl rfl rfl rfl (.head _) rfl hb120 rfl sn (oS [pI (E (Z.of (Z.signW (q.getD ((q).length - 1) I0).dec).1))] ty_38 rfl rfl rfl rfl rfl rfl (.tail _ (.head _)) rfl hb119 rfl sn (fl J (Rs fun K J => WL_r rfl (az_ [] [] us_24 z_38 sz_38 rfl (by decide) rfl rfl trivial rfl (fun b121 hb121 => sE rfl (WL_r rfl (dN_ (e := elI) (l := []) (m := p) 68 us_24 (by kernel_rfl) (by decide) rfl rfl (OwnG.lit (e := elI) (l := []) (qs := []) hb121 rfl (Nat.le_of_ble_eq_true rfl) rfl) (SLe.sub Hp sn) fq_b (by simp only [List.length_append, List.length_cons, List.length_nil]; omega) (by decide) (fun p122 c123 L124 hO125 => ?_))))))))⟩))⟩))
    refine sE rfl (nl J (Sq fun K28 J28 => Rs fun K J => sE rfl (sQ (q_as (v' := .int .i64 (((p).length : Nat) : Int)) (aS_ (e := elI) sl_24 rfl (SLe.sub Hp sn)) rfl) rfl (sV (.int .i64 ((((p).length : Nat) : Int) - 1)) rfl (congrArg (Value.int .i64) (wx (by omega) (by omega) (by omega))) (sE rfl (sV (.int .i64 (((((p).length : Nat) : Int) - 1) - ((((q).length : Nat) : Int) - 1))) rfl (congrArg (Value.int .i64) (wx (by omega) (by omega) (by omega))) (sE rfl (nl J ?_))))))))
    refine ch_ (fun S M h => J28 S M h) [4, 9, 10, 11, 46, 47, 48, 49, 50, 51, 52, 53, 54, 55, 56, 57, 58, 59, 60, 61, 62, 63, 64, 65, 66, 67, 68, 69, 70, 71, 72, 73, 74, 75, 76, 77, 78, 79, 80, 81, 82, 83, 84, 85, 86] (fun g M => ∃ (i : Int) (r : List I) (L_r : List Blk), (aP_ p q ((p.length + 1)) (((((p).length : Nat) : Int) - 1) - ((((q).length : Nat) : Int) - 1)) ([] ++ p)) = .inl (i, r) ∧ (r.length = p.length) ∧ (g 9 = .int .i64 i ∧ OwnG w0 38 elI (.slice p122 ([] ++ p).length c123) r L_r) ∧ M = (L_r ++ (⟨b120, 38, flat [pI (E (Z.abs (q.getD ((q).length - 1) I0).dec))]⟩ :: (⟨b119, 38, flat [pI (E (Z.of (Z.signW (q.getD ((q).length - 1) I0).dec).1))]⟩ :: [])))) (fun K_u126 hK_u126 => ?_) ?_
    ·skip
     refine aq_ ?_
     refine aL_ [4, 9, 10, 11, 46, 47, 48, 49, 50, 51, 52, 53, 54, 55, 56, 57, 58, 59, 60, 61, 62, 63, 64, 65, 66, 67, 68, 69, 70, 71, 72, 73, 74, 75, 76, 77, 78, 79, 80, 81, 82, 83, 84, 85, 86] (fun g nn M => ∃ (i : Int) (r : List I) (L_r : List Blk), (aP_ p q nn i r) = (aP_ p q ((p.length + 1)) (((((p).length : Nat) : Int) - 1) - ((((q).length : Nat) : Int) - 1)) ([] ++ p)) ∧ (i + 1).toNat < nn ∧ ((i + q.length ≤ p.length ∧ -1 ≤ i ∨ i < 0) ∧ r.length = p.length) ∧ (g 9 = .int .i64 i ∧ OwnG w0 38 elI (.slice p122 ([] ++ p).length c123) r L_r) ∧ M = (L_r ++ (⟨b120, 38, flat [pI (E (Z.abs (q.getD ((q).length - 1) I0).dec))]⟩ :: (⟨b119, 38, flat [pI (E (Z.of (Z.signW (q.getD ((q).length - 1) I0).dec).1))]⟩ :: [])))) ((p.length + 1)) ?start ?round
     case start => exact ⟨_, s0, (((((p).length : Nat) : Int) - 1) - ((((q).length : Nat) : Int) - 1)), ([] ++ p), L124, rfl, (by first | omega | (simp only [List.length_append, List.length_cons, List.length_nil, List.length_set, List.length_take, and_true, true_and, or_true, true_or, Nat.zero_add] <;> omega)), (by first | omega | (simp only [List.length_append, List.length_cons, List.length_nil, List.length_set, List.length_take, and_true, true_and, or_true, true_or, Nat.zero_add] <;> omega)), ⟨rfl, hO125⟩, rfl⟩
     case round =>
      rintro nn g M ⟨i, r, L_r, hT0, hq0, hinv0, ⟨hg9, hO_r⟩, rfl⟩
      obtain ⟨k0, rfl⟩ : ∃ m, nn = m + 1 := ⟨nn - 1, by omega⟩
      simp only [setG, hg9]
      clear hg9
      have hm_r := OwnG.max hO_r
      refine Sq fun K45 J45 => Rs fun K J => sE rfl (sE rfl (nl J ?_))
      rcases bt (decide (0 ≤ i)) with h190 | h190
      ·skip
       have ph190 := of_decide_eq_true h190
       refine W_t h190 rfl (am_ (J45 _ _ (Sq fun K46 J46 => aq_ (ds s0 [0,4,8,12,16,20,24,28,33,37] [9] mix (by kernel_rfl) (fun K J => pQ rfl (qL ty_38 rfl (List.mem_append_right _ (List.mem_cons_of_mem _ (List.mem_cons_self))) rfl) (pE rfl (pE rfl (pE rfl (pV (.int .i64 (i + ((((q).length : Nat) : Int) - 1))) rfl (congrArg (Value.int .i64) (wx (by omega) (by omega) (by omega))) (pQ rfl (q_as (v' := .pointer (some (slb (.slice p122 ([] ++ p).length c123) (((i).toNat + ((q).length - 1)) * 18 + 0)))) (c4_ (e := elI) (l := r) (k := ((i).toNat + ((q).length - 1))) sl_24 rfl rfl (by omega) (SLfe.sle (OwnG.slfe hO_r (List.sublist_append_left _ _))) (by first | omega | (simp only [List.length_set, List.length_append, List.length_cons, List.length_nil]; omega))) rfl) ?_))))))))))
       refine pQ rfl (q_ldG (e := elI) (l := r) (k := ((i).toNat + ((q).length - 1))) (o := 0) ty_38 rfl (SLfe.sle (OwnG.slfe hO_r (List.sublist_append_left _ _))) (aA_ I0 (by first | omega | (simp only [List.length_set, List.length_append, List.length_cons, List.length_nil]; omega))) rfl) ?_
       obtain ⟨r191, hr191⟩ := nm ((E (Z.mul (Z.of (Z.signW (q.getD ((q).length - 1) I0).dec).1) (r.getD ((i).toNat + ((q).length - 1)) I0).dec)) : I)
       refine pC (AV [pI r191]) en_77 (aK_ (E (Z.of (Z.signW (q.getD ((q).length - 1) I0).dec).1)).1 (r.getD ((i).toNat + ((q).length - 1)) I0).1 (E (Z.of (Z.signW (q.getD ((q).length - 1) I0).dec).1)).2 (r.getD ((i).toNat + ((q).length - 1)) I0).2) rfl rfl ((cg2 (fun p q => AV [pI (E (Z.mul p q))]) (E_dec _) rfl).trans (by rw [hr191])) (PL_o rfl rfl (dK_ zp_38 (fun b192 hb192 => ⟨(fun _ => sd s0), (sd s0), oS [pI r191] ty_38 rfl rfl rfl rfl rfl rfl (.head _) rfl hb192 rfl (sd s0) (fl J (Rs fun K J => sE rfl (sQ (q_as (v' := .int .i64 (((r).length : Nat) : Int)) (aS_ (e := elI) sl_24 rfl (SLfe.sle (OwnG.slfe hO_r (sd (List.sublist_append_left _ _))))) rfl) rfl (sE rfl (nl J ?_)))))⟩)))
       refine ch_ (fun S M h => J46 S M h) [4, 11, 60, 61, 62, 63, 64, 65, 66, 67, 68, 69, 70, 71, 72, 73, 74, 75, 76, 77, 78, 79, 80, 81, 82, 83, 84, 85, 86] (fun g M => ∃ (k : Nat) (t : List I) (L_t : List Blk), (a5_ p q i r r191 ((r.length + 1)) 0 r) = .inl (k, t) ∧ (t.length = r.length) ∧ (g 60 = .int .i64 ((k : Nat) : Int) ∧ OwnG w0 38 elI (.slice p122 ([] ++ p).length c123) t L_t) ∧ M = (⟨b192, 38, flat [pI r191]⟩ :: (L_t ++ (⟨b120, 38, flat [pI (E (Z.abs (q.getD ((q).length - 1) I0).dec))]⟩ :: (⟨b119, 38, flat [pI (E (Z.of (Z.signW (q.getD ((q).length - 1) I0).dec).1))]⟩ :: []))))) (fun K_u193 hK_u193 => ?_) ?_
       ·skip
        refine aq_ ?_
        refine aL_ [4, 11, 60, 61, 62, 63, 64, 65, 66, 67, 68, 69, 70, 71, 72, 73, 74, 75, 76, 77, 78, 79, 80, 81, 82, 83, 84, 85, 86] (fun g nn M => ∃ (k : Nat) (t : List I) (L_t : List Blk), (a5_ p q i r r191 nn k t) = (a5_ p q i r r191 ((r.length + 1)) 0 r) ∧ r.length - k < nn ∧ (k ≤ r.length ∧ t.length = r.length) ∧ (g 60 = .int .i64 ((k : Nat) : Int) ∧ OwnG w0 38 elI (.slice p122 ([] ++ p).length c123) t L_t) ∧ M = (⟨b192, 38, flat [pI r191]⟩ :: (L_t ++ (⟨b120, 38, flat [pI (E (Z.abs (q.getD ((q).length - 1) I0).dec))]⟩ :: (⟨b119, 38, flat [pI (E (Z.of (Z.signW (q.getD ((q).length - 1) I0).dec).1))]⟩ :: []))))) ((r.length + 1)) ?start ?round
        case start => exact ⟨_, s0, 0, r, L_r, rfl, (by first | omega | (simp only [List.length_append, List.length_cons, List.length_nil, List.length_set, List.length_take, and_true, true_and, or_true, true_or, Nat.zero_add] <;> omega)), (by first | omega | (simp only [List.length_append, List.length_cons, List.length_nil, List.length_set, List.length_take, and_true, true_and, or_true, true_or, Nat.zero_add] <;> omega)), ⟨rfl, hO_r⟩, rfl⟩
        case round =>
         rintro nn g M ⟨k, t, L_t, hT1, hq1, hinv1, ⟨hg60, hO_t⟩, rfl⟩
         obtain ⟨k1, rfl⟩ : ∃ m, nn = m + 1 := ⟨nn - 1, by omega⟩
         simp only [setG, hg60]
         clear hg60
         have hm_t := OwnG.max hO_t
         refine Rs fun K J => sE rfl (nl J (Sq fun K51 J51 => ?_))
         rcases bt (decide (((k : Nat) : Int) < (((r).length : Nat) : Int))) with h212 | h212
         ·skip
          have ph212 := of_decide_eq_true h212
          refine W_t h212 rfl (am_ (J51 _ _ (Sq fun K52 J52 => aq_ (Rs fun K J => sE rfl (sE rfl (nl J (ds (sk (sR s0)) [0,4,8,12,16,20,24,28,32,36,40,44,48,52,56,60,64,69] [17] mix (by kernel_rfl) (fun K J => pE rfl (pE rfl (pQ rfl (qL ty_38 rfl (List.mem_cons_of_mem _ (List.mem_append_right _ (List.mem_cons_self))) rfl) (pE rfl (pE rfl (pQ rfl (q_as (v' := .pointer (some (slb (.slice p122 ([] ++ p).length c123) (k * 18 + 0)))) (cp_ (e := elI) (l := t) (k := k) sl_24 rfl rfl (SLfe.sle (OwnG.slfe hO_t (sd (List.sublist_append_left _ _)))) (by first | omega | (simp only [List.length_set, List.length_append, List.length_cons, List.length_nil]; omega))) rfl) ?_)))))))))))))
          refine pQ rfl (q_ldG (e := elI) (l := t) (k := k) (o := 0) ty_38 rfl (SLfe.sle (OwnG.slfe hO_t (sd (List.sublist_append_left _ _)))) (aA_ I0 (by first | omega | (simp only [List.length_set, List.length_append, List.length_cons, List.length_nil]; omega))) rfl) ?_
          refine pC (AV [pI (E (Z.mul (Z.abs (q.getD ((q).length - 1) I0).dec) (t.getD k I0).dec))]) en_77 (aK_ (E (Z.abs (q.getD ((q).length - 1) I0).dec)).1 (t.getD k I0).1 (E (Z.abs (q.getD ((q).length - 1) I0).dec)).2 (t.getD k I0).2) rfl rfl (cg2 (fun p q => AV [pI (E (Z.mul p q))]) (E_dec _) rfl) (pQ rfl (qL ty_38 rfl m0 rfl) (pE rfl (pE rfl (pE rfl (pV (.int .i64 (((k : Nat) : Int) - i)) rfl (congrArg (Value.int .i64) (wx (by omega) (by omega) (by omega))) (pQ rfl (q_as (v' := AV [pI (aD_ q (((k : Nat) : Int) - i))]) (aH_ en_79 rfl (fun w hw => ex_ _ q (((k : Nat) : Int) - i) w (SLe.ap hw (SLe.sub Hq sn)))) rfl) (pC (AV [pI (E (Z.mul r191.dec (aD_ q (((k : Nat) : Int) - i)).dec))]) en_77 (aK_ r191.1 (aD_ q (((k : Nat) : Int) - i)).1 r191.2 (aD_ q (((k : Nat) : Int) - i)).2) rfl rfl rfl ?_)))))))
          obtain ⟨r213, hr213⟩ := nm ((E (Z.sub (Z.mul (Z.abs (q.getD ((q).length - 1) I0).dec) (t.getD k I0).dec) (Z.mul r191.dec (aD_ q (((k : Nat) : Int) - i)).dec))) : I)
          refine pC (AV [pI r213]) en_78 (dg_ (E (Z.mul (Z.abs (q.getD ((q).length - 1) I0).dec) (t.getD k I0).dec)).1 (E (Z.mul r191.dec (aD_ q (((k : Nat) : Int) - i)).dec)).1 (E (Z.mul (Z.abs (q.getD ((q).length - 1) I0).dec) (t.getD k I0).dec)).2 (E (Z.mul r191.dec (aD_ q (((k : Nat) : Int) - i)).dec)).2) rfl rfl ((cg2 (fun p q => AV [pI (E (Z.sub p q))]) (E_dec _) (E_dec _)).trans (by rw [hr213])) (pQ rfl (q_as (v' := .pointer (some (slb (.slice p122 ([] ++ p).length c123) (k * 18 + 0)))) (cp_ (e := elI) (l := t) (k := k) sl_24 rfl rfl (SLfe.sle (OwnG.slfe hO_t (sd (List.sublist_append_left _ _)))) (by first | omega | (simp only [List.length_set, List.length_append, List.length_cons, List.length_nil]; omega))) rfl) ?_)
          refine PL_o rfl rfl (gh_ (e := elI) (l := t) (k := k) (z := r213) ty_38 rfl rfl hO_t (by first | omega | (simp only [List.length_set, List.length_append, List.length_cons, List.length_nil]; omega)) (rp_s rp_l) rfl rfl (fun L214 hO215 => ⟨nf, (sk (sR s0)), ?_⟩))
          refine fl J (Rs fun K J => sE rfl (sE rfl (sQ (q_as (v' := .pointer (some (slb (.slice p122 ([] ++ p).length c123) (k * 18 + 0)))) (cp_ (e := elI) (l := (t.set k r213)) (k := k) sl_24 rfl rfl (SLfe.sle (OwnG.slfe hO215 (sd (List.sublist_append_left _ _)))) (by first | omega | (simp only [List.length_set, List.length_append, List.length_cons, List.length_nil]; omega))) rfl) rfl ?_)))
          refine sQ (q_as (v' := .pointer (some (slb (.slice p122 ([] ++ p).length c123) (k * 18 + 0)))) (mj_ eu_ rfl rfl) rfl) rfl (sQ (jD_ (u := .bool (((t.set k r213).getD k I0).1.bad)) (e := elI) (l := (t.set k r213)) (k := k) (o := 0) ty_4 rfl (SLfe.sle (OwnG.slfe hO215 (sd (List.sublist_append_left _ _)))) (aA_ I0 (by first | omega | (simp only [List.length_set, List.length_append, List.length_cons, List.length_nil]; omega))) rfl) rfl ?_)
          refine nl J ?_
          rcases bt (((t.set k r213).getD k I0).1.bad) with h216 | h216
          ·skip
           refine W_t h216 rfl (Rs fun K J => WL_r rfl (an_ (E := 38) (e := elI) (l := F_poly_bad) (fun v => v) en_76 rfl (fun w hw => bO_  w) (fun p217 c218 L219 hF220 => sE rfl (nl J (W_ret (aX_ (aj_ (aj_ (aX_ (aj_ (aX_ (aj_ (aj_ (aX_ (aj_ (aj_ (ret1 rfl (.inr rfl) rfl ?_)))))))))))))))))
           have hE : (F_poly_bad : (List I)) = (ao_ p q) := by subst hr213; subst hr191; exact bif_f h6 ((sm_q rfl (hT0.symm.trans (Eq.symm (bif_t h190 ((sm_q rfl (hT1.symm.trans (Eq.symm (bif_t h212 (bif_t h216 rfl)))))))))))
           rw [← hE]
           exact ⟨_, rfl, ⟨L219, (List.sublist_append_left _ _), hF220⟩⟩
          ·skip
           refine W_f h216 rfl (am_ (J52 _ _ (Rk fun K J => sV (.int .i64 (((k + 1) : Nat) : Int)) rfl (congrArg (Value.int .i64) (wx (by omega) (by omega) (by omega))) (sE rfl (nl J (⟨(by repeat first | exact .refl | refine .cons rfl ?_), _, _, s0, (Nat.lt_succ_self _), (k + 1), (t.set k r213), L214, (by subst hr213; exact (hT1.symm.trans (Eq.symm (bif_t h212 (bif_f h216 rfl)))).symm), (Nat.lt_of_lt_of_le (by first | omega | (simp only [List.length_append, List.length_cons, List.length_nil, List.length_set, List.length_take, and_true, true_and, or_true, true_or, Nat.zero_add] <;> omega)) (Nat.le_of_lt_succ hq1)), (by first | omega | (simp only [List.length_append, List.length_cons, List.length_nil, List.length_set, List.length_take, and_true, true_and, or_true, true_or, Nat.zero_add] <;> omega)), ⟨rfl, hO215⟩, rfl⟩))))))
         ·skip
          have ph212 := of_decide_eq_false h212
          refine W_f h212 rfl (bw_ (ap_ (ap_ (as_ (hK_u193 _ _ (by repeat first | exact .refl | refine .cons rfl ?_) ⟨_, s0, k, t, L_t, (by exact hT1.symm.trans (Eq.symm (bif_f h212 rfl))), (by first | omega | (simp only [List.length_append, List.length_cons, List.length_nil, List.length_set, List.length_take, and_true, true_and, or_true, true_or, Nat.zero_add] <;> omega)), ⟨rfl, hO_t⟩, rfl⟩)))))
       ·skip
        rintro g M ⟨k, t, L_t, hCu193, hPu193, ⟨hg60, hO_t⟩, rfl⟩
        simp only [setG, hg60]
        clear hg60
        have hm_t := OwnG.max hO_t
        refine Rk fun K J => sE rfl (sV (.int .i64 (i - 1)) rfl (congrArg (Value.int .i64) (wx (by omega) (by omega) (by omega))) (sE rfl (nl J (⟨(by repeat first | exact .refl | refine .cons rfl ?_), _, _, (sd (s0)), (Nat.lt_succ_self _), (i - 1), t, L_t, (by subst hr191; exact (hT0.symm.trans (Eq.symm (bif_t h190 (trs (Eq.symm (smS hCu193)) rfl)))).symm), (Nat.lt_of_lt_of_le (by first | omega | (simp only [List.length_append, List.length_cons, List.length_nil, List.length_set, List.length_take, and_true, true_and, or_true, true_or, Nat.zero_add] <;> omega)) (Nat.le_of_lt_succ hq0)), (by first | omega | (simp only [List.length_append, List.length_cons, List.length_nil, List.length_set, List.length_take, and_true, true_and, or_true, true_or, Nat.zero_add] <;> omega)), ⟨rfl, hO_t⟩, rfl⟩))))
      ·skip
       have ph190 := of_decide_eq_false h190
       refine W_f h190 rfl (bw_ (ap_ (ap_ (as_ (hK_u126 _ _ (by repeat first | exact .refl | refine .cons rfl ?_) ⟨_, s0, i, r, L_r, (by exact hT0.symm.trans (Eq.symm (bif_f h190 rfl))), (by first | omega | (simp only [List.length_append, List.length_cons, List.length_nil, List.length_set, List.length_take, and_true, true_and, or_true, true_or, Nat.zero_add] <;> omega)), ⟨rfl, hO_r⟩, rfl⟩)))))
    ·skip
     rintro g M ⟨i, r, L_r, hCu126, hPu126, ⟨hg9, hO_r⟩, rfl⟩
     simp only [setG, hg9]
     clear hg9
     have hm_r := OwnG.max hO_r
     refine Rs fun K J => sE rfl (WL_r rfl (an_ (E := 38) (e := elI) (l := (ak_ r)) (fun v => v) en_15 rfl (fun w hw => dh_ _ r w (SLe.ap hw (SLfe.sle (OwnG.slfe hO_r (List.sublist_append_left _ _)))) (by first | omega | (simp only [List.length_cons, List.length_nil, and_true, true_and] <;> omega) | simp)) (fun p221 c222 L223 hF224 => ?_)))
     have hb225 := (cw_ r)
     refine sE rfl (nl J (W_ret (ret1 rfl (.inr rfl) rfl ?_)))
     have hE : ((ak_ r) : (List I)) = (ao_ p q) := by exact bif_f h6 (trs (Eq.symm (smS hCu126)) rfl)
     rw [← hE]
     exact ⟨_, rfl, ⟨L223, (List.sublist_append_left _ _), hF224⟩⟩

theorem g8_ (n : Int) (i : Int) (w : World)  (hpre : n ≤ 200 ∧ i ≤ 200 ∧ -1 ≤ i ∧ -1 ≤ n) :
    Calls Tryz.prog 117 [.int .i64 n, .int .i64 i].toArray w (fun e w' => ∃ v, e = .returned (v) ∧ Ext w w' ∧ Slo w.heap.size w' 38 elI v (aN_ n i)) := by
 refine bs_ (n := 44) (fun v => v) Tryz.func117 rfl rfl (by simp) ?_
 obtain ⟨w0, rfl⟩ : ∃ w0, w0 = w := ⟨_, rfl⟩
 simp only [initF, Nat.reduceAdd]
 refine Rs fun K J => sE rfl (nl J (Rs fun K J => sC (AV [pI (E (Z.of 1))]) en_62 (aY_ (wl 1).1 (wl 1).2) rfl rfl rfl ?_))
 refine sN zp_38 rfl fun b1 hb1 => sS [pI (E (Z.of 1))] ty_38 rfl rfl rfl rfl rfl (.head _) rfl hb1 (nl J (Sq fun K1 J1 => Rs fun K J => sE rfl (nl J ?_)))
 refine ch_ (fun S M h => J1 S M h) [6, 10, 11, 12, 13, 14, 15, 16, 17, 18] (fun g M => ∃ (j : Int) (mb1 : I), (ci_ n i ((n.toNat + 1)) 2 (E (Z.of 1))) = (j, mb1) ∧ (g 6 = .int .i64 j) ∧ M = [⟨b1, 38, flat [pI mb1]⟩]) (fun K_u2 hK_u2 => ?_) ?_
 ·skip
  refine aq_ ?_
  refine aL_ [6, 10, 11, 12, 13, 14, 15, 16, 17, 18] (fun g nn M => ∃ (j : Int) (mb1 : I), (ci_ n i nn j mb1) = (ci_ n i ((n.toNat + 1)) 2 (E (Z.of 1))) ∧ (n + 1 - j).toNat < nn ∧ (2 ≤ j ∧ (j ≤ n + 1 ∨ j = 2)) ∧ (g 6 = .int .i64 j) ∧ M = [⟨b1, 38, flat [pI mb1]⟩]) ((n.toNat + 1)) ?start ?round
  case start => exact ⟨_, s0, 2, (E (Z.of 1)), rfl, (by first | omega | (simp only [List.length_append, List.length_cons, List.length_nil, List.length_set, List.length_take, and_true, true_and, or_true, true_or, Nat.zero_add] <;> omega)), (by first | omega | (simp only [List.length_append, List.length_cons, List.length_nil, List.length_set, List.length_take, and_true, true_and, or_true, true_or, Nat.zero_add] <;> omega)), rfl, rfl⟩
  case round =>
   rintro nn g M ⟨j, mb1, hT0, hq0, hinv0, hg6, rfl⟩
   obtain ⟨k0, rfl⟩ : ∃ m, nn = m + 1 := ⟨nn - 1, by omega⟩
   simp only [setG, hg6]
   clear hg6
   refine Sq fun K6 J6 => Rs fun K J => sE rfl (sE rfl (sE rfl (nl J ?_)))
   rcases bt (decide (j ≤ n)) with h5 | h5
   ·skip
    have ph5 := of_decide_eq_true h5
    refine W_t h5 rfl (am_ (J6 _ _ (Sq fun K7 J7 => aq_ (dr sn [0,4,8,12,17] [4] mix (by kernel_rfl) (fun K J => pQ rfl (qL ty_38 rfl m0 rfl) (pE rfl (pC (AV [pI (E (Z.of j))]) en_62 (aY_ j (by unfold I64; omega)) rfl rfl rfl (pC (AV [pI (E (Z.mul mb1.dec (Z.of j)))]) en_77 (aK_ mb1.1 (E (Z.of j)).1 mb1.2 (E (Z.of j)).2) rfl rfl (cg2 (fun p q => AV [pI (E (Z.mul p q))]) rfl (E_dec _)) (oS [pI (E (Z.mul mb1.dec (Z.of j)))] ty_38 rfl rfl rfl rfl rfl rfl (.head _) rfl hb1 rfl sn (fl J (J7 _ _ (Rk fun K J => sE rfl (sV (.int .i64 (j + 1)) rfl (congrArg (Value.int .i64) (wx (by omega) (by omega) (by omega))) (sE rfl (nl J (⟨(by repeat first | exact .refl | refine .cons rfl ?_), _, _, s0, (Nat.lt_succ_self _), (j + 1), (E (Z.mul mb1.dec (Z.of j))), (by exact (hT0.symm.trans (Eq.symm (bif_t h5 rfl))).symm), (Nat.lt_of_lt_of_le (by first | omega | (simp only [List.length_append, List.length_cons, List.length_nil, List.length_set, List.length_take, and_true, true_and, or_true, true_or, Nat.zero_add] <;> omega)) (Nat.le_of_lt_succ hq0)), (by first | omega | (simp only [List.length_append, List.length_cons, List.length_nil, List.length_set, List.length_take, and_true, true_and, or_true, true_or, Nat.zero_add] <;> omega)), rfl, rfl⟩))))))))))))))))
   ·skip
    have ph5 := of_decide_eq_false h5
    refine W_f h5 rfl (bw_ (ap_ (ap_ (as_ (hK_u2 _ _ (by repeat first | exact .refl | refine .cons rfl ?_) ⟨_, s0, j, mb1, (by exact hT0.symm.trans (Eq.symm (bif_f h5 rfl))), rfl, rfl⟩)))))
 ·skip
  rintro g M ⟨j, mb1, hCu2, hg6, rfl⟩
  simp only [setG, hg6]
  clear hg6
  refine Rs fun K J => sE rfl (nl J (Sq fun K8 J8 => Rs fun K J => sE rfl (sV (.int .i64 (i + 1)) rfl (congrArg (Value.int .i64) (wx (by omega) (by omega) (by omega))) (sE rfl (nl J ?_)))))
  refine ch_ (fun S M h => J8 S M h) [7, 8, 21, 22, 23, 24, 25, 26, 27, 28, 29, 30, 31, 32, 33, 34, 35, 36, 37, 38, 39, 40, 41, 42] (fun g M => ∃ (out : List I) (k : Nat) (mb1_1 : I) (p_out : Option Addr) (c_out : Nat) (L_out : List Blk), (bE_ n i j mb1 (((i + 1).toNat + 1)) ([] : List I) 0 mb1) = (out, k, mb1_1) ∧ (g 7 = .slice p_out out.length c_out ∧ g 21 = .int .i64 ((k : Nat) : Int) ∧ OwnG w0 38 elI (.slice p_out out.length c_out) out L_out) ∧ M = (L_out ++ (⟨b1, 38, flat [pI mb1_1]⟩ :: []))) (fun K_u6 hK_u6 => ?_) ?_
  ·skip
   refine aq_ ?_
   refine aL_ [7, 8, 21, 22, 23, 24, 25, 26, 27, 28, 29, 30, 31, 32, 33, 34, 35, 36, 37, 38, 39, 40, 41, 42] (fun g nn M => ∃ (out : List I) (k : Nat) (mb1_1 : I) (p_out : Option Addr) (c_out : Nat) (L_out : List Blk), (bE_ n i j mb1 nn out k mb1_1) = (bE_ n i j mb1 (((i + 1).toNat + 1)) ([] : List I) 0 mb1) ∧ (i + 1).toNat - k < nn ∧ ((k : Int) ≤ i + 1 ∧ out.length = k) ∧ (g 7 = .slice p_out out.length c_out ∧ g 21 = .int .i64 ((k : Nat) : Int) ∧ OwnG w0 38 elI (.slice p_out out.length c_out) out L_out) ∧ M = (L_out ++ (⟨b1, 38, flat [pI mb1_1]⟩ :: []))) (((i + 1).toNat + 1)) ?start ?round
   case start => exact ⟨_, s0, ([] : List I), 0, mb1, none, 0, [], rfl, (by first | omega | (simp only [List.length_append, List.length_cons, List.length_nil, List.length_set, List.length_take, and_true, true_and, or_true, true_or, Nat.zero_add] <;> omega)), (by first | omega | (simp only [List.length_append, List.length_cons, List.length_nil, List.length_set, List.length_take, and_true, true_and, or_true, true_or, Nat.zero_add] <;> omega)), ⟨rfl, rfl, OwnG.nil⟩, rfl⟩
   case round =>
    rintro nn g M ⟨out, k, mb1_1, p_out, c_out, L_out, hT1, hq1, hinv1, ⟨hg7, hg21, hO_out⟩, rfl⟩
    obtain ⟨k1, rfl⟩ : ∃ m, nn = m + 1 := ⟨nn - 1, by omega⟩
    simp only [setG, hg7, hg21]
    clear hg7 hg21
    have hm_out := OwnG.max hO_out
    refine Rs fun K J => sE rfl (nl J (Sq fun K13 J13 => ?_))
    rcases bt (decide (((k : Nat) : Int) < (i + 1))) with h23 | h23
    ·skip
     have ph23 := of_decide_eq_true h23
     refine W_t h23 rfl (am_ (J13 _ _ (Sq fun K14 J14 => aq_ (Rs fun K J => sE rfl (sE rfl (nl J (Rs fun K J => sE rfl (sQ (qL ty_38 rfl (List.mem_append_right _ (List.mem_cons_self)) rfl) rfl (WL_r rfl (az_ [[pI mb1_1]] [pI mb1_1] us_22 z_38 sz_38 rfl (by decide) rfl rfl ⟨rfl, rfl, rfl, trivial⟩ rfl (fun b24 hb24 => WL_r rfl (dN_ (e := elI) (l := out) (m := [mb1_1]) 68 us_22 (by kernel_rfl) (by decide) rfl rfl hO_out (SLe.lit (e := elI) (l := [mb1_1]) m0 rfl (Nat.le_of_ble_eq_true rfl) rfl) (fq_s fq_l) (by simp only [List.length_append, List.length_cons, List.length_nil]; omega) (by decide) (fun p25 c26 L27 hO28 => ?_)))))))))))))
     refine sE rfl (nl J (Rs fun K J => sE rfl (sE rfl (sE rfl (nl J ?_)))))
     rcases bt (decide (((k : Nat) : Int) < n)) with h29 | h29
     ·skip
      have ph29 := of_decide_eq_true h29
      refine W_t h29 rfl (dr (sA (sk sn)) [0,4,8,12,16,20,24,28,32,36,40,45] [11] mix (by kernel_rfl) (fun K J => pQ rfl (qL ty_38 rfl (List.mem_append_right _ (List.mem_cons_of_mem _ (List.mem_cons_self))) rfl) (pE rfl (pE rfl (pV (.int .i64 (i - ((k : Nat) : Int))) rfl (congrArg (Value.int .i64) (wx (by omega) (by omega) (by omega))) (pC (AV [pI (E (Z.of (i - ((k : Nat) : Int))))]) en_62 (aY_ (i - ((k : Nat) : Int)) (by unfold I64; omega)) rfl rfl rfl (pC (AV [pI (E (Z.mul mb1_1.dec (Z.of (i - ((k : Nat) : Int)))))]) en_77 (aK_ mb1_1.1 (E (Z.of (i - ((k : Nat) : Int)))).1 mb1_1.2 (E (Z.of (i - ((k : Nat) : Int)))).2) rfl rfl (cg2 (fun p q => AV [pI (E (Z.mul p q))]) rfl (E_dec _)) (pE rfl (pE rfl (pV (.int .i64 (n - ((k : Nat) : Int))) rfl (congrArg (Value.int .i64) (wx (by omega) (by omega) (by omega))) (pC (AV [pI (E (Z.of (n - ((k : Nat) : Int))))]) en_62 (aY_ (n - ((k : Nat) : Int)) (by unfold I64; omega)) rfl rfl rfl ?_)))))))))))
      obtain ⟨r30, hr30⟩ := nm ((E (Z.quo (Z.mul mb1_1.dec (Z.of (i - ((k : Nat) : Int)))) (Z.of (n - ((k : Nat) : Int))))) : I)
      refine pC (AV [pI r30]) en_88 (ca_ (E (Z.mul mb1_1.dec (Z.of (i - ((k : Nat) : Int))))).1 (E (Z.of (n - ((k : Nat) : Int)))).1 (E (Z.mul mb1_1.dec (Z.of (i - ((k : Nat) : Int))))).2 (E (Z.of (n - ((k : Nat) : Int)))).2) rfl rfl ((cg2 (fun p q => AV [pI (E (Z.quo p q))]) (E_dec _) (E_dec _)).trans (by rw [hr30])) (oS [pI r30] ty_38 rfl rfl rfl rfl rfl rfl (Upd.left (.tail _ (.head _)) _) rfl hb1 rfl (sA (sk sn)) (fl J (J14 _ _ (Rk fun K J => sV (.int .i64 (((k + 1) : Nat) : Int)) rfl (congrArg (Value.int .i64) (wx (by omega) (by omega) (by omega))) (sE rfl (nl J (⟨(by repeat first | exact .refl | refine .cons rfl ?_), _, _, (sA (sd (s0))), (Nat.lt_succ_self _), (out ++ [mb1_1]), (k + 1), r30, p25, c26, L27, (by subst hr30; exact (hT1.symm.trans (Eq.symm (bif_t h23 (bif_t h29 rfl)))).symm), (Nat.lt_of_lt_of_le (by first | omega | (simp only [List.length_append, List.length_cons, List.length_nil, List.length_set, List.length_take, and_true, true_and, or_true, true_or, Nat.zero_add] <;> omega)) (Nat.le_of_lt_succ hq1)), (by first | omega | (simp only [List.length_append, List.length_cons, List.length_nil, List.length_set, List.length_take, and_true, true_and, or_true, true_or, Nat.zero_add] <;> omega)), ⟨rfl, rfl, hO28⟩, rfl⟩)))))))
     ·skip
      have ph29 := of_decide_eq_false h29
      refine W_f h29 rfl (am_ (J14 _ _ (Rk fun K J => sV (.int .i64 (((k + 1) : Nat) : Int)) rfl (congrArg (Value.int .i64) (wx (by omega) (by omega) (by omega))) (sE rfl (nl J (⟨(by repeat first | exact .refl | refine .cons rfl ?_), _, _, (sA (sd (s0))), (Nat.lt_succ_self _), (out ++ [mb1_1]), (k + 1), mb1_1, p25, c26, L27, (by exact (hT1.symm.trans (Eq.symm (bif_t h23 (bif_f h29 rfl)))).symm), (Nat.lt_of_lt_of_le (by first | omega | (simp only [List.length_append, List.length_cons, List.length_nil, List.length_set, List.length_take, and_true, true_and, or_true, true_or, Nat.zero_add] <;> omega)) (Nat.le_of_lt_succ hq1)), (by first | omega | (simp only [List.length_append, List.length_cons, List.length_nil, List.length_set, List.length_take, and_true, true_and, or_true, true_or, Nat.zero_add] <;> omega)), ⟨rfl, rfl, hO28⟩, rfl⟩))))))
    ·skip
     have ph23 := of_decide_eq_false h23
     refine W_f h23 rfl (bw_ (ap_ (ap_ (as_ (hK_u6 _ _ (by repeat first | exact .refl | refine .cons rfl ?_) ⟨_, s0, out, k, mb1_1, p_out, c_out, L_out, (by exact hT1.symm.trans (Eq.symm (bif_f h23 rfl))), ⟨rfl, rfl, hO_out⟩, rfl⟩)))))
  ·skip
   rintro g M ⟨out, k, mb1_1, p_out, c_out, L_out, hCu6, ⟨hg7, hg21, hO_out⟩, rfl⟩
   simp only [setG, hg7, hg21]
   clear hg7 hg21
   have hm_out := OwnG.max hO_out
   refine Rs fun K J => sE rfl (sE rfl (nl J (W_ret (ret1 rfl (.inr rfl) rfl ?_))))
   have hE : (out : (List I)) = (aN_ n i) := by exact (by unfold aN_; exact trs (Eq.symm (apS hCu2)) (trs (Eq.symm (apS hCu6)) rfl))
   rw [← hE]
   exact ⟨_, rfl, ⟨L_out, (List.sublist_append_left _ _), hO_out⟩⟩
end Go.Proofs.YtjdfogfmeibkgaaGreat

