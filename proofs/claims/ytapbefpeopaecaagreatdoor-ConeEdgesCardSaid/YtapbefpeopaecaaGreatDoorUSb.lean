/- Walks: what these functions return. What the reference's operations on whole numbers compute is what they should. No program stands in it. -/
import Derived.Test.YtapbefpeopaecaaGreatDoorUGE
import Derived.Test.YtapbefpeopaecaaGreatDoorUSa
namespace Go.Proofs.YtapbefpeopaecaaGreatDoor
open Go.Kn Go.Num
set_option linter.unusedVariables false
set_option linter.unusedSimpArgs false
set_option maxRecDepth 20000
set_option maxHeartbeats 8000000
theorem dC_ (va vb : Value) (la lb : List Nat) (hDa : DL la) (hDb : DL lb) (hna : la.length ≤ 200) (hnb : lb.length ≤ 200) (w : World) (hva : Sl w va la) (hvb : Sl w vb lb) :
    Calls Tryz.prog 121 [va, vb].toArray w (fun e w' => ∃ v, e = .returned v ∧ Ext w w' ∧ Slf w.heap.size w' v (dl (dv la + dv lb))) := by
 refine fa_ (N := 37) Tryz.func121 rfl rfl (by simp) ?_
 obtain ⟨w0, rfl⟩ : ∃ w0, w0 = w := ⟨_, rfl⟩
 simp only [initF, Nat.reduceAdd]
 refine Sq fun K1 J1 => Rk fun K J => sE rfl (nl J (J1 _ _ (Sq fun K2 J2 => Rk fun K J => sE rfl (nl J (J2 _ _ (Sq fun K3 J3 => Rk fun K J => sE rfl (nl J (J3 _ _ (Sq fun K4 J4 => Sq fun K5 J5 => Rk fun K J => sE rfl (nl J ?_))))))))))
 refine J5 _ _ (as_ ?_)
 refine bs_ [5, 6, 7, 8, 9, 10, 11, 12, 13, 14, 15, 16, 17, 18, 19, 20, 21, 22, 23, 24, 25, 26, 27, 28, 29, 30, 31, 32, 33, 34] (fun g nn M => ∃ (k : Nat) (v : Value) (l : List Nat) (L : List Blk), (g 5 = v ∧ g 6 = .int .i64 ((cD (dv la) (dv lb) k : Nat) : Int) ∧ g 7 = .int .i64 (k : Int)) ∧ M = L ++ [] ∧ nn = max la.length lb.length + 1 - k ∧ (k ≤ max la.length lb.length + 1 ∧ OwnL w0 3 v l L ∧ DL l ∧ l.length = k ∧ dv l = (dv la + dv lb) % 65536 ^ k)) (max la.length lb.length + 1 - 0) ?start ?round
 case start =>
  refine ⟨_, (List.Sublist.refl _), 0, _, [], [], ⟨?a5, ?a6, ?a7⟩, ?mem0, rfl, ⟨Nat.zero_le _, .nil, DL.nil, rfl, by simp [dv, Nat.mod_one]⟩⟩
  case mem0 => rfl
  case a5 => rfl
  case a6 => rw [qN_]; rfl
  case a7 => rfl
 case round =>
  rintro nn g M ⟨k, v, l, L, ⟨hg5, hg6, hg7⟩, rfl, hmeas, ⟨hk, hO, hD, hlen, hdv⟩⟩
  subst nn
  simp only [setG, hg5, hg6, hg7]
  clear hg5 hg6 hg7
  refine Sq fun K6 J6 => Sq fun K7 J7 => Rk fun K J => sE rfl (sE rfl (sQ (dZ_ sl_81 rfl hva.old) rfl (sE rfl (sQ (dZ_ sl_81 rfl hvb.old) rfl (sQ (o6_ rfl rfl) rfl (sQ (q_as (q_add rfl rfl) (congrArg (Value.int .i64) (cC_ (by omega)))) rfl (sE rfl (nl J (J7 _ _ ?_)))))))))
  refine aZ_ _ rfl (fun hc => ?_) (fun hc => ?_)
  ·(try simp only [decide_eq_true_eq, decide_eq_false_iff_not, beq_iff_eq, bne_iff_ne, beq_eq_false_iff_ne, bne_eq_false_iff_eq, Bool.not_eq_true', Bool.not_eq_false'] at hc)
   have hc : k < max la.length lb.length + 1 := by omega
   refine am_ (J6 _ _ (Sq fun K8 J8 => as_ (Sq fun K9 J9 => Rk fun K J => sE rfl (sE rfl (sQ (bN_ ha_ rfl (fun w hw => bB_ va la k w (SL.sl (M := _) hva.old hw))) rfl (sE rfl (sE rfl (sQ (bN_ ha_ rfl (fun w hw => bB_ vb lb k w (SL.sl (M := _) hvb.old hw))) rfl (sE rfl (sE rfl (sQ (q_as (q_add rfl rfl) (congrArg (Value.int .i64) ((show _ = ((cD (dv la) (dv lb) k + dg (dv la) k + dg (dv lb) k : Nat) : Int) by rw [d5_ la k hDa, d5_ lb k hDb]; exact add3 (dg_lt _ _) (dg_lt _ _) (cD_le _ _ _))))) rfl (sE rfl (nl J (J9 _ _ (Sq fun K10 J10 => Rk fun K J => ?_)))))))))))))))
   refine sE rfl (sE rfl (sQ (q_as (q_rem rfl rfl (by decide)) (remI _)) rfl (WL_r rfl (ci_ us_81 z_3 sz_3 rfl (by decide) rfl (hc_ _) (fun b31 hb31 => WL_r rfl (gD_ us_81 on_3 rfl rfl hO (SL.mine (l := [(cD (dv la) (dv lb) k + dg (dv la) k + dg (dv lb) k) % 65536]) (.head _) (Nat.le_refl _)) (List.sublist_cons_self _ _) (by simp; omega) (fun v' L' hO' => ?_)))))))
   refine sE rfl (nl J (J10 _ _ (Rk fun K J => sE rfl (sQ (q_as (q_quo rfl rfl (by decide)) (congrArg (Value.int .i64) (quoI (by have := cD_le (dv la) (dv lb) k; have := dg_lt (dv la) k; have := dg_lt (dv lb) k; omega)))) rfl (sE rfl (nl J (J8 _ _ (Rk fun K J => sE rfl (sQ (q_as (q_add rfl rfl) (congrArg (Value.int .i64) (cC_ (by omega)))) rfl (sE rfl (nl J ?_)))))))))))
   refine ⟨(by repeat first | exact .refl | refine .cons rfl ?_), _, _, (List.Sublist.refl _), (by omega), k + 1, _, _, _, ⟨?s5, ?s6, ?s7⟩, ?mem, rfl, ⟨by omega, hO', hD.append (DL.one (Nat.mod_lt _ (by decide))), by simp [hlen], lL_ hlen hdv⟩⟩
   case mem => rfl
   case s5 => rfl
   case s6 => rw [← ka_]; rfl
   case s7 => rfl
  ·(try simp only [decide_eq_true_eq, decide_eq_false_iff_not, beq_iff_eq, bne_iff_ne, beq_eq_false_iff_ne, bne_eq_false_iff_eq, Bool.not_eq_true', Bool.not_eq_false'] at hc)
   obtain rfl : k = max la.length lb.length + 1 := by omega
   refine bq_ (ax_ (ax_ (aE_ (J4 _ _ (Sq fun K11 J11 => Rk fun K J => sE rfl (sQ (bN_ ia_ rfl (fun w hw => b2_ v l hD (by omega) w (SL.sl (hO.sl (List.sublist_append_left _ _)) hw))) rfl (sE rfl (nl J (J11 _ _ (W_ret (ret1 rfl (.inr rfl) rfl ?_)))))))))))
   exact fj_ hD (by rw [hdv, mK_ hDa hDb]) (hO.slf (List.sublist_append_left _ _))

theorem cW_ (va vb : Value) (la lb : List Nat) (hDa : DL la) (hDb : DL lb) (hna : la.length ≤ 200) (hnb : lb.length ≤ 200) (hle : dv lb ≤ dv la) (w : World) (hva : Sl w va la) (hvb : Sl w vb lb) :
    Calls Tryz.prog 92 [va, vb].toArray w (fun e w' => ∃ v, e = .returned v ∧ Ext w w' ∧ Slf w.heap.size w' v (dl (dv la - dv lb))) := by
 refine fa_ (N := 35) Tryz.func92 rfl rfl (by simp) ?_
 obtain ⟨w0, rfl⟩ : ∃ w0, w0 = w := ⟨_, rfl⟩
 simp only [initF, Nat.reduceAdd]
 refine Sq fun K1 J1 => Rk fun K J => sE rfl (nl J (J1 _ _ (Sq fun K2 J2 => Rk fun K J => sE rfl (nl J (J2 _ _ (Sq fun K3 J3 => Rk fun K J => sE rfl (nl J (J3 _ _ (Sq fun K4 J4 => Sq fun K5 J5 => Rk fun K J => sE rfl (nl J ?_))))))))))
 refine J5 _ _ (as_ ?_)
 refine bs_ [5, 6, 7, 8, 9, 10, 11, 12, 13, 14, 15, 16, 17, 18, 19, 20, 21, 22, 23, 24, 25, 26, 27, 28, 29, 30, 31, 32] (fun g nn M => ∃ (k : Nat) (v : Value) (l : List Nat) (L : List Blk) (c : Nat), (g 5 = v ∧ g 6 = .int .i64 (c : Int) ∧ g 7 = .int .i64 (k : Int)) ∧ M = L ++ [] ∧ nn = la.length - k ∧ (k ≤ la.length ∧ OwnL w0 3 v l L ∧ DL l ∧ l.length = k ∧ c ≤ 1 ∧ dv l + dv lb % 65536 ^ k = dv la % 65536 ^ k + c * 65536 ^ k)) (la.length - 0) ?start ?round
 case start =>
  refine ⟨_, (List.Sublist.refl _), 0, _, [], [], 0, ⟨?a5, ?a6, ?a7⟩, ?mem0, rfl, ⟨Nat.zero_le _, .nil, DL.nil, rfl, by decide, by simp [dv, Nat.mod_one]⟩⟩
  case mem0 => rfl
  case a5 => rfl
  case a6 => rfl
  case a7 => rfl
 case round =>
  rintro nn g M ⟨k, v, l, L, c, ⟨hg5, hg6, hg7⟩, rfl, hmeas, ⟨hk, hO, hD, hlen, hcb, hdv⟩⟩
  subst nn
  simp only [setG, hg5, hg6, hg7]
  clear hg5 hg6 hg7
  refine Sq fun K6 J6 => Sq fun K7 J7 => Rk fun K J => sE rfl (sE rfl (sQ (dZ_ sl_81 rfl hva.old) rfl (sE rfl (nl J (J7 _ _ ?_)))))
  refine aZ_ _ rfl (fun hc => ?_) (fun hc => ?_)
  ·(try simp only [decide_eq_true_eq, decide_eq_false_iff_not, beq_iff_eq, bne_iff_ne, beq_eq_false_iff_ne, bne_eq_false_iff_eq, Bool.not_eq_true', Bool.not_eq_false'] at hc)
   have hc : k < la.length := by omega
   refine am_ (J6 _ _ (Sq fun K8 J8 => as_ (Sq fun K9 J9 => dr sn [0,4,8,12,16,20,24,28,32,36,40] [] mix (by kernel_rfl) (fun K J => pE rfl (pE rfl (pQ rfl (gI_ sl_81 rfl rfl hva.old (by omega)) (pQ rfl (fu_ ty_3 rfl hva.old (by omega)) (pE rfl (pE rfl (pQ rfl (bN_ ha_ rfl (fun w hw => bB_ vb lb k w (SL.sl (M := _) hvb.old hw))) (pE rfl (pE rfl (pQ rfl (q_as (q_sub rfl rfl) (congrArg (Value.int .i64) ((show _ = ((dg (dv la) k : Nat) : Int) - ((dg (dv lb) k : Nat) : Int) - (c : Int) by rw [d5_ la k hDa, d5_ lb k hDb]; exact sub3 (dg_lt _ _) (dg_lt _ _) hcb)))) (pE rfl (fl J (J9 _ _ (Sq fun K10 J10 => ?_)))))))))))))))))
   refine Rk fun K J => sE rfl (nl J (J10 _ _ (Sq fun K11 J11 => Sq fun K12 J12 => Rk fun K J => sE rfl (sE rfl (nl J (J12 _ _ ?_))))))
   refine aZ_ _ rfl (fun h26 => ?_) (fun h26 => ?_)
   ·(try simp only [decide_eq_true_eq, decide_eq_false_iff_not, beq_iff_eq, bne_iff_ne, beq_eq_false_iff_ne, bne_eq_false_iff_eq, Bool.not_eq_true', Bool.not_eq_false'] at h26)
    refine Sq fun K13 J13 => Rk fun K J => sE rfl (sE rfl (sE rfl (nl J (J13 _ _ (Rk fun K J => sE rfl (nl J (J11 _ _ (Rk fun K J => sE rfl (sQ (q_as (cQ_ rfl) (show _ = IV (md (dg (dv la) k) (dg (dv lb) k) c) by first | exact oY_ (dg_lt _ _) (dg_lt _ _) hcb h26 | exact pu_ h26)) rfl ?_)))))))))
    refine WL_r rfl (ci_ us_81 z_3 sz_3 rfl (by decide) rfl (hc_ _) (fun b31 hb31 => WL_r rfl (gD_ us_81 on_3 rfl rfl hO (SL.mine (l := [md (dg (dv la) k) (dg (dv lb) k) c]) (.head _) (Nat.le_refl _)) (List.sublist_cons_self _ _) (by simp; omega) (fun v' L' hO' => ?_))))
    refine sE rfl (nl J (J8 _ _ (Rk fun K J => sE rfl (sQ (q_as (q_add rfl rfl) (congrArg (Value.int .i64) (cC_ (by omega)))) rfl (sE rfl (nl J ?_))))))
    refine ⟨(by repeat first | exact .refl | refine .cons rfl ?_), _, _, (List.Sublist.refl _), (by omega), k + 1, _, _, _, mb (dg (dv la) k) (dg (dv lb) k) c, ⟨?s5, ?s6, ?s7⟩, ?mem, rfl, ⟨by omega, hO', hD.append (DL.one (md_lt (dg_lt _ _) (dg_lt _ _) hcb)), by simp [hlen], mb_le _ _ _, ic_ hlen hcb hdv⟩⟩
    case mem => rfl
    case s5 => rfl
    case s6 => first | exact pA_ h26 | exact oI_ h26
    case s7 => rfl
   ·(try simp only [decide_eq_true_eq, decide_eq_false_iff_not, beq_iff_eq, bne_iff_ne, beq_eq_false_iff_ne, bne_eq_false_iff_eq, Bool.not_eq_true', Bool.not_eq_false'] at h26)
    refine am_ (J11 _ _ (Rk fun K J => sE rfl (sQ (q_as (cQ_ rfl) (show _ = IV (md (dg (dv la) k) (dg (dv lb) k) c) by first | exact oY_ (dg_lt _ _) (dg_lt _ _) hcb h26 | exact pu_ h26)) rfl ?_)))
    refine WL_r rfl (ci_ us_81 z_3 sz_3 rfl (by decide) rfl (hc_ _) (fun b31 hb31 => WL_r rfl (gD_ us_81 on_3 rfl rfl hO (SL.mine (l := [md (dg (dv la) k) (dg (dv lb) k) c]) (.head _) (Nat.le_refl _)) (List.sublist_cons_self _ _) (by simp; omega) (fun v' L' hO' => ?_))))
    refine sE rfl (nl J (J8 _ _ (Rk fun K J => sE rfl (sQ (q_as (q_add rfl rfl) (congrArg (Value.int .i64) (cC_ (by omega)))) rfl (sE rfl (nl J ?_))))))
    refine ⟨(by repeat first | exact .refl | refine .cons rfl ?_), _, _, (List.Sublist.refl _), (by omega), k + 1, _, _, _, mb (dg (dv la) k) (dg (dv lb) k) c, ⟨?s5, ?s6, ?s7⟩, ?mem, rfl, ⟨by omega, hO', hD.append (DL.one (md_lt (dg_lt _ _) (dg_lt _ _) hcb)), by simp [hlen], mb_le _ _ _, ic_ hlen hcb hdv⟩⟩
    case mem => rfl
    case s5 => rfl
    case s6 => first | exact pA_ h26 | exact oI_ h26
    case s7 => rfl
  ·(try simp only [decide_eq_true_eq, decide_eq_false_iff_not, beq_iff_eq, bne_iff_ne, beq_eq_false_iff_ne, bne_eq_false_iff_eq, Bool.not_eq_true', Bool.not_eq_false'] at hc)
   obtain rfl : k = la.length := by omega
   refine bq_ (ax_ (ax_ (aE_ (J4 _ _ (Sq fun K14 J14 => Rk fun K J => sE rfl (sQ (bN_ ia_ rfl (fun w hw => b2_ v l hD (by omega) w (SL.sl (hO.sl (List.sublist_append_left _ _)) hw))) rfl (sE rfl (nl J (J14 _ _ (W_ret (ret1 rfl (.inr rfl) rfl ?_)))))))))))
   exact fj_ hD (lM_ hDa hD hlen hle hdv hcb) (hO.slf (List.sublist_append_left _ _))

theorem ei_ (va vb : Value) (la lb : List Nat) (hDa : DL la) (hDb : DL lb) (hna : la.length ≤ 200) (hnb : lb.length ≤ 200) (w : World) (hva : Sl w va la) (hvb : Sl w vb lb) :
    Calls Tryz.prog 123 [va, vb].toArray w (fun e w' => e = .returned (.bool (decide (dv la < dv lb))) ∧ Ext w w') := by
 refine c4_ (N := 30) Tryz.func123 rfl rfl (by simp) ?_
 obtain ⟨w0, rfl⟩ : ∃ w0, w0 = w := ⟨_, rfl⟩
 simp only [initF, Nat.reduceAdd]
 refine Sq fun K1 J1 => Rk fun K J => sE rfl (nl J (J1 _ _ (Sq fun K2 J2 => Sq fun K3 J3 => Rk fun K J => sE rfl (sQ (dZ_ sl_81 rfl hva.old) rfl (sE rfl (sQ (dZ_ sl_81 rfl hvb.old) rfl (sQ (o6_ rfl rfl) rfl (sE rfl (sE rfl (nl J (J3 _ _ (as_ ?_))))))))))))
 refine bs_ [4, 5, 12, 13, 14, 15, 16, 17, 18, 19, 20, 21, 22, 23, 24, 25, 26, 27, 28, 29] (fun g nn M => ∃ (k : Nat), (g 5 = .int .i64 ((k : Int) - 1)) ∧ M = [] ∧ nn = k + 0 ∧ (k ≤ max la.length lb.length ∧ dv la / 65536 ^ k = dv lb / 65536 ^ k)) (max la.length lb.length) ?start ?round
 case start =>
  refine ⟨_, (List.Sublist.refl _), max la.length lb.length, ?a5, ?mem0, rfl, ⟨Nat.le_refl _, lF_ hDa hDb⟩⟩
  case mem0 => rfl
  case a5 => exact congrArg (Value.int .i64) (aH_ (by unfold I64; omega))
 case round =>
  rintro nn g M ⟨k, hg5, rfl, hmeas, ⟨hk, hd⟩⟩
  subst nn
  simp only [setG, hg5]
  clear hg5
  refine Sq fun K4 J4 => Sq fun K5 J5 => Rk fun K J => sE rfl (sE rfl (nl J (J5 _ _ ?_)))
  refine aZ_ _ rfl (fun hc => ?_) (fun hc => ?_)
  ·(try simp only [decide_eq_true_eq, decide_eq_false_iff_not, beq_iff_eq, bne_iff_ne, beq_eq_false_iff_ne, bne_eq_false_iff_eq, Bool.not_eq_true', Bool.not_eq_false'] at hc)
   obtain ⟨m, rfl⟩ : ∃ m, k = m + 1 := ⟨k - 1, by omega⟩
   refine am_ (J4 _ _ (Sq fun K6 J6 => as_ (Sq fun K7 J7 => Rk fun K J => sE rfl (sQ (q_as (cQ_ rfl) (congrArg (Value.int .i64) (show (((m + 1 : Nat) : Int) - 1) = (m : Int) by omega))) rfl (sQ (bN_ ha_ rfl (fun w hw => bB_ va la m w (SL.sl (M := _) hva.old hw))) rfl (sE rfl (sQ (q_as (cQ_ rfl) (congrArg (Value.int .i64) (show (((m + 1 : Nat) : Int) - 1) = (m : Int) by omega))) rfl (sQ (bN_ ha_ rfl (fun w hw => bB_ vb lb m w (SL.sl (M := _) hvb.old hw))) rfl (sE rfl (nl J (J7 _ _ ?_)))))))))))
   refine aZ_ _ rfl (fun hne => ?_) (fun hne => ?_)
   ·(try simp only [decide_eq_true_eq, decide_eq_false_iff_not, beq_iff_eq, bne_iff_ne, beq_eq_false_iff_ne, bne_eq_false_iff_eq, Bool.not_eq_true', Bool.not_eq_false'] at hne)
    have hne' : dg (dv la) m ≠ dg (dv lb) m := by rw [← d5_ la m hDa, ← d5_ lb m hDb]; omega
    refine Sq fun K8 J8 => Rk fun K J => sE rfl (sQ (q_as (cQ_ rfl) (congrArg (Value.int .i64) (show (((m + 1 : Nat) : Int) - 1) = (m : Int) by omega))) rfl (sQ (bN_ ha_ rfl (fun w hw => bB_ va la m w (SL.sl (M := _) hva.old hw))) rfl (sE rfl (sQ (q_as (cQ_ rfl) (congrArg (Value.int .i64) (show (((m + 1 : Nat) : Int) - 1) = (m : Int) by omega))) rfl (sQ (bN_ ha_ rfl (fun w hw => bB_ vb lb m w (SL.sl (M := _) hvb.old hw))) rfl (sE rfl (sE rfl (nl J (J8 _ _ (W_ret (aM_ (ah_ (ah_ (aM_ (ah_ (ret1 rfl (.inr rfl) rfl ?_))))))))))))))))
    (rw [d5_ la m hDa, d5_ lb m hDb]; exact congrArg Value.bool (mS_ hd hne'))
   ·(try simp only [decide_eq_true_eq, decide_eq_false_iff_not, beq_iff_eq, bne_iff_ne, beq_eq_false_iff_ne, bne_eq_false_iff_eq, Bool.not_eq_true', Bool.not_eq_false'] at hne)
    have heq' : dg (dv la) m = dg (dv lb) m := by rw [← d5_ la m hDa, ← d5_ lb m hDb]; omega
    refine am_ (J6 _ _ (Rk fun K J => sQ (q_as (cQ_ rfl) (congrArg (Value.int .i64) (show (((m + 1 : Nat) : Int) - 1) = (m : Int) by omega))) rfl (sE rfl (sE rfl (nl J ?_)))))
    refine ⟨(by repeat first | exact .refl | refine .cons rfl ?_), _, _, (List.Sublist.refl _), (by omega), m, ?s5, ?mem, rfl, ⟨by omega, mR_ hd heq'⟩⟩
    case mem => rfl
    case s5 => exact congrArg (Value.int .i64) (aH_ (n := (m : Int) - 1) (by unfold I64; omega))
  ·(try simp only [decide_eq_true_eq, decide_eq_false_iff_not, beq_iff_eq, bne_iff_ne, beq_eq_false_iff_ne, bne_eq_false_iff_eq, Bool.not_eq_true', Bool.not_eq_false'] at hc)
   obtain rfl : k = 0 := by omega
   refine bq_ (ax_ (ax_ (aE_ (J2 _ _ (Sq fun K9 J9 => Rk fun K J => sE rfl (nl J (J9 _ _ (W_ret (ret1 rfl (.inr rfl) rfl ?_)))))))))
   (simp only [Nat.pow_zero, Nat.div_one] at hd; rw [hd]; exact congrArg Value.bool (decide_eq_false (Nat.lt_irrefl _)).symm)

theorem ec_ (va vb : Value) (la lb : List Nat) (hDa : DL la) (hDb : DL lb) (hna : la.length ≤ 200) (hnb : lb.length ≤ 200) (w : World) (hva : Sl w va la) (hvb : Sl w vb lb) :
    Calls Tryz.prog 125 [va, vb].toArray w (fun e w' => ∃ v, e = .returned v ∧ Ext w w' ∧ Slf w.heap.size w' v (dl (dv la * dv lb))) := by
 refine fa_ (N := 72) Tryz.func125 rfl rfl (by simp) ?_
 obtain ⟨w0, rfl⟩ : ∃ w0, w0 = w := ⟨_, rfl⟩
 simp only [initF, Nat.reduceAdd]
 refine Sq fun K1 J1 => Rk fun K J => sE rfl (nl J (J1 _ _ (Sq fun K2 J2 => Rk fun K J => sE rfl (sQ (dZ_ sl_81 rfl hva.old) rfl (sE rfl (sQ (dZ_ sl_81 rfl hvb.old) rfl (sQ (q_as (q_add rfl rfl) (congrArg (Value.int .i64) (dM_ (by omega)))) rfl (sQ (q_as (q_add rfl rfl) (congrArg (Value.int .i64) (cC_ (by omega)))) rfl (WL_r rfl (o0_ us_81 on_3 z_3 rfl rfl (by omega) (fun b17 hb17 => sE rfl (nl J (J2 _ _ (Sq fun K3 J3 => Sq fun K4 J4 => Rk fun K J => ?_))))))))))))))
 refine sE rfl (nl J (J4 _ _ (as_ ?_)))
 refine bs_ [6, 7, 8, 9, 10, 18, 19, 20, 21, 22, 23, 24, 25, 26, 27, 28, 29, 30, 31, 32, 33, 34, 35, 36, 37, 38, 39, 40, 41, 42, 43, 44, 45, 46, 47, 48, 49, 50, 51, 52, 53, 54, 55, 56, 57, 58, 59, 60, 61, 62, 63, 64, 65, 66, 67, 68, 69] (fun g nn M => ∃ (i : Nat) (o : List Nat), (g 6 = .int .i64 (i : Int)) ∧ M = [⟨b17, 3, iw o⟩] ∧ nn = la.length - i ∧ (i ≤ la.length ∧ DL o ∧ o.length = (la.length + lb.length + 1) ∧ dv o = dv la % 65536 ^ i * dv lb)) (la.length - 0) ?start ?round
 case start =>
  refine ⟨_, (List.Sublist.refl _), 0, List.replicate (la.length + lb.length + 1) 0, ?a6, ?mem0, rfl, ⟨Nat.zero_le _, fun d hd => by rw [List.eq_of_mem_replicate hd]; decide, by simp, by rw [hu_, Nat.pow_zero, Nat.mod_one, Nat.zero_mul]⟩⟩
  case mem0 => rfl
  case a6 => rfl
 case round =>
  rintro nn g M ⟨i, o, hg6, rfl, hmeas, ⟨hi, hDo, hlo, hdv⟩⟩
  subst nn
  simp only [setG, hg6]
  clear hg6
  refine Sq fun K5 J5 => Sq fun K6 J6 => Rk fun K J => sE rfl (sE rfl (sQ (dZ_ sl_81 rfl hva.old) rfl (sE rfl (nl J (J6 _ _ ?_)))))
  refine aZ_ _ rfl (fun hc => ?_) (fun hc => ?_)
  ·(try simp only [decide_eq_true_eq, decide_eq_false_iff_not, beq_iff_eq, bne_iff_ne, beq_eq_false_iff_ne, bne_eq_false_iff_eq, Bool.not_eq_true', Bool.not_eq_false'] at hc)
   have hc : i < la.length := by omega
   refine am_ (J5 _ _ (Sq fun K7 J7 => as_ (Sq fun K8 J8 => Sq fun K9 J9 => Rk fun K J => sE rfl (nl J (J9 _ _ (as_ ?_))))))
   refine bs_ [7, 24, 25, 26, 27, 28, 29, 30, 31, 32, 33, 34, 35, 36, 37, 38, 39, 40, 41, 42, 43, 44, 45, 46, 47, 48, 49, 50] (fun g nn M => ∃ (k : Nat) (l : List Nat), (g 7 = .int .i64 (k : Int)) ∧ M = [⟨b17, 3, iw l⟩] ∧ nn = lb.length - k ∧ (k ≤ lb.length ∧ RowIn (la.length + lb.length + 1) (dv lb) i (dg (dv la) i) o k l)) (lb.length - 0) ?start ?round
   case start =>
    refine ⟨_, (List.Sublist.refl _), 0, o, ?a7, ?mem0, rfl, ⟨Nat.zero_le _, RowIn.start _ _ _ hDo hlo⟩⟩
    case mem0 => rfl
    case a7 => rfl
   case round =>
    rintro nn g M ⟨k, l, hg7, rfl, hmeas, ⟨hkl, hR⟩⟩
    subst nn
    simp only [setG, hg7]
    clear hg7
    refine Sq fun K10 J10 => Sq fun K11 J11 => Rk fun K J => sE rfl (sE rfl (sQ (dZ_ sl_81 rfl hvb.old) rfl (sE rfl (nl J (J11 _ _ ?_)))))
    refine aZ_ _ rfl (fun hk2 => ?_) (fun hk2 => ?_)
    ·(try simp only [decide_eq_true_eq, decide_eq_false_iff_not, beq_iff_eq, bne_iff_ne, beq_eq_false_iff_ne, bne_eq_false_iff_eq, Bool.not_eq_true', Bool.not_eq_false'] at hk2)
     have hk2 : k < lb.length := by omega
     refine am_ (J10 _ _ (Sq fun K12 J12 => as_ (dr sn [0,4,8,12,16,20,24,28,32,36,40,44,48,52,56,60,64,68,72,76,80,85] [21] mix (by kernel_rfl) (fun K J => pE rfl (pE rfl (pE rfl (pQ rfl (q_as (q_add rfl rfl) (congrArg (Value.int .i64) (dM_ (by omega)))) (pE rfl (pE rfl (pE rfl (pQ rfl (q_as (q_add rfl rfl) (congrArg (Value.int .i64) (dM_ (by omega)))) (pQ rfl (hS_ sl_81 rfl rfl (by omega) (by omega)) (pQ rfl (ba_ ty_3 rfl (by repeat (first | exact .head _ | apply List.mem_append_right | apply List.Mem.tail)) (iwAt (by rw [hR.len]; omega))) ?_)))))))))))))
     refine pE rfl (pE rfl (pQ rfl (gI_ sl_81 rfl rfl hva.old (by omega)) (pQ rfl (fu_ ty_3 rfl hva.old (by omega)) (pE rfl (pE rfl (pQ rfl (gI_ sl_81 rfl rfl hvb.old (by omega)) (pQ rfl (fu_ ty_3 rfl hvb.old (by omega)) (pE rfl (pQ rfl (q_as (q_add rfl rfl) (show _ = IV (l.getD (i + k) 0 + dg (dv la) i * dg (dv lb) k) by rw [d5_ la i hDa, d5_ lb k hDb]; exact p7_ (hR.high _ (Nat.le_refl _)) (dg_lt _ _) (dg_lt _ _))) (pQ rfl (hS_ sl_81 rfl rfl (by omega) (by omega)) ?_))))))))))
     refine PL_o rfl rfl (iF_ ty_3 rfl rfl (by repeat (first | exact .head _ | apply Upd.left | apply Upd.tail)) (by rw [hR.len]; omega) (.inl (by assumption)) ⟨nf, (by repeat (first | exact s0 | exact sn | refine sk ?_ | refine sd ?_ | refine sA ?_ | refine sR ?_)), ?_⟩)
     refine fl J (J12 _ _ (Rk fun K J => sE rfl (sQ (q_as (q_add rfl rfl) (congrArg (Value.int .i64) (cC_ (by omega)))) rfl (sE rfl (nl J ?_)))))
     refine ⟨(by repeat first | exact .refl | refine .cons rfl ?_), _, _, (List.Sublist.refl _), (by omega), k + 1, _, ?s7, ?mem, rfl, ⟨by omega, hR.step (by omega) (dg_lt _ _)⟩⟩
     case mem => rfl
     case s7 => rfl
    ·(try simp only [decide_eq_true_eq, decide_eq_false_iff_not, beq_iff_eq, bne_iff_ne, beq_eq_false_iff_ne, bne_eq_false_iff_eq, Bool.not_eq_true', Bool.not_eq_false'] at hk2)
     obtain rfl : k = lb.length := by omega
     refine bq_ (ax_ (ax_ (aE_ (J8 _ _ (Sq fun K13 J13 => Rk fun K J => sE rfl (nl J (J13 _ _ (Sq fun K14 J14 => Rk fun K J => sE rfl (nl J (J14 _ _ (as_ ?_)))))))))))
     refine bs_ [8, 9, 10, 51, 52, 53, 54, 55, 56, 57, 58, 59, 60, 61, 62, 63, 64, 65, 66, 67, 68, 69] (fun g nn M => ∃ (m : Nat) (l : List Nat) (c : Nat), (g 8 = .int .i64 (c : Int) ∧ g 9 = .int .i64 (m : Int)) ∧ M = [⟨b17, 3, iw l⟩] ∧ nn = (la.length + lb.length + 1) - m ∧ (m ≤ (la.length + lb.length + 1) ∧ CarryIn (la.length + lb.length + 1) (dv o + 65536 ^ i * (dg (dv la) i * (dv lb % 65536 ^ lb.length))) m l c)) ((la.length + lb.length + 1) - 0) ?start ?round
     case start =>
      refine ⟨_, (List.Sublist.refl _), 0, l, 0, ⟨?a8, ?a9⟩, ?mem0, rfl, ⟨Nat.zero_le _, hR.done⟩⟩
      case mem0 => rfl
      case a8 => rfl
      case a9 => rfl
     case round =>
      rintro nn g M ⟨m, l, c, ⟨hg8, hg9⟩, rfl, hmeas, ⟨hml, hC⟩⟩
      subst nn
      simp only [setG, hg8, hg9]
      clear hg8 hg9
      refine Sq fun K15 J15 => Sq fun K16 J16 => Rk fun K J => sE rfl (sE rfl (sQ (q_len sl_81 rfl) rfl (sE rfl (nl J (J16 _ _ ?_)))))
      refine aZ_ _ rfl (fun hm2 => ?_) (fun hm2 => ?_)
      ·(try simp only [decide_eq_true_eq, decide_eq_false_iff_not, beq_iff_eq, bne_iff_ne, beq_eq_false_iff_ne, bne_eq_false_iff_eq, Bool.not_eq_true', Bool.not_eq_false'] at hm2)
       have hm2 : m < (la.length + lb.length + 1) := by omega
       refine am_ (J15 _ _ (Sq fun K17 J17 => as_ (Sq fun K18 J18 => Rk fun K J => sE rfl (sE rfl (sQ (hS_ sl_81 rfl rfl (by omega) (by omega)) rfl (sQ (ba_ ty_3 rfl (by repeat (first | exact .head _ | apply List.mem_append_right | apply List.Mem.tail)) (iwAt (by rw [hC.len]; omega))) rfl ?_))))))
       refine sE rfl (sQ (q_as (q_add rfl rfl) (congrArg (Value.int .i64) (addI (by have := hC.low m; have := hC.clt; omega)))) rfl (sE rfl (nl J (J18 _ _ (Sq fun K19 J19 => Rk fun K J => sE rfl (sE rfl (sE rfl (sQ (q_as (q_rem rfl rfl (by decide)) (remI _)) rfl (sQ (hS_ sl_81 rfl rfl (by omega) (by omega)) rfl (WL_r rfl (iF_ ty_3 rfl rfl (by repeat (first | exact .head _ | apply Upd.left | apply Upd.tail)) (by rw [hC.len]; omega) (.inl (by assumption)) ?_)))))))))))
       refine nl J (J19 _ _ (Rk fun K J => sE rfl (sQ (q_as (q_quo rfl rfl (by decide)) (congrArg (Value.int .i64) (quoI (by have := hC.low m; have := hC.clt; omega)))) rfl (sE rfl (nl J (J17 _ _ (Rk fun K J => sE rfl (sQ (q_as (q_add rfl rfl) (congrArg (Value.int .i64) (cC_ (by omega)))) rfl (sE rfl (nl J ?_))))))))))
       refine ⟨(by repeat first | exact .refl | refine .cons rfl ?_), _, _, (List.Sublist.refl _), (by omega), m + 1, _, _, ⟨?s8, ?s9⟩, ?mem, rfl, ⟨by omega, hC.step (by omega)⟩⟩
       case mem => rfl
       case s8 => rfl
       case s9 => rfl
      ·(try simp only [decide_eq_true_eq, decide_eq_false_iff_not, beq_iff_eq, bne_iff_ne, beq_eq_false_iff_ne, bne_eq_false_iff_eq, Bool.not_eq_true', Bool.not_eq_false'] at hm2)
       obtain rfl : m = (la.length + lb.length + 1) := by omega
       have hT : (dv o + 65536 ^ i * (dg (dv la) i * (dv lb % 65536 ^ lb.length))) = dv la % 65536 ^ (i + 1) * dv lb := by rw [hdv]; exact mb_ (dv_lt lb hDb)
       have hF := hC.fin (by rw [hT]; exact or_ (by omega) (dv_lt lb hDb))
       rw [hT] at hF
       refine bq_ (ax_ (ax_ (aE_ (J7 _ _ (Rk fun K J => sE rfl (sQ (q_as (q_add rfl rfl) (congrArg (Value.int .i64) (cC_ (by omega)))) rfl (sE rfl (nl J ?_))))))))
       refine ⟨(by repeat first | exact .refl | refine .cons rfl ?_), _, _, (List.Sublist.refl _), (by omega), i + 1, _, ?s6, ?mem, rfl, ⟨by omega, hF⟩⟩
       case mem => rfl
       case s6 => rfl
  ·(try simp only [decide_eq_true_eq, decide_eq_false_iff_not, beq_iff_eq, bne_iff_ne, beq_eq_false_iff_ne, bne_eq_false_iff_eq, Bool.not_eq_true', Bool.not_eq_false'] at hc)
   obtain rfl : i = la.length := by omega
   refine bq_ (ax_ (ax_ (aE_ (J3 _ _ (Sq fun K20 J20 => Rk fun K J => sE rfl (sQ (bN_ ia_ rfl (fun w hw => b2_ _ o hDo (by omega) w (SL.sl (SL.mine' (.head _) hlo (Nat.le_refl _)) hw))) rfl (sE rfl (nl J (J20 _ _ (W_ret (ret1 rfl (.inr rfl) rfl ?_)))))))))))
   exact fj_ hDo (by rw [hdv, Nat.mod_eq_of_lt (dv_lt la hDa)]) (SLf.mine hb17 (.head _) hlo (Nat.le_refl _))

theorem di_ (va : Value) (la : List Nat) (k : Int) (w : World) (hva : Sl w va la) :
    Calls Tryz.prog 131 [va, .int .i64 k].toArray w (fun e w' => e = .returned (.int .i64 ((atD la k : Nat) : Int)) ∧ Ext w w') := by
 refine c4_ (N := 10) Tryz.func131 rfl rfl (by simp) ?_
 obtain ⟨w0, rfl⟩ : ∃ w0, w0 = w := ⟨_, rfl⟩
 simp only [initF, Nat.reduceAdd]
 refine Sq fun K1 J1 => Rk fun K J => sE rfl (nl J (J1 _ _ (Sq fun K2 J2 => Sq fun K3 J3 => Rk fun K J => sE rfl (sE rfl (nl J (J3 _ _ ?_))))))
 refine aZ_ _ rfl (fun h0 => ?_) (fun h0 => ?_)
 ·(try simp only [decide_eq_true_eq, decide_eq_false_iff_not, beq_iff_eq, bne_iff_ne, beq_eq_false_iff_ne, bne_eq_false_iff_eq, Bool.not_eq_true', Bool.not_eq_false'] at h0)
  refine Sq fun K4 J4 => Rk fun K J => sE rfl (nl J (J4 _ _ (W_ret (ah_ (ret1 rfl (.inr rfl) rfl ?_)))))
  (rw [p3_ h0]; rfl)
 ·(try simp only [decide_eq_true_eq, decide_eq_false_iff_not, beq_iff_eq, bne_iff_ne, beq_eq_false_iff_ne, bne_eq_false_iff_eq, Bool.not_eq_true', Bool.not_eq_false'] at h0)
  refine am_ (J2 _ _ (Sq fun K5 J5 => Rk fun K J => sE rfl (sQ (q_as (cQ_ rfl) (show _ = Value.int .i64 ((k.toNat : Nat) : Int) from congrArg (Value.int .i64) (by omega))) rfl (sQ (bN_ ha_ rfl (fun w hw => bB_ va la k.toNat w (SL.sl (M := _) hva.old hw))) rfl (sE rfl (nl J (J5 _ _ (W_ret (ret1 rfl (.inr rfl) rfl ?_)))))))))
  rw [qp_ h0]

theorem eg_ (n : Int) :
    Ret Tryz.prog 124 [.int .i64 n] (.bool (decide (n < 2147483648) && decide (-2147483648 < n))) := by
 refine aB_ (N := 9) Tryz.func124 rfl rfl (by simp) (fun w0 => ?_)
 simp only [initF, Nat.reduceAdd]
 refine Sq fun K1 J1 => Rk fun K J => sE rfl (nl J (J1 _ _ (Sq fun K2 J2 => Rk fun K J => sE rfl (sE rfl (sE rfl ?_)))))
 cases h1 : decide (n < 2147483648)
 ·skip
  refine WL_n rfl (WL_n rfl (sE rfl (sE rfl (nl J (J2 _ _ (W_ret (ret1 rfl (.inr rfl) rfl ?_)))))))
  simp [*]
 ·skip
  refine sE rfl (sE rfl (sE rfl (sE rfl (nl J (J2 _ _ (W_ret (ret1 rfl (.inr rfl) rfl ?_)))))))
  simp [*]

theorem fy_ (n m : Int) (hn : I64 n) (hnm : n ≠ -9223372036854775808) (hm : m ≠ 0) :
    Ret Tryz.prog 89 [.int .i64 n, .int .i64 m] (.int .i64 (n.fdiv m)) := by
 refine aB_ (N := 23) Tryz.func89 rfl rfl (by simp) (fun w0 => ?_)
 simp only [initF, Nat.reduceAdd]
 refine Sq fun K1 J1 => Rk fun K J => sE rfl (nl J (J1 _ _ (Sq fun K2 J2 => Rk fun K J => sE rfl (sE rfl (sQ (q_as (q_quo rfl rfl hm) (congrArg (Value.int .i64) (aH_ (mk_ hn hnm)))) rfl (sE rfl (nl J (J2 _ _ (Sq fun K3 J3 => Sq fun K4 J4 => Rk fun K J => sE rfl (sE rfl (sQ (q_rem rfl rfl hm) rfl (sE rfl ?_))))))))))))
 refine sE rfl ?_
 cases h0 : (n.tmod m != 0)
 ·skip
  refine WL_n rfl (WL_n rfl (WL_n rfl (WL_n rfl (WL_n rfl (sE rfl (nl J (J4 _ _ (bu_ rfl (am_ (J3 _ _ (Sq fun K5 J5 => Rk fun K J => sE rfl (sE rfl (nl J (J5 _ _ (W_ret (ret1 rfl (.inr rfl) rfl ?_))))))))))))))))
  exact congrArg (Value.int .i64) (hA_ hm (.inl (by simpa using h0))).1.symm
 ·skip
  refine sE rfl (sE rfl (sE rfl (sE rfl (sQ (fP_ bo_4 rfl rfl) rfl (sE rfl (nl J (J4 _ _ ?_)))))))
  refine aZ_ _ rfl (fun hs => ?_) (fun hs => ?_)
  ·(try simp only [decide_eq_true_eq, decide_eq_false_iff_not, beq_iff_eq, bne_iff_ne, beq_eq_false_iff_ne, bne_eq_false_iff_eq, Bool.not_eq_true', Bool.not_eq_false'] at hs)
   refine Rk fun K J => sE rfl (sQ (q_as (q_sub rfl rfl) (congrArg (Value.int .i64) (aH_ (pN_ hn hnm)))) rfl (sE rfl (nl J (J3 _ _ (Sq fun K6 J6 => Rk fun K J => sE rfl (sE rfl (nl J (J6 _ _ (W_ret (ret1 rfl (.inr rfl) rfl ?_))))))))))
   exact congrArg (Value.int .i64) (mq_ hm (by simpa using h0) (bne_iff_ne.2 (by rw [jI_ (by simpa using h0)]; exact hs))).1.symm
  ·(try simp only [decide_eq_true_eq, decide_eq_false_iff_not, beq_iff_eq, bne_iff_ne, beq_eq_false_iff_ne, bne_eq_false_iff_eq, Bool.not_eq_true', Bool.not_eq_false'] at hs)
   refine am_ (J3 _ _ (Sq fun K7 J7 => Rk fun K J => sE rfl (sE rfl (nl J (J7 _ _ (W_ret (ret1 rfl (.inr rfl) rfl ?_)))))))
   exact congrArg (Value.int .i64) (hA_ hm (.inr (by rw [jI_ (by simpa using h0)]; simpa using hs))).1.symm
end Go.Proofs.YtapbefpeopaecaaGreatDoor

namespace Go.Proofs.YtapbefpeopaecaaGreatDoor
open Go.Kn Go.Num
set_option linter.unusedVariables false
set_option linter.unusedSimpArgs false
set_option maxRecDepth 20000
set_option maxHeartbeats 8000000
theorem bH_ (a : R) (ha : a.Ok) :
    Ret Tryz.prog 88 [RV a] (.tuple #[.int .i64 (wordI a), .bool (wordB a)]) := by
 refine aB_ (N := 41) Tryz.func88 rfl rfl (by simp) (fun w0 => ?_)
 simp only [initF, Nat.reduceAdd]
 refine Sq fun K1 J1 => Rk fun K J => WL_r rfl (r_box rfl rfl (fun b1 hb1 => sE rfl (sE rfl (nl J (J1 _ _ (Sq fun K2 J2 => Rk fun K J => sQ (aK_ ty_37 rfl (by repeat (first | exact .head _ | apply List.mem_append_right | apply List.Mem.tail)) (aJ_ ha)) rfl ?_))))))
 refine sQ (q_ret en_86 (aO_ a ha) rfl) rfl (sE rfl (nl J (J2 _ _ (Sq fun K3 J3 => Sq fun K4 J4 => Rk fun K J => sE rfl (sE rfl (sE rfl ?_))))))
 cases hg : a.good
 ·skip
  refine WL_n rfl (WL_n rfl (WL_n rfl (WL_n rfl (sE rfl (nl J (J4 _ _ (bx_ rfl (Sq fun K5 J5 => Rk fun K J => sE rfl (sE rfl (nl J (J5 _ _ (W_ret (ah_ (ret2 rfl (.inr rfl) rfl rfl ?_))))))))))))))
  exact mi_ hg
 ·skip
  refine sQ (aL_ bl_ (by decide) rfl) rfl (sQ (bt_ ar_35 rfl rfl (by decide) (by decide)) rfl (sQ (ba_ ty_34 rfl (by repeat (first | exact .head _ | apply List.mem_append_right | apply List.Mem.tail)) (dD_ (r := a) (k := 1) (by rw [ha.len]; decide))) rfl ?_))
  refine sE rfl (sE rfl (nl J (J4 _ _ ?_)))
  refine aZ_ _ rfl (fun h16 => ?_) (fun h16 => ?_)
  ·(try simp only [decide_eq_true_eq, decide_eq_false_iff_not, beq_iff_eq, bne_iff_ne, beq_eq_false_iff_ne, bne_eq_false_iff_eq, Bool.not_eq_true', Bool.not_eq_false'] at h16)
   refine Sq fun K6 J6 => Rk fun K J => sE rfl (sE rfl (nl J (J6 _ _ (W_ret (ah_ (ret2 rfl (.inr rfl) rfl rfl ?_))))))
   exact kU_ (n4_ ha h16)
  ·(try simp only [decide_eq_true_eq, decide_eq_false_iff_not, beq_iff_eq, bne_iff_ne, beq_eq_false_iff_ne, bne_eq_false_iff_eq, Bool.not_eq_true', Bool.not_eq_false'] at h16)
   refine am_ (J3 _ _ (Sq fun K7 J7 => Sq fun K8 J8 => Rk fun K J => sE rfl (nl J (J8 _ _ (as_ ?_)))))
   refine bs_ [2, 3, 5, 17, 18, 19, 20, 21, 22, 23, 24, 25] (fun g nn M => ∃ (k : Nat), (g 5 = .int .i64 (k : Int)) ∧ M = [⟨b1, 37, a.cells⟩] ∧ nn = 16 - k ∧ (2 ≤ k ∧ k ≤ 16 ∧ ∀ j, 2 ≤ j → j < k → a.w.getD j 0 = 0)) (14) ?start ?round
   case start =>
    refine ⟨_, (List.Sublist.refl _), 2, ?a5, ?mem0, rfl, ⟨Nat.le_refl _, by decide, fun j h1 h2 => by omega⟩⟩
    case mem0 => rfl
    case a5 => rfl
   case round =>
    rintro nn g M ⟨k, hg5, rfl, hmeas, ⟨hk2, hk, hz⟩⟩
    subst nn
    simp only [setG, hg5]
    clear hg5
    refine Sq fun K9 J9 => Sq fun K10 J10 => Rk fun K J => sE rfl (sE rfl (nl J (J10 _ _ ?_)))
    refine aZ_ _ rfl (fun hc => ?_) (fun hc => ?_)
    ·(try simp only [decide_eq_true_eq, decide_eq_false_iff_not, beq_iff_eq, bne_iff_ne, beq_eq_false_iff_ne, bne_eq_false_iff_eq, Bool.not_eq_true', Bool.not_eq_false'] at hc)
     have hc : k < 16 := by omega
     refine am_ (J9 _ _ (Sq fun K11 J11 => as_ (Sq fun K12 J12 => Rk fun K J => sE rfl (sQ (aL_ bl_ (by decide) rfl) rfl (sQ (bt_ ar_35 rfl rfl (by omega) (by omega)) rfl (sQ (ba_ ty_34 rfl (by repeat (first | exact .head _ | apply List.mem_append_right | apply List.Mem.tail)) (dD_ (r := a) (k := k) (by rw [ha.len]; omega))) rfl ?_))))))
     refine sE rfl (nl J (J12 _ _ ?_))
     refine aZ_ _ rfl (fun hz2 => ?_) (fun hz2 => ?_)
     ·(try simp only [decide_eq_true_eq, decide_eq_false_iff_not, beq_iff_eq, bne_iff_ne, beq_eq_false_iff_ne, bne_eq_false_iff_eq, Bool.not_eq_true', Bool.not_eq_false'] at hz2)
      refine Sq fun K13 J13 => Rk fun K J => sE rfl (sE rfl (nl J (J13 _ _ (W_ret (aM_ (ah_ (ah_ (aM_ (ah_ (ret2 rfl (.inr rfl) rfl rfl ?_))))))))))
      exact kU_ (l5_ ha hk2 (by omega))
     ·(try simp only [decide_eq_true_eq, decide_eq_false_iff_not, beq_iff_eq, bne_iff_ne, beq_eq_false_iff_ne, bne_eq_false_iff_eq, Bool.not_eq_true', Bool.not_eq_false'] at hz2)
      refine am_ (J11 _ _ (Rk fun K J => sE rfl (sQ (q_as (q_add rfl rfl) (congrArg (Value.int .i64) (cC_ (by omega)))) rfl (sE rfl (nl J ?_)))))
      refine ⟨(by repeat first | exact .refl | refine .cons rfl ?_), _, _, (List.Sublist.refl _), (by omega), k + 1, ?s5, ?mem, rfl, ⟨by omega, by omega, fun j h1 h2 => by rcases Nat.eq_or_lt_of_le (Nat.le_of_lt_succ h2) with rfl | h3; omega; exact hz j h1 h3⟩⟩
      case mem => rfl
      case s5 => rfl
    ·(try simp only [decide_eq_true_eq, decide_eq_false_iff_not, beq_iff_eq, bne_iff_ne, beq_eq_false_iff_ne, bne_eq_false_iff_eq, Bool.not_eq_true', Bool.not_eq_false'] at hc)
     obtain rfl : k = 16 := by omega
     have hws := lj_ ha (by omega) hz
     refine bq_ (ax_ (ax_ (aE_ (J7 _ _ (Sq fun K14 J14 => Rk fun K J => sQ (aL_ bl_ (by decide) rfl) rfl (sQ (bt_ ar_35 rfl rfl (by decide) (by decide)) rfl (sQ (ba_ ty_34 rfl (by repeat (first | exact .head _ | apply List.mem_append_right | apply List.Mem.tail)) (dD_ (r := a) (k := 1) (by rw [ha.len]; decide))) rfl ?_)))))))
     refine sQ (bj_ in_34 in_3 rfl) rfl (sE rfl (sQ (aL_ bl_ (by decide) rfl) rfl (sQ (bt_ ar_35 rfl rfl (by decide) (by decide)) rfl (sQ (ba_ ty_34 rfl (by repeat (first | exact .head _ | apply List.mem_append_right | apply List.Mem.tail)) (dD_ (r := a) (k := 0) (by rw [ha.len]; decide))) rfl ?_))))
     refine sQ (bj_ in_34 in_3 rfl) rfl (sQ (q_as (q_add rfl rfl) (congrArg (Value.int .i64) ((lj_ ha (by omega) hz).1))) rfl (sE rfl (nl J (J14 _ _ (Sq fun K15 J15 => Sq fun K16 J16 => Rk fun K J => sQ (aL_ bp_ (by decide) rfl) rfl (sQ (ba_ ty_4 rfl (by repeat (first | exact .head _ | apply List.mem_append_right | apply List.Mem.tail)) rfl) rfl ?_))))))
     refine nl J (J16 _ _ ?_)
     refine aZ_ _ rfl (fun hn => ?_) (fun hn => ?_)
     ·(try simp only [decide_eq_true_eq, decide_eq_false_iff_not, beq_iff_eq, bne_iff_ne, beq_eq_false_iff_ne, bne_eq_false_iff_eq, Bool.not_eq_true', Bool.not_eq_false'] at hn)
      refine Sq fun K17 J17 => Rk fun K J => sE rfl (sE rfl (sE rfl (sE rfl (nl J (J17 _ _ (W_ret (ah_ (ret2 rfl (.inr rfl) rfl rfl ?_))))))))
      exact nQ_ hg hws.2 hn
     ·(try simp only [decide_eq_true_eq, decide_eq_false_iff_not, beq_iff_eq, bne_iff_ne, beq_eq_false_iff_ne, bne_eq_false_iff_eq, Bool.not_eq_true', Bool.not_eq_false'] at hn)
      refine am_ (J15 _ _ (Sq fun K18 J18 => Rk fun K J => sE rfl (sE rfl (sE rfl (nl J (J18 _ _ (W_ret (ret2 rfl (.inr rfl) rfl rfl ?_))))))))
      exact og_ hg hws.2 hn

theorem bZ_ (n : Int) (hn : I64 n) :
    Ret Tryz.prog 74 [.int .i64 n] (RV (Z.of n).enc) := by
 refine aB_ (N := 35) Tryz.func74 rfl rfl (by simp) (fun w0 => ?_)
 simp only [initF, Nat.reduceAdd]
 unfold I64 at hn
 refine Sq fun K1 J1 => Rk fun K J => WL_r rfl (be_ z_37 (fun b2 hb2 => nl J (J1 _ _ (Sq fun K2 J2 => Sq fun K3 J3 => Rk fun K J => sE rfl (sE rfl (nl J (J3 _ _ ?_)))))))
 refine aZ_ _ rfl (fun h0 => ?_) (fun h0 => ?_)
 ·(try simp only [decide_eq_true_eq, decide_eq_false_iff_not, beq_iff_eq, bne_iff_ne, beq_eq_false_iff_ne, bne_eq_false_iff_eq, Bool.not_eq_true', Bool.not_eq_false'] at h0)
  obtain ⟨m, rfl⟩ : ∃ m : Nat, n = m := ⟨n.toNat, by omega⟩
  refine Sq fun K4 J4 => Rk fun K J => sE rfl (sQ (q_as (q_rem rfl rfl (by decide)) (show _ = IV (m % 65536) from remI _)) rfl (sE rfl (sQ (q_as (q_quo rfl rfl (by decide)) (quo_c 65536 (by omega))) rfl (sQ (q_as (q_rem rfl rfl (by decide)) (show _ = IV (m / 65536 % 65536) from remI _)) rfl (sE rfl (sQ (q_as (q_quo rfl rfl (by decide)) (quo_c 4294967296 (by omega))) rfl (sQ (q_as (q_rem rfl rfl (by decide)) (show _ = IV (m / 4294967296 % 65536) from remI _)) rfl (sE rfl (sQ (q_as (q_quo rfl rfl (by decide)) (quo_c 281474976710656 (by omega))) rfl (WL_r rfl (ci_ us_81 z_3 sz_3 rfl (by decide) rfl (pK_ _ _ _ _) (fun b16 hb16 => sQ (bN_ en_93 rfl (fun w hw => a8_ false _ (dl4 m) (ps_ (by omega)) (by simp [dl4]) w (SL.sl (SL.mine (l := dl4 m) (.head _) (Nat.le_refl _)) hw))) rfl ?_))))))))))))
  refine WL_r rfl (aA_ ty_37 rfl rfl (by repeat (first | exact .head _ | apply Upd.left | apply Upd.tail)) (ac_ _) rfl (at_ _) (.inl (by assumption)) ?_)
  refine nl J (J4 _ _ (W_ret (ah_ (ret1 rfl (.inr rfl) ⟨_, _, _, _, _, _, rfl, (by repeat (first | exact .head _ | apply List.mem_append_right | apply List.Mem.tail)), ty_37, _, (a5_ (ac_ _)), (ac_ _), rfl⟩ ?_))))
  (rw [lY_, sgn_f]; rfl)
 ·(try simp only [decide_eq_true_eq, decide_eq_false_iff_not, beq_iff_eq, bne_iff_ne, beq_eq_false_iff_ne, bne_eq_false_iff_eq, Bool.not_eq_true', Bool.not_eq_false'] at h0)
  obtain ⟨m, rfl⟩ : ∃ m : Nat, n = -((m : Int) + 1) := ⟨(-n - 1).toNat, by omega⟩
  refine am_ (J2 _ _ (Sq fun K5 J5 => Rk fun K J => sE rfl (sE rfl (sQ (q_as (q_neg rfl) (congrArg (Value.int .i64) (qq_ (by omega)))) rfl (sE rfl (nl J (J5 _ _ (Sq fun K6 J6 => Rk fun K J => sE rfl (sQ (q_as (q_rem rfl rfl (by decide)) (show _ = IV (m % 65536) from remI _)) rfl (sE rfl (sQ (q_as (q_quo rfl rfl (by decide)) (quo_c 65536 (by omega))) rfl (sQ (q_as (q_rem rfl rfl (by decide)) (show _ = IV (m / 65536 % 65536) from remI _)) rfl (sE rfl (sQ (q_as (q_quo rfl rfl (by decide)) (quo_c 4294967296 (by omega))) rfl (sQ (q_as (q_rem rfl rfl (by decide)) (show _ = IV (m / 4294967296 % 65536) from remI _)) rfl ?_)))))))))))))))
  refine sE rfl (sQ (q_as (q_quo rfl rfl (by decide)) (quo_c 281474976710656 (by omega))) rfl (WL_r rfl (ci_ us_81 z_3 sz_3 rfl (by decide) rfl (pK_ _ _ _ _) (fun b31 hb31 => WL_r rfl (ci_ us_81 z_3 sz_3 rfl (by decide) rfl (hc_ 1) (fun b32 hb32 => WL_r rfl (cb_ l4_ rfl (fun w hw => dC_ _ _ (dl4 m) [1] (ps_ (by omega)) (DL.one (by decide)) (by simp [dl4]) (by simp) w (SL.sl (SL.mine (l := dl4 m) (.tail _ (.head _)) (Nat.le_refl _)) hw) (SL.sl (SL.mine (l := [1]) (.head _) (Nat.le_refl _)) hw)) (fun v9 L9 h9 => ?_))))))))
  refine sQ (bN_ en_93 rfl (fun w hw => a8_ true _ _ (dl_DL _) (Nat.le_trans (c8_ (k := 64) (by rw [lY_]; simp only [dv]; omega)) (by decide)) w (SL.sl (h9.sl.sub (List.sublist_append_left _ _)) hw))) rfl (WL_r rfl (aA_ ty_37 rfl rfl (by repeat (first | exact .head _ | apply Upd.left | apply Upd.tail)) (ac_ _) rfl (at_ _) (.inl (by assumption)) ?_))
  refine nl J (J6 _ _ (W_ret (ret1 rfl (.inr rfl) ⟨_, _, _, _, _, _, rfl, (by repeat (first | exact .head _ | apply List.mem_append_right | apply List.Mem.tail)), ty_37, _, (a5_ (ac_ _)), (ac_ _), rfl⟩ ?_)))
  (rw [dv_dl, lY_]; simp only [dv, Nat.mul_zero, Nat.add_zero]; rw [sgn_S]; rfl)
end Go.Proofs.YtapbefpeopaecaaGreatDoor


set_option linter.unusedVariables false
set_option linter.unusedSimpArgs false
namespace Go.Num
open Go Go.Kn
theorem bad2 {a b : I} (h : (!a.1.good || (!b.1.good)) = true) : a.1.dec.o = none ∨ b.1.dec.o = none := by
  cases ha : a.1.good
  · exact .inl (bad1 ha)
  · cases hb : b.1.good
    · exact .inr (bad1 hb)
    · rw [ha, hb] at h; cases h
theorem oW_ {a b : I} (h : (!a.1.good || (!b.1.good)) = false) : a.1.good = true ∧ b.1.good = true := by
  cases ha : a.1.good <;> cases hb : b.1.good <;> rw [ha, hb] at h <;> first | exact ⟨rfl, rfl⟩ | cases h
theorem fJ_ (a : I) : cY_ a = E (Z.neg a.dec) := by
  unfold cY_
  show _ = E (Z.neg a.1.dec)
  cases h : a.1.good
  · rw [cond_false, Z.neg, fY_ (bad1 h)]
  · rw [cond_true, q4_ a.2 h]
theorem fI_ (a : I) : c3_ a = E (Z.abs a.dec) := by
  unfold c3_
  show _ = E (Z.abs a.1.dec)
  cases h : a.1.good
  · rw [cond_false, Z.abs, fY_ (bad1 h)]
  · rw [cond_true, q1_ a.2 h]
theorem fG_ (a b : I) : cd_ a b = E (Z.add a.dec b.dec) := by
  unfold cd_
  show _ = E (Z.add a.1.dec b.1.dec)
  cases hw : (wordB a.1 && wordB b.1)
  · rw [cond_false]
    cases hg : (!a.1.good || (!b.1.good))
    · obtain ⟨ga, gb⟩ := oW_ hg
      rw [cond_false]
      cases hn : (a.1.neg == b.1.neg)
      · rw [cond_false]
        have hn' : a.1.neg ≠ b.1.neg := by simpa using hn
        cases hl : decide (val a.1.w < val b.1.w)
        · rw [cond_false, qX_ a.2 b.2 ga gb hn' (of_decide_eq_false hl)]
        · rw [cond_true, rr_ a.2 b.2 ga gb hn' (of_decide_eq_true hl)]
      · rw [cond_true, pO_ a.2 b.2 ga gb (by simpa using hn)]
    · rw [cond_true, Z.add, c5_ (bad2 hg)]
  · rw [cond_true]
    rw [Bool.and_eq_true] at hw
    show E (Z.of (IntKind.i64.wrap (wordI a.1 + wordI b.1))) = _
    rw [(wadd (du_ a.2 hw.1).2.2.2 (du_ b.2 hw.2).2.2.2).1, mM_ a.2 b.2 hw.1 hw.2]
theorem fH_ (a b : I) : cK_ a b = E (Z.mul a.dec b.dec) := by
  unfold cK_
  show _ = E (Z.mul a.1.dec b.1.dec)
  cases hw : (wordB a.1 && (wordB b.1 && ((decide ((wordW a).1 < 2147483648) && decide (-2147483648 < (wordW a).1)) && (decide ((wordW b).1 < 2147483648) && decide (-2147483648 < (wordW b).1)))))
  · rw [cond_false]
    cases hg : (!a.1.good || (!b.1.good))
    · obtain ⟨ga, gb⟩ := oW_ hg
      rw [cond_false, rH_ a.2 b.2 ga gb]
    · rw [cond_true, Z.mul, c5_ (bad2 hg)]
  · rw [cond_true]
    rw [Bool.and_eq_true, Bool.and_eq_true, Bool.and_eq_true] at hw
    obtain ⟨h1, h2, h3, h4⟩ := hw
    show E (Z.of (IntKind.i64.wrap (wordI a.1 * wordI b.1))) = _
    rw [(wmul (x := wordI a.1) (y := wordI b.1) (nu_ h3) (nu_ h4)).1, mZ_ a.2 b.2 h1 h2]
theorem len0 (n : Nat) : ((((dl n).length : Nat) : Int) == 0) = (n == 0) := by
  rw [Bool.eq_iff_iff, beq_iff_eq, beq_iff_eq]
  constructor
  · intro h; exact lq_.1 (by omega)
  · intro h; rw [lq_.2 h]; rfl
theorem fr_ (a : I) : cF_ a = Z.signW a.dec := by
  unfold cF_
  rw [len0]
  apply Subtype.ext
  show _ = a.1.dec.sign
  cases hg : a.1.good
  · simp only [Bool.not_false, Bool.true_or, cond_true]; exact gC_ a.2 (.inl hg)
  · cases hz : (val a.1.w == 0)
    · simp only [Bool.not_true, Bool.false_or, cond_false]
      rw [p8_ a.2 hg (by simpa using hz)]
      cases a.1.neg <;> rfl
    · simp only [Bool.or_true, cond_true]; exact gC_ a.2 (.inr hz)
theorem fF_ (a b : I) : cr_ a b = E (Z.quo a.dec b.dec) := by
  unfold cr_
  rw [len0]
  show _ = E (Z.quo a.1.dec b.1.dec)
  cases hw : (wordB a.1 && (wordB b.1 && ((wordW b).1 != 0)))
  · rw [cond_false]
    cases hg : (!a.1.good || (!b.1.good || (val b.1.w == 0)))
    · rw [cond_false]
      simp only [Bool.or_eq_false_iff, Bool.not_eq_false', beq_eq_false_iff_ne] at hg
      obtain ⟨ga, gb, h0⟩ := hg
      cases hc : ((a.1.neg != b.1.neg) && decide ((0 : Int) < (((dl (val a.1.w % val b.1.w)).length : Nat) : Int)))
      · rw [cond_false, rO_ a.2 b.2 ga gb h0]
        rw [Bool.and_eq_false_iff] at hc
        rcases hc with hc | hc
        · exact .inl (by simpa using hc)
        · right
          have := of_decide_eq_false hc
          exact lq_.1 (by omega)
      · rw [cond_true, pW_ a.2 b.2 ga gb h0]
        · rw [Bool.and_eq_true] at hc; simpa using hc.1
        · rw [Bool.and_eq_true] at hc
          have := of_decide_eq_true hc.2
          intro h; rw [h, en_] at this; exact absurd this (by decide)
    · rw [cond_true]
      cases ga : a.1.good
      · rw [quo_b (.inl ga)]
      · cases gb : b.1.good
        · rw [quo_b (.inr gb)]
        · rw [ga, gb] at hg
          rw [quo_0 a.2 b.2 ga gb (by simpa using hg)]
  · rw [cond_true]
    have hf := po_ hw
    rw [Bool.and_eq_true, Bool.and_eq_true] at hw
    rw [← hf.2.2]
    exact congrArg E (mX_ a.2 b.2 hw.1 hw.2.1 hf.2.1)
end Go.Num

