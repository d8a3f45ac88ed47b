/- Walks: what these functions return. -/
import Derived.Test.YtapbefpeopaecaaGreatDoorYGE
import Derived.Test.YtapbefpeopaecaaGreatDoorYSa
namespace Go.Proofs.YtapbefpeopaecaaGreatDoor
open Go.Kn Go.Num
set_option linter.unusedVariables false
set_option linter.unusedSimpArgs false
set_option maxRecDepth 20000
set_option maxHeartbeats 8000000
theorem dT_ (va vb : Value) (la lb : List Nat) (hDa : DL la) (hDb : DL lb) (hna : la.length ≤ 200) (hnb : lb.length ≤ 200) (w : World) (hva : Sl w va la) (hvb : Sl w vb lb) :
    Calls Tryz.prog 121 [va, vb].toArray w (fun e w' => ∃ v, e = .returned v ∧ Ext w w' ∧ Slf w.heap.size w' v (dl (dv la + dv lb))) := by
 refine fm_ (N := 37) Tryz.func121 rfl rfl (by simp) ?_
 obtain ⟨w0, rfl⟩ : ∃ w0, w0 = w := ⟨_, rfl⟩
 simp only [initF, Nat.reduceAdd]
 refine Sq fun K1 J1 => Rk fun K J => sE rfl (nl J (J1 _ _ (Sq fun K2 J2 => Rk fun K J => sE rfl (nl J (J2 _ _ (Sq fun K3 J3 => Rk fun K J => sE rfl (nl J (J3 _ _ (Sq fun K4 J4 => Sq fun K5 J5 => Rk fun K J => sE rfl (nl J ?_))))))))))
 refine J5 _ _ (ar_ ?_)
 refine bN_ [5, 6, 7, 8, 9, 10, 11, 12, 13, 14, 15, 16, 17, 18, 19, 20, 21, 22, 23, 24, 25, 26, 27, 28, 29, 30, 31, 32, 33, 34] (fun g nn M => ∃ (k : Nat) (v : Value) (l : List Nat) (L : List Blk), (g 5 = v ∧ g 6 = .int .i64 ((cD (dv la) (dv lb) k : Nat) : Int) ∧ g 7 = .int .i64 (k : Int)) ∧ M = L ++ [] ∧ nn = max la.length lb.length + 1 - k ∧ (k ≤ max la.length lb.length + 1 ∧ OwnL w0 3 v l L ∧ DL l ∧ l.length = k ∧ dv l = (dv la + dv lb) % 65536 ^ k)) (max la.length lb.length + 1 - 0) ?start ?round
 case start =>
  refine ⟨_, (List.Sublist.refl _), 0, _, [], [], ⟨?a5, ?a6, ?a7⟩, ?mem0, rfl, ⟨Nat.zero_le _, .nil, DL.nil, rfl, by simp [dv, Nat.mod_one]⟩⟩
  case mem0 => rfl
  case a5 => rfl
  case a6 => rw [qO_]; rfl
  case a7 => rfl
 case round =>
  rintro nn g M ⟨k, v, l, L, ⟨hg5, hg6, hg7⟩, rfl, hmeas, ⟨hk, hO, hD, hlen, hdv⟩⟩
  subst nn
  simp only [setG, hg5, hg6, hg7]
  clear hg5 hg6 hg7
  refine Sq fun K6 J6 => Sq fun K7 J7 => Rk fun K J => sE rfl (sE rfl (sQ (dX_ sl_81 rfl hva.old) rfl (sE rfl (sQ (dX_ sl_81 rfl hvb.old) rfl (sQ (pj_ rfl rfl) rfl (sQ (q_as (q_add rfl rfl) (congrArg (Value.int .i64) (cV_ (by omega)))) rfl (sE rfl (nl J (J7 _ _ ?_)))))))))
  refine a6_ _ rfl (fun hc => ?_) (fun hc => ?_)
  ·(try simp only [decide_eq_true_eq, decide_eq_false_iff_not, beq_iff_eq, bne_iff_ne, beq_eq_false_iff_ne, bne_eq_false_iff_eq, Bool.not_eq_true', Bool.not_eq_false'] at hc)
   have hc : k < max la.length lb.length + 1 := by omega
   refine ak_ (J6 _ _ (Sq fun K8 J8 => ar_ (Sq fun K9 J9 => Rk fun K J => sE rfl (sE rfl (sQ (bU_ hx_ rfl (fun w hw => bY_ va la k w (SL.sl (M := _) hva.old hw))) rfl (sE rfl (sE rfl (sQ (bU_ hx_ rfl (fun w hw => bY_ vb lb k w (SL.sl (M := _) hvb.old hw))) rfl (sE rfl (sE rfl (sQ (q_as (q_add rfl rfl) (congrArg (Value.int .i64) ((show _ = ((cD (dv la) (dv lb) k + dg (dv la) k + dg (dv lb) k : Nat) : Int) by rw [eh_ la k hDa, eh_ lb k hDb]; exact add3 (dg_lt _ _) (dg_lt _ _) (cD_le _ _ _))))) rfl (sE rfl (nl J (J9 _ _ (Sq fun K10 J10 => Rk fun K J => ?_)))))))))))))))
   refine sE rfl (sE rfl (sQ (q_as (q_rem rfl rfl (by decide)) (remI _)) rfl (WL_r rfl (cv_ us_81 z_3 sz_3 rfl (by decide) rfl (hv_ _) (fun b31 hb31 => WL_r rfl (hg_ us_81 on_3 rfl rfl hO (SL.mine (l := [(cD (dv la) (dv lb) k + dg (dv la) k + dg (dv lb) k) % 65536]) (.head _) (Nat.le_refl _)) (List.sublist_cons_self _ _) (by simp; omega) (fun v' L' hO' => ?_)))))))
   refine sE rfl (nl J (J10 _ _ (Rk fun K J => sE rfl (sQ (q_as (q_quo rfl rfl (by decide)) (congrArg (Value.int .i64) (quoI (by have := cD_le (dv la) (dv lb) k; have := dg_lt (dv la) k; have := dg_lt (dv lb) k; omega)))) rfl (sE rfl (nl J (J8 _ _ (Rk fun K J => sE rfl (sQ (q_as (q_add rfl rfl) (congrArg (Value.int .i64) (cV_ (by omega)))) rfl (sE rfl (nl J ?_)))))))))))
   refine ⟨(by repeat first | exact .refl | refine .cons rfl ?_), _, _, (List.Sublist.refl _), (by omega), k + 1, _, _, _, ⟨?s5, ?s6, ?s7⟩, ?mem, rfl, ⟨by omega, hO', hD.append (DL.one (Nat.mod_lt _ (by decide))), by simp [hlen], ma_ hlen hdv⟩⟩
   case mem => rfl
   case s5 => rfl
   case s6 => rw [← ko_]; rfl
   case s7 => rfl
  ·(try simp only [decide_eq_true_eq, decide_eq_false_iff_not, beq_iff_eq, bne_iff_ne, beq_eq_false_iff_ne, bne_eq_false_iff_eq, Bool.not_eq_true', Bool.not_eq_false'] at hc)
   obtain rfl : k = max la.length lb.length + 1 := by omega
   refine bB_ (ax_ (ax_ (aF_ (J4 _ _ (Sq fun K11 J11 => Rk fun K J => sE rfl (sQ (bU_ ii_ rfl (fun w hw => ci_ v l hD (by omega) w (SL.sl (hO.sl (List.sublist_append_left _ _)) hw))) rfl (sE rfl (nl J (J11 _ _ (W_ret (ret1 rfl (.inr rfl) rfl ?_)))))))))))
   exact fx_ hD (by rw [hdv, nU_ hDa hDb]) (hO.slf (List.sublist_append_left _ _))

theorem cT_ (va vb : Value) (la lb : List Nat) (hDa : DL la) (hDb : DL lb) (hna : la.length ≤ 200) (hnb : lb.length ≤ 200) (hle : dv lb ≤ dv la) (w : World) (hva : Sl w va la) (hvb : Sl w vb lb) :
    Calls Tryz.prog 92 [va, vb].toArray w (fun e w' => ∃ v, e = .returned v ∧ Ext w w' ∧ Slf w.heap.size w' v (dl (dv la - dv lb))) := by
 refine fm_ (N := 35) Tryz.func92 rfl rfl (by simp) ?_
 obtain ⟨w0, rfl⟩ : ∃ w0, w0 = w := ⟨_, rfl⟩
 simp only [initF, Nat.reduceAdd]
 refine Sq fun K1 J1 => Rk fun K J => sE rfl (nl J (J1 _ _ (Sq fun K2 J2 => Rk fun K J => sE rfl (nl J (J2 _ _ (Sq fun K3 J3 => Rk fun K J => sE rfl (nl J (J3 _ _ (Sq fun K4 J4 => Sq fun K5 J5 => Rk fun K J => sE rfl (nl J ?_))))))))))
 refine J5 _ _ (ar_ ?_)
 refine bN_ [5, 6, 7, 8, 9, 10, 11, 12, 13, 14, 15, 16, 17, 18, 19, 20, 21, 22, 23, 24, 25, 26, 27, 28, 29, 30, 31, 32] (fun g nn M => ∃ (k : Nat) (v : Value) (l : List Nat) (L : List Blk) (c : Nat), (g 5 = v ∧ g 6 = .int .i64 (c : Int) ∧ g 7 = .int .i64 (k : Int)) ∧ M = L ++ [] ∧ nn = la.length - k ∧ (k ≤ la.length ∧ OwnL w0 3 v l L ∧ DL l ∧ l.length = k ∧ c ≤ 1 ∧ dv l + dv lb % 65536 ^ k = dv la % 65536 ^ k + c * 65536 ^ k)) (la.length - 0) ?start ?round
 case start =>
  refine ⟨_, (List.Sublist.refl _), 0, _, [], [], 0, ⟨?a5, ?a6, ?a7⟩, ?mem0, rfl, ⟨Nat.zero_le _, .nil, DL.nil, rfl, by decide, by simp [dv, Nat.mod_one]⟩⟩
  case mem0 => rfl
  case a5 => rfl
  case a6 => rfl
  case a7 => rfl
 case round =>
  rintro nn g M ⟨k, v, l, L, c, ⟨hg5, hg6, hg7⟩, rfl, hmeas, ⟨hk, hO, hD, hlen, hcb, hdv⟩⟩
  subst nn
  simp only [setG, hg5, hg6, hg7]
  clear hg5 hg6 hg7
  refine Sq fun K6 J6 => Sq fun K7 J7 => Rk fun K J => sE rfl (sE rfl (sQ (dX_ sl_81 rfl hva.old) rfl (sE rfl (nl J (J7 _ _ ?_)))))
  refine a6_ _ rfl (fun hc => ?_) (fun hc => ?_)
  ·(try simp only [decide_eq_true_eq, decide_eq_false_iff_not, beq_iff_eq, bne_iff_ne, beq_eq_false_iff_ne, bne_eq_false_iff_eq, Bool.not_eq_true', Bool.not_eq_false'] at hc)
   have hc : k < la.length := by omega
   refine ak_ (J6 _ _ (Sq fun K8 J8 => ar_ (Sq fun K9 J9 => dr sn [0,4,8,12,16,20,24,28,32,36,40] [] mix (by kernel_rfl) (fun K J => pE rfl (pE rfl (pQ rfl (ha_ sl_81 rfl rfl hva.old (by omega)) (pQ rfl (fC_ ty_3 rfl hva.old (by omega)) (pE rfl (pE rfl (pQ rfl (bU_ hx_ rfl (fun w hw => bY_ vb lb k w (SL.sl (M := _) hvb.old hw))) (pE rfl (pE rfl (pQ rfl (q_as (q_sub rfl rfl) (congrArg (Value.int .i64) ((show _ = ((dg (dv la) k : Nat) : Int) - ((dg (dv lb) k : Nat) : Int) - (c : Int) by rw [eh_ la k hDa, eh_ lb k hDb]; exact sub3 (dg_lt _ _) (dg_lt _ _) hcb)))) (pE rfl (fl J (J9 _ _ (Sq fun K10 J10 => ?_)))))))))))))))))
   refine Rk fun K J => sE rfl (nl J (J10 _ _ (Sq fun K11 J11 => Sq fun K12 J12 => Rk fun K J => sE rfl (sE rfl (nl J (J12 _ _ ?_))))))
   refine a6_ _ rfl (fun h26 => ?_) (fun h26 => ?_)
   ·(try simp only [decide_eq_true_eq, decide_eq_false_iff_not, beq_iff_eq, bne_iff_ne, beq_eq_false_iff_ne, bne_eq_false_iff_eq, Bool.not_eq_true', Bool.not_eq_false'] at h26)
    refine Sq fun K13 J13 => Rk fun K J => sE rfl (sE rfl (sE rfl (nl J (J13 _ _ (Rk fun K J => sE rfl (nl J (J11 _ _ (Rk fun K J => sE rfl (sQ (q_as (c5_ rfl) (show _ = IV (md (dg (dv la) k) (dg (dv lb) k) c) by first | exact po_ (dg_lt _ _) (dg_lt _ _) hcb h26 | exact pM_ h26)) rfl ?_)))))))))
    refine WL_r rfl (cv_ us_81 z_3 sz_3 rfl (by decide) rfl (hv_ _) (fun b31 hb31 => WL_r rfl (hg_ us_81 on_3 rfl rfl hO (SL.mine (l := [md (dg (dv la) k) (dg (dv lb) k) c]) (.head _) (Nat.le_refl _)) (List.sublist_cons_self _ _) (by simp; omega) (fun v' L' hO' => ?_))))
    refine sE rfl (nl J (J8 _ _ (Rk fun K J => sE rfl (sQ (q_as (q_add rfl rfl) (congrArg (Value.int .i64) (cV_ (by omega)))) rfl (sE rfl (nl J ?_))))))
    refine ⟨(by repeat first | exact .refl | refine .cons rfl ?_), _, _, (List.Sublist.refl _), (by omega), k + 1, _, _, _, mb (dg (dv la) k) (dg (dv lb) k) c, ⟨?s5, ?s6, ?s7⟩, ?mem, rfl, ⟨by omega, hO', hD.append (DL.one (md_lt (dg_lt _ _) (dg_lt _ _) hcb)), by simp [hlen], mb_le _ _ _, hS_ hlen hcb hdv⟩⟩
    case mem => rfl
    case s5 => rfl
    case s6 => first | exact pc_ h26 | exact pe_ h26
    case s7 => rfl
   ·(try simp only [decide_eq_true_eq, decide_eq_false_iff_not, beq_iff_eq, bne_iff_ne, beq_eq_false_iff_ne, bne_eq_false_iff_eq, Bool.not_eq_true', Bool.not_eq_false'] at h26)
    refine ak_ (J11 _ _ (Rk fun K J => sE rfl (sQ (q_as (c5_ rfl) (show _ = IV (md (dg (dv la) k) (dg (dv lb) k) c) by first | exact po_ (dg_lt _ _) (dg_lt _ _) hcb h26 | exact pM_ h26)) rfl ?_)))
    refine WL_r rfl (cv_ us_81 z_3 sz_3 rfl (by decide) rfl (hv_ _) (fun b31 hb31 => WL_r rfl (hg_ us_81 on_3 rfl rfl hO (SL.mine (l := [md (dg (dv la) k) (dg (dv lb) k) c]) (.head _) (Nat.le_refl _)) (List.sublist_cons_self _ _) (by simp; omega) (fun v' L' hO' => ?_))))
    refine sE rfl (nl J (J8 _ _ (Rk fun K J => sE rfl (sQ (q_as (q_add rfl rfl) (congrArg (Value.int .i64) (cV_ (by omega)))) rfl (sE rfl (nl J ?_))))))
    refine ⟨(by repeat first | exact .refl | refine .cons rfl ?_), _, _, (List.Sublist.refl _), (by omega), k + 1, _, _, _, mb (dg (dv la) k) (dg (dv lb) k) c, ⟨?s5, ?s6, ?s7⟩, ?mem, rfl, ⟨by omega, hO', hD.append (DL.one (md_lt (dg_lt _ _) (dg_lt _ _) hcb)), by simp [hlen], mb_le _ _ _, hS_ hlen hcb hdv⟩⟩
    case mem => rfl
    case s5 => rfl
    case s6 => first | exact pc_ h26 | exact pe_ h26
    case s7 => rfl
  ·(try simp only [decide_eq_true_eq, decide_eq_false_iff_not, beq_iff_eq, bne_iff_ne, beq_eq_false_iff_ne, bne_eq_false_iff_eq, Bool.not_eq_true', Bool.not_eq_false'] at hc)
   obtain rfl : k = la.length := by omega
   refine bB_ (ax_ (ax_ (aF_ (J4 _ _ (Sq fun K14 J14 => Rk fun K J => sE rfl (sQ (bU_ ii_ rfl (fun w hw => ci_ v l hD (by omega) w (SL.sl (hO.sl (List.sublist_append_left _ _)) hw))) rfl (sE rfl (nl J (J14 _ _ (W_ret (ret1 rfl (.inr rfl) rfl ?_)))))))))))
   exact fx_ hD (l0_ hDa hD hlen hle hdv hcb) (hO.slf (List.sublist_append_left _ _))

theorem cE_ (va vb : Value) (la lb : List Nat) (hDa : DL la) (hDb : DL lb) (hna : la.length ≤ 200) (hnb : lb.length ≤ 200) (w : World) (hva : Sl w va la) (hvb : Sl w vb lb) :
    Calls Tryz.prog 123 [va, vb].toArray w (fun e w' => e = .returned (.bool (decide (dv la < dv lb))) ∧ Ext w w') := by
 refine di_ (N := 30) Tryz.func123 rfl rfl (by simp) ?_
 obtain ⟨w0, rfl⟩ : ∃ w0, w0 = w := ⟨_, rfl⟩
 simp only [initF, Nat.reduceAdd]
 refine Sq fun K1 J1 => Rk fun K J => sE rfl (nl J (J1 _ _ (Sq fun K2 J2 => Sq fun K3 J3 => Rk fun K J => sE rfl (sQ (dX_ sl_81 rfl hva.old) rfl (sE rfl (sQ (dX_ sl_81 rfl hvb.old) rfl (sQ (pj_ rfl rfl) rfl (sE rfl (sE rfl (nl J (J3 _ _ (ar_ ?_))))))))))))
 refine bN_ [4, 5, 12, 13, 14, 15, 16, 17, 18, 19, 20, 21, 22, 23, 24, 25, 26, 27, 28, 29] (fun g nn M => ∃ (k : Nat), (g 5 = .int .i64 ((k : Int) - 1)) ∧ M = [] ∧ nn = k + 0 ∧ (k ≤ max la.length lb.length ∧ dv la / 65536 ^ k = dv lb / 65536 ^ k)) (max la.length lb.length) ?start ?round
 case start =>
  refine ⟨_, (List.Sublist.refl _), max la.length lb.length, ?a5, ?mem0, rfl, ⟨Nat.le_refl _, lW_ hDa hDb⟩⟩
  case mem0 => rfl
  case a5 => exact congrArg (Value.int .i64) (aN_ (by unfold I64; omega))
 case round =>
  rintro nn g M ⟨k, hg5, rfl, hmeas, ⟨hk, hd⟩⟩
  subst nn
  simp only [setG, hg5]
  clear hg5
  refine Sq fun K4 J4 => Sq fun K5 J5 => Rk fun K J => sE rfl (sE rfl (nl J (J5 _ _ ?_)))
  refine a6_ _ rfl (fun hc => ?_) (fun hc => ?_)
  ·(try simp only [decide_eq_true_eq, decide_eq_false_iff_not, beq_iff_eq, bne_iff_ne, beq_eq_false_iff_ne, bne_eq_false_iff_eq, Bool.not_eq_true', Bool.not_eq_false'] at hc)
   obtain ⟨m, rfl⟩ : ∃ m, k = m + 1 := ⟨k - 1, by omega⟩
   refine ak_ (J4 _ _ (Sq fun K6 J6 => ar_ (Sq fun K7 J7 => Rk fun K J => sE rfl (sQ (q_as (c5_ rfl) (congrArg (Value.int .i64) (show (((m + 1 : Nat) : Int) - 1) = (m : Int) by omega))) rfl (sQ (bU_ hx_ rfl (fun w hw => bY_ va la m w (SL.sl (M := _) hva.old hw))) rfl (sE rfl (sQ (q_as (c5_ rfl) (congrArg (Value.int .i64) (show (((m + 1 : Nat) : Int) - 1) = (m : Int) by omega))) rfl (sQ (bU_ hx_ rfl (fun w hw => bY_ vb lb m w (SL.sl (M := _) hvb.old hw))) rfl (sE rfl (nl J (J7 _ _ ?_)))))))))))
   refine a6_ _ rfl (fun hne => ?_) (fun hne => ?_)
   ·(try simp only [decide_eq_true_eq, decide_eq_false_iff_not, beq_iff_eq, bne_iff_ne, beq_eq_false_iff_ne, bne_eq_false_iff_eq, Bool.not_eq_true', Bool.not_eq_false'] at hne)
    have hne' : dg (dv la) m ≠ dg (dv lb) m := by rw [← eh_ la m hDa, ← eh_ lb m hDb]; omega
    refine Sq fun K8 J8 => Rk fun K J => sE rfl (sQ (q_as (c5_ rfl) (congrArg (Value.int .i64) (show (((m + 1 : Nat) : Int) - 1) = (m : Int) by omega))) rfl (sQ (bU_ hx_ rfl (fun w hw => bY_ va la m w (SL.sl (M := _) hva.old hw))) rfl (sE rfl (sQ (q_as (c5_ rfl) (congrArg (Value.int .i64) (show (((m + 1 : Nat) : Int) - 1) = (m : Int) by omega))) rfl (sQ (bU_ hx_ rfl (fun w hw => bY_ vb lb m w (SL.sl (M := _) hvb.old hw))) rfl (sE rfl (sE rfl (nl J (J8 _ _ (W_ret (aB_ (ai_ (ai_ (aB_ (ai_ (ret1 rfl (.inr rfl) rfl ?_))))))))))))))))
    (rw [eh_ la m hDa, eh_ lb m hDb]; exact congrArg Value.bool (nt_ hd hne'))
   ·(try simp only [decide_eq_true_eq, decide_eq_false_iff_not, beq_iff_eq, bne_iff_ne, beq_eq_false_iff_ne, bne_eq_false_iff_eq, Bool.not_eq_true', Bool.not_eq_false'] at hne)
    have heq' : dg (dv la) m = dg (dv lb) m := by rw [← eh_ la m hDa, ← eh_ lb m hDb]; omega
    refine ak_ (J6 _ _ (Rk fun K J => sQ (q_as (c5_ rfl) (congrArg (Value.int .i64) (show (((m + 1 : Nat) : Int) - 1) = (m : Int) by omega))) rfl (sE rfl (sE rfl (nl J ?_)))))
    refine ⟨(by repeat first | exact .refl | refine .cons rfl ?_), _, _, (List.Sublist.refl _), (by omega), m, ?s5, ?mem, rfl, ⟨by omega, m4_ hd heq'⟩⟩
    case mem => rfl
    case s5 => exact congrArg (Value.int .i64) (aN_ (n := (m : Int) - 1) (by unfold I64; omega))
  ·(try simp only [decide_eq_true_eq, decide_eq_false_iff_not, beq_iff_eq, bne_iff_ne, beq_eq_false_iff_ne, bne_eq_false_iff_eq, Bool.not_eq_true', Bool.not_eq_false'] at hc)
   obtain rfl : k = 0 := by omega
   refine bB_ (ax_ (ax_ (aF_ (J2 _ _ (Sq fun K9 J9 => Rk fun K J => sE rfl (nl J (J9 _ _ (W_ret (ret1 rfl (.inr rfl) rfl ?_)))))))))
   (simp only [Nat.pow_zero, Nat.div_one] at hd; rw [hd]; exact congrArg Value.bool (decide_eq_false (Nat.lt_irrefl _)).symm)

theorem eq_ (va vb : Value) (la lb : List Nat) (hDa : DL la) (hDb : DL lb) (hna : la.length ≤ 200) (hnb : lb.length ≤ 200) (w : World) (hva : Sl w va la) (hvb : Sl w vb lb) :
    Calls Tryz.prog 125 [va, vb].toArray w (fun e w' => ∃ v, e = .returned v ∧ Ext w w' ∧ Slf w.heap.size w' v (dl (dv la * dv lb))) := by
 refine fm_ (N := 72) Tryz.func125 rfl rfl (by simp) ?_
 obtain ⟨w0, rfl⟩ : ∃ w0, w0 = w := ⟨_, rfl⟩
 simp only [initF, Nat.reduceAdd]
 refine Sq fun K1 J1 => Rk fun K J => sE rfl (nl J (J1 _ _ (Sq fun K2 J2 => Rk fun K J => sE rfl (sQ (dX_ sl_81 rfl hva.old) rfl (sE rfl (sQ (dX_ sl_81 rfl hvb.old) rfl (sQ (q_as (q_add rfl rfl) (congrArg (Value.int .i64) (d2_ (by omega)))) rfl (sQ (q_as (q_add rfl rfl) (congrArg (Value.int .i64) (cV_ (by omega)))) rfl (WL_r rfl (px_ us_81 on_3 z_3 rfl rfl (by omega) (fun b17 hb17 => sE rfl (nl J (J2 _ _ (Sq fun K3 J3 => Sq fun K4 J4 => Rk fun K J => ?_))))))))))))))
 refine sE rfl (nl J (J4 _ _ (ar_ ?_)))
 refine bN_ [6, 7, 8, 9, 10, 18, 19, 20, 21, 22, 23, 24, 25, 26, 27, 28, 29, 30, 31, 32, 33, 34, 35, 36, 37, 38, 39, 40, 41, 42, 43, 44, 45, 46, 47, 48, 49, 50, 51, 52, 53, 54, 55, 56, 57, 58, 59, 60, 61, 62, 63, 64, 65, 66, 67, 68, 69] (fun g nn M => ∃ (i : Nat) (o : List Nat), (g 6 = .int .i64 (i : Int)) ∧ M = [⟨b17, 3, iw o⟩] ∧ nn = la.length - i ∧ (i ≤ la.length ∧ DL o ∧ o.length = (la.length + lb.length + 1) ∧ dv o = dv la % 65536 ^ i * dv lb)) (la.length - 0) ?start ?round
 case start =>
  refine ⟨_, (List.Sublist.refl _), 0, List.replicate (la.length + lb.length + 1) 0, ?a6, ?mem0, rfl, ⟨Nat.zero_le _, fun d hd => by rw [List.eq_of_mem_replicate hd]; decide, by simp, by rw [hP_, Nat.pow_zero, Nat.mod_one, Nat.zero_mul]⟩⟩
  case mem0 => rfl
  case a6 => rfl
 case round =>
  rintro nn g M ⟨i, o, hg6, rfl, hmeas, ⟨hi, hDo, hlo, hdv⟩⟩
  subst nn
  simp only [setG, hg6]
  clear hg6
  refine Sq fun K5 J5 => Sq fun K6 J6 => Rk fun K J => sE rfl (sE rfl (sQ (dX_ sl_81 rfl hva.old) rfl (sE rfl (nl J (J6 _ _ ?_)))))
  refine a6_ _ rfl (fun hc => ?_) (fun hc => ?_)
  ·(try simp only [decide_eq_true_eq, decide_eq_false_iff_not, beq_iff_eq, bne_iff_ne, beq_eq_false_iff_ne, bne_eq_false_iff_eq, Bool.not_eq_true', Bool.not_eq_false'] at hc)
   have hc : i < la.length := by omega
   refine ak_ (J5 _ _ (Sq fun K7 J7 => ar_ (Sq fun K8 J8 => Sq fun K9 J9 => Rk fun K J => sE rfl (nl J (J9 _ _ (ar_ ?_))))))
   refine bN_ [7, 24, 25, 26, 27, 28, 29, 30, 31, 32, 33, 34, 35, 36, 37, 38, 39, 40, 41, 42, 43, 44, 45, 46, 47, 48, 49, 50] (fun g nn M => ∃ (k : Nat) (l : List Nat), (g 7 = .int .i64 (k : Int)) ∧ M = [⟨b17, 3, iw l⟩] ∧ nn = lb.length - k ∧ (k ≤ lb.length ∧ RowIn (la.length + lb.length + 1) (dv lb) i (dg (dv la) i) o k l)) (lb.length - 0) ?start ?round
   case start =>
    refine ⟨_, (List.Sublist.refl _), 0, o, ?a7, ?mem0, rfl, ⟨Nat.zero_le _, RowIn.start _ _ _ hDo hlo⟩⟩
    case mem0 => rfl
    case a7 => rfl
   case round =>
    rintro nn g M ⟨k, l, hg7, rfl, hmeas, ⟨hkl, hR⟩⟩
    subst nn
    simp only [setG, hg7]
    clear hg7
    refine Sq fun K10 J10 => Sq fun K11 J11 => Rk fun K J => sE rfl (sE rfl (sQ (dX_ sl_81 rfl hvb.old) rfl (sE rfl (nl J (J11 _ _ ?_)))))
    refine a6_ _ rfl (fun hk2 => ?_) (fun hk2 => ?_)
    ·(try simp only [decide_eq_true_eq, decide_eq_false_iff_not, beq_iff_eq, bne_iff_ne, beq_eq_false_iff_ne, bne_eq_false_iff_eq, Bool.not_eq_true', Bool.not_eq_false'] at hk2)
     have hk2 : k < lb.length := by omega
     refine ak_ (J10 _ _ (Sq fun K12 J12 => ar_ (dr sn [0,4,8,12,16,20,24,28,32,36,40,44,48,52,56,60,64,68,72,76,80,85] [21] mix (by kernel_rfl) (fun K J => pE rfl (pE rfl (pE rfl (pQ rfl (q_as (q_add rfl rfl) (congrArg (Value.int .i64) (d2_ (by omega)))) (pE rfl (pE rfl (pE rfl (pQ rfl (q_as (q_add rfl rfl) (congrArg (Value.int .i64) (d2_ (by omega)))) (pQ rfl (hW_ sl_81 rfl rfl (by omega) (by omega)) (pQ rfl (bf_ ty_3 rfl (by repeat (first | exact .head _ | apply List.mem_append_right | apply List.Mem.tail)) (iwAt (by rw [hR.len]; omega))) ?_)))))))))))))
     refine pE rfl (pE rfl (pQ rfl (ha_ sl_81 rfl rfl hva.old (by omega)) (pQ rfl (fC_ ty_3 rfl hva.old (by omega)) (pE rfl (pE rfl (pQ rfl (ha_ sl_81 rfl rfl hvb.old (by omega)) (pQ rfl (fC_ ty_3 rfl hvb.old (by omega)) (pE rfl (pQ rfl (q_as (q_add rfl rfl) (show _ = IV (l.getD (i + k) 0 + dg (dv la) i * dg (dv lb) k) by rw [eh_ la i hDa, eh_ lb k hDb]; exact p2_ (hR.high _ (Nat.le_refl _)) (dg_lt _ _) (dg_lt _ _))) (pQ rfl (hW_ sl_81 rfl rfl (by omega) (by omega)) ?_))))))))))
     refine PL_o rfl rfl (i2_ ty_3 rfl rfl (by repeat (first | exact .head _ | apply Upd.left | apply Upd.tail)) (by rw [hR.len]; omega) (.inl (by assumption)) ⟨nf, (by repeat (first | exact s0 | exact sn | refine sk ?_ | refine sd ?_ | refine sA ?_ | refine sR ?_)), ?_⟩)
     refine fl J (J12 _ _ (Rk fun K J => sE rfl (sQ (q_as (q_add rfl rfl) (congrArg (Value.int .i64) (cV_ (by omega)))) rfl (sE rfl (nl J ?_)))))
     refine ⟨(by repeat first | exact .refl | refine .cons rfl ?_), _, _, (List.Sublist.refl _), (by omega), k + 1, _, ?s7, ?mem, rfl, ⟨by omega, hR.step (by omega) (dg_lt _ _)⟩⟩
     case mem => rfl
     case s7 => rfl
    ·(try simp only [decide_eq_true_eq, decide_eq_false_iff_not, beq_iff_eq, bne_iff_ne, beq_eq_false_iff_ne, bne_eq_false_iff_eq, Bool.not_eq_true', Bool.not_eq_false'] at hk2)
     obtain rfl : k = lb.length := by omega
     refine bB_ (ax_ (ax_ (aF_ (J8 _ _ (Sq fun K13 J13 => Rk fun K J => sE rfl (nl J (J13 _ _ (Sq fun K14 J14 => Rk fun K J => sE rfl (nl J (J14 _ _ (ar_ ?_)))))))))))
     refine bN_ [8, 9, 10, 51, 52, 53, 54, 55, 56, 57, 58, 59, 60, 61, 62, 63, 64, 65, 66, 67, 68, 69] (fun g nn M => ∃ (m : Nat) (l : List Nat) (c : Nat), (g 8 = .int .i64 (c : Int) ∧ g 9 = .int .i64 (m : Int)) ∧ M = [⟨b17, 3, iw l⟩] ∧ nn = (la.length + lb.length + 1) - m ∧ (m ≤ (la.length + lb.length + 1) ∧ CarryIn (la.length + lb.length + 1) (dv o + 65536 ^ i * (dg (dv la) i * (dv lb % 65536 ^ lb.length))) m l c)) ((la.length + lb.length + 1) - 0) ?start ?round
     case start =>
      refine ⟨_, (List.Sublist.refl _), 0, l, 0, ⟨?a8, ?a9⟩, ?mem0, rfl, ⟨Nat.zero_le _, hR.done⟩⟩
      case mem0 => rfl
      case a8 => rfl
      case a9 => rfl
     case round =>
      rintro nn g M ⟨m, l, c, ⟨hg8, hg9⟩, rfl, hmeas, ⟨hml, hC⟩⟩
      subst nn
      simp only [setG, hg8, hg9]
      clear hg8 hg9
      refine Sq fun K15 J15 => Sq fun K16 J16 => Rk fun K J => sE rfl (sE rfl (sQ (q_len sl_81 rfl) rfl (sE rfl (nl J (J16 _ _ ?_)))))
      refine a6_ _ rfl (fun hm2 => ?_) (fun hm2 => ?_)
      ·(try simp only [decide_eq_true_eq, decide_eq_false_iff_not, beq_iff_eq, bne_iff_ne, beq_eq_false_iff_ne, bne_eq_false_iff_eq, Bool.not_eq_true', Bool.not_eq_false'] at hm2)
       have hm2 : m < (la.length + lb.length + 1) := by omega
       refine ak_ (J15 _ _ (Sq fun K17 J17 => ar_ (Sq fun K18 J18 => Rk fun K J => sE rfl (sE rfl (sQ (hW_ sl_81 rfl rfl (by omega) (by omega)) rfl (sQ (bf_ ty_3 rfl (by repeat (first | exact .head _ | apply List.mem_append_right | apply List.Mem.tail)) (iwAt (by rw [hC.len]; omega))) rfl ?_))))))
       refine sE rfl (sQ (q_as (q_add rfl rfl) (congrArg (Value.int .i64) (addI (by have := hC.low m; have := hC.clt; omega)))) rfl (sE rfl (nl J (J18 _ _ (Sq fun K19 J19 => Rk fun K J => sE rfl (sE rfl (sE rfl (sQ (q_as (q_rem rfl rfl (by decide)) (remI _)) rfl (sQ (hW_ sl_81 rfl rfl (by omega) (by omega)) rfl (WL_r rfl (i2_ ty_3 rfl rfl (by repeat (first | exact .head _ | apply Upd.left | apply Upd.tail)) (by rw [hC.len]; omega) (.inl (by assumption)) ?_)))))))))))
       refine nl J (J19 _ _ (Rk fun K J => sE rfl (sQ (q_as (q_quo rfl rfl (by decide)) (congrArg (Value.int .i64) (quoI (by have := hC.low m; have := hC.clt; omega)))) rfl (sE rfl (nl J (J17 _ _ (Rk fun K J => sE rfl (sQ (q_as (q_add rfl rfl) (congrArg (Value.int .i64) (cV_ (by omega)))) rfl (sE rfl (nl J ?_))))))))))
       refine ⟨(by repeat first | exact .refl | refine .cons rfl ?_), _, _, (List.Sublist.refl _), (by omega), m + 1, _, _, ⟨?s8, ?s9⟩, ?mem, rfl, ⟨by omega, hC.step (by omega)⟩⟩
       case mem => rfl
       case s8 => rfl
       case s9 => rfl
      ·(try simp only [decide_eq_true_eq, decide_eq_false_iff_not, beq_iff_eq, bne_iff_ne, beq_eq_false_iff_ne, bne_eq_false_iff_eq, Bool.not_eq_true', Bool.not_eq_false'] at hm2)
       obtain rfl : m = (la.length + lb.length + 1) := by omega
       have hT : (dv o + 65536 ^ i * (dg (dv la) i * (dv lb % 65536 ^ lb.length))) = dv la % 65536 ^ (i + 1) * dv lb := by rw [hdv]; exact m7_ (dv_lt lb hDb)
       have hF := hC.fin (by rw [hT]; exact oj_ (by omega) (dv_lt lb hDb))
       rw [hT] at hF
       refine bB_ (ax_ (ax_ (aF_ (J7 _ _ (Rk fun K J => sE rfl (sQ (q_as (q_add rfl rfl) (congrArg (Value.int .i64) (cV_ (by omega)))) rfl (sE rfl (nl J ?_))))))))
       refine ⟨(by repeat first | exact .refl | refine .cons rfl ?_), _, _, (List.Sublist.refl _), (by omega), i + 1, _, ?s6, ?mem, rfl, ⟨by omega, hF⟩⟩
       case mem => rfl
       case s6 => rfl
  ·(try simp only [decide_eq_true_eq, decide_eq_false_iff_not, beq_iff_eq, bne_iff_ne, beq_eq_false_iff_ne, bne_eq_false_iff_eq, Bool.not_eq_true', Bool.not_eq_false'] at hc)
   obtain rfl : i = la.length := by omega
   refine bB_ (ax_ (ax_ (aF_ (J3 _ _ (Sq fun K20 J20 => Rk fun K J => sE rfl (sQ (bU_ ii_ rfl (fun w hw => ci_ _ o hDo (by omega) w (SL.sl (SL.mine' (.head _) hlo (Nat.le_refl _)) hw))) rfl (sE rfl (nl J (J20 _ _ (W_ret (ret1 rfl (.inr rfl) rfl ?_)))))))))))
   exact fx_ hDo (by rw [hdv, Nat.mod_eq_of_lt (dv_lt la hDa)]) (SLf.mine hb17 (.head _) hlo (Nat.le_refl _))

theorem dB_ (va : Value) (la : List Nat) (k : Int) (w : World) (hva : Sl w va la) :
    Calls Tryz.prog 131 [va, .int .i64 k].toArray w (fun e w' => e = .returned (.int .i64 ((atD la k : Nat) : Int)) ∧ Ext w w') := by
 refine di_ (N := 10) Tryz.func131 rfl rfl (by simp) ?_
 obtain ⟨w0, rfl⟩ : ∃ w0, w0 = w := ⟨_, rfl⟩
 simp only [initF, Nat.reduceAdd]
 refine Sq fun K1 J1 => Rk fun K J => sE rfl (nl J (J1 _ _ (Sq fun K2 J2 => Sq fun K3 J3 => Rk fun K J => sE rfl (sE rfl (nl J (J3 _ _ ?_))))))
 refine a6_ _ rfl (fun h0 => ?_) (fun h0 => ?_)
 ·(try simp only [decide_eq_true_eq, decide_eq_false_iff_not, beq_iff_eq, bne_iff_ne, beq_eq_false_iff_ne, bne_eq_false_iff_eq, Bool.not_eq_true', Bool.not_eq_false'] at h0)
  refine Sq fun K4 J4 => Rk fun K J => sE rfl (nl J (J4 _ _ (W_ret (ai_ (ret1 rfl (.inr rfl) rfl ?_)))))
  (rw [qP_ h0]; rfl)
 ·(try simp only [decide_eq_true_eq, decide_eq_false_iff_not, beq_iff_eq, bne_iff_ne, beq_eq_false_iff_ne, bne_eq_false_iff_eq, Bool.not_eq_true', Bool.not_eq_false'] at h0)
  refine ak_ (J2 _ _ (Sq fun K5 J5 => Rk fun K J => sE rfl (sQ (q_as (c5_ rfl) (show _ = Value.int .i64 ((k.toNat : Nat) : Int) from congrArg (Value.int .i64) (by omega))) rfl (sQ (bU_ hx_ rfl (fun w hw => bY_ va la k.toNat w (SL.sl (M := _) hva.old hw))) rfl (sE rfl (nl J (J5 _ _ (W_ret (ret1 rfl (.inr rfl) rfl ?_)))))))))
  rw [pU_ h0]

theorem ew_ (n : Int) :
    Ret Tryz.prog 124 [.int .i64 n] (.bool (decide (n < 2147483648) && decide (-2147483648 < n))) := by
 refine av_ (N := 9) Tryz.func124 rfl rfl (by simp) (fun w0 => ?_)
 simp only [initF, Nat.reduceAdd]
 refine Sq fun K1 J1 => Rk fun K J => sE rfl (nl J (J1 _ _ (Sq fun K2 J2 => Rk fun K J => sE rfl (sE rfl (sE rfl ?_)))))
 cases h1 : decide (n < 2147483648)
 ·skip
  refine WL_n rfl (WL_n rfl (sE rfl (sE rfl (nl J (J2 _ _ (W_ret (ret1 rfl (.inr rfl) rfl ?_)))))))
  simp [*]
 ·skip
  refine sE rfl (sE rfl (sE rfl (sE rfl (nl J (J2 _ _ (W_ret (ret1 rfl (.inr rfl) rfl ?_)))))))
  simp [*]

theorem el_ (n m : Int) (hn : I64 n) (hnm : n ≠ -9223372036854775808) (hm : m ≠ 0) :
    Ret Tryz.prog 89 [.int .i64 n, .int .i64 m] (.int .i64 (n.fdiv m)) := by
 refine av_ (N := 23) Tryz.func89 rfl rfl (by simp) (fun w0 => ?_)
 simp only [initF, Nat.reduceAdd]
 refine Sq fun K1 J1 => Rk fun K J => sE rfl (nl J (J1 _ _ (Sq fun K2 J2 => Rk fun K J => sE rfl (sE rfl (sQ (q_as (q_quo rfl rfl hm) (congrArg (Value.int .i64) (aN_ (nH_ hn hnm)))) rfl (sE rfl (nl J (J2 _ _ (Sq fun K3 J3 => Sq fun K4 J4 => Rk fun K J => sE rfl (sE rfl (sQ (q_rem rfl rfl hm) rfl (sE rfl ?_))))))))))))
 refine sE rfl ?_
 cases h0 : (n.tmod m != 0)
 ·skip
  refine WL_n rfl (WL_n rfl (WL_n rfl (WL_n rfl (WL_n rfl (sE rfl (nl J (J4 _ _ (by_ rfl (ak_ (J3 _ _ (Sq fun K5 J5 => Rk fun K J => sE rfl (sE rfl (nl J (J5 _ _ (W_ret (ret1 rfl (.inr rfl) rfl ?_))))))))))))))))
  exact congrArg (Value.int .i64) (ir_ hm (.inl (by simpa using h0))).1.symm
 ·skip
  refine sE rfl (sE rfl (sE rfl (sE rfl (sQ (fw_ bo_4 rfl rfl) rfl (sE rfl (nl J (J4 _ _ ?_)))))))
  refine a6_ _ rfl (fun hs => ?_) (fun hs => ?_)
  ·(try simp only [decide_eq_true_eq, decide_eq_false_iff_not, beq_iff_eq, bne_iff_ne, beq_eq_false_iff_ne, bne_eq_false_iff_eq, Bool.not_eq_true', Bool.not_eq_false'] at hs)
   refine Rk fun K J => sE rfl (sQ (q_as (q_sub rfl rfl) (congrArg (Value.int .i64) (aN_ (o7_ hn hnm)))) rfl (sE rfl (nl J (J3 _ _ (Sq fun K6 J6 => Rk fun K J => sE rfl (sE rfl (nl J (J6 _ _ (W_ret (ret1 rfl (.inr rfl) rfl ?_))))))))))
   exact congrArg (Value.int .i64) (nx_ hm (by simpa using h0) (bne_iff_ne.2 (by rw [j0_ (by simpa using h0)]; exact hs))).1.symm
  ·(try simp only [decide_eq_true_eq, decide_eq_false_iff_not, beq_iff_eq, bne_iff_ne, beq_eq_false_iff_ne, bne_eq_false_iff_eq, Bool.not_eq_true', Bool.not_eq_false'] at hs)
   refine ak_ (J3 _ _ (Sq fun K7 J7 => Rk fun K J => sE rfl (sE rfl (nl J (J7 _ _ (W_ret (ret1 rfl (.inr rfl) rfl ?_)))))))
   exact congrArg (Value.int .i64) (ir_ hm (.inr (by rw [j0_ (by simpa using h0)]; simpa using hs))).1.symm
end Go.Proofs.YtapbefpeopaecaaGreatDoor

namespace Go.Proofs.YtapbefpeopaecaaGreatDoor
open Go.Kn Go.Num
set_option linter.unusedVariables false
set_option linter.unusedSimpArgs false
set_option maxRecDepth 20000
set_option maxHeartbeats 8000000
theorem bI_ (a : R) (ha : a.Ok) :
    Ret Tryz.prog 88 [RV a] (.tuple #[.int .i64 (wordI a), .bool (wordB a)]) := by
 refine av_ (N := 41) Tryz.func88 rfl rfl (by simp) (fun w0 => ?_)
 simp only [initF, Nat.reduceAdd]
 refine Sq fun K1 J1 => Rk fun K J => WL_r rfl (r_box rfl rfl (fun b1 hb1 => sE rfl (sE rfl (nl J (J1 _ _ (Sq fun K2 J2 => Rk fun K J => sQ (aS_ ty_37 rfl (by repeat (first | exact .head _ | apply List.mem_append_right | apply List.Mem.tail)) (aQ_ ha)) rfl ?_))))))
 refine sQ (q_ret en_86 (aH_ a ha) rfl) rfl (sE rfl (nl J (J2 _ _ (Sq fun K3 J3 => Sq fun K4 J4 => Rk fun K J => sE rfl (sE rfl (sE rfl ?_))))))
 cases hg : a.good
 ·skip
  refine WL_n rfl (WL_n rfl (WL_n rfl (WL_n rfl (sE rfl (nl J (J4 _ _ (bF_ rfl (Sq fun K5 J5 => Rk fun K J => sE rfl (sE rfl (nl J (J5 _ _ (W_ret (ai_ (ret2 rfl (.inr rfl) rfl rfl ?_))))))))))))))
  exact mA_ hg
 ·skip
  refine sQ (aW_ bv_ (by decide) rfl) rfl (sQ (bM_ ar_35 rfl rfl (by decide) (by decide)) rfl (sQ (bf_ ty_34 rfl (by repeat (first | exact .head _ | apply List.mem_append_right | apply List.Mem.tail)) (dC_ (r := a) (k := 1) (by rw [ha.len]; decide))) rfl ?_))
  refine sE rfl (sE rfl (nl J (J4 _ _ ?_)))
  refine a6_ _ rfl (fun h16 => ?_) (fun h16 => ?_)
  ·(try simp only [decide_eq_true_eq, decide_eq_false_iff_not, beq_iff_eq, bne_iff_ne, beq_eq_false_iff_ne, bne_eq_false_iff_eq, Bool.not_eq_true', Bool.not_eq_false'] at h16)
   refine Sq fun K6 J6 => Rk fun K J => sE rfl (sE rfl (nl J (J6 _ _ (W_ret (ai_ (ret2 rfl (.inr rfl) rfl rfl ?_))))))
   exact ln_ (oQ_ ha h16)
  ·(try simp only [decide_eq_true_eq, decide_eq_false_iff_not, beq_iff_eq, bne_iff_ne, beq_eq_false_iff_ne, bne_eq_false_iff_eq, Bool.not_eq_true', Bool.not_eq_false'] at h16)
   refine ak_ (J3 _ _ (Sq fun K7 J7 => Sq fun K8 J8 => Rk fun K J => sE rfl (nl J (J8 _ _ (ar_ ?_)))))
   refine bN_ [2, 3, 5, 17, 18, 19, 20, 21, 22, 23, 24, 25] (fun g nn M => ∃ (k : Nat), (g 5 = .int .i64 (k : Int)) ∧ M = [⟨b1, 37, a.cells⟩] ∧ nn = 16 - k ∧ (2 ≤ k ∧ k ≤ 16 ∧ ∀ j, 2 ≤ j → j < k → a.w.getD j 0 = 0)) (14) ?start ?round
   case start =>
    refine ⟨_, (List.Sublist.refl _), 2, ?a5, ?mem0, rfl, ⟨Nat.le_refl _, by decide, fun j h1 h2 => by omega⟩⟩
    case mem0 => rfl
    case a5 => rfl
   case round =>
    rintro nn g M ⟨k, hg5, rfl, hmeas, ⟨hk2, hk, hz⟩⟩
    subst nn
    simp only [setG, hg5]
    clear hg5
    refine Sq fun K9 J9 => Sq fun K10 J10 => Rk fun K J => sE rfl (sE rfl (nl J (J10 _ _ ?_)))
    refine a6_ _ rfl (fun hc => ?_) (fun hc => ?_)
    ·(try simp only [decide_eq_true_eq, decide_eq_false_iff_not, beq_iff_eq, bne_iff_ne, beq_eq_false_iff_ne, bne_eq_false_iff_eq, Bool.not_eq_true', Bool.not_eq_false'] at hc)
     have hc : k < 16 := by omega
     refine ak_ (J9 _ _ (Sq fun K11 J11 => ar_ (Sq fun K12 J12 => Rk fun K J => sE rfl (sQ (aW_ bv_ (by decide) rfl) rfl (sQ (bM_ ar_35 rfl rfl (by omega) (by omega)) rfl (sQ (bf_ ty_34 rfl (by repeat (first | exact .head _ | apply List.mem_append_right | apply List.Mem.tail)) (dC_ (r := a) (k := k) (by rw [ha.len]; omega))) rfl ?_))))))
     refine sE rfl (nl J (J12 _ _ ?_))
     refine a6_ _ rfl (fun hz2 => ?_) (fun hz2 => ?_)
     ·(try simp only [decide_eq_true_eq, decide_eq_false_iff_not, beq_iff_eq, bne_iff_ne, beq_eq_false_iff_ne, bne_eq_false_iff_eq, Bool.not_eq_true', Bool.not_eq_false'] at hz2)
      refine Sq fun K13 J13 => Rk fun K J => sE rfl (sE rfl (nl J (J13 _ _ (W_ret (aB_ (ai_ (ai_ (aB_ (ai_ (ret2 rfl (.inr rfl) rfl rfl ?_))))))))))
      exact ln_ (mB_ ha hk2 (by omega))
     ·(try simp only [decide_eq_true_eq, decide_eq_false_iff_not, beq_iff_eq, bne_iff_ne, beq_eq_false_iff_ne, bne_eq_false_iff_eq, Bool.not_eq_true', Bool.not_eq_false'] at hz2)
      refine ak_ (J11 _ _ (Rk fun K J => sE rfl (sQ (q_as (q_add rfl rfl) (congrArg (Value.int .i64) (cV_ (by omega)))) rfl (sE rfl (nl J ?_)))))
      refine ⟨(by repeat first | exact .refl | refine .cons rfl ?_), _, _, (List.Sublist.refl _), (by omega), k + 1, ?s5, ?mem, rfl, ⟨by omega, by omega, fun j h1 h2 => by rcases Nat.eq_or_lt_of_le (Nat.le_of_lt_succ h2) with rfl | h3; omega; exact hz j h1 h3⟩⟩
      case mem => rfl
      case s5 => rfl
    ·(try simp only [decide_eq_true_eq, decide_eq_false_iff_not, beq_iff_eq, bne_iff_ne, beq_eq_false_iff_ne, bne_eq_false_iff_eq, Bool.not_eq_true', Bool.not_eq_false'] at hc)
     obtain rfl : k = 16 := by omega
     have hws := kW_ ha (by omega) hz
     refine bB_ (ax_ (ax_ (aF_ (J7 _ _ (Sq fun K14 J14 => Rk fun K J => sQ (aW_ bv_ (by decide) rfl) rfl (sQ (bM_ ar_35 rfl rfl (by decide) (by decide)) rfl (sQ (bf_ ty_34 rfl (by repeat (first | exact .head _ | apply List.mem_append_right | apply List.Mem.tail)) (dC_ (r := a) (k := 1) (by rw [ha.len]; decide))) rfl ?_)))))))
     refine sQ (bt_ in_34 in_3 rfl) rfl (sE rfl (sQ (aW_ bv_ (by decide) rfl) rfl (sQ (bM_ ar_35 rfl rfl (by decide) (by decide)) rfl (sQ (bf_ ty_34 rfl (by repeat (first | exact .head _ | apply List.mem_append_right | apply List.Mem.tail)) (dC_ (r := a) (k := 0) (by rw [ha.len]; decide))) rfl ?_))))
     refine sQ (bt_ in_34 in_3 rfl) rfl (sQ (q_as (q_add rfl rfl) (congrArg (Value.int .i64) ((kW_ ha (by omega) hz).1))) rfl (sE rfl (nl J (J14 _ _ (Sq fun K15 J15 => Sq fun K16 J16 => Rk fun K J => sQ (aW_ bq_ (by decide) rfl) rfl (sQ (bf_ ty_4 rfl (by repeat (first | exact .head _ | apply List.mem_append_right | apply List.Mem.tail)) rfl) rfl ?_))))))
     refine nl J (J16 _ _ ?_)
     refine a6_ _ rfl (fun hn => ?_) (fun hn => ?_)
     ·(try simp only [decide_eq_true_eq, decide_eq_false_iff_not, beq_iff_eq, bne_iff_ne, beq_eq_false_iff_ne, bne_eq_false_iff_eq, Bool.not_eq_true', Bool.not_eq_false'] at hn)
      refine Sq fun K17 J17 => Rk fun K J => sE rfl (sE rfl (sE rfl (sE rfl (nl J (J17 _ _ (W_ret (ai_ (ret2 rfl (.inr rfl) rfl rfl ?_))))))))
      exact n5_ hg hws.2 hn
     ·(try simp only [decide_eq_true_eq, decide_eq_false_iff_not, beq_iff_eq, bne_iff_ne, beq_eq_false_iff_ne, bne_eq_false_iff_eq, Bool.not_eq_true', Bool.not_eq_false'] at hn)
      refine ak_ (J15 _ _ (Sq fun K18 J18 => Rk fun K J => sE rfl (sE rfl (sE rfl (nl J (J18 _ _ (W_ret (ret2 rfl (.inr rfl) rfl rfl ?_))))))))
      exact ou_ hg hws.2 hn

theorem a9_ (n : Int) (hn : I64 n) :
    Ret Tryz.prog 74 [.int .i64 n] (RV (Z.of n).enc) := by
 refine av_ (N := 35) Tryz.func74 rfl rfl (by simp) (fun w0 => ?_)
 simp only [initF, Nat.reduceAdd]
 unfold I64 at hn
 refine Sq fun K1 J1 => Rk fun K J => WL_r rfl (bl_ z_37 (fun b2 hb2 => nl J (J1 _ _ (Sq fun K2 J2 => Sq fun K3 J3 => Rk fun K J => sE rfl (sE rfl (nl J (J3 _ _ ?_)))))))
 refine a6_ _ rfl (fun h0 => ?_) (fun h0 => ?_)
 ·(try simp only [decide_eq_true_eq, decide_eq_false_iff_not, beq_iff_eq, bne_iff_ne, beq_eq_false_iff_ne, bne_eq_false_iff_eq, Bool.not_eq_true', Bool.not_eq_false'] at h0)
  obtain ⟨m, rfl⟩ : ∃ m : Nat, n = m := ⟨n.toNat, by omega⟩
  refine Sq fun K4 J4 => Rk fun K J => sE rfl (sQ (q_as (q_rem rfl rfl (by decide)) (show _ = IV (m % 65536) from remI _)) rfl (sE rfl (sQ (q_as (q_quo rfl rfl (by decide)) (quo_c 65536 (by omega))) rfl (sQ (q_as (q_rem rfl rfl (by decide)) (show _ = IV (m / 65536 % 65536) from remI _)) rfl (sE rfl (sQ (q_as (q_quo rfl rfl (by decide)) (quo_c 4294967296 (by omega))) rfl (sQ (q_as (q_rem rfl rfl (by decide)) (show _ = IV (m / 4294967296 % 65536) from remI _)) rfl (sE rfl (sQ (q_as (q_quo rfl rfl (by decide)) (quo_c 281474976710656 (by omega))) rfl (WL_r rfl (cv_ us_81 z_3 sz_3 rfl (by decide) rfl (o9_ _ _ _ _) (fun b16 hb16 => sQ (bU_ en_93 rfl (fun w hw => a7_ false _ (dl4 m) (pJ_ (by omega)) (by simp [dl4]) w (SL.sl (SL.mine (l := dl4 m) (.head _) (Nat.le_refl _)) hw))) rfl ?_))))))))))))
  refine WL_r rfl (aG_ ty_37 rfl rfl (by repeat (first | exact .head _ | apply Upd.left | apply Upd.tail)) (ag_ _) rfl (at_ _) (.inl (by assumption)) ?_)
  refine nl J (J4 _ _ (W_ret (ai_ (ret1 rfl (.inr rfl) ⟨_, _, _, _, _, _, rfl, (by repeat (first | exact .head _ | apply List.mem_append_right | apply List.Mem.tail)), ty_37, _, (bd_ (ag_ _)), (ag_ _), rfl⟩ ?_))))
  (rw [mf_, sgn_f]; rfl)
 ·(try simp only [decide_eq_true_eq, decide_eq_false_iff_not, beq_iff_eq, bne_iff_ne, beq_eq_false_iff_ne, bne_eq_false_iff_eq, Bool.not_eq_true', Bool.not_eq_false'] at h0)
  obtain ⟨m, rfl⟩ : ∃ m : Nat, n = -((m : Int) + 1) := ⟨(-n - 1).toNat, by omega⟩
  refine ak_ (J2 _ _ (Sq fun K5 J5 => Rk fun K J => sE rfl (sE rfl (sQ (q_as (q_neg rfl) (congrArg (Value.int .i64) (qa_ (by omega)))) rfl (sE rfl (nl J (J5 _ _ (Sq fun K6 J6 => Rk fun K J => sE rfl (sQ (q_as (q_rem rfl rfl (by decide)) (show _ = IV (m % 65536) from remI _)) rfl (sE rfl (sQ (q_as (q_quo rfl rfl (by decide)) (quo_c 65536 (by omega))) rfl (sQ (q_as (q_rem rfl rfl (by decide)) (show _ = IV (m / 65536 % 65536) from remI _)) rfl (sE rfl (sQ (q_as (q_quo rfl rfl (by decide)) (quo_c 4294967296 (by omega))) rfl (sQ (q_as (q_rem rfl rfl (by decide)) (show _ = IV (m / 4294967296 % 65536) from remI _)) rfl ?_)))))))))))))))
  refine sE rfl (sQ (q_as (q_quo rfl rfl (by decide)) (quo_c 281474976710656 (by omega))) rfl (WL_r rfl (cv_ us_81 z_3 sz_3 rfl (by decide) rfl (o9_ _ _ _ _) (fun b31 hb31 => WL_r rfl (cv_ us_81 z_3 sz_3 rfl (by decide) rfl (hv_ 1) (fun b32 hb32 => WL_r rfl (bP_ ng_ rfl (fun w hw => dT_ _ _ (dl4 m) [1] (pJ_ (by omega)) (DL.one (by decide)) (by simp [dl4]) (by simp) w (SL.sl (SL.mine (l := dl4 m) (.tail _ (.head _)) (Nat.le_refl _)) hw) (SL.sl (SL.mine (l := [1]) (.head _) (Nat.le_refl _)) hw)) (fun v9 L9 h9 => ?_))))))))
  refine sQ (bU_ en_93 rfl (fun w hw => a7_ true _ _ (dl_DL _) (Nat.le_trans (cB_ (k := 64) (by rw [mf_]; simp only [dv]; omega)) (by decide)) w (SL.sl (h9.sl.sub (List.sublist_append_left _ _)) hw))) rfl (WL_r rfl (aG_ ty_37 rfl rfl (by repeat (first | exact .head _ | apply Upd.left | apply Upd.tail)) (ag_ _) rfl (at_ _) (.inl (by assumption)) ?_))
  refine nl J (J6 _ _ (W_ret (ret1 rfl (.inr rfl) ⟨_, _, _, _, _, _, rfl, (by repeat (first | exact .head _ | apply List.mem_append_right | apply List.Mem.tail)), ty_37, _, (bd_ (ag_ _)), (ag_ _), rfl⟩ ?_)))
  (rw [dv_dl, mf_]; simp only [dv, Nat.mul_zero, Nat.add_zero]; rw [sgn_S]; rfl)
end Go.Proofs.YtapbefpeopaecaaGreatDoor

