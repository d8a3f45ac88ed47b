/- Walks: what these functions return. -/
import Derived.Test.YtapbefpeopaecaaGreatDoorYGE
namespace Go.Proofs.YtapbefpeopaecaaGreatDoor
open Go.Kn Go.Num
set_option linter.unusedVariables false
set_option linter.unusedSimpArgs false
set_option maxRecDepth 20000
set_option maxHeartbeats 8000000
theorem bY_ (va : Value) (l : List Nat) (k : Nat) (w : World) (hva : Sl w va l) :
    Calls Tryz.prog 132 [va, .int .i64 (k : Int)].toArray w (fun e w' => e = .returned (.int .i64 ((l.getD k 0 : Nat) : Int)) ∧ Ext w w') := by
 refine di_ (N := 13) Tryz.func132 rfl rfl (by simp) ?_
 obtain ⟨w0, rfl⟩ : ∃ w0, w0 = w := ⟨_, rfl⟩
 simp only [initF, Nat.reduceAdd]
 refine Sq fun K1 J1 => Rk fun K J => sE rfl (nl J (J1 _ _ (Sq fun K2 J2 => Sq fun K3 J3 => Rk fun K J => sE rfl (sE rfl (sQ (dX_ sl_81 rfl hva.old) rfl (sE rfl (nl J (J3 _ _ ?_))))))))
 refine a6_ _ rfl (fun hk => ?_) (fun hk => ?_)
 ·(try simp only [decide_eq_true_eq, decide_eq_false_iff_not, beq_iff_eq, bne_iff_ne, beq_eq_false_iff_ne, bne_eq_false_iff_eq, Bool.not_eq_true', Bool.not_eq_false'] at hk)
  refine Sq fun K4 J4 => Rk fun K J => sE rfl (sE rfl (sQ (ha_ sl_81 rfl rfl hva.old (by omega)) rfl (sQ (fC_ ty_3 rfl hva.old (by omega)) rfl (sE rfl (nl J (J4 _ _ (W_ret (ai_ (ret1 rfl (.inr rfl) rfl ?_)))))))))
  exact rfl
 ·(try simp only [decide_eq_true_eq, decide_eq_false_iff_not, beq_iff_eq, bne_iff_ne, beq_eq_false_iff_ne, bne_eq_false_iff_eq, Bool.not_eq_true', Bool.not_eq_false'] at hk)
  refine ak_ (J2 _ _ (Sq fun K5 J5 => Rk fun K J => sE rfl (nl J (J5 _ _ (W_ret (ret1 rfl (.inr rfl) rfl ?_))))))
  exact congrArg (fun n : Nat => Value.int .i64 (n : Int)) (show 0 = l.getD k 0 by simp [List.getD, List.getElem?_eq_none (show l.length ≤ k by omega)])

theorem ci_ (va : Value) (l : List Nat) (hD : DL l) (hn : l.length ≤ 1000) (w : World) (hva : Sl w va l) :
    Calls Tryz.prog 130 [va].toArray w (fun e w' => e = .returned (sls va (dl (dv l)).length) ∧ Ext w w') := by
 refine di_ (N := 21) Tryz.func130 rfl rfl (by simp) ?_
 obtain ⟨w0, rfl⟩ : ∃ w0, w0 = w := ⟨_, rfl⟩
 simp only [initF, Nat.reduceAdd]
 refine Sq fun K1 J1 => Rk fun K J => sE rfl (nl J (J1 _ _ (Sq fun K2 J2 => Rk fun K J => sE rfl (sQ (dX_ sl_81 rfl hva.old) rfl (sE rfl (nl J (J2 _ _ (Sq fun K3 J3 => ar_ ?_))))))))
 refine bN_ [3, 6, 7, 8, 9, 10, 11, 12, 13, 14, 15, 16, 17] (fun g nn M => ∃ (k : Nat), (g 3 = .int .i64 (k : Int)) ∧ M = [] ∧ nn = k + 0 ∧ (k ≤ l.length ∧ ∀ j, k ≤ j → l.getD j 0 = 0)) (l.length) ?start ?round
 case start =>
  refine ⟨_, (List.Sublist.refl _), l.length, ?a3, ?mem0, rfl, ⟨Nat.le_refl _, fun j hj => by simp [List.getD, List.getElem?_eq_none (show l.length ≤ j by omega)]⟩⟩
  case mem0 => rfl
  case a3 => rfl
 case round =>
  rintro nn g M ⟨k, hg3, rfl, hmeas, ⟨hk, hhi⟩⟩
  subst nn
  simp only [setG, hg3]
  clear hg3
  refine Sq fun K4 J4 => Sq fun K5 J5 => Rk fun K J => sE rfl (sE rfl (sE rfl ?_))
  cases hz : decide ((0 : Int) < (k : Int))
  ·skip
   refine WL_n rfl (WL_n rfl (WL_n rfl (WL_n rfl (WL_n rfl (WL_n rfl (sE rfl (nl J (J5 _ _ (by_ rfl (bB_ (ax_ (ax_ (aF_ (J3 _ _ (Sq fun K6 J6 => Rk fun K J => sE rfl (sE rfl (sQ (pR_ sl_81 rfl rfl hva.old (by omega)) rfl (sE rfl (nl J (J6 _ _ ?_))))))))))))))))))))
   refine W_ret (ret1 rfl (.inr rfl) rfl ?_)
   rw [iZ_ hD, kZ_ hhi (.inl (by have := of_decide_eq_false hz; omega))]
  ·skip
   have hz' := of_decide_eq_true hz
   obtain ⟨m, rfl⟩ : ∃ m, k = m + 1 := ⟨k - 1, by omega⟩
   refine sE rfl (sE rfl (sQ (q_as (q_sub rfl rfl) (congrArg (Value.int .i64) (hN_ (by omega)))) rfl (sQ (ha_ sl_81 rfl rfl hva.old (by omega)) rfl (sQ (fC_ ty_3 rfl hva.old (by omega)) rfl (sE rfl (sE rfl (nl J (J5 _ _ ?_))))))))
   refine a6_ _ rfl (fun h0 => ?_) (fun h0 => ?_)
   ·(try simp only [decide_eq_true_eq, decide_eq_false_iff_not, beq_iff_eq, bne_iff_ne, beq_eq_false_iff_ne, bne_eq_false_iff_eq, Bool.not_eq_true', Bool.not_eq_false'] at h0)
    refine ak_ (J4 _ _ (ar_ (Rk fun K J => sE rfl (sQ (q_as (q_sub rfl rfl) (congrArg (Value.int .i64) (hN_ (by omega)))) rfl (sE rfl (nl J ?_))))))
    refine ⟨(by repeat first | exact .refl | refine .cons rfl ?_), _, _, (List.Sublist.refl _), (by omega), m, ?s3, ?mem, rfl, ⟨by omega, fun j hj => by rcases Nat.eq_or_lt_of_le hj with rfl | hj; omega; exact hhi j hj⟩⟩
    case mem => rfl
    case s3 => rfl
   ·(try simp only [decide_eq_true_eq, decide_eq_false_iff_not, beq_iff_eq, bne_iff_ne, beq_eq_false_iff_ne, bne_eq_false_iff_eq, Bool.not_eq_true', Bool.not_eq_false'] at h0)
    refine bB_ (ax_ (ax_ (aF_ (J3 _ _ (Sq fun K7 J7 => Rk fun K J => sE rfl (sE rfl (sQ (pR_ sl_81 rfl rfl hva.old (by omega)) rfl (sE rfl (nl J (J7 _ _ (W_ret (ret1 rfl (.inr rfl) rfl ?_))))))))))))
    rw [iZ_ hD, kZ_ hhi (.inr (by simp only [Nat.add_sub_cancel]; omega))]

theorem aI_ (a : R) (ha : a.Ok) (w : World)  :
    Calls Tryz.prog 87 [RV a].toArray w (fun e w' => ∃ v, e = .returned v ∧ Ext w w' ∧ Slf w.heap.size w' v (dl (val a.w))) := by
 refine fm_ (N := 26) Tryz.func87 rfl rfl (by simp) ?_
 obtain ⟨w0, rfl⟩ : ∃ w0, w0 = w := ⟨_, rfl⟩
 simp only [initF, Nat.reduceAdd]
 refine Sq fun K1 J1 => Rk fun K J => WL_r rfl (r_box rfl rfl (fun b1 hb1 => sE rfl (nl J (J1 _ _ (Sq fun K2 J2 => Rk fun K J => sE rfl (nl J (J2 _ _ (Sq fun K3 J3 => Sq fun K4 J4 => Rk fun K J => sE rfl (nl J (J4 _ _ (ar_ ?_)))))))))))
 refine bN_ [3, 4, 5, 6, 7, 8, 9, 10, 11, 12, 13, 14, 15, 16, 17, 18, 19, 20, 21, 22, 23] (fun g nn M => ∃ (k : Nat) (v : Value) (l : List Nat) (L : List Blk), (g 3 = v ∧ g 4 = .int .i64 (k : Int)) ∧ M = L ++ [⟨b1, 37, a.cells⟩] ∧ nn = 16 - k ∧ (k ≤ 16 ∧ OwnL w0 3 v l L ∧ DL l ∧ l.length = 2 * k ∧ dv l = val a.w % 4294967296 ^ k)) (16) ?start ?round
 case start =>
  refine ⟨_, (List.Sublist.refl _), 0, _, [], [], ⟨?a3, ?a4⟩, ?mem0, rfl, ⟨Nat.zero_le _, .nil, DL.nil, rfl, by simp [dv, Nat.mod_one]⟩⟩
  case mem0 => rfl
  case a3 => rfl
  case a4 => rfl
 case round =>
  rintro nn g M ⟨k, v, l, L, ⟨hg3, hg4⟩, rfl, hmeas, ⟨hk, hO, hD, hlen, hdv⟩⟩
  subst nn
  simp only [setG, hg3, hg4]
  clear hg3 hg4
  refine Sq fun K5 J5 => Sq fun K6 J6 => Rk fun K J => sE rfl (sE rfl (nl J (J6 _ _ ?_)))
  refine a6_ _ rfl (fun hc => ?_) (fun hc => ?_)
  ·(try simp only [decide_eq_true_eq, decide_eq_false_iff_not, beq_iff_eq, bne_iff_ne, beq_eq_false_iff_ne, bne_eq_false_iff_eq, Bool.not_eq_true', Bool.not_eq_false'] at hc)
   have hc : k < 16 := by omega
   refine ak_ (J5 _ _ (Sq fun K7 J7 => ar_ (dr sn [0,4,8,12,16,20,24,28,32,36,40,44,48,53,57,60] [14] mix (by kernel_rfl) (fun K J => pE rfl (pE rfl (pQ rfl (aW_ bv_ (by decide) rfl) (pQ rfl (bM_ ar_35 rfl rfl (by omega) (by omega)) (pQ rfl (bf_ ty_34 rfl (by repeat (first | exact .head _ | apply List.mem_append_right | apply List.Mem.tail)) (dC_ (r := a) (k := k) (by rw [ha.len]; omega))) ?_))))))))
   refine pQ rfl (q_rem rfl rfl (by decide)) (pQ rfl (q_as (bt_ in_34 in_3 rfl) (rem16 (bj_ ha.lim k))) (pE rfl (pQ rfl (aW_ bv_ (by decide) rfl) (pQ rfl (bM_ ar_35 rfl rfl (by omega) (by omega)) (pQ rfl (bf_ ty_34 rfl (by repeat (first | exact .head _ | apply List.mem_append_right | apply List.Mem.tail)) (dC_ (r := a) (k := k) (by rw [ha.len]; omega))) ?_)))))
   refine pQ rfl (q_quo rfl rfl (by decide)) (pQ rfl (q_as (bt_ in_34 in_3 rfl) (quo16 (bj_ ha.lim k))) ?_)
   refine PL_o rfl rfl (cv_ us_81 z_3 sz_3 rfl (by decide) rfl (sd_ _ _) (fun b22 hb22 => ⟨(fun _ => by first | exact sd s0 | exact s0), (by repeat (first | exact s0 | exact sn | refine sk ?_ | refine sd ?_ | refine sA ?_ | refine sR ?_)), ?_⟩))
   refine PL_o rfl rfl (hg_ us_81 on_3 rfl rfl hO (SL.mine (l := [a.w.getD k 0 % 65536, a.w.getD k 0 / 65536]) (.head _) (Nat.le_refl _)) (List.sublist_cons_self _ _) (by simp; omega) (fun v' L' hO' => ⟨nf, (by repeat (first | exact s0 | exact sn | refine sk ?_ | refine sd ?_ | refine sA ?_ | refine sR ?_)), ?_⟩))
   refine pE rfl (fl J (J7 _ _ (Rk fun K J => sE rfl (sQ (q_as (q_add rfl rfl) (congrArg (Value.int .i64) (cV_ (by omega)))) rfl (sE rfl (nl J ?_))))))
   refine ⟨(by repeat first | exact .refl | refine .cons rfl ?_), _, _, (List.Sublist.refl _), (by omega), k + 1, _, _, _, ⟨?s3, ?s4⟩, ?mem, rfl, ⟨by omega, hO', hD.append (DL.two (bj_ ha.lim k)), by simp [hlen]; omega, kp_ ha.lim hlen hdv⟩⟩
   case mem => rfl
   case s3 => rfl
   case s4 => rfl
  ·(try simp only [decide_eq_true_eq, decide_eq_false_iff_not, beq_iff_eq, bne_iff_ne, beq_eq_false_iff_ne, bne_eq_false_iff_eq, Bool.not_eq_true', Bool.not_eq_false'] at hc)
   obtain rfl : k = 16 := by omega
   refine bB_ (ax_ (ax_ (aF_ (J3 _ _ (Sq fun K8 J8 => Rk fun K J => sE rfl (sQ (bU_ ii_ rfl (fun w hw => ci_ v l hD (by omega) w (SL.sl (hO.sl (List.sublist_append_left _ _)) hw))) rfl (sE rfl (nl J (J8 _ _ (W_ret (ret1 rfl (.inr rfl) rfl ?_)))))))))))
   exact fx_ hD (by rw [hdv, lN_ ha]) (hO.slf (List.sublist_append_left _ _))

theorem bm_  :
    Ret Tryz.prog 90 [] (RV Z.bad.enc) := by
 refine av_ (N := 2) Tryz.func90 rfl rfl (by simp) (fun w0 => ?_)
 simp only [initF, Nat.reduceAdd]
 refine Sq fun K1 J1 => Rk fun K J => WL_r rfl (bl_ z_37 (fun b0 hb0 => nl J (J1 _ _ (Sq fun K2 J2 => Rk fun K J => sQ (fH_ z_37 pl_37 rfl (.cons rfl (vs := [.bool true]) rfl rfl (by simp [zR]) (z' := Z.bad.enc.cells) rfl (.nil _))) rfl ?_))))
 refine WL_r rfl (aG_ ty_37 rfl rfl (by repeat (first | exact .head _ | apply Upd.left | apply Upd.tail)) rfl rfl (at_ Z.bad.enc) (.inl (by assumption)) ?_)
 refine nl J (J2 _ _ (W_ret (ret1 rfl (.inr rfl) ⟨_, _, _, _, _, _, rfl, (by repeat (first | exact .head _ | apply List.mem_append_right | apply List.Mem.tail)), ty_37, _, (bd_ rfl), rfl, rfl⟩ ?_)))
 exact rfl

theorem fJ_ (r : R) (h : r.Ok) :
    Ret Tryz.prog 129 [RV r] (.bool r.valid) := by
 refine av_ (N := 32) Tryz.func129 rfl rfl (by simp) (fun w0 => ?_)
 simp only [initF, Nat.reduceAdd]
 refine Sq fun K1 J1 => Rk fun K J => WL_r rfl (r_box rfl rfl (fun b1 hb1 => sE rfl (nl J (J1 _ _ (Sq fun K2 J2 => Rk fun K J => sE rfl (nl J (J2 _ _ (Sq fun K3 J3 => Sq fun K4 J4 => Rk fun K J => sE rfl (nl J (J4 _ _ (ar_ ?_)))))))))))
 refine bN_ [3, 4, 5, 6, 7, 8, 9, 10, 11, 12, 13, 14, 15, 16] (fun g nn M => ∃ (k : Nat) (z : Bool), (g 3 = .bool z ∧ g 4 = .int .i64 (k : Int)) ∧ M = [⟨b1, 37, r.cells⟩] ∧ nn = 16 - k ∧ (k ≤ 16 ∧ (z = true ↔ ∀ j, j < k → r.w.getD j 0 = 0))) (16) ?start ?round
 case start =>
  refine ⟨_, (List.Sublist.refl _), 0, true, ⟨?a3, ?a4⟩, ?mem0, rfl, ⟨Nat.zero_le _, ⟨fun _ j hj => by omega, fun _ => rfl⟩⟩⟩
  case mem0 => rfl
  case a3 => rfl
  case a4 => rfl
 case round =>
  rintro nn g M ⟨k, z, ⟨hg3, hg4⟩, rfl, hmeas, ⟨hk, hz⟩⟩
  subst nn
  simp only [setG, hg3, hg4]
  clear hg3 hg4
  refine Sq fun K5 J5 => Sq fun K6 J6 => Rk fun K J => sE rfl (sE rfl (nl J (J6 _ _ ?_)))
  refine a6_ _ rfl (fun hc => ?_) (fun hc => ?_)
  ·(try simp only [decide_eq_true_eq, decide_eq_false_iff_not, beq_iff_eq, bne_iff_ne, beq_eq_false_iff_ne, bne_eq_false_iff_eq, Bool.not_eq_true', Bool.not_eq_false'] at hc)
   have hc : k < 16 := by omega
   refine ak_ (J5 _ _ (Sq fun K7 J7 => ar_ (Rk fun K J => sE rfl (sE rfl ?_))))
   cases z
   ·skip
    refine WL_n rfl (WL_n rfl (WL_n rfl (WL_n rfl (WL_n rfl (sE rfl (sE rfl (nl J (J7 _ _ (Rk fun K J => sE rfl (sQ (q_as (q_add rfl rfl) (congrArg (Value.int .i64) (cV_ (by omega)))) rfl (sE rfl (nl J ?_))))))))))))
    refine ⟨(by repeat first | exact .refl | refine .cons rfl ?_), _, _, (List.Sublist.refl _), (by omega), k + 1, ?zz_1, ⟨?s3, ?s4⟩, ?mem, rfl, ⟨by omega, ?inv_1⟩⟩
    case mem => rfl
    case s3 => rfl
    case s4 => rfl
    first | exact k8_ hz | exact nP_ hz
   ·skip
    refine sE rfl (sQ (aW_ bv_ (by decide) rfl) rfl (sQ (bM_ ar_35 rfl rfl (by omega) (by omega)) rfl (sQ (bf_ ty_34 rfl (by repeat (first | exact .head _ | apply List.mem_append_right | apply List.Mem.tail)) (dC_ (r := r) (k := k) (by rw [h.len]; omega))) rfl ?_)))
    refine sE rfl (sE rfl (sE rfl (nl J (J7 _ _ (Rk fun K J => sE rfl (sQ (q_as (q_add rfl rfl) (congrArg (Value.int .i64) (cV_ (by omega)))) rfl (sE rfl (nl J ?_))))))))
    refine ⟨(by repeat first | exact .refl | refine .cons rfl ?_), _, _, (List.Sublist.refl _), (by omega), k + 1, ?zz_2, ⟨?s3, ?s4⟩, ?mem, rfl, ⟨by omega, ?inv_2⟩⟩
    case mem => rfl
    case s3 => rfl
    case s4 => rfl
    first | exact k8_ hz | exact nP_ hz
  ·(try simp only [decide_eq_true_eq, decide_eq_false_iff_not, beq_iff_eq, bne_iff_ne, beq_eq_false_iff_ne, bne_eq_false_iff_eq, Bool.not_eq_true', Bool.not_eq_false'] at hc)
   obtain rfl : k = 16 := by omega
   obtain rfl : z = r.zero := qq_ h hz
   refine bB_ (ax_ (ax_ (aF_ (J3 _ _ (Sq fun K8 J8 => Sq fun K9 J9 => Rk fun K J => sQ (aW_ ea_ (by decide) rfl) rfl (sQ (bf_ ty_4 rfl (by repeat (first | exact .head _ | apply List.mem_append_right | apply List.Mem.tail)) rfl) rfl ?_))))))
   refine nl J (J9 _ _ ?_)
   refine a6_ _ rfl (fun hb => ?_) (fun hb => ?_)
   ·(try simp only [decide_eq_true_eq, decide_eq_false_iff_not, beq_iff_eq, bne_iff_ne, beq_eq_false_iff_ne, bne_eq_false_iff_eq, Bool.not_eq_true', Bool.not_eq_false'] at hb)
    refine Sq fun K10 J10 => Rk fun K J => sE rfl (sE rfl ?_)
    cases hz0 : r.zero
    ·skip
     refine WL_n rfl (WL_n rfl (WL_n rfl (sE rfl (sE rfl (nl J (J10 _ _ (W_ret (ai_ (ret1 rfl (.inr rfl) rfl ?_)))))))))
     simp [R.valid, *]
    ·skip
     refine sQ (aW_ bq_ (by decide) rfl) rfl (sQ (bf_ ty_4 rfl (by repeat (first | exact .head _ | apply List.mem_append_right | apply List.Mem.tail)) rfl) rfl ?_)
     refine sE rfl (sE rfl (sE rfl (nl J (J10 _ _ (W_ret (ai_ (ret1 rfl (.inr rfl) rfl ?_)))))))
     simp [R.valid, *]
   ·(try simp only [decide_eq_true_eq, decide_eq_false_iff_not, beq_iff_eq, bne_iff_ne, beq_eq_false_iff_ne, bne_eq_false_iff_eq, Bool.not_eq_true', Bool.not_eq_false'] at hb)
    refine ak_ (J8 _ _ (Sq fun K11 J11 => Rk fun K J => sE rfl (sE rfl (sE rfl ?_))))
    cases hz0 : r.zero
    ·skip
     refine WL_n rfl (WL_n rfl (WL_n rfl (sE rfl (sE rfl (nl J (J11 _ _ (W_ret (ret1 rfl (.inr rfl) rfl ?_))))))))
     simp [R.valid, *]
    ·skip
     refine sQ (aW_ bq_ (by decide) rfl) rfl (sQ (bf_ ty_4 rfl (by repeat (first | exact .head _ | apply List.mem_append_right | apply List.Mem.tail)) rfl) rfl ?_)
     refine sE rfl (sE rfl (sE rfl (nl J (J11 _ _ (W_ret (ret1 rfl (.inr rfl) rfl ?_))))))
     simp [R.valid, *]

theorem aH_ (r : R) (h : r.Ok) :
    Ret Tryz.prog 86 [RV r] (.bool r.good) := by
 refine av_ (N := 12) Tryz.func86 rfl rfl (by simp) (fun w0 => ?_)
 simp only [initF, Nat.reduceAdd]
 refine Sq fun K1 J1 => Rk fun K J => WL_r rfl (r_box rfl rfl (fun b1 hb1 => sE rfl (nl J (J1 _ _ (Sq fun K2 J2 => Rk fun K J => sQ (aS_ ty_37 rfl (by repeat (first | exact .head _ | apply List.mem_append_right | apply List.Mem.tail)) (aQ_ h)) rfl ?_)))))
 refine sQ (q_ret rJ_ (fJ_ r h) rfl) rfl (sE rfl (nl J (J2 _ _ (Sq fun K3 J3 => Rk fun K J => sE rfl (sE rfl ?_)))))
 cases hv : r.valid
 ·skip
  refine WL_n rfl (WL_n rfl (WL_n rfl (sE rfl (sE rfl (nl J (J3 _ _ (W_ret (ret1 rfl (.inr rfl) rfl ?_))))))))
  simp [R.good, *]
 ·skip
  refine sQ (aW_ ea_ (by decide) rfl) rfl (sQ (bf_ ty_4 rfl (by repeat (first | exact .head _ | apply List.mem_append_right | apply List.Mem.tail)) rfl) rfl ?_)
  refine sE rfl (sE rfl (sE rfl (nl J (J3 _ _ (W_ret (ret1 rfl (.inr rfl) rfl ?_))))))
  simp [R.good, *]

theorem a7_ (neg : Bool) (va : Value) (l : List Nat) (hD : DL l) (hn : l.length ≤ 1000) (w : World) (hva : Sl w va l) :
    Calls Tryz.prog 93 [.bool neg, va].toArray w (fun e w' => e = .returned (RV (Z.of (sgn neg (dv l))).enc) ∧ Ext w w') := by
 refine di_ (N := 62) Tryz.func93 rfl rfl (by simp) ?_
 obtain ⟨w0, rfl⟩ : ∃ w0, w0 = w := ⟨_, rfl⟩
 simp only [initF, Nat.reduceAdd]
 have hu0 : ∀ M, SL w0 [] M (sls va (dl (dv l)).length) (dl (dv l)) := fun M => oN_ hD hva.old
 refine Sq fun K1 J1 => Rk fun K J => WL_r rfl (bl_ z_37 (fun b4 hb4 => nl J (J1 _ _ (Sq fun K2 J2 => Rk fun K J => sE rfl (sQ (bU_ ii_ rfl (fun w hw => ci_ va l hD hn w (SL.sl (M := _) hva.old hw))) rfl (sE rfl (nl J (J2 _ _ (Sq fun K3 J3 => Sq fun K4 J4 => Rk fun K J => sE rfl (sQ (dX_ sl_81 rfl (hu0 _)) rfl (sE rfl (nl J (J4 _ _ ?_)))))))))))))
 refine a6_ _ rfl (fun hbig => ?_) (fun hbig => ?_)
 ·(try simp only [decide_eq_true_eq, decide_eq_false_iff_not, beq_iff_eq, bne_iff_ne, beq_eq_false_iff_ne, bne_eq_false_iff_eq, Bool.not_eq_true', Bool.not_eq_false'] at hbig)
  refine Sq fun K5 J5 => Rk fun K J => sQ (q_ret en_90 (bm_) rfl) rfl (WL_r rfl (aG_ ty_37 rfl rfl (by repeat (first | exact .head _ | apply Upd.left | apply Upd.tail)) (ag_ _) rfl (at_ _) (.inl (by assumption)) ?_))
  refine nl J (J5 _ _ (W_ret (ai_ (ret1 rfl (.inr rfl) ⟨_, _, _, _, _, _, rfl, (by repeat (first | exact .head _ | apply List.mem_append_right | apply List.Mem.tail)), ty_37, _, (bd_ (ag_ _)), (ag_ _), rfl⟩ ?_))))
  exact lZ_ (by omega)
 ·(try simp only [decide_eq_true_eq, decide_eq_false_iff_not, beq_iff_eq, bne_iff_ne, beq_eq_false_iff_ne, bne_eq_false_iff_eq, Bool.not_eq_true', Bool.not_eq_false'] at hbig)
  have hlen : (dl (dv l)).length ≤ 32 := by omega
  refine ak_ (J3 _ _ ?_)
  refine bQ_ [6, 14, 15, 16, 17, 18, 19, 20] (fun g M => ∃ (b6 : Nat), (g 6 = .pointer (some ⟨b6, 0, none⟩)) ∧ M = ⟨b6, 37, R.cells (R.mk false (neg && decide ((0 : Int) < ((dl (dv l)).length : Int))) (List.replicate 16 0))⟩ :: [⟨b4, 37, zR⟩] ∧ (w0.heap.size ≤ b6)) (fun K6 J6 => ?_) ?_
  ·skip
   refine Rk fun K J => sE rfl (sE rfl ?_)
   cases neg
   ·skip
    refine WL_n rfl (WL_n rfl (WL_n rfl (sE rfl (sQ (fH_ z_37 pl_37 rfl (o2_ _)) rfl (WL_r rfl (bl_ z_37 (fun b6 hb6 => WL_r rfl (aG_ ty_37 rfl rfl (by repeat (first | exact .head _ | apply Upd.left | apply Upd.tail)) (by simp [R.cells, ck_]) rfl (at_ _) (.inl (by assumption)) ?_))))))))
    refine nl J ?_
    refine J6 _ _ (by repeat first | exact .refl | refine .cons rfl ?_) ⟨_, (List.Sublist.refl _), _, ?s6, ?mem, hb6⟩
    case mem => rfl
    case s6 => rfl
   ·skip
    refine sE rfl (sQ (dX_ sl_81 rfl (hu0 _)) rfl (sE rfl (sE rfl (sQ (fH_ z_37 pl_37 rfl (o2_ _)) rfl (WL_r rfl (bl_ z_37 (fun b6 hb6 => WL_r rfl (aG_ ty_37 rfl rfl (by repeat (first | exact .head _ | apply Upd.left | apply Upd.tail)) (by simp [R.cells, ck_]) rfl (at_ _) (.inl (by assumption)) ?_))))))))
    refine nl J ?_
    refine J6 _ _ (by repeat first | exact .refl | refine .cons rfl ?_) ⟨_, (List.Sublist.refl _), _, ?s6, ?mem, hb6⟩
    case mem => rfl
    case s6 => rfl
  ·skip
   rintro g M ⟨b6, hg6, rfl, hb6⟩
   simp only [setG, hg6]
   clear hg6
   refine Sq fun K7 J7 => Sq fun K8 J8 => Rk fun K J => sE rfl (nl J (J8 _ _ (ar_ ?_)))
   refine bN_ [7, 21, 22, 23, 24, 25, 26, 27, 28, 29, 30, 31, 32, 33, 34, 35, 36, 37, 38, 39, 40, 41, 42, 43, 44, 45, 46, 47, 48, 49, 50, 51, 52, 53, 54, 55, 56, 57, 58, 59, 60] (fun g nn M => ∃ (k : Nat) (ws : List Nat), (g 7 = .int .i64 (k : Int)) ∧ M = ⟨b6, 37, R.cells (R.mk false (neg && decide ((0 : Int) < ((dl (dv l)).length : Int))) ws)⟩ :: [⟨b4, 37, zR⟩] ∧ nn = (dl (dv l)).length - k ∧ (k ≤ (dl (dv l)).length ∧ NumIn (dv l) k ws)) ((dl (dv l)).length - 0) ?start ?round
   case start =>
    refine ⟨_, (List.Sublist.refl _), 0, _, ?a7, ?mem0, rfl, ⟨Nat.zero_le _, NumIn.start _⟩⟩
    case mem0 => rfl
    case a7 => rfl
   case round =>
    rintro nn g M ⟨k, ws, hg7, rfl, hmeas, ⟨hk, hI⟩⟩
    subst nn
    simp only [setG, hg7]
    clear hg7
    refine Sq fun K9 J9 => Sq fun K10 J10 => Rk fun K J => sE rfl (sE rfl (sQ (dX_ sl_81 rfl (hu0 _)) rfl (sE rfl (nl J (J10 _ _ ?_)))))
    refine a6_ _ rfl (fun hc => ?_) (fun hc => ?_)
    ·(try simp only [decide_eq_true_eq, decide_eq_false_iff_not, beq_iff_eq, bne_iff_ne, beq_eq_false_iff_ne, bne_eq_false_iff_eq, Bool.not_eq_true', Bool.not_eq_false'] at hc)
     have hk32 : k < 32 := by omega
     refine ak_ (J9 _ _ (Sq fun K11 J11 => ar_ (Sq fun K12 J12 => Rk fun K J => sE rfl (sQ (q_as (q_rem rfl rfl (by decide)) (congrArg (Value.int .i64) (rem2 k))) rfl (sE rfl (nl J (J12 _ _ ?_)))))))
     refine a6_ _ rfl (fun hpar => ?_) (fun hpar => ?_)
     ·(try simp only [decide_eq_true_eq, decide_eq_false_iff_not, beq_iff_eq, bne_iff_ne, beq_eq_false_iff_ne, bne_eq_false_iff_eq, Bool.not_eq_true', Bool.not_eq_false'] at hpar)
      have hpar : k % 2 = 0 := by omega
      have hz := (hI.even hpar hk32).2
      refine dr (sd (sk (s0))) [0,4,8,12,16,20,24,28,32,36,40,44,48,52,56,61] [15] mix (by kernel_rfl) (fun K J => pE rfl (pQ rfl (q_as (q_quo rfl rfl (by decide)) (congrArg (Value.int .i64) (quo2 k (by omega)))) (pE rfl (pQ rfl (q_as (q_quo rfl rfl (by decide)) (congrArg (Value.int .i64) (quo2 k (by omega)))) (pQ rfl (aW_ bv_ (by decide) rfl) (pQ rfl (bM_ ar_35 rfl rfl (by omega) (by omega)) (pQ rfl (bf_ ty_34 rfl (by repeat (first | exact .head _ | apply List.mem_append_right | apply List.Mem.tail)) (dC_ (r := R.mk false (neg && decide ((0 : Int) < ((dl (dv l)).length : Int))) ws) (k := k / 2) (by simp only [hI.len]; omega))) ?_)))))))
      refine pE rfl (pE rfl (pQ rfl (ha_ sl_81 rfl rfl (hu0 _) (by omega)) (pQ rfl (fC_ ty_3 rfl (hu0 _) (by omega)) (pQ rfl (bt_ in_3 in_34 rfl) (pQ rfl (q_as (q_add rfl rfl) (show _ = U32 (dg (dv l) k) by rw [(hI.even hpar hk32).1, h5_]; exact oV_ (dg_lt _ _))) (pQ rfl (aW_ bv_ (by decide) rfl) (pQ rfl (bM_ ar_35 rfl rfl (by omega) (by omega)) ?_)))))))
      refine PL_o rfl rfl (kE_ (k := k / 2) ty_34 rfl rfl (by repeat (first | exact .head _ | apply Upd.left | apply Upd.tail)) (by rw [hI.len]; omega) (.inl (by assumption)) ⟨nf, (by repeat (first | exact s0 | exact sn | refine sk ?_ | refine sd ?_ | refine sA ?_ | refine sR ?_)), ?_⟩)
      refine fl J (J11 _ _ (Rk fun K J => sE rfl (sQ (q_as (q_add rfl rfl) (congrArg (Value.int .i64) (cV_ (by omega)))) rfl (sE rfl (nl J ?_)))))
      refine ⟨(by repeat first | exact .refl | refine .cons rfl ?_), _, _, (List.Sublist.refl _), (by omega), k + 1, _, ?s7, ?mem, rfl, ⟨by omega, hz⟩⟩
      case mem => rfl
      case s7 => rfl
     ·(try simp only [decide_eq_true_eq, decide_eq_false_iff_not, beq_iff_eq, bne_iff_ne, beq_eq_false_iff_ne, bne_eq_false_iff_eq, Bool.not_eq_true', Bool.not_eq_false'] at hpar)
      have hpar : ¬ k % 2 = 0 := by omega
      have hz := (hI.odd hpar hk32).2
      refine dr (sd (sk (s0))) [0,4,8,12,16,20,24,28,32,36,40,44,48,52,56,60,65] [16] mix (by kernel_rfl) (fun K J => pE rfl (pQ rfl (q_as (q_quo rfl rfl (by decide)) (congrArg (Value.int .i64) (quo2 k (by omega)))) (pE rfl (pQ rfl (q_as (q_quo rfl rfl (by decide)) (congrArg (Value.int .i64) (quo2 k (by omega)))) (pQ rfl (aW_ bv_ (by decide) rfl) (pQ rfl (bM_ ar_35 rfl rfl (by omega) (by omega)) (pQ rfl (bf_ ty_34 rfl (by repeat (first | exact .head _ | apply List.mem_append_right | apply List.Mem.tail)) (dC_ (r := R.mk false (neg && decide ((0 : Int) < ((dl (dv l)).length : Int))) ws) (k := k / 2) (by simp only [hI.len]; omega))) ?_)))))))
      refine pE rfl (pE rfl (pQ rfl (ha_ sl_81 rfl rfl (hu0 _) (by omega)) (pQ rfl (fC_ ty_3 rfl (hu0 _) (by omega)) (pQ rfl (bt_ in_3 in_34 rfl) (pE rfl (pQ rfl (q_as (q_add rfl rfl) (show _ = U32 (ws.getD (k / 2) 0 + dg (dv l) k * 65536) by rw [h5_]; exact p7_ (hI.odd hpar hk32).1 (dg_lt _ _))) (pQ rfl (aW_ bv_ (by decide) rfl) (pQ rfl (bM_ ar_35 rfl rfl (by omega) (by omega)) ?_))))))))
      refine PL_o rfl rfl (kE_ (k := k / 2) ty_34 rfl rfl (by repeat (first | exact .head _ | apply Upd.left | apply Upd.tail)) (by rw [hI.len]; omega) (.inl (by assumption)) ⟨nf, (by repeat (first | exact s0 | exact sn | refine sk ?_ | refine sd ?_ | refine sA ?_ | refine sR ?_)), ?_⟩)
      refine fl J (J11 _ _ (Rk fun K J => sE rfl (sQ (q_as (q_add rfl rfl) (congrArg (Value.int .i64) (cV_ (by omega)))) rfl (sE rfl (nl J ?_)))))
      refine ⟨(by repeat first | exact .refl | refine .cons rfl ?_), _, _, (List.Sublist.refl _), (by omega), k + 1, _, ?s7, ?mem, rfl, ⟨by omega, hz⟩⟩
      case mem => rfl
      case s7 => rfl
    ·(try simp only [decide_eq_true_eq, decide_eq_false_iff_not, beq_iff_eq, bne_iff_ne, beq_eq_false_iff_ne, bne_eq_false_iff_eq, Bool.not_eq_true', Bool.not_eq_false'] at hc)
     obtain rfl : k = (dl (dv l)).length := by omega
     refine bB_ (ax_ (ax_ (aF_ (J7 _ _ (Sq fun K13 J13 => Rk fun K J => sQ (aS_ ty_37 rfl (by repeat (first | exact .head _ | apply List.mem_append_right | apply List.Mem.tail)) (by simp [R.cells, ck_, hI.len])) rfl ?_)))))
     refine WL_r rfl (aG_ ty_37 rfl rfl (by repeat (first | exact .head _ | apply Upd.left | apply Upd.tail)) (by simp [R.cells, ck_, hI.len]) rfl (at_ _) (.inl (by assumption)) ?_)
     refine nl J (J13 _ _ (W_ret (ret1 rfl (.inr rfl) ⟨_, _, _, _, _, _, rfl, (by repeat (first | exact .head _ | apply List.mem_append_right | apply List.Mem.tail)), ty_37, _, (bd_ (by simp [R.cells, ck_, hI.len])), (by simp [R.cells, ck_, hI.len]), rfl⟩ ?_)))
     exact lV_ hI
end Go.Proofs.YtapbefpeopaecaaGreatDoor

