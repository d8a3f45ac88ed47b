/- Walks: what these functions return. What the reference's operations on whole numbers compute is what they should. No program stands in it. -/
import Derived.Test.YtjdfogfmeibkgaaGreatQGE
namespace Go.Proofs.YtjdfogfmeibkgaaGreat
open Go.Kn Go.Num
set_option linter.unusedVariables false
set_option linter.unusedSimpArgs false
set_option maxRecDepth 20000
set_option maxHeartbeats 8000000
theorem cR_ (va : Value) (l : List Nat) (k : Nat) (w : World) (hva : Sl w va l) :
    Calls Tryz.prog 153 [va, .int .i64 (k : Int)].toArray w (fun e w' => e = .returned (.int .i64 ((l.getD k 0 : Nat) : Int)) ∧ Ext w w') := by
 refine aU_ (N := 13) Tryz.func153 rfl rfl (by simp) ?_
 obtain ⟨w0, rfl⟩ : ∃ w0, w0 = w := ⟨_, rfl⟩
 simp only [initF, Nat.reduceAdd]
 refine Sq fun K1 J1 => Rk fun K J => sE rfl (nl J (J1 _ _ (Sq fun K2 J2 => Sq fun K3 J3 => Rk fun K J => sE rfl (sE rfl (sQ (gx_ sl_70 rfl hva.old) rfl (sE rfl (nl J (J3 _ _ ?_))))))))
 refine be_ _ rfl (fun hk => ?_) (fun hk => ?_)
 ·(try simp only [decide_eq_true_eq, decide_eq_false_iff_not, beq_iff_eq, bne_iff_ne, beq_eq_false_iff_ne, bne_eq_false_iff_eq, Bool.not_eq_true', Bool.not_eq_false'] at hk)
  refine Sq fun K4 J4 => Rk fun K J => sE rfl (sE rfl (sQ (lD_ sl_70 rfl rfl hva.old (by omega)) rfl (sQ (iU_ ty_3 rfl hva.old (by omega)) rfl (sE rfl (nl J (J4 _ _ (W_ret (aj_ (ret1 rfl (.inr rfl) rfl ?_)))))))))
  exact rfl
 ·(try simp only [decide_eq_true_eq, decide_eq_false_iff_not, beq_iff_eq, bne_iff_ne, beq_eq_false_iff_ne, bne_eq_false_iff_eq, Bool.not_eq_true', Bool.not_eq_false'] at hk)
  refine am_ (J2 _ _ (Sq fun K5 J5 => Rk fun K J => sE rfl (nl J (J5 _ _ (W_ret (ret1 rfl (.inr rfl) rfl ?_))))))
  exact congrArg (fun n : Nat => Value.int .i64 (n : Int)) (show 0 = l.getD k 0 by simp [List.getD, List.getElem?_eq_none (show l.length ≤ k by omega)])

theorem c2_ (va : Value) (l : List Nat) (hD : DL l) (hn : l.length ≤ 1000) (w : World) (hva : Sl w va l) :
    Calls Tryz.prog 152 [va].toArray w (fun e w' => e = .returned (sls va (dl (dv l)).length) ∧ Ext w w') := by
 refine aU_ (N := 21) Tryz.func152 rfl rfl (by simp) ?_
 obtain ⟨w0, rfl⟩ : ∃ w0, w0 = w := ⟨_, rfl⟩
 simp only [initF, Nat.reduceAdd]
 refine Sq fun K1 J1 => Rk fun K J => sE rfl (nl J (J1 _ _ (Sq fun K2 J2 => Rk fun K J => sE rfl (sQ (gx_ sl_70 rfl hva.old) rfl (sE rfl (nl J (J2 _ _ (Sq fun K3 J3 => aq_ ?_))))))))
 refine aL_ [3, 6, 7, 8, 9, 10, 11, 12, 13, 14, 15, 16, 17] (fun g nn M => ∃ (k : Nat), (g 3 = .int .i64 (k : Int)) ∧ M = [] ∧ nn = k + 0 ∧ (k ≤ l.length ∧ ∀ j, k ≤ j → l.getD j 0 = 0)) (l.length) ?start ?round
 case start =>
  refine ⟨_, (List.Sublist.refl _), l.length, ?a3, ?mem0, rfl, ⟨Nat.le_refl _, fun j hj => by simp [List.getD, List.getElem?_eq_none (show l.length ≤ j by omega)]⟩⟩
  case mem0 => rfl
  case a3 => rfl
 case round =>
  rintro nn g M ⟨k, hg3, rfl, hmeas, ⟨hk, hhi⟩⟩
  subst nn
  simp only [setG, hg3]
  clear hg3
  refine Sq fun K4 J4 => Sq fun K5 J5 => Rk fun K J => sE rfl (sE rfl (sE rfl ?_))
  cases hz : decide ((0 : Int) < (k : Int))
  ·skip
   refine WL_n rfl (WL_n rfl (WL_n rfl (WL_n rfl (WL_n rfl (WL_n rfl (sE rfl (nl J (J5 _ _ (dw_ rfl (bw_ (ap_ (ap_ (as_ (J3 _ _ (Sq fun K6 J6 => Rk fun K J => sE rfl (sE rfl (sQ (ou_ sl_70 rfl rfl hva.old (by omega)) rfl (sE rfl (nl J (J6 _ _ ?_))))))))))))))))))))
   refine W_ret (ret1 rfl (.inr rfl) rfl ?_)
   rw [iT_ hD, lB_ hhi (.inl (by have := of_decide_eq_false hz; omega))]
  ·skip
   have hz' := of_decide_eq_true hz
   obtain ⟨m, rfl⟩ : ∃ m, k = m + 1 := ⟨k - 1, by omega⟩
   refine sE rfl (sE rfl (sQ (q_as (q_sub rfl rfl) (congrArg (Value.int .i64) (fQ_ (by omega)))) rfl (sQ (lD_ sl_70 rfl rfl hva.old (by omega)) rfl (sQ (iU_ ty_3 rfl hva.old (by omega)) rfl (sE rfl (sE rfl (nl J (J5 _ _ ?_))))))))
   refine be_ _ rfl (fun h0 => ?_) (fun h0 => ?_)
   ·(try simp only [decide_eq_true_eq, decide_eq_false_iff_not, beq_iff_eq, bne_iff_ne, beq_eq_false_iff_ne, bne_eq_false_iff_eq, Bool.not_eq_true', Bool.not_eq_false'] at h0)
    refine am_ (J4 _ _ (aq_ (Rk fun K J => sE rfl (sQ (q_as (q_sub rfl rfl) (congrArg (Value.int .i64) (fQ_ (by omega)))) rfl (sE rfl (nl J ?_))))))
    refine ⟨(by repeat first | exact .refl | refine .cons rfl ?_), _, _, (List.Sublist.refl _), (by omega), m, ?s3, ?mem, rfl, ⟨by omega, fun j hj => by rcases Nat.eq_or_lt_of_le hj with rfl | hj; omega; exact hhi j hj⟩⟩
    case mem => rfl
    case s3 => rfl
   ·(try simp only [decide_eq_true_eq, decide_eq_false_iff_not, beq_iff_eq, bne_iff_ne, beq_eq_false_iff_ne, bne_eq_false_iff_eq, Bool.not_eq_true', Bool.not_eq_false'] at h0)
    refine bw_ (ap_ (ap_ (as_ (J3 _ _ (Sq fun K7 J7 => Rk fun K J => sE rfl (sE rfl (sQ (ou_ sl_70 rfl rfl hva.old (by omega)) rfl (sE rfl (nl J (J7 _ _ (W_ret (ret1 rfl (.inr rfl) rfl ?_))))))))))))
    rw [iT_ hD, lB_ hhi (.inr (by simp only [Nat.add_sub_cancel]; omega))]

theorem dD_ (a : R) (ha : a.Ok) (w : World)  :
    Calls Tryz.prog 123 [RV a].toArray w (fun e w' => ∃ v, e = .returned v ∧ Ext w w' ∧ Slf w.heap.size w' v (dl (val a.w))) := by
 refine gZ_ (N := 26) Tryz.func123 rfl rfl (by simp) ?_
 obtain ⟨w0, rfl⟩ : ∃ w0, w0 = w := ⟨_, rfl⟩
 simp only [initF, Nat.reduceAdd]
 refine Sq fun K1 J1 => Rk fun K J => WL_r rfl (r_box rfl rfl (fun b1 hb1 => sE rfl (nl J (J1 _ _ (Sq fun K2 J2 => Rk fun K J => sE rfl (nl J (J2 _ _ (Sq fun K3 J3 => Sq fun K4 J4 => Rk fun K J => sE rfl (nl J (J4 _ _ (aq_ ?_)))))))))))
 refine aL_ [3, 4, 5, 6, 7, 8, 9, 10, 11, 12, 13, 14, 15, 16, 17, 18, 19, 20, 21, 22, 23] (fun g nn M => ∃ (k : Nat) (v : Value) (l : List Nat) (L : List Blk), (g 3 = v ∧ g 4 = .int .i64 (k : Int)) ∧ M = L ++ [⟨b1, 38, a.cells⟩] ∧ nn = 16 - k ∧ (k ≤ 16 ∧ OwnL w0 3 v l L ∧ DL l ∧ l.length = 2 * k ∧ dv l = val a.w % 4294967296 ^ k)) (16) ?start ?round
 case start =>
  refine ⟨_, (List.Sublist.refl _), 0, _, [], [], ⟨?a3, ?a4⟩, ?mem0, rfl, ⟨Nat.zero_le _, .nil, DL.nil, rfl, by simp [dv, Nat.mod_one]⟩⟩
  case mem0 => rfl
  case a3 => rfl
  case a4 => rfl
 case round =>
  rintro nn g M ⟨k, v, l, L, ⟨hg3, hg4⟩, rfl, hmeas, ⟨hk, hO, hD, hlen, hdv⟩⟩
  subst nn
  simp only [setG, hg3, hg4]
  clear hg3 hg4
  refine Sq fun K5 J5 => Sq fun K6 J6 => Rk fun K J => sE rfl (sE rfl (nl J (J6 _ _ ?_)))
  refine be_ _ rfl (fun hc => ?_) (fun hc => ?_)
  ·(try simp only [decide_eq_true_eq, decide_eq_false_iff_not, beq_iff_eq, bne_iff_ne, beq_eq_false_iff_ne, bne_eq_false_iff_eq, Bool.not_eq_true', Bool.not_eq_false'] at hc)
   have hc : k < 16 := by omega
   refine am_ (J5 _ _ (Sq fun K7 J7 => aq_ (dr sn [0,4,8,12,16,20,24,28,32,36,40,44,48,53,57,60] [14] mix (by kernel_rfl) (fun K J => pE rfl (pE rfl (pQ rfl (aJ_ bB_ (by decide) rfl) (pQ rfl (bq_ ar_36 rfl rfl (by omega) (by omega)) (pQ rfl (bd_ ty_35 rfl (by repeat (first | exact .head _ | apply List.mem_append_right | apply List.Mem.tail)) (dI_ (r := a) (k := k) (by rw [ha.len]; omega))) ?_))))))))
   refine pQ rfl (q_rem rfl rfl (by decide)) (pQ rfl (q_as (a3_ in_35 in_3 rfl) (rem16 (aR_ ha.lim k))) (pE rfl (pQ rfl (aJ_ bB_ (by decide) rfl) (pQ rfl (bq_ ar_36 rfl rfl (by omega) (by omega)) (pQ rfl (bd_ ty_35 rfl (by repeat (first | exact .head _ | apply List.mem_append_right | apply List.Mem.tail)) (dI_ (r := a) (k := k) (by rw [ha.len]; omega))) ?_)))))
   refine pQ rfl (q_quo rfl rfl (by decide)) (pQ rfl (q_as (a3_ in_35 in_3 rfl) (quo16 (aR_ ha.lim k))) ?_)
   refine PL_o rfl rfl (cS_ us_70 z_3 sz_3 rfl (by decide) rfl (qo_ _ _) (fun b22 hb22 => ⟨(fun _ => by first | exact sd s0 | exact s0), (by repeat (first | exact s0 | exact sn | refine sk ?_ | refine sd ?_ | refine sA ?_ | refine sR ?_)), ?_⟩))
   refine PL_o rfl rfl (kS_ us_70 on_3 rfl rfl hO (SL.mine (l := [a.w.getD k 0 % 65536, a.w.getD k 0 / 65536]) (.head _) (Nat.le_refl _)) (List.sublist_cons_self _ _) (by simp; omega) (fun v' L' hO' => ⟨nf, (by repeat (first | exact s0 | exact sn | refine sk ?_ | refine sd ?_ | refine sA ?_ | refine sR ?_)), ?_⟩))
   refine pE rfl (fl J (J7 _ _ (Rk fun K J => sE rfl (sQ (q_as (q_add rfl rfl) (congrArg (Value.int .i64) (cH_ (by omega)))) rfl (sE rfl (nl J ?_))))))
   refine ⟨(by repeat first | exact .refl | refine .cons rfl ?_), _, _, (List.Sublist.refl _), (by omega), k + 1, _, _, _, ⟨?s3, ?s4⟩, ?mem, rfl, ⟨by omega, hO', hD.append (DL.two (aR_ ha.lim k)), by simp [hlen]; omega, ka_ ha.lim hlen hdv⟩⟩
   case mem => rfl
   case s3 => rfl
   case s4 => rfl
  ·(try simp only [decide_eq_true_eq, decide_eq_false_iff_not, beq_iff_eq, bne_iff_ne, beq_eq_false_iff_ne, bne_eq_false_iff_eq, Bool.not_eq_true', Bool.not_eq_false'] at hc)
   obtain rfl : k = 16 := by omega
   refine bw_ (ap_ (ap_ (as_ (J3 _ _ (Sq fun K8 J8 => Rk fun K J => sE rfl (sQ (aH_ mE_ rfl (fun w hw => c2_ v l hD (by omega) w (SL.sl (hO.sl (List.sublist_append_left _ _)) hw))) rfl (sE rfl (nl J (J8 _ _ (W_ret (ret1 rfl (.inr rfl) rfl ?_)))))))))))
   exact jW_ hD (by rw [hdv, lI_ ha]) (hO.slf (List.sublist_append_left _ _))

theorem dc_  :
    Ret Tryz.prog 99 [] (RV Z.bad.enc) := by
 refine aM_ (N := 2) Tryz.func99 rfl rfl (by simp) (fun w0 => ?_)
 simp only [initF, Nat.reduceAdd]
 refine Sq fun K1 J1 => Rk fun K J => WL_r rfl (bb_ z_38 (fun b0 hb0 => nl J (J1 _ _ (Sq fun K2 J2 => Rk fun K J => sQ (e9_ z_38 pl_38 rfl (.cons rfl (vs := [.bool true]) rfl rfl (by simp [zR]) (z' := Z.bad.enc.cells) rfl (.nil _))) rfl ?_))))
 refine WL_r rfl (at_ ty_38 rfl rfl (by repeat (first | exact .head _ | apply Upd.left | apply Upd.tail)) rfl rfl (ar_ Z.bad.enc) (.inl (by assumption)) ?_)
 refine nl J (J2 _ _ (W_ret (ret1 rfl (.inr rfl) ⟨_, _, _, _, _, _, rfl, (by repeat (first | exact .head _ | apply List.mem_append_right | apply List.Mem.tail)), ty_38, _, (a1_ rfl), rfl, rfl⟩ ?_)))
 exact rfl

theorem dJ_ (r : R) (h : r.Ok) :
    Ret Tryz.prog 121 [RV r] (.bool r.valid) := by
 refine aM_ (N := 32) Tryz.func121 rfl rfl (by simp) (fun w0 => ?_)
 simp only [initF, Nat.reduceAdd]
 refine Sq fun K1 J1 => Rk fun K J => WL_r rfl (r_box rfl rfl (fun b1 hb1 => sE rfl (nl J (J1 _ _ (Sq fun K2 J2 => Rk fun K J => sE rfl (nl J (J2 _ _ (Sq fun K3 J3 => Sq fun K4 J4 => Rk fun K J => sE rfl (nl J (J4 _ _ (aq_ ?_)))))))))))
 refine aL_ [3, 4, 5, 6, 7, 8, 9, 10, 11, 12, 13, 14, 15, 16] (fun g nn M => ∃ (k : Nat) (z : Bool), (g 3 = .bool z ∧ g 4 = .int .i64 (k : Int)) ∧ M = [⟨b1, 38, r.cells⟩] ∧ nn = 16 - k ∧ (k ≤ 16 ∧ (z = true ↔ ∀ j, j < k → r.w.getD j 0 = 0))) (16) ?start ?round
 case start =>
  refine ⟨_, (List.Sublist.refl _), 0, true, ⟨?a3, ?a4⟩, ?mem0, rfl, ⟨Nat.zero_le _, ⟨fun _ j hj => by omega, fun _ => rfl⟩⟩⟩
  case mem0 => rfl
  case a3 => rfl
  case a4 => rfl
 case round =>
  rintro nn g M ⟨k, z, ⟨hg3, hg4⟩, rfl, hmeas, ⟨hk, hz⟩⟩
  subst nn
  simp only [setG, hg3, hg4]
  clear hg3 hg4
  refine Sq fun K5 J5 => Sq fun K6 J6 => Rk fun K J => sE rfl (sE rfl (nl J (J6 _ _ ?_)))
  refine be_ _ rfl (fun hc => ?_) (fun hc => ?_)
  ·(try simp only [decide_eq_true_eq, decide_eq_false_iff_not, beq_iff_eq, bne_iff_ne, beq_eq_false_iff_ne, bne_eq_false_iff_eq, Bool.not_eq_true', Bool.not_eq_false'] at hc)
   have hc : k < 16 := by omega
   refine am_ (J5 _ _ (Sq fun K7 J7 => aq_ (Rk fun K J => sE rfl (sE rfl ?_))))
   cases z
   ·skip
    refine WL_n rfl (WL_n rfl (WL_n rfl (WL_n rfl (WL_n rfl (sE rfl (sE rfl (nl J (J7 _ _ (Rk fun K J => sE rfl (sQ (q_as (q_add rfl rfl) (congrArg (Value.int .i64) (cH_ (by omega)))) rfl (sE rfl (nl J ?_))))))))))))
    refine ⟨(by repeat first | exact .refl | refine .cons rfl ?_), _, _, (List.Sublist.refl _), (by omega), k + 1, ?zz_1, ⟨?s3, ?s4⟩, ?mem, rfl, ⟨by omega, ?inv_1⟩⟩
    case mem => rfl
    case s3 => rfl
    case s4 => rfl
    first | exact la_ hz | exact mA_ hz
   ·skip
    refine sE rfl (sQ (aJ_ bB_ (by decide) rfl) rfl (sQ (bq_ ar_36 rfl rfl (by omega) (by omega)) rfl (sQ (bd_ ty_35 rfl (by repeat (first | exact .head _ | apply List.mem_append_right | apply List.Mem.tail)) (dI_ (r := r) (k := k) (by rw [h.len]; omega))) rfl ?_)))
    refine sE rfl (sE rfl (sE rfl (nl J (J7 _ _ (Rk fun K J => sE rfl (sQ (q_as (q_add rfl rfl) (congrArg (Value.int .i64) (cH_ (by omega)))) rfl (sE rfl (nl J ?_))))))))
    refine ⟨(by repeat first | exact .refl | refine .cons rfl ?_), _, _, (List.Sublist.refl _), (by omega), k + 1, ?zz_2, ⟨?s3, ?s4⟩, ?mem, rfl, ⟨by omega, ?inv_2⟩⟩
    case mem => rfl
    case s3 => rfl
    case s4 => rfl
    first | exact la_ hz | exact mA_ hz
  ·(try simp only [decide_eq_true_eq, decide_eq_false_iff_not, beq_iff_eq, bne_iff_ne, beq_eq_false_iff_ne, bne_eq_false_iff_eq, Bool.not_eq_true', Bool.not_eq_false'] at hc)
   obtain rfl : k = 16 := by omega
   obtain rfl : z = r.zero := pG_ h hz
   refine bw_ (ap_ (ap_ (as_ (J3 _ _ (Sq fun K8 J8 => Sq fun K9 J9 => Rk fun K J => sQ (aJ_ eu_ (by decide) rfl) rfl (sQ (bd_ ty_4 rfl (by repeat (first | exact .head _ | apply List.mem_append_right | apply List.Mem.tail)) rfl) rfl ?_))))))
   refine nl J (J9 _ _ ?_)
   refine be_ _ rfl (fun hb => ?_) (fun hb => ?_)
   ·(try simp only [decide_eq_true_eq, decide_eq_false_iff_not, beq_iff_eq, bne_iff_ne, beq_eq_false_iff_ne, bne_eq_false_iff_eq, Bool.not_eq_true', Bool.not_eq_false'] at hb)
    refine Sq fun K10 J10 => Rk fun K J => sE rfl (sE rfl ?_)
    cases hz0 : r.zero
    ·skip
     refine WL_n rfl (WL_n rfl (WL_n rfl (sE rfl (sE rfl (nl J (J10 _ _ (W_ret (aj_ (ret1 rfl (.inr rfl) rfl ?_)))))))))
     simp [R.valid, *]
    ·skip
     refine sQ (aJ_ ct_ (by decide) rfl) rfl (sQ (bd_ ty_4 rfl (by repeat (first | exact .head _ | apply List.mem_append_right | apply List.Mem.tail)) rfl) rfl ?_)
     refine sE rfl (sE rfl (sE rfl (nl J (J10 _ _ (W_ret (aj_ (ret1 rfl (.inr rfl) rfl ?_)))))))
     simp [R.valid, *]
   ·(try simp only [decide_eq_true_eq, decide_eq_false_iff_not, beq_iff_eq, bne_iff_ne, beq_eq_false_iff_ne, bne_eq_false_iff_eq, Bool.not_eq_true', Bool.not_eq_false'] at hb)
    refine am_ (J8 _ _ (Sq fun K11 J11 => Rk fun K J => sE rfl (sE rfl (sE rfl ?_))))
    cases hz0 : r.zero
    ·skip
     refine WL_n rfl (WL_n rfl (WL_n rfl (sE rfl (sE rfl (nl J (J11 _ _ (W_ret (ret1 rfl (.inr rfl) rfl ?_))))))))
     simp [R.valid, *]
    ·skip
     refine sQ (aJ_ ct_ (by decide) rfl) rfl (sQ (bd_ ty_4 rfl (by repeat (first | exact .head _ | apply List.mem_append_right | apply List.Mem.tail)) rfl) rfl ?_)
     refine sE rfl (sE rfl (sE rfl (nl J (J11 _ _ (W_ret (ret1 rfl (.inr rfl) rfl ?_))))))
     simp [R.valid, *]

theorem dS_ (r : R) (h : r.Ok) :
    Ret Tryz.prog 122 [RV r] (.bool r.good) := by
 refine aM_ (N := 12) Tryz.func122 rfl rfl (by simp) (fun w0 => ?_)
 simp only [initF, Nat.reduceAdd]
 refine Sq fun K1 J1 => Rk fun K J => WL_r rfl (r_box rfl rfl (fun b1 hb1 => sE rfl (nl J (J1 _ _ (Sq fun K2 J2 => Rk fun K J => sQ (aG_ ty_38 rfl (by repeat (first | exact .head _ | apply List.mem_append_right | apply List.Mem.tail)) (a0_ h)) rfl ?_)))))
 refine sQ (q_ret o7_ (dJ_ r h) rfl) rfl (sE rfl (nl J (J2 _ _ (Sq fun K3 J3 => Rk fun K J => sE rfl (sE rfl ?_)))))
 cases hv : r.valid
 ·skip
  refine WL_n rfl (WL_n rfl (WL_n rfl (sE rfl (sE rfl (nl J (J3 _ _ (W_ret (ret1 rfl (.inr rfl) rfl ?_))))))))
  simp [R.good, *]
 ·skip
  refine sQ (aJ_ eu_ (by decide) rfl) rfl (sQ (bd_ ty_4 rfl (by repeat (first | exact .head _ | apply List.mem_append_right | apply List.Mem.tail)) rfl) rfl ?_)
  refine sE rfl (sE rfl (sE rfl (nl J (J3 _ _ (W_ret (ret1 rfl (.inr rfl) rfl ?_))))))
  simp [R.good, *]

theorem dG_ (neg : Bool) (va : Value) (l : List Nat) (hD : DL l) (hn : l.length ≤ 1000) (w : World) (hva : Sl w va l) :
    Calls Tryz.prog 128 [.bool neg, va].toArray w (fun e w' => e = .returned (RV (Z.of (sgn neg (dv l))).enc) ∧ Ext w w') := by
 refine aU_ (N := 62) Tryz.func128 rfl rfl (by simp) ?_
 obtain ⟨w0, rfl⟩ : ∃ w0, w0 = w := ⟨_, rfl⟩
 simp only [initF, Nat.reduceAdd]
 have hu0 : ∀ M, SL w0 [] M (sls va (dl (dv l)).length) (dl (dv l)) := fun M => n8_ hD hva.old
 refine Sq fun K1 J1 => Rk fun K J => WL_r rfl (bb_ z_38 (fun b4 hb4 => nl J (J1 _ _ (Sq fun K2 J2 => Rk fun K J => sE rfl (sQ (aH_ mE_ rfl (fun w hw => c2_ va l hD hn w (SL.sl (M := _) hva.old hw))) rfl (sE rfl (nl J (J2 _ _ (Sq fun K3 J3 => Sq fun K4 J4 => Rk fun K J => sE rfl (sQ (gx_ sl_70 rfl (hu0 _)) rfl (sE rfl (nl J (J4 _ _ ?_)))))))))))))
 refine be_ _ rfl (fun hbig => ?_) (fun hbig => ?_)
 ·(try simp only [decide_eq_true_eq, decide_eq_false_iff_not, beq_iff_eq, bne_iff_ne, beq_eq_false_iff_ne, bne_eq_false_iff_eq, Bool.not_eq_true', Bool.not_eq_false'] at hbig)
  refine Sq fun K5 J5 => Rk fun K J => sQ (q_ret en_99 (dc_) rfl) rfl (WL_r rfl (at_ ty_38 rfl rfl (by repeat (first | exact .head _ | apply Upd.left | apply Upd.tail)) (ag_ _) rfl (ar_ _) (.inl (by assumption)) ?_))
  refine nl J (J5 _ _ (W_ret (aj_ (ret1 rfl (.inr rfl) ⟨_, _, _, _, _, _, rfl, (by repeat (first | exact .head _ | apply List.mem_append_right | apply List.Mem.tail)), ty_38, _, (a1_ (ag_ _)), (ag_ _), rfl⟩ ?_))))
  exact lR_ (by omega)
 ·(try simp only [decide_eq_true_eq, decide_eq_false_iff_not, beq_iff_eq, bne_iff_ne, beq_eq_false_iff_ne, bne_eq_false_iff_eq, Bool.not_eq_true', Bool.not_eq_false'] at hbig)
  have hlen : (dl (dv l)).length ≤ 32 := by omega
  refine am_ (J3 _ _ ?_)
  refine bD_ [6, 14, 15, 16, 17, 18, 19, 20] (fun g M => ∃ (b6 : Nat), (g 6 = .pointer (some ⟨b6, 0, none⟩)) ∧ M = ⟨b6, 38, R.cells (R.mk false (neg && decide ((0 : Int) < ((dl (dv l)).length : Int))) (List.replicate 16 0))⟩ :: [⟨b4, 38, zR⟩] ∧ (w0.heap.size ≤ b6)) (fun K6 J6 => ?_) ?_
  ·skip
   refine Rk fun K J => sE rfl (sE rfl ?_)
   cases neg
   ·skip
    refine WL_n rfl (WL_n rfl (WL_n rfl (sE rfl (sQ (e9_ z_38 pl_38 rfl (oS_ _)) rfl (WL_r rfl (bb_ z_38 (fun b6 hb6 => WL_r rfl (at_ ty_38 rfl rfl (by repeat (first | exact .head _ | apply Upd.left | apply Upd.tail)) (by simp [R.cells, bX_]) rfl (ar_ _) (.inl (by assumption)) ?_))))))))
    refine nl J ?_
    refine J6 _ _ (by repeat first | exact .refl | refine .cons rfl ?_) ⟨_, (List.Sublist.refl _), _, ?s6, ?mem, hb6⟩
    case mem => rfl
    case s6 => rfl
   ·skip
    refine sE rfl (sQ (gx_ sl_70 rfl (hu0 _)) rfl (sE rfl (sE rfl (sQ (e9_ z_38 pl_38 rfl (oS_ _)) rfl (WL_r rfl (bb_ z_38 (fun b6 hb6 => WL_r rfl (at_ ty_38 rfl rfl (by repeat (first | exact .head _ | apply Upd.left | apply Upd.tail)) (by simp [R.cells, bX_]) rfl (ar_ _) (.inl (by assumption)) ?_))))))))
    refine nl J ?_
    refine J6 _ _ (by repeat first | exact .refl | refine .cons rfl ?_) ⟨_, (List.Sublist.refl _), _, ?s6, ?mem, hb6⟩
    case mem => rfl
    case s6 => rfl
  ·skip
   rintro g M ⟨b6, hg6, rfl, hb6⟩
   simp only [setG, hg6]
   clear hg6
   refine Sq fun K7 J7 => Sq fun K8 J8 => Rk fun K J => sE rfl (nl J (J8 _ _ (aq_ ?_)))
   refine aL_ [7, 21, 22, 23, 24, 25, 26, 27, 28, 29, 30, 31, 32, 33, 34, 35, 36, 37, 38, 39, 40, 41, 42, 43, 44, 45, 46, 47, 48, 49, 50, 51, 52, 53, 54, 55, 56, 57, 58, 59, 60] (fun g nn M => ∃ (k : Nat) (ws : List Nat), (g 7 = .int .i64 (k : Int)) ∧ M = ⟨b6, 38, R.cells (R.mk false (neg && decide ((0 : Int) < ((dl (dv l)).length : Int))) ws)⟩ :: [⟨b4, 38, zR⟩] ∧ nn = (dl (dv l)).length - k ∧ (k ≤ (dl (dv l)).length ∧ NumIn (dv l) k ws)) ((dl (dv l)).length - 0) ?start ?round
   case start =>
    refine ⟨_, (List.Sublist.refl _), 0, _, ?a7, ?mem0, rfl, ⟨Nat.zero_le _, NumIn.start _⟩⟩
    case mem0 => rfl
    case a7 => rfl
   case round =>
    rintro nn g M ⟨k, ws, hg7, rfl, hmeas, ⟨hk, hI⟩⟩
    subst nn
    simp only [setG, hg7]
    clear hg7
    refine Sq fun K9 J9 => Sq fun K10 J10 => Rk fun K J => sE rfl (sE rfl (sQ (gx_ sl_70 rfl (hu0 _)) rfl (sE rfl (nl J (J10 _ _ ?_)))))
    refine be_ _ rfl (fun hc => ?_) (fun hc => ?_)
    ·(try simp only [decide_eq_true_eq, decide_eq_false_iff_not, beq_iff_eq, bne_iff_ne, beq_eq_false_iff_ne, bne_eq_false_iff_eq, Bool.not_eq_true', Bool.not_eq_false'] at hc)
     have hk32 : k < 32 := by omega
     refine am_ (J9 _ _ (Sq fun K11 J11 => aq_ (Sq fun K12 J12 => Rk fun K J => sE rfl (sQ (q_as (q_rem rfl rfl (by decide)) (congrArg (Value.int .i64) (rem2 k))) rfl (sE rfl (nl J (J12 _ _ ?_)))))))
     refine be_ _ rfl (fun hpar => ?_) (fun hpar => ?_)
     ·(try simp only [decide_eq_true_eq, decide_eq_false_iff_not, beq_iff_eq, bne_iff_ne, beq_eq_false_iff_ne, bne_eq_false_iff_eq, Bool.not_eq_true', Bool.not_eq_false'] at hpar)
      have hpar : k % 2 = 0 := by omega
      have hz := (hI.even hpar hk32).2
      refine dr (sd (sk (s0))) [0,4,8,12,16,20,24,28,32,36,40,44,48,52,56,61] [15] mix (by kernel_rfl) (fun K J => pE rfl (pQ rfl (q_as (q_quo rfl rfl (by decide)) (congrArg (Value.int .i64) (quo2 k (by omega)))) (pE rfl (pQ rfl (q_as (q_quo rfl rfl (by decide)) (congrArg (Value.int .i64) (quo2 k (by omega)))) (pQ rfl (aJ_ bB_ (by decide) rfl) (pQ rfl (bq_ ar_36 rfl rfl (by omega) (by omega)) (pQ rfl (bd_ ty_35 rfl (by repeat (first | exact .head _ | apply List.mem_append_right | apply List.Mem.tail)) (dI_ (r := R.mk false (neg && decide ((0 : Int) < ((dl (dv l)).length : Int))) ws) (k := k / 2) (by simp only [hI.len]; omega))) ?_)))))))
      refine pE rfl (pE rfl (pQ rfl (lD_ sl_70 rfl rfl (hu0 _) (by omega)) (pQ rfl (iU_ ty_3 rfl (hu0 _) (by omega)) (pQ rfl (a3_ in_3 in_35 rfl) (pQ rfl (q_as (q_add rfl rfl) (show _ = U32 (dg (dv l) k) by rw [(hI.even hpar hk32).1, km_]; exact nN_ (dg_lt _ _))) (pQ rfl (aJ_ bB_ (by decide) rfl) (pQ rfl (bq_ ar_36 rfl rfl (by omega) (by omega)) ?_)))))))
      refine PL_o rfl rfl (lm_ (k := k / 2) ty_35 rfl rfl (by repeat (first | exact .head _ | apply Upd.left | apply Upd.tail)) (by rw [hI.len]; omega) (.inl (by assumption)) ⟨nf, (by repeat (first | exact s0 | exact sn | refine sk ?_ | refine sd ?_ | refine sA ?_ | refine sR ?_)), ?_⟩)
      refine fl J (J11 _ _ (Rk fun K J => sE rfl (sQ (q_as (q_add rfl rfl) (congrArg (Value.int .i64) (cH_ (by omega)))) rfl (sE rfl (nl J ?_)))))
      refine ⟨(by repeat first | exact .refl | refine .cons rfl ?_), _, _, (List.Sublist.refl _), (by omega), k + 1, _, ?s7, ?mem, rfl, ⟨by omega, hz⟩⟩
      case mem => rfl
      case s7 => rfl
     ·(try simp only [decide_eq_true_eq, decide_eq_false_iff_not, beq_iff_eq, bne_iff_ne, beq_eq_false_iff_ne, bne_eq_false_iff_eq, Bool.not_eq_true', Bool.not_eq_false'] at hpar)
      have hpar : ¬ k % 2 = 0 := by omega
      have hz := (hI.odd hpar hk32).2
      refine dr (sd (sk (s0))) [0,4,8,12,16,20,24,28,32,36,40,44,48,52,56,60,65] [16] mix (by kernel_rfl) (fun K J => pE rfl (pQ rfl (q_as (q_quo rfl rfl (by decide)) (congrArg (Value.int .i64) (quo2 k (by omega)))) (pE rfl (pQ rfl (q_as (q_quo rfl rfl (by decide)) (congrArg (Value.int .i64) (quo2 k (by omega)))) (pQ rfl (aJ_ bB_ (by decide) rfl) (pQ rfl (bq_ ar_36 rfl rfl (by omega) (by omega)) (pQ rfl (bd_ ty_35 rfl (by repeat (first | exact .head _ | apply List.mem_append_right | apply List.Mem.tail)) (dI_ (r := R.mk false (neg && decide ((0 : Int) < ((dl (dv l)).length : Int))) ws) (k := k / 2) (by simp only [hI.len]; omega))) ?_)))))))
      refine pE rfl (pE rfl (pQ rfl (lD_ sl_70 rfl rfl (hu0 _) (by omega)) (pQ rfl (iU_ ty_3 rfl (hu0 _) (by omega)) (pQ rfl (a3_ in_3 in_35 rfl) (pE rfl (pQ rfl (q_as (q_add rfl rfl) (show _ = U32 (ws.getD (k / 2) 0 + dg (dv l) k * 65536) by rw [km_]; exact pU_ (hI.odd hpar hk32).1 (dg_lt _ _))) (pQ rfl (aJ_ bB_ (by decide) rfl) (pQ rfl (bq_ ar_36 rfl rfl (by omega) (by omega)) ?_))))))))
      refine PL_o rfl rfl (lm_ (k := k / 2) ty_35 rfl rfl (by repeat (first | exact .head _ | apply Upd.left | apply Upd.tail)) (by rw [hI.len]; omega) (.inl (by assumption)) ⟨nf, (by repeat (first | exact s0 | exact sn | refine sk ?_ | refine sd ?_ | refine sA ?_ | refine sR ?_)), ?_⟩)
      refine fl J (J11 _ _ (Rk fun K J => sE rfl (sQ (q_as (q_add rfl rfl) (congrArg (Value.int .i64) (cH_ (by omega)))) rfl (sE rfl (nl J ?_)))))
      refine ⟨(by repeat first | exact .refl | refine .cons rfl ?_), _, _, (List.Sublist.refl _), (by omega), k + 1, _, ?s7, ?mem, rfl, ⟨by omega, hz⟩⟩
      case mem => rfl
      case s7 => rfl
    ·(try simp only [decide_eq_true_eq, decide_eq_false_iff_not, beq_iff_eq, bne_iff_ne, beq_eq_false_iff_ne, bne_eq_false_iff_eq, Bool.not_eq_true', Bool.not_eq_false'] at hc)
     obtain rfl : k = (dl (dv l)).length := by omega
     refine bw_ (ap_ (ap_ (as_ (J7 _ _ (Sq fun K13 J13 => Rk fun K J => sQ (aG_ ty_38 rfl (by repeat (first | exact .head _ | apply List.mem_append_right | apply List.Mem.tail)) (by simp [R.cells, bX_, hI.len])) rfl ?_)))))
     refine WL_r rfl (at_ ty_38 rfl rfl (by repeat (first | exact .head _ | apply Upd.left | apply Upd.tail)) (by simp [R.cells, bX_, hI.len]) rfl (ar_ _) (.inl (by assumption)) ?_)
     refine nl J (J13 _ _ (W_ret (ret1 rfl (.inr rfl) ⟨_, _, _, _, _, _, rfl, (by repeat (first | exact .head _ | apply List.mem_append_right | apply List.Mem.tail)), ty_38, _, (a1_ (by simp [R.cells, bX_, hI.len])), (by simp [R.cells, bX_, hI.len]), rfl⟩ ?_)))
     exact lH_ hI
end Go.Proofs.YtjdfogfmeibkgaaGreat

namespace Go.Proofs.YtjdfogfmeibkgaaGreat
open Go.Kn Go.Num
set_option linter.unusedVariables false
set_option linter.unusedSimpArgs false
set_option maxRecDepth 20000
set_option maxHeartbeats 8000000
theorem fp_ (va vb : Value) (la lb : List Nat) (hDa : DL la) (hDb : DL lb) (hna : la.length ≤ 200) (hnb : lb.length ≤ 200) (w : World) (hva : Sl w va la) (hvb : Sl w vb lb) :
    Calls Tryz.prog 129 [va, vb].toArray w (fun e w' => ∃ v, e = .returned v ∧ Ext w w' ∧ Slf w.heap.size w' v (dl (dv la + dv lb))) := by
 refine gZ_ (N := 37) Tryz.func129 rfl rfl (by simp) ?_
 obtain ⟨w0, rfl⟩ : ∃ w0, w0 = w := ⟨_, rfl⟩
 simp only [initF, Nat.reduceAdd]
 refine Sq fun K1 J1 => Rk fun K J => sE rfl (nl J (J1 _ _ (Sq fun K2 J2 => Rk fun K J => sE rfl (nl J (J2 _ _ (Sq fun K3 J3 => Rk fun K J => sE rfl (nl J (J3 _ _ (Sq fun K4 J4 => Sq fun K5 J5 => Rk fun K J => sE rfl (nl J ?_))))))))))
 refine J5 _ _ (aq_ ?_)
 refine aL_ [5, 6, 7, 8, 9, 10, 11, 12, 13, 14, 15, 16, 17, 18, 19, 20, 21, 22, 23, 24, 25, 26, 27, 28, 29, 30, 31, 32, 33, 34] (fun g nn M => ∃ (k : Nat) (v : Value) (l : List Nat) (L : List Blk), (g 5 = v ∧ g 6 = .int .i64 ((cD (dv la) (dv lb) k : Nat) : Int) ∧ g 7 = .int .i64 (k : Int)) ∧ M = L ++ [] ∧ nn = max la.length lb.length + 1 - k ∧ (k ≤ max la.length lb.length + 1 ∧ OwnL w0 3 v l L ∧ DL l ∧ l.length = k ∧ dv l = (dv la + dv lb) % 65536 ^ k)) (max la.length lb.length + 1 - 0) ?start ?round
 case start =>
  refine ⟨_, (List.Sublist.refl _), 0, _, [], [], ⟨?a5, ?a6, ?a7⟩, ?mem0, rfl, ⟨Nat.zero_le _, .nil, DL.nil, rfl, by simp [dv, Nat.mod_one]⟩⟩
  case mem0 => rfl
  case a5 => rfl
  case a6 => rw [pZ_]; rfl
  case a7 => rfl
 case round =>
  rintro nn g M ⟨k, v, l, L, ⟨hg5, hg6, hg7⟩, rfl, hmeas, ⟨hk, hO, hD, hlen, hdv⟩⟩
  subst nn
  simp only [setG, hg5, hg6, hg7]
  clear hg5 hg6 hg7
  refine Sq fun K6 J6 => Sq fun K7 J7 => Rk fun K J => sE rfl (sE rfl (sQ (gx_ sl_70 rfl hva.old) rfl (sE rfl (sQ (gx_ sl_70 rfl hvb.old) rfl (sQ (rd_ rfl rfl) rfl (sQ (q_as (q_add rfl rfl) (congrArg (Value.int .i64) (cH_ (by omega)))) rfl (sE rfl (nl J (J7 _ _ ?_)))))))))
  refine be_ _ rfl (fun hc => ?_) (fun hc => ?_)
  ·(try simp only [decide_eq_true_eq, decide_eq_false_iff_not, beq_iff_eq, bne_iff_ne, beq_eq_false_iff_ne, bne_eq_false_iff_eq, Bool.not_eq_true', Bool.not_eq_false'] at hc)
   have hc : k < max la.length lb.length + 1 := by omega
   refine am_ (J6 _ _ (Sq fun K8 J8 => aq_ (Sq fun K9 J9 => Rk fun K J => sE rfl (sE rfl (sQ (aH_ m1_ rfl (fun w hw => cR_ va la k w (SL.sl (M := _) hva.old hw))) rfl (sE rfl (sE rfl (sQ (aH_ m1_ rfl (fun w hw => cR_ vb lb k w (SL.sl (M := _) hvb.old hw))) rfl (sE rfl (sE rfl (sQ (q_as (q_add rfl rfl) (congrArg (Value.int .i64) ((show _ = ((cD (dv la) (dv lb) k + dg (dv la) k + dg (dv lb) k : Nat) : Int) by rw [hl_ la k hDa, hl_ lb k hDb]; exact add3 (dg_lt _ _) (dg_lt _ _) (cD_le _ _ _))))) rfl (sE rfl (nl J (J9 _ _ (Sq fun K10 J10 => Rk fun K J => ?_)))))))))))))))
   refine sE rfl (sE rfl (sQ (q_as (q_rem rfl rfl (by decide)) (remI _)) rfl (WL_r rfl (cS_ us_70 z_3 sz_3 rfl (by decide) rfl (oJ_ _) (fun b31 hb31 => WL_r rfl (kS_ us_70 on_3 rfl rfl hO (SL.mine (l := [(cD (dv la) (dv lb) k + dg (dv la) k + dg (dv lb) k) % 65536]) (.head _) (Nat.le_refl _)) (List.sublist_cons_self _ _) (by simp; omega) (fun v' L' hO' => ?_)))))))
   refine sE rfl (nl J (J10 _ _ (Rk fun K J => sE rfl (sQ (q_as (q_quo rfl rfl (by decide)) (congrArg (Value.int .i64) (quoI (by have := cD_le (dv la) (dv lb) k; have := dg_lt (dv la) k; have := dg_lt (dv lb) k; omega)))) rfl (sE rfl (nl J (J8 _ _ (Rk fun K J => sE rfl (sQ (q_as (q_add rfl rfl) (congrArg (Value.int .i64) (cH_ (by omega)))) rfl (sE rfl (nl J ?_)))))))))))
   refine ⟨(by repeat first | exact .refl | refine .cons rfl ?_), _, _, (List.Sublist.refl _), (by omega), k + 1, _, _, _, ⟨?s5, ?s6, ?s7⟩, ?mem, rfl, ⟨by omega, hO', hD.append (DL.one (Nat.mod_lt _ (by decide))), by simp [hlen], lU_ hlen hdv⟩⟩
   case mem => rfl
   case s5 => rfl
   case s6 => rw [← kk_]; rfl
   case s7 => rfl
  ·(try simp only [decide_eq_true_eq, decide_eq_false_iff_not, beq_iff_eq, bne_iff_ne, beq_eq_false_iff_ne, bne_eq_false_iff_eq, Bool.not_eq_true', Bool.not_eq_false'] at hc)
   obtain rfl : k = max la.length lb.length + 1 := by omega
   refine bw_ (ap_ (ap_ (as_ (J4 _ _ (Sq fun K11 J11 => Rk fun K J => sE rfl (sQ (aH_ mE_ rfl (fun w hw => c2_ v l hD (by omega) w (SL.sl (hO.sl (List.sublist_append_left _ _)) hw))) rfl (sE rfl (nl J (J11 _ _ (W_ret (ret1 rfl (.inr rfl) rfl ?_)))))))))))
   exact jW_ hD (by rw [hdv, nD_ hDa hDb]) (hO.slf (List.sublist_append_left _ _))

end Go.Proofs.YtjdfogfmeibkgaaGreat

namespace Go.Proofs.YtjdfogfmeibkgaaGreat
open Go.Kn Go.Num
set_option linter.unusedVariables false
set_option linter.unusedSimpArgs false
set_option maxRecDepth 20000
set_option maxHeartbeats 8000000
theorem fV_ (n : Int) (hn : I64 n) :
    Ret Tryz.prog 81 [.int .i64 n] (RV (Z.of n).enc) := by
 refine aM_ (N := 35) Tryz.func81 rfl rfl (by simp) (fun w0 => ?_)
 simp only [initF, Nat.reduceAdd]
 unfold I64 at hn
 refine Sq fun K1 J1 => Rk fun K J => WL_r rfl (bb_ z_38 (fun b2 hb2 => nl J (J1 _ _ (Sq fun K2 J2 => Sq fun K3 J3 => Rk fun K J => sE rfl (sE rfl (nl J (J3 _ _ ?_)))))))
 refine be_ _ rfl (fun h0 => ?_) (fun h0 => ?_)
 ·(try simp only [decide_eq_true_eq, decide_eq_false_iff_not, beq_iff_eq, bne_iff_ne, beq_eq_false_iff_ne, bne_eq_false_iff_eq, Bool.not_eq_true', Bool.not_eq_false'] at h0)
  obtain ⟨m, rfl⟩ : ∃ m : Nat, n = m := ⟨n.toNat, by omega⟩
  refine Sq fun K4 J4 => Rk fun K J => sE rfl (sQ (q_as (q_rem rfl rfl (by decide)) (show _ = IV (m % 65536) from remI _)) rfl (sE rfl (sQ (q_as (q_quo rfl rfl (by decide)) (quo_c 65536 (by omega))) rfl (sQ (q_as (q_rem rfl rfl (by decide)) (show _ = IV (m / 65536 % 65536) from remI _)) rfl (sE rfl (sQ (q_as (q_quo rfl rfl (by decide)) (quo_c 4294967296 (by omega))) rfl (sQ (q_as (q_rem rfl rfl (by decide)) (show _ = IV (m / 4294967296 % 65536) from remI _)) rfl (sE rfl (sQ (q_as (q_quo rfl rfl (by decide)) (quo_c 281474976710656 (by omega))) rfl (WL_r rfl (cS_ us_70 z_3 sz_3 rfl (by decide) rfl (o0_ _ _ _ _) (fun b16 hb16 => sQ (aH_ oA_ rfl (fun w hw => dG_ false _ (dl4 m) (oK_ (by omega)) (by simp [dl4]) w (SL.sl (SL.mine (l := dl4 m) (.head _) (Nat.le_refl _)) hw))) rfl ?_))))))))))))
  refine WL_r rfl (at_ ty_38 rfl rfl (by repeat (first | exact .head _ | apply Upd.left | apply Upd.tail)) (ag_ _) rfl (ar_ _) (.inl (by assumption)) ?_)
  refine nl J (J4 _ _ (W_ret (aj_ (ret1 rfl (.inr rfl) ⟨_, _, _, _, _, _, rfl, (by repeat (first | exact .head _ | apply List.mem_append_right | apply List.Mem.tail)), ty_38, _, (a1_ (ag_ _)), (ag_ _), rfl⟩ ?_))))
  (rw [nv_, sgn_f]; rfl)
 ·(try simp only [decide_eq_true_eq, decide_eq_false_iff_not, beq_iff_eq, bne_iff_ne, beq_eq_false_iff_ne, bne_eq_false_iff_eq, Bool.not_eq_true', Bool.not_eq_false'] at h0)
  obtain ⟨m, rfl⟩ : ∃ m : Nat, n = -((m : Int) + 1) := ⟨(-n - 1).toNat, by omega⟩
  refine am_ (J2 _ _ (Sq fun K5 J5 => Rk fun K J => sE rfl (sE rfl (sQ (q_as (q_neg rfl) (congrArg (Value.int .i64) (px_ (by omega)))) rfl (sE rfl (nl J (J5 _ _ (Sq fun K6 J6 => Rk fun K J => sE rfl (sQ (q_as (q_rem rfl rfl (by decide)) (show _ = IV (m % 65536) from remI _)) rfl (sE rfl (sQ (q_as (q_quo rfl rfl (by decide)) (quo_c 65536 (by omega))) rfl (sQ (q_as (q_rem rfl rfl (by decide)) (show _ = IV (m / 65536 % 65536) from remI _)) rfl (sE rfl (sQ (q_as (q_quo rfl rfl (by decide)) (quo_c 4294967296 (by omega))) rfl (sQ (q_as (q_rem rfl rfl (by decide)) (show _ = IV (m / 4294967296 % 65536) from remI _)) rfl ?_)))))))))))))))
  refine sE rfl (sQ (q_as (q_quo rfl rfl (by decide)) (quo_c 281474976710656 (by omega))) rfl (WL_r rfl (cS_ us_70 z_3 sz_3 rfl (by decide) rfl (o0_ _ _ _ _) (fun b31 hb31 => WL_r rfl (cS_ us_70 z_3 sz_3 rfl (by decide) rfl (oJ_ 1) (fun b32 hb32 => WL_r rfl (hU_ qH_ rfl (fun w hw => fp_ _ _ (dl4 m) [1] (oK_ (by omega)) (DL.one (by decide)) (by simp [dl4]) (by simp) w (SL.sl (SL.mine (l := dl4 m) (.tail _ (.head _)) (Nat.le_refl _)) hw) (SL.sl (SL.mine (l := [1]) (.head _) (Nat.le_refl _)) hw)) (fun v9 L9 h9 => ?_))))))))
  refine sQ (aH_ oA_ rfl (fun w hw => dG_ true _ _ (dl_DL _) (Nat.le_trans (kU_ (k := 64) (by rw [nv_]; simp only [dv]; omega)) (by decide)) w (SL.sl (h9.sl.sub (List.sublist_append_left _ _)) hw))) rfl (WL_r rfl (at_ ty_38 rfl rfl (by repeat (first | exact .head _ | apply Upd.left | apply Upd.tail)) (ag_ _) rfl (ar_ _) (.inl (by assumption)) ?_))
  refine nl J (J6 _ _ (W_ret (ret1 rfl (.inr rfl) ⟨_, _, _, _, _, _, rfl, (by repeat (first | exact .head _ | apply List.mem_append_right | apply List.Mem.tail)), ty_38, _, (a1_ (ag_ _)), (ag_ _), rfl⟩ ?_)))
  (rw [dv_dl, nv_]; simp only [dv, Nat.mul_zero, Nat.add_zero]; rw [sgn_S]; rfl)
end Go.Proofs.YtjdfogfmeibkgaaGreat


set_option linter.unusedVariables false
set_option linter.unusedSimpArgs false
namespace Go.Num
open Go Go.Kn
theorem len0 (n : Nat) : ((((dl n).length : Nat) : Int) == 0) = (n == 0) := by
  rw [Bool.eq_iff_iff, beq_iff_eq, beq_iff_eq]
  constructor
  · intro h; exact q5_.1 (by omega)
  · intro h; rw [q5_.2 h]; rfl
theorem e6_ (a : I) : b0_ a = Z.signW a.dec := by
  unfold b0_
  rw [len0]
  apply Subtype.ext
  show _ = a.1.dec.sign
  cases hg : a.1.good
  · simp only [Bool.not_false, Bool.true_or, cond_true]; exact gB_ a.2 (.inl hg)
  · cases hz : (val a.1.w == 0)
    · simp only [Bool.not_true, Bool.false_or, cond_false]
      rw [pf_ a.2 hg (by simpa using hz)]
      cases a.1.neg <;> rfl
    · simp only [Bool.or_true, cond_true]; exact gB_ a.2 (.inr hz)
end Go.Num

namespace Go.Proofs.YtjdfogfmeibkgaaGreat
open Go.Kn Go.Num
set_option linter.unusedVariables false
set_option linter.unusedSimpArgs false
set_option maxRecDepth 20000
set_option maxHeartbeats 8000000
end Go.Proofs.YtjdfogfmeibkgaaGreat

namespace Go.Proofs.YtjdfogfmeibkgaaGreat
open Go.Kn Go.Num
set_option linter.unusedVariables false
set_option linter.unusedSimpArgs false
set_option maxRecDepth 20000
set_option maxHeartbeats 8000000
theorem fn_ (a : I) :
    Ret Tryz.prog 71 [AV [pI a]] (.int .i64 ((b0_ a).1)) := by
 refine aM_ (N := 14) Tryz.func71 rfl rfl (by simp) (fun w0 => ?_)
 simp only [initF, Nat.reduceAdd]
 refine Rs fun K J => WL_r rfl (cG_ rfl rfl (fun b1 hb1 => sE rfl (nl J (Sq fun K1 J1 => ?_))))
 refine bD_ [3, 4, 5, 6, 7, 8, 9, 10, 11] (fun g M => (g 11 = .bool (!a.1.good || ((((dl (val a.1.w)).length : Nat) : Int) == 0))) ∧ M = [⟨b1, 38, flat [pI a]⟩]) (fun K2 J2 => ?_) ?_
 ·skip
  refine Rk fun K J => sQ (qL ty_38 rfl m0 rfl) rfl (sC (.bool a.1.good) oV_ (dS_ a.1 a.2) rfl rfl rfl (sE rfl ?_))
  rcases bt a.1.good with h4 | h4
  ·skip
   refine sB (not_f h4) rfl (sQ (qL ty_38 rfl m0 rfl) rfl (WL_r rfl (hU_ oW_ rfl (fun w hw => dD_ a.1 a.2 w) (fun vl5 Ll5 kl5 => ?_))))
   try simp only [dv_dl, qu_] at kl5
   refine sQ (q_as (v' := .int .i64 (((dl (val a.1.w)).length : Nat) : Int)) (gx_ sl_70 rfl (SL.sub kl5.sl (List.sublist_append_left _ _))) rfl) rfl (sE rfl (sE rfl (nl J ?_)))
   refine J2 _ _ (by repeat first | exact .refl | refine .cons rfl ?_) ⟨_, (sR (s0)), ?s11, rfl⟩
   case s11 => exact congrArg Value.bool (nor_t h4 rfl)
  ·skip
   refine sB (not_t h4) rfl (WL_n rfl (WL_n rfl (WL_n rfl (WL_n rfl (sE rfl (nl J ?_))))))
   refine J2 _ _ (by repeat first | exact .refl | refine .cons rfl ?_) ⟨_, s0, ?s11, rfl⟩
   case s11 => exact congrArg Value.bool (nor_f h4)
 ·skip
  rintro g6 M ⟨hg11, rfl⟩
  simp only [setG, hg11]
  clear hg11
  rcases bt (!a.1.good || ((((dl (val a.1.w)).length : Nat) : Int) == 0)) with h7 | h7
  ·skip
   refine W_t h7 rfl (Rs fun K J => sE rfl (nl J (W_ret (aj_ (ret1 rfl (.inr rfl) rfl ?_)))))
   exact (by exact congrArg (fun r : W => (.int .i64 r.1 : Value)) (show _ = (b0_ a) from bif_t h7 rfl))
  ·skip
   refine W_f h7 rfl (am_ (J1 _ _ (Sq fun K3 J3 => Rs fun K J => sQ (qF ct_ rfl rfl) rfl (sQ (qC ty_4 rfl m0 rfl) rfl (nl J ?_)))))
   rcases bt a.1.neg with h8 | h8
   ·skip
    refine W_t h8 rfl (Rs fun K J => sE rfl (nl J (W_ret (aj_ (ret1 rfl (.inr rfl) rfl ?_)))))
    exact (by exact congrArg (fun r : W => (.int .i64 r.1 : Value)) (show _ = (b0_ a) from bif_f h7 (bif_t h8 rfl)))
   ·skip
    refine W_f h8 rfl (am_ (J3 _ _ (Rs fun K J => sE rfl (nl J (W_ret (ret1 rfl (.inr rfl) rfl ?_))))))
    exact (by exact congrArg (fun r : W => (.int .i64 r.1 : Value)) (show _ = (b0_ a) from bif_f h7 (bif_f h8 rfl)))
theorem dT_ (a : R) (ha : a.Ok) : Ret Tryz.prog 71 [RV a] (.int .i64 a.dec.sign) := by
  have h := fn_ ⟨a, ha⟩
  rw [e6_] at h
  exact h

end Go.Proofs.YtjdfogfmeibkgaaGreat

namespace Go.Proofs.YtjdfogfmeibkgaaGreat
open Go.Kn Go.Num
set_option linter.unusedVariables false
set_option linter.unusedSimpArgs false
set_option maxRecDepth 20000
set_option maxHeartbeats 8000000
end Go.Proofs.YtjdfogfmeibkgaaGreat

