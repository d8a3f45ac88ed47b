/- Walks: what these functions return. What the reference's operations on whole numbers compute is what they should. No program stands in it. -/
import Derived.Test.YtjdfogfmeibkgaaGreatUGE
namespace Go.Proofs.YtjdfogfmeibkgaaGreat
open Go.Kn Go.Num
set_option linter.unusedVariables false
set_option linter.unusedSimpArgs false
set_option maxRecDepth 20000
set_option maxHeartbeats 8000000
theorem cE_ (va : Value) (l : List Nat) (k : Nat) (w : World) (hva : Sl w va l) :
    Calls Tryz.prog 153 [va, .int .i64 (k : Int)].toArray w (fun e w' => e = .returned (.int .i64 ((l.getD k 0 : Nat) : Int)) ∧ Ext w w') := by
 refine aO_ (N := 13) Tryz.func153 rfl rfl (by simp) ?_
 obtain ⟨w0, rfl⟩ : ∃ w0, w0 = w := ⟨_, rfl⟩
 simp only [initF, Nat.reduceAdd]
 refine Sq fun K1 J1 => Rk fun K J => sE rfl (nl J (J1 _ _ (Sq fun K2 J2 => Sq fun K3 J3 => Rk fun K J => sE rfl (sE rfl (sQ (fO_ sl_70 rfl hva.old) rfl (sE rfl (nl J (J3 _ _ ?_))))))))
 refine a7_ _ rfl (fun hk => ?_) (fun hk => ?_)
 ·(try simp only [decide_eq_true_eq, decide_eq_false_iff_not, beq_iff_eq, bne_iff_ne, beq_eq_false_iff_ne, bne_eq_false_iff_eq, Bool.not_eq_true', Bool.not_eq_false'] at hk)
  refine Sq fun K4 J4 => Rk fun K J => sE rfl (sE rfl (sQ (jr_ sl_70 rfl rfl hva.old (by omega)) rfl (sQ (h6_ ty_3 rfl hva.old (by omega)) rfl (sE rfl (nl J (J4 _ _ (W_ret (ag_ (ret1 rfl (.inr rfl) rfl ?_)))))))))
  exact rfl
 ·(try simp only [decide_eq_true_eq, decide_eq_false_iff_not, beq_iff_eq, bne_iff_ne, beq_eq_false_iff_ne, bne_eq_false_iff_eq, Bool.not_eq_true', Bool.not_eq_false'] at hk)
  refine al_ (J2 _ _ (Sq fun K5 J5 => Rk fun K J => sE rfl (nl J (J5 _ _ (W_ret (ret1 rfl (.inr rfl) rfl ?_))))))
  exact congrArg (fun n : Nat => Value.int .i64 (n : Int)) (show 0 = l.getD k 0 by simp [List.getD, List.getElem?_eq_none (show l.length ≤ k by omega)])

theorem cJ_ (va : Value) (l : List Nat) (hD : DL l) (hn : l.length ≤ 1000) (w : World) (hva : Sl w va l) :
    Calls Tryz.prog 152 [va].toArray w (fun e w' => e = .returned (sls va (dl (dv l)).length) ∧ Ext w w') := by
 refine aO_ (N := 21) Tryz.func152 rfl rfl (by simp) ?_
 obtain ⟨w0, rfl⟩ : ∃ w0, w0 = w := ⟨_, rfl⟩
 simp only [initF, Nat.reduceAdd]
 refine Sq fun K1 J1 => Rk fun K J => sE rfl (nl J (J1 _ _ (Sq fun K2 J2 => Rk fun K J => sE rfl (sQ (fO_ sl_70 rfl hva.old) rfl (sE rfl (nl J (J2 _ _ (Sq fun K3 J3 => am_ ?_))))))))
 refine aB_ [3, 6, 7, 8, 9, 10, 11, 12, 13, 14, 15, 16, 17] (fun g nn M => ∃ (k : Nat), (g 3 = .int .i64 (k : Int)) ∧ M = [] ∧ nn = k + 0 ∧ (k ≤ l.length ∧ ∀ j, k ≤ j → l.getD j 0 = 0)) (l.length) ?start ?round
 case start =>
  refine ⟨_, (List.Sublist.refl _), l.length, ?a3, ?mem0, rfl, ⟨Nat.le_refl _, fun j hj => by simp [List.getD, List.getElem?_eq_none (show l.length ≤ j by omega)]⟩⟩
  case mem0 => rfl
  case a3 => rfl
 case round =>
  rintro nn g M ⟨k, hg3, rfl, hmeas, ⟨hk, hhi⟩⟩
  subst nn
  simp only [setG, hg3]
  clear hg3
  refine Sq fun K4 J4 => Sq fun K5 J5 => Rk fun K J => sE rfl (sE rfl (sE rfl ?_))
  cases hz : decide ((0 : Int) < (k : Int))
  ·skip
   refine WL_n rfl (WL_n rfl (WL_n rfl (WL_n rfl (WL_n rfl (WL_n rfl (sE rfl (nl J (J5 _ _ (da_ rfl (bp_ (ak_ (ak_ (ao_ (J3 _ _ (Sq fun K6 J6 => Rk fun K J => sE rfl (sE rfl (sQ (nd_ sl_70 rfl rfl hva.old (by omega)) rfl (sE rfl (nl J (J6 _ _ ?_))))))))))))))))))))
   refine W_ret (ret1 rfl (.inr rfl) rfl ?_)
   rw [hK_ hD, jK_ hhi (.inl (by have := of_decide_eq_false hz; omega))]
  ·skip
   have hz' := of_decide_eq_true hz
   obtain ⟨m, rfl⟩ : ∃ m, k = m + 1 := ⟨k - 1, by omega⟩
   refine sE rfl (sE rfl (sQ (q_as (q_sub rfl rfl) (congrArg (Value.int .i64) (fq_ (by omega)))) rfl (sQ (jr_ sl_70 rfl rfl hva.old (by omega)) rfl (sQ (h6_ ty_3 rfl hva.old (by omega)) rfl (sE rfl (sE rfl (nl J (J5 _ _ ?_))))))))
   refine a7_ _ rfl (fun h0 => ?_) (fun h0 => ?_)
   ·(try simp only [decide_eq_true_eq, decide_eq_false_iff_not, beq_iff_eq, bne_iff_ne, beq_eq_false_iff_ne, bne_eq_false_iff_eq, Bool.not_eq_true', Bool.not_eq_false'] at h0)
    refine al_ (J4 _ _ (am_ (Rk fun K J => sE rfl (sQ (q_as (q_sub rfl rfl) (congrArg (Value.int .i64) (fq_ (by omega)))) rfl (sE rfl (nl J ?_))))))
    refine ⟨(by repeat first | exact .refl | refine .cons rfl ?_), _, _, (List.Sublist.refl _), (by omega), m, ?s3, ?mem, rfl, ⟨by omega, fun j hj => by rcases Nat.eq_or_lt_of_le hj with rfl | hj; omega; exact hhi j hj⟩⟩
    case mem => rfl
    case s3 => rfl
   ·(try simp only [decide_eq_true_eq, decide_eq_false_iff_not, beq_iff_eq, bne_iff_ne, beq_eq_false_iff_ne, bne_eq_false_iff_eq, Bool.not_eq_true', Bool.not_eq_false'] at h0)
    refine bp_ (ak_ (ak_ (ao_ (J3 _ _ (Sq fun K7 J7 => Rk fun K J => sE rfl (sE rfl (sQ (nd_ sl_70 rfl rfl hva.old (by omega)) rfl (sE rfl (nl J (J7 _ _ (W_ret (ret1 rfl (.inr rfl) rfl ?_))))))))))))
    rw [hK_ hD, jK_ hhi (.inr (by simp only [Nat.add_sub_cancel]; omega))]

theorem dg_ (a : R) (ha : a.Ok) (w : World)  :
    Calls Tryz.prog 123 [RV a].toArray w (fun e w' => ∃ v, e = .returned v ∧ Ext w w' ∧ Slf w.heap.size w' v (dl (val a.w))) := by
 refine gk_ (N := 26) Tryz.func123 rfl rfl (by simp) ?_
 obtain ⟨w0, rfl⟩ : ∃ w0, w0 = w := ⟨_, rfl⟩
 simp only [initF, Nat.reduceAdd]
 refine Sq fun K1 J1 => Rk fun K J => WL_r rfl (r_box rfl rfl (fun b1 hb1 => sE rfl (nl J (J1 _ _ (Sq fun K2 J2 => Rk fun K J => sE rfl (nl J (J2 _ _ (Sq fun K3 J3 => Sq fun K4 J4 => Rk fun K J => sE rfl (nl J (J4 _ _ (am_ ?_)))))))))))
 refine aB_ [3, 4, 5, 6, 7, 8, 9, 10, 11, 12, 13, 14, 15, 16, 17, 18, 19, 20, 21, 22, 23] (fun g nn M => ∃ (k : Nat) (v : Value) (l : List Nat) (L : List Blk), (g 3 = v ∧ g 4 = .int .i64 (k : Int)) ∧ M = L ++ [⟨b1, 38, a.cells⟩] ∧ nn = 16 - k ∧ (k ≤ 16 ∧ OwnL w0 3 v l L ∧ DL l ∧ l.length = 2 * k ∧ dv l = val a.w % 4294967296 ^ k)) (16) ?start ?round
 case start =>
  refine ⟨_, (List.Sublist.refl _), 0, _, [], [], ⟨?a3, ?a4⟩, ?mem0, rfl, ⟨Nat.zero_le _, .nil, DL.nil, rfl, by simp [dv, Nat.mod_one]⟩⟩
  case mem0 => rfl
  case a3 => rfl
  case a4 => rfl
 case round =>
  rintro nn g M ⟨k, v, l, L, ⟨hg3, hg4⟩, rfl, hmeas, ⟨hk, hO, hD, hlen, hdv⟩⟩
  subst nn
  simp only [setG, hg3, hg4]
  clear hg3 hg4
  refine Sq fun K5 J5 => Sq fun K6 J6 => Rk fun K J => sE rfl (sE rfl (nl J (J6 _ _ ?_)))
  refine a7_ _ rfl (fun hc => ?_) (fun hc => ?_)
  ·(try simp only [decide_eq_true_eq, decide_eq_false_iff_not, beq_iff_eq, bne_iff_ne, beq_eq_false_iff_ne, bne_eq_false_iff_eq, Bool.not_eq_true', Bool.not_eq_false'] at hc)
   have hc : k < 16 := by omega
   refine al_ (J5 _ _ (Sq fun K7 J7 => am_ (dr sn [0,4,8,12,16,20,24,28,32,36,40,44,48,53,57,60] [14] mix (by kernel_rfl) (fun K J => pE rfl (pE rfl (pQ rfl (aC_ bx_ (by decide) rfl) (pQ rfl (bm_ ar_36 rfl rfl (by omega) (by omega)) (pQ rfl (a8_ ty_35 rfl (by repeat (first | exact .head _ | apply List.mem_append_right | apply List.Mem.tail)) (dl_ (r := a) (k := k) (by rw [ha.len]; omega))) ?_))))))))
   refine pQ rfl (q_rem rfl rfl (by decide)) (pQ rfl (q_as (aY_ in_35 in_3 rfl) (rem16 (aL_ ha.lim k))) (pE rfl (pQ rfl (aC_ bx_ (by decide) rfl) (pQ rfl (bm_ ar_36 rfl rfl (by omega) (by omega)) (pQ rfl (a8_ ty_35 rfl (by repeat (first | exact .head _ | apply List.mem_append_right | apply List.Mem.tail)) (dl_ (r := a) (k := k) (by rw [ha.len]; omega))) ?_)))))
   refine pQ rfl (q_quo rfl rfl (by decide)) (pQ rfl (q_as (aY_ in_35 in_3 rfl) (quo16 (aL_ ha.lim k))) ?_)
   refine PL_o rfl rfl (cC_ us_70 z_3 sz_3 rfl (by decide) rfl (pg_ _ _) (fun b22 hb22 => ⟨(fun _ => by first | exact sd s0 | exact s0), (by repeat (first | exact s0 | exact sn | refine sk ?_ | refine sd ?_ | refine sA ?_ | refine sR ?_)), ?_⟩))
   refine PL_o rfl rfl (jT_ us_70 on_3 rfl rfl hO (SL.mine (l := [a.w.getD k 0 % 65536, a.w.getD k 0 / 65536]) (.head _) (Nat.le_refl _)) (List.sublist_cons_self _ _) (by simp; omega) (fun v' L' hO' => ⟨nf, (by repeat (first | exact s0 | exact sn | refine sk ?_ | refine sd ?_ | refine sA ?_ | refine sR ?_)), ?_⟩))
   refine pE rfl (fl J (J7 _ _ (Rk fun K J => sE rfl (sQ (q_as (q_add rfl rfl) (congrArg (Value.int .i64) (cv_ (by omega)))) rfl (sE rfl (nl J ?_))))))
   refine ⟨(by repeat first | exact .refl | refine .cons rfl ?_), _, _, (List.Sublist.refl _), (by omega), k + 1, _, _, _, ⟨?s3, ?s4⟩, ?mem, rfl, ⟨by omega, hO', hD.append (DL.two (aL_ ha.lim k)), by simp [hlen]; omega, jb_ ha.lim hlen hdv⟩⟩
   case mem => rfl
   case s3 => rfl
   case s4 => rfl
  ·(try simp only [decide_eq_true_eq, decide_eq_false_iff_not, beq_iff_eq, bne_iff_ne, beq_eq_false_iff_ne, bne_eq_false_iff_eq, Bool.not_eq_true', Bool.not_eq_false'] at hc)
   obtain rfl : k = 16 := by omega
   refine bp_ (ak_ (ak_ (ao_ (J3 _ _ (Sq fun K8 J8 => Rk fun K J => sE rfl (sQ (aN_ lu_ rfl (fun w hw => cJ_ v l hD (by omega) w (SL.sl (hO.sl (List.sublist_append_left _ _)) hw))) rfl (sE rfl (nl J (J8 _ _ (W_ret (ret1 rfl (.inr rfl) rfl ?_)))))))))))
   exact ip_ hD (by rw [hdv, kq_ ha]) (hO.slf (List.sublist_append_left _ _))

theorem cO_  :
    Ret Tryz.prog 99 [] (RV Z.bad.enc) := by
 refine aH_ (N := 2) Tryz.func99 rfl rfl (by simp) (fun w0 => ?_)
 simp only [initF, Nat.reduceAdd]
 refine Sq fun K1 J1 => Rk fun K J => WL_r rfl (a5_ z_38 (fun b0 hb0 => nl J (J1 _ _ (Sq fun K2 J2 => Rk fun K J => sQ (eB_ z_38 pl_38 rfl (.cons rfl (vs := [.bool true]) rfl rfl (by simp [zR]) (z' := Z.bad.enc.cells) rfl (.nil _))) rfl ?_))))
 refine WL_r rfl (ar_ ty_38 rfl rfl (by repeat (first | exact .head _ | apply Upd.left | apply Upd.tail)) rfl rfl (an_ Z.bad.enc) (.inl (by assumption)) ?_)
 refine nl J (J2 _ _ (W_ret (ret1 rfl (.inr rfl) ⟨_, _, _, _, _, _, rfl, (by repeat (first | exact .head _ | apply List.mem_append_right | apply List.Mem.tail)), ty_38, _, (aT_ rfl), rfl, rfl⟩ ?_)))
 exact rfl

theorem do_ (r : R) (h : r.Ok) :
    Ret Tryz.prog 121 [RV r] (.bool r.valid) := by
 refine aH_ (N := 32) Tryz.func121 rfl rfl (by simp) (fun w0 => ?_)
 simp only [initF, Nat.reduceAdd]
 refine Sq fun K1 J1 => Rk fun K J => WL_r rfl (r_box rfl rfl (fun b1 hb1 => sE rfl (nl J (J1 _ _ (Sq fun K2 J2 => Rk fun K J => sE rfl (nl J (J2 _ _ (Sq fun K3 J3 => Sq fun K4 J4 => Rk fun K J => sE rfl (nl J (J4 _ _ (am_ ?_)))))))))))
 refine aB_ [3, 4, 5, 6, 7, 8, 9, 10, 11, 12, 13, 14, 15, 16] (fun g nn M => ∃ (k : Nat) (z : Bool), (g 3 = .bool z ∧ g 4 = .int .i64 (k : Int)) ∧ M = [⟨b1, 38, r.cells⟩] ∧ nn = 16 - k ∧ (k ≤ 16 ∧ (z = true ↔ ∀ j, j < k → r.w.getD j 0 = 0))) (16) ?start ?round
 case start =>
  refine ⟨_, (List.Sublist.refl _), 0, true, ⟨?a3, ?a4⟩, ?mem0, rfl, ⟨Nat.zero_le _, ⟨fun _ j hj => by omega, fun _ => rfl⟩⟩⟩
  case mem0 => rfl
  case a3 => rfl
  case a4 => rfl
 case round =>
  rintro nn g M ⟨k, z, ⟨hg3, hg4⟩, rfl, hmeas, ⟨hk, hz⟩⟩
  subst nn
  simp only [setG, hg3, hg4]
  clear hg3 hg4
  refine Sq fun K5 J5 => Sq fun K6 J6 => Rk fun K J => sE rfl (sE rfl (nl J (J6 _ _ ?_)))
  refine a7_ _ rfl (fun hc => ?_) (fun hc => ?_)
  ·(try simp only [decide_eq_true_eq, decide_eq_false_iff_not, beq_iff_eq, bne_iff_ne, beq_eq_false_iff_ne, bne_eq_false_iff_eq, Bool.not_eq_true', Bool.not_eq_false'] at hc)
   have hc : k < 16 := by omega
   refine al_ (J5 _ _ (Sq fun K7 J7 => am_ (Rk fun K J => sE rfl (sE rfl ?_))))
   cases z
   ·skip
    refine WL_n rfl (WL_n rfl (WL_n rfl (WL_n rfl (WL_n rfl (sE rfl (sE rfl (nl J (J7 _ _ (Rk fun K J => sE rfl (sQ (q_as (q_add rfl rfl) (congrArg (Value.int .i64) (cv_ (by omega)))) rfl (sE rfl (nl J ?_))))))))))))
    refine ⟨(by repeat first | exact .refl | refine .cons rfl ?_), _, _, (List.Sublist.refl _), (by omega), k + 1, ?zz_1, ⟨?s3, ?s4⟩, ?mem, rfl, ⟨by omega, ?inv_1⟩⟩
    case mem => rfl
    case s3 => rfl
    case s4 => rfl
    first | exact kf_ hz | exact kG_ hz
   ·skip
    refine sE rfl (sQ (aC_ bx_ (by decide) rfl) rfl (sQ (bm_ ar_36 rfl rfl (by omega) (by omega)) rfl (sQ (a8_ ty_35 rfl (by repeat (first | exact .head _ | apply List.mem_append_right | apply List.Mem.tail)) (dl_ (r := r) (k := k) (by rw [h.len]; omega))) rfl ?_)))
    refine sE rfl (sE rfl (sE rfl (nl J (J7 _ _ (Rk fun K J => sE rfl (sQ (q_as (q_add rfl rfl) (congrArg (Value.int .i64) (cv_ (by omega)))) rfl (sE rfl (nl J ?_))))))))
    refine ⟨(by repeat first | exact .refl | refine .cons rfl ?_), _, _, (List.Sublist.refl _), (by omega), k + 1, ?zz_2, ⟨?s3, ?s4⟩, ?mem, rfl, ⟨by omega, ?inv_2⟩⟩
    case mem => rfl
    case s3 => rfl
    case s4 => rfl
    first | exact kf_ hz | exact kG_ hz
  ·(try simp only [decide_eq_true_eq, decide_eq_false_iff_not, beq_iff_eq, bne_iff_ne, beq_eq_false_iff_ne, bne_eq_false_iff_eq, Bool.not_eq_true', Bool.not_eq_false'] at hc)
   obtain rfl : k = 16 := by omega
   obtain rfl : z = r.zero := nk_ h hz
   refine bp_ (ak_ (ak_ (ao_ (J3 _ _ (Sq fun K8 J8 => Sq fun K9 J9 => Rk fun K J => sQ (aC_ d2_ (by decide) rfl) rfl (sQ (a8_ ty_4 rfl (by repeat (first | exact .head _ | apply List.mem_append_right | apply List.Mem.tail)) rfl) rfl ?_))))))
   refine nl J (J9 _ _ ?_)
   refine a7_ _ rfl (fun hb => ?_) (fun hb => ?_)
   ·(try simp only [decide_eq_true_eq, decide_eq_false_iff_not, beq_iff_eq, bne_iff_ne, beq_eq_false_iff_ne, bne_eq_false_iff_eq, Bool.not_eq_true', Bool.not_eq_false'] at hb)
    refine Sq fun K10 J10 => Rk fun K J => sE rfl (sE rfl ?_)
    cases hz0 : r.zero
    ·skip
     refine WL_n rfl (WL_n rfl (WL_n rfl (sE rfl (sE rfl (nl J (J10 _ _ (W_ret (ag_ (ret1 rfl (.inr rfl) rfl ?_)))))))))
     simp [R.valid, *]
    ·skip
     refine sQ (aC_ cl_ (by decide) rfl) rfl (sQ (a8_ ty_4 rfl (by repeat (first | exact .head _ | apply List.mem_append_right | apply List.Mem.tail)) rfl) rfl ?_)
     refine sE rfl (sE rfl (sE rfl (nl J (J10 _ _ (W_ret (ag_ (ret1 rfl (.inr rfl) rfl ?_)))))))
     simp [R.valid, *]
   ·(try simp only [decide_eq_true_eq, decide_eq_false_iff_not, beq_iff_eq, bne_iff_ne, beq_eq_false_iff_ne, bne_eq_false_iff_eq, Bool.not_eq_true', Bool.not_eq_false'] at hb)
    refine al_ (J8 _ _ (Sq fun K11 J11 => Rk fun K J => sE rfl (sE rfl (sE rfl ?_))))
    cases hz0 : r.zero
    ·skip
     refine WL_n rfl (WL_n rfl (WL_n rfl (sE rfl (sE rfl (nl J (J11 _ _ (W_ret (ret1 rfl (.inr rfl) rfl ?_))))))))
     simp [R.valid, *]
    ·skip
     refine sQ (aC_ cl_ (by decide) rfl) rfl (sQ (a8_ ty_4 rfl (by repeat (first | exact .head _ | apply List.mem_append_right | apply List.Mem.tail)) rfl) rfl ?_)
     refine sE rfl (sE rfl (sE rfl (nl J (J11 _ _ (W_ret (ret1 rfl (.inr rfl) rfl ?_))))))
     simp [R.valid, *]

theorem dt_ (r : R) (h : r.Ok) :
    Ret Tryz.prog 122 [RV r] (.bool r.good) := by
 refine aH_ (N := 12) Tryz.func122 rfl rfl (by simp) (fun w0 => ?_)
 simp only [initF, Nat.reduceAdd]
 refine Sq fun K1 J1 => Rk fun K J => WL_r rfl (r_box rfl rfl (fun b1 hb1 => sE rfl (nl J (J1 _ _ (Sq fun K2 J2 => Rk fun K J => sQ (az_ ty_38 rfl (by repeat (first | exact .head _ | apply List.mem_append_right | apply List.Mem.tail)) (aU_ h)) rfl ?_)))))
 refine sQ (q_ret mK_ (do_ r h) rfl) rfl (sE rfl (nl J (J2 _ _ (Sq fun K3 J3 => Rk fun K J => sE rfl (sE rfl ?_)))))
 cases hv : r.valid
 ·skip
  refine WL_n rfl (WL_n rfl (WL_n rfl (sE rfl (sE rfl (nl J (J3 _ _ (W_ret (ret1 rfl (.inr rfl) rfl ?_))))))))
  simp [R.good, *]
 ·skip
  refine sQ (aC_ d2_ (by decide) rfl) rfl (sQ (a8_ ty_4 rfl (by repeat (first | exact .head _ | apply List.mem_append_right | apply List.Mem.tail)) rfl) rfl ?_)
  refine sE rfl (sE rfl (sE rfl (nl J (J3 _ _ (W_ret (ret1 rfl (.inr rfl) rfl ?_))))))
  simp [R.good, *]

theorem dh_ (neg : Bool) (va : Value) (l : List Nat) (hD : DL l) (hn : l.length ≤ 1000) (w : World) (hva : Sl w va l) :
    Calls Tryz.prog 128 [.bool neg, va].toArray w (fun e w' => e = .returned (RV (Z.of (sgn neg (dv l))).enc) ∧ Ext w w') := by
 refine aO_ (N := 62) Tryz.func128 rfl rfl (by simp) ?_
 obtain ⟨w0, rfl⟩ : ∃ w0, w0 = w := ⟨_, rfl⟩
 simp only [initF, Nat.reduceAdd]
 have hu0 : ∀ M, SL w0 [] M (sls va (dl (dv l)).length) (dl (dv l)) := fun M => l6_ hD hva.old
 refine Sq fun K1 J1 => Rk fun K J => WL_r rfl (a5_ z_38 (fun b4 hb4 => nl J (J1 _ _ (Sq fun K2 J2 => Rk fun K J => sE rfl (sQ (aN_ lu_ rfl (fun w hw => cJ_ va l hD hn w (SL.sl (M := _) hva.old hw))) rfl (sE rfl (nl J (J2 _ _ (Sq fun K3 J3 => Sq fun K4 J4 => Rk fun K J => sE rfl (sQ (fO_ sl_70 rfl (hu0 _)) rfl (sE rfl (nl J (J4 _ _ ?_)))))))))))))
 refine a7_ _ rfl (fun hbig => ?_) (fun hbig => ?_)
 ·(try simp only [decide_eq_true_eq, decide_eq_false_iff_not, beq_iff_eq, bne_iff_ne, beq_eq_false_iff_ne, bne_eq_false_iff_eq, Bool.not_eq_true', Bool.not_eq_false'] at hbig)
  refine Sq fun K5 J5 => Rk fun K J => sQ (q_ret en_99 (cO_) rfl) rfl (WL_r rfl (ar_ ty_38 rfl rfl (by repeat (first | exact .head _ | apply Upd.left | apply Upd.tail)) (ad_ _) rfl (an_ _) (.inl (by assumption)) ?_))
  refine nl J (J5 _ _ (W_ret (ag_ (ret1 rfl (.inr rfl) ⟨_, _, _, _, _, _, rfl, (by repeat (first | exact .head _ | apply List.mem_append_right | apply List.Mem.tail)), ty_38, _, (aT_ (ad_ _)), (ad_ _), rfl⟩ ?_))))
  exact kp_ (by omega)
 ·(try simp only [decide_eq_true_eq, decide_eq_false_iff_not, beq_iff_eq, bne_iff_ne, beq_eq_false_iff_ne, bne_eq_false_iff_eq, Bool.not_eq_true', Bool.not_eq_false'] at hbig)
  have hlen : (dl (dv l)).length ≤ 32 := by omega
  refine al_ (J3 _ _ ?_)
  refine bI_ [6, 14, 15, 16, 17, 18, 19, 20] (fun g M => ∃ (b6 : Nat), (g 6 = .pointer (some ⟨b6, 0, none⟩)) ∧ M = ⟨b6, 38, R.cells (R.mk false (neg && decide ((0 : Int) < ((dl (dv l)).length : Int))) (List.replicate 16 0))⟩ :: [⟨b4, 38, zR⟩] ∧ (w0.heap.size ≤ b6)) (fun K6 J6 => ?_) ?_
  ·skip
   refine Rk fun K J => sE rfl (sE rfl ?_)
   cases neg
   ·skip
    refine WL_n rfl (WL_n rfl (WL_n rfl (sE rfl (sQ (eB_ z_38 pl_38 rfl (mP_ _)) rfl (WL_r rfl (a5_ z_38 (fun b6 hb6 => WL_r rfl (ar_ ty_38 rfl rfl (by repeat (first | exact .head _ | apply Upd.left | apply Upd.tail)) (by simp [R.cells, bV_]) rfl (an_ _) (.inl (by assumption)) ?_))))))))
    refine nl J ?_
    refine J6 _ _ (by repeat first | exact .refl | refine .cons rfl ?_) ⟨_, (List.Sublist.refl _), _, ?s6, ?mem, hb6⟩
    case mem => rfl
    case s6 => rfl
   ·skip
    refine sE rfl (sQ (fO_ sl_70 rfl (hu0 _)) rfl (sE rfl (sE rfl (sQ (eB_ z_38 pl_38 rfl (mP_ _)) rfl (WL_r rfl (a5_ z_38 (fun b6 hb6 => WL_r rfl (ar_ ty_38 rfl rfl (by repeat (first | exact .head _ | apply Upd.left | apply Upd.tail)) (by simp [R.cells, bV_]) rfl (an_ _) (.inl (by assumption)) ?_))))))))
    refine nl J ?_
    refine J6 _ _ (by repeat first | exact .refl | refine .cons rfl ?_) ⟨_, (List.Sublist.refl _), _, ?s6, ?mem, hb6⟩
    case mem => rfl
    case s6 => rfl
  ·skip
   rintro g M ⟨b6, hg6, rfl, hb6⟩
   simp only [setG, hg6]
   clear hg6
   refine Sq fun K7 J7 => Sq fun K8 J8 => Rk fun K J => sE rfl (nl J (J8 _ _ (am_ ?_)))
   refine aB_ [7, 21, 22, 23, 24, 25, 26, 27, 28, 29, 30, 31, 32, 33, 34, 35, 36, 37, 38, 39, 40, 41, 42, 43, 44, 45, 46, 47, 48, 49, 50, 51, 52, 53, 54, 55, 56, 57, 58, 59, 60] (fun g nn M => ∃ (k : Nat) (ws : List Nat), (g 7 = .int .i64 (k : Int)) ∧ M = ⟨b6, 38, R.cells (R.mk false (neg && decide ((0 : Int) < ((dl (dv l)).length : Int))) ws)⟩ :: [⟨b4, 38, zR⟩] ∧ nn = (dl (dv l)).length - k ∧ (k ≤ (dl (dv l)).length ∧ NumIn (dv l) k ws)) ((dl (dv l)).length - 0) ?start ?round
   case start =>
    refine ⟨_, (List.Sublist.refl _), 0, _, ?a7, ?mem0, rfl, ⟨Nat.zero_le _, NumIn.start _⟩⟩
    case mem0 => rfl
    case a7 => rfl
   case round =>
    rintro nn g M ⟨k, ws, hg7, rfl, hmeas, ⟨hk, hI⟩⟩
    subst nn
    simp only [setG, hg7]
    clear hg7
    refine Sq fun K9 J9 => Sq fun K10 J10 => Rk fun K J => sE rfl (sE rfl (sQ (fO_ sl_70 rfl (hu0 _)) rfl (sE rfl (nl J (J10 _ _ ?_)))))
    refine a7_ _ rfl (fun hc => ?_) (fun hc => ?_)
    ·(try simp only [decide_eq_true_eq, decide_eq_false_iff_not, beq_iff_eq, bne_iff_ne, beq_eq_false_iff_ne, bne_eq_false_iff_eq, Bool.not_eq_true', Bool.not_eq_false'] at hc)
     have hk32 : k < 32 := by omega
     refine al_ (J9 _ _ (Sq fun K11 J11 => am_ (Sq fun K12 J12 => Rk fun K J => sE rfl (sQ (q_as (q_rem rfl rfl (by decide)) (congrArg (Value.int .i64) (rem2 k))) rfl (sE rfl (nl J (J12 _ _ ?_)))))))
     refine a7_ _ rfl (fun hpar => ?_) (fun hpar => ?_)
     ·(try simp only [decide_eq_true_eq, decide_eq_false_iff_not, beq_iff_eq, bne_iff_ne, beq_eq_false_iff_ne, bne_eq_false_iff_eq, Bool.not_eq_true', Bool.not_eq_false'] at hpar)
      have hpar : k % 2 = 0 := by omega
      have hz := (hI.even hpar hk32).2
      refine dr (sd (sk (s0))) [0,4,8,12,16,20,24,28,32,36,40,44,48,52,56,61] [15] mix (by kernel_rfl) (fun K J => pE rfl (pQ rfl (q_as (q_quo rfl rfl (by decide)) (congrArg (Value.int .i64) (quo2 k (by omega)))) (pE rfl (pQ rfl (q_as (q_quo rfl rfl (by decide)) (congrArg (Value.int .i64) (quo2 k (by omega)))) (pQ rfl (aC_ bx_ (by decide) rfl) (pQ rfl (bm_ ar_36 rfl rfl (by omega) (by omega)) (pQ rfl (a8_ ty_35 rfl (by repeat (first | exact .head _ | apply List.mem_append_right | apply List.Mem.tail)) (dl_ (r := R.mk false (neg && decide ((0 : Int) < ((dl (dv l)).length : Int))) ws) (k := k / 2) (by simp only [hI.len]; omega))) ?_)))))))
      refine pE rfl (pE rfl (pQ rfl (jr_ sl_70 rfl rfl (hu0 _) (by omega)) (pQ rfl (h6_ ty_3 rfl (hu0 _) (by omega)) (pQ rfl (aY_ in_3 in_35 rfl) (pQ rfl (q_as (q_add rfl rfl) (show _ = U32 (dg (dv l) k) by rw [(hI.even hpar hk32).1, iX_]; exact mu_ (dg_lt _ _))) (pQ rfl (aC_ bx_ (by decide) rfl) (pQ rfl (bm_ ar_36 rfl rfl (by omega) (by omega)) ?_)))))))
      refine PL_o rfl rfl (jL_ (k := k / 2) ty_35 rfl rfl (by repeat (first | exact .head _ | apply Upd.left | apply Upd.tail)) (by rw [hI.len]; omega) (.inl (by assumption)) ⟨nf, (by repeat (first | exact s0 | exact sn | refine sk ?_ | refine sd ?_ | refine sA ?_ | refine sR ?_)), ?_⟩)
      refine fl J (J11 _ _ (Rk fun K J => sE rfl (sQ (q_as (q_add rfl rfl) (congrArg (Value.int .i64) (cv_ (by omega)))) rfl (sE rfl (nl J ?_)))))
      refine ⟨(by repeat first | exact .refl | refine .cons rfl ?_), _, _, (List.Sublist.refl _), (by omega), k + 1, _, ?s7, ?mem, rfl, ⟨by omega, hz⟩⟩
      case mem => rfl
      case s7 => rfl
     ·(try simp only [decide_eq_true_eq, decide_eq_false_iff_not, beq_iff_eq, bne_iff_ne, beq_eq_false_iff_ne, bne_eq_false_iff_eq, Bool.not_eq_true', Bool.not_eq_false'] at hpar)
      have hpar : ¬ k % 2 = 0 := by omega
      have hz := (hI.odd hpar hk32).2
      refine dr (sd (sk (s0))) [0,4,8,12,16,20,24,28,32,36,40,44,48,52,56,60,65] [16] mix (by kernel_rfl) (fun K J => pE rfl (pQ rfl (q_as (q_quo rfl rfl (by decide)) (congrArg (Value.int .i64) (quo2 k (by omega)))) (pE rfl (pQ rfl (q_as (q_quo rfl rfl (by decide)) (congrArg (Value.int .i64) (quo2 k (by omega)))) (pQ rfl (aC_ bx_ (by decide) rfl) (pQ rfl (bm_ ar_36 rfl rfl (by omega) (by omega)) (pQ rfl (a8_ ty_35 rfl (by repeat (first | exact .head _ | apply List.mem_append_right | apply List.Mem.tail)) (dl_ (r := R.mk false (neg && decide ((0 : Int) < ((dl (dv l)).length : Int))) ws) (k := k / 2) (by simp only [hI.len]; omega))) ?_)))))))
      refine pE rfl (pE rfl (pQ rfl (jr_ sl_70 rfl rfl (hu0 _) (by omega)) (pQ rfl (h6_ ty_3 rfl (hu0 _) (by omega)) (pQ rfl (aY_ in_3 in_35 rfl) (pE rfl (pQ rfl (q_as (q_add rfl rfl) (show _ = U32 (ws.getD (k / 2) 0 + dg (dv l) k * 65536) by rw [iX_]; exact nY_ (hI.odd hpar hk32).1 (dg_lt _ _))) (pQ rfl (aC_ bx_ (by decide) rfl) (pQ rfl (bm_ ar_36 rfl rfl (by omega) (by omega)) ?_))))))))
      refine PL_o rfl rfl (jL_ (k := k / 2) ty_35 rfl rfl (by repeat (first | exact .head _ | apply Upd.left | apply Upd.tail)) (by rw [hI.len]; omega) (.inl (by assumption)) ⟨nf, (by repeat (first | exact s0 | exact sn | refine sk ?_ | refine sd ?_ | refine sA ?_ | refine sR ?_)), ?_⟩)
      refine fl J (J11 _ _ (Rk fun K J => sE rfl (sQ (q_as (q_add rfl rfl) (congrArg (Value.int .i64) (cv_ (by omega)))) rfl (sE rfl (nl J ?_)))))
      refine ⟨(by repeat first | exact .refl | refine .cons rfl ?_), _, _, (List.Sublist.refl _), (by omega), k + 1, _, ?s7, ?mem, rfl, ⟨by omega, hz⟩⟩
      case mem => rfl
      case s7 => rfl
    ·(try simp only [decide_eq_true_eq, decide_eq_false_iff_not, beq_iff_eq, bne_iff_ne, beq_eq_false_iff_ne, bne_eq_false_iff_eq, Bool.not_eq_true', Bool.not_eq_false'] at hc)
     obtain rfl : k = (dl (dv l)).length := by omega
     refine bp_ (ak_ (ak_ (ao_ (J7 _ _ (Sq fun K13 J13 => Rk fun K J => sQ (az_ ty_38 rfl (by repeat (first | exact .head _ | apply List.mem_append_right | apply List.Mem.tail)) (by simp [R.cells, bV_, hI.len])) rfl ?_)))))
     refine WL_r rfl (ar_ ty_38 rfl rfl (by repeat (first | exact .head _ | apply Upd.left | apply Upd.tail)) (by simp [R.cells, bV_, hI.len]) rfl (an_ _) (.inl (by assumption)) ?_)
     refine nl J (J13 _ _ (W_ret (ret1 rfl (.inr rfl) ⟨_, _, _, _, _, _, rfl, (by repeat (first | exact .head _ | apply List.mem_append_right | apply List.Mem.tail)), ty_38, _, (aT_ (by simp [R.cells, bV_, hI.len])), (by simp [R.cells, bV_, hI.len]), rfl⟩ ?_)))
     exact kD_ hI
end Go.Proofs.YtjdfogfmeibkgaaGreat

namespace Go.Proofs.YtjdfogfmeibkgaaGreat
open Go.Kn Go.Num
set_option linter.unusedVariables false
set_option linter.unusedSimpArgs false
set_option maxRecDepth 20000
set_option maxHeartbeats 8000000
theorem eQ_ (va vb : Value) (la lb : List Nat) (hDa : DL la) (hDb : DL lb) (hna : la.length ≤ 200) (hnb : lb.length ≤ 200) (w : World) (hva : Sl w va la) (hvb : Sl w vb lb) :
    Calls Tryz.prog 129 [va, vb].toArray w (fun e w' => ∃ v, e = .returned v ∧ Ext w w' ∧ Slf w.heap.size w' v (dl (dv la + dv lb))) := by
 refine gk_ (N := 37) Tryz.func129 rfl rfl (by simp) ?_
 obtain ⟨w0, rfl⟩ : ∃ w0, w0 = w := ⟨_, rfl⟩
 simp only [initF, Nat.reduceAdd]
 refine Sq fun K1 J1 => Rk fun K J => sE rfl (nl J (J1 _ _ (Sq fun K2 J2 => Rk fun K J => sE rfl (nl J (J2 _ _ (Sq fun K3 J3 => Rk fun K J => sE rfl (nl J (J3 _ _ (Sq fun K4 J4 => Sq fun K5 J5 => Rk fun K J => sE rfl (nl J ?_))))))))))
 refine J5 _ _ (am_ ?_)
 refine aB_ [5, 6, 7, 8, 9, 10, 11, 12, 13, 14, 15, 16, 17, 18, 19, 20, 21, 22, 23, 24, 25, 26, 27, 28, 29, 30, 31, 32, 33, 34] (fun g nn M => ∃ (k : Nat) (v : Value) (l : List Nat) (L : List Blk), (g 5 = v ∧ g 6 = .int .i64 ((cD (dv la) (dv lb) k : Nat) : Int) ∧ g 7 = .int .i64 (k : Int)) ∧ M = L ++ [] ∧ nn = max la.length lb.length + 1 - k ∧ (k ≤ max la.length lb.length + 1 ∧ OwnL w0 3 v l L ∧ DL l ∧ l.length = k ∧ dv l = (dv la + dv lb) % 65536 ^ k)) (max la.length lb.length + 1 - 0) ?start ?round
 case start =>
  refine ⟨_, (List.Sublist.refl _), 0, _, [], [], ⟨?a5, ?a6, ?a7⟩, ?mem0, rfl, ⟨Nat.zero_le _, .nil, DL.nil, rfl, by simp [dv, Nat.mod_one]⟩⟩
  case mem0 => rfl
  case a5 => rfl
  case a6 => rw [nU_]; rfl
  case a7 => rfl
 case round =>
  rintro nn g M ⟨k, v, l, L, ⟨hg5, hg6, hg7⟩, rfl, hmeas, ⟨hk, hO, hD, hlen, hdv⟩⟩
  subst nn
  simp only [setG, hg5, hg6, hg7]
  clear hg5 hg6 hg7
  refine Sq fun K6 J6 => Sq fun K7 J7 => Rk fun K J => sE rfl (sE rfl (sQ (fO_ sl_70 rfl hva.old) rfl (sE rfl (sQ (fO_ sl_70 rfl hvb.old) rfl (sQ (on_ rfl rfl) rfl (sQ (q_as (q_add rfl rfl) (congrArg (Value.int .i64) (cv_ (by omega)))) rfl (sE rfl (nl J (J7 _ _ ?_)))))))))
  refine a7_ _ rfl (fun hc => ?_) (fun hc => ?_)
  ·(try simp only [decide_eq_true_eq, decide_eq_false_iff_not, beq_iff_eq, bne_iff_ne, beq_eq_false_iff_ne, bne_eq_false_iff_eq, Bool.not_eq_true', Bool.not_eq_false'] at hc)
   have hc : k < max la.length lb.length + 1 := by omega
   refine al_ (J6 _ _ (Sq fun K8 J8 => am_ (Sq fun K9 J9 => Rk fun K J => sE rfl (sE rfl (sQ (aN_ kI_ rfl (fun w hw => cE_ va la k w (SL.sl (M := _) hva.old hw))) rfl (sE rfl (sE rfl (sQ (aN_ kI_ rfl (fun w hw => cE_ vb lb k w (SL.sl (M := _) hvb.old hw))) rfl (sE rfl (sE rfl (sQ (q_as (q_add rfl rfl) (congrArg (Value.int .i64) ((show _ = ((cD (dv la) (dv lb) k + dg (dv la) k + dg (dv lb) k : Nat) : Int) by rw [gQ_ la k hDa, gQ_ lb k hDb]; exact add3 (dg_lt _ _) (dg_lt _ _) (cD_le _ _ _))))) rfl (sE rfl (nl J (J9 _ _ (Sq fun K10 J10 => Rk fun K J => ?_)))))))))))))))
   refine sE rfl (sE rfl (sQ (q_as (q_rem rfl rfl (by decide)) (remI _)) rfl (WL_r rfl (cC_ us_70 z_3 sz_3 rfl (by decide) rfl (m2_ _) (fun b31 hb31 => WL_r rfl (jT_ us_70 on_3 rfl rfl hO (SL.mine (l := [(cD (dv la) (dv lb) k + dg (dv la) k + dg (dv lb) k) % 65536]) (.head _) (Nat.le_refl _)) (List.sublist_cons_self _ _) (by simp; omega) (fun v' L' hO' => ?_)))))))
   refine sE rfl (nl J (J10 _ _ (Rk fun K J => sE rfl (sQ (q_as (q_quo rfl rfl (by decide)) (congrArg (Value.int .i64) (quoI (by have := cD_le (dv la) (dv lb) k; have := dg_lt (dv la) k; have := dg_lt (dv lb) k; omega)))) rfl (sE rfl (nl J (J8 _ _ (Rk fun K J => sE rfl (sQ (q_as (q_add rfl rfl) (congrArg (Value.int .i64) (cv_ (by omega)))) rfl (sE rfl (nl J ?_)))))))))))
   refine ⟨(by repeat first | exact .refl | refine .cons rfl ?_), _, _, (List.Sublist.refl _), (by omega), k + 1, _, _, _, ⟨?s5, ?s6, ?s7⟩, ?mem, rfl, ⟨by omega, hO', hD.append (DL.one (Nat.mod_lt _ (by decide))), by simp [hlen], kA_ hlen hdv⟩⟩
   case mem => rfl
   case s5 => rfl
   case s6 => rw [← i7_]; rfl
   case s7 => rfl
  ·(try simp only [decide_eq_true_eq, decide_eq_false_iff_not, beq_iff_eq, bne_iff_ne, beq_eq_false_iff_ne, bne_eq_false_iff_eq, Bool.not_eq_true', Bool.not_eq_false'] at hc)
   obtain rfl : k = max la.length lb.length + 1 := by omega
   refine bp_ (ak_ (ak_ (ao_ (J4 _ _ (Sq fun K11 J11 => Rk fun K J => sE rfl (sQ (aN_ lu_ rfl (fun w hw => cJ_ v l hD (by omega) w (SL.sl (hO.sl (List.sublist_append_left _ _)) hw))) rfl (sE rfl (nl J (J11 _ _ (W_ret (ret1 rfl (.inr rfl) rfl ?_)))))))))))
   exact ip_ hD (by rw [hdv, lj_ hDa hDb]) (hO.slf (List.sublist_append_left _ _))

end Go.Proofs.YtjdfogfmeibkgaaGreat

namespace Go.Proofs.YtjdfogfmeibkgaaGreat
open Go.Kn Go.Num
set_option linter.unusedVariables false
set_option linter.unusedSimpArgs false
set_option maxRecDepth 20000
set_option maxHeartbeats 8000000
theorem fu_ (n : Int) (hn : I64 n) :
    Ret Tryz.prog 81 [.int .i64 n] (RV (Z.of n).enc) := by
 refine aH_ (N := 35) Tryz.func81 rfl rfl (by simp) (fun w0 => ?_)
 simp only [initF, Nat.reduceAdd]
 unfold I64 at hn
 refine Sq fun K1 J1 => Rk fun K J => WL_r rfl (a5_ z_38 (fun b2 hb2 => nl J (J1 _ _ (Sq fun K2 J2 => Sq fun K3 J3 => Rk fun K J => sE rfl (sE rfl (nl J (J3 _ _ ?_)))))))
 refine a7_ _ rfl (fun h0 => ?_) (fun h0 => ?_)
 ·(try simp only [decide_eq_true_eq, decide_eq_false_iff_not, beq_iff_eq, bne_iff_ne, beq_eq_false_iff_ne, bne_eq_false_iff_eq, Bool.not_eq_true', Bool.not_eq_false'] at h0)
  obtain ⟨m, rfl⟩ : ∃ m : Nat, n = m := ⟨n.toNat, by omega⟩
  refine Sq fun K4 J4 => Rk fun K J => sE rfl (sQ (q_as (q_rem rfl rfl (by decide)) (show _ = IV (m % 65536) from remI _)) rfl (sE rfl (sQ (q_as (q_quo rfl rfl (by decide)) (quo_c 65536 (by omega))) rfl (sQ (q_as (q_rem rfl rfl (by decide)) (show _ = IV (m / 65536 % 65536) from remI _)) rfl (sE rfl (sQ (q_as (q_quo rfl rfl (by decide)) (quo_c 4294967296 (by omega))) rfl (sQ (q_as (q_rem rfl rfl (by decide)) (show _ = IV (m / 4294967296 % 65536) from remI _)) rfl (sE rfl (sQ (q_as (q_quo rfl rfl (by decide)) (quo_c 281474976710656 (by omega))) rfl (WL_r rfl (cC_ us_70 z_3 sz_3 rfl (by decide) rfl (m3_ _ _ _ _) (fun b16 hb16 => sQ (aN_ m9_ rfl (fun w hw => dh_ false _ (dl4 m) (mW_ (by omega)) (by simp [dl4]) w (SL.sl (SL.mine (l := dl4 m) (.head _) (Nat.le_refl _)) hw))) rfl ?_))))))))))))
  refine WL_r rfl (ar_ ty_38 rfl rfl (by repeat (first | exact .head _ | apply Upd.left | apply Upd.tail)) (ad_ _) rfl (an_ _) (.inl (by assumption)) ?_)
  refine nl J (J4 _ _ (W_ret (ag_ (ret1 rfl (.inr rfl) ⟨_, _, _, _, _, _, rfl, (by repeat (first | exact .head _ | apply List.mem_append_right | apply List.Mem.tail)), ty_38, _, (aT_ (ad_ _)), (ad_ _), rfl⟩ ?_))))
  (rw [kO_, sgn_f]; rfl)
 ·(try simp only [decide_eq_true_eq, decide_eq_false_iff_not, beq_iff_eq, bne_iff_ne, beq_eq_false_iff_ne, bne_eq_false_iff_eq, Bool.not_eq_true', Bool.not_eq_false'] at h0)
  obtain ⟨m, rfl⟩ : ∃ m : Nat, n = -((m : Int) + 1) := ⟨(-n - 1).toNat, by omega⟩
  refine al_ (J2 _ _ (Sq fun K5 J5 => Rk fun K J => sE rfl (sE rfl (sQ (q_as (q_neg rfl) (congrArg (Value.int .i64) (np_ (by omega)))) rfl (sE rfl (nl J (J5 _ _ (Sq fun K6 J6 => Rk fun K J => sE rfl (sQ (q_as (q_rem rfl rfl (by decide)) (show _ = IV (m % 65536) from remI _)) rfl (sE rfl (sQ (q_as (q_quo rfl rfl (by decide)) (quo_c 65536 (by omega))) rfl (sQ (q_as (q_rem rfl rfl (by decide)) (show _ = IV (m / 65536 % 65536) from remI _)) rfl (sE rfl (sQ (q_as (q_quo rfl rfl (by decide)) (quo_c 4294967296 (by omega))) rfl (sQ (q_as (q_rem rfl rfl (by decide)) (show _ = IV (m / 4294967296 % 65536) from remI _)) rfl ?_)))))))))))))))
  refine sE rfl (sQ (q_as (q_quo rfl rfl (by decide)) (quo_c 281474976710656 (by omega))) rfl (WL_r rfl (cC_ us_70 z_3 sz_3 rfl (by decide) rfl (m3_ _ _ _ _) (fun b31 hb31 => WL_r rfl (cC_ us_70 z_3 sz_3 rfl (by decide) rfl (m2_ 1) (fun b32 hb32 => WL_r rfl (g2_ oB_ rfl (fun w hw => eQ_ _ _ (dl4 m) [1] (mW_ (by omega)) (DL.one (by decide)) (by simp [dl4]) (by simp) w (SL.sl (SL.mine (l := dl4 m) (.tail _ (.head _)) (Nat.le_refl _)) hw) (SL.sl (SL.mine (l := [1]) (.head _) (Nat.le_refl _)) hw)) (fun v9 L9 h9 => ?_))))))))
  refine sQ (aN_ m9_ rfl (fun w hw => dh_ true _ _ (dl_DL _) (Nat.le_trans (jX_ (k := 64) (by rw [kO_]; simp only [dv]; omega)) (by decide)) w (SL.sl (h9.sl.sub (List.sublist_append_left _ _)) hw))) rfl (WL_r rfl (ar_ ty_38 rfl rfl (by repeat (first | exact .head _ | apply Upd.left | apply Upd.tail)) (ad_ _) rfl (an_ _) (.inl (by assumption)) ?_))
  refine nl J (J6 _ _ (W_ret (ret1 rfl (.inr rfl) ⟨_, _, _, _, _, _, rfl, (by repeat (first | exact .head _ | apply List.mem_append_right | apply List.Mem.tail)), ty_38, _, (aT_ (ad_ _)), (ad_ _), rfl⟩ ?_)))
  (rw [dv_dl, kO_]; simp only [dv, Nat.mul_zero, Nat.add_zero]; rw [sgn_S]; rfl)
end Go.Proofs.YtjdfogfmeibkgaaGreat


set_option linter.unusedVariables false
set_option linter.unusedSimpArgs false
namespace Go.Num
open Go Go.Kn
theorem len0 (n : Nat) : ((((dl n).length : Nat) : Int) == 0) = (n == 0) := by
  rw [Bool.eq_iff_iff, beq_iff_eq, beq_iff_eq]
  constructor
  · intro h; exact oe_.1 (by omega)
  · intro h; rw [oe_.2 h]; rfl
theorem eD_ (a : I) : bW_ a = Z.signW a.dec := by
  unfold bW_
  rw [len0]
  apply Subtype.ext
  show _ = a.1.dec.sign
  cases hg : a.1.good
  · simp only [Bool.not_false, Bool.true_or, cond_true]; exact f1_ a.2 (.inl hg)
  · cases hz : (val a.1.w == 0)
    · simp only [Bool.not_true, Bool.false_or, cond_false]
      rw [ng_ a.2 hg (by simpa using hz)]
      cases a.1.neg <;> rfl
    · simp only [Bool.or_true, cond_true]; exact f1_ a.2 (.inr hz)
end Go.Num

namespace Go.Proofs.YtjdfogfmeibkgaaGreat
open Go.Kn Go.Num
set_option linter.unusedVariables false
set_option linter.unusedSimpArgs false
set_option maxRecDepth 20000
set_option maxHeartbeats 8000000
end Go.Proofs.YtjdfogfmeibkgaaGreat

namespace Go.Proofs.YtjdfogfmeibkgaaGreat
open Go.Kn Go.Num
set_option linter.unusedVariables false
set_option linter.unusedSimpArgs false
set_option maxRecDepth 20000
set_option maxHeartbeats 8000000
theorem eO_ (a : I) :
    Ret Tryz.prog 71 [AV [pI a]] (.int .i64 ((bW_ a).1)) := by
 refine aH_ (N := 14) Tryz.func71 rfl rfl (by simp) (fun w0 => ?_)
 simp only [initF, Nat.reduceAdd]
 refine Rs fun K J => WL_r rfl (ct_ rfl rfl (fun b1 hb1 => sE rfl (nl J (Sq fun K1 J1 => ?_))))
 refine bI_ [3, 4, 5, 6, 7, 8, 9, 10, 11] (fun g M => (g 11 = .bool (!a.1.good || ((((dl (val a.1.w)).length : Nat) : Int) == 0))) ∧ M = [⟨b1, 38, flat [pI a]⟩]) (fun K2 J2 => ?_) ?_
 ·skip
  refine Rk fun K J => sQ (qL ty_38 rfl m0 rfl) rfl (sC (.bool a.1.good) mO_ (dt_ a.1 a.2) rfl rfl rfl (sE rfl ?_))
  rcases bt a.1.good with h4 | h4
  ·skip
   refine sB (not_f h4) rfl (sQ (qL ty_38 rfl m0 rfl) rfl (WL_r rfl (g2_ mQ_ rfl (fun w hw => dg_ a.1 a.2 w) (fun vl5 Ll5 kl5 => ?_))))
   try simp only [dv_dl, pb_] at kl5
   refine sQ (q_as (v' := .int .i64 (((dl (val a.1.w)).length : Nat) : Int)) (fO_ sl_70 rfl (SL.sub kl5.sl (List.sublist_append_left _ _))) rfl) rfl (sE rfl (sE rfl (nl J ?_)))
   refine J2 _ _ (by repeat first | exact .refl | refine .cons rfl ?_) ⟨_, (sR (s0)), ?s11, rfl⟩
   case s11 => exact congrArg Value.bool (nor_t h4 rfl)
  ·skip
   refine sB (not_t h4) rfl (WL_n rfl (WL_n rfl (WL_n rfl (WL_n rfl (sE rfl (nl J ?_))))))
   refine J2 _ _ (by repeat first | exact .refl | refine .cons rfl ?_) ⟨_, s0, ?s11, rfl⟩
   case s11 => exact congrArg Value.bool (nor_f h4)
 ·skip
  rintro g6 M ⟨hg11, rfl⟩
  simp only [setG, hg11]
  clear hg11
  rcases bt (!a.1.good || ((((dl (val a.1.w)).length : Nat) : Int) == 0)) with h7 | h7
  ·skip
   refine W_t h7 rfl (Rs fun K J => sE rfl (nl J (W_ret (ag_ (ret1 rfl (.inr rfl) rfl ?_)))))
   exact (by exact congrArg (fun r : W => (.int .i64 r.1 : Value)) (show _ = (bW_ a) from bif_t h7 rfl))
  ·skip
   refine W_f h7 rfl (al_ (J1 _ _ (Sq fun K3 J3 => Rs fun K J => sQ (qF cl_ rfl rfl) rfl (sQ (qC ty_4 rfl m0 rfl) rfl (nl J ?_)))))
   rcases bt a.1.neg with h8 | h8
   ·skip
    refine W_t h8 rfl (Rs fun K J => sE rfl (nl J (W_ret (ag_ (ret1 rfl (.inr rfl) rfl ?_)))))
    exact (by exact congrArg (fun r : W => (.int .i64 r.1 : Value)) (show _ = (bW_ a) from bif_f h7 (bif_t h8 rfl)))
   ·skip
    refine W_f h8 rfl (al_ (J3 _ _ (Rs fun K J => sE rfl (nl J (W_ret (ret1 rfl (.inr rfl) rfl ?_))))))
    exact (by exact congrArg (fun r : W => (.int .i64 r.1 : Value)) (show _ = (bW_ a) from bif_f h7 (bif_f h8 rfl)))
theorem dv_ (a : R) (ha : a.Ok) : Ret Tryz.prog 71 [RV a] (.int .i64 a.dec.sign) := by
  have h := eO_ ⟨a, ha⟩
  rw [eD_] at h
  exact h

end Go.Proofs.YtjdfogfmeibkgaaGreat

namespace Go.Proofs.YtjdfogfmeibkgaaGreat
open Go.Kn Go.Num
set_option linter.unusedVariables false
set_option linter.unusedSimpArgs false
set_option maxRecDepth 20000
set_option maxHeartbeats 8000000
end Go.Proofs.YtjdfogfmeibkgaaGreat

