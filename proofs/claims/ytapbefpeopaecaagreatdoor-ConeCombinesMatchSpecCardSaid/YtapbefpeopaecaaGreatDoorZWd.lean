/- Walks: what these functions return. -/
import Derived.Test.YtapbefpeopaecaaGreatDoorZFa0
namespace Go.Proofs.YtapbefpeopaecaaGreatDoor
open Go.Kn Go.Num
set_option linter.unusedVariables false
set_option linter.unusedSimpArgs false
set_option maxRecDepth 20000
set_option maxHeartbeats 8000000
theorem kg_ (x : Nat) (hx : x < 4294967296) :
    Ret Tryz.prog 154 [U32 x] (.int .i64 ((bl x : Nat) : Int)) := by
 refine as_ (N := 19) Tryz.func154 rfl rfl (by simp) (fun w0 => ?_)
 simp only [initF, Nat.reduceAdd]
 refine Sq fun K1 J1 => Rk fun K J => sE rfl (nl J (J1 _ _ (Sq fun K2 J2 => Sq fun K3 J3 => Rk fun K J => sE rfl (sE rfl (nl J (J3 _ _ ?_))))))
 refine a4_ _ rfl (fun h1 => ?_) (fun h1 => ?_)
 ·(try simp only [decide_eq_true_eq, decide_eq_false_iff_not, beq_iff_eq, bne_iff_ne, beq_eq_false_iff_ne, bne_eq_false_iff_eq, Bool.not_eq_true', Bool.not_eq_false'] at h1)
  refine Sq fun K4 J4 => Rk fun K J => sE rfl (sQ (q_as (q_shr rfl rfl (by decide)) (kA_ x 16)) rfl (sE rfl (nl J (J4 _ _ (Rk fun K J => sE rfl (nl J (J2 _ _ (Sq fun K5 J5 => Sq fun K6 J6 => Rk fun K J => sE rfl (sE rfl (nl J (J6 _ _ ?_)))))))))))
  refine a4_ _ rfl (fun h2 => ?_) (fun h2 => ?_)
  ·(try simp only [decide_eq_true_eq, decide_eq_false_iff_not, beq_iff_eq, bne_iff_ne, beq_eq_false_iff_ne, bne_eq_false_iff_eq, Bool.not_eq_true', Bool.not_eq_false'] at h2)
   refine Sq fun K7 J7 => Rk fun K J => sE rfl (sQ (q_as (q_shr rfl rfl (by decide)) (kA_ _ 8)) rfl (sE rfl (nl J (J7 _ _ (Rk fun K J => sE rfl (sE rfl (sE rfl (nl J (J5 _ _ (Sq fun K8 J8 => Rk fun K J => sE rfl (sE rfl (sQ (q_as (bH_ in_34 in_5 rfl) (u8_id (by omega))) rfl (sQ (kZ_ (n := 256) bl st_9 rfl rfl (by omega) (by decide +kernel)) rfl (sQ (q_as (bH_ in_5 in_3 rfl) (jk_ (by omega))) rfl ?_))))))))))))))
   refine sE rfl (sE rfl (nl J (J8 _ _ (W_ret (ret1 rfl (.inr rfl) rfl ?_)))))
   exact jo_ (c := 24) rfl (by decide) (by omega) (by rw [hM_ (k := 16) (by omega), hM_ (n := x / 2 ^ 16) (k := 8) (by omega)]; omega)
  ·(try simp only [decide_eq_true_eq, decide_eq_false_iff_not, beq_iff_eq, bne_iff_ne, beq_eq_false_iff_ne, bne_eq_false_iff_eq, Bool.not_eq_true', Bool.not_eq_false'] at h2)
   refine aj_ (J5 _ _ (Sq fun K9 J9 => Rk fun K J => sE rfl (sE rfl (sQ (q_as (bH_ in_34 in_5 rfl) (u8_id (by omega))) rfl (sQ (kZ_ (n := 256) bl st_9 rfl rfl (by omega) (by decide +kernel)) rfl (sQ (q_as (bH_ in_5 in_3 rfl) (jk_ (by omega))) rfl (sE rfl (sE rfl (nl J (J9 _ _ (W_ret (ret1 rfl (.inr rfl) rfl ?_))))))))))))
   exact jo_ (c := 16) rfl (by decide) (by omega) (by rw [hM_ (k := 16) (by omega)])
 ·(try simp only [decide_eq_true_eq, decide_eq_false_iff_not, beq_iff_eq, bne_iff_ne, beq_eq_false_iff_ne, bne_eq_false_iff_eq, Bool.not_eq_true', Bool.not_eq_false'] at h1)
  refine aj_ (J2 _ _ (Sq fun K10 J10 => Sq fun K11 J11 => Rk fun K J => sE rfl (sE rfl (nl J (J11 _ _ ?_)))))
  refine a4_ _ rfl (fun h2 => ?_) (fun h2 => ?_)
  ·(try simp only [decide_eq_true_eq, decide_eq_false_iff_not, beq_iff_eq, bne_iff_ne, beq_eq_false_iff_ne, bne_eq_false_iff_eq, Bool.not_eq_true', Bool.not_eq_false'] at h2)
   refine Sq fun K12 J12 => Rk fun K J => sE rfl (sQ (q_as (q_shr rfl rfl (by decide)) (kA_ _ 8)) rfl (sE rfl (nl J (J12 _ _ (Rk fun K J => sE rfl (sE rfl (sE rfl (nl J (J10 _ _ (Sq fun K13 J13 => Rk fun K J => sE rfl (sE rfl (sQ (q_as (bH_ in_34 in_5 rfl) (u8_id (by omega))) rfl (sQ (kZ_ (n := 256) bl st_9 rfl rfl (by omega) (by decide +kernel)) rfl (sQ (q_as (bH_ in_5 in_3 rfl) (jk_ (by omega))) rfl ?_))))))))))))))
   refine sE rfl (sE rfl (nl J (J13 _ _ (W_ret (ret1 rfl (.inr rfl) rfl ?_)))))
   exact jo_ (c := 8) rfl (by decide) (by omega) (by rw [hM_ (k := 8) (by omega)])
  ·(try simp only [decide_eq_true_eq, decide_eq_false_iff_not, beq_iff_eq, bne_iff_ne, beq_eq_false_iff_ne, bne_eq_false_iff_eq, Bool.not_eq_true', Bool.not_eq_false'] at h2)
   refine aj_ (J10 _ _ (Sq fun K14 J14 => Rk fun K J => sE rfl (sE rfl (sQ (q_as (bH_ in_34 in_5 rfl) (u8_id (by omega))) rfl (sQ (kZ_ (n := 256) bl st_9 rfl rfl (by omega) (by decide +kernel)) rfl (sQ (q_as (bH_ in_5 in_3 rfl) (jk_ (by omega))) rfl (sE rfl (sE rfl (nl J (J14 _ _ (W_ret (ret1 rfl (.inr rfl) rfl ?_))))))))))))
   exact jo_ (c := 0) rfl (by decide) (by omega) (by omega)

theorem oO_ (x : Nat) (hx : x < 4294967296) :
    Ret Tryz.prog 157 [U32 x] (.int .i64 ((32 - bl x : Nat) : Int)) := by
 refine as_ (N := 6) Tryz.func157 rfl rfl (by simp) (fun w0 => ?_)
 simp only [initF, Nat.reduceAdd]
 refine Sq fun K1 J1 => Rk fun K J => sE rfl (nl J (J1 _ _ (Sq fun K2 J2 => Rk fun K J => sE rfl (sQ (q_ret pV_ (kg_ x hx) rfl) rfl (sE rfl (sE rfl (nl J (J2 _ _ (W_ret (ret1 rfl (.inr rfl) rfl ?_))))))))))
 exact congrArg (Value.int .i64) (r6_ hx)

theorem fF_ (xs : List Nat) (hx : xs.length = 16) (lx : Lim xs) (n : Nat) (hn : n < 32) :
    Ret Tryz.prog 139 [UV xs, .int .i64 (n : Int)] (.tuple #[UV (toL 16 (val xs * 2 ^ n)), U32 (val xs * 2 ^ n / 4294967296 ^ 16)]) := by
 refine as_ (N := 30) Tryz.func139 rfl rfl (by simp) (fun w0 => ?_)
 simp only [initF, Nat.reduceAdd]
 refine Sq fun K1 J1 => Rk fun K J => WL_r rfl (r_box rfl rfl (fun b2 hb2 => WL_r rfl (br_ z_35 (fun b4 hb4 => sE rfl (nl J (J1 _ _ (Sq fun K2 J2 => Rk fun K J => WL_r rfl (br_ z_35 (fun b6 hb6 => nl J (J2 _ _ (Sq fun K3 J3 => Rk fun K J => sE rfl (nl J (J3 _ _ (Sq fun K4 J4 => Sq fun K5 J5 => Rk fun K J => ?_))))))))))))))
 refine sE rfl (nl J (J5 _ _ (ao_ ?_)))
 refine bI_ [7, 8, 9, 10, 11, 12, 13, 14, 15, 16, 17, 18, 19, 20, 21, 22, 23, 24, 25, 26] (fun g nn M => ∃ (k : Nat), (g 7 = .int .u64 ((mc (val xs) (2 ^ n) k : Nat) : Int) ∧ g 9 = .int .i64 (k : Int)) ∧ M = [⟨b6, 35, uw (dpart k (val xs * 2 ^ n) 16)⟩, ⟨b4, 35, uw (List.replicate 16 0)⟩, ⟨b2, 35, uw xs⟩] ∧ nn = 16 - k ∧ (k ≤ 16)) (16) ?start ?round
 case start =>
  refine ⟨_, (List.Sublist.refl _), 0, ⟨?a7, ?a9⟩, ?mem0, rfl, Nat.zero_le _⟩
  case mem0 => rw [g9_]
  case a7 => rw [qP_]; rfl
  case a9 => rfl
 case round =>
  rintro nn g M ⟨k, ⟨hg7, hg9⟩, rfl, hmeas, hk⟩
  subst nn
  simp only [setG, hg7, hg9]
  clear hg7 hg9
  refine Sq fun K6 J6 => Rk fun K J => sE rfl (nl J (J6 _ _ (Sq fun K7 J7 => ?_)))
  refine a4_ _ rfl (fun hc => ?_) (fun hc => ?_)
  ·(try simp only [decide_eq_true_eq, decide_eq_false_iff_not, beq_iff_eq, bne_iff_ne, beq_eq_false_iff_ne, bne_eq_false_iff_eq, Bool.not_eq_true', Bool.not_eq_false'] at hc)
   have hc : k < 16 := by omega
   refine aj_ (J7 _ _ (Sq fun K8 J8 => ao_ (Sq fun K9 J9 => Rk fun K J => sE rfl (sE rfl (nl J (J9 _ _ (Sq fun K10 J10 => Rk fun K J => sE rfl (sE rfl (sQ (b3_ ar_35 rfl rfl (by omega) (by omega)) rfl (sQ (bn_ ty_34 rfl (by repeat (first | exact .head _ | apply List.mem_append_right | apply List.Mem.tail)) (uwAt (by omega))) rfl ?_))))))))))
   refine sQ (bH_ in_34 cc_ rfl) rfl (sE rfl (sQ (q_as (q_shl rfl rfl (by omega)) (congrArg (Value.int .u64) (qH_ (bq_ lx k) (by omega)))) rfl (sQ (q_as (q_or rfl rfl) (congrArg (Value.int .u64) (up_or (mc_lt (m := 2 ^ n) _ k (Nat.pow_pos (by decide))) (bq_ lx k) hn))) rfl (sE rfl (nl J (J10 _ _ (Sq fun K11 J11 => Rk fun K J => sE rfl (sE rfl (sQ (q_as (bH_ cc_ in_34 rfl) (eu_ _)) rfl (sQ (b3_ ar_35 rfl rfl (by omega) (by omega)) rfl (WL_r rfl (dY_ ty_34 rfl rfl (by repeat (first | exact .head _ | apply Upd.left | apply Upd.tail)) (by rw [cU_ _ hk]; exact hc) (.inl (by assumption)) ?_))))))))))))
   refine nl J (J11 _ _ (Rk fun K J => sE rfl (sQ (q_as (q_shr rfl rfl (by decide)) (congrArg (Value.int .u64) (eX_ _ 32))) rfl (sE rfl (nl J (J8 _ _ (Rk fun K J => sE rfl (sE rfl (nl J ?_)))))))))
   refine ⟨(by repeat first | exact .refl | refine .cons rfl ?_), _, _, (List.Sublist.refl _), (by omega), k + 1, ⟨?s7, ?s9⟩, ?mem, rfl, (by omega)⟩
   case mem => rw [bT_ xs k lx, o2_, gV_ _ hc]
   case s7 => exact congrArg (fun m : Nat => Value.int .u64 (m : Int)) (by rw [bT_ xs k lx]; exact oR_ _ _ _)
   case s9 => exact congrArg (Value.int .i64) (c4_ (by omega))
  ·(try simp only [decide_eq_true_eq, decide_eq_false_iff_not, beq_iff_eq, bne_iff_ne, beq_eq_false_iff_ne, bne_eq_false_iff_eq, Bool.not_eq_true', Bool.not_eq_false'] at hc)
   obtain rfl : k = 16 := by omega
   refine bG_ (aw_ (aw_ (aC_ (J4 _ _ (Sq fun K12 J12 => Rk fun K J => sQ (aN_ ty_35 rfl (by repeat (first | exact .head _ | apply List.mem_append_right | apply List.Mem.tail)) (by simp [uw, cU_])) rfl ?_)))))
   refine sE rfl (sQ (q_as (bH_ cc_ in_34 rfl) (eu_ _)) rfl (WL_r rfl (aF_ ty_35 rfl rfl (by repeat (first | exact .head _ | apply Upd.left | apply Upd.tail)) (by simp [uw, cU_]) rfl (cw_ _) (.inl (by assumption)) ?_)))
   refine sE rfl (nl J (J12 _ _ (W_ret (ret2 rfl (.inr rfl) ⟨_, _, _, _, _, _, rfl, (by repeat (first | exact .head _ | apply List.mem_append_right | apply List.Mem.tail)), ty_35, _, (be_ (by simp [uw, cU_])), (by simp [uw, cU_]), rfl⟩ rfl ?_))))
   (rw [hp_, mc16 hx lx, Nat.mod_eq_of_lt (nt_ hx lx hn)]; rfl)

theorem hd_ (xs : List Nat) (hx : xs.length = 16) (lx : Lim xs) (n : Nat) (hn : n < 32) :
    Ret Tryz.prog 140 [UV xs, .int .i64 (n : Int)] (UV (toL 16 (val xs / 2 ^ n))) := by
 refine as_ (N := 33) Tryz.func140 rfl rfl (by simp) (fun w0 => ?_)
 simp only [initF, Nat.reduceAdd]
 refine Sq fun K1 J1 => Rk fun K J => WL_r rfl (r_box rfl rfl (fun b2 hb2 => WL_r rfl (br_ z_35 (fun b4 hb4 => nl J (J1 _ _ (Sq fun K2 J2 => Rk fun K J => WL_r rfl (br_ z_35 (fun b5 hb5 => nl J (J2 _ _ (Sq fun K3 J3 => Sq fun K4 J4 => Rk fun K J => sE rfl (nl J (J4 _ _ (ao_ ?_)))))))))))))
 refine bI_ [6, 7, 8, 9, 10, 11, 12, 13, 14, 15, 16, 17, 18, 19, 20, 21, 22, 23, 24, 25, 26, 27, 28, 29, 30, 31] (fun g nn M => ∃ (k : Nat), (g 8 = .int .i64 (k : Int)) ∧ M = [⟨b5, 35, uw (dpart k (val xs / 2 ^ n) 16)⟩, ⟨b4, 35, uw (List.replicate 16 0)⟩, ⟨b2, 35, uw xs⟩] ∧ nn = 16 - k ∧ (k ≤ 16)) (16) ?start ?round
 case start =>
  refine ⟨_, (List.Sublist.refl _), 0, ?a8, ?mem0, rfl, Nat.zero_le _⟩
  case mem0 => rw [g9_]
  case a8 => rfl
 case round =>
  rintro nn g M ⟨k, hg8, rfl, hmeas, hk⟩
  subst nn
  simp only [setG, hg8]
  clear hg8
  refine Sq fun K5 J5 => Rk fun K J => sE rfl (nl J (J5 _ _ (Sq fun K6 J6 => ?_)))
  refine a4_ _ rfl (fun hc => ?_) (fun hc => ?_)
  ·(try simp only [decide_eq_true_eq, decide_eq_false_iff_not, beq_iff_eq, bne_iff_ne, beq_eq_false_iff_ne, bne_eq_false_iff_eq, Bool.not_eq_true', Bool.not_eq_false'] at hc)
   have hc : k < 16 := by omega
   refine aj_ (J6 _ _ (Sq fun K7 J7 => ao_ (Sq fun K8 J8 => Rk fun K J => sE rfl (sE rfl (nl J (J8 _ _ (Sq fun K9 J9 => Rk fun K J => sE rfl (nl J (J9 _ _ (Sq fun K10 J10 => Sq fun K11 J11 => Rk fun K J => sE rfl (sQ (q_as (q_add rfl rfl) (congrArg (Value.int .i64) (c4_ (by omega)))) rfl ?_)))))))))))
   refine sE rfl (nl J (J11 _ _ ?_))
   refine a4_ _ rfl (fun h13 => ?_) (fun h13 => ?_)
   ·(try simp only [decide_eq_true_eq, decide_eq_false_iff_not, beq_iff_eq, bne_iff_ne, beq_eq_false_iff_ne, bne_eq_false_iff_eq, Bool.not_eq_true', Bool.not_eq_false'] at h13)
    refine Rk fun K J => sE rfl (sQ (q_as (q_add rfl rfl) (congrArg (Value.int .i64) (c4_ (by omega)))) rfl (sQ (b3_ ar_35 rfl rfl (by omega) (by omega)) rfl (sQ (bn_ ty_34 rfl (by repeat (first | exact .head _ | apply List.mem_append_right | apply List.Mem.tail)) (uwAt (by omega))) rfl ?_)))
    refine sQ (q_as (bH_ in_34 cc_ rfl) (congrArg (Value.int .u64) (dc_ (bq_ lx _)))) rfl (sE rfl (nl J (J10 _ _ (Rk fun K J => sE rfl (sQ (q_as (dj_ rfl) (show _ = Value.int .u64 ((dig (val xs) (k + 1) : Nat) : Int) from by first | exact congrArg (fun m : Nat => Value.int .u64 (m : Int)) (bT_ xs (k + 1) lx) | exact congrArg (fun m : Nat => Value.int .u64 (m : Int)) (l0_ hx lx (by omega)).symm)) rfl ?_)))))
    refine sQ (q_as (q_shl rfl rfl (by decide)) (congrArg (Value.int .u64) (gW_ (e5_ _ _)))) rfl (sE rfl (sQ (b3_ ar_35 rfl rfl (by omega) (by omega)) rfl (sQ (bn_ ty_34 rfl (by repeat (first | exact .head _ | apply List.mem_append_right | apply List.Mem.tail)) (uwAt (by omega))) rfl ?_)))
    refine sQ (q_as (bH_ in_34 cc_ rfl) (congrArg (Value.int .u64) ((dc_ (bq_ lx _)).trans (by rw [bT_ xs k lx])))) rfl (sQ (q_as (q_or rfl rfl) (congrArg (Value.int .u64) (jv_ (e5_ _ _) (e5_ _ _)))) rfl (sE rfl (sQ (q_as (q_shr rfl rfl (by omega)) (congrArg (Value.int .u64) (shr_n hn))) rfl (sQ (q_as (bH_ cc_ in_34 rfl) (eu_ _)) rfl (sQ (b3_ ar_35 rfl rfl (by omega) (by omega)) rfl (WL_r rfl (dY_ ty_34 rfl rfl (by repeat (first | exact .head _ | apply Upd.left | apply Upd.tail)) (by rw [cU_ _ hk]; exact hc) (.inl (by assumption)) ?_)))))))
    refine nl J (J7 _ _ (Rk fun K J => sE rfl (sE rfl (nl J ?_))))
    refine ⟨(by repeat first | exact .refl | refine .cons rfl ?_), _, _, (List.Sublist.refl _), (by omega), k + 1, ?s8, ?mem, rfl, (by omega)⟩
    case mem => rw [i1_ k (by omega), gV_ _ hc]
    case s8 => exact congrArg (Value.int .i64) (c4_ (by omega))
   ·(try simp only [decide_eq_true_eq, decide_eq_false_iff_not, beq_iff_eq, bne_iff_ne, beq_eq_false_iff_ne, bne_eq_false_iff_eq, Bool.not_eq_true', Bool.not_eq_false'] at h13)
    refine aj_ (J10 _ _ (Rk fun K J => sE rfl (sQ (q_as (dj_ rfl) (show _ = Value.int .u64 ((dig (val xs) (k + 1) : Nat) : Int) from by first | exact congrArg (fun m : Nat => Value.int .u64 (m : Int)) (bT_ xs (k + 1) lx) | exact congrArg (fun m : Nat => Value.int .u64 (m : Int)) (l0_ hx lx (by omega)).symm)) rfl ?_)))
    refine sQ (q_as (q_shl rfl rfl (by decide)) (congrArg (Value.int .u64) (gW_ (e5_ _ _)))) rfl (sE rfl (sQ (b3_ ar_35 rfl rfl (by omega) (by omega)) rfl (sQ (bn_ ty_34 rfl (by repeat (first | exact .head _ | apply List.mem_append_right | apply List.Mem.tail)) (uwAt (by omega))) rfl ?_)))
    refine sQ (q_as (bH_ in_34 cc_ rfl) (congrArg (Value.int .u64) ((dc_ (bq_ lx _)).trans (by rw [bT_ xs k lx])))) rfl (sQ (q_as (q_or rfl rfl) (congrArg (Value.int .u64) (jv_ (e5_ _ _) (e5_ _ _)))) rfl (sE rfl (sQ (q_as (q_shr rfl rfl (by omega)) (congrArg (Value.int .u64) (shr_n hn))) rfl (sQ (q_as (bH_ cc_ in_34 rfl) (eu_ _)) rfl (sQ (b3_ ar_35 rfl rfl (by omega) (by omega)) rfl (WL_r rfl (dY_ ty_34 rfl rfl (by repeat (first | exact .head _ | apply Upd.left | apply Upd.tail)) (by rw [cU_ _ hk]; exact hc) (.inl (by assumption)) ?_)))))))
    refine nl J (J7 _ _ (Rk fun K J => sE rfl (sE rfl (nl J ?_))))
    refine ⟨(by repeat first | exact .refl | refine .cons rfl ?_), _, _, (List.Sublist.refl _), (by omega), k + 1, ?s8, ?mem, rfl, (by omega)⟩
    case mem => rw [i1_ k (by omega), gV_ _ hc]
    case s8 => exact congrArg (Value.int .i64) (c4_ (by omega))
  ·(try simp only [decide_eq_true_eq, decide_eq_false_iff_not, beq_iff_eq, bne_iff_ne, beq_eq_false_iff_ne, bne_eq_false_iff_eq, Bool.not_eq_true', Bool.not_eq_false'] at hc)
   obtain rfl : k = 16 := by omega
   refine bG_ (aw_ (aw_ (aC_ (J3 _ _ (Sq fun K12 J12 => Rk fun K J => sQ (aN_ ty_35 rfl (by repeat (first | exact .head _ | apply List.mem_append_right | apply List.Mem.tail)) (by simp [uw, cU_])) rfl ?_)))))
   refine WL_r rfl (aF_ ty_35 rfl rfl (by repeat (first | exact .head _ | apply Upd.left | apply Upd.tail)) (by simp [uw, cU_]) rfl (cw_ _) (.inl (by assumption)) ?_)
   refine nl J (J12 _ _ (W_ret (ret1 rfl (.inr rfl) ⟨_, _, _, _, _, _, rfl, (by repeat (first | exact .head _ | apply List.mem_append_right | apply List.Mem.tail)), ty_35, _, (be_ (by simp [uw, cU_])), (by simp [uw, cU_]), rfl⟩ ?_)))
   (rw [hp_]; rfl)

theorem iH_ (xs : List Nat) (hx : xs.length = 16) (lx : Lim xs) (d : Nat) (hd : d < 4294967296) (h0 : 0 < d) :
    Ret Tryz.prog 156 [UV xs, U32 d] (.tuple #[UV (toL 16 (val xs / d)), U32 (val xs % d)]) := by
 refine as_ (N := 33) Tryz.func156 rfl rfl (by simp) (fun w0 => ?_)
 simp only [initF, Nat.reduceAdd]
 refine Sq fun K1 J1 => Rk fun K J => WL_r rfl (r_box rfl rfl (fun b2 hb2 => WL_r rfl (br_ z_35 (fun b4 hb4 => sE rfl (nl J (J1 _ _ (Sq fun K2 J2 => Rk fun K J => sE rfl (nl J (J2 _ _ (Sq fun K3 J3 => Sq fun K4 J4 => Rk fun K J => sE rfl (nl J (J4 _ _ (ao_ ?_)))))))))))))
 refine bI_ [6, 7, 8, 9, 10, 11, 12, 13, 14, 15, 16, 17, 18, 19, 20, 21, 22, 23, 24, 25, 26, 27, 28, 29] (fun g nn M => ∃ (k : Nat), (g 6 = .int .u64 ((val xs / 4294967296 ^ k % d : Nat) : Int) ∧ g 7 = .int .i64 ((k : Int) - 1)) ∧ M = [⟨b4, 35, uw (hpart k (val xs / d))⟩, ⟨b2, 35, uw xs⟩] ∧ nn = k + 0 ∧ (k ≤ 16)) (16) ?start ?round
 case start =>
  refine ⟨_, (List.Sublist.refl _), 16, ⟨?a6, ?a7⟩, ?mem0, rfl, Nat.le_refl _⟩
  case mem0 => rw [nE_]
  case a6 => rw [div16 hx lx]; rfl
  case a7 => rfl
 case round =>
  rintro nn g M ⟨k, ⟨hg6, hg7⟩, rfl, hmeas, hk⟩
  subst nn
  simp only [setG, hg6, hg7]
  clear hg6 hg7
  refine Sq fun K5 J5 => Sq fun K6 J6 => Rk fun K J => sE rfl (sE rfl (nl J (J6 _ _ ?_)))
  refine a4_ _ rfl (fun hc => ?_) (fun hc => ?_)
  ·(try simp only [decide_eq_true_eq, decide_eq_false_iff_not, beq_iff_eq, bne_iff_ne, beq_eq_false_iff_ne, bne_eq_false_iff_eq, Bool.not_eq_true', Bool.not_eq_false'] at hc)
   obtain ⟨m, rfl⟩ : ∃ m, k = m + 1 := ⟨k - 1, by omega⟩
   have hr : val xs / 4294967296 ^ (m + 1) % d < 4294967296 := Nat.lt_trans (Nat.mod_lt _ h0) hd
   refine aj_ (J5 _ _ (Sq fun K7 J7 => ao_ (Sq fun K8 J8 => Rk fun K J => sQ (q_as (dj_ rfl) rfl) rfl (sQ (q_as (q_shl rfl rfl (by decide)) (congrArg (Value.int .u64) (gW_ hr))) rfl (sQ (q_as (dj_ rfl) (congrArg (Value.int .i64) (show (((m + 1 : Nat) : Int) - 1) = (m : Int) by omega))) rfl (sQ (b3_ ar_35 rfl rfl (by omega) (by omega)) rfl (sQ (bn_ ty_34 rfl (by repeat (first | exact .head _ | apply List.mem_append_right | apply List.Mem.tail)) (uwAt (by omega))) rfl ?_)))))))
   refine sQ (q_as (bH_ in_34 cc_ rfl) (congrArg (Value.int .u64) ((dc_ (bq_ lx _)).trans (by rw [bT_ xs m lx])))) rfl (sQ (q_as (q_or rfl rfl) (congrArg (Value.int .u64) (jv_ hr (e5_ _ _)))) rfl (sE rfl (nl J (J8 _ _ (Sq fun K9 J9 => Rk fun K J => sQ (q_as (dj_ rfl) (congrArg (Value.int .i64) (show (((m + 1 : Nat) : Int) - 1) = (m : Int) by omega))) rfl (sE rfl (sE rfl (sQ (q_as (bH_ in_34 cc_ rfl) (congrArg (Value.int .u64) (dc_ hd))) rfl (sQ (q_as (q_quo rfl rfl (by omega)) (congrArg (Value.int .u64) (nX_ _ _))) rfl (sQ (q_as (bH_ cc_ in_34 rfl) (eu_ _)) rfl (sQ (b3_ ar_35 rfl rfl (by omega) (by omega)) rfl (WL_r rfl (dY_ ty_34 rfl rfl (by repeat (first | exact .head _ | apply Upd.left | apply Upd.tail)) (by rw [dT_ _ (by omega)]; omega) (.inl (by assumption)) ?_)))))))))))))
   refine nl J (J9 _ _ (Rk fun K J => sE rfl (sE rfl (sQ (q_as (bH_ in_34 cc_ rfl) (congrArg (Value.int .u64) (dc_ hd))) rfl (sQ (q_as (q_rem rfl rfl (by omega)) (congrArg (Value.int .u64) (hP_ _ _))) rfl (sE rfl (nl J (J7 _ _ (Rk fun K J => sQ (q_as (dj_ rfl) (congrArg (Value.int .i64) (show (((m + 1 : Nat) : Int) - 1) = (m : Int) by omega))) rfl (sE rfl (sE rfl (nl J ?_))))))))))))
   refine ⟨(by repeat first | exact .refl | refine .cons rfl ?_), _, _, (List.Sublist.refl _), (by omega), m, ⟨?s6, ?s7⟩, ?mem, rfl, (by omega)⟩
   case mem => rw [mh_ m h0, iw_ (by omega)]
   case s6 => exact congrArg (fun m : Nat => Value.int .u64 (m : Int)) (is_ m h0).2
   case s7 => exact congrArg (Value.int .i64) (aK_ (n := (m : Int) - 1) (by unfold I64; omega))
  ·(try simp only [decide_eq_true_eq, decide_eq_false_iff_not, beq_iff_eq, bne_iff_ne, beq_eq_false_iff_ne, bne_eq_false_iff_eq, Bool.not_eq_true', Bool.not_eq_false'] at hc)
   obtain rfl : k = 0 := by omega
   refine bG_ (aw_ (aw_ (aC_ (J3 _ _ (Sq fun K10 J10 => Rk fun K J => sQ (aN_ ty_35 rfl (by repeat (first | exact .head _ | apply List.mem_append_right | apply List.Mem.tail)) (by simp [uw, dT_])) rfl ?_)))))
   refine sE rfl (sQ (q_as (bH_ cc_ in_34 rfl) (eu_ _)) rfl (WL_r rfl (aF_ ty_35 rfl rfl (by repeat (first | exact .head _ | apply Upd.left | apply Upd.tail)) (by simp [uw, dT_]) (by simp [uw, dT_]) (cw_ _) (.inl (by assumption)) ?_)))
   refine sE rfl (nl J (J10 _ _ (W_ret (ret2 rfl (.inr rfl) ⟨_, _, _, _, _, _, rfl, (by repeat (first | exact .head _ | apply List.mem_append_right | apply List.Mem.tail)), ty_35, _, (be_ (by simp [uw, dT_])), (by simp [uw, dT_]), rfl⟩ rfl ?_))))
   (rw [kj_, Nat.pow_zero, Nat.div_one, Nat.mod_eq_of_lt (Nat.lt_trans (Nat.mod_lt _ h0) hd)]; rfl)
end Go.Proofs.YtapbefpeopaecaaGreatDoor

