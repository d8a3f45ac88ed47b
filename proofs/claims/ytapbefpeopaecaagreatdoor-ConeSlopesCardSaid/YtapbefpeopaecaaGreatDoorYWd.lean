/- Walks: what these functions return. -/
import Derived.Test.YtapbefpeopaecaaGreatDoorYGE
import Derived.Test.YtapbefpeopaecaaGreatDoorYWa
import Derived.Test.YtapbefpeopaecaaGreatDoorYWe
namespace Go.Proofs.YtapbefpeopaecaaGreatDoor
open Go.Kn Go.Num
set_option linter.unusedVariables false
set_option linter.unusedSimpArgs false
set_option maxRecDepth 20000
set_option maxHeartbeats 8000000
theorem jC_ (x : Nat) (hx : x < 4294967296) :
    Ret Tryz.prog 154 [U32 x] (.int .i64 ((bl x : Nat) : Int)) := by
 refine av_ (N := 19) Tryz.func154 rfl rfl (by simp) (fun w0 => ?_)
 simp only [initF, Nat.reduceAdd]
 refine Sq fun K1 J1 => Rk fun K J => sE rfl (nl J (J1 _ _ (Sq fun K2 J2 => Sq fun K3 J3 => Rk fun K J => sE rfl (sE rfl (nl J (J3 _ _ ?_))))))
 refine a6_ _ rfl (fun h1 => ?_) (fun h1 => ?_)
 ·(try simp only [decide_eq_true_eq, decide_eq_false_iff_not, beq_iff_eq, bne_iff_ne, beq_eq_false_iff_ne, bne_eq_false_iff_eq, Bool.not_eq_true', Bool.not_eq_false'] at h1)
  refine Sq fun K4 J4 => Rk fun K J => sE rfl (sQ (q_as (q_shr rfl rfl (by decide)) (kv_ x 16)) rfl (sE rfl (nl J (J4 _ _ (Rk fun K J => sE rfl (nl J (J2 _ _ (Sq fun K5 J5 => Sq fun K6 J6 => Rk fun K J => sE rfl (sE rfl (nl J (J6 _ _ ?_)))))))))))
  refine a6_ _ rfl (fun h2 => ?_) (fun h2 => ?_)
  ·(try simp only [decide_eq_true_eq, decide_eq_false_iff_not, beq_iff_eq, bne_iff_ne, beq_eq_false_iff_ne, bne_eq_false_iff_eq, Bool.not_eq_true', Bool.not_eq_false'] at h2)
   refine Sq fun K7 J7 => Rk fun K J => sE rfl (sQ (q_as (q_shr rfl rfl (by decide)) (kv_ _ 8)) rfl (sE rfl (nl J (J7 _ _ (Rk fun K J => sE rfl (sE rfl (sE rfl (nl J (J5 _ _ (Sq fun K8 J8 => Rk fun K J => sE rfl (sE rfl (sQ (q_as (bt_ in_34 in_5 rfl) (u8_id (by omega))) rfl (sQ (kL_ (n := 256) bl st_9 rfl rfl (by omega) (by decide +kernel)) rfl (sQ (q_as (bt_ in_5 in_3 rfl) (jk_ (by omega))) rfl ?_))))))))))))))
   refine sE rfl (sE rfl (nl J (J8 _ _ (W_ret (ret1 rfl (.inr rfl) rfl ?_)))))
   exact i3_ (c := 24) rfl (by decide) (by omega) (by rw [he_ (k := 16) (by omega), he_ (n := x / 2 ^ 16) (k := 8) (by omega)]; omega)
  ·(try simp only [decide_eq_true_eq, decide_eq_false_iff_not, beq_iff_eq, bne_iff_ne, beq_eq_false_iff_ne, bne_eq_false_iff_eq, Bool.not_eq_true', Bool.not_eq_false'] at h2)
   refine ak_ (J5 _ _ (Sq fun K9 J9 => Rk fun K J => sE rfl (sE rfl (sQ (q_as (bt_ in_34 in_5 rfl) (u8_id (by omega))) rfl (sQ (kL_ (n := 256) bl st_9 rfl rfl (by omega) (by decide +kernel)) rfl (sQ (q_as (bt_ in_5 in_3 rfl) (jk_ (by omega))) rfl (sE rfl (sE rfl (nl J (J9 _ _ (W_ret (ret1 rfl (.inr rfl) rfl ?_))))))))))))
   exact i3_ (c := 16) rfl (by decide) (by omega) (by rw [he_ (k := 16) (by omega)])
 ·(try simp only [decide_eq_true_eq, decide_eq_false_iff_not, beq_iff_eq, bne_iff_ne, beq_eq_false_iff_ne, bne_eq_false_iff_eq, Bool.not_eq_true', Bool.not_eq_false'] at h1)
  refine ak_ (J2 _ _ (Sq fun K10 J10 => Sq fun K11 J11 => Rk fun K J => sE rfl (sE rfl (nl J (J11 _ _ ?_)))))
  refine a6_ _ rfl (fun h2 => ?_) (fun h2 => ?_)
  ·(try simp only [decide_eq_true_eq, decide_eq_false_iff_not, beq_iff_eq, bne_iff_ne, beq_eq_false_iff_ne, bne_eq_false_iff_eq, Bool.not_eq_true', Bool.not_eq_false'] at h2)
   refine Sq fun K12 J12 => Rk fun K J => sE rfl (sQ (q_as (q_shr rfl rfl (by decide)) (kv_ _ 8)) rfl (sE rfl (nl J (J12 _ _ (Rk fun K J => sE rfl (sE rfl (sE rfl (nl J (J10 _ _ (Sq fun K13 J13 => Rk fun K J => sE rfl (sE rfl (sQ (q_as (bt_ in_34 in_5 rfl) (u8_id (by omega))) rfl (sQ (kL_ (n := 256) bl st_9 rfl rfl (by omega) (by decide +kernel)) rfl (sQ (q_as (bt_ in_5 in_3 rfl) (jk_ (by omega))) rfl ?_))))))))))))))
   refine sE rfl (sE rfl (nl J (J13 _ _ (W_ret (ret1 rfl (.inr rfl) rfl ?_)))))
   exact i3_ (c := 8) rfl (by decide) (by omega) (by rw [he_ (k := 8) (by omega)])
  ·(try simp only [decide_eq_true_eq, decide_eq_false_iff_not, beq_iff_eq, bne_iff_ne, beq_eq_false_iff_ne, bne_eq_false_iff_eq, Bool.not_eq_true', Bool.not_eq_false'] at h2)
   refine ak_ (J10 _ _ (Sq fun K14 J14 => Rk fun K J => sE rfl (sE rfl (sQ (q_as (bt_ in_34 in_5 rfl) (u8_id (by omega))) rfl (sQ (kL_ (n := 256) bl st_9 rfl rfl (by omega) (by decide +kernel)) rfl (sQ (q_as (bt_ in_5 in_3 rfl) (jk_ (by omega))) rfl (sE rfl (sE rfl (nl J (J14 _ _ (W_ret (ret1 rfl (.inr rfl) rfl ?_))))))))))))
   exact i3_ (c := 0) rfl (by decide) (by omega) (by omega)

theorem ob_ (x : Nat) (hx : x < 4294967296) :
    Ret Tryz.prog 157 [U32 x] (.int .i64 ((32 - bl x : Nat) : Int)) := by
 refine av_ (N := 6) Tryz.func157 rfl rfl (by simp) (fun w0 => ?_)
 simp only [initF, Nat.reduceAdd]
 refine Sq fun K1 J1 => Rk fun K J => sE rfl (nl J (J1 _ _ (Sq fun K2 J2 => Rk fun K J => sE rfl (sQ (q_ret pH_ (jC_ x hx) rfl) rfl (sE rfl (sE rfl (nl J (J2 _ _ (W_ret (ret1 rfl (.inr rfl) rfl ?_))))))))))
 exact congrArg (Value.int .i64) (rV_ hx)

theorem fi_ (xs : List Nat) (hx : xs.length = 16) (lx : Lim xs) (n : Nat) (hn : n < 32) :
    Ret Tryz.prog 139 [UV xs, .int .i64 (n : Int)] (.tuple #[UV (toL 16 (val xs * 2 ^ n)), U32 (val xs * 2 ^ n / 4294967296 ^ 16)]) := by
 refine av_ (N := 30) Tryz.func139 rfl rfl (by simp) (fun w0 => ?_)
 simp only [initF, Nat.reduceAdd]
 refine Sq fun K1 J1 => Rk fun K J => WL_r rfl (r_box rfl rfl (fun b2 hb2 => WL_r rfl (bl_ z_35 (fun b4 hb4 => sE rfl (nl J (J1 _ _ (Sq fun K2 J2 => Rk fun K J => WL_r rfl (bl_ z_35 (fun b6 hb6 => nl J (J2 _ _ (Sq fun K3 J3 => Rk fun K J => sE rfl (nl J (J3 _ _ (Sq fun K4 J4 => Sq fun K5 J5 => Rk fun K J => ?_))))))))))))))
 refine sE rfl (nl J (J5 _ _ (ar_ ?_)))
 refine bN_ [7, 8, 9, 10, 11, 12, 13, 14, 15, 16, 17, 18, 19, 20, 21, 22, 23, 24, 25, 26] (fun g nn M => ∃ (k : Nat), (g 7 = .int .u64 ((mc (val xs) (2 ^ n) k : Nat) : Int) ∧ g 9 = .int .i64 (k : Int)) ∧ M = [⟨b6, 35, uw (dpart k (val xs * 2 ^ n) 16)⟩, ⟨b4, 35, uw (List.replicate 16 0)⟩, ⟨b2, 35, uw xs⟩] ∧ nn = 16 - k ∧ (k ≤ 16)) (16) ?start ?round
 case start =>
  refine ⟨_, (List.Sublist.refl _), 0, ⟨?a7, ?a9⟩, ?mem0, rfl, Nat.zero_le _⟩
  case mem0 => rw [gz_]
  case a7 => rw [qv_]; rfl
  case a9 => rfl
 case round =>
  rintro nn g M ⟨k, ⟨hg7, hg9⟩, rfl, hmeas, hk⟩
  subst nn
  simp only [setG, hg7, hg9]
  clear hg7 hg9
  refine Sq fun K6 J6 => Rk fun K J => sE rfl (nl J (J6 _ _ (Sq fun K7 J7 => ?_)))
  refine a6_ _ rfl (fun hc => ?_) (fun hc => ?_)
  ·(try simp only [decide_eq_true_eq, decide_eq_false_iff_not, beq_iff_eq, bne_iff_ne, beq_eq_false_iff_ne, bne_eq_false_iff_eq, Bool.not_eq_true', Bool.not_eq_false'] at hc)
   have hc : k < 16 := by omega
   refine ak_ (J7 _ _ (Sq fun K8 J8 => ar_ (Sq fun K9 J9 => Rk fun K J => sE rfl (sE rfl (nl J (J9 _ _ (Sq fun K10 J10 => Rk fun K J => sE rfl (sE rfl (sQ (bM_ ar_35 rfl rfl (by omega) (by omega)) rfl (sQ (bf_ ty_34 rfl (by repeat (first | exact .head _ | apply List.mem_append_right | apply List.Mem.tail)) (uwAt (by omega))) rfl ?_))))))))))
   refine sQ (bt_ in_34 bT_ rfl) rfl (sE rfl (sQ (q_as (q_shl rfl rfl (by omega)) (congrArg (Value.int .u64) (pY_ (bj_ lx k) (by omega)))) rfl (sQ (q_as (q_or rfl rfl) (congrArg (Value.int .u64) (up_or (mc_lt (m := 2 ^ n) _ k (Nat.pow_pos (by decide))) (bj_ lx k) hn))) rfl (sE rfl (nl J (J10 _ _ (Sq fun K11 J11 => Rk fun K J => sE rfl (sE rfl (sQ (q_as (bt_ bT_ in_34 rfl) (eb_ _)) rfl (sQ (bM_ ar_35 rfl rfl (by omega) (by omega)) rfl (WL_r rfl (dI_ ty_34 rfl rfl (by repeat (first | exact .head _ | apply Upd.left | apply Upd.tail)) (by rw [cG_ _ hk]; exact hc) (.inl (by assumption)) ?_))))))))))))
   refine nl J (J11 _ _ (Rk fun K J => sE rfl (sQ (q_as (q_shr rfl rfl (by decide)) (congrArg (Value.int .u64) (ex_ _ 32))) rfl (sE rfl (nl J (J8 _ _ (Rk fun K J => sE rfl (sE rfl (nl J ?_)))))))))
   refine ⟨(by repeat first | exact .refl | refine .cons rfl ?_), _, _, (List.Sublist.refl _), (by omega), k + 1, ⟨?s7, ?s9⟩, ?mem, rfl, (by omega)⟩
   case mem => rw [bE_ xs k lx, oE_, f5_ _ hc]
   case s7 => exact congrArg (fun m : Nat => Value.int .u64 (m : Int)) (by rw [bE_ xs k lx]; exact n3_ _ _ _)
   case s9 => exact congrArg (Value.int .i64) (cV_ (by omega))
  ·(try simp only [decide_eq_true_eq, decide_eq_false_iff_not, beq_iff_eq, bne_iff_ne, beq_eq_false_iff_ne, bne_eq_false_iff_eq, Bool.not_eq_true', Bool.not_eq_false'] at hc)
   obtain rfl : k = 16 := by omega
   refine bB_ (ax_ (ax_ (aF_ (J4 _ _ (Sq fun K12 J12 => Rk fun K J => sQ (aS_ ty_35 rfl (by repeat (first | exact .head _ | apply List.mem_append_right | apply List.Mem.tail)) (by simp [uw, cG_])) rfl ?_)))))
   refine sE rfl (sQ (q_as (bt_ bT_ in_34 rfl) (eb_ _)) rfl (WL_r rfl (aG_ ty_35 rfl rfl (by repeat (first | exact .head _ | apply Upd.left | apply Upd.tail)) (by simp [uw, cG_]) rfl (ce_ _) (.inl (by assumption)) ?_)))
   refine sE rfl (nl J (J12 _ _ (W_ret (ret2 rfl (.inr rfl) ⟨_, _, _, _, _, _, rfl, (by repeat (first | exact .head _ | apply List.mem_append_right | apply List.Mem.tail)), ty_35, _, (bd_ (by simp [uw, cG_])), (by simp [uw, cG_]), rfl⟩ rfl ?_))))
   (rw [g1_, mc16 hx lx, Nat.mod_eq_of_lt (mT_ hx lx hn)]; rfl)

theorem gI_ (xs : List Nat) (hx : xs.length = 16) (lx : Lim xs) (n : Nat) (hn : n < 32) :
    Ret Tryz.prog 140 [UV xs, .int .i64 (n : Int)] (UV (toL 16 (val xs / 2 ^ n))) := by
 refine av_ (N := 33) Tryz.func140 rfl rfl (by simp) (fun w0 => ?_)
 simp only [initF, Nat.reduceAdd]
 refine Sq fun K1 J1 => Rk fun K J => WL_r rfl (r_box rfl rfl (fun b2 hb2 => WL_r rfl (bl_ z_35 (fun b4 hb4 => nl J (J1 _ _ (Sq fun K2 J2 => Rk fun K J => WL_r rfl (bl_ z_35 (fun b5 hb5 => nl J (J2 _ _ (Sq fun K3 J3 => Sq fun K4 J4 => Rk fun K J => sE rfl (nl J (J4 _ _ (ar_ ?_)))))))))))))
 refine bN_ [6, 7, 8, 9, 10, 11, 12, 13, 14, 15, 16, 17, 18, 19, 20, 21, 22, 23, 24, 25, 26, 27, 28, 29, 30, 31] (fun g nn M => ∃ (k : Nat), (g 8 = .int .i64 (k : Int)) ∧ M = [⟨b5, 35, uw (dpart k (val xs / 2 ^ n) 16)⟩, ⟨b4, 35, uw (List.replicate 16 0)⟩, ⟨b2, 35, uw xs⟩] ∧ nn = 16 - k ∧ (k ≤ 16)) (16) ?start ?round
 case start =>
  refine ⟨_, (List.Sublist.refl _), 0, ?a8, ?mem0, rfl, Nat.zero_le _⟩
  case mem0 => rw [gz_]
  case a8 => rfl
 case round =>
  rintro nn g M ⟨k, hg8, rfl, hmeas, hk⟩
  subst nn
  simp only [setG, hg8]
  clear hg8
  refine Sq fun K5 J5 => Rk fun K J => sE rfl (nl J (J5 _ _ (Sq fun K6 J6 => ?_)))
  refine a6_ _ rfl (fun hc => ?_) (fun hc => ?_)
  ·(try simp only [decide_eq_true_eq, decide_eq_false_iff_not, beq_iff_eq, bne_iff_ne, beq_eq_false_iff_ne, bne_eq_false_iff_eq, Bool.not_eq_true', Bool.not_eq_false'] at hc)
   have hc : k < 16 := by omega
   refine ak_ (J6 _ _ (Sq fun K7 J7 => ar_ (Sq fun K8 J8 => Rk fun K J => sE rfl (sE rfl (nl J (J8 _ _ (Sq fun K9 J9 => Rk fun K J => sE rfl (nl J (J9 _ _ (Sq fun K10 J10 => Sq fun K11 J11 => Rk fun K J => sE rfl (sQ (q_as (q_add rfl rfl) (congrArg (Value.int .i64) (cV_ (by omega)))) rfl ?_)))))))))))
   refine sE rfl (nl J (J11 _ _ ?_))
   refine a6_ _ rfl (fun h13 => ?_) (fun h13 => ?_)
   ·(try simp only [decide_eq_true_eq, decide_eq_false_iff_not, beq_iff_eq, bne_iff_ne, beq_eq_false_iff_ne, bne_eq_false_iff_eq, Bool.not_eq_true', Bool.not_eq_false'] at h13)
    refine Rk fun K J => sE rfl (sQ (q_as (q_add rfl rfl) (congrArg (Value.int .i64) (cV_ (by omega)))) rfl (sQ (bM_ ar_35 rfl rfl (by omega) (by omega)) rfl (sQ (bf_ ty_34 rfl (by repeat (first | exact .head _ | apply List.mem_append_right | apply List.Mem.tail)) (uwAt (by omega))) rfl ?_)))
    refine sQ (q_as (bt_ in_34 bT_ rfl) (congrArg (Value.int .u64) (cY_ (bj_ lx _)))) rfl (sE rfl (nl J (J10 _ _ (Rk fun K J => sE rfl (sQ (q_as (c5_ rfl) (show _ = Value.int .u64 ((dig (val xs) (k + 1) : Nat) : Int) from by first | exact congrArg (fun m : Nat => Value.int .u64 (m : Int)) (bE_ xs (k + 1) lx) | exact congrArg (fun m : Nat => Value.int .u64 (m : Int)) (kS_ hx lx (by omega)).symm)) rfl ?_)))))
    refine sQ (q_as (q_shl rfl rfl (by decide)) (congrArg (Value.int .u64) (gi_ (eM_ _ _)))) rfl (sE rfl (sQ (bM_ ar_35 rfl rfl (by omega) (by omega)) rfl (sQ (bf_ ty_34 rfl (by repeat (first | exact .head _ | apply List.mem_append_right | apply List.Mem.tail)) (uwAt (by omega))) rfl ?_)))
    refine sQ (q_as (bt_ in_34 bT_ rfl) (congrArg (Value.int .u64) ((cY_ (bj_ lx _)).trans (by rw [bE_ xs k lx])))) rfl (sQ (q_as (q_or rfl rfl) (congrArg (Value.int .u64) (ji_ (eM_ _ _) (eM_ _ _)))) rfl (sE rfl (sQ (q_as (q_shr rfl rfl (by omega)) (congrArg (Value.int .u64) (shr_n hn))) rfl (sQ (q_as (bt_ bT_ in_34 rfl) (eb_ _)) rfl (sQ (bM_ ar_35 rfl rfl (by omega) (by omega)) rfl (WL_r rfl (dI_ ty_34 rfl rfl (by repeat (first | exact .head _ | apply Upd.left | apply Upd.tail)) (by rw [cG_ _ hk]; exact hc) (.inl (by assumption)) ?_)))))))
    refine nl J (J7 _ _ (Rk fun K J => sE rfl (sE rfl (nl J ?_))))
    refine ⟨(by repeat first | exact .refl | refine .cons rfl ?_), _, _, (List.Sublist.refl _), (by omega), k + 1, ?s8, ?mem, rfl, (by omega)⟩
    case mem => rw [iL_ k (by omega), f5_ _ hc]
    case s8 => exact congrArg (Value.int .i64) (cV_ (by omega))
   ·(try simp only [decide_eq_true_eq, decide_eq_false_iff_not, beq_iff_eq, bne_iff_ne, beq_eq_false_iff_ne, bne_eq_false_iff_eq, Bool.not_eq_true', Bool.not_eq_false'] at h13)
    refine ak_ (J10 _ _ (Rk fun K J => sE rfl (sQ (q_as (c5_ rfl) (show _ = Value.int .u64 ((dig (val xs) (k + 1) : Nat) : Int) from by first | exact congrArg (fun m : Nat => Value.int .u64 (m : Int)) (bE_ xs (k + 1) lx) | exact congrArg (fun m : Nat => Value.int .u64 (m : Int)) (kS_ hx lx (by omega)).symm)) rfl ?_)))
    refine sQ (q_as (q_shl rfl rfl (by decide)) (congrArg (Value.int .u64) (gi_ (eM_ _ _)))) rfl (sE rfl (sQ (bM_ ar_35 rfl rfl (by omega) (by omega)) rfl (sQ (bf_ ty_34 rfl (by repeat (first | exact .head _ | apply List.mem_append_right | apply List.Mem.tail)) (uwAt (by omega))) rfl ?_)))
    refine sQ (q_as (bt_ in_34 bT_ rfl) (congrArg (Value.int .u64) ((cY_ (bj_ lx _)).trans (by rw [bE_ xs k lx])))) rfl (sQ (q_as (q_or rfl rfl) (congrArg (Value.int .u64) (ji_ (eM_ _ _) (eM_ _ _)))) rfl (sE rfl (sQ (q_as (q_shr rfl rfl (by omega)) (congrArg (Value.int .u64) (shr_n hn))) rfl (sQ (q_as (bt_ bT_ in_34 rfl) (eb_ _)) rfl (sQ (bM_ ar_35 rfl rfl (by omega) (by omega)) rfl (WL_r rfl (dI_ ty_34 rfl rfl (by repeat (first | exact .head _ | apply Upd.left | apply Upd.tail)) (by rw [cG_ _ hk]; exact hc) (.inl (by assumption)) ?_)))))))
    refine nl J (J7 _ _ (Rk fun K J => sE rfl (sE rfl (nl J ?_))))
    refine ⟨(by repeat first | exact .refl | refine .cons rfl ?_), _, _, (List.Sublist.refl _), (by omega), k + 1, ?s8, ?mem, rfl, (by omega)⟩
    case mem => rw [iL_ k (by omega), f5_ _ hc]
    case s8 => exact congrArg (Value.int .i64) (cV_ (by omega))
  ·(try simp only [decide_eq_true_eq, decide_eq_false_iff_not, beq_iff_eq, bne_iff_ne, beq_eq_false_iff_ne, bne_eq_false_iff_eq, Bool.not_eq_true', Bool.not_eq_false'] at hc)
   obtain rfl : k = 16 := by omega
   refine bB_ (ax_ (ax_ (aF_ (J3 _ _ (Sq fun K12 J12 => Rk fun K J => sQ (aS_ ty_35 rfl (by repeat (first | exact .head _ | apply List.mem_append_right | apply List.Mem.tail)) (by simp [uw, cG_])) rfl ?_)))))
   refine WL_r rfl (aG_ ty_35 rfl rfl (by repeat (first | exact .head _ | apply Upd.left | apply Upd.tail)) (by simp [uw, cG_]) rfl (ce_ _) (.inl (by assumption)) ?_)
   refine nl J (J12 _ _ (W_ret (ret1 rfl (.inr rfl) ⟨_, _, _, _, _, _, rfl, (by repeat (first | exact .head _ | apply List.mem_append_right | apply List.Mem.tail)), ty_35, _, (bd_ (by simp [uw, cG_])), (by simp [uw, cG_]), rfl⟩ ?_)))
   (rw [g1_]; rfl)

theorem if_ (xs : List Nat) (hx : xs.length = 16) (lx : Lim xs) (d : Nat) (hd : d < 4294967296) (h0 : 0 < d) :
    Ret Tryz.prog 156 [UV xs, U32 d] (.tuple #[UV (toL 16 (val xs / d)), U32 (val xs % d)]) := by
 refine av_ (N := 33) Tryz.func156 rfl rfl (by simp) (fun w0 => ?_)
 simp only [initF, Nat.reduceAdd]
 refine Sq fun K1 J1 => Rk fun K J => WL_r rfl (r_box rfl rfl (fun b2 hb2 => WL_r rfl (bl_ z_35 (fun b4 hb4 => sE rfl (nl J (J1 _ _ (Sq fun K2 J2 => Rk fun K J => sE rfl (nl J (J2 _ _ (Sq fun K3 J3 => Sq fun K4 J4 => Rk fun K J => sE rfl (nl J (J4 _ _ (ar_ ?_)))))))))))))
 refine bN_ [6, 7, 8, 9, 10, 11, 12, 13, 14, 15, 16, 17, 18, 19, 20, 21, 22, 23, 24, 25, 26, 27, 28, 29] (fun g nn M => ∃ (k : Nat), (g 6 = .int .u64 ((val xs / 4294967296 ^ k % d : Nat) : Int) ∧ g 7 = .int .i64 ((k : Int) - 1)) ∧ M = [⟨b4, 35, uw (hpart k (val xs / d))⟩, ⟨b2, 35, uw xs⟩] ∧ nn = k + 0 ∧ (k ≤ 16)) (16) ?start ?round
 case start =>
  refine ⟨_, (List.Sublist.refl _), 16, ⟨?a6, ?a7⟩, ?mem0, rfl, Nat.le_refl _⟩
  case mem0 => rw [nu_]
  case a6 => rw [div16 hx lx]; rfl
  case a7 => rfl
 case round =>
  rintro nn g M ⟨k, ⟨hg6, hg7⟩, rfl, hmeas, hk⟩
  subst nn
  simp only [setG, hg6, hg7]
  clear hg6 hg7
  refine Sq fun K5 J5 => Sq fun K6 J6 => Rk fun K J => sE rfl (sE rfl (nl J (J6 _ _ ?_)))
  refine a6_ _ rfl (fun hc => ?_) (fun hc => ?_)
  ·(try simp only [decide_eq_true_eq, decide_eq_false_iff_not, beq_iff_eq, bne_iff_ne, beq_eq_false_iff_ne, bne_eq_false_iff_eq, Bool.not_eq_true', Bool.not_eq_false'] at hc)
   obtain ⟨m, rfl⟩ : ∃ m, k = m + 1 := ⟨k - 1, by omega⟩
   have hr : val xs / 4294967296 ^ (m + 1) % d < 4294967296 := Nat.lt_trans (Nat.mod_lt _ h0) hd
   refine ak_ (J5 _ _ (Sq fun K7 J7 => ar_ (Sq fun K8 J8 => Rk fun K J => sQ (q_as (c5_ rfl) rfl) rfl (sQ (q_as (q_shl rfl rfl (by decide)) (congrArg (Value.int .u64) (gi_ hr))) rfl (sQ (q_as (c5_ rfl) (congrArg (Value.int .i64) (show (((m + 1 : Nat) : Int) - 1) = (m : Int) by omega))) rfl (sQ (bM_ ar_35 rfl rfl (by omega) (by omega)) rfl (sQ (bf_ ty_34 rfl (by repeat (first | exact .head _ | apply List.mem_append_right | apply List.Mem.tail)) (uwAt (by omega))) rfl ?_)))))))
   refine sQ (q_as (bt_ in_34 bT_ rfl) (congrArg (Value.int .u64) ((cY_ (bj_ lx _)).trans (by rw [bE_ xs m lx])))) rfl (sQ (q_as (q_or rfl rfl) (congrArg (Value.int .u64) (ji_ hr (eM_ _ _)))) rfl (sE rfl (nl J (J8 _ _ (Sq fun K9 J9 => Rk fun K J => sQ (q_as (c5_ rfl) (congrArg (Value.int .i64) (show (((m + 1 : Nat) : Int) - 1) = (m : Int) by omega))) rfl (sE rfl (sE rfl (sQ (q_as (bt_ in_34 bT_ rfl) (congrArg (Value.int .u64) (cY_ hd))) rfl (sQ (q_as (q_quo rfl rfl (by omega)) (congrArg (Value.int .u64) (nL_ _ _))) rfl (sQ (q_as (bt_ bT_ in_34 rfl) (eb_ _)) rfl (sQ (bM_ ar_35 rfl rfl (by omega) (by omega)) rfl (WL_r rfl (dI_ ty_34 rfl rfl (by repeat (first | exact .head _ | apply Upd.left | apply Upd.tail)) (by rw [dF_ _ (by omega)]; omega) (.inl (by assumption)) ?_)))))))))))))
   refine nl J (J9 _ _ (Rk fun K J => sE rfl (sE rfl (sQ (q_as (bt_ in_34 bT_ rfl) (congrArg (Value.int .u64) (cY_ hd))) rfl (sQ (q_as (q_rem rfl rfl (by omega)) (congrArg (Value.int .u64) (hn_ _ _))) rfl (sE rfl (nl J (J7 _ _ (Rk fun K J => sQ (q_as (c5_ rfl) (congrArg (Value.int .i64) (show (((m + 1 : Nat) : Int) - 1) = (m : Int) by omega))) rfl (sE rfl (sE rfl (nl J ?_))))))))))))
   refine ⟨(by repeat first | exact .refl | refine .cons rfl ?_), _, _, (List.Sublist.refl _), (by omega), m, ⟨?s6, ?s7⟩, ?mem, rfl, (by omega)⟩
   case mem => rw [lQ_ m h0, im_ (by omega)]
   case s6 => exact congrArg (fun m : Nat => Value.int .u64 (m : Int)) (hZ_ m h0).2
   case s7 => exact congrArg (Value.int .i64) (aN_ (n := (m : Int) - 1) (by unfold I64; omega))
  ·(try simp only [decide_eq_true_eq, decide_eq_false_iff_not, beq_iff_eq, bne_iff_ne, beq_eq_false_iff_ne, bne_eq_false_iff_eq, Bool.not_eq_true', Bool.not_eq_false'] at hc)
   obtain rfl : k = 0 := by omega
   refine bB_ (ax_ (ax_ (aF_ (J3 _ _ (Sq fun K10 J10 => Rk fun K J => sQ (aS_ ty_35 rfl (by repeat (first | exact .head _ | apply List.mem_append_right | apply List.Mem.tail)) (by simp [uw, dF_])) rfl ?_)))))
   refine sE rfl (sQ (q_as (bt_ bT_ in_34 rfl) (eb_ _)) rfl (WL_r rfl (aG_ ty_35 rfl rfl (by repeat (first | exact .head _ | apply Upd.left | apply Upd.tail)) (by simp [uw, dF_]) (by simp [uw, dF_]) (ce_ _) (.inl (by assumption)) ?_)))
   refine sE rfl (nl J (J10 _ _ (W_ret (ret2 rfl (.inr rfl) ⟨_, _, _, _, _, _, rfl, (by repeat (first | exact .head _ | apply List.mem_append_right | apply List.Mem.tail)), ty_35, _, (bd_ (by simp [uw, dF_])), (by simp [uw, dF_]), rfl⟩ rfl ?_))))
   (rw [jQ_, Nat.pow_zero, Nat.div_one, Nat.mod_eq_of_lt (Nat.lt_trans (Nat.mod_lt _ h0) hd)]; rfl)
end Go.Proofs.YtapbefpeopaecaaGreatDoor

namespace Go.Proofs.YtapbefpeopaecaaGreatDoor
open Go.Kn Go.Num
set_option linter.unusedVariables false
set_option linter.unusedSimpArgs false
set_option maxRecDepth 20000
set_option maxHeartbeats 8000000
theorem ep_ (xs ys : List Nat) (hx : xs.length = 16) (hy : ys.length = 16) (lx : Lim xs) (ly : Lim ys) (h0 : 0 < val ys) :
    Ret Tryz.prog 146 [UV xs, UV ys] (.tuple #[UV (toL 16 (val xs / val ys)), UV (toL 16 (val xs % val ys))]) := by
 refine av_ (N := 94) Tryz.func146 rfl rfl (by simp) (fun w0 => ?_)
 simp only [initF, Nat.reduceAdd]
 refine Sq fun K1 J1 => Rk fun K J => WL_r rfl (r_box rfl rfl (fun b2 hb2 => WL_r rfl (r_box rfl rfl (fun b3 hb3 => WL_r rfl (bl_ z_35 (fun b4 hb4 => WL_r rfl (bl_ z_35 (fun b5 hb5 => nl J (J1 _ _ (Sq fun K2 J2 => dr (sk (sk (sk (sk (s0))))) [0,4,8,12,16,20] [] mix (by kernel_rfl) (fun K J => pQ rfl (aS_ ty_35 rfl (by repeat (first | exact .head _ | apply List.mem_append_right | apply List.Mem.tail)) (by simp [uw, hy])) ?_)))))))))))
 refine pQ rfl (q_ret hY_ (dA_ ys hy) rfl) (pQ rfl (aS_ ty_35 rfl (by repeat (first | exact .head _ | apply List.mem_append_right | apply List.Mem.tail)) (by simp [uw, hx])) ?_)
 refine pQ rfl (q_ret hY_ (dA_ xs hx) rfl) (pE rfl (pE rfl (fl J (J2 _ _ (Sq fun K3 J3 => Sq fun K4 J4 => Rk fun K J => sQ (aS_ ty_35 rfl (by repeat (first | exact .head _ | apply List.mem_append_right | apply List.Mem.tail)) (by simp [uw, hx])) rfl ?_)))))
 refine sQ (aS_ ty_35 rfl (by repeat (first | exact .head _ | apply List.mem_append_right | apply List.Mem.tail)) (by simp [uw, hy])) rfl ?_
 refine sQ (q_ret iC_ (dE_ xs ys hx hy lx ly) rfl) rfl (sE rfl (nl J (J4 _ _ ?_)))
 refine a6_ _ rfl (fun ho => ?_) (fun ho => ?_)
 ·(try simp only [decide_eq_true_eq, decide_eq_false_iff_not, beq_iff_eq, bne_iff_ne, beq_eq_false_iff_ne, bne_eq_false_iff_eq, Bool.not_eq_true', Bool.not_eq_false'] at ho)
  have hlt := ot_ ho
  refine Sq fun K5 J5 => dr (sd (sd (sk (sk (s0))))) [0,6,9,13] [2,3] mix (by kernel_rfl) (fun K J => pQ rfl (d6_ z_35 ar_35 rfl (.nil _)) (PL_s rfl rfl (aS_ ty_35 rfl (by repeat (first | exact .head _ | apply List.mem_append_right | apply List.Mem.tail)) (by simp [uw, hx])) ?_))
  refine PL_o rfl rfl (aG_ ty_35 rfl rfl (by repeat (first | exact .head _ | apply Upd.left | apply Upd.tail)) (by simp [uw, List.length_replicate]) (by simp [uw]) (ce_ _) (.inl (by assumption)) ⟨nf, (by repeat (first | exact s0 | exact sn | refine sk ?_ | refine sd ?_ | refine sA ?_ | refine sR ?_)), ?_⟩)
  refine PL_o rfl rfl (aG_ ty_35 rfl rfl (by repeat (first | exact .head _ | apply Upd.left | apply Upd.tail)) (by simp [uw, hx]) (by simp [uw]) (ce_ _) (.inl (by assumption)) ⟨nf, (by repeat (first | exact s0 | exact sn | refine sk ?_ | refine sd ?_ | refine sA ?_ | refine sR ?_)), ?_⟩)
  refine fl J (J5 _ _ (W_ret (ai_ (ret2 rfl (.inr rfl) ⟨_, _, _, _, _, _, rfl, (by repeat (first | exact .head _ | apply List.mem_append_right | apply List.Mem.tail)), ty_35, _, (bd_ (by simp [uw])), (by simp [uw]), rfl⟩ ⟨_, _, _, _, _, _, rfl, (by repeat (first | exact .head _ | apply List.mem_append_right | apply List.Mem.tail)), ty_35, _, (bd_ (by simp [uw, hx])), (by simp [uw, hx]), rfl⟩ ?_))))
  exact oU_ hx lx hlt
 ·(try simp only [decide_eq_true_eq, decide_eq_false_iff_not, beq_iff_eq, bne_iff_ne, beq_eq_false_iff_ne, bne_eq_false_iff_eq, Bool.not_eq_true', Bool.not_eq_false'] at ho)
  have hle := mp_ (Int.not_lt.1 ho)
  have hsp := r6_ h0
  have hsz := fQ_ ys
  rw [hy] at hsz
  refine ak_ (J3 _ _ (Sq fun K6 J6 => Sq fun K7 J7 => Rk fun K J => sE rfl (sE rfl (nl J (J7 _ _ ?_)))))
  refine a6_ _ rfl (fun h29 => ?_) (fun h29 => ?_)
  ·(try simp only [decide_eq_true_eq, decide_eq_false_iff_not, beq_iff_eq, bne_iff_ne, beq_eq_false_iff_ne, bne_eq_false_iff_eq, Bool.not_eq_true', Bool.not_eq_false'] at h29)
   have hsz1 : szL ys = 1 := by omega
   refine Sq fun K8 J8 => Rk fun K J => sQ (aS_ ty_35 rfl (by repeat (first | exact .head _ | apply List.mem_append_right | apply List.Mem.tail)) (by simp [uw, hx])) rfl ?_
   refine sQ (bM_ ar_35 rfl rfl (by decide) (by decide)) rfl (sQ (bf_ ty_34 rfl (by repeat (first | exact .head _ | apply List.mem_append_right | apply List.Mem.tail)) (uwAt (k := 0) (by omega))) rfl ?_)
   refine sQ (q_ret q3_ (if_ xs hx lx _ (bj_ ly 0) (nb_ hsz1)) rfl) rfl (sE rfl (sE rfl (sE rfl (WL_r rfl (bl_ z_35 (fun b8 hb8 => WL_r rfl (aG_ ty_35 rfl rfl (by repeat (first | exact .head _ | apply Upd.left | apply Upd.tail)) (by simp [uw, a3_]) (by simp [uw]) (ce_ _) (.inl (by assumption)) ?_)))))))
   refine sE rfl (nl J (J8 _ _ (Sq fun K9 J9 => Rk fun K J => sQ (aS_ ty_35 rfl (by repeat (first | exact .head _ | apply List.mem_append_right | apply List.Mem.tail)) (by simp [uw, a3_])) rfl ?_)))
   refine sE rfl (sQ (d6_ z_35 ar_35 rfl (fill1 _)) rfl (WL_r rfl (aG_ ty_35 rfl rfl (by repeat (first | exact .head _ | apply Upd.left | apply Upd.tail)) (by simp [uw, a3_]) (by simp [uw]) (ce_ _) (.inl (by assumption)) ?_)))
   refine WL_r rfl (aG_ ty_35 rfl rfl (by repeat (first | exact .head _ | apply Upd.left | apply Upd.tail)) (by simp [uw, List.length_replicate]) (by simp [uw]) (ce_ _) (.inl (by assumption)) ?_)
   refine nl J (J9 _ _ (W_ret (ai_ (ret2 rfl (.inr rfl) ⟨_, _, _, _, _, _, rfl, (by repeat (first | exact .head _ | apply List.mem_append_right | apply List.Mem.tail)), ty_35, _, (bd_ (by simp [uw, a3_])), (by simp [uw, a3_]), rfl⟩ ⟨_, _, _, _, _, _, rfl, (by repeat (first | exact .head _ | apply List.mem_append_right | apply List.Mem.tail)), ty_35, _, (bd_ (by simp [uw])), (by simp [uw]), rfl⟩ ?_))))
   exact qE_ ly hsz1
  ·(try simp only [decide_eq_true_eq, decide_eq_false_iff_not, beq_iff_eq, bne_iff_ne, beq_eq_false_iff_ne, bne_eq_false_iff_eq, Bool.not_eq_true', Bool.not_eq_false'] at h29)
   have h2 : 2 ≤ szL ys := by omega
   have D : DV xs ys (szL ys) (32 - bl (ys.getD (szL ys - 1) 0)) := ⟨hx, hy, lx, ly, rfl, h2, rfl, hle⟩
   refine ak_ (J6 _ _ (Sq fun K10 J10 => Rk fun K J => sE rfl (sQ (q_as (q_sub rfl rfl) (congrArg (Value.int .i64) (eV_ (b := 1) rfl (by omega) (by omega)))) rfl (sQ (bM_ ar_35 rfl rfl (by omega) (by omega)) rfl (sQ (bf_ ty_34 rfl (by repeat (first | exact .head _ | apply List.mem_append_right | apply List.Mem.tail)) (uwAt (by omega))) rfl ?_)))))
   refine sQ (q_ret qX_ (ob_ _ (bj_ ly _)) rfl) rfl (sE rfl (nl J (J10 _ _ (Sq fun K11 J11 => Rk fun K J => sQ (aS_ ty_35 rfl (by repeat (first | exact .head _ | apply List.mem_append_right | apply List.Mem.tail)) (by simp [uw, hy])) rfl ?_))))
   refine sE rfl (sQ (q_ret lc_ (fi_ ys hy ly _ D.s32) rfl) rfl (sE rfl (sE rfl (sE rfl (WL_r rfl (bl_ z_35 (fun b11 hb11 => WL_r rfl (aG_ ty_35 rfl rfl (by repeat (first | exact .head _ | apply Upd.left | apply Upd.tail)) (by simp [uw, a3_]) (by simp [uw]) (ce_ _) (.inl (by assumption)) ?_))))))))
   refine sE rfl (nl J (J11 _ _ (Sq fun K12 J12 => Rk fun K J => sQ (aS_ ty_35 rfl (by repeat (first | exact .head _ | apply List.mem_append_right | apply List.Mem.tail)) (by simp [uw, hx])) rfl ?_)))
   refine sE rfl (sQ (q_ret lc_ (fi_ xs hx lx _ D.s32) rfl) rfl (sE rfl (sE rfl (sE rfl (WL_r rfl (bl_ z_35 (fun b13 hb13 => WL_r rfl (aG_ ty_35 rfl rfl (by repeat (first | exact .head _ | apply Upd.left | apply Upd.tail)) (by simp [uw, a3_]) (by simp [uw]) (ce_ _) (.inl (by assumption)) ?_))))))))
   refine sE rfl (nl J (J12 _ _ (Sq fun K13 J13 => Rk fun K J => WL_r rfl (bl_ z_146 (fun b15 hb15 => nl J (J13 _ _ (Sq fun K14 J14 => dr (sd (sk (sk (sk (sk (sk (sk (s0)))))))) [0,4,9] [2] mix (by kernel_rfl) (fun K J => pQ rfl (gp_ fj_ rfl rfl rfl (by decide) (by decide) (by decide) (by decide)) (pQ rfl (gp_ ar_35 rfl rfl rfl (by decide) (by decide) (by decide) (by decide)) ?_)))))))))
   refine PL_o rfl rfl (k6_ kB_ rfl rfl (by repeat (first | exact .head _ | apply List.mem_append_right | apply List.Mem.tail)) (by repeat (first | exact .head _ | apply Upd.left | apply Upd.tail)) (fun v hv => ce_ _ v (List.mem_of_mem_drop (List.mem_of_mem_take hv))) (by simp [uw, a3_]) (by simp [uw]) (ql_ (a3_ _ _)) (.inl (by assumption)) ⟨nf, (by repeat (first | exact s0 | exact sn | refine sk ?_ | refine sd ?_ | refine sA ?_ | refine sR ?_)), ?_⟩)
   refine fl J (J14 _ _ (Sq fun K15 J15 => Rk fun K J => sE rfl (sQ (bM_ fj_ rfl rfl (by decide) (by decide)) rfl (WL_r rfl (dI_ (k := 16) ty_34 rfl rfl (by repeat (first | exact .head _ | apply Upd.left | apply Upd.tail)) (by simp [a3_]) (.inl (by assumption)) ?_)))))
   refine nl J (J15 _ _ (Sq fun K16 J16 => Sq fun K17 J17 => Rk fun K J => sE rfl (sE rfl (sQ (q_as (q_sub rfl rfl) (congrArg (Value.int .i64) (nc_ D.nm (by have := D.m16; omega)))) rfl (sE rfl (nl J (J17 _ _ (ar_ ?_))))))))
   refine bN_ [16, 17, 65, 66, 67, 68, 69, 70, 71, 72, 73, 74, 75, 76, 77, 78, 79, 80, 81, 82, 83, 84, 85, 86, 87] (fun g nn M => ∃ (k : Nat) (l : List Nat), (g 16 = .int .i64 ((k : Int) - 1)) ∧ M = [⟨b15, 146, uw l⟩, ⟨b13, 35, uw (toL 16 (val xs * 2 ^ (32 - bl (ys.getD (szL ys - 1) 0))))⟩, ⟨b11, 35, uw (toL 16 (val ys * 2 ^ (32 - bl (ys.getD (szL ys - 1) 0))))⟩, ⟨b5, 35, uw (List.replicate 16 0)⟩, ⟨b4, 35, uw (hpart k (val xs / val ys))⟩, ⟨b3, 35, uw ys⟩, ⟨b2, 35, uw xs⟩] ∧ nn = k + 0 ∧ (k + szL ys ≤ 17 ∧ QI xs ys (32 - bl (ys.getD (szL ys - 1) 0)) k l)) (szL xs - szL ys + 1) ?start ?round
   case start =>
    refine ⟨_, (List.Sublist.refl _), szL xs - szL ys + 1, ((toL 16 (val xs * 2 ^ (32 - bl (ys.getD (szL ys - 1) 0))) ++ [0]).set 16 (val xs * 2 ^ (32 - bl (ys.getD (szL ys - 1) 0)) / 4294967296 ^ 16)), ?a16, ?mem0, rfl, ⟨by have := D.nm; have := D.m16; omega, QI.start D⟩⟩
    case mem0 => rw [← DV.qstart D]
    case a16 => exact congrArg (Value.int .i64) (by omega)
   case round =>
    rintro nn g M ⟨k, l, hg16, rfl, hmeas, ⟨hkn, hq⟩⟩
    subst nn
    simp only [setG, hg16]
    clear hg16
    refine Sq fun K18 J18 => Sq fun K19 J19 => Rk fun K J => sE rfl (sE rfl (nl J (J19 _ _ ?_)))
    refine a6_ _ rfl (fun hc => ?_) (fun hc => ?_)
    ·(try simp only [decide_eq_true_eq, decide_eq_false_iff_not, beq_iff_eq, bne_iff_ne, beq_eq_false_iff_ne, bne_eq_false_iff_eq, Bool.not_eq_true', Bool.not_eq_false'] at hc)
     obtain ⟨m, rfl⟩ : ∃ m, k = m + 1 := ⟨k - 1, by omega⟩
     refine ak_ (J18 _ _ (Sq fun K20 J20 => ar_ (Sq fun K21 J21 => Rk fun K J => sQ (aS_ ty_35 rfl (by repeat (first | exact .head _ | apply List.mem_append_right | apply List.Mem.tail)) (by simp [uw, a3_])) rfl ?_)))
     refine sE rfl (sQ (q_as (c5_ rfl) (congrArg (Value.int .i64) (show (((m + 1 : Nat) : Int) - 1) = (m : Int) by omega))) rfl (WL_r rfl (qh_ q0_ rfl (fun w hw => ig_ l _ (szL ys) m (hq.qh D (by omega)) b15 146 w (hw.mem _ m0)) (fun d hd => sE rfl (nl J (J21 _ _ (Sq fun K22 J22 => Sq fun K23 J23 => Rk fun K J => sQ (aS_ ty_35 rfl (by repeat (first | exact .head _ | apply List.mem_append_right | apply List.Mem.tail)) (by simp [uw, a3_])) rfl ?_)))))))
     refine sE rfl (sQ (q_as (c5_ rfl) (congrArg (Value.int .i64) (show (((m + 1 : Nat) : Int) - 1) = (m : Int) by omega))) rfl (sE rfl (WL_r rfl (me_ ru_ rfl (fun w hw => ix_ l _ (szL ys) m d hq.len hq.lim (a3_ _ _) (dh_ _ _) (by rw [D.v16]; exact D.vlt) (by omega) (hq.small D) hd.1 b15 146 w (hw.mem _ m0)) (fun x => (by repeat (first | exact .head _ | apply Upd.left | apply Upd.tail))) (.inl (by assumption)) (fun x ht => ?_)))))
     refine nl J (J23 _ _ ?_)
     refine a6_ _ rfl (fun h77 => ?_) (fun h77 => ?_)
     ·(try simp only [decide_eq_true_eq, decide_eq_false_iff_not, beq_iff_eq, bne_iff_ne, beq_eq_false_iff_ne, bne_eq_false_iff_eq, Bool.not_eq_true', Bool.not_eq_false'] at h77)
      refine Sq fun K24 J24 => Rk fun K J => sE rfl (sQ (q_as (q_sub rfl rfl) (congrArg (Value.int .u64) (jc_ rfl (ht.pos (by omega)) (by have := hd.1; omega)))) rfl (sE rfl (nl J (J24 _ _ (Rk fun K J => sQ (aS_ ty_35 rfl (by repeat (first | exact .head _ | apply List.mem_append_right | apply List.Mem.tail)) (by simp [uw, a3_])) rfl ?_)))))
      refine sE rfl (sQ (q_as (c5_ rfl) (congrArg (Value.int .i64) (show (((m + 1 : Nat) : Int) - 1) = (m : Int) by omega))) rfl (WL_r rfl (me_ q5_ rfl (fun w hw => iv_ x.1 _ (szL ys) m ht.len ht.lim (a3_ _ _) (dh_ _ _) (by rw [D.v16]; exact D.vlt) (by omega) ht.small b15 146 w (hw.mem _ m0)) (fun y => (by repeat (first | exact .head _ | apply Upd.left | apply Upd.tail))) (.inl (by assumption)) (fun y hgv => ?_))))
      refine nl J ?_
      obtain ⟨hz, hdz, _⟩ := hq.took1 D hd ht (by omega) hgv
      refine J22 _ _ (Rk fun K J => sQ (q_as (c5_ rfl) (congrArg (Value.int .i64) (show (((m + 1 : Nat) : Int) - 1) = (m : Int) by omega))) rfl (sE rfl (sQ (q_as (bt_ bT_ in_34 rfl) (eb_ _)) rfl (sQ (bM_ ar_35 rfl rfl (by omega) (by omega)) rfl (WL_r rfl (dI_ ty_34 rfl rfl (by repeat (first | exact .head _ | apply Upd.left | apply Upd.tail)) (by rw [dF_ _ (by omega)]; omega) (.inl (by assumption)) ?_))))))
      refine nl J (J20 _ _ (Rk fun K J => sQ (q_as (c5_ rfl) (congrArg (Value.int .i64) (show (((m + 1 : Nat) : Int) - 1) = (m : Int) by omega))) rfl (sE rfl (sE rfl (nl J ?_)))))
      refine ⟨(by repeat first | exact .refl | refine .cons rfl ?_), _, _, (List.Sublist.refl _), (by omega), m, _, ?s16, ?mem, rfl, ⟨by omega, hz⟩⟩
      case mem => rw [hdz, im_ (by omega)]
      case s16 => exact congrArg (Value.int .i64) (aN_ (n := (m : Int) - 1) (by unfold I64; omega))
     ·(try simp only [decide_eq_true_eq, decide_eq_false_iff_not, beq_iff_eq, bne_iff_ne, beq_eq_false_iff_ne, bne_eq_false_iff_eq, Bool.not_eq_true', Bool.not_eq_false'] at h77)
      obtain ⟨hz, hdz⟩ := hq.took0 D hd ht (by omega)
      refine ak_ (J22 _ _ (Rk fun K J => sQ (q_as (c5_ rfl) (congrArg (Value.int .i64) (show (((m + 1 : Nat) : Int) - 1) = (m : Int) by omega))) rfl (sE rfl (sQ (q_as (bt_ bT_ in_34 rfl) (eb_ _)) rfl (sQ (bM_ ar_35 rfl rfl (by omega) (by omega)) rfl (WL_r rfl (dI_ ty_34 rfl rfl (by repeat (first | exact .head _ | apply Upd.left | apply Upd.tail)) (by rw [dF_ _ (by omega)]; omega) (.inl (by assumption)) ?_)))))))
      refine nl J (J20 _ _ (Rk fun K J => sQ (q_as (c5_ rfl) (congrArg (Value.int .i64) (show (((m + 1 : Nat) : Int) - 1) = (m : Int) by omega))) rfl (sE rfl (sE rfl (nl J ?_)))))
      refine ⟨(by repeat first | exact .refl | refine .cons rfl ?_), _, _, (List.Sublist.refl _), (by omega), m, _, ?s16, ?mem, rfl, ⟨by omega, hz⟩⟩
      case mem => rw [hdz, im_ (by omega)]
      case s16 => exact congrArg (Value.int .i64) (aN_ (n := (m : Int) - 1) (by unfold I64; omega))
    ·(try simp only [decide_eq_true_eq, decide_eq_false_iff_not, beq_iff_eq, bne_iff_ne, beq_eq_false_iff_ne, bne_eq_false_iff_eq, Bool.not_eq_true', Bool.not_eq_false'] at hc)
     obtain rfl : k = 0 := by omega
     refine bB_ (ax_ (ax_ (aF_ (J16 _ _ (Sq fun K25 J25 => dr (sk (sk (sk (sd (sd (sk (sk (s0)))))))) [0,4,8,12,16,20,25,29] [6,7] mix (by kernel_rfl) (fun K J => pQ rfl (aS_ ty_35 rfl (by repeat (first | exact .head _ | apply List.mem_append_right | apply List.Mem.tail)) (by rw [ck_, dF_ _ (by omega)])) ?_))))))
     refine pQ rfl (gp_ fj_ rfl rfl rfl (by decide) (by decide) (by decide) (by decide)) (pQ rfl (q_s2a ar_35 rfl (by decide)) (pQ rfl (cs_ (vs := uw (l.take 16)) ty_35 rfl (by repeat (first | exact .head _ | apply List.mem_append_right | apply List.Mem.tail)) qm_ (by simp [uw, hq.len])) ?_))
     refine pE rfl (pQ rfl (q_ret pg_ (gI_ (l.take 16) (by simp [hq.len]) (hq.lim.take 16) _ D.s32) rfl) ?_)
     refine PL_o rfl rfl (aG_ ty_35 rfl rfl (by repeat (first | exact .head _ | apply Upd.left | apply Upd.tail)) (by rw [ck_, dF_ _ (by omega)]) (by rw [ck_, dF_ _ (by omega)]) (ce_ _) (.inl (by assumption)) ⟨nf, (by repeat (first | exact s0 | exact sn | refine sk ?_ | refine sd ?_ | refine sA ?_ | refine sR ?_)), ?_⟩)
     refine PL_o rfl rfl (aG_ ty_35 rfl rfl (by repeat (first | exact .head _ | apply Upd.left | apply Upd.tail)) (by simp [uw, a3_]) (by simp [uw]) (ce_ _) (.inl (by assumption)) ⟨nf, (by repeat (first | exact s0 | exact sn | refine sk ?_ | refine sd ?_ | refine sA ?_ | refine sR ?_)), ?_⟩)
     refine fl J (J25 _ _ (W_ret (ret2 rfl (.inr rfl) ⟨_, _, _, _, _, _, rfl, (by repeat (first | exact .head _ | apply List.mem_append_right | apply List.Mem.tail)), ty_35, _, (bd_ (by rw [ck_, dF_ _ (by omega)])), (by rw [ck_, dF_ _ (by omega)]), rfl⟩ ⟨_, _, _, _, _, _, rfl, (by repeat (first | exact .head _ | apply List.mem_append_right | apply List.Mem.tail)), ty_35, _, (bd_ (by simp [uw, a3_])), (by simp [uw, a3_]), rfl⟩ ?_)))
     (rw [jQ_, hq.fin D]; rfl)
end Go.Proofs.YtapbefpeopaecaaGreatDoor

