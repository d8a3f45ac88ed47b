/- Walks: what these functions return. -/
import Derived.Test.YtapbefpeopaecaaGreatDoorYGE
namespace Go.Proofs.YtapbefpeopaecaaGreatDoor
open Go.Kn Go.Num
set_option linter.unusedVariables false
set_option linter.unusedSimpArgs false
set_option maxRecDepth 20000
set_option maxHeartbeats 8000000
theorem e6_ (r : R) (h : r.Ok) :
    Ret Tryz.prog 145 [RV r] (.bool r.valid) := by
 refine av_ (N := 23) Tryz.func145 rfl rfl (by simp) (fun w0 => ?_)
 simp only [initF, Nat.reduceAdd]
 refine Sq fun K1 J1 => Rk fun K J => WL_r rfl (r_box rfl rfl (fun b1 hb1 => sE rfl (nl J (J1 _ _ (Sq fun K2 J2 => Rk fun K J => sQ (aW_ bv_ (by decide) rfl) rfl (sQ (cs_ (vs := uw r.w) ty_35 rfl (by repeat (first | exact .head _ | apply List.mem_append_right | apply List.Mem.tail)) (dp_ h.len) ((ck_ _).trans h.len)) rfl ?_))))))
 refine sQ (d6_ z_35 ar_35 rfl (.nil _)) rfl ?_
 refine sQ (h0_ (r := r.zero) rfl rfl (dU_ 8 (by decide) eg_35 lv_35 (dM_ h.len) (dM_ (by simp)) h.zero_iff)) rfl ?_
 refine sE rfl (nl J (J2 _ _ (Sq fun K3 J3 => Sq fun K4 J4 => Rk fun K J => sQ (aW_ ea_ (by decide) rfl) rfl (sQ (bf_ ty_4 rfl (by repeat (first | exact .head _ | apply List.mem_append_right | apply List.Mem.tail)) rfl) rfl ?_))))
 refine nl J (J4 _ _ ?_)
 refine a6_ _ rfl (fun hb => ?_) (fun hb => ?_)
 ·(try simp only [decide_eq_true_eq, decide_eq_false_iff_not, beq_iff_eq, bne_iff_ne, beq_eq_false_iff_ne, bne_eq_false_iff_eq, Bool.not_eq_true', Bool.not_eq_false'] at hb)
  refine Sq fun K5 J5 => Rk fun K J => sE rfl (sE rfl ?_)
  cases hz : r.zero
  ·skip
   refine WL_n rfl (WL_n rfl (WL_n rfl (sE rfl (sE rfl (nl J (J5 _ _ (W_ret (ai_ (ret1 rfl (.inr rfl) rfl ?_)))))))))
   simp [R.valid, *]
  ·skip
   refine sQ (aW_ bq_ (by decide) rfl) rfl (sQ (bf_ ty_4 rfl (by repeat (first | exact .head _ | apply List.mem_append_right | apply List.Mem.tail)) rfl) rfl ?_)
   refine sE rfl (sE rfl (sE rfl (nl J (J5 _ _ (W_ret (ai_ (ret1 rfl (.inr rfl) rfl ?_)))))))
   simp [R.valid, *]
 ·(try simp only [decide_eq_true_eq, decide_eq_false_iff_not, beq_iff_eq, bne_iff_ne, beq_eq_false_iff_ne, bne_eq_false_iff_eq, Bool.not_eq_true', Bool.not_eq_false'] at hb)
  refine ak_ (J3 _ _ (Sq fun K6 J6 => Rk fun K J => sE rfl (sE rfl (sE rfl ?_))))
  cases hz : r.zero
  ·skip
   refine WL_n rfl (WL_n rfl (WL_n rfl (sE rfl (sE rfl (nl J (J6 _ _ (W_ret (ret1 rfl (.inr rfl) rfl ?_))))))))
   simp [R.valid, *]
  ·skip
   refine sQ (aW_ bq_ (by decide) rfl) rfl (sQ (bf_ ty_4 rfl (by repeat (first | exact .head _ | apply List.mem_append_right | apply List.Mem.tail)) rfl) rfl ?_)
   refine sE rfl (sE rfl (sE rfl (nl J (J6 _ _ (W_ret (ret1 rfl (.inr rfl) rfl ?_))))))
   simp [R.valid, *]

theorem bW_  :
    Ret Tryz.prog 136 [] (RV Z.bad.enc) := by
 refine av_ (N := 2) Tryz.func136 rfl rfl (by simp) (fun w0 => ?_)
 simp only [initF, Nat.reduceAdd]
 refine Sq fun K1 J1 => Rk fun K J => WL_r rfl (bl_ z_37 (fun b0 hb0 => nl J (J1 _ _ (Sq fun K2 J2 => Rk fun K J => sQ (fH_ z_37 pl_37 rfl (.cons rfl (vs := [.bool true]) rfl rfl (by simp [zR]) (z' := Z.bad.enc.cells) rfl (.nil _))) rfl ?_))))
 refine WL_r rfl (aG_ ty_37 rfl rfl (by repeat (first | exact .head _ | apply Upd.left | apply Upd.tail)) rfl rfl (at_ Z.bad.enc) (.inl (by assumption)) ?_)
 refine nl J (J2 _ _ (W_ret (ret1 rfl (.inr rfl) ⟨_, _, _, _, _, _, rfl, (by repeat (first | exact .head _ | apply List.mem_append_right | apply List.Mem.tail)), ty_37, _, (bd_ rfl), rfl, rfl⟩ ?_)))
 exact rfl

theorem bn_ (neg : Bool) (w : List Nat) (hw : w.length = 16) (hlim : Lim w) :
    Ret Tryz.prog 112 [.bool neg, UV w] (RV ⟨false, neg && !(val w == 0), w⟩) := by
 refine av_ (N := 13) Tryz.func112 rfl rfl (by simp) (fun w0 => ?_)
 simp only [initF, Nat.reduceAdd]
 have hlw : (uw w).length = 16 := by rw [ck_, hw]
 refine Sq fun K1 J1 => Rk fun K J => WL_r rfl (r_box rfl rfl (fun b3 hb3 => WL_r rfl (bl_ z_37 (fun b4 hb4 => nl J (J1 _ _ (Sq fun K2 J2 => dr (sd (sk (s0))) [0,4,8,12,16,20,24,28,33] [8] mix (by kernel_rfl) (fun K J => pE rfl (pE rfl ?_))))))))
 cases neg
 ·skip
  refine PL_n rfl rfl (PL_n rfl rfl (PL_n rfl rfl (pE rfl (pQ rfl (aS_ ty_35 rfl (by repeat (first | exact .head _ | apply List.mem_append_right | apply List.Mem.tail)) hlw) ?_))))
  refine pQ rfl (fH_ z_37 pl_37 rfl (ps_ hw)) ?_
  refine PL_o rfl rfl (aG_ ty_37 rfl rfl (by repeat (first | exact .head _ | apply Upd.left | apply Upd.tail)) (by simp [R.cells, hlw]) rfl (at_ _) (.inl (by assumption)) ⟨nf, (by repeat (first | exact s0 | exact sn | refine sk ?_ | refine sd ?_ | refine sA ?_ | refine sR ?_)), ?_⟩)
  refine fl J (J2 _ _ (W_ret (ret1 rfl (.inr rfl) ⟨_, _, _, _, _, _, rfl, (by repeat (first | exact .head _ | apply List.mem_append_right | apply List.Mem.tail)), ty_37, _, (bd_ (by simp [R.cells, hlw])), (by simp [R.cells, hlw]), rfl⟩ ?_)))
  rfl
 ·skip
  refine pQ rfl (aS_ ty_35 rfl (by repeat (first | exact .head _ | apply List.mem_append_right | apply List.Mem.tail)) hlw) ?_
  refine pQ rfl (d6_ z_35 ar_35 rfl (.nil _)) ?_
  refine pQ rfl (gw_ (r := (val w == 0)) rfl rfl (dU_ 8 (by decide) eg_35 lv_35 (dM_ hw) (dM_ (by simp)) (g5_ hw hlim))) ?_
  refine pE rfl (pQ rfl (aS_ ty_35 rfl (by repeat (first | exact .head _ | apply List.mem_append_right | apply List.Mem.tail)) hlw) ?_)
  refine pQ rfl (fH_ z_37 pl_37 rfl (ps_ hw)) ?_
  refine PL_o rfl rfl (aG_ ty_37 rfl rfl (by repeat (first | exact .head _ | apply Upd.left | apply Upd.tail)) (by simp [R.cells, hlw]) rfl (at_ _) (.inl (by assumption)) ⟨nf, (by repeat (first | exact s0 | exact sn | refine sk ?_ | refine sd ?_ | refine sA ?_ | refine sR ?_)), ?_⟩)
  refine fl J (J2 _ _ (W_ret (ret1 rfl (.inr rfl) ⟨_, _, _, _, _, _, rfl, (by repeat (first | exact .head _ | apply List.mem_append_right | apply List.Mem.tail)), ty_37, _, (bd_ (by simp [R.cells, hlw])), (by simp [R.cells, hlw]), rfl⟩ ?_)))
  rfl

theorem bZ_ (rs : List R) (hrs : ∀ r ∈ rs, r.Ok) (b T : Nat) (w : World) (hb : w.heap[b]? = some (.cells (rs.flatMap R.cells).toArray T (0, 0))) (hn : rs.length ≤ 1000) :
    Calls Tryz.prog 135 [.slice (some ⟨b, 0, none⟩) rs.length rs.length].toArray w (fun e w' => e = .returned (.bool (rs.all R.good)) ∧ Ext w w') := by
 refine di_ (N := 19) Tryz.func135 rfl rfl (by simp) ?_
 obtain ⟨w0, rfl⟩ : ∃ w0, w0 = w := ⟨_, rfl⟩
 simp only [initF, Nat.reduceAdd]
 refine Sq fun K1 J1 => Rk fun K J => sE rfl (nl J (J1 _ _ (Sq fun K2 J2 => Sq fun K3 J3 => Rk fun K J => sE rfl (sQ (q_len lv_ rfl) rfl (sE rfl (nl J (J3 _ _ (ar_ ?_))))))))
 refine bN_ [2, 4, 7, 8, 9, 10, 11, 12, 13, 14, 15, 16, 17, 18] (fun g nn M => ∃ (k : Nat), (g 7 = .int .i64 (k : Int)) ∧ M = [] ∧ nn = rs.length - k ∧ (k ≤ rs.length ∧ (rs.take k).all R.good = true)) (rs.length - 0) ?start ?round
 case start =>
  refine ⟨_, (List.Sublist.refl _), 0, ?a7, ?mem0, rfl, ⟨Nat.zero_le _, rfl⟩⟩
  case mem0 => rfl
  case a7 => rfl
 case round =>
  rintro nn g M ⟨k, hg7, rfl, hmeas, ⟨hk, hall⟩⟩
  subst nn
  simp only [setG, hg7]
  clear hg7
  refine Sq fun K4 J4 => Rk fun K J => sE rfl (nl J (J4 _ _ (Sq fun K5 J5 => ?_)))
  refine a6_ _ rfl (fun hc => ?_) (fun hc => ?_)
  ·(try simp only [decide_eq_true_eq, decide_eq_false_iff_not, beq_iff_eq, bne_iff_ne, beq_eq_false_iff_ne, bne_eq_false_iff_eq, Bool.not_eq_true', Bool.not_eq_false'] at hc)
   obtain ⟨r, hr⟩ : ∃ r, rs[k]? = some r := ⟨_, List.getElem?_eq_getElem (by omega)⟩
   have hrok := hrs r (List.mem_of_getElem? hr)
   refine ak_ (J5 _ _ (Sq fun K6 J6 => ar_ (Sq fun K7 J7 => Rk fun K J => sQ (hW_ lv_ rfl rfl (by omega) (by omega)) rfl (sQ (lw_ (vs := r.cells) ty_37 rfl hb (by simp) (by rw [show (0 + (k : Int).toNat * 18) = k * 18 by omega]; exact id_ R.cells 18 rs k r (fun y hy => aQ_ (hrs y hy)) hr) (aQ_ hrok)) rfl ?_))))
   refine WL_r rfl (bl_ z_37 (fun b4 hb4 => WL_r rfl (aG_ ty_37 rfl rfl (by repeat (first | exact .head _ | apply Upd.left | apply Upd.tail)) (aQ_ hrok) rfl (at_ _) (.inl (by assumption)) ?_)))
   refine nl J (J7 _ _ (Sq fun K8 J8 => Rk fun K J => sQ (aW_ ea_ (by decide) rfl) rfl (sQ (bf_ ty_4 rfl (by repeat (first | exact .head _ | apply List.mem_append_right | apply List.Mem.tail)) rfl) rfl ?_)))
   refine sE rfl ?_
   cases hbad : r.bad
   ·skip
    refine sQ (aS_ ty_37 rfl (by repeat (first | exact .head _ | apply List.mem_append_right | apply List.Mem.tail)) (aQ_ hrok)) rfl ?_
    refine sQ (q_ret mK_ (e6_ r hrok) rfl) rfl (sE rfl (sE rfl (nl J (J8 _ _ ?_))))
    refine a6_ _ rfl (fun hx => ?_) (fun hx => ?_)
    ·(try simp only [decide_eq_true_eq, decide_eq_false_iff_not, beq_iff_eq, bne_iff_ne, beq_eq_false_iff_ne, bne_eq_false_iff_eq, Bool.not_eq_true', Bool.not_eq_false'] at hx)
     skip
     refine Sq fun K9 J9 => Rk fun K J => sE rfl (nl J (J9 _ _ (W_ret (aB_ (ai_ (ai_ (aB_ (ai_ (ret1 rfl (.inr rfl) rfl ?_)))))))))
     exact congrArg Value.bool (hw_ hr (by simp [R.good, hbad, hx]))
    ·(try simp only [decide_eq_true_eq, decide_eq_false_iff_not, beq_iff_eq, bne_iff_ne, beq_eq_false_iff_ne, bne_eq_false_iff_eq, Bool.not_eq_true', Bool.not_eq_false'] at hx)
     skip
     refine ak_ (J6 _ _ (Rk fun K J => sE rfl (sE rfl (nl J ?_))))
     refine ⟨(by repeat first | exact .refl | refine .cons rfl ?_), _, _, (List.Sublist.cons _ (List.Sublist.refl _)), (by omega), k + 1, ?s7, ?mem, rfl, ⟨by omega, by rw [iX_ (by omega) hr]; simp [hall, R.good, hbad, hx]⟩⟩
     case mem => rfl
     case s7 => (show Value.int .i64 _ = _; rw [aN_ (by unfold I64; omega)]; rfl)
   ·skip
    refine WL_n rfl (WL_n rfl (WL_n rfl (sE rfl (nl J (J8 _ _ (bF_ rfl (Sq fun K10 J10 => Rk fun K J => sE rfl (nl J (J10 _ _ (W_ret (aB_ (ai_ (ai_ (aB_ (ai_ (ret1 rfl (.inr rfl) rfl ?_))))))))))))))))
    exact congrArg Value.bool (hw_ hr (by simp [R.good, hbad]))
  ·(try simp only [decide_eq_true_eq, decide_eq_false_iff_not, beq_iff_eq, bne_iff_ne, beq_eq_false_iff_ne, bne_eq_false_iff_eq, Bool.not_eq_true', Bool.not_eq_false'] at hc)
   have hke : k = rs.length := by omega
   refine bB_ (ax_ (ax_ (aF_ (J2 _ _ (Sq fun K11 J11 => Rk fun K J => sE rfl (nl J (J11 _ _ (W_ret (ret1 rfl (.inr rfl) rfl ?_)))))))))
   (subst hke; rw [List.take_length] at hall; exact congrArg Value.bool hall.symm)

theorem it_ (xs ys : List Nat) (hx : xs.length = 16) (hy : ys.length = 16) (lx : Lim xs) (ly : Lim ys) :
    Ret Tryz.prog 148 [UV xs, UV ys] (.tuple #[UV (toL 16 (val xs + val ys)), .bool (((cy (val xs) (val ys) 16 : Nat) : Int) == 0)]) := by
 refine av_ (N := 33) Tryz.func148 rfl rfl (by simp) (fun w0 => ?_)
 simp only [initF, Nat.reduceAdd]
 refine Sq fun K1 J1 => Rk fun K J => WL_r rfl (r_box rfl rfl (fun b2 hb2 => WL_r rfl (r_box rfl rfl (fun b3 hb3 => WL_r rfl (bl_ z_35 (fun b4 hb4 => sE rfl (nl J (J1 _ _ (Sq fun K2 J2 => Rk fun K J => WL_r rfl (bl_ z_35 (fun b6 hb6 => nl J (J2 _ _ (Sq fun K3 J3 => Rk fun K J => sE rfl (nl J (J3 _ _ (Sq fun K4 J4 => Sq fun K5 J5 => ?_))))))))))))))))
 refine Rk fun K J => sE rfl (nl J (J5 _ _ (ar_ ?_)))
 refine bN_ [7, 8, 9, 10, 11, 12, 13, 14, 15, 16, 17, 18, 19, 20, 21, 22, 23, 24, 25, 26, 27, 28, 29] (fun g nn M => ∃ (k : Nat), (g 7 = .int .u64 ((cy (val xs) (val ys) k : Nat) : Int) ∧ g 9 = .int .i64 (k : Int)) ∧ M = [⟨b6, 35, uw (dpart k (val xs + val ys) 16)⟩, ⟨b4, 35, uw (List.replicate 16 0)⟩, ⟨b3, 35, uw ys⟩, ⟨b2, 35, uw xs⟩] ∧ nn = 16 - k ∧ (k ≤ 16)) (16) ?start ?round
 case start =>
  refine ⟨_, (List.Sublist.refl _), 0, ⟨?a7, ?a9⟩, ?mem0, rfl, Nat.zero_le _⟩
  case mem0 => rw [gz_]
  case a7 => rw [qM_]; rfl
  case a9 => rfl
 case round =>
  rintro nn g M ⟨k, ⟨hg7, hg9⟩, rfl, hmeas, hk⟩
  subst nn
  simp only [setG, hg7, hg9]
  clear hg7 hg9
  refine Sq fun K6 J6 => Rk fun K J => sE rfl (nl J (J6 _ _ (Sq fun K7 J7 => ?_)))
  refine a6_ _ rfl (fun hc => ?_) (fun hc => ?_)
  ·(try simp only [decide_eq_true_eq, decide_eq_false_iff_not, beq_iff_eq, bne_iff_ne, beq_eq_false_iff_ne, bne_eq_false_iff_eq, Bool.not_eq_true', Bool.not_eq_false'] at hc)
   have hc : k < 16 := by omega
   have hcy := cy_le (val xs) (val ys) k
   refine ak_ (J7 _ _ (Sq fun K8 J8 => ar_ (Sq fun K9 J9 => Rk fun K J => sE rfl (sE rfl (nl J (J9 _ _ (Sq fun K10 J10 => dr (sk (sk (sk (sk (s0))))) [0,4,8,12,16,20,24,28,32,36,40,44] [] mix (by kernel_rfl) (fun K J => pE rfl (pE rfl (pQ rfl (bM_ ar_35 rfl rfl (by omega) (by omega)) (pQ rfl (bf_ ty_34 rfl (by repeat (first | exact .head _ | apply List.mem_append_right | apply List.Mem.tail)) (uwAt (by omega))) ?_)))))))))))
   refine pQ rfl (bt_ in_34 bT_ rfl) (pE rfl (pQ rfl (bM_ ar_35 rfl rfl (by omega) (by omega)) (pQ rfl (bf_ ty_34 rfl (by repeat (first | exact .head _ | apply List.mem_append_right | apply List.Mem.tail)) (uwAt (by omega))) ?_)))
   refine pQ rfl (bt_ in_34 bT_ rfl) (pE rfl (pQ rfl (q_as (q_add rfl rfl) (congrArg (Value.int .u64) (r8_ hcy (bj_ lx k) (bj_ ly k)))) (pE rfl (fl J (J10 _ _ (Sq fun K11 J11 => Rk fun K J => sE rfl (sE rfl (sQ (q_as (bt_ bT_ in_34 rfl) (eb_ _)) rfl (sQ (bM_ ar_35 rfl rfl (by omega) (by omega)) rfl (WL_r rfl (dI_ ty_34 rfl rfl (by repeat (first | exact .head _ | apply Upd.left | apply Upd.tail)) (by rw [cG_ _ hk]; exact hc) (.inl (by assumption)) ?_)))))))))))
   refine nl J (J11 _ _ (Rk fun K J => sE rfl (sQ (q_as (q_shr rfl rfl (by decide)) (congrArg (Value.int .u64) (ex_ _ 32))) rfl (sE rfl (nl J (J8 _ _ (Rk fun K J => sE rfl (sE rfl (nl J ?_)))))))))
   refine ⟨(by repeat first | exact .refl | refine .cons rfl ?_), _, _, (List.Sublist.refl _), (by omega), k + 1, ⟨?s7, ?s9⟩, ?mem, rfl, (by omega)⟩
   case mem => rw [bE_ xs k lx, bE_ ys k ly, lL_, f5_ _ hc]
   case s7 => rw [← lM_, ← bE_ xs k lx, ← bE_ ys k ly]; rfl
   case s9 => exact congrArg (Value.int .i64) (aN_ (n := (k : Int) + 1) (by unfold I64; omega))
  ·(try simp only [decide_eq_true_eq, decide_eq_false_iff_not, beq_iff_eq, bne_iff_ne, beq_eq_false_iff_ne, bne_eq_false_iff_eq, Bool.not_eq_true', Bool.not_eq_false'] at hc)
   obtain rfl : k = 16 := by omega
   refine bB_ (ax_ (ax_ (aF_ (J4 _ _ (Sq fun K12 J12 => Rk fun K J => sQ (aS_ ty_35 rfl (by repeat (first | exact .head _ | apply List.mem_append_right | apply List.Mem.tail)) (by simp [uw, cG_])) rfl ?_)))))
   refine sE rfl (sE rfl (WL_r rfl (aG_ ty_35 rfl rfl (by repeat (first | exact .head _ | apply Upd.left | apply Upd.tail)) (by simp [uw, cG_]) rfl (ce_ _) (.inl (by assumption)) ?_)))
   refine sE rfl (nl J (J12 _ _ (W_ret (ret2 rfl (.inr rfl) ⟨_, _, _, _, _, _, rfl, (by repeat (first | exact .head _ | apply List.mem_append_right | apply List.Mem.tail)), ty_35, _, (bd_ (by simp [uw, cG_])), (by simp [uw, cG_]), rfl⟩ rfl ?_))))
   rw [g1_]; rfl

theorem fe_ (xs ys : List Nat) (hx : xs.length = 16) (hy : ys.length = 16) (lx : Lim xs) (ly : Lim ys) (hle : val ys ≤ val xs) :
    Ret Tryz.prog 150 [UV xs, UV ys] (UV (toL 16 (val xs - val ys))) := by
 refine av_ (N := 31) Tryz.func150 rfl rfl (by simp) (fun w0 => ?_)
 simp only [initF, Nat.reduceAdd]
 refine Sq fun K1 J1 => Rk fun K J => WL_r rfl (r_box rfl rfl (fun b2 hb2 => WL_r rfl (r_box rfl rfl (fun b3 hb3 => WL_r rfl (bl_ z_35 (fun b4 hb4 => nl J (J1 _ _ (Sq fun K2 J2 => Rk fun K J => WL_r rfl (bl_ z_35 (fun b5 hb5 => nl J (J2 _ _ (Sq fun K3 J3 => Rk fun K J => sE rfl (nl J (J3 _ _ (Sq fun K4 J4 => Sq fun K5 J5 => Rk fun K J => ?_)))))))))))))))
 refine sE rfl (nl J (J5 _ _ (ar_ ?_)))
 refine bN_ [6, 7, 8, 9, 10, 11, 12, 13, 14, 15, 16, 17, 18, 19, 20, 21, 22, 23, 24, 25, 26, 27, 28, 29] (fun g nn M => ∃ (k : Nat), (g 6 = .int .u64 ((bw (val xs) (val ys) k : Nat) : Int) ∧ g 9 = .int .i64 (k : Int)) ∧ M = [⟨b5, 35, uw (dpart k (val xs - val ys) 16)⟩, ⟨b4, 35, uw (List.replicate 16 0)⟩, ⟨b3, 35, uw ys⟩, ⟨b2, 35, uw xs⟩] ∧ nn = 16 - k ∧ (k ≤ 16)) (16) ?start ?round
 case start =>
  refine ⟨_, (List.Sublist.refl _), 0, ⟨?a6, ?a9⟩, ?mem0, rfl, Nat.zero_le _⟩
  case mem0 => rw [gz_]
  case a6 => rw [p0_]; rfl
  case a9 => rfl
 case round =>
  rintro nn g M ⟨k, ⟨hg6, hg9⟩, rfl, hmeas, hk⟩
  subst nn
  simp only [setG, hg6, hg9]
  clear hg6 hg9
  refine Sq fun K6 J6 => Rk fun K J => sE rfl (nl J (J6 _ _ (Sq fun K7 J7 => ?_)))
  refine a6_ _ rfl (fun hc => ?_) (fun hc => ?_)
  ·(try simp only [decide_eq_true_eq, decide_eq_false_iff_not, beq_iff_eq, bne_iff_ne, beq_eq_false_iff_ne, bne_eq_false_iff_eq, Bool.not_eq_true', Bool.not_eq_false'] at hc)
   have hc : k < 16 := by omega
   have hbw := bw_le (val xs) (val ys) k
   refine ak_ (J7 _ _ (Sq fun K8 J8 => ar_ (Sq fun K9 J9 => Rk fun K J => sE rfl (sE rfl (nl J (J9 _ _ (Sq fun K10 J10 => dr (sk (sk (sk (sk (s0))))) [0,4,8,12,16,20,24,28,32,36,40,44] [] mix (by kernel_rfl) (fun K J => pE rfl (pQ rfl (bM_ ar_35 rfl rfl (by omega) (by omega)) (pQ rfl (bf_ ty_34 rfl (by repeat (first | exact .head _ | apply List.mem_append_right | apply List.Mem.tail)) (uwAt (by omega))) ?_))))))))))
   refine pQ rfl (bt_ in_34 bT_ rfl) (pE rfl (pQ rfl (bM_ ar_35 rfl rfl (by omega) (by omega)) (pQ rfl (bf_ ty_34 rfl (by repeat (first | exact .head _ | apply List.mem_append_right | apply List.Mem.tail)) (uwAt (by omega))) ?_)))
   refine pQ rfl (bt_ in_34 bT_ rfl) (pE rfl (pE rfl (pQ rfl (q_as (q_sub rfl rfl) (congrArg (Value.int .u64) (nM_ hbw (bj_ lx k) (bj_ ly k)))) (pE rfl (fl J (J10 _ _ (Sq fun K11 J11 => Rk fun K J => sE rfl (sE rfl (sQ (q_as (bt_ bT_ in_34 rfl) (eb_ _)) rfl (sQ (bM_ ar_35 rfl rfl (by omega) (by omega)) rfl (WL_r rfl (dI_ ty_34 rfl rfl (by repeat (first | exact .head _ | apply Upd.left | apply Upd.tail)) (by rw [cG_ _ hk]; exact hc) (.inl (by assumption)) ?_))))))))))))
   refine nl J (J11 _ _ (Rk fun K J => sE rfl (sQ (q_as (q_shr rfl rfl (by decide)) (congrArg (Value.int .u64) (ex_ _ 63))) rfl (sE rfl (nl J (J8 _ _ (Rk fun K J => sE rfl (sE rfl (nl J ?_)))))))))
   refine ⟨(by repeat first | exact .refl | refine .cons rfl ?_), _, _, (List.Sublist.refl _), (by omega), k + 1, ⟨?s6, ?s9⟩, ?mem, rfl, (by omega)⟩
   case mem => rw [bE_ xs k lx, bE_ ys k ly, kA_ k hle, f5_ _ hc]
   case s6 => rw [← jX_, ← bE_ xs k lx, ← bE_ ys k ly]; rfl
   case s9 => exact congrArg (Value.int .i64) (aN_ (n := (k : Int) + 1) (by unfold I64; omega))
  ·(try simp only [decide_eq_true_eq, decide_eq_false_iff_not, beq_iff_eq, bne_iff_ne, beq_eq_false_iff_ne, bne_eq_false_iff_eq, Bool.not_eq_true', Bool.not_eq_false'] at hc)
   obtain rfl : k = 16 := by omega
   refine bB_ (ax_ (ax_ (aF_ (J4 _ _ (Sq fun K12 J12 => Rk fun K J => sQ (aS_ ty_35 rfl (by repeat (first | exact .head _ | apply List.mem_append_right | apply List.Mem.tail)) (by simp [uw, cG_])) rfl ?_)))))
   refine WL_r rfl (aG_ ty_35 rfl rfl (by repeat (first | exact .head _ | apply Upd.left | apply Upd.tail)) (by simp [uw, cG_]) rfl (ce_ _) (.inl (by assumption)) ?_)
   refine nl J (J12 _ _ (W_ret (ret1 rfl (.inr rfl) ⟨_, _, _, _, _, _, rfl, (by repeat (first | exact .head _ | apply List.mem_append_right | apply List.Mem.tail)), ty_35, _, (bd_ (by simp [uw, cG_])), (by simp [uw, cG_]), rfl⟩ ?_)))
   rw [g1_]; rfl

theorem ik_ (x : Nat) :
    Ret Tryz.prog 163 [U32 x] (.bool false) := by
 refine av_ (N := 6) Tryz.func163 rfl rfl (by simp) (fun w0 => ?_)
 simp only [initF, Nat.reduceAdd]
 refine Sq fun K1 J1 => Rk fun K J => sE rfl (nl J (J1 _ _ (Sq fun K2 J2 => Rk fun K J => sE rfl (sE rfl (sQ (q_as (q_neq rfl rfl) (congrArg Value.bool (bne_self_eq_false _))) rfl (sE rfl (nl J (J2 _ _ (W_ret (ret1 rfl (.inr rfl) rfl ?_))))))))))
 exact rfl

theorem nK_ (x y : Nat) :
    Ret Tryz.prog 161 [U32 x, U32 y] (.int .i64 (cmpI x y)) := by
 refine av_ (N := 20) Tryz.func161 rfl rfl (by simp) (fun w0 => ?_)
 simp only [initF, Nat.reduceAdd]
 refine Sq fun K1 J1 => Rk fun K J => sE rfl (nl J (J1 _ _ (Sq fun K2 J2 => Rk fun K J => sE rfl (sQ (q_ret pB_ (ik_ x) rfl) rfl (sE rfl (nl J (J2 _ _ (Sq fun K3 J3 => Rk fun K J => sE rfl (sQ (q_ret pB_ (ik_ y) rfl) rfl (sE rfl (nl J (J3 _ _ (Sq fun K4 J4 => ?_)))))))))))))
 refine Sq fun K5 J5 => Rk fun K J => sE rfl (nl J (J5 _ _ (by_ rfl (ak_ (J4 _ _ (Sq fun K6 J6 => Sq fun K7 J7 => Rk fun K J => sE rfl (nl J (J7 _ _ (by_ rfl (ak_ (J6 _ _ (Sq fun K8 J8 => Sq fun K9 J9 => Rk fun K J => ?_))))))))))))
 refine sE rfl (sE rfl (sE rfl (nl J (J9 _ _ ?_))))
 refine a6_ _ rfl (fun h1 => ?_) (fun h1 => ?_)
 ·(try simp only [decide_eq_true_eq, decide_eq_false_iff_not, beq_iff_eq, bne_iff_ne, beq_eq_false_iff_ne, bne_eq_false_iff_eq, Bool.not_eq_true', Bool.not_eq_false'] at h1)
  refine Sq fun K10 J10 => Rk fun K J => sE rfl (nl J (J10 _ _ (W_ret (ai_ (ret1 rfl (.inr rfl) rfl ?_)))))
  exact congrArg _ (f9_ h1).symm
 ·(try simp only [decide_eq_true_eq, decide_eq_false_iff_not, beq_iff_eq, bne_iff_ne, beq_eq_false_iff_ne, bne_eq_false_iff_eq, Bool.not_eq_true', Bool.not_eq_false'] at h1)
  refine ak_ (J8 _ _ (Sq fun K11 J11 => Sq fun K12 J12 => Rk fun K J => sE rfl (sE rfl (sE rfl (nl J (J12 _ _ ?_))))))
  refine a6_ _ rfl (fun h2 => ?_) (fun h2 => ?_)
  ·(try simp only [decide_eq_true_eq, decide_eq_false_iff_not, beq_iff_eq, bne_iff_ne, beq_eq_false_iff_ne, bne_eq_false_iff_eq, Bool.not_eq_true', Bool.not_eq_false'] at h2)
   refine Sq fun K13 J13 => Rk fun K J => sE rfl (nl J (J13 _ _ (W_ret (ai_ (ret1 rfl (.inr rfl) rfl ?_)))))
   exact congrArg _ (f3_ h2).symm
  ·(try simp only [decide_eq_true_eq, decide_eq_false_iff_not, beq_iff_eq, bne_iff_ne, beq_eq_false_iff_ne, bne_eq_false_iff_eq, Bool.not_eq_true', Bool.not_eq_false'] at h2)
   refine ak_ (J11 _ _ (Sq fun K14 J14 => Rk fun K J => sE rfl (nl J (J14 _ _ (W_ret (ret1 rfl (.inr rfl) rfl ?_))))))
   (obtain rfl : x = y := by omega); exact congrArg _ (hR_ _).symm

theorem dE_ (xs ys : List Nat) (hx : xs.length = 16) (hy : ys.length = 16) (lx : Lim xs) (ly : Lim ys) :
    Ret Tryz.prog 149 [UV xs, UV ys] (.int .i64 (cmpI (val xs) (val ys))) := by
 refine av_ (N := 24) Tryz.func149 rfl rfl (by simp) (fun w0 => ?_)
 simp only [initF, Nat.reduceAdd]
 refine Sq fun K1 J1 => Rk fun K J => WL_r rfl (r_box rfl rfl (fun b2 hb2 => WL_r rfl (r_box rfl rfl (fun b3 hb3 => sE rfl (nl J (J1 _ _ (Sq fun K2 J2 => Sq fun K3 J3 => Rk fun K J => sE rfl (nl J (J3 _ _ (ar_ ?_))))))))))
 refine bN_ [4, 5, 6, 7, 8, 9, 10, 11, 12, 13, 14, 15, 16, 17, 18, 19, 20, 21, 22, 23] (fun g nn M => ∃ (k : Nat), (g 5 = .int .i64 ((k : Int) - 1)) ∧ M = [⟨b3, 35, uw ys⟩, ⟨b2, 35, uw xs⟩] ∧ nn = k + 0 ∧ (k ≤ 16 ∧ xs.drop k = ys.drop k)) (16) ?start ?round
 case start =>
  refine ⟨_, (List.Sublist.refl _), 16, ?a5, ?mem0, rfl, ⟨Nat.le_refl _, by rw [List.drop_eq_nil_of_le (by omega), List.drop_eq_nil_of_le (by omega)]⟩⟩
  case mem0 => rfl
  case a5 => rfl
 case round =>
  rintro nn g M ⟨k, hg5, rfl, hmeas, ⟨hk, hd⟩⟩
  subst nn
  simp only [setG, hg5]
  clear hg5
  refine Sq fun K4 J4 => Sq fun K5 J5 => Rk fun K J => sE rfl (sE rfl (nl J (J5 _ _ ?_)))
  refine a6_ _ rfl (fun hc => ?_) (fun hc => ?_)
  ·(try simp only [decide_eq_true_eq, decide_eq_false_iff_not, beq_iff_eq, bne_iff_ne, beq_eq_false_iff_ne, bne_eq_false_iff_eq, Bool.not_eq_true', Bool.not_eq_false'] at hc)
   obtain ⟨m, rfl⟩ : ∃ m, k = m + 1 := ⟨k - 1, by omega⟩
   refine ak_ (J4 _ _ (Sq fun K6 J6 => ar_ (Sq fun K7 J7 => dr (sk (sk (s0))) [0,4,8,12,16,20,24] [] mix (by kernel_rfl) (fun K J => pQ rfl (q_as (c5_ rfl) (congrArg (Value.int .i64) (show (((m + 1 : Nat) : Int) - 1) = (m : Int) by omega))) (pQ rfl (bM_ ar_35 rfl rfl (by omega) (by omega)) (pQ rfl (bf_ ty_34 rfl (by repeat (first | exact .head _ | apply List.mem_append_right | apply List.Mem.tail)) (uwAt (by omega))) ?_))))))
   refine pQ rfl (q_as (c5_ rfl) (congrArg (Value.int .i64) (show (((m + 1 : Nat) : Int) - 1) = (m : Int) by omega))) (pQ rfl (bM_ ar_35 rfl rfl (by omega) (by omega)) (pQ rfl (bf_ ty_34 rfl (by repeat (first | exact .head _ | apply List.mem_append_right | apply List.Mem.tail)) (uwAt (by omega))) ?_))
   refine pE rfl (fl J (J7 _ _ ?_))
   refine a6_ _ rfl (fun hne => ?_) (fun hne => ?_)
   ·(try simp only [decide_eq_true_eq, decide_eq_false_iff_not, beq_iff_eq, bne_iff_ne, beq_eq_false_iff_ne, bne_eq_false_iff_eq, Bool.not_eq_true', Bool.not_eq_false'] at hne)
    refine Sq fun K8 J8 => dr (sk (sk (s0))) [0,4,8,12,16,20,24,28] [] mix (by kernel_rfl) (fun K J => pQ rfl (q_as (c5_ rfl) (congrArg (Value.int .i64) (show (((m + 1 : Nat) : Int) - 1) = (m : Int) by omega))) (pQ rfl (bM_ ar_35 rfl rfl (by omega) (by omega)) (pQ rfl (bf_ ty_34 rfl (by repeat (first | exact .head _ | apply List.mem_append_right | apply List.Mem.tail)) (uwAt (by omega))) ?_)))
    refine pQ rfl (q_as (c5_ rfl) (congrArg (Value.int .i64) (show (((m + 1 : Nat) : Int) - 1) = (m : Int) by omega))) (pQ rfl (bM_ ar_35 rfl rfl (by omega) (by omega)) (pQ rfl (bf_ ty_34 rfl (by repeat (first | exact .head _ | apply List.mem_append_right | apply List.Mem.tail)) (uwAt (by omega))) ?_))
    refine pQ rfl (q_ret rA_ (nK_ _ _) rfl) (pE rfl (fl J (J8 _ _ (W_ret (aB_ (ai_ (ai_ (aB_ (ai_ (ret1 rfl (.inr rfl) rfl ?_))))))))))
    exact congrArg _ (l5_ lx ly (by omega) hd (by omega))
   ·(try simp only [decide_eq_true_eq, decide_eq_false_iff_not, beq_iff_eq, bne_iff_ne, beq_eq_false_iff_ne, bne_eq_false_iff_eq, Bool.not_eq_true', Bool.not_eq_false'] at hne)
    refine ak_ (J6 _ _ (Rk fun K J => sQ (q_as (c5_ rfl) (congrArg (Value.int .i64) (show (((m + 1 : Nat) : Int) - 1) = (m : Int) by omega))) rfl (sE rfl (sE rfl (nl J ?_)))))
    refine ⟨(by repeat first | exact .refl | refine .cons rfl ?_), _, _, (List.Sublist.refl _), (by omega), m, ?s5, ?mem, rfl, ⟨by omega, jI_ (by omega) hd (by omega) (by omega)⟩⟩
    case mem => rfl
    case s5 => exact congrArg (Value.int .i64) (aN_ (n := (m : Int) - 1) (by unfold I64; omega))
  ·(try simp only [decide_eq_true_eq, decide_eq_false_iff_not, beq_iff_eq, bne_iff_ne, beq_eq_false_iff_ne, bne_eq_false_iff_eq, Bool.not_eq_true', Bool.not_eq_false'] at hc)
   obtain rfl : k = 0 := by omega
   refine bB_ (ax_ (ax_ (aF_ (J2 _ _ (Sq fun K9 J9 => Rk fun K J => sE rfl (nl J (J9 _ _ (W_ret (ret1 rfl (.inr rfl) rfl ?_)))))))))
   (rw [List.drop_zero, List.drop_zero] at hd; subst hd; exact congrArg _ (hR_ _).symm)

theorem dA_ (xs : List Nat) (hx : xs.length = 16) :
    Ret Tryz.prog 141 [UV xs] (.int .i64 ((szL xs : Nat) : Int)) := by
 refine av_ (N := 16) Tryz.func141 rfl rfl (by simp) (fun w0 => ?_)
 simp only [initF, Nat.reduceAdd]
 refine Sq fun K1 J1 => Rk fun K J => WL_r rfl (r_box rfl rfl (fun b1 hb1 => sE rfl (nl J (J1 _ _ (Sq fun K2 J2 => Rk fun K J => sE rfl (nl J (J2 _ _ (Sq fun K3 J3 => ar_ ?_))))))))
 refine bN_ [3, 4, 5, 6, 7, 8, 9, 10, 11, 12, 13, 14] (fun g nn M => ∃ (k : Nat), (g 3 = .int .i64 (k : Int)) ∧ M = [⟨b1, 35, uw xs⟩] ∧ nn = k + 0 ∧ (k ≤ 16 ∧ ∀ j, k ≤ j → xs.getD j 0 = 0)) (16) ?start ?round
 case start =>
  refine ⟨_, (List.Sublist.refl _), 16, ?a3, ?mem0, rfl, ⟨Nat.le_refl _, fun j hj => by simp [List.getD, List.getElem?_eq_none (show xs.length ≤ j by omega)]⟩⟩
  case mem0 => rfl
  case a3 => rfl
 case round =>
  rintro nn g M ⟨k, hg3, rfl, hmeas, ⟨hk, hhi⟩⟩
  subst nn
  simp only [setG, hg3]
  clear hg3
  refine Sq fun K4 J4 => Sq fun K5 J5 => Rk fun K J => sE rfl (sE rfl (sE rfl ?_))
  cases hz : decide ((0 : Int) < (k : Int))
  ·skip
   refine WL_n rfl (WL_n rfl (WL_n rfl (WL_n rfl (WL_n rfl (sE rfl (nl J (J5 _ _ (by_ rfl (bB_ (ax_ (ax_ (aF_ (J3 _ _ (Sq fun K6 J6 => Rk fun K J => sE rfl (sE rfl (nl J (J6 _ _ (W_ret (ret1 rfl (.inr rfl) rfl ?_)))))))))))))))))))
   exact congrArg (fun n : Nat => Value.int .i64 (n : Int)) (kZ_ hhi (.inl (by have := of_decide_eq_false hz; omega))).symm
  ·skip
   have hz' := of_decide_eq_true hz
   obtain ⟨m, rfl⟩ : ∃ m, k = m + 1 := ⟨k - 1, by omega⟩
   refine sE rfl (sQ (q_as (q_sub rfl rfl) (congrArg (Value.int .i64) (hN_ (by omega)))) rfl (sQ (bM_ ar_35 rfl rfl (by omega) (by omega)) rfl (sQ (bf_ ty_34 rfl (by repeat (first | exact .head _ | apply List.mem_append_right | apply List.Mem.tail)) (uwAt (by omega))) rfl ?_)))
   refine sE rfl (sE rfl (nl J (J5 _ _ ?_)))
   refine a6_ _ rfl (fun h0 => ?_) (fun h0 => ?_)
   ·(try simp only [decide_eq_true_eq, decide_eq_false_iff_not, beq_iff_eq, bne_iff_ne, beq_eq_false_iff_ne, bne_eq_false_iff_eq, Bool.not_eq_true', Bool.not_eq_false'] at h0)
    refine ak_ (J4 _ _ (ar_ (Rk fun K J => sE rfl (sQ (q_as (q_sub rfl rfl) (congrArg (Value.int .i64) (hN_ (by omega)))) rfl (sE rfl (nl J ?_))))))
    refine ⟨(by repeat first | exact .refl | refine .cons rfl ?_), _, _, (List.Sublist.refl _), (by omega), m, ?s3, ?mem, rfl, ⟨by omega, fun j hj => by rcases Nat.eq_or_lt_of_le hj with rfl | hj; omega; exact hhi j hj⟩⟩
    case mem => rfl
    case s3 => rfl
   ·(try simp only [decide_eq_true_eq, decide_eq_false_iff_not, beq_iff_eq, bne_iff_ne, beq_eq_false_iff_ne, bne_eq_false_iff_eq, Bool.not_eq_true', Bool.not_eq_false'] at h0)
    refine bB_ (ax_ (ax_ (aF_ (J3 _ _ (Sq fun K7 J7 => Rk fun K J => sE rfl (sE rfl (nl J (J7 _ _ (W_ret (ret1 rfl (.inr rfl) rfl ?_))))))))))
    exact congrArg (fun n : Nat => Value.int .i64 (n : Int)) (kZ_ hhi (.inr (by simp only [Nat.add_sub_cancel]; omega))).symm
end Go.Proofs.YtapbefpeopaecaaGreatDoor

