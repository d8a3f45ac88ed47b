/- Walks: what these functions return. -/
import Derived.Test.YtjdfogfmeibkgaaGreatQGE
namespace Go.Proofs.YtjdfogfmeibkgaaGreat
open Go.Kn Go.Num
set_option linter.unusedVariables false
set_option linter.unusedSimpArgs false
set_option maxRecDepth 20000
set_option maxHeartbeats 8000000
theorem eG_ (r : R) (h : r.Ok) :
    Ret Tryz.prog 125 [RV r] (.bool r.valid) := by
 refine aM_ (N := 23) Tryz.func125 rfl rfl (by simp) (fun w0 => ?_)
 simp only [initF, Nat.reduceAdd]
 refine Sq fun K1 J1 => Rk fun K J => WL_r rfl (r_box rfl rfl (fun b1 hb1 => sE rfl (nl J (J1 _ _ (Sq fun K2 J2 => Rk fun K J => sQ (aJ_ bB_ (by decide) rfl) rfl (sQ (b8_ (vs := uw r.w) ty_36 rfl (by repeat (first | exact .head _ | apply List.mem_append_right | apply List.Mem.tail)) (dj_ h.len) ((bX_ _).trans h.len)) rfl ?_))))))
 refine sQ (dt_ z_36 ar_36 rfl (.nil _)) rfl ?_
 refine sQ (gd_ (r := r.zero) rfl rfl (dz_ 8 (by decide) eg_36 lv_36 (cX_ h.len) (cX_ (by simp)) h.zero_iff)) rfl ?_
 refine sE rfl (nl J (J2 _ _ (Sq fun K3 J3 => Sq fun K4 J4 => Rk fun K J => sQ (aJ_ eu_ (by decide) rfl) rfl (sQ (bd_ ty_4 rfl (by repeat (first | exact .head _ | apply List.mem_append_right | apply List.Mem.tail)) rfl) rfl ?_))))
 refine nl J (J4 _ _ ?_)
 refine be_ _ rfl (fun hb => ?_) (fun hb => ?_)
 ·(try simp only [decide_eq_true_eq, decide_eq_false_iff_not, beq_iff_eq, bne_iff_ne, beq_eq_false_iff_ne, bne_eq_false_iff_eq, Bool.not_eq_true', Bool.not_eq_false'] at hb)
  refine Sq fun K5 J5 => Rk fun K J => sE rfl (sE rfl ?_)
  cases hz : r.zero
  ·skip
   refine WL_n rfl (WL_n rfl (WL_n rfl (sE rfl (sE rfl (nl J (J5 _ _ (W_ret (aj_ (ret1 rfl (.inr rfl) rfl ?_)))))))))
   simp [R.valid, *]
  ·skip
   refine sQ (aJ_ ct_ (by decide) rfl) rfl (sQ (bd_ ty_4 rfl (by repeat (first | exact .head _ | apply List.mem_append_right | apply List.Mem.tail)) rfl) rfl ?_)
   refine sE rfl (sE rfl (sE rfl (nl J (J5 _ _ (W_ret (aj_ (ret1 rfl (.inr rfl) rfl ?_)))))))
   simp [R.valid, *]
 ·(try simp only [decide_eq_true_eq, decide_eq_false_iff_not, beq_iff_eq, bne_iff_ne, beq_eq_false_iff_ne, bne_eq_false_iff_eq, Bool.not_eq_true', Bool.not_eq_false'] at hb)
  refine am_ (J3 _ _ (Sq fun K6 J6 => Rk fun K J => sE rfl (sE rfl (sE rfl ?_))))
  cases hz : r.zero
  ·skip
   refine WL_n rfl (WL_n rfl (WL_n rfl (sE rfl (sE rfl (nl J (J6 _ _ (W_ret (ret1 rfl (.inr rfl) rfl ?_))))))))
   simp [R.valid, *]
  ·skip
   refine sQ (aJ_ ct_ (by decide) rfl) rfl (sQ (bd_ ty_4 rfl (by repeat (first | exact .head _ | apply List.mem_append_right | apply List.Mem.tail)) rfl) rfl ?_)
   refine sE rfl (sE rfl (sE rfl (nl J (J6 _ _ (W_ret (ret1 rfl (.inr rfl) rfl ?_))))))
   simp [R.valid, *]

theorem bz_  :
    Ret Tryz.prog 65 [] (RV Z.bad.enc) := by
 refine aM_ (N := 2) Tryz.func65 rfl rfl (by simp) (fun w0 => ?_)
 simp only [initF, Nat.reduceAdd]
 refine Sq fun K1 J1 => Rk fun K J => WL_r rfl (bb_ z_38 (fun b0 hb0 => nl J (J1 _ _ (Sq fun K2 J2 => Rk fun K J => sQ (e9_ z_38 pl_38 rfl (.cons rfl (vs := [.bool true]) rfl rfl (by simp [zR]) (z' := Z.bad.enc.cells) rfl (.nil _))) rfl ?_))))
 refine WL_r rfl (at_ ty_38 rfl rfl (by repeat (first | exact .head _ | apply Upd.left | apply Upd.tail)) rfl rfl (ar_ Z.bad.enc) (.inl (by assumption)) ?_)
 refine nl J (J2 _ _ (W_ret (ret1 rfl (.inr rfl) ⟨_, _, _, _, _, _, rfl, (by repeat (first | exact .head _ | apply List.mem_append_right | apply List.Mem.tail)), ty_38, _, (a1_ rfl), rfl, rfl⟩ ?_)))
 exact rfl

theorem a4_ (neg : Bool) (w : List Nat) (hw : w.length = 16) (hlim : Lim w) :
    Ret Tryz.prog 107 [.bool neg, UV w] (RV ⟨false, neg && !(val w == 0), w⟩) := by
 refine aM_ (N := 13) Tryz.func107 rfl rfl (by simp) (fun w0 => ?_)
 simp only [initF, Nat.reduceAdd]
 have hlw : (uw w).length = 16 := by rw [bX_, hw]
 refine Sq fun K1 J1 => Rk fun K J => WL_r rfl (r_box rfl rfl (fun b3 hb3 => WL_r rfl (bb_ z_38 (fun b4 hb4 => nl J (J1 _ _ (Sq fun K2 J2 => dr (sd (sk (s0))) [0,4,8,12,16,20,24,28,33] [8] mix (by kernel_rfl) (fun K J => pE rfl (pE rfl ?_))))))))
 cases neg
 ·skip
  refine PL_n rfl rfl (PL_n rfl rfl (PL_n rfl rfl (pE rfl (pQ rfl (aG_ ty_36 rfl (by repeat (first | exact .head _ | apply List.mem_append_right | apply List.Mem.tail)) hlw) ?_))))
  refine pQ rfl (e9_ z_38 pl_38 rfl (oz_ hw)) ?_
  refine PL_o rfl rfl (at_ ty_38 rfl rfl (by repeat (first | exact .head _ | apply Upd.left | apply Upd.tail)) (by simp [R.cells, hlw]) rfl (ar_ _) (.inl (by assumption)) ⟨nf, (by repeat (first | exact s0 | exact sn | refine sk ?_ | refine sd ?_ | refine sA ?_ | refine sR ?_)), ?_⟩)
  refine fl J (J2 _ _ (W_ret (ret1 rfl (.inr rfl) ⟨_, _, _, _, _, _, rfl, (by repeat (first | exact .head _ | apply List.mem_append_right | apply List.Mem.tail)), ty_38, _, (a1_ (by simp [R.cells, hlw])), (by simp [R.cells, hlw]), rfl⟩ ?_)))
  rfl
 ·skip
  refine pQ rfl (aG_ ty_36 rfl (by repeat (first | exact .head _ | apply List.mem_append_right | apply List.Mem.tail)) hlw) ?_
  refine pQ rfl (dt_ z_36 ar_36 rfl (.nil _)) ?_
  refine pQ rfl (h7_ (r := (val w == 0)) rfl rfl (dz_ 8 (by decide) eg_36 lv_36 (cX_ hw) (cX_ (by simp)) (gA_ hw hlim))) ?_
  refine pE rfl (pQ rfl (aG_ ty_36 rfl (by repeat (first | exact .head _ | apply List.mem_append_right | apply List.Mem.tail)) hlw) ?_)
  refine pQ rfl (e9_ z_38 pl_38 rfl (oz_ hw)) ?_
  refine PL_o rfl rfl (at_ ty_38 rfl rfl (by repeat (first | exact .head _ | apply Upd.left | apply Upd.tail)) (by simp [R.cells, hlw]) rfl (ar_ _) (.inl (by assumption)) ⟨nf, (by repeat (first | exact s0 | exact sn | refine sk ?_ | refine sd ?_ | refine sA ?_ | refine sR ?_)), ?_⟩)
  refine fl J (J2 _ _ (W_ret (ret1 rfl (.inr rfl) ⟨_, _, _, _, _, _, rfl, (by repeat (first | exact .head _ | apply List.mem_append_right | apply List.Mem.tail)), ty_38, _, (a1_ (by simp [R.cells, hlw])), (by simp [R.cells, hlw]), rfl⟩ ?_)))
  rfl

theorem cb_ (rs : List R) (hrs : ∀ r ∈ rs, r.Ok) (b T : Nat) (w : World) (hb : w.heap[b]? = some (.cells (rs.flatMap R.cells).toArray T (0, 0))) (hn : rs.length ≤ 1000) :
    Calls Tryz.prog 95 [.slice (some ⟨b, 0, none⟩) rs.length rs.length].toArray w (fun e w' => e = .returned (.bool (rs.all R.good)) ∧ Ext w w') := by
 refine aU_ (N := 19) Tryz.func95 rfl rfl (by simp) ?_
 obtain ⟨w0, rfl⟩ : ∃ w0, w0 = w := ⟨_, rfl⟩
 simp only [initF, Nat.reduceAdd]
 refine Sq fun K1 J1 => Rk fun K J => sE rfl (nl J (J1 _ _ (Sq fun K2 J2 => Sq fun K3 J3 => Rk fun K J => sE rfl (sQ (q_len sl_22 rfl) rfl (sE rfl (nl J (J3 _ _ (aq_ ?_))))))))
 refine aL_ [2, 4, 7, 8, 9, 10, 11, 12, 13, 14, 15, 16, 17, 18] (fun g nn M => ∃ (k : Nat), (g 7 = .int .i64 (k : Int)) ∧ M = [] ∧ nn = rs.length - k ∧ (k ≤ rs.length ∧ (rs.take k).all R.good = true)) (rs.length - 0) ?start ?round
 case start =>
  refine ⟨_, (List.Sublist.refl _), 0, ?a7, ?mem0, rfl, ⟨Nat.zero_le _, rfl⟩⟩
  case mem0 => rfl
  case a7 => rfl
 case round =>
  rintro nn g M ⟨k, hg7, rfl, hmeas, ⟨hk, hall⟩⟩
  subst nn
  simp only [setG, hg7]
  clear hg7
  refine Sq fun K4 J4 => Rk fun K J => sE rfl (nl J (J4 _ _ (Sq fun K5 J5 => ?_)))
  refine be_ _ rfl (fun hc => ?_) (fun hc => ?_)
  ·(try simp only [decide_eq_true_eq, decide_eq_false_iff_not, beq_iff_eq, bne_iff_ne, beq_eq_false_iff_ne, bne_eq_false_iff_eq, Bool.not_eq_true', Bool.not_eq_false'] at hc)
   obtain ⟨r, hr⟩ : ∃ r, rs[k]? = some r := ⟨_, List.getElem?_eq_getElem (by omega)⟩
   have hrok := hrs r (List.mem_of_getElem? hr)
   refine am_ (J5 _ _ (Sq fun K6 J6 => aq_ (Sq fun K7 J7 => Rk fun K J => sQ (oU_ sl_22 rfl rfl (by omega) (by omega)) rfl (sQ (kQ_ (vs := r.cells) ty_38 rfl hb (by simp) (by rw [show (0 + (k : Int).toNat * 18) = k * 18 by omega]; exact hu_ R.cells 18 rs k r (fun y hy => a0_ (hrs y hy)) hr) (a0_ hrok)) rfl ?_))))
   refine WL_r rfl (bb_ z_38 (fun b4 hb4 => WL_r rfl (at_ ty_38 rfl rfl (by repeat (first | exact .head _ | apply Upd.left | apply Upd.tail)) (a0_ hrok) rfl (ar_ _) (.inl (by assumption)) ?_)))
   refine nl J (J7 _ _ (Sq fun K8 J8 => Rk fun K J => sQ (aJ_ eu_ (by decide) rfl) rfl (sQ (bd_ ty_4 rfl (by repeat (first | exact .head _ | apply List.mem_append_right | apply List.Mem.tail)) rfl) rfl ?_)))
   refine sE rfl ?_
   cases hbad : r.bad
   ·skip
    refine sQ (aG_ ty_38 rfl (by repeat (first | exact .head _ | apply List.mem_append_right | apply List.Mem.tail)) (a0_ hrok)) rfl ?_
    refine sQ (q_ret nA_ (eG_ r hrok) rfl) rfl (sE rfl (sE rfl (nl J (J8 _ _ ?_))))
    refine be_ _ rfl (fun hx => ?_) (fun hx => ?_)
    ·(try simp only [decide_eq_true_eq, decide_eq_false_iff_not, beq_iff_eq, bne_iff_ne, beq_eq_false_iff_ne, bne_eq_false_iff_eq, Bool.not_eq_true', Bool.not_eq_false'] at hx)
     skip
     refine Sq fun K9 J9 => Rk fun K J => sE rfl (nl J (J9 _ _ (W_ret (aX_ (aj_ (aj_ (aX_ (aj_ (ret1 rfl (.inr rfl) rfl ?_)))))))))
     exact congrArg Value.bool (g2_ hr (by simp [R.good, hbad, hx]))
    ·(try simp only [decide_eq_true_eq, decide_eq_false_iff_not, beq_iff_eq, bne_iff_ne, beq_eq_false_iff_ne, bne_eq_false_iff_eq, Bool.not_eq_true', Bool.not_eq_false'] at hx)
     skip
     refine am_ (J6 _ _ (Rk fun K J => sE rfl (sE rfl (nl J ?_))))
     refine ⟨(by repeat first | exact .refl | refine .cons rfl ?_), _, _, (List.Sublist.cons _ (List.Sublist.refl _)), (by omega), k + 1, ?s7, ?mem, rfl, ⟨by omega, by rw [iz_ (by omega) hr]; simp [hall, R.good, hbad, hx]⟩⟩
     case mem => rfl
     case s7 => (show Value.int .i64 _ = _; rw [aV_ (by unfold I64; omega)]; rfl)
   ·skip
    refine WL_n rfl (WL_n rfl (WL_n rfl (sE rfl (nl J (J8 _ _ (hv_ rfl (Sq fun K10 J10 => Rk fun K J => sE rfl (nl J (J10 _ _ (W_ret (aX_ (aj_ (aj_ (aX_ (aj_ (ret1 rfl (.inr rfl) rfl ?_))))))))))))))))
    exact congrArg Value.bool (g2_ hr (by simp [R.good, hbad]))
  ·(try simp only [decide_eq_true_eq, decide_eq_false_iff_not, beq_iff_eq, bne_iff_ne, beq_eq_false_iff_ne, bne_eq_false_iff_eq, Bool.not_eq_true', Bool.not_eq_false'] at hc)
   have hke : k = rs.length := by omega
   refine bw_ (ap_ (ap_ (as_ (J2 _ _ (Sq fun K11 J11 => Rk fun K J => sE rfl (nl J (J11 _ _ (W_ret (ret1 rfl (.inr rfl) rfl ?_)))))))))
   (subst hke; rw [List.take_length] at hall; exact congrArg Value.bool hall.symm)

theorem hZ_ (xs ys : List Nat) (hx : xs.length = 16) (hy : ys.length = 16) (lx : Lim xs) (ly : Lim ys) :
    Ret Tryz.prog 139 [UV xs, UV ys] (.tuple #[UV (toL 16 (val xs + val ys)), .bool (((cy (val xs) (val ys) 16 : Nat) : Int) == 0)]) := by
 refine aM_ (N := 33) Tryz.func139 rfl rfl (by simp) (fun w0 => ?_)
 simp only [initF, Nat.reduceAdd]
 refine Sq fun K1 J1 => Rk fun K J => WL_r rfl (r_box rfl rfl (fun b2 hb2 => WL_r rfl (r_box rfl rfl (fun b3 hb3 => WL_r rfl (bb_ z_36 (fun b4 hb4 => sE rfl (nl J (J1 _ _ (Sq fun K2 J2 => Rk fun K J => WL_r rfl (bb_ z_36 (fun b6 hb6 => nl J (J2 _ _ (Sq fun K3 J3 => Rk fun K J => sE rfl (nl J (J3 _ _ (Sq fun K4 J4 => Sq fun K5 J5 => ?_))))))))))))))))
 refine Rk fun K J => sE rfl (nl J (J5 _ _ (aq_ ?_)))
 refine aL_ [7, 8, 9, 10, 11, 12, 13, 14, 15, 16, 17, 18, 19, 20, 21, 22, 23, 24, 25, 26, 27, 28, 29] (fun g nn M => ∃ (k : Nat), (g 7 = .int .u64 ((cy (val xs) (val ys) k : Nat) : Int) ∧ g 9 = .int .i64 (k : Int)) ∧ M = [⟨b6, 36, uw (dpart k (val xs + val ys) 16)⟩, ⟨b4, 36, uw (List.replicate 16 0)⟩, ⟨b3, 36, uw ys⟩, ⟨b2, 36, uw xs⟩] ∧ nn = 16 - k ∧ (k ≤ 16)) (16) ?start ?round
 case start =>
  refine ⟨_, (List.Sublist.refl _), 0, ⟨?a7, ?a9⟩, ?mem0, rfl, Nat.zero_le _⟩
  case mem0 => rw [fS_]
  case a7 => rw [pF_]; rfl
  case a9 => rfl
 case round =>
  rintro nn g M ⟨k, ⟨hg7, hg9⟩, rfl, hmeas, hk⟩
  subst nn
  simp only [setG, hg7, hg9]
  clear hg7 hg9
  refine Sq fun K6 J6 => Rk fun K J => sE rfl (nl J (J6 _ _ (Sq fun K7 J7 => ?_)))
  refine be_ _ rfl (fun hc => ?_) (fun hc => ?_)
  ·(try simp only [decide_eq_true_eq, decide_eq_false_iff_not, beq_iff_eq, bne_iff_ne, beq_eq_false_iff_ne, bne_eq_false_iff_eq, Bool.not_eq_true', Bool.not_eq_false'] at hc)
   have hc : k < 16 := by omega
   have hcy := cy_le (val xs) (val ys) k
   refine am_ (J7 _ _ (Sq fun K8 J8 => aq_ (Sq fun K9 J9 => Rk fun K J => sE rfl (sE rfl (nl J (J9 _ _ (Sq fun K10 J10 => dr (sk (sk (sk (sk (s0))))) [0,4,8,12,16,20,24,28,32,36,40,44] [] mix (by kernel_rfl) (fun K J => pE rfl (pE rfl (pQ rfl (bq_ ar_36 rfl rfl (by omega) (by omega)) (pQ rfl (bd_ ty_35 rfl (by repeat (first | exact .head _ | apply List.mem_append_right | apply List.Mem.tail)) (uwAt (by omega))) ?_)))))))))))
   refine pQ rfl (a3_ in_35 in_94 rfl) (pE rfl (pQ rfl (bq_ ar_36 rfl rfl (by omega) (by omega)) (pQ rfl (bd_ ty_35 rfl (by repeat (first | exact .head _ | apply List.mem_append_right | apply List.Mem.tail)) (uwAt (by omega))) ?_)))
   refine pQ rfl (a3_ in_35 in_94 rfl) (pE rfl (pQ rfl (q_as (q_add rfl rfl) (congrArg (Value.int .u64) (qX_ hcy (aR_ lx k) (aR_ ly k)))) (pE rfl (fl J (J10 _ _ (Sq fun K11 J11 => Rk fun K J => sE rfl (sE rfl (sQ (q_as (a3_ in_94 in_35 rfl) (dl_ _)) rfl (sQ (bq_ ar_36 rfl rfl (by omega) (by omega)) rfl (WL_r rfl (cQ_ ty_35 rfl rfl (by repeat (first | exact .head _ | apply Upd.left | apply Upd.tail)) (by rw [bP_ _ hk]; exact hc) (.inl (by assumption)) ?_)))))))))))
   refine nl J (J11 _ _ (Rk fun K J => sE rfl (sQ (q_as (q_shr rfl rfl (by decide)) (congrArg (Value.int .u64) (dU_ _ 32))) rfl (sE rfl (nl J (J8 _ _ (Rk fun K J => sE rfl (sE rfl (nl J ?_)))))))))
   refine ⟨(by repeat first | exact .refl | refine .cons rfl ?_), _, _, (List.Sublist.refl _), (by omega), k + 1, ⟨?s7, ?s9⟩, ?mem, rfl, (by omega)⟩
   case mem => rw [a2_ xs k lx, a2_ ys k ly, lL_, fw_ _ hc]
   case s7 => rw [← lW_, ← a2_ xs k lx, ← a2_ ys k ly]; rfl
   case s9 => exact congrArg (Value.int .i64) (aV_ (n := (k : Int) + 1) (by unfold I64; omega))
  ·(try simp only [decide_eq_true_eq, decide_eq_false_iff_not, beq_iff_eq, bne_iff_ne, beq_eq_false_iff_ne, bne_eq_false_iff_eq, Bool.not_eq_true', Bool.not_eq_false'] at hc)
   obtain rfl : k = 16 := by omega
   refine bw_ (ap_ (ap_ (as_ (J4 _ _ (Sq fun K12 J12 => Rk fun K J => sQ (aG_ ty_36 rfl (by repeat (first | exact .head _ | apply List.mem_append_right | apply List.Mem.tail)) (by simp [uw, bP_])) rfl ?_)))))
   refine sE rfl (sE rfl (WL_r rfl (at_ ty_36 rfl rfl (by repeat (first | exact .head _ | apply Upd.left | apply Upd.tail)) (by simp [uw, bP_]) rfl (bH_ _) (.inl (by assumption)) ?_)))
   refine sE rfl (nl J (J12 _ _ (W_ret (ret2 rfl (.inr rfl) ⟨_, _, _, _, _, _, rfl, (by repeat (first | exact .head _ | apply List.mem_append_right | apply List.Mem.tail)), ty_36, _, (a1_ (by simp [uw, bP_])), (by simp [uw, bP_]), rfl⟩ rfl ?_))))
   rw [gc_]; rfl

theorem ey_ (xs ys : List Nat) (hx : xs.length = 16) (hy : ys.length = 16) (lx : Lim xs) (ly : Lim ys) (hle : val ys ≤ val xs) :
    Ret Tryz.prog 141 [UV xs, UV ys] (UV (toL 16 (val xs - val ys))) := by
 refine aM_ (N := 31) Tryz.func141 rfl rfl (by simp) (fun w0 => ?_)
 simp only [initF, Nat.reduceAdd]
 refine Sq fun K1 J1 => Rk fun K J => WL_r rfl (r_box rfl rfl (fun b2 hb2 => WL_r rfl (r_box rfl rfl (fun b3 hb3 => WL_r rfl (bb_ z_36 (fun b4 hb4 => nl J (J1 _ _ (Sq fun K2 J2 => Rk fun K J => WL_r rfl (bb_ z_36 (fun b5 hb5 => nl J (J2 _ _ (Sq fun K3 J3 => Rk fun K J => sE rfl (nl J (J3 _ _ (Sq fun K4 J4 => Sq fun K5 J5 => Rk fun K J => ?_)))))))))))))))
 refine sE rfl (nl J (J5 _ _ (aq_ ?_)))
 refine aL_ [6, 7, 8, 9, 10, 11, 12, 13, 14, 15, 16, 17, 18, 19, 20, 21, 22, 23, 24, 25, 26, 27, 28, 29] (fun g nn M => ∃ (k : Nat), (g 6 = .int .u64 ((bw (val xs) (val ys) k : Nat) : Int) ∧ g 9 = .int .i64 (k : Int)) ∧ M = [⟨b5, 36, uw (dpart k (val xs - val ys) 16)⟩, ⟨b4, 36, uw (List.replicate 16 0)⟩, ⟨b3, 36, uw ys⟩, ⟨b2, 36, uw xs⟩] ∧ nn = 16 - k ∧ (k ≤ 16)) (16) ?start ?round
 case start =>
  refine ⟨_, (List.Sublist.refl _), 0, ⟨?a6, ?a9⟩, ?mem0, rfl, Nat.zero_le _⟩
  case mem0 => rw [fS_]
  case a6 => rw [pb_]; rfl
  case a9 => rfl
 case round =>
  rintro nn g M ⟨k, ⟨hg6, hg9⟩, rfl, hmeas, hk⟩
  subst nn
  simp only [setG, hg6, hg9]
  clear hg6 hg9
  refine Sq fun K6 J6 => Rk fun K J => sE rfl (nl J (J6 _ _ (Sq fun K7 J7 => ?_)))
  refine be_ _ rfl (fun hc => ?_) (fun hc => ?_)
  ·(try simp only [decide_eq_true_eq, decide_eq_false_iff_not, beq_iff_eq, bne_iff_ne, beq_eq_false_iff_ne, bne_eq_false_iff_eq, Bool.not_eq_true', Bool.not_eq_false'] at hc)
   have hc : k < 16 := by omega
   have hbw := bw_le (val xs) (val ys) k
   refine am_ (J7 _ _ (Sq fun K8 J8 => aq_ (Sq fun K9 J9 => Rk fun K J => sE rfl (sE rfl (nl J (J9 _ _ (Sq fun K10 J10 => dr (sk (sk (sk (sk (s0))))) [0,4,8,12,16,20,24,28,32,36,40,44] [] mix (by kernel_rfl) (fun K J => pE rfl (pQ rfl (bq_ ar_36 rfl rfl (by omega) (by omega)) (pQ rfl (bd_ ty_35 rfl (by repeat (first | exact .head _ | apply List.mem_append_right | apply List.Mem.tail)) (uwAt (by omega))) ?_))))))))))
   refine pQ rfl (a3_ in_35 in_94 rfl) (pE rfl (pQ rfl (bq_ ar_36 rfl rfl (by omega) (by omega)) (pQ rfl (bd_ ty_35 rfl (by repeat (first | exact .head _ | apply List.mem_append_right | apply List.Mem.tail)) (uwAt (by omega))) ?_)))
   refine pQ rfl (a3_ in_35 in_94 rfl) (pE rfl (pE rfl (pQ rfl (q_as (q_sub rfl rfl) (congrArg (Value.int .u64) (nz_ hbw (aR_ lx k) (aR_ ly k)))) (pE rfl (fl J (J10 _ _ (Sq fun K11 J11 => Rk fun K J => sE rfl (sE rfl (sQ (q_as (a3_ in_94 in_35 rfl) (dl_ _)) rfl (sQ (bq_ ar_36 rfl rfl (by omega) (by omega)) rfl (WL_r rfl (cQ_ ty_35 rfl rfl (by repeat (first | exact .head _ | apply Upd.left | apply Upd.tail)) (by rw [bP_ _ hk]; exact hc) (.inl (by assumption)) ?_))))))))))))
   refine nl J (J11 _ _ (Rk fun K J => sE rfl (sQ (q_as (q_shr rfl rfl (by decide)) (congrArg (Value.int .u64) (dU_ _ 63))) rfl (sE rfl (nl J (J8 _ _ (Rk fun K J => sE rfl (sE rfl (nl J ?_)))))))))
   refine ⟨(by repeat first | exact .refl | refine .cons rfl ?_), _, _, (List.Sublist.refl _), (by omega), k + 1, ⟨?s6, ?s9⟩, ?mem, rfl, (by omega)⟩
   case mem => rw [a2_ xs k lx, a2_ ys k ly, ku_ k hle, fw_ _ hc]
   case s6 => rw [← je_, ← a2_ xs k lx, ← a2_ ys k ly]; rfl
   case s9 => exact congrArg (Value.int .i64) (aV_ (n := (k : Int) + 1) (by unfold I64; omega))
  ·(try simp only [decide_eq_true_eq, decide_eq_false_iff_not, beq_iff_eq, bne_iff_ne, beq_eq_false_iff_ne, bne_eq_false_iff_eq, Bool.not_eq_true', Bool.not_eq_false'] at hc)
   obtain rfl : k = 16 := by omega
   refine bw_ (ap_ (ap_ (as_ (J4 _ _ (Sq fun K12 J12 => Rk fun K J => sQ (aG_ ty_36 rfl (by repeat (first | exact .head _ | apply List.mem_append_right | apply List.Mem.tail)) (by simp [uw, bP_])) rfl ?_)))))
   refine WL_r rfl (at_ ty_36 rfl rfl (by repeat (first | exact .head _ | apply Upd.left | apply Upd.tail)) (by simp [uw, bP_]) rfl (bH_ _) (.inl (by assumption)) ?_)
   refine nl J (J12 _ _ (W_ret (ret1 rfl (.inr rfl) ⟨_, _, _, _, _, _, rfl, (by repeat (first | exact .head _ | apply List.mem_append_right | apply List.Mem.tail)), ty_36, _, (a1_ (by simp [uw, bP_])), (by simp [uw, bP_]), rfl⟩ ?_)))
   rw [gc_]; rfl

theorem hr_ (x : Nat) :
    Ret Tryz.prog 167 [U32 x] (.bool false) := by
 refine aM_ (N := 6) Tryz.func167 rfl rfl (by simp) (fun w0 => ?_)
 simp only [initF, Nat.reduceAdd]
 refine Sq fun K1 J1 => Rk fun K J => sE rfl (nl J (J1 _ _ (Sq fun K2 J2 => Rk fun K J => sE rfl (sE rfl (sQ (q_as (q_neq rfl rfl) (congrArg Value.bool (bne_self_eq_false _))) rfl (sE rfl (nl J (J2 _ _ (W_ret (ret1 rfl (.inr rfl) rfl ?_))))))))))
 exact rfl

theorem nC_ (x y : Nat) :
    Ret Tryz.prog 156 [U32 x, U32 y] (.int .i64 (cmpI x y)) := by
 refine aM_ (N := 20) Tryz.func156 rfl rfl (by simp) (fun w0 => ?_)
 simp only [initF, Nat.reduceAdd]
 refine Sq fun K1 J1 => Rk fun K J => sE rfl (nl J (J1 _ _ (Sq fun K2 J2 => Rk fun K J => sE rfl (sQ (q_ret oG_ (hr_ x) rfl) rfl (sE rfl (nl J (J2 _ _ (Sq fun K3 J3 => Rk fun K J => sE rfl (sQ (q_ret oG_ (hr_ y) rfl) rfl (sE rfl (nl J (J3 _ _ (Sq fun K4 J4 => ?_)))))))))))))
 refine Sq fun K5 J5 => Rk fun K J => sE rfl (nl J (J5 _ _ (dw_ rfl (am_ (J4 _ _ (Sq fun K6 J6 => Sq fun K7 J7 => Rk fun K J => sE rfl (nl J (J7 _ _ (dw_ rfl (am_ (J6 _ _ (Sq fun K8 J8 => Sq fun K9 J9 => Rk fun K J => ?_))))))))))))
 refine sE rfl (sE rfl (sE rfl (nl J (J9 _ _ ?_))))
 refine be_ _ rfl (fun h1 => ?_) (fun h1 => ?_)
 ·(try simp only [decide_eq_true_eq, decide_eq_false_iff_not, beq_iff_eq, bne_iff_ne, beq_eq_false_iff_ne, bne_eq_false_iff_eq, Bool.not_eq_true', Bool.not_eq_false'] at h1)
  refine Sq fun K10 J10 => Rk fun K J => sE rfl (nl J (J10 _ _ (W_ret (aj_ (ret1 rfl (.inr rfl) rfl ?_)))))
  exact congrArg _ (iW_ h1).symm
 ·(try simp only [decide_eq_true_eq, decide_eq_false_iff_not, beq_iff_eq, bne_iff_ne, beq_eq_false_iff_ne, bne_eq_false_iff_eq, Bool.not_eq_true', Bool.not_eq_false'] at h1)
  refine am_ (J8 _ _ (Sq fun K11 J11 => Sq fun K12 J12 => Rk fun K J => sE rfl (sE rfl (sE rfl (nl J (J12 _ _ ?_))))))
  refine be_ _ rfl (fun h2 => ?_) (fun h2 => ?_)
  ·(try simp only [decide_eq_true_eq, decide_eq_false_iff_not, beq_iff_eq, bne_iff_ne, beq_eq_false_iff_ne, bne_eq_false_iff_eq, Bool.not_eq_true', Bool.not_eq_false'] at h2)
   refine Sq fun K13 J13 => Rk fun K J => sE rfl (nl J (J13 _ _ (W_ret (aj_ (ret1 rfl (.inr rfl) rfl ?_)))))
   exact congrArg _ (iX_ h2).symm
  ·(try simp only [decide_eq_true_eq, decide_eq_false_iff_not, beq_iff_eq, bne_iff_ne, beq_eq_false_iff_ne, bne_eq_false_iff_eq, Bool.not_eq_true', Bool.not_eq_false'] at h2)
   refine am_ (J11 _ _ (Sq fun K14 J14 => Rk fun K J => sE rfl (nl J (J14 _ _ (W_ret (ret1 rfl (.inr rfl) rfl ?_))))))
   (obtain rfl : x = y := by omega); exact congrArg _ (mu_ _).symm

theorem fL_ (xs ys : List Nat) (hx : xs.length = 16) (hy : ys.length = 16) (lx : Lim xs) (ly : Lim ys) :
    Ret Tryz.prog 140 [UV xs, UV ys] (.int .i64 (cmpI (val xs) (val ys))) := by
 refine aM_ (N := 24) Tryz.func140 rfl rfl (by simp) (fun w0 => ?_)
 simp only [initF, Nat.reduceAdd]
 refine Sq fun K1 J1 => Rk fun K J => WL_r rfl (r_box rfl rfl (fun b2 hb2 => WL_r rfl (r_box rfl rfl (fun b3 hb3 => sE rfl (nl J (J1 _ _ (Sq fun K2 J2 => Sq fun K3 J3 => Rk fun K J => sE rfl (nl J (J3 _ _ (aq_ ?_))))))))))
 refine aL_ [4, 5, 6, 7, 8, 9, 10, 11, 12, 13, 14, 15, 16, 17, 18, 19, 20, 21, 22, 23] (fun g nn M => ∃ (k : Nat), (g 5 = .int .i64 ((k : Int) - 1)) ∧ M = [⟨b3, 36, uw ys⟩, ⟨b2, 36, uw xs⟩] ∧ nn = k + 0 ∧ (k ≤ 16 ∧ xs.drop k = ys.drop k)) (16) ?start ?round
 case start =>
  refine ⟨_, (List.Sublist.refl _), 16, ?a5, ?mem0, rfl, ⟨Nat.le_refl _, by rw [List.drop_eq_nil_of_le (by omega), List.drop_eq_nil_of_le (by omega)]⟩⟩
  case mem0 => rfl
  case a5 => rfl
 case round =>
  rintro nn g M ⟨k, hg5, rfl, hmeas, ⟨hk, hd⟩⟩
  subst nn
  simp only [setG, hg5]
  clear hg5
  refine Sq fun K4 J4 => Sq fun K5 J5 => Rk fun K J => sE rfl (sE rfl (nl J (J5 _ _ ?_)))
  refine be_ _ rfl (fun hc => ?_) (fun hc => ?_)
  ·(try simp only [decide_eq_true_eq, decide_eq_false_iff_not, beq_iff_eq, bne_iff_ne, beq_eq_false_iff_ne, bne_eq_false_iff_eq, Bool.not_eq_true', Bool.not_eq_false'] at hc)
   obtain ⟨m, rfl⟩ : ∃ m, k = m + 1 := ⟨k - 1, by omega⟩
   refine am_ (J4 _ _ (Sq fun K6 J6 => aq_ (Sq fun K7 J7 => dr (sk (sk (s0))) [0,4,8,12,16,20,24] [] mix (by kernel_rfl) (fun K J => pQ rfl (q_as (db_ rfl) (congrArg (Value.int .i64) (show (((m + 1 : Nat) : Int) - 1) = (m : Int) by omega))) (pQ rfl (bq_ ar_36 rfl rfl (by omega) (by omega)) (pQ rfl (bd_ ty_35 rfl (by repeat (first | exact .head _ | apply List.mem_append_right | apply List.Mem.tail)) (uwAt (by omega))) ?_))))))
   refine pQ rfl (q_as (db_ rfl) (congrArg (Value.int .i64) (show (((m + 1 : Nat) : Int) - 1) = (m : Int) by omega))) (pQ rfl (bq_ ar_36 rfl rfl (by omega) (by omega)) (pQ rfl (bd_ ty_35 rfl (by repeat (first | exact .head _ | apply List.mem_append_right | apply List.Mem.tail)) (uwAt (by omega))) ?_))
   refine pE rfl (fl J (J7 _ _ ?_))
   refine be_ _ rfl (fun hne => ?_) (fun hne => ?_)
   ·(try simp only [decide_eq_true_eq, decide_eq_false_iff_not, beq_iff_eq, bne_iff_ne, beq_eq_false_iff_ne, bne_eq_false_iff_eq, Bool.not_eq_true', Bool.not_eq_false'] at hne)
    refine Sq fun K8 J8 => dr (sk (sk (s0))) [0,4,8,12,16,20,24,28] [] mix (by kernel_rfl) (fun K J => pQ rfl (q_as (db_ rfl) (congrArg (Value.int .i64) (show (((m + 1 : Nat) : Int) - 1) = (m : Int) by omega))) (pQ rfl (bq_ ar_36 rfl rfl (by omega) (by omega)) (pQ rfl (bd_ ty_35 rfl (by repeat (first | exact .head _ | apply List.mem_append_right | apply List.Mem.tail)) (uwAt (by omega))) ?_)))
    refine pQ rfl (q_as (db_ rfl) (congrArg (Value.int .i64) (show (((m + 1 : Nat) : Int) - 1) = (m : Int) by omega))) (pQ rfl (bq_ ar_36 rfl rfl (by omega) (by omega)) (pQ rfl (bd_ ty_35 rfl (by repeat (first | exact .head _ | apply List.mem_append_right | apply List.Mem.tail)) (uwAt (by omega))) ?_))
    refine pQ rfl (q_ret q4_ (nC_ _ _) rfl) (pE rfl (fl J (J8 _ _ (W_ret (aX_ (aj_ (aj_ (aX_ (aj_ (ret1 rfl (.inr rfl) rfl ?_))))))))))
    exact congrArg _ (lY_ lx ly (by omega) hd (by omega))
   ·(try simp only [decide_eq_true_eq, decide_eq_false_iff_not, beq_iff_eq, bne_iff_ne, beq_eq_false_iff_ne, bne_eq_false_iff_eq, Bool.not_eq_true', Bool.not_eq_false'] at hne)
    refine am_ (J6 _ _ (Rk fun K J => sQ (q_as (db_ rfl) (congrArg (Value.int .i64) (show (((m + 1 : Nat) : Int) - 1) = (m : Int) by omega))) rfl (sE rfl (sE rfl (nl J ?_)))))
    refine ⟨(by repeat first | exact .refl | refine .cons rfl ?_), _, _, (List.Sublist.refl _), (by omega), m, ?s5, ?mem, rfl, ⟨by omega, jc_ (by omega) hd (by omega) (by omega)⟩⟩
    case mem => rfl
    case s5 => exact congrArg (Value.int .i64) (aV_ (n := (m : Int) - 1) (by unfold I64; omega))
  ·(try simp only [decide_eq_true_eq, decide_eq_false_iff_not, beq_iff_eq, bne_iff_ne, beq_eq_false_iff_ne, bne_eq_false_iff_eq, Bool.not_eq_true', Bool.not_eq_false'] at hc)
   obtain rfl : k = 0 := by omega
   refine bw_ (ap_ (ap_ (as_ (J2 _ _ (Sq fun K9 J9 => Rk fun K J => sE rfl (nl J (J9 _ _ (W_ret (ret1 rfl (.inr rfl) rfl ?_)))))))))
   (rw [List.drop_zero, List.drop_zero] at hd; subst hd; exact congrArg _ (mu_ _).symm)

theorem cE_ (xs : List Nat) (hx : xs.length = 16) :
    Ret Tryz.prog 127 [UV xs] (.int .i64 ((szL xs : Nat) : Int)) := by
 refine aM_ (N := 16) Tryz.func127 rfl rfl (by simp) (fun w0 => ?_)
 simp only [initF, Nat.reduceAdd]
 refine Sq fun K1 J1 => Rk fun K J => WL_r rfl (r_box rfl rfl (fun b1 hb1 => sE rfl (nl J (J1 _ _ (Sq fun K2 J2 => Rk fun K J => sE rfl (nl J (J2 _ _ (Sq fun K3 J3 => aq_ ?_))))))))
 refine aL_ [3, 4, 5, 6, 7, 8, 9, 10, 11, 12, 13, 14] (fun g nn M => ∃ (k : Nat), (g 3 = .int .i64 (k : Int)) ∧ M = [⟨b1, 36, uw xs⟩] ∧ nn = k + 0 ∧ (k ≤ 16 ∧ ∀ j, k ≤ j → xs.getD j 0 = 0)) (16) ?start ?round
 case start =>
  refine ⟨_, (List.Sublist.refl _), 16, ?a3, ?mem0, rfl, ⟨Nat.le_refl _, fun j hj => by simp [List.getD, List.getElem?_eq_none (show xs.length ≤ j by omega)]⟩⟩
  case mem0 => rfl
  case a3 => rfl
 case round =>
  rintro nn g M ⟨k, hg3, rfl, hmeas, ⟨hk, hhi⟩⟩
  subst nn
  simp only [setG, hg3]
  clear hg3
  refine Sq fun K4 J4 => Sq fun K5 J5 => Rk fun K J => sE rfl (sE rfl (sE rfl ?_))
  cases hz : decide ((0 : Int) < (k : Int))
  ·skip
   refine WL_n rfl (WL_n rfl (WL_n rfl (WL_n rfl (WL_n rfl (sE rfl (nl J (J5 _ _ (dw_ rfl (bw_ (ap_ (ap_ (as_ (J3 _ _ (Sq fun K6 J6 => Rk fun K J => sE rfl (sE rfl (nl J (J6 _ _ (W_ret (ret1 rfl (.inr rfl) rfl ?_)))))))))))))))))))
   exact congrArg (fun n : Nat => Value.int .i64 (n : Int)) (lB_ hhi (.inl (by have := of_decide_eq_false hz; omega))).symm
  ·skip
   have hz' := of_decide_eq_true hz
   obtain ⟨m, rfl⟩ : ∃ m, k = m + 1 := ⟨k - 1, by omega⟩
   refine sE rfl (sQ (q_as (q_sub rfl rfl) (congrArg (Value.int .i64) (fQ_ (by omega)))) rfl (sQ (bq_ ar_36 rfl rfl (by omega) (by omega)) rfl (sQ (bd_ ty_35 rfl (by repeat (first | exact .head _ | apply List.mem_append_right | apply List.Mem.tail)) (uwAt (by omega))) rfl ?_)))
   refine sE rfl (sE rfl (nl J (J5 _ _ ?_)))
   refine be_ _ rfl (fun h0 => ?_) (fun h0 => ?_)
   ·(try simp only [decide_eq_true_eq, decide_eq_false_iff_not, beq_iff_eq, bne_iff_ne, beq_eq_false_iff_ne, bne_eq_false_iff_eq, Bool.not_eq_true', Bool.not_eq_false'] at h0)
    refine am_ (J4 _ _ (aq_ (Rk fun K J => sE rfl (sQ (q_as (q_sub rfl rfl) (congrArg (Value.int .i64) (fQ_ (by omega)))) rfl (sE rfl (nl J ?_))))))
    refine ⟨(by repeat first | exact .refl | refine .cons rfl ?_), _, _, (List.Sublist.refl _), (by omega), m, ?s3, ?mem, rfl, ⟨by omega, fun j hj => by rcases Nat.eq_or_lt_of_le hj with rfl | hj; omega; exact hhi j hj⟩⟩
    case mem => rfl
    case s3 => rfl
   ·(try simp only [decide_eq_true_eq, decide_eq_false_iff_not, beq_iff_eq, bne_iff_ne, beq_eq_false_iff_ne, bne_eq_false_iff_eq, Bool.not_eq_true', Bool.not_eq_false'] at h0)
    refine bw_ (ap_ (ap_ (as_ (J3 _ _ (Sq fun K7 J7 => Rk fun K J => sE rfl (sE rfl (nl J (J7 _ _ (W_ret (ret1 rfl (.inr rfl) rfl ?_))))))))))
    exact congrArg (fun n : Nat => Value.int .i64 (n : Int)) (lB_ hhi (.inr (by simp only [Nat.add_sub_cancel]; omega))).symm
end Go.Proofs.YtjdfogfmeibkgaaGreat

