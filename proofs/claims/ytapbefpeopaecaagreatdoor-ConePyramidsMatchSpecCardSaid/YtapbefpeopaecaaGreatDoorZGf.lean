/- Walks: what these functions return. -/
import Derived.Test.YtapbefpeopaecaaGreatDoorZFa0
import Derived.Test.YtapbefpeopaecaaGreatDoorZFi
import Derived.Test.YtapbefpeopaecaaGreatDoorZGa
import Derived.Test.YtapbefpeopaecaaGreatDoorZGd
import Derived.Test.YtapbefpeopaecaaGreatDoorZSg
import Derived.Test.YtapbefpeopaecaaGreatDoorZWc
namespace Go.Proofs.YtapbefpeopaecaaGreatDoor
open Go.Kn Go.Num
set_option linter.unusedVariables false
set_option linter.unusedSimpArgs false
set_option maxRecDepth 20000
set_option maxHeartbeats 8000000
theorem ba_ (a : Rt) :
    Ret Tryz.prog 63 [AV [pI a.n, pI a.d]] (.int .i64 ((aI_ a).1)) := by
 refine as_ (N := 9) Tryz.func63 rfl rfl (by simp) (fun w0 => ?_)
 simp only [initF, Nat.reduceAdd]
 refine Rs fun K J => WL_r rfl (aQ_ rfl rfl (fun b1 hb1 => sE rfl (nl J (Sq fun K1 J1 => Rs fun K J => sQ (qL ty_39 rfl m0 rfl) rfl (sQ (q_ret hu_ (dg_ a) rfl) rfl (sE rfl (nl J ?_)))))))
 rcases bt (a7_ a) with h2 | h2
 ·skip
  refine W_f (not_f h2) rfl (aj_ (J1 _ _ (Rs fun K J => sQ (qF cI_ rfl rfl) rfl (sQ (qL ty_37 rfl m0 rfl) rfl (sC (.int .i64 ((Z.signW a.n.dec).1)) fQ_ (cx_ a.n.1 a.n.2) rfl rfl rfl (sE rfl (nl J (W_ret (ret1 rfl (.inr rfl) rfl ?_)))))))))
  exact (by exact congrArg (fun r : W => (.int .i64 r.1 : Value)) (show _ = (aI_ a) from bif_t h2 rfl))
 ·skip
  refine W_t (not_t h2) rfl (Rs fun K J => sE rfl (nl J (W_ret (af_ (ret1 rfl (.inr rfl) rfl ?_)))))
  exact (by exact congrArg (fun r : W => (.int .i64 r.1 : Value)) (show _ = (aI_ a) from bif_f h2 rfl))

theorem ft_ (a : Rt) :
    Ret Tryz.prog 64 [AV [pI a.n, pI a.d]] (AV [pI ((c9_ a).n), pI ((c9_ a).d)]) := by
 refine as_ (N := 11) Tryz.func64 rfl rfl (by simp) (fun w0 => ?_)
 simp only [initF, Nat.reduceAdd]
 refine Rs fun K J => WL_r rfl (aQ_ rfl rfl (fun b1 hb1 => sN zp_39 rfl fun b2 hb2 => nl J (Sq fun K1 J1 => Rs fun K J => sQ (qL ty_39 rfl m1 rfl) rfl (sQ (q_ret en_63 (ba_ a) rfl) rfl (sE rfl (nl J ?_))))))
 rcases bt (decide ((aI_ a).1 < 0)) with h3 | h3
 ·skip
  refine W_t h3 rfl (Rs fun K J => sQ (qL ty_39 rfl m1 rfl) rfl (sQ (q_ret lo_ (fs_ a) rfl) rfl (sS [pI ((co_ a).n), pI ((co_ a).d)] ty_39 rfl rfl rfl rfl rfl (.head _) rfl hb2 (nl J (W_ret (af_ (ret1 rfl (.inr rfl) (resP rfl m0 ty_39 rfl) ?_)))))))
  exact (by exact congrArg (fun r : Rt => (AV [pI r.n, pI r.d] : Value)) (show _ = (c9_ a) from bif_t h3 rfl))
 ·skip
  refine W_f h3 rfl (aj_ (J1 _ _ (Rs fun K J => sQ (qL ty_39 rfl m1 rfl) rfl (sQ (q_ret lo_ (fs_ a) rfl) rfl (sQ (q_ret lo_ (fs_ (co_ a)) rfl) rfl (sS [pI ((co_ (co_ a)).n), pI ((co_ (co_ a)).d)] ty_39 rfl rfl rfl rfl rfl (.head _) rfl hb2 (nl J (W_ret (ret1 rfl (.inr rfl) (resP rfl m0 ty_39 rfl) ?_)))))))))
  exact (by exact congrArg (fun r : Rt => (AV [pI r.n, pI r.d] : Value)) (show _ = (c9_ a) from bif_f h3 rfl))

theorem cE_ (a : Rt) (b : Rt) :
    Ret Tryz.prog 57 [AV [pI a.n, pI a.d], AV [pI b.n, pI b.d]] (AV [pI ((ab_ a b).n), pI ((ab_ a b).d)]) := by
 refine as_ (N := 16) Tryz.func57 rfl rfl (by simp) (fun w0 => ?_)
 simp only [initF, Nat.reduceAdd]
 refine Rs fun K J => WL_r rfl (aQ_ rfl rfl (fun b1 hb1 => WL_r rfl (aQ_ rfl rfl (fun b2 hb2 => sN zp_39 rfl fun b3 hb3 => nl J (Sq fun K1 J1 => Rs fun K J => sQ (qL ty_39 rfl m1 rfl) rfl (sQ (q_ret hu_ (dg_ b) rfl) rfl (sE rfl (nl J ?_))))))))
 rcases bt (a7_ b) with h4 | h4
 ·skip
  refine W_f (not_f h4) rfl (aj_ (J1 _ _ (ds (sd (sk (sk (s0)))) [0,4,8,12,16,20,24,29] [7] mix (by kernel_rfl) (fun K J => pQ rfl (qL ty_39 rfl m2 rfl) (pQ rfl (qF b7_ rfl rfl) (pQ rfl (qL ty_37 rfl m1 rfl) (pQ rfl (qF cI_ rfl rfl) (pQ rfl (qL ty_37 rfl m1 rfl) (pQ rfl (q_ret en_59 (df_ b.d b.n) rfl) ?_)))))))))
  obtain ⟨r5, hr5⟩ := nm ((aG_ a (ap_ b.d b.n)) : Rt)
  refine pC (AV [pI r5.n, pI r5.d]) en_67 (ck_ a (ap_ b.d b.n)) rfl rfl (by rw [hr5]; first | done | rfl) (oS [pI r5.n, pI r5.d] ty_39 rfl rfl rfl rfl rfl rfl (.head _) rfl hb3 rfl (sd s0) (fl J (W_ret (ret1 rfl (.inr rfl) (resP rfl m0 ty_39 rfl) ?_))))
  exact (by subst hr5; exact congrArg (fun r : Rt => (AV [pI r.n, pI r.d] : Value)) (show _ = (ab_ a b) from bif_t h4 rfl))
 ·skip
  refine W_t (not_t h4) rfl (Rs fun K J => sQ (q_ret hF_ dr_  rfl) rfl (sS [pI eA_.n, pI eA_.d] ty_39 rfl rfl rfl rfl rfl (.head _) rfl hb3 (nl J (W_ret (af_ (ret1 rfl (.inr rfl) (resP rfl m0 ty_39 rfl) ?_))))))
  exact (by exact congrArg (fun r : Rt => (AV [pI r.n, pI r.d] : Value)) (show _ = (ab_ a b) from bif_f h4 rfl))

theorem cC_ (a : Rt) :
    Ret Tryz.prog 26 [AV [pI a.n, pI a.d]] (.int .i64 ((aL_ a).1)) := by
 refine as_ (N := 9) Tryz.func26 rfl rfl (by simp) (fun w0 => ?_)
 simp only [initF, Nat.reduceAdd]
 refine Rs fun K J => WL_r rfl (aQ_ rfl rfl (fun b1 hb1 => sE rfl (nl J (Sq fun K1 J1 => Rs fun K J => sQ (qL ty_39 rfl m0 rfl) rfl (sQ (q_ret en_51 (bo_ a) rfl) rfl (sE rfl (nl J ?_)))))))
 rcases bt (ae_ a) with h2 | h2
 ·skip
  refine W_f (not_f h2) rfl (aj_ (J1 _ _ (Rs fun K J => sQ (qF cI_ rfl rfl) rfl (sQ (qL ty_37 rfl m0 rfl) rfl (sC (.int .i64 ((Z.signW a.n.dec).1)) en_40 (ca_ a.n.1 a.n.2) rfl rfl rfl (sE rfl (nl J (W_ret (ret1 rfl (.inr rfl) rfl ?_)))))))))
  exact (by exact congrArg (fun r : W => (.int .i64 r.1 : Value)) (show _ = (aL_ a) from bif_t h2 rfl))
 ·skip
  refine W_t (not_t h2) rfl (Rs fun K J => sE rfl (nl J (W_ret (af_ (ret1 rfl (.inr rfl) rfl ?_)))))
  exact (by exact congrArg (fun r : W => (.int .i64 r.1 : Value)) (show _ = (aL_ a) from bif_f h2 rfl))

theorem gz_ (a : Rt) :
    Ret Tryz.prog 101 [AV [pI a.n, pI a.d]] (AV [pI ((bz_ a).n), pI ((bz_ a).d)]) := by
 refine as_ (N := 13) Tryz.func101 rfl rfl (by simp) (fun w0 => ?_)
 simp only [initF, Nat.reduceAdd]
 refine Rs fun K J => WL_r rfl (aQ_ rfl rfl (fun b1 hb1 => sN zp_39 rfl fun b2 hb2 => nl J (Sq fun K1 J1 => Rs fun K J => sQ (qL ty_39 rfl m1 rfl) rfl (sQ (q_ret en_51 (bo_ a) rfl) rfl (sE rfl (nl J ?_))))))
 rcases bt (ae_ a) with h3 | h3
 ·skip
  refine W_f (not_f h3) rfl (aj_ (J1 _ _ (ds (sd (sk (s0))) [0,4,8,12,16,20,25] [6] mix (by kernel_rfl) (fun K J => pQ rfl (qF cI_ rfl rfl) (pQ rfl (qL ty_37 rfl m1 rfl) (pC (AV [pI (E (Z.abs a.n.dec))]) px_ (fb_ a.n.1 a.n.2) rfl rfl rfl (pQ rfl (qF b7_ rfl rfl) (pQ rfl (qL ty_37 rfl m1 rfl) (pQ rfl (b2_ zp_39 pl_39 rfl (.cons [pI (E (Z.abs a.n.dec))] [pI (E (Z.abs a.n.dec)), pI I0] rfl rfl rfl rfl (.cons [pI a.d] [pI (E (Z.abs a.n.dec)), pI a.d] rfl rfl rfl rfl (.nil _)))) (oS [pI (E (Z.abs a.n.dec)), pI a.d] ty_39 rfl rfl rfl rfl rfl rfl (.head _) rfl hb2 rfl (sd s0) (fl J (W_ret (ret1 rfl (.inr rfl) (resP rfl m0 ty_39 rfl) ?_)))))))))))))
  exact (by exact congrArg (fun r : Rt => (AV [pI r.n, pI r.d] : Value)) (show _ = (bz_ a) from bif_t h3 rfl))
 ·skip
  refine W_t (not_t h3) rfl (Rs fun K J => sQ (q_ret en_76 c2_  rfl) rfl (sS [pI bK_.n, pI bK_.d] ty_39 rfl rfl rfl rfl rfl (.head _) rfl hb2 (nl J (W_ret (af_ (ret1 rfl (.inr rfl) (resP rfl m0 ty_39 rfl) ?_))))))
  exact (by exact congrArg (fun r : Rt => (AV [pI r.n, pI r.d] : Value)) (show _ = (bz_ a) from bif_f h3 rfl))

theorem fd_ (a : Rt) (b : Rt) :
    Ret Tryz.prog 28 [AV [pI a.n, pI a.d], AV [pI b.n, pI b.d]] (AV [pI ((bL_ a b).n), pI ((bL_ a b).d)]) := by
 refine as_ (N := 16) Tryz.func28 rfl rfl (by simp) (fun w0 => ?_)
 simp only [initF, Nat.reduceAdd]
 refine Rs fun K J => WL_r rfl (aQ_ rfl rfl (fun b1 hb1 => WL_r rfl (aQ_ rfl rfl (fun b2 hb2 => sN zp_39 rfl fun b3 hb3 => nl J (Sq fun K1 J1 => Rs fun K J => sQ (qL ty_39 rfl m1 rfl) rfl (sQ (q_ret en_51 (bo_ b) rfl) rfl (sE rfl (nl J ?_))))))))
 rcases bt (ae_ b) with h4 | h4
 ·skip
  refine W_f (not_f h4) rfl (aj_ (J1 _ _ (ds (sd (sk (sk (s0)))) [0,4,8,12,16,20,24,29] [7] mix (by kernel_rfl) (fun K J => pQ rfl (qL ty_39 rfl m2 rfl) (pQ rfl (qF b7_ rfl rfl) (pQ rfl (qL ty_37 rfl m1 rfl) (pQ rfl (qF cI_ rfl rfl) (pQ rfl (qL ty_37 rfl m1 rfl) (pQ rfl (q_ret en_73 (b9_ b.d b.n) rfl) ?_)))))))))
  obtain ⟨r5, hr5⟩ := nm ((ah_ a (ai_ b.d b.n)) : Rt)
  refine pC (AV [pI r5.n, pI r5.d]) en_38 (bv_ a (ai_ b.d b.n)) rfl rfl (by rw [hr5]; first | done | rfl) (oS [pI r5.n, pI r5.d] ty_39 rfl rfl rfl rfl rfl rfl (.head _) rfl hb3 rfl (sd s0) (fl J (W_ret (ret1 rfl (.inr rfl) (resP rfl m0 ty_39 rfl) ?_))))
  exact (by subst hr5; exact congrArg (fun r : Rt => (AV [pI r.n, pI r.d] : Value)) (show _ = (bL_ a b) from bif_t h4 rfl))
 ·skip
  refine W_t (not_t h4) rfl (Rs fun K J => sQ (q_ret en_76 c2_  rfl) rfl (sS [pI bK_.n, pI bK_.d] ty_39 rfl rfl rfl rfl rfl (.head _) rfl hb3 (nl J (W_ret (af_ (ret1 rfl (.inr rfl) (resP rfl m0 ty_39 rfl) ?_))))))
  exact (by exact congrArg (fun r : Rt => (AV [pI r.n, pI r.d] : Value)) (show _ = (bL_ a b) from bif_f h4 rfl))
end Go.Proofs.YtapbefpeopaecaaGreatDoor

