/- Walks: what these functions return. -/
import Derived.Test.YtjdfogfmeibkgaaGreatQGE
import Derived.Test.YtjdfogfmeibkgaaGreatQFp
import Derived.Test.YtjdfogfmeibkgaaGreatQWc
import Derived.Test.YtjdfogfmeibkgaaGreatQWe
import Derived.Test.YtjdfogfmeibkgaaGreatQWh
import Derived.Test.YtjdfogfmeibkgaaGreatQWi
import Derived.Test.YtjdfogfmeibkgaaGreatQGf
import Derived.Test.YtjdfogfmeibkgaaGreatQYl
namespace Go.Proofs.YtjdfogfmeibkgaaGreat
open Go.Kn Go.Num
set_option linter.unusedVariables false
set_option linter.unusedSimpArgs false
set_option maxRecDepth 20000
set_option maxHeartbeats 8000000
theorem hQ_ (k : Nat) (c0 T0 : Nat) (p_l : Option Addr) (c_l : Nat) (l : (List I)) (w : World) (hc0 : w.heap[c0]? = some (.cells (flat [csl p_l l.length c_l]).toArray T0 (0, 0))) (hl : Slr w elI (.slice p_l l.length c_l) l) (hpre : k < l.length) :
    Calls Tryz.prog 67 [.int .i64 ((k : Nat) : Int), .pointer (some ⟨c0, 0, none⟩)].toArray w (fun e w' => e = .returned (AV [pI (di_ k l)]) ∧ Ext w w') := by
 refine aU_ (N := 8) Tryz.func67 rfl rfl (by simp) ?_
 obtain ⟨w0, rfl⟩ : ∃ w0, w0 = w := ⟨_, rfl⟩
 have Hl := hl.old
 have hm_l := hl.max
 simp only [initF, Nat.reduceAdd]
 refine Rs fun K J => sN zp_38 rfl fun b1 hb1 => nl J (Rs fun K J => sQ (d1_ (v := .slice p_l l.length c_l) ty_22 rfl hc0 (by simp) rfl) rfl ?_)
 refine sE rfl (sQ (q_as (v' := .pointer (some (slb (.slice p_l l.length c_l) (k * 18 + 0)))) (cp_ (e := elI) (l := l) (k := k) sl_22 rfl rfl (SLe.sub Hl sn) (by first | omega | (simp only [List.length_set, List.length_append, List.length_cons, List.length_nil]; omega))) rfl) rfl ?_)
 refine sQ (q_ldG (e := elI) (l := l) (k := k) (o := 0) ty_38 rfl (SLe.sub Hl sn) (aA_ I0 (by first | omega | (simp only [List.length_set, List.length_append, List.length_cons, List.length_nil]; omega))) rfl) rfl ?_
 refine sS [pI (l.getD k I0)] ty_38 rfl rfl rfl rfl rfl (.head _) rfl hb1 (nl J (W_ret (ret1 rfl (.inr rfl) (resP rfl m0 ty_38 rfl) ?_)))
 exact (by rfl)

theorem dh_ (vl : Value) (l : (List I)) (w : World) (hl : Slr w elI vl l) (hpre : l.length ≤ 200) :
    Calls Tryz.prog 15 [vl].toArray w (fun e w' => ∃ v, e = .returned (v) ∧ Ext w w' ∧ Slo w.heap.size w' 38 elI v (ak_ l)) := by
 obtain ⟨p_l, c_l, rfl⟩ := hl.form
 refine bs_ (n := 7) (fun v => v) Tryz.func15 rfl rfl (by simp) ?_
 obtain ⟨w0, rfl⟩ : ∃ w0, w0 = w := ⟨_, rfl⟩
 have Hl := hl.old
 have hm_l := hl.max
 simp only [initF, Nat.reduceAdd]
 refine Rs fun K J => sX [csl p_l l.length c_l] rfl rfl rfl fun b1 hb1 => sE rfl (nl J (Rs fun K J => sQ (qC ty_22 rfl m0 rfl) rfl (sQ (q_as (v' := .int .i64 (((l).length : Nat) : Int)) (aS_ (e := elI) sl_22 rfl (SLe.sub Hl sn)) rfl) rfl (sQ (hP_ rfl rfl) rfl (WL_r rfl (an_ (E := 38) (e := elI) (l := (bh_ (((l).length : Nat) : Int) (fun (y : Nat) => (di_ y l)) (fun (y : I) => (by_ y)))) (fun v => v) en_66 rfl (fun w hw => d4_ (((l).length : Nat) : Int) _ (fun (y : Nat) => (di_ y l)) _ (fun (y : I) => (by_ y)) w (FnV.mk hw en_67 (fun w hw x hx => hQ_ x _ _ _ _ l w (hw.mem _ m0) (SLe.ap hw (SLe.sub Hl sn)) (Int.ofNat_lt.1 hx))) (FnV.mk hw en_68 (fun w hw x hx => (em_ x) w)) (by first | omega | (simp only [List.length_cons, List.length_nil, and_true, true_and] <;> omega) | simp)) (fun p2 c3 L4 hF5 => ?_)))))))
 refine sE rfl (nl J (W_ret (ret1 rfl (.inr rfl) rfl ?_)))
 have hE : ((bh_ (((l).length : Nat) : Int) (fun (y : Nat) => (di_ y l)) (fun (y : I) => (by_ y))) : (List I)) = (ak_ l) := by exact rfl
 rw [← hE]
 exact ⟨_, rfl, ⟨L4, (List.sublist_append_left _ _), hF5⟩⟩

theorem iG_ (k : Nat) (c0 T0 : Nat) (p_l : Option Addr) (c_l : Nat) (l : (List W)) (w : World) (hc0 : w.heap[c0]? = some (.cells (flat [csl p_l l.length c_l]).toArray T0 (0, 0))) (hl : Slr w elW (.slice p_l l.length c_l) l) (hpre : k < l.length) :
    Calls Tryz.prog 98 [.int .i64 ((k : Nat) : Int), .pointer (some ⟨c0, 0, none⟩)].toArray w (fun e w' => e = .returned (.int .i64 ((eH_ k l).1)) ∧ Ext w w') := by
 refine aU_ (N := 8) Tryz.func98 rfl rfl (by simp) ?_
 obtain ⟨w0, rfl⟩ : ∃ w0, w0 = w := ⟨_, rfl⟩
 have Hl := hl.old
 have hm_l := hl.max
 simp only [initF, Nat.reduceAdd]
 refine Rs fun K J => sE rfl (nl J (Rs fun K J => sQ (d1_ (v := .slice p_l l.length c_l) ty_70 rfl hc0 (by simp) rfl) rfl ?_))
 refine sE rfl (sQ (q_as (v' := .pointer (some (slb (.slice p_l l.length c_l) (k * 1 + 0)))) (cp_ (e := elW) (l := l) (k := k) sl_70 rfl rfl (SLe.sub Hl sn) (by first | omega | (simp only [List.length_set, List.length_append, List.length_cons, List.length_nil]; omega))) rfl) rfl ?_)
 refine sQ (jD_ (u := .int .i64 ((l.getD k W.z).1)) (e := elW) (l := l) (k := k) (o := 0) ty_3 rfl (SLe.sub Hl sn) (aA_ W.z (by first | omega | (simp only [List.length_set, List.length_append, List.length_cons, List.length_nil]; omega))) rfl) rfl ?_
 refine sE rfl (nl J (W_ret (ret1 rfl (.inr rfl) rfl ?_)))
 exact (by rfl)

theorem bm_ (vl : Value) (l : (List W)) (w : World) (hl : Slr w elW vl l) (hpre : l.length ≤ 200) :
    Calls Tryz.prog 34 [vl].toArray w (fun e w' => ∃ v, e = .returned (v) ∧ Ext w w' ∧ Slo w.heap.size w' 38 elI v (bc_ l)) := by
 obtain ⟨p_l, c_l, rfl⟩ := hl.form
 refine bs_ (n := 7) (fun v => v) Tryz.func34 rfl rfl (by simp) ?_
 obtain ⟨w0, rfl⟩ : ∃ w0, w0 = w := ⟨_, rfl⟩
 have Hl := hl.old
 have hm_l := hl.max
 simp only [initF, Nat.reduceAdd]
 refine Rs fun K J => sX [csl p_l l.length c_l] rfl rfl rfl fun b1 hb1 => sE rfl (nl J (Rs fun K J => sQ (qC ty_70 rfl m0 rfl) rfl (sQ (q_as (v' := .int .i64 (((l).length : Nat) : Int)) (aS_ (e := elW) sl_70 rfl (SLe.sub Hl sn)) rfl) rfl (sQ (hP_ rfl rfl) rfl (WL_r rfl (an_ (E := 38) (e := elI) (l := (cm_ (((l).length : Nat) : Int) (fun (y : Nat) => (eH_ y l)) (fun (y : Go.Num.W) => (E (Z.of y.1))))) (fun v => v) en_97 rfl (fun w hw => hg_ (((l).length : Nat) : Int) _ (fun (y : Nat) => (eH_ y l)) _ (fun (y : Go.Num.W) => (E (Z.of y.1))) w (FnV.mk hw en_98 (fun w hw x hx => iG_ x _ _ _ _ l w (hw.mem _ m0) (SLe.ap hw (SLe.sub Hl sn)) (Int.ofNat_lt.1 hx))) (FnV.mk hw en_62 (fun w hw x hx => (aY_ x.1 x.2) w)) (by first | omega | (simp only [List.length_cons, List.length_nil, and_true, true_and] <;> omega) | simp)) (fun p2 c3 L4 hF5 => ?_)))))))
 refine sE rfl (nl J (W_ret (ret1 rfl (.inr rfl) rfl ?_)))
 have hE : ((cm_ (((l).length : Nat) : Int) (fun (y : Nat) => (eH_ y l)) (fun (y : Go.Num.W) => (E (Z.of y.1)))) : (List I)) = (bc_ l) := by exact rfl
 rw [← hE]
 exact ⟨_, rfl, ⟨L4, (List.sublist_append_left _ _), hF5⟩⟩

theorem fv_ (vp : Value) (p : (List I)) (w : World) (hp : Slr w elI vp p) :
    Calls Tryz.prog 20 [vp].toArray w (fun e w' => e = .returned (.int .i64 ((bZ_ p).1)) ∧ Ext w w') := by
 obtain ⟨p_p, c_p, rfl⟩ := hp.form
 refine aU_ (N := 8) Tryz.func20 rfl rfl (by simp) ?_
 obtain ⟨w0, rfl⟩ : ∃ w0, w0 = w := ⟨_, rfl⟩
 have Hp := hp.old
 have hm_p := hp.max
 simp only [initF, Nat.reduceAdd]
 refine Rs fun K J => sE rfl (nl J (Sq fun K1 J1 => Rs fun K J => sE rfl (sQ (q_as (v' := .bool (ae_ p)) (aH_ en_18 rfl (fun w hw => aC_ _ p w (SLe.ap hw (SLe.sub Hp sn)))) rfl) rfl (nl J ?_))))
 rcases bt (ae_ p) with h1 | h1
 ·skip
  refine W_t h1 rfl (Rs fun K J => sE rfl (nl J (W_ret (aj_ (ret1 rfl (.inr rfl) rfl ?_)))))
  exact (by exact congrArg (fun r : W => (.int .i64 r.1 : Value)) (show _ = (bZ_ p) from bif_t h1 rfl))
 ·skip
  refine W_f h1 rfl (am_ (J1 _ _ (Rs fun K J => sE rfl (sQ (q_as (v' := .int .i64 (((p).length : Nat) : Int)) (aS_ (e := elI) sl_24 rfl (SLe.sub Hp sn)) rfl) rfl (sV (.int .i64 ((((p).length : Nat) : Int) - 1)) rfl (congrArg (Value.int .i64) (wx (by omega) (by omega) (by omega))) (sE rfl (nl J (W_ret (ret1 rfl (.inr rfl) rfl ?_)))))))))
  refine (show (.int .i64 ((((p).length : Nat) : Int) - 1) : Value) = .int .i64 ((W.cv ((((p).length : Nat) : Int) - 1)).1) by simp only [cvE (t := ((((p).length : Nat) : Int) - 1)) (by omega)]).trans ?_
  exact (by exact congrArg (fun r : W => (.int .i64 r.1 : Value)) (show _ = (bZ_ p) from bif_f h1 rfl))

theorem ex_ (vp : Value) (p : (List I)) (k : Int) (w : World) (hp : Slr w elI vp p) :
    Calls Tryz.prog 79 [vp, .int .i64 k].toArray w (fun e w' => e = .returned (AV [pI (aD_ p k)]) ∧ Ext w w') := by
 obtain ⟨p_p, c_p, rfl⟩ := hp.form
 refine aU_ (N := 18) Tryz.func79 rfl rfl (by simp) ?_
 obtain ⟨w0, rfl⟩ : ∃ w0, w0 = w := ⟨_, rfl⟩
 have Hp := hp.old
 have hm_p := hp.max
 simp only [initF, Nat.reduceAdd]
 refine Rs fun K J => sN zp_38 rfl fun b1 hb1 => nl J (Sq fun K1 J1 => ?_)
 refine bD_ [5, 6, 7, 8, 9, 10, 11, 12] (fun g M => (g 12 = .bool (decide (k < 0) || decide ((((p).length : Nat) : Int) ≤ k))) ∧ M = [⟨b1, 38, flat [pI I0]⟩]) (fun K2 J2 => ?_) ?_
 ·skip
  refine Rk fun K J => sE rfl (sE rfl ?_)
  rcases bt (decide (k < 0)) with h3 | h3
  ·skip
   have ph3 := of_decide_eq_true h3
   refine sB h3 rfl (WL_n rfl (WL_n rfl (WL_n rfl (WL_n rfl (sE rfl (nl J ?_))))))
   refine J2 _ _ (by repeat first | exact .refl | refine .cons rfl ?_) ⟨_, s0, ?s12, rfl⟩
   case s12 => exact congrArg Value.bool (or_t h3)
  ·skip
   have ph3 := of_decide_eq_false h3
   refine sB h3 rfl (sE rfl (sE rfl (sQ (q_as (v' := .int .i64 (((p).length : Nat) : Int)) (aS_ (e := elI) sl_24 rfl (SLe.sub Hp sn)) rfl) rfl (sE rfl (sE rfl (nl J ?_))))))
   refine J2 _ _ (by repeat first | exact .refl | refine .cons rfl ?_) ⟨_, s0, ?s12, rfl⟩
   case s12 => exact congrArg Value.bool (or_f h3 rfl)
 ·skip
  rintro g4 M ⟨hg12, rfl⟩
  simp only [setG, hg12]
  clear hg12
  rcases bt (decide (k < 0) || decide ((((p).length : Nat) : Int) ≤ k)) with h5 | h5
  ·skip
   refine W_t h5 rfl (Rs fun K J => sQ (fD_ zp_38 pl_38 rfl (.nil _)) rfl (sS [pI I0] ty_38 rfl rfl rfl rfl rfl (.head _) rfl hb1 (nl J (W_ret (aj_ (ret1 rfl (.inr rfl) (resP rfl m0 ty_38 rfl) ?_))))))
   exact (by exact congrArg (fun r : I => (AV [pI r] : Value)) (show _ = (aD_ p k) from bif_t h5 rfl))
  ·skip
   have ph6 := of_decide_eq_false (Bool.or_eq_false_iff.1 h5).1
   have ph7 := of_decide_eq_false (Bool.or_eq_false_iff.1 h5).2
   refine W_f h5 rfl (am_ (J1 _ _ (Rs fun K J => sE rfl (sE rfl (sQ (q_as (v' := .pointer (some (slb (.slice p_p p.length c_p) (((k).toNat) * 18 + 0)))) (c4_ (e := elI) (l := p) (k := (k).toNat) sl_24 rfl rfl (by omega) (SLe.sub Hp sn) (by first | omega | (simp only [List.length_set, List.length_append, List.length_cons, List.length_nil]; omega))) rfl) rfl ?_)))))
   refine sQ (q_ldG (e := elI) (l := p) (k := (k).toNat) (o := 0) ty_38 rfl (SLe.sub Hp sn) (aA_ I0 (by first | omega | (simp only [List.length_set, List.length_append, List.length_cons, List.length_nil]; omega))) rfl) rfl ?_
   refine sS [pI (p.getD ((k).toNat) I0)] ty_38 rfl rfl rfl rfl rfl (.head _) rfl hb1 (nl J (W_ret (ret1 rfl (.inr rfl) (resP rfl m0 ty_38 rfl) ?_)))
   exact (by exact congrArg (fun r : I => (AV [pI r] : Value)) (show _ = (aD_ p k) from bif_f h5 rfl))

theorem hh_ (k : Nat) (c0 T0 : Nat) (g_f : Nat) (c_f : List Value) (f : I → I → I) (c1 T1 : Nat) (p_p : Option Addr) (c_p : Nat) (p : (List I)) (c2 T2 : Nat) (p_q : Option Addr) (c_q : Nat) (q : (List I)) (w : World) (hc0 : w.heap[c0]? = some (.cells (flat [cfn g_f c_f]).toArray T0 (0, 0))) (hc1 : w.heap[c1]? = some (.cells (flat [csl p_p p.length c_p]).toArray T1 (0, 0))) (hc2 : w.heap[c2]? = some (.cells (flat [csl p_q q.length c_q]).toArray T2 (0, 0))) (hf : FnV Tryz.prog w (.func (.func g_f) #[] c_f.toArray) eII (fun _ => True) (outI (fun x : I × I => f x.1 x.2))) (hp : Slr w elI (.slice p_p p.length c_p) p) (hq : Slr w elI (.slice p_q q.length c_q) q) :
    Calls Tryz.prog 134 [.int .i64 ((k : Nat) : Int), .pointer (some ⟨c0, 0, none⟩), .pointer (some ⟨c1, 0, none⟩), .pointer (some ⟨c2, 0, none⟩)].toArray w (fun e w' => e = .returned (AV [pI (dd_ k f p q)]) ∧ Ext w w') := by
 refine aU_ (N := 14) Tryz.func134 rfl rfl (by simp) ?_
 obtain ⟨w0, rfl⟩ : ∃ w0, w0 = w := ⟨_, rfl⟩
 have Hf := hf.get
 have Hp := hp.old
 have hm_p := hp.max
 have Hq := hq.old
 have hm_q := hq.max
 simp only [initF, Nat.reduceAdd]
 refine Rs fun K J => sN zp_38 rfl fun b1 hb1 => nl J (ds sn [0,4,8,12,16,20,24,28,33] [8] mix (by kernel_rfl) (fun K J => pQ rfl (d1_ (v := .func (.func g_f) #[] c_f.toArray) ty_76 rfl hc0 (by simp) rfl) ?_))
 refine pQ rfl (d1_ (v := .slice p_p p.length c_p) ty_24 rfl hc1 (by simp) rfl) ?_
 refine pE rfl (pQ rfl (q_as (v' := AV [pI (aD_ p ((k : Nat) : Int))]) (aH_ en_79 rfl (fun w hw => ex_ _ p ((k : Nat) : Int) w (SLe.ap hw (SLe.sub Hp sn)))) rfl) (pQ rfl (d1_ (v := .slice p_q q.length c_q) ty_24 rfl hc2 (by simp) rfl) ?_))
 refine pE rfl (pQ rfl (q_as (v' := AV [pI (aD_ q ((k : Nat) : Int))]) (aH_ en_79 rfl (fun w hw => ex_ _ q ((k : Nat) : Int) w (SLe.ap hw (SLe.sub Hq sn)))) rfl) (pQ rfl (q_as (v' := AV [pI (f (aD_ p ((k : Nat) : Int)) (aD_ q ((k : Nat) : Int)))]) (q_fn (x := ((aD_ p ((k : Nat) : Int)), (aD_ q ((k : Nat) : Int)))) rfl rfl (FnE.sub Hf sn) trivial) rfl) (oS [pI (f (aD_ p ((k : Nat) : Int)) (aD_ q ((k : Nat) : Int)))] ty_38 rfl rfl rfl rfl rfl rfl (.head _) rfl hb1 rfl sn (fl J (W_ret (ret1 rfl (.inr rfl) (resP rfl m0 ty_38 rfl) ?_))))))
 exact (by rfl)

theorem eo_ (vp : Value) (p : (List I)) (vq : Value) (q : (List I)) (vf : Value) (f : I → I → I) (w : World) (hp : Slr w elI vp p) (hq : Slr w elI vq q) (hf : FnV Tryz.prog w vf eII (fun _ => True) (outI (fun x : I × I => f x.1 x.2))) (hpre : p.length ≤ 100 ∧ q.length ≤ 100) :
    Calls Tryz.prog 86 [vp, vq, vf].toArray w (fun e w' => ∃ v, e = .returned (v) ∧ Ext w w' ∧ Slo w.heap.size w' 38 elI v (bl_ p q f)) := by
 obtain ⟨p_p, c_p, rfl⟩ := hp.form
 obtain ⟨p_q, c_q, rfl⟩ := hq.form
 obtain ⟨g_f, c_f, rfl, Hf⟩ := hf.open
 refine bs_ (n := 21) (fun v => v) Tryz.func86 rfl rfl (by simp) ?_
 obtain ⟨w0, rfl⟩ : ∃ w0, w0 = w := ⟨_, rfl⟩
 have Hp := hp.old
 have hm_p := hp.max
 have Hq := hq.old
 have hm_q := hq.max
 simp only [initF, Nat.reduceAdd]
 refine Rs fun K J => sX [csl p_p p.length c_p] rfl rfl rfl fun b1 hb1 => sX [csl p_q q.length c_q] rfl rfl rfl fun b2 hb2 => sX [cfn g_f c_f] rfl rfl rfl fun b3 hb3 => sE rfl (nl J (Sq fun K1 J1 => ?_))
 refine bD_ [7, 8, 9, 10, 11, 12] (fun g M => (g 12 = .bool ((ae_ p) || (ae_ q))) ∧ M = [⟨b3, 76, flat [cfn g_f c_f]⟩, ⟨b2, 24, flat [csl p_q q.length c_q]⟩, ⟨b1, 24, flat [csl p_p p.length c_p]⟩]) (fun K2 J2 => ?_) ?_
 ·skip
  refine Rk fun K J => sQ (qC ty_24 rfl m2 rfl) rfl (sQ (q_as (v' := .bool (ae_ p)) (aH_ en_18 rfl (fun w hw => aC_ _ p w (SLe.ap hw (SLe.sub Hp sn)))) rfl) rfl ?_)
  rcases bt (ae_ p) with h5 | h5
  ·skip
   refine sB h5 rfl (WL_n rfl (WL_n rfl (sE rfl (nl J ?_))))
   refine J2 _ _ (by repeat first | exact .refl | refine .cons rfl ?_) ⟨_, s0, ?s12, rfl⟩
   case s12 => exact congrArg Value.bool (or_t h5)
  ·skip
   refine sB h5 rfl (sQ (qC ty_24 rfl m1 rfl) rfl (sQ (q_as (v' := .bool (ae_ q)) (aH_ en_18 rfl (fun w hw => aC_ _ q w (SLe.ap hw (SLe.sub Hq sn)))) rfl) rfl (sE rfl (nl J ?_))))
   refine J2 _ _ (by repeat first | exact .refl | refine .cons rfl ?_) ⟨_, s0, ?s12, rfl⟩
   case s12 => exact congrArg Value.bool (or_f h5 rfl)
 ·skip
  rintro g6 M ⟨hg12, rfl⟩
  simp only [setG, hg12]
  clear hg12
  rcases bt ((ae_ p) || (ae_ q)) with h7 | h7
  ·skip
   refine W_t h7 rfl (Rs fun K J => WL_r rfl (an_ (E := 38) (e := elI) (l := F_poly_bad) (fun v => v) en_76 rfl (fun w hw => bO_  w) (fun p8 c9 L10 hF11 => sE rfl (nl J (W_ret (aj_ (ret1 rfl (.inr rfl) rfl ?_)))))))
   have hE : (F_poly_bad : (List I)) = (bl_ p q f) := by exact bif_t h7 rfl
   rw [← hE]
   exact ⟨_, rfl, ⟨L10, (List.sublist_append_left _ _), hF11⟩⟩
  ·skip
   refine W_f h7 rfl (am_ (J1 _ _ (Rs fun K J => sQ (qC ty_24 rfl m2 rfl) rfl (sQ (q_as (v' := .int .i64 (((p).length : Nat) : Int)) (aS_ (e := elI) sl_24 rfl (SLe.sub Hp sn)) rfl) rfl (sQ (qC ty_24 rfl m1 rfl) rfl (sQ (q_as (v' := .int .i64 (((q).length : Nat) : Int)) (aS_ (e := elI) sl_24 rfl (SLe.sub Hq sn)) rfl) rfl (sQ (q_as (v' := .int .i64 (((max ((p).length) ((q).length)) : Nat) : Int)) (hi_ rfl rfl) (congrArg (Value.int .i64) (by omega))) rfl (sQ (hP_ rfl rfl) rfl (WL_r rfl (an_ (E := 38) (e := elI) (l := (bh_ (((max ((p).length) ((q).length)) : Nat) : Int) (fun (y : Nat) => (dd_ y f p q)) (fun (y : I) => (by_ y)))) (fun v => v) en_66 rfl (fun w hw => d4_ (((max ((p).length) ((q).length)) : Nat) : Int) _ (fun (y : Nat) => (dd_ y f p q)) _ (fun (y : I) => (by_ y)) w (FnV.mk hw q1_ (fun w hw x hx => hh_ x _ _ _ _ f _ _ _ _ p _ _ _ _ q w (hw.mem _ m0) (hw.mem _ m2) (hw.mem _ m1) (FnE.ap hw (FnE.sub Hf sn)) (SLe.ap hw (SLe.sub Hp sn)) (SLe.ap hw (SLe.sub Hq sn)))) (FnV.mk hw en_68 (fun w hw x hx => (em_ x) w)) (by first | omega | (simp only [List.length_cons, List.length_nil, and_true, true_and] <;> omega) | simp)) (fun p12 c13 L14 hF15 => ?_)))))))))))
   refine sE rfl (nl J (W_ret (ret1 rfl (.inr rfl) rfl ?_)))
   have hE : ((bh_ (((max ((p).length) ((q).length)) : Nat) : Int) (fun (y : Nat) => (dd_ y f p q)) (fun (y : I) => (by_ y))) : (List I)) = (bl_ p q f) := by exact bif_f h7 rfl
   rw [← hE]
   exact ⟨_, rfl, ⟨L14, (List.sublist_append_left _ _), hF15⟩⟩

theorem jh_ (vp : Value) (p : (List I)) (vq : Value) (q : (List I)) (w : World) (hp : Slr w elI vp p) (hq : Slr w elI vq q) (hpre : p.length ≤ 100 ∧ q.length ≤ 100) :
    Calls Tryz.prog 42 [vp, vq].toArray w (fun e w' => ∃ v, e = .returned (v) ∧ Ext w w' ∧ Slo w.heap.size w' 38 elI v (dA_ p q)) := by
 obtain ⟨p_p, c_p, rfl⟩ := hp.form
 obtain ⟨p_q, c_q, rfl⟩ := hq.form
 refine bs_ (n := 8) (fun v => v) Tryz.func42 rfl rfl (by simp) ?_
 obtain ⟨w0, rfl⟩ : ∃ w0, w0 = w := ⟨_, rfl⟩
 have Hp := hp.old
 have hm_p := hp.max
 have Hq := hq.old
 have hm_q := hq.max
 simp only [initF, Nat.reduceAdd]
 refine Rs fun K J => sE rfl (nl J (Rs fun K J => sE rfl (sE rfl (WL_r rfl (an_ (E := 38) (e := elI) (l := (bl_ p q (fun (y : I) (z : I) => (E (Z.add y.dec z.dec))))) (fun v => v) en_86 rfl (fun w hw => eo_ _ p _ q _ (fun (y : I) (z : I) => (E (Z.add y.dec z.dec))) w (SLe.ap hw (SLe.sub Hp sn)) (SLe.ap hw (SLe.sub Hq sn)) (FnV.mk hw en_94 (fun w hw x hx => (cY_ x.1.1 x.2.1 x.1.2 x.2.2) w)) (by first | omega | (simp only [List.length_cons, List.length_nil, and_true, true_and] <;> omega) | simp)) (fun p1 c2 L3 hF4 => ?_))))))
 refine sE rfl (nl J (W_ret (ret1 rfl (.inr rfl) rfl ?_)))
 have hE : ((bl_ p q (fun (y : I) (z : I) => (E (Z.add y.dec z.dec)))) : (List I)) = (dA_ p q) := by exact rfl
 rw [← hE]
 exact ⟨_, rfl, ⟨L3, (List.sublist_append_left _ _), hF4⟩⟩

theorem hW_ (k : Nat) (c0 T0 : Nat) (p_q : Option Addr) (c_q : Nat) (q : (List I)) (c1 T1 : Nat) (p_p : Option Addr) (c_p : Nat) (p : (List I)) (w : World) (hc0 : w.heap[c0]? = some (.cells (flat [csl p_q q.length c_q]).toArray T0 (0, 0))) (hc1 : w.heap[c1]? = some (.cells (flat [csl p_p p.length c_p]).toArray T1 (0, 0))) (hq : Slr w elI (.slice p_q q.length c_q) q) (hp : Slr w elI (.slice p_p p.length c_p) p) (hpre : k < 300 ∧ p.length ≤ 100 ∧ q.length ≤ 100) :
    Calls Tryz.prog 93 [.int .i64 ((k : Nat) : Int), .pointer (some ⟨c0, 0, none⟩), .pointer (some ⟨c1, 0, none⟩)].toArray w (fun e w' => e = .returned (AV [pI (cP_ k q p)]) ∧ Ext w w') := by
 refine aU_ (N := 36) Tryz.func93 rfl rfl (by simp) ?_
 obtain ⟨w0, rfl⟩ : ∃ w0, w0 = w := ⟨_, rfl⟩
 have Hq := hq.old
 have hm_q := hq.max
 have Hp := hp.old
 have hm_p := hp.max
 simp only [initF, Nat.reduceAdd]
 refine Rs fun K J => sN zp_38 rfl fun b1 hb1 => nl J (Rs fun K J => sN zp_38 rfl fun b2 hb2 => nl J (Sq fun K1 J1 => Rs fun K J => sE rfl (sQ (d1_ (v := .slice p_q q.length c_q) ty_24 rfl hc0 (by simp) rfl) rfl ?_)))
 refine sQ (q_as (v' := .int .i64 (((q).length : Nat) : Int)) (aS_ (e := elI) sl_24 rfl (SLe.sub Hq sn)) rfl) rfl (sV (.int .i64 (((k : Nat) : Int) - (((q).length : Nat) : Int))) rfl (congrArg (Value.int .i64) (wx (by omega) (by omega) (by omega))) (sV (.int .i64 ((((k : Nat) : Int) - (((q).length : Nat) : Int)) + 1)) rfl (congrArg (Value.int .i64) (wx (by omega) (by omega) (by omega))) (sQ (q_as (v' := .int .i64 (((((((k : Nat) : Int) - (((q).length : Nat) : Int)) + 1)).toNat : Nat) : Int)) (hi_ rfl rfl) (congrArg (Value.int .i64) (by omega))) rfl (sE rfl (nl J ?_)))))
 refine ch_ (fun S M h => J1 S M h) [6, 13, 14, 15, 16, 17, 18, 19, 20, 21, 22, 23, 24, 25, 26, 27, 28, 29, 30, 31, 32, 33, 34] (fun g M => ∃ (i : Nat) (mb2 : I), (bN_ k q p ((k + 2)) ((((((k : Nat) : Int) - (((q).length : Nat) : Int)) + 1)).toNat) I0) = (i, mb2) ∧ (g 6 = .int .i64 ((i : Nat) : Int)) ∧ M = [⟨b2, 38, flat [pI mb2]⟩, ⟨b1, 38, flat [pI I0]⟩]) (fun K_u3 hK_u3 => ?_) ?_
 ·skip
  refine aq_ ?_
  refine aL_ [6, 13, 14, 15, 16, 17, 18, 19, 20, 21, 22, 23, 24, 25, 26, 27, 28, 29, 30, 31, 32, 33, 34] (fun g nn M => ∃ (i : Nat) (mb2 : I), (bN_ k q p nn i mb2) = (bN_ k q p ((k + 2)) ((((((k : Nat) : Int) - (((q).length : Nat) : Int)) + 1)).toNat) I0) ∧ k + 1 - i < nn ∧ (k + 1 ≤ i + q.length) ∧ (g 6 = .int .i64 ((i : Nat) : Int)) ∧ M = [⟨b2, 38, flat [pI mb2]⟩, ⟨b1, 38, flat [pI I0]⟩]) ((k + 2)) ?start ?round
  case start => exact ⟨_, s0, (((((k : Nat) : Int) - (((q).length : Nat) : Int)) + 1)).toNat, I0, rfl, (by first | omega | (simp only [List.length_append, List.length_cons, List.length_nil, List.length_set, List.length_take, and_true, true_and, or_true, true_or, Nat.zero_add] <;> omega)), (by first | omega | (simp only [List.length_append, List.length_cons, List.length_nil, List.length_set, List.length_take, and_true, true_and, or_true, true_or, Nat.zero_add] <;> omega)), rfl, rfl⟩
  case round =>
   rintro nn g M ⟨i, mb2, hT0, hq0, hinv0, hg6, rfl⟩
   obtain ⟨k0, rfl⟩ : ∃ m, nn = m + 1 := ⟨nn - 1, by omega⟩
   simp only [setG, hg6]
   clear hg6
   refine Sq fun K6 J6 => Rs fun K J => sE rfl (sE rfl (sQ (d1_ (v := .slice p_p p.length c_p) ty_24 rfl hc1 (by simp) rfl) rfl ?_))
   refine sQ (q_as (v' := .int .i64 (((p).length : Nat) : Int)) (aS_ (e := elI) sl_24 rfl (SLe.sub Hp sn)) rfl) rfl (sV (.int .i64 ((((p).length : Nat) : Int) - 1)) rfl (congrArg (Value.int .i64) (wx (by omega) (by omega) (by omega))) (sQ (q_as (v' := .int .i64 (min ((k : Nat) : Int) ((((p).length : Nat) : Int) - 1))) (qA_ rfl rfl) (congrArg (Value.int .i64) (by omega))) rfl (sE rfl (nl J ?_))))
   rcases bt (decide (((i : Nat) : Int) ≤ (min ((k : Nat) : Int) ((((p).length : Nat) : Int) - 1)))) with h6 | h6
   ·skip
    have ph6 := of_decide_eq_true h6
    refine W_t h6 rfl (am_ (J6 _ _ (Sq fun K7 J7 => aq_ (dr (sd s0) [0,4,8,12,16,20,24,28,32,36,40,44,48,53] [13] mix (by kernel_rfl) (fun K J => pQ rfl (qL ty_38 rfl m0 rfl) (pQ rfl (d1_ (v := .slice p_p p.length c_p) ty_24 rfl hc1 (by simp) rfl) ?_))))))
    refine pE rfl (pQ rfl (q_as (v' := .pointer (some (slb (.slice p_p p.length c_p) (i * 18 + 0)))) (cp_ (e := elI) (l := p) (k := i) sl_24 rfl rfl (SLe.sub Hp sn) (by first | omega | (simp only [List.length_set, List.length_append, List.length_cons, List.length_nil]; omega))) rfl) ?_)
    refine pQ rfl (q_ldG (e := elI) (l := p) (k := i) (o := 0) ty_38 rfl (SLe.sub Hp sn) (aA_ I0 (by first | omega | (simp only [List.length_set, List.length_append, List.length_cons, List.length_nil]; omega))) rfl) ?_
    refine pQ rfl (d1_ (v := .slice p_q q.length c_q) ty_24 rfl hc0 (by simp) rfl) ?_
    refine pE rfl (pE rfl (pV (.int .i64 (((k : Nat) : Int) - ((i : Nat) : Int))) rfl (congrArg (Value.int .i64) (wx (by omega) (by omega) (by omega))) (pQ rfl (q_as (v' := .pointer (some (slb (.slice p_q q.length c_q) ((k - i) * 18 + 0)))) (c4_ (e := elI) (l := q) (k := (k - i)) sl_24 rfl rfl (by omega) (SLe.sub Hq sn) (by first | omega | (simp only [List.length_set, List.length_append, List.length_cons, List.length_nil]; omega))) rfl) ?_)))
    refine pQ rfl (q_ldG (e := elI) (l := q) (k := (k - i)) (o := 0) ty_38 rfl (SLe.sub Hq sn) (aA_ I0 (by first | omega | (simp only [List.length_set, List.length_append, List.length_cons, List.length_nil]; omega))) rfl) ?_
    refine pC (AV [pI (E (Z.mul (p.getD i I0).dec (q.getD (k - i) I0).dec))]) en_77 (aK_ (p.getD i I0).1 (q.getD (k - i) I0).1 (p.getD i I0).2 (q.getD (k - i) I0).2) rfl rfl rfl (pC (AV [pI (E (Z.add mb2.dec (Z.mul (p.getD i I0).dec (q.getD (k - i) I0).dec)))]) en_94 (cY_ mb2.1 (E (Z.mul (p.getD i I0).dec (q.getD (k - i) I0).dec)).1 mb2.2 (E (Z.mul (p.getD i I0).dec (q.getD (k - i) I0).dec)).2) rfl rfl (cg2 (fun p q => AV [pI (E (Z.add p q))]) rfl (E_dec _)) (oS [pI (E (Z.add mb2.dec (Z.mul (p.getD i I0).dec (q.getD (k - i) I0).dec)))] ty_38 rfl rfl rfl rfl rfl rfl (.head _) rfl hb2 rfl (sd s0) (fl J (J7 _ _ (Rk fun K J => sE rfl (sV (.int .i64 (((i + 1) : Nat) : Int)) rfl (congrArg (Value.int .i64) (wx (by omega) (by omega) (by omega))) (sE rfl (nl J (⟨(by repeat first | exact .refl | refine .cons rfl ?_), _, _, s0, (Nat.lt_succ_self _), (i + 1), (E (Z.add mb2.dec (Z.mul (p.getD i I0).dec (q.getD (k - i) I0).dec))), (by exact (hT0.symm.trans (Eq.symm (bif_t h6 rfl))).symm), (Nat.lt_of_lt_of_le (by first | omega | (simp only [List.length_append, List.length_cons, List.length_nil, List.length_set, List.length_take, and_true, true_and, or_true, true_or, Nat.zero_add] <;> omega)) (Nat.le_of_lt_succ hq0)), (by first | omega | (simp only [List.length_append, List.length_cons, List.length_nil, List.length_set, List.length_take, and_true, true_and, or_true, true_or, Nat.zero_add] <;> omega)), rfl, rfl⟩)))))))))
   ·skip
    have ph6 := of_decide_eq_false h6
    refine W_f h6 rfl (bw_ (ap_ (ap_ (as_ (hK_u3 _ _ (by repeat first | exact .refl | refine .cons rfl ?_) ⟨_, s0, i, mb2, (by exact hT0.symm.trans (Eq.symm (bif_f h6 rfl))), rfl, rfl⟩)))))
 ·skip
  rintro g M ⟨i, mb2, hCu3, hg6, rfl⟩
  simp only [setG, hg6]
  clear hg6
  refine Rs fun K J => sQ (qL ty_38 rfl m0 rfl) rfl (sS [pI mb2] ty_38 rfl rfl rfl rfl rfl (.tail _ (.head _)) rfl hb1 (nl J (W_ret (ret1 rfl (.inr rfl) (resP rfl m1 ty_38 rfl) ?_))))
  exact (by exact congrArg (fun r : I => (AV [pI r] : Value)) (show _ = (cP_ k q p) from (by unfold cP_; exact trs (Eq.symm (apS hCu3)) rfl)))

theorem cA_ (vp : Value) (p : (List I)) (vq : Value) (q : (List I)) (w : World) (hp : Slr w elI vp p) (hq : Slr w elI vq q) (hpre : p.length ≤ 100 ∧ q.length ≤ 100) :
    Calls Tryz.prog 31 [vp, vq].toArray w (fun e w' => ∃ v, e = .returned (v) ∧ Ext w w' ∧ Slo w.heap.size w' 38 elI v (aa_ p q)) := by
 obtain ⟨p_p, c_p, rfl⟩ := hp.form
 obtain ⟨p_q, c_q, rfl⟩ := hq.form
 refine bs_ (n := 28) (fun v => v) Tryz.func31 rfl rfl (by simp) ?_
 obtain ⟨w0, rfl⟩ : ∃ w0, w0 = w := ⟨_, rfl⟩
 have Hp := hp.old
 have hm_p := hp.max
 have Hq := hq.old
 have hm_q := hq.max
 simp only [initF, Nat.reduceAdd]
 refine Rs fun K J => sX [csl p_p p.length c_p] rfl rfl rfl fun b1 hb1 => sX [csl p_q q.length c_q] rfl rfl rfl fun b2 hb2 => sE rfl (nl J (Sq fun K1 J1 => ?_))
 refine bD_ [5, 6, 7, 8, 9, 10] (fun g M => (g 10 = .bool ((ae_ p) || (ae_ q))) ∧ M = [⟨b2, 24, flat [csl p_q q.length c_q]⟩, ⟨b1, 24, flat [csl p_p p.length c_p]⟩]) (fun K2 J2 => ?_) ?_
 ·skip
  refine Rk fun K J => sQ (qC ty_24 rfl m1 rfl) rfl (sQ (q_as (v' := .bool (ae_ p)) (aH_ en_18 rfl (fun w hw => aC_ _ p w (SLe.ap hw (SLe.sub Hp sn)))) rfl) rfl ?_)
  rcases bt (ae_ p) with h4 | h4
  ·skip
   refine sB h4 rfl (WL_n rfl (WL_n rfl (sE rfl (nl J ?_))))
   refine J2 _ _ (by repeat first | exact .refl | refine .cons rfl ?_) ⟨_, s0, ?s10, rfl⟩
   case s10 => exact congrArg Value.bool (or_t h4)
  ·skip
   refine sB h4 rfl (sQ (qC ty_24 rfl m0 rfl) rfl (sQ (q_as (v' := .bool (ae_ q)) (aH_ en_18 rfl (fun w hw => aC_ _ q w (SLe.ap hw (SLe.sub Hq sn)))) rfl) rfl (sE rfl (nl J ?_))))
   refine J2 _ _ (by repeat first | exact .refl | refine .cons rfl ?_) ⟨_, s0, ?s10, rfl⟩
   case s10 => exact congrArg Value.bool (or_f h4 rfl)
 ·skip
  rintro g5 M ⟨hg10, rfl⟩
  simp only [setG, hg10]
  clear hg10
  rcases bt ((ae_ p) || (ae_ q)) with h6 | h6
  ·skip
   refine W_t h6 rfl (Rs fun K J => WL_r rfl (an_ (E := 38) (e := elI) (l := F_poly_bad) (fun v => v) en_76 rfl (fun w hw => bO_  w) (fun p7 c8 L9 hF10 => sE rfl (nl J (W_ret (aj_ (ret1 rfl (.inr rfl) rfl ?_)))))))
   have hE : (F_poly_bad : (List I)) = (aa_ p q) := by exact bif_t h6 rfl
   rw [← hE]
   exact ⟨_, rfl, ⟨L9, (List.sublist_append_left _ _), hF10⟩⟩
  ·skip
   refine W_f h6 rfl (am_ (J1 _ _ (Sq fun K3 J3 => ?_)))
   refine bD_ [12, 13, 14, 15, 16, 17, 18, 19] (fun g M => (g 19 = .bool (((((p).length : Nat) : Int) == 0) || ((((q).length : Nat) : Int) == 0))) ∧ M = [⟨b2, 24, flat [csl p_q q.length c_q]⟩, ⟨b1, 24, flat [csl p_p p.length c_p]⟩]) (fun K4 J4 => ?_) ?_
   ·skip
    refine Rk fun K J => sQ (qC ty_24 rfl m1 rfl) rfl (sQ (q_as (v' := .int .i64 (((p).length : Nat) : Int)) (aS_ (e := elI) sl_24 rfl (SLe.sub Hp sn)) rfl) rfl (sE rfl ?_))
    rcases bt ((((p).length : Nat) : Int) == 0) with h12 | h12
    ·skip
     have ph12 := ea_ h12
     refine sB h12 rfl (WL_n rfl (WL_n rfl (WL_n rfl (sE rfl (nl J ?_)))))
     refine J4 _ _ (by repeat first | exact .refl | refine .cons rfl ?_) ⟨_, s0, ?s19, rfl⟩
     case s19 => exact congrArg Value.bool (or_t h12)
    ·skip
     have ph12 := c9_ h12
     refine sB h12 rfl (sQ (qC ty_24 rfl m0 rfl) rfl (sQ (q_as (v' := .int .i64 (((q).length : Nat) : Int)) (aS_ (e := elI) sl_24 rfl (SLe.sub Hq sn)) rfl) rfl (sE rfl (sE rfl (nl J ?_)))))
     refine J4 _ _ (by repeat first | exact .refl | refine .cons rfl ?_) ⟨_, s0, ?s19, rfl⟩
     case s19 => exact congrArg Value.bool (or_f h12 rfl)
   ·skip
    rintro g13 M ⟨hg19, rfl⟩
    simp only [setG, hg19]
    clear hg19
    rcases bt (((((p).length : Nat) : Int) == 0) || ((((q).length : Nat) : Int) == 0)) with h14 | h14
    ·skip
     refine W_t h14 rfl (Rs fun K J => sE rfl (nl J (W_ret (aj_ (ret1 rfl (.inr rfl) rfl ?_)))))
     have hE : (([] : List I) : (List I)) = (aa_ p q) := by exact bif_f h6 (bif_t h14 rfl)
     rw [← hE]
     exact ⟨_, rfl, ⟨[], sn, OwnG.nil⟩⟩
    ·skip
     have ph15 := c9_ (Bool.or_eq_false_iff.1 h14).1
     have ph16 := c9_ (Bool.or_eq_false_iff.1 h14).2
     refine W_f h14 rfl (am_ (J3 _ _ (Rs fun K J => sQ (qC ty_24 rfl m1 rfl) rfl (sQ (q_as (v' := .int .i64 (((p).length : Nat) : Int)) (aS_ (e := elI) sl_24 rfl (SLe.sub Hp sn)) rfl) rfl (sQ (qC ty_24 rfl m0 rfl) rfl (sQ (q_as (v' := .int .i64 (((q).length : Nat) : Int)) (aS_ (e := elI) sl_24 rfl (SLe.sub Hq sn)) rfl) rfl (sV (.int .i64 ((((p).length + (q).length) : Nat) : Int)) rfl (congrArg (Value.int .i64) (wx (by omega) (by omega) (by omega))) (sV (.int .i64 (((((p).length + (q).length) : Nat) : Int) - 1)) rfl (congrArg (Value.int .i64) (wx (by omega) (by omega) (by omega))) (sQ (hP_ rfl rfl) rfl (WL_r rfl (an_ (E := 38) (e := elI) (l := (bh_ (((((p).length + (q).length) : Nat) : Int) - 1) (fun (y : Nat) => (cP_ y q p)) (fun (y : I) => (by_ y)))) (fun v => v) en_66 rfl (fun w hw => d4_ (((((p).length + (q).length) : Nat) : Int) - 1) _ (fun (y : Nat) => (cP_ y q p)) _ (fun (y : I) => (by_ y)) w (FnV.mk hw en_93 (fun w hw x hx => hW_ x _ _ _ _ q _ _ _ _ p w (hw.mem _ m0) (hw.mem _ m1) (SLe.ap hw (SLe.sub Hq sn)) (SLe.ap hw (SLe.sub Hp sn)) (by have hx' : ((x : Nat) : Int) < _ := hx; omega))) (FnV.mk hw en_68 (fun w hw x hx => (em_ x) w)) (by first | omega | (simp only [List.length_cons, List.length_nil, and_true, true_and] <;> omega) | simp)) (fun p17 c18 L19 hF20 => ?_))))))))))))
     refine sE rfl (nl J (W_ret (ret1 rfl (.inr rfl) rfl ?_)))
     have hE : ((bh_ (((((p).length + (q).length) : Nat) : Int) - 1) (fun (y : Nat) => (cP_ y q p)) (fun (y : I) => (by_ y))) : (List I)) = (aa_ p q) := by exact bif_f h6 (bif_f h14 rfl)
     rw [← hE]
     exact ⟨_, rfl, ⟨L19, (List.sublist_append_left _ _), hF20⟩⟩

theorem gG_ (k : Nat) (c0 T0 : Nat) (p_p : Option Addr) (c_p : Nat) (p : (List I)) (w : World) (hc0 : w.heap[c0]? = some (.cells (flat [csl p_p p.length c_p]).toArray T0 (0, 0))) (hp : Slr w elI (.slice p_p p.length c_p) p) (hpre : k + 1 < p.length ∧ p.length ≤ 100) :
    Calls Tryz.prog 96 [.int .i64 ((k : Nat) : Int), .pointer (some ⟨c0, 0, none⟩)].toArray w (fun e w' => e = .returned (AV [pI (cK_ k p)]) ∧ Ext w w') := by
 refine aU_ (N := 13) Tryz.func96 rfl rfl (by simp) ?_
 obtain ⟨w0, rfl⟩ : ∃ w0, w0 = w := ⟨_, rfl⟩
 have Hp := hp.old
 have hm_p := hp.max
 simp only [initF, Nat.reduceAdd]
 refine Rs fun K J => sN zp_38 rfl fun b1 hb1 => nl J (ds sn [0,4,8,12,16,20,24,28,32,37] [9] mix (by kernel_rfl) (fun K J => pE rfl (pV (.int .i64 (((k + 1) : Nat) : Int)) rfl (congrArg (Value.int .i64) (wx (by omega) (by omega) (by omega))) (pC (AV [pI (E (Z.of (((k + 1) : Nat) : Int)))]) en_62 (aY_ (((k + 1) : Nat) : Int) (by unfold I64; omega)) rfl rfl rfl (pQ rfl (d1_ (v := .slice p_p p.length c_p) ty_24 rfl hc0 (by simp) rfl) ?_)))))
 refine pE rfl (pV (.int .i64 (((k + 1) : Nat) : Int)) rfl (congrArg (Value.int .i64) (wx (by omega) (by omega) (by omega))) (pQ rfl (q_as (v' := .pointer (some (slb (.slice p_p p.length c_p) ((k + 1) * 18 + 0)))) (cp_ (e := elI) (l := p) (k := (k + 1)) sl_24 rfl rfl (SLe.sub Hp sn) (by first | omega | (simp only [List.length_set, List.length_append, List.length_cons, List.length_nil]; omega))) rfl) ?_))
 refine pQ rfl (q_ldG (e := elI) (l := p) (k := (k + 1)) (o := 0) ty_38 rfl (SLe.sub Hp sn) (aA_ I0 (by first | omega | (simp only [List.length_set, List.length_append, List.length_cons, List.length_nil]; omega))) rfl) ?_
 refine pC (AV [pI (E (Z.mul (Z.of (((k + 1) : Nat) : Int)) (p.getD (k + 1) I0).dec))]) en_77 (aK_ (E (Z.of (((k + 1) : Nat) : Int))).1 (p.getD (k + 1) I0).1 (E (Z.of (((k + 1) : Nat) : Int))).2 (p.getD (k + 1) I0).2) rfl rfl (cg2 (fun p q => AV [pI (E (Z.mul p q))]) (E_dec _) rfl) (oS [pI (E (Z.mul (Z.of (((k + 1) : Nat) : Int)) (p.getD (k + 1) I0).dec))] ty_38 rfl rfl rfl rfl rfl rfl (.head _) rfl hb1 rfl sn (fl J (W_ret (ret1 rfl (.inr rfl) (resP rfl m0 ty_38 rfl) ?_))))
 exact (by rfl)

theorem eD_ (vp : Value) (p : (List I)) (w : World) (hp : Slr w elI vp p) (hpre : p.length ≤ 100) :
    Calls Tryz.prog 33 [vp].toArray w (fun e w' => ∃ v, e = .returned (v) ∧ Ext w w' ∧ Slo w.heap.size w' 38 elI v (ad_ p)) := by
 obtain ⟨p_p, c_p, rfl⟩ := hp.form
 refine bs_ (n := 11) (fun v => v) Tryz.func33 rfl rfl (by simp) ?_
 obtain ⟨w0, rfl⟩ : ∃ w0, w0 = w := ⟨_, rfl⟩
 have Hp := hp.old
 have hm_p := hp.max
 simp only [initF, Nat.reduceAdd]
 refine Rs fun K J => sX [csl p_p p.length c_p] rfl rfl rfl fun b1 hb1 => sE rfl (nl J (Sq fun K1 J1 => Rs fun K J => sQ (qC ty_24 rfl m0 rfl) rfl (sQ (q_as (v' := .bool (ae_ p)) (aH_ en_18 rfl (fun w hw => aC_ _ p w (SLe.ap hw (SLe.sub Hp sn)))) rfl) rfl (nl J ?_))))
 rcases bt (ae_ p) with h2 | h2
 ·skip
  refine W_t h2 rfl (Rs fun K J => WL_r rfl (an_ (E := 38) (e := elI) (l := F_poly_bad) (fun v => v) en_76 rfl (fun w hw => bO_  w) (fun p3 c4 L5 hF6 => sE rfl (nl J (W_ret (aj_ (ret1 rfl (.inr rfl) rfl ?_)))))))
  have hE : (F_poly_bad : (List I)) = (ad_ p) := by exact bif_t h2 rfl
  rw [← hE]
  exact ⟨_, rfl, ⟨L5, (List.sublist_append_left _ _), hF6⟩⟩
 ·skip
  refine W_f h2 rfl (am_ (J1 _ _ (Rs fun K J => sQ (qC ty_24 rfl m0 rfl) rfl (sQ (q_as (v' := .int .i64 (((p).length : Nat) : Int)) (aS_ (e := elI) sl_24 rfl (SLe.sub Hp sn)) rfl) rfl (sV (.int .i64 ((((p).length : Nat) : Int) - 1)) rfl (congrArg (Value.int .i64) (wx (by omega) (by omega) (by omega))) (sQ (hP_ rfl rfl) rfl (WL_r rfl (an_ (E := 38) (e := elI) (l := (bh_ ((((p).length : Nat) : Int) - 1) (fun (y : Nat) => (cK_ y p)) (fun (y : I) => (by_ y)))) (fun v => v) en_66 rfl (fun w hw => d4_ ((((p).length : Nat) : Int) - 1) _ (fun (y : Nat) => (cK_ y p)) _ (fun (y : I) => (by_ y)) w (FnV.mk hw en_96 (fun w hw x hx => gG_ x _ _ _ _ p w (hw.mem _ m0) (SLe.ap hw (SLe.sub Hp sn)) (by have hx' : ((x : Nat) : Int) < _ := hx; omega))) (FnV.mk hw en_68 (fun w hw x hx => (em_ x) w)) (by first | omega | (simp only [List.length_cons, List.length_nil, and_true, true_and] <;> omega) | simp)) (fun p7 c8 L9 hF10 => ?_)))))))))
  refine sE rfl (nl J (W_ret (ret1 rfl (.inr rfl) rfl ?_)))
  have hE : ((bh_ ((((p).length : Nat) : Int) - 1) (fun (y : Nat) => (cK_ y p)) (fun (y : I) => (by_ y))) : (List I)) = (ad_ p) := by exact bif_f h2 rfl
  rw [← hE]
  exact ⟨_, rfl, ⟨L9, (List.sublist_append_left _ _), hF10⟩⟩

theorem cU_ (vp : Value) (p : (List I)) (w : World) (hp : Slr w elI vp p) :
    Calls Tryz.prog 35 [vp].toArray w (fun e w' => e = .returned (.int .i64 ((cN_ p).1)) ∧ Ext w w') := by
 obtain ⟨p_p, c_p, rfl⟩ := hp.form
 refine aU_ (N := 29) Tryz.func35 rfl rfl (by simp) ?_
 obtain ⟨w0, rfl⟩ : ∃ w0, w0 = w := ⟨_, rfl⟩
 have Hp := hp.old
 have hm_p := hp.max
 simp only [initF, Nat.reduceAdd]
 refine Rs fun K J => sE rfl (nl J (Sq fun K1 J1 => Rs fun K J => sE rfl (sQ (q_as (v' := .bool (ae_ p)) (aH_ en_18 rfl (fun w hw => aC_ _ p w (SLe.ap hw (SLe.sub Hp sn)))) rfl) rfl (nl J ?_))))
 rcases bt (ae_ p) with h1 | h1
 ·skip
  refine W_t h1 rfl (Rs fun K J => sE rfl (nl J (W_ret (aj_ (ret1 rfl (.inr rfl) rfl ?_)))))
  exact (by exact congrArg (fun r : W => (.int .i64 r.1 : Value)) (show _ = (cN_ p) from bif_t h1 rfl))
 ·skip
  refine W_f h1 rfl (am_ (J1 _ _ (Rs fun K J => sE rfl (sE rfl (nl J (Sq fun K2 J2 => Rs fun K J => sE rfl (sQ (q_as (v' := .int .i64 (((p).length : Nat) : Int)) (aS_ (e := elI) sl_24 rfl (SLe.sub Hp sn)) rfl) rfl (sE rfl (nl J ?_)))))))))
  refine ch_ (fun S M h => J2 S M h) [3, 4, 6, 7, 12, 13, 14, 15, 16, 17, 18, 19, 20, 21, 22, 23, 24, 25, 26, 27] (fun g M => ∃ (n : W) (last : W), (bY_ p p (wl 0) (wl 0)) = (n, last) ∧ (g 3 = .int .i64 n.1 ∧ g 4 = .int .i64 last.1) ∧ M = []) (fun K_u2 hK_u2 => ?_) ?_
  ·skip
   refine aq_ ?_
   have hmx0 : (p).length ≤ 9223372036854775807 := hm_p
   refine aL_ [3, 4, 6, 7, 12, 13, 14, 15, 16, 17, 18, 19, 20, 21, 22, 23, 24, 25, 26, 27] (fun g nn M => ∃ (i0 : Nat) (l0 : List I) (n : W) (last : W), (bY_ p l0 n last) = (bY_ p p (wl 0) (wl 0)) ∧ (p).drop i0 = l0 ∧ l0.length = nn ∧ g 12 = .int .i64 ((i0 : Nat) : Int) ∧ (g 3 = .int .i64 n.1 ∧ g 4 = .int .i64 last.1) ∧ M = []) (p).length ?start ?round
   case start => exact ⟨_, s0, 0, p, (wl 0), (wl 0), rfl, rfl, rfl, rfl, ⟨rfl, rfl⟩, rfl⟩
   case round =>
    rintro nn g M ⟨i0, l0, n, last, hT0, hr0, rfl, hgi, ⟨hg3, hg4⟩, rfl⟩
    simp only [setG, hgi, hg3, hg4]
    clear hgi hg3 hg4
    refine Rs fun K J => sE rfl (nl J (Sq fun K7 J7 => ?_))
    rcases l0 with _ | ⟨x0, l0⟩
    ·skip
     have h19 := me_ hr0
     refine W_f h19 rfl (bw_ (ap_ (ap_ (as_ (hK_u2 _ _ (by repeat first | exact .refl | refine .cons rfl ?_) ⟨_, s0, n, last, (by exact hT0.symm.trans (Eq.symm (rfl))), ⟨rfl, rfl⟩, rfl⟩)))))
    ·skip
     have h20 := lA_ hr0
     have g21 := hC_ hr0
     refine W_t h20 rfl (am_ (J7 _ _ ?_))
     obtain ⟨r27, hr27⟩ := nm ((bif ((Z.signW x0.dec).1 != 0) then (bif ((Z.signW x0.dec).1 == (W.neg last).1) then (W.add n (wl 1)) else n) else n) : W)
     obtain ⟨r28, hr28⟩ := nm ((bif ((Z.signW x0.dec).1 != 0) then (Z.signW x0.dec) else last) : W)
     refine bD_ [3, 4, 6, 7, 14, 15, 16, 17, 18, 19, 20, 21, 22, 23, 24, 25, 26] (fun g M => (g 3 = .int .i64 r27.1 ∧ g 4 = .int .i64 r28.1) ∧ M = []) (fun K9 J9 => ?_) ?_
     ·skip
      refine aq_ (Rs fun K J => sQ (q_as (v' := .pointer (some (slb (.slice p_p p.length c_p) (i0 * 18 + 0)))) (cp_ (e := elI) (l := p) (k := i0) sl_24 rfl rfl (SLe.sub Hp sn) g21.2.1) rfl) rfl (sQ (q_ldG (e := elI) (l := p) (k := i0) (o := 0) ty_38 rfl (SLe.sub Hp sn) g21.1 rfl) rfl (sN zp_38 rfl fun b29 hb29 => sS [pI x0] ty_38 rfl rfl rfl rfl rfl (.head _) rfl hb29 (nl J (Rs fun K J => sQ (qL ty_38 rfl m0 rfl) rfl (sC (.int .i64 ((Z.signW x0.dec).1)) en_32 (bK_ x0.1 x0.2) rfl rfl rfl (sE rfl (nl J (Rs fun K J => sE rfl (sE rfl (nl J ?_)))))))))))
      rcases bt ((Z.signW x0.dec).1 != 0) with h30 | h30
      ·skip
       refine W_t h30 rfl ?_
       refine bD_ [3, 20, 21, 22, 23, 24, 25] (fun g M => (g 3 = .int .i64 ((bif ((Z.signW x0.dec).1 == (W.neg last).1) then (W.add n (wl 1)) else n).1)) ∧ M = [⟨b29, 38, flat [pI x0]⟩]) (fun K10 J10 => ?_) ?_
       ·skip
        refine Rs fun K J => sE rfl (sE rfl (sV (.int .i64 ((W.neg last).1)) rfl rfl (sE rfl (nl J ?_))))
        rcases bt ((Z.signW x0.dec).1 == (W.neg last).1) with h32 | h32
        ·skip
         refine W_t h32 rfl (Rk fun K J => sE rfl (sV (.int .i64 ((W.add n (wl 1)).1)) rfl rfl ?_))
         refine sE rfl (nl J ?_)
         refine J10 _ _ (by repeat first | exact .refl | refine .cons rfl ?_) ⟨_, s0, ?s3, rfl⟩
         case s3 => exact (show (.int .i64 ((W.add n (wl 1)).1) : Value) = .int .i64 ((bif ((Z.signW x0.dec).1 == (W.neg last).1) then (W.add n (wl 1)) else n).1) by first | done | rfl | simp only [h32, cond_true, cond_false, Bool.true_and, Bool.false_and, Bool.and_true, Bool.and_false, Bool.true_or, Bool.false_or, Bool.or_true, Bool.or_false, Bool.not_true, Bool.not_false] | (simp only [h32, cond_true, cond_false, Bool.true_and, Bool.false_and, Bool.and_true, Bool.and_false, Bool.true_or, Bool.false_or, Bool.or_true, Bool.or_false, Bool.not_true, Bool.not_false]; rfl))
        ·skip
         refine W_f h32 rfl (am_ ?_)
         refine J10 _ _ (by repeat first | exact .refl | refine .cons rfl ?_) ⟨_, s0, ?s3, rfl⟩
         case s3 => exact (show (.int .i64 n.1 : Value) = .int .i64 ((bif ((Z.signW x0.dec).1 == (W.neg last).1) then (W.add n (wl 1)) else n).1) by first | done | rfl | simp only [h32, cond_true, cond_false, Bool.true_and, Bool.false_and, Bool.and_true, Bool.and_false, Bool.true_or, Bool.false_or, Bool.or_true, Bool.or_false, Bool.not_true, Bool.not_false] | (simp only [h32, cond_true, cond_false, Bool.true_and, Bool.false_and, Bool.and_true, Bool.and_false, Bool.true_or, Bool.false_or, Bool.or_true, Bool.or_false, Bool.not_true, Bool.not_false]; rfl))
       ·skip
        rintro g33 M ⟨hg3, rfl⟩
        simp only [setG, hg3]
        clear hg3
        refine Rk fun K J => sE rfl (sE rfl (nl J ?_))
        refine J9 _ _ (by repeat first | exact .refl | refine .cons rfl ?_) ⟨_, (sd (s0)), ⟨?s3, ?s4⟩, rfl⟩
        case s3 => exact (show (.int .i64 ((bif ((Z.signW x0.dec).1 == (W.neg last).1) then (W.add n (wl 1)) else n).1) : Value) = .int .i64 r27.1 by rw [hr27]; first | done | rfl | simp only [h30, cond_true, cond_false, Bool.true_and, Bool.false_and, Bool.and_true, Bool.and_false, Bool.true_or, Bool.false_or, Bool.or_true, Bool.or_false, Bool.not_true, Bool.not_false] | (simp only [h30, cond_true, cond_false, Bool.true_and, Bool.false_and, Bool.and_true, Bool.and_false, Bool.true_or, Bool.false_or, Bool.or_true, Bool.or_false, Bool.not_true, Bool.not_false]; rfl))
        case s4 => exact (show (.int .i64 ((Z.signW x0.dec).1) : Value) = .int .i64 r28.1 by rw [hr28]; first | done | rfl | simp only [h30, cond_true, cond_false, Bool.true_and, Bool.false_and, Bool.and_true, Bool.and_false, Bool.true_or, Bool.false_or, Bool.or_true, Bool.or_false, Bool.not_true, Bool.not_false] | (simp only [h30, cond_true, cond_false, Bool.true_and, Bool.false_and, Bool.and_true, Bool.and_false, Bool.true_or, Bool.false_or, Bool.or_true, Bool.or_false, Bool.not_true, Bool.not_false]; rfl))
      ·skip
       refine W_f h30 rfl (am_ ?_)
       refine J9 _ _ (by repeat first | exact .refl | refine .cons rfl ?_) ⟨_, (sd (s0)), ⟨?s3, ?s4⟩, rfl⟩
       case s3 => exact (show (.int .i64 n.1 : Value) = .int .i64 r27.1 by rw [hr27]; first | done | rfl | simp only [h30, cond_true, cond_false, Bool.true_and, Bool.false_and, Bool.and_true, Bool.and_false, Bool.true_or, Bool.false_or, Bool.or_true, Bool.or_false, Bool.not_true, Bool.not_false] | (simp only [h30, cond_true, cond_false, Bool.true_and, Bool.false_and, Bool.and_true, Bool.and_false, Bool.true_or, Bool.false_or, Bool.or_true, Bool.or_false, Bool.not_true, Bool.not_false]; rfl))
       case s4 => exact (show (.int .i64 last.1 : Value) = .int .i64 r28.1 by rw [hr28]; first | done | rfl | simp only [h30, cond_true, cond_false, Bool.true_and, Bool.false_and, Bool.and_true, Bool.and_false, Bool.true_or, Bool.false_or, Bool.or_true, Bool.or_false, Bool.not_true, Bool.not_false] | (simp only [h30, cond_true, cond_false, Bool.true_and, Bool.false_and, Bool.and_true, Bool.and_false, Bool.true_or, Bool.false_or, Bool.or_true, Bool.or_false, Bool.not_true, Bool.not_false]; rfl))
     ·skip
      rintro g34 M ⟨⟨hg3, hg4⟩, rfl⟩
      simp only [setG, hg3, hg4]
      clear hg3 hg4
      refine Rk fun K J => sV (.int .i64 ((i0 + 1 : Nat) : Int)) rfl (congrArg (Value.int .i64) (nxt g21.2.1 hmx0)) (sE rfl (nl J (⟨(by repeat first | exact .refl | refine .cons rfl ?_), _, _, s0, (Nat.lt_succ_self _), i0 + 1, l0, r27, r28, (by subst hr28; subst hr27; exact (hT0.symm.trans (Eq.symm (rfl))).symm), g21.2.2, rfl, rfl, ⟨rfl, rfl⟩, rfl⟩)))
  ·skip
   rintro g M ⟨n, last, hCu2, ⟨hg3, hg4⟩, rfl⟩
   simp only [setG, hg3, hg4]
   clear hg3 hg4
   refine Rs fun K J => sE rfl (sE rfl (nl J (W_ret (ret1 rfl (.inr rfl) rfl ?_))))
   exact (by exact congrArg (fun r : W => (.int .i64 r.1 : Value)) (show _ = (cN_ p) from bif_f h1 (trs (Eq.symm (apS hCu2)) rfl)))

theorem fm_ (vl : Value) (l : (List I)) (w : World) (hl : Slr w elI vl l) :
    Calls Tryz.prog 85 [vl].toArray w (fun e w' => e = .returned (AV [pI (av_ l)]) ∧ Ext w w') := by
 obtain ⟨p_l, c_l, rfl⟩ := hl.form
 refine aU_ (N := 17) Tryz.func85 rfl rfl (by simp) ?_
 obtain ⟨w0, rfl⟩ : ∃ w0, w0 = w := ⟨_, rfl⟩
 have Hl := hl.old
 have hm_l := hl.max
 simp only [initF, Nat.reduceAdd]
 refine Rs fun K J => sN zp_38 rfl fun b1 hb1 => nl J (Rs fun K J => sN zp_38 rfl fun b2 hb2 => nl J (Sq fun K1 J1 => Rs fun K J => sE rfl (sQ (q_as (v' := .int .i64 (((l).length : Nat) : Int)) (aS_ (e := elI) sl_22 rfl (SLe.sub Hl sn)) rfl) rfl (sE rfl (nl J ?_)))))
 refine ch_ (fun S M h => J1 S M h) [5, 8, 9, 10, 11, 12, 13, 14, 15] (fun g M => ∃ (mb2 : I), (bL_ l l I0) = mb2 ∧ (True) ∧ M = [⟨b2, 38, flat [pI mb2]⟩, ⟨b1, 38, flat [pI I0]⟩]) (fun K_u3 hK_u3 => ?_) ?_
 ·skip
  refine aq_ ?_
  have hmx0 : (l).length ≤ 9223372036854775807 := hm_l
  refine aL_ [5, 8, 9, 10, 11, 12, 13, 14, 15] (fun g nn M => ∃ (i0 : Nat) (l0 : List I) (mb2 : I), (bL_ l l0 mb2) = (bL_ l l I0) ∧ (l).drop i0 = l0 ∧ l0.length = nn ∧ g 8 = .int .i64 ((i0 : Nat) : Int) ∧ (True) ∧ M = [⟨b2, 38, flat [pI mb2]⟩, ⟨b1, 38, flat [pI I0]⟩]) (l).length ?start ?round
  case start => exact ⟨_, s0, 0, l, I0, rfl, rfl, rfl, rfl, trivial, rfl⟩
  case round =>
   rintro nn g M ⟨i0, l0, mb2, hT0, hr0, rfl, hgi, -, rfl⟩
   simp only [setG, hgi]
   clear hgi
   refine Rs fun K J => sE rfl (nl J (Sq fun K6 J6 => ?_))
   rcases l0 with _ | ⟨x0, l0⟩
   ·skip
    have h12 := me_ hr0
    refine W_f h12 rfl (bw_ (ap_ (ap_ (as_ (hK_u3 _ _ (by repeat first | exact .refl | refine .cons rfl ?_) ⟨_, s0, mb2, (by exact hT0.symm.trans (Eq.symm (rfl))), trivial, rfl⟩)))))
   ·skip
    have h13 := lA_ hr0
    have g14 := hC_ hr0
    refine W_t h13 rfl (am_ (J6 _ _ (Sq fun K7 J7 => aq_ (Rs fun K J => sQ (q_as (v' := .pointer (some (slb (.slice p_l l.length c_l) (i0 * 18 + 0)))) (cp_ (e := elI) (l := l) (k := i0) sl_22 rfl rfl (SLe.sub Hl sn) g14.2.1) rfl) rfl (sQ (q_ldG (e := elI) (l := l) (k := i0) (o := 0) ty_38 rfl (SLe.sub Hl sn) g14.1 rfl) rfl (sN zp_38 rfl fun b15 hb15 => sS [pI x0] ty_38 rfl rfl rfl rfl rfl (.head _) rfl hb15 (nl J (Rk fun K J => sQ (qL ty_38 rfl m1 rfl) rfl (sQ (qL ty_38 rfl m0 rfl) rfl (sC (AV [pI (E (Z.gcd mb2.dec x0.dec))]) ip_ (en_ mb2.1 x0.1 mb2.2 x0.2) rfl rfl rfl (sS [pI (E (Z.gcd mb2.dec x0.dec))] ty_38 rfl rfl rfl rfl rfl (.tail _ (.head _)) rfl hb2 (nl J (J7 _ _ (Rk fun K J => sV (.int .i64 ((i0 + 1 : Nat) : Int)) rfl (congrArg (Value.int .i64) (nxt g14.2.1 hmx0)) ?_))))))))))))))
    refine sE rfl (nl J (⟨(by repeat first | exact .refl | refine .cons rfl ?_), _, _, (sd (s0)), (Nat.lt_succ_self _), i0 + 1, l0, (E (Z.gcd mb2.dec x0.dec)), (by exact (hT0.symm.trans (Eq.symm (rfl))).symm), g14.2.2, rfl, rfl, trivial, rfl⟩))
 ·skip
  rintro g M ⟨mb2, hCu3, -, rfl⟩
  simp only [setG]
  refine Rs fun K J => sQ (qL ty_38 rfl m0 rfl) rfl (sS [pI mb2] ty_38 rfl rfl rfl rfl rfl (.tail _ (.head _)) rfl hb1 (nl J (W_ret (ret1 rfl (.inr rfl) (resP rfl m1 ty_38 rfl) ?_))))
  exact (by exact congrArg (fun r : I => (AV [pI r] : Value)) (show _ = (av_ l) from (by unfold av_; exact trs (Eq.symm (apS hCu3)) rfl)))

theorem fU_ (a : I) (b : I) (c0 T0 : Nat) (n : I) (w : World) (hc0 : w.heap[c0]? = some (.cells (flat [pI n]).toArray T0 (0, 0))) :
    Calls Tryz.prog 87 [AV [pI a], AV [pI b], .pointer (some ⟨c0, 0, none⟩)].toArray w (fun e w' => e = .returned (AV [pI (cf_ a b n)]) ∧ Ext w w') := by
 refine aU_ (N := 9) Tryz.func87 rfl rfl (by simp) ?_
 obtain ⟨w0, rfl⟩ : ∃ w0, w0 = w := ⟨_, rfl⟩
 simp only [initF, Nat.reduceAdd]
 refine Rs fun K J => WL_r rfl (cG_ rfl rfl (fun b1 hb1 => WL_r rfl (cG_ rfl rfl (fun b2 hb2 => sN zp_38 rfl fun b3 hb3 => nl J (Rs fun K J => sQ (qL ty_38 rfl m2 rfl) rfl (sQ (nR_ ty_38 rfl hc0 (by simp) rfl) rfl ?_))))))
 refine sC (AV [pI (E (Z.quo a.dec n.dec))]) en_88 (ca_ a.1 n.1 a.2 n.2) rfl rfl rfl (sS [pI (E (Z.quo a.dec n.dec))] ty_38 rfl rfl rfl rfl rfl (.head _) rfl hb3 (nl J (W_ret (ret1 rfl (.inr rfl) (resP rfl m0 ty_38 rfl) ?_))))
 exact (by rfl)

theorem bM_ (vp : Value) (p : (List I)) (w : World) (hp : Slr w elI vp p) (hpre : p.length ≤ 100) :
    Calls Tryz.prog 25 [vp].toArray w (fun e w' => ∃ v, e = .returned (v) ∧ Ext w w' ∧ Slo w.heap.size w' 38 elI v (ab_ p)) := by
 obtain ⟨p_p, c_p, rfl⟩ := hp.form
 refine bs_ (n := 9) (fun v => v) Tryz.func25 rfl rfl (by simp) ?_
 obtain ⟨w0, rfl⟩ : ∃ w0, w0 = w := ⟨_, rfl⟩
 have Hp := hp.old
 have hm_p := hp.max
 simp only [initF, Nat.reduceAdd]
 refine Rs fun K J => sE rfl (nl J (Rs fun K J => sE rfl (sQ (q_as (v' := AV [pI (av_ p)]) (aH_ en_85 rfl (fun w hw => fm_ _ p w (SLe.ap hw (SLe.sub Hp sn)))) rfl) rfl (sN zp_38 rfl fun b1 hb1 => sS [pI (av_ p)] ty_38 rfl rfl rfl rfl rfl (.head _) rfl hb1 (nl J (Rs fun K J => sE rfl (sQ (hP_ rfl rfl) rfl (WL_r rfl (an_ (E := 38) (e := elI) (l := (bl_ p ([] : List I) (fun (y : I) (z : I) => (cf_ y z (av_ p))))) (fun v => v) en_86 rfl (fun w hw => eo_ _ p _ ([] : List I) _ (fun (y : I) (z : I) => (cf_ y z (av_ p))) w (SLe.ap hw (SLe.sub Hp sn)) (SLe.ap hw (SLfe.sle SLfe.nil)) (FnV.mk hw en_87 (fun w hw x hx => fU_ x.1 x.2 _ _ (av_ p) w (hw.mem _ m0))) (by first | omega | (simp only [List.length_cons, List.length_nil, and_true, true_and] <;> omega) | simp)) (fun p2 c3 L4 hF5 => ?_))))))))))
 refine sE rfl (nl J (W_ret (ret1 rfl (.inr rfl) rfl ?_)))
 have hE : ((bl_ p ([] : List I) (fun (y : I) (z : I) => (cf_ y z (av_ p)))) : (List I)) = (ab_ p) := by exact rfl
 rw [← hE]
 exact ⟨_, rfl, ⟨L4, (List.sublist_append_left _ _), hF5⟩⟩
end Go.Proofs.YtjdfogfmeibkgaaGreat

