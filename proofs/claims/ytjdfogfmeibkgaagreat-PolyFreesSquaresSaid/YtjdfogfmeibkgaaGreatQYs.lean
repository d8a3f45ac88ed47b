/- Walks: what these functions return. -/
import Derived.Test.YtjdfogfmeibkgaaGreatQGE
import Derived.Test.YtjdfogfmeibkgaaGreatQFp
import Derived.Test.YtjdfogfmeibkgaaGreatQWi
import Derived.Test.YtjdfogfmeibkgaaGreatQWc
import Derived.Test.YtjdfogfmeibkgaaGreatQWe
import Derived.Test.YtjdfogfmeibkgaaGreatQWh
import Derived.Test.YtjdfogfmeibkgaaGreatQGf
import Derived.Test.YtjdfogfmeibkgaaGreatQYb
import Derived.Test.YtjdfogfmeibkgaaGreatQYc
import Derived.Test.YtjdfogfmeibkgaaGreatQYf
namespace Go.Proofs.YtjdfogfmeibkgaaGreat
open Go.Kn Go.Num
set_option linter.unusedVariables false
set_option linter.unusedSimpArgs false
set_option maxRecDepth 20000
set_option maxHeartbeats 8000000
theorem ga_ (vp : Value) (p : (List I)) (a : Rt) (b : Rt) (w : World) (hp : Slr w elI vp p) (hpre : p.length ≤ 100) :
    Calls Tryz.prog 112 [vp, AV [pI a.n, pI a.d], AV [pI b.n, pI b.d]].toArray w (fun e w' => ∃ v, e = .returned (v) ∧ Ext w w' ∧ Slo w.heap.size w' 38 elI v (bC_ p a b)) := by
 obtain ⟨p_p, c_p, rfl⟩ := hp.form
 refine bs_ (n := 68) (fun v => v) Tryz.func112 rfl rfl (by simp) ?_
 obtain ⟨w0, rfl⟩ : ∃ w0, w0 = w := ⟨_, rfl⟩
 have Hp := hp.old
 have hm_p := hp.max
 simp only [initF, Nat.reduceAdd]
 refine Rs fun K J => WL_r rfl (cG_ rfl rfl (fun b1 hb1 => WL_r rfl (cG_ rfl rfl (fun b2 hb2 => sE rfl (nl J (Sq fun K1 J1 => ?_))))))
 refine bD_ [11, 12, 13, 14, 15, 16, 17, 18, 19] (fun g M => (g 19 = .bool ((ae_ p) || (!(b7_ [a, b])))) ∧ M = [⟨b2, 44, flat [pI b.n, pI b.d]⟩, ⟨b1, 44, flat [pI a.n, pI a.d]⟩]) (fun K2 J2 => ?_) ?_
 ·skip
  refine Rk fun K J => sE rfl (sQ (q_as (v' := .bool (ae_ p)) (aH_ en_18 rfl (fun w hw => aC_ _ p w (SLe.ap hw (SLe.sub Hp sn)))) rfl) rfl ?_)
  rcases bt (ae_ p) with h5 | h5
  ·skip
   refine sB h5 rfl (WL_n rfl (WL_n rfl (WL_n rfl (WL_n rfl (WL_n rfl (sE rfl (nl J ?_)))))))
   refine J2 _ _ (by repeat first | exact .refl | refine .cons rfl ?_) ⟨_, s0, ?s19, rfl⟩
   case s19 => exact congrArg Value.bool (or_t h5)
  ·skip
   refine sB h5 rfl (sQ (qL ty_44 rfl m1 rfl) rfl (sQ (qL ty_44 rfl m0 rfl) rfl (WL_r rfl (az_ [[pI a.n, pI a.d], [pI b.n, pI b.d]] [pI a.n, pI a.d, pI b.n, pI b.d] mq_ z_44 sz_44 rfl (by decide) rfl rfl ⟨rfl, rfl, rfl, rfl, rfl, rfl, trivial⟩ rfl (fun b6 hb6 => sQ (q_as (v' := .bool (b7_ [a, b])) (aH_ l4_ rfl (fun w hw => fa_ _ [a, b] w (SLe.ap hw (SLe.lit (e := elRt) (l := [a, b]) m0 rfl (Nat.le_of_ble_eq_true rfl) rfl)))) rfl) rfl (sE rfl (sE rfl (nl J ?_))))))))
   refine J2 _ _ (by repeat first | exact .refl | refine .cons rfl ?_) ⟨_, (sd (s0)), ?s19, rfl⟩
   case s19 => exact congrArg Value.bool (or_f h5 rfl)
 ·skip
  rintro g7 M ⟨hg19, rfl⟩
  simp only [setG, hg19]
  clear hg19
  rcases bt ((ae_ p) || (!(b7_ [a, b]))) with h8 | h8
  ·skip
   refine W_t h8 rfl (Rs fun K J => WL_r rfl (an_ (E := 38) (e := elI) (l := F_poly_bad) (fun v => v) en_76 rfl (fun w hw => bO_  w) (fun p9 c10 L11 hF12 => sE rfl (nl J (W_ret (aj_ (ret1 rfl (.inr rfl) rfl ?_)))))))
   have hE : (F_poly_bad : (List I)) = (bC_ p a b) := by exact bif_t h8 rfl
   rw [← hE]
   exact ⟨_, rfl, ⟨L11, (List.sublist_append_left _ _), hF12⟩⟩
  ·skip
   refine W_f h8 rfl (am_ (J1 _ _ (ds s0 [0,4,8,12,16,20,24,28,32,36,41,45,48] [] mix (by kernel_rfl) (fun K J => pQ rfl (qF eW_ rfl rfl) (pQ rfl (qL ty_38 rfl m1 rfl) (pQ rfl (qF dy_ rfl rfl) (pQ rfl (qL ty_38 rfl m0 rfl) (pC (AV [pI (E (Z.mul a.n.dec b.d.dec))]) en_77 (aK_ a.n.1 b.d.1 a.n.2 b.d.2) rfl rfl rfl (pQ rfl (qF eW_ rfl rfl) (pQ rfl (qL ty_38 rfl m0 rfl) (pQ rfl (qF dy_ rfl rfl) (pQ rfl (qL ty_38 rfl m1 rfl) (pC (AV [pI (E (Z.mul b.n.dec a.d.dec))]) en_77 (aK_ b.n.1 a.d.1 b.n.2 a.d.2) rfl rfl rfl (PL_o rfl rfl (az_ [[pI (E (Z.mul a.n.dec b.d.dec))], [pI (E (Z.mul b.n.dec a.d.dec))]] [pI (E (Z.mul a.n.dec b.d.dec)), pI (E (Z.mul b.n.dec a.d.dec))] us_22 z_38 sz_38 rfl (by decide) rfl rfl ⟨rfl, rfl, rfl, rfl, rfl, rfl, trivial⟩ rfl (fun b13 hb13 => ⟨(fun _ => sd s0), (sd s0), PL_o rfl rfl (an_ (E := 38) (e := elI) (l := (ak_ [(E (Z.mul a.n.dec b.d.dec)), (E (Z.mul b.n.dec a.d.dec))])) (fun v => v) en_15 rfl (fun w hw => dh_ _ [(E (Z.mul a.n.dec b.d.dec)), (E (Z.mul b.n.dec a.d.dec))] w (SLe.ap hw (SLe.lit (e := elI) (l := [(E (Z.mul a.n.dec b.d.dec)), (E (Z.mul b.n.dec a.d.dec))]) m0 rfl (Nat.le_of_ble_eq_true rfl) rfl)) (by first | omega | (simp only [List.length_cons, List.length_nil, and_true, true_and] <;> omega) | simp)) (fun p14 c15 L16 hF17 => ⟨(fun _ => sR s0), (sR (sd s0)), ?_⟩))⟩))))))))))))))))
   have hb18 := (cw_ [(E (Z.mul a.n.dec b.d.dec)), (E (Z.mul b.n.dec a.d.dec))])
   refine pE rfl (fl J (Rs fun K J => sQ (qF dy_ rfl rfl) rfl (sQ (qL ty_38 rfl (List.mem_append_right _ (List.mem_cons_of_mem _ (List.mem_cons_of_mem _ (List.mem_cons_self)))) rfl) rfl (sQ (qF dy_ rfl rfl) rfl (sQ (qL ty_38 rfl (List.mem_append_right _ (List.mem_cons_of_mem _ (List.mem_cons_self))) rfl) rfl (sC (AV [pI (E (Z.mul a.d.dec b.d.dec))]) en_77 (aK_ a.d.1 b.d.1 a.d.2 b.d.2) rfl rfl rfl (sE rfl (sQ (q_as (v' := .int .i64 (((p).length : Nat) : Int)) (aS_ (e := elI) sl_24 rfl (SLe.sub Hp sn)) rfl) rfl (WL_r rfl (an_ (E := 38) (e := elI) (l := (aB_ (E (Z.mul a.d.dec b.d.dec)) (((p).length : Nat) : Int))) (fun v => v) oP_ rfl (fun w hw => fF_ (E (Z.mul a.d.dec b.d.dec)) (((p).length : Nat) : Int) w (by first | omega | (simp only [List.length_cons, List.length_nil, and_true, true_and] <;> omega) | simp)) (fun p19 c20 L21 hF22 => ?_)))))))))))
   have hb23 := (fI_ (E (Z.mul a.d.dec b.d.dec)) (((p).length : Nat) : Int))
   refine sE rfl (nl J (Rs fun K J => sE rfl (nl J (Sq fun K3 J3 => Rs fun K J => sE rfl (sQ (q_as (v' := .int .i64 (((p).length : Nat) : Int)) (aS_ (e := elI) sl_24 rfl (SLe.sub Hp sn)) rfl) rfl (sV (.int .i64 ((((p).length : Nat) : Int) - 1)) rfl (congrArg (Value.int .i64) (wx (by omega) (by omega) (by omega))) (sE rfl (nl J ?_))))))))
   refine ch_ (fun S M h => J3 S M h) [9, 10, 44, 45, 46, 47, 48, 49, 50, 51, 52, 53, 54, 55, 56, 57, 58, 59, 60, 61, 62, 63, 64, 65, 66] (fun g M => ∃ (r : List I) (i : Int) (p_r : Option Addr) (c_r : Nat) (L_r : List Blk), (bA_ p a b ((p.length + 1)) ([] : List I) ((((p).length : Nat) : Int) - 1)) = (r, i) ∧ (r.length ≤ 25) ∧ (g 9 = .slice p_r r.length c_r ∧ g 10 = .int .i64 i ∧ OwnG w0 38 elI (.slice p_r r.length c_r) r L_r) ∧ M = (L_r ++ (L21 ++ (L16 ++ (⟨b13, 38, flat [pI (E (Z.mul a.n.dec b.d.dec)), pI (E (Z.mul b.n.dec a.d.dec))]⟩ :: (⟨b2, 44, flat [pI b.n, pI b.d]⟩ :: (⟨b1, 44, flat [pI a.n, pI a.d]⟩ :: []))))))) (fun K_u24 hK_u24 => ?_) ?_
   ·skip
    refine aq_ ?_
    refine aL_ [9, 10, 44, 45, 46, 47, 48, 49, 50, 51, 52, 53, 54, 55, 56, 57, 58, 59, 60, 61, 62, 63, 64, 65, 66] (fun g nn M => ∃ (r : List I) (i : Int) (p_r : Option Addr) (c_r : Nat) (L_r : List Blk), (bA_ p a b nn r i) = (bA_ p a b ((p.length + 1)) ([] : List I) ((((p).length : Nat) : Int) - 1)) ∧ (i + 1).toNat < nn ∧ ((i < (p.length : Int) ∧ -1 ≤ i) ∧ r.length ≤ 25) ∧ (g 9 = .slice p_r r.length c_r ∧ g 10 = .int .i64 i ∧ OwnG w0 38 elI (.slice p_r r.length c_r) r L_r) ∧ M = (L_r ++ (L21 ++ (L16 ++ (⟨b13, 38, flat [pI (E (Z.mul a.n.dec b.d.dec)), pI (E (Z.mul b.n.dec a.d.dec))]⟩ :: (⟨b2, 44, flat [pI b.n, pI b.d]⟩ :: (⟨b1, 44, flat [pI a.n, pI a.d]⟩ :: []))))))) ((p.length + 1)) ?start ?round
    case start => exact ⟨_, s0, ([] : List I), ((((p).length : Nat) : Int) - 1), none, 0, [], rfl, (by first | omega | (simp only [List.length_append, List.length_cons, List.length_nil, List.length_set, List.length_take, and_true, true_and, or_true, true_or, Nat.zero_add] <;> omega)), (by first | omega | (simp only [List.length_append, List.length_cons, List.length_nil, List.length_set, List.length_take, and_true, true_and, or_true, true_or, Nat.zero_add] <;> omega)), ⟨rfl, rfl, OwnG.nil⟩, rfl⟩
    case round =>
     rintro nn g M ⟨r, i, p_r, c_r, L_r, hT0, hq0, hinv0, ⟨hg9, hg10, hO_r⟩, rfl⟩
     obtain ⟨k0, rfl⟩ : ∃ m, nn = m + 1 := ⟨nn - 1, by omega⟩
     simp only [setG, hg9, hg10]
     clear hg9 hg10
     have hm_r := OwnG.max hO_r
     refine Sq fun K6 J6 => Rs fun K J => sE rfl (sE rfl (nl J ?_))
     rcases bt (decide (0 ≤ i)) with h44 | h44
     ·skip
      have ph44 := of_decide_eq_true h44
      refine W_t h44 rfl (am_ (J6 _ _ (Sq fun K7 J7 => aq_ (dr s0 [0,4,12,16,20,24,28,32,36,40,44,48,52,56,9,60,65,69,73,76] [] mix (by kernel_rfl) (fun K J => pE rfl (pE rfl (pE rfl (pE rfl (pQ rfl (q_as (v' := .pointer (some (slb (.slice p_p p.length c_p) (((i).toNat) * 18 + 0)))) (c4_ (e := elI) (l := p) (k := (i).toNat) sl_24 rfl rfl (by omega) (SLe.sub Hp sn) (by first | omega | (simp only [List.length_set, List.length_append, List.length_cons, List.length_nil]; omega))) rfl) ?_)))))))))
      refine pQ rfl (q_ldG (e := elI) (l := p) (k := (i).toNat) (o := 0) ty_38 rfl (SLe.sub Hp sn) (aA_ I0 (by first | omega | (simp only [List.length_set, List.length_append, List.length_cons, List.length_nil]; omega))) rfl) ?_
      refine pE rfl (pE rfl (pQ rfl (q_as (v' := .int .i64 (((p).length : Nat) : Int)) (aS_ (e := elI) sl_24 rfl (SLe.sub Hp sn)) rfl) (pV (.int .i64 ((((p).length : Nat) : Int) - 1)) rfl (congrArg (Value.int .i64) (wx (by omega) (by omega) (by omega))) (pE rfl (pV (.int .i64 (((((p).length : Nat) : Int) - 1) - i)) rfl (congrArg (Value.int .i64) (wx (by omega) (by omega) (by omega))) (pQ rfl (q_as (v' := .pointer (some (slb (.slice p19 (aB_ (E (Z.mul a.d.dec b.d.dec)) (((p).length : Nat) : Int)).length c20) ((((p).length - 1) - (i).toNat) * 18 + 0)))) (c4_ (e := elI) (l := (aB_ (E (Z.mul a.d.dec b.d.dec)) (((p).length : Nat) : Int))) (k := (((p).length - 1) - (i).toNat)) sl_22 rfl rfl (by omega) (SLfe.sle (OwnG.slfe hF22 (sR (List.sublist_append_left _ _)))) (by first | omega | (simp only [List.length_set, List.length_append, List.length_cons, List.length_nil]; omega))) rfl) ?_))))))
      refine pQ rfl (q_ldG (e := elI) (l := (aB_ (E (Z.mul a.d.dec b.d.dec)) (((p).length : Nat) : Int))) (k := (((p).length - 1) - (i).toNat)) (o := 0) ty_38 rfl (SLfe.sle (OwnG.slfe hF22 (sR (List.sublist_append_left _ _)))) (aA_ I0 (by first | omega | (simp only [List.length_set, List.length_append, List.length_cons, List.length_nil]; omega))) rfl) ?_
      refine PL_o rfl rfl (an_ (E := 38) (e := elI) (l := (aa_ r (ak_ [(E (Z.mul a.n.dec b.d.dec)), (E (Z.mul b.n.dec a.d.dec))]))) (fun v => v) en_31 rfl (fun w hw => cA_ _ r _ (ak_ [(E (Z.mul a.n.dec b.d.dec)), (E (Z.mul b.n.dec a.d.dec))]) w (SLe.ap hw (SLfe.sle (OwnG.slfe hO_r (List.sublist_append_left _ _)))) (SLe.ap hw (SLfe.sle (OwnG.slfe hF17 (sR (sR (List.sublist_append_left _ _)))))) (by first | omega | (simp only [List.length_cons, List.length_nil, and_true, true_and] <;> omega) | simp)) (fun p45 c46 L47 hF48 => ⟨(fun _ => sR s0), (sR s0), ?_⟩))
      have hb49 := (cy_ r (ak_ [(E (Z.mul a.n.dec b.d.dec)), (E (Z.mul b.n.dec a.d.dec))]))
      have hr50 := (cx_ r (ak_ [(E (Z.mul a.n.dec b.d.dec)), (E (Z.mul b.n.dec a.d.dec))]))
      obtain ⟨r51, hr51⟩ := nm ((E (Z.mul (p.getD ((i).toNat) I0).dec ((aB_ (E (Z.mul a.d.dec b.d.dec)) (((p).length : Nat) : Int)).getD (((p).length - 1) - (i).toNat) I0).dec)) : I)
      refine pC (AV [pI r51]) en_77 (aK_ (p.getD ((i).toNat) I0).1 ((aB_ (E (Z.mul a.d.dec b.d.dec)) (((p).length : Nat) : Int)).getD (((p).length - 1) - (i).toNat) I0).1 (p.getD ((i).toNat) I0).2 ((aB_ (E (Z.mul a.d.dec b.d.dec)) (((p).length : Nat) : Int)).getD (((p).length - 1) - (i).toNat) I0).2) rfl rfl (by rw [hr51]; first | done | rfl) (PL_o rfl rfl (az_ [[pI r51]] [pI r51] us_22 z_38 sz_38 rfl (by decide) rfl rfl ⟨rfl, rfl, rfl, trivial⟩ rfl (fun b52 hb52 => ⟨(fun _ => sd s0), (sd (sR s0)), PL_o rfl rfl (an_ (E := 38) (e := elI) (l := (ak_ [r51])) (fun v => v) en_15 rfl (fun w hw => dh_ _ [r51] w (SLe.ap hw (SLe.lit (e := elI) (l := [r51]) m0 rfl (Nat.le_of_ble_eq_true rfl) rfl)) (by first | omega | (simp only [List.length_cons, List.length_nil, and_true, true_and] <;> omega) | simp)) (fun p53 c54 L55 hF56 => ⟨(fun _ => sR s0), (sR (sd (sR s0))), ?_⟩))⟩)))
      have hb57 := (cw_ [r51])
      refine PL_o rfl rfl (an_ (E := 38) (e := elI) (l := (dA_ (aa_ r (ak_ [(E (Z.mul a.n.dec b.d.dec)), (E (Z.mul b.n.dec a.d.dec))])) (ak_ [r51]))) (fun v => v) en_42 rfl (fun w hw => jh_ _ (aa_ r (ak_ [(E (Z.mul a.n.dec b.d.dec)), (E (Z.mul b.n.dec a.d.dec))])) _ (ak_ [r51]) w (SLe.ap hw (SLfe.sle (OwnG.slfe hF48 (sR (sd (List.sublist_append_left _ _)))))) (SLe.ap hw (SLfe.sle (OwnG.slfe hF56 (List.sublist_append_left _ _)))) (by first | omega | (simp only [List.length_cons, List.length_nil, and_true, true_and] <;> omega) | simp)) (fun p58 c59 L60 hF61 => ⟨(fun _ => sR s0), (sR (sR (sd (sR s0)))), ?_⟩))
      have hb62 := (gX_ (aa_ r (ak_ [(E (Z.mul a.n.dec b.d.dec)), (E (Z.mul b.n.dec a.d.dec))])) (ak_ [r51]))
      refine pE rfl (fl J (J7 _ _ (Rk fun K J => sE rfl (sV (.int .i64 (i - 1)) rfl (congrArg (Value.int .i64) (wx (by omega) (by omega) (by omega))) (sE rfl (nl J (⟨(by repeat first | exact .refl | refine .cons rfl ?_), _, _, (sA (sR (sd (sR (sR (s0)))))), (Nat.lt_succ_self _), (dA_ (aa_ r (ak_ [(E (Z.mul a.n.dec b.d.dec)), (E (Z.mul b.n.dec a.d.dec))])) (ak_ [r51])), (i - 1), p58, c59, L60, (by subst hr51; exact (hT0.symm.trans (Eq.symm (bif_t h44 rfl))).symm), (Nat.lt_of_lt_of_le (by first | omega | (simp only [List.length_append, List.length_cons, List.length_nil, List.length_set, List.length_take, and_true, true_and, or_true, true_or, Nat.zero_add] <;> omega)) (Nat.le_of_lt_succ hq0)), (by first | omega | (simp only [List.length_append, List.length_cons, List.length_nil, List.length_set, List.length_take, and_true, true_and, or_true, true_or, Nat.zero_add] <;> omega)), ⟨rfl, rfl, hF61⟩, rfl⟩)))))))
     ·skip
      have ph44 := of_decide_eq_false h44
      refine W_f h44 rfl (bw_ (ap_ (ap_ (as_ (hK_u24 _ _ (by repeat first | exact .refl | refine .cons rfl ?_) ⟨_, s0, r, i, p_r, c_r, L_r, (by exact hT0.symm.trans (Eq.symm (bif_f h44 rfl))), (by first | omega | (simp only [List.length_append, List.length_cons, List.length_nil, List.length_set, List.length_take, and_true, true_and, or_true, true_or, Nat.zero_add] <;> omega)), ⟨rfl, rfl, hO_r⟩, rfl⟩)))))
   ·skip
    rintro g M ⟨r, i, p_r, c_r, L_r, hCu24, hPu24, ⟨hg9, hg10, hO_r⟩, rfl⟩
    simp only [setG, hg9, hg10]
    clear hg9 hg10
    have hm_r := OwnG.max hO_r
    refine Rs fun K J => sE rfl (sE rfl (nl J (W_ret (ret1 rfl (.inr rfl) rfl ?_))))
    have hE : (r : (List I)) = (bC_ p a b) := by exact bif_f h8 (trs (Eq.symm (apS hCu24)) rfl)
    rw [← hE]
    exact ⟨_, rfl, ⟨L_r, (List.sublist_append_left _ _), hO_r⟩⟩

theorem cZ_ (vp : Value) (p : (List I)) (a : Rt) (b : Rt) (w : World) (hp : Slr w elI vp p) (hpre : p.length ≤ 100) :
    Calls Tryz.prog 55 [vp, AV [pI a.n, pI a.d], AV [pI b.n, pI b.d]].toArray w (fun e w' => ∃ v, e = .returned (v) ∧ Ext w w' ∧ Slo w.heap.size w' 38 elI v (bi_ p a b)) := by
 obtain ⟨p_p, c_p, rfl⟩ := hp.form
 refine bs_ (n := 12) (fun v => v) Tryz.func55 rfl rfl (by simp) ?_
 obtain ⟨w0, rfl⟩ : ∃ w0, w0 = w := ⟨_, rfl⟩
 have Hp := hp.old
 have hm_p := hp.max
 simp only [initF, Nat.reduceAdd]
 refine Rs fun K J => WL_r rfl (cG_ rfl rfl (fun b1 hb1 => WL_r rfl (cG_ rfl rfl (fun b2 hb2 => sE rfl (nl J (Rs fun K J => sE rfl (sQ (qL ty_44 rfl m1 rfl) rfl (sQ (qL ty_44 rfl m0 rfl) rfl (WL_r rfl (an_ (E := 38) (e := elI) (l := (bC_ p a b)) (fun v => v) qk_ rfl (fun w hw => ga_ _ p a b w (SLe.ap hw (SLe.sub Hp sn)) (by first | omega | (simp only [List.length_cons, List.length_nil, and_true, true_and] <;> omega) | simp)) (fun p3 c4 L5 hF6 => ?_)))))))))))
 have hb7 := (f2_ p a b)
 refine WL_r rfl (an_ (E := 38) (e := elI) (l := (ab_ (bC_ p a b))) (fun v => v) en_25 rfl (fun w hw => bM_ _ (bC_ p a b) w (SLe.ap hw (SLfe.sle (OwnG.slfe hF6 (List.sublist_append_left _ _)))) (by first | omega | (simp only [List.length_cons, List.length_nil, and_true, true_and] <;> omega) | simp)) (fun p8 c9 L10 hF11 => ?_))
 have hb12 := (ay_ (bC_ p a b))
 refine sE rfl (nl J (W_ret (ret1 rfl (.inr rfl) rfl ?_)))
 have hE : ((ab_ (bC_ p a b)) : (List I)) = (bi_ p a b) := by exact rfl
 rw [← hE]
 exact ⟨_, rfl, ⟨L10, (List.sublist_append_left _ _), hF11⟩⟩

theorem eO_ (vp : Value) (p : (List I)) (a : Rt) (b : Rt) (w : World) (hp : Slr w elI vp p) (hpre : p.length ≤ 100) :
    Calls Tryz.prog 59 [vp, AV [pI a.n, pI a.d], AV [pI b.n, pI b.d]].toArray w (fun e w' => ∃ v, e = .returned (.tuple #[v, .bool ((aW_ p a b).2)]) ∧ Ext w w' ∧ Slo w.heap.size w' 38 elI v (aW_ p a b).1) := by
 obtain ⟨p_p, c_p, rfl⟩ := hp.form
 refine bs_ (n := 85) (fun v => .tuple #[v, .bool ((aW_ p a b).2)]) Tryz.func59 rfl rfl (by simp) ?_
 obtain ⟨w0, rfl⟩ : ∃ w0, w0 = w := ⟨_, rfl⟩
 have Hp := hp.old
 have hm_p := hp.max
 simp only [initF, Nat.reduceAdd]
 refine Rs fun K J => WL_r rfl (cG_ rfl rfl (fun b1 hb1 => WL_r rfl (cG_ rfl rfl (fun b2 hb2 => sE rfl (sE rfl (nl J (Sq fun K1 J1 => ?_)))))))
 refine bD_ [16, 17, 18, 19, 20, 21, 22, 23, 24] (fun g M => (g 24 = .bool ((ae_ p) || (!(b7_ [a, b])))) ∧ M = [⟨b2, 44, flat [pI b.n, pI b.d]⟩, ⟨b1, 44, flat [pI a.n, pI a.d]⟩]) (fun K2 J2 => ?_) ?_
 ·skip
  refine Rk fun K J => sE rfl (sQ (q_as (v' := .bool (ae_ p)) (aH_ en_18 rfl (fun w hw => aC_ _ p w (SLe.ap hw (SLe.sub Hp sn)))) rfl) rfl ?_)
  rcases bt (ae_ p) with h5 | h5
  ·skip
   refine sB h5 rfl (WL_n rfl (WL_n rfl (WL_n rfl (WL_n rfl (WL_n rfl (sE rfl (nl J ?_)))))))
   refine J2 _ _ (by repeat first | exact .refl | refine .cons rfl ?_) ⟨_, s0, ?s24, rfl⟩
   case s24 => exact congrArg Value.bool (or_t h5)
  ·skip
   refine sB h5 rfl (sQ (qL ty_44 rfl m1 rfl) rfl (sQ (qL ty_44 rfl m0 rfl) rfl (WL_r rfl (az_ [[pI a.n, pI a.d], [pI b.n, pI b.d]] [pI a.n, pI a.d, pI b.n, pI b.d] mq_ z_44 sz_44 rfl (by decide) rfl rfl ⟨rfl, rfl, rfl, rfl, rfl, rfl, trivial⟩ rfl (fun b6 hb6 => sQ (q_as (v' := .bool (b7_ [a, b])) (aH_ l4_ rfl (fun w hw => fa_ _ [a, b] w (SLe.ap hw (SLe.lit (e := elRt) (l := [a, b]) m0 rfl (Nat.le_of_ble_eq_true rfl) rfl)))) rfl) rfl (sE rfl (sE rfl (nl J ?_))))))))
   refine J2 _ _ (by repeat first | exact .refl | refine .cons rfl ?_) ⟨_, (sd (s0)), ?s24, rfl⟩
   case s24 => exact congrArg Value.bool (or_f h5 rfl)
 ·skip
  rintro g7 M ⟨hg24, rfl⟩
  simp only [setG, hg24]
  clear hg24
  rcases bt ((ae_ p) || (!(b7_ [a, b]))) with h8 | h8
  ·skip
   refine W_t h8 rfl (Rs fun K J => sE rfl (sE rfl (nl J (W_ret (aj_ (ret2 rfl (.inr rfl) rfl rfl ?_))))))
   have hE : ((([] : List I), false) : (List I) × Bool) = (aW_ p a b) := by exact bif_t h8 rfl
   rw [← hE]
   exact ⟨_, rfl, ⟨[], sn, OwnG.nil⟩⟩
  ·skip
   refine W_f h8 rfl (am_ (J1 _ _ (ds s0 [0,4,8,12,16,21,24] [] mix (by kernel_rfl) (fun K J => pE rfl (pQ rfl (qL ty_44 rfl m1 rfl) (pQ rfl (qL ty_44 rfl m0 rfl) (pQ rfl (qL ty_44 rfl m1 rfl) (pQ rfl (q_ret en_60 (iJ_ b a) rfl) (PL_o rfl rfl (an_ (E := 38) (e := elI) (l := (bi_ p a (bT_ b a))) (fun v => v) en_55 rfl (fun w hw => cZ_ _ p a (bT_ b a) w (SLe.ap hw (SLe.sub Hp sn)) (by first | omega | (simp only [List.length_cons, List.length_nil, and_true, true_and] <;> omega) | simp)) (fun p9 c10 L11 hF12 => ⟨(fun _ => sR s0), (sR s0), ?_⟩)))))))))))
   have hb13 := (c0_ p a (bT_ b a))
   refine pE rfl (fl J (Sq fun K3 J3 => Rs fun K J => sE rfl (sQ (q_as (v' := .bool (ae_ (bi_ p a (bT_ b a)))) (aH_ en_18 rfl (fun w hw => aC_ _ (bi_ p a (bT_ b a)) w (SLe.ap hw (SLfe.sle (OwnG.slfe hF12 (List.sublist_append_left _ _)))))) rfl) rfl (nl J ?_))))
   rcases bt (ae_ (bi_ p a (bT_ b a))) with h14 | h14
   ·skip
    refine W_t h14 rfl (Rs fun K J => sE rfl (sE rfl (nl J (W_ret (aj_ (ret2 rfl (.inr rfl) rfl rfl ?_))))))
    have hE : ((([] : List I), false) : (List I) × Bool) = (aW_ p a b) := by exact bif_f h8 (bif_t h14 rfl)
    rw [← hE]
    exact ⟨_, rfl, ⟨[], sn, OwnG.nil⟩⟩
   ·skip
    refine W_f h14 rfl (am_ (J3 _ _ (Rs fun K J => sE rfl (nl J (Sq fun K4 J4 => Rs fun K J => sE rfl (sQ (q_as (v' := .int .i64 (((p).length : Nat) : Int)) (aS_ (e := elI) sl_24 rfl (SLe.sub Hp sn)) rfl) rfl (sE rfl (nl J ?_))))))))
    refine ch_ (fun S M h => J4 S M h) [6, 7, 9, 10, 11, 12, 13, 35, 36, 37, 38, 39, 40, 41, 42, 43, 44, 45, 46, 47, 48, 49, 50, 51, 52, 53, 54, 55, 56, 57, 58, 59, 60, 61, 62, 63] (fun g M => ∃ (out : List I) (i : Nat) (p_out : Option Addr) (c_out : Nat) (L_out : List Blk), (b4_ p a b ((p.length + 1)) ([] : List I) 0) = .inl (out, i) ∧ (out.length ≤ 200) ∧ (g 9 = .slice p_out out.length c_out ∧ g 35 = .int .i64 ((i : Nat) : Int) ∧ OwnG w0 38 elI (.slice p_out out.length c_out) out L_out) ∧ M = (L_out ++ (L11 ++ (⟨b2, 44, flat [pI b.n, pI b.d]⟩ :: (⟨b1, 44, flat [pI a.n, pI a.d]⟩ :: []))))) (fun K_u15 hK_u15 => ?_) ?_
    ·skip
     refine aq_ ?_
     refine aL_ [6, 7, 9, 10, 11, 12, 13, 35, 36, 37, 38, 39, 40, 41, 42, 43, 44, 45, 46, 47, 48, 49, 50, 51, 52, 53, 54, 55, 56, 57, 58, 59, 60, 61, 62, 63] (fun g nn M => ∃ (out : List I) (i : Nat) (p_out : Option Addr) (c_out : Nat) (L_out : List Blk), (b4_ p a b nn out i) = (b4_ p a b ((p.length + 1)) ([] : List I) 0) ∧ p.length - i < nn ∧ (i ≤ p.length ∧ out.length = i) ∧ (g 9 = .slice p_out out.length c_out ∧ g 35 = .int .i64 ((i : Nat) : Int) ∧ OwnG w0 38 elI (.slice p_out out.length c_out) out L_out) ∧ M = (L_out ++ (L11 ++ (⟨b2, 44, flat [pI b.n, pI b.d]⟩ :: (⟨b1, 44, flat [pI a.n, pI a.d]⟩ :: []))))) ((p.length + 1)) ?start ?round
     case start => exact ⟨_, s0, ([] : List I), 0, none, 0, [], rfl, (by first | omega | (simp only [List.length_append, List.length_cons, List.length_nil, List.length_set, List.length_take, and_true, true_and, or_true, true_or, Nat.zero_add] <;> omega)), (by first | omega | (simp only [List.length_append, List.length_cons, List.length_nil, List.length_set, List.length_take, and_true, true_and, or_true, true_or, Nat.zero_add] <;> omega)), ⟨rfl, rfl, OwnG.nil⟩, rfl⟩
     case round =>
      rintro nn g M ⟨out, i, p_out, c_out, L_out, hT0, hq0, hinv0, ⟨hg9, hg35, hO_out⟩, rfl⟩
      obtain ⟨k0, rfl⟩ : ∃ m, nn = m + 1 := ⟨nn - 1, by omega⟩
      simp only [setG, hg9, hg35]
      clear hg9 hg35
      have hm_out := OwnG.max hO_out
      refine Rs fun K J => sE rfl (nl J (Sq fun K25 J25 => ?_))
      rcases bt (decide (((i : Nat) : Int) < (((p).length : Nat) : Int))) with h62 | h62
      ·skip
       have ph62 := of_decide_eq_true h62
       refine W_t h62 rfl (am_ (J25 _ _ (Sq fun K26 J26 => aq_ (Rs fun K J => sE rfl (sE rfl (nl J (Rs fun K J => sN zp_38 rfl fun b63 hb63 => nl J (Sq fun K27 J27 => Rs fun K J => sE rfl (sQ (q_as (v' := .int .i64 (((p).length : Nat) : Int)) (aS_ (e := elI) sl_24 rfl (SLe.sub Hp sn)) rfl) rfl (sV (.int .i64 ((((p).length : Nat) : Int) - 1)) rfl (congrArg (Value.int .i64) (wx (by omega) (by omega) (by omega))) (sE rfl (WL_r rfl (an_ (E := 38) (e := elI) (l := (aN_ ((((p).length : Nat) : Int) - 1) ((i : Nat) : Int))) (fun v => v) q6_ rfl (fun w hw => g8_ ((((p).length : Nat) : Int) - 1) ((i : Nat) : Int) w (by first | omega | (simp only [List.length_cons, List.length_nil, and_true, true_and] <;> omega) | simp)) (fun p64 c65 L66 hF67 => ?_))))))))))))))
       have hb68 := (g6_ ((((p).length : Nat) : Int) - 1) ((i : Nat) : Int))
       refine sQ (q_as (v' := .int .i64 ((((aN_ ((((p).length : Nat) : Int) - 1) ((i : Nat) : Int))).length : Nat) : Int)) (aS_ (e := elI) sl_22 rfl (SLfe.sle (OwnG.slfe hF67 (List.sublist_append_left _ _)))) rfl) rfl (sE rfl (nl J ?_))
       refine ch_ (fun S M h => J27 S M h) [12, 13, 44, 45, 46, 47, 48, 49, 50, 51, 52, 53, 54, 55, 56] (fun g M => ∃ (j : Nat) (mb63 : I), (b5_ p a b out i ((((aN_ ((((p).length : Nat) : Int) - 1) ((i : Nat) : Int))).length + 1)) 0 I0) = (j, mb63) ∧ (g 44 = .int .i64 ((j : Nat) : Int)) ∧ M = (L66 ++ (⟨b63, 38, flat [pI mb63]⟩ :: (L_out ++ (L11 ++ (⟨b2, 44, flat [pI b.n, pI b.d]⟩ :: (⟨b1, 44, flat [pI a.n, pI a.d]⟩ :: []))))))) (fun K_u69 hK_u69 => ?_) ?_
       ·skip
        refine aq_ ?_
        refine aL_ [12, 13, 44, 45, 46, 47, 48, 49, 50, 51, 52, 53, 54, 55, 56] (fun g nn M => ∃ (j : Nat) (mb63 : I), (b5_ p a b out i nn j mb63) = (b5_ p a b out i ((((aN_ ((((p).length : Nat) : Int) - 1) ((i : Nat) : Int))).length + 1)) 0 I0) ∧ ((aN_ ((((p).length : Nat) : Int) - 1) ((i : Nat) : Int))).length - j < nn ∧ (j ≤ ((aN_ ((((p).length : Nat) : Int) - 1) ((i : Nat) : Int))).length) ∧ (g 44 = .int .i64 ((j : Nat) : Int)) ∧ M = (L66 ++ (⟨b63, 38, flat [pI mb63]⟩ :: (L_out ++ (L11 ++ (⟨b2, 44, flat [pI b.n, pI b.d]⟩ :: (⟨b1, 44, flat [pI a.n, pI a.d]⟩ :: []))))))) ((((aN_ ((((p).length : Nat) : Int) - 1) ((i : Nat) : Int))).length + 1)) ?start ?round
        case start => exact ⟨_, s0, 0, I0, rfl, (by first | omega | (simp only [List.length_append, List.length_cons, List.length_nil, List.length_set, List.length_take, and_true, true_and, or_true, true_or, Nat.zero_add] <;> omega)), (by first | omega | (simp only [List.length_append, List.length_cons, List.length_nil, List.length_set, List.length_take, and_true, true_and, or_true, true_or, Nat.zero_add] <;> omega)), rfl, rfl⟩
        case round =>
         rintro nn g M ⟨j, mb63, hT1, hq1, hinv1, hg44, rfl⟩
         obtain ⟨k1, rfl⟩ : ∃ m, nn = m + 1 := ⟨nn - 1, by omega⟩
         simp only [setG, hg44]
         clear hg44
         refine Rs fun K J => sE rfl (nl J (Sq fun K32 J32 => ?_))
         rcases bt (decide (((j : Nat) : Int) < ((((aN_ ((((p).length : Nat) : Int) - 1) ((i : Nat) : Int))).length : Nat) : Int))) with h76 | h76
         ·skip
          have ph76 := of_decide_eq_true h76
          refine W_t h76 rfl (am_ (J32 _ _ (Sq fun K33 J33 => aq_ (Rs fun K J => sE rfl (sQ (q_as (v' := .pointer (some (slb (.slice p64 (aN_ ((((p).length : Nat) : Int) - 1) ((i : Nat) : Int)).length c65) (j * 18 + 0)))) (cp_ (e := elI) (l := (aN_ ((((p).length : Nat) : Int) - 1) ((i : Nat) : Int))) (k := j) sl_22 rfl rfl (SLfe.sle (OwnG.slfe hF67 (List.sublist_append_left _ _))) (by first | omega | (simp only [List.length_set, List.length_append, List.length_cons, List.length_nil]; omega))) rfl) rfl ?_)))))
          refine sQ (q_ldG (e := elI) (l := (aN_ ((((p).length : Nat) : Int) - 1) ((i : Nat) : Int))) (k := j) (o := 0) ty_38 rfl (SLfe.sle (OwnG.slfe hF67 (List.sublist_append_left _ _))) (aA_ I0 (by first | omega | (simp only [List.length_set, List.length_append, List.length_cons, List.length_nil]; omega))) rfl) rfl ?_
          refine sN zp_38 rfl fun b77 hb77 => sE rfl (sS [pI ((aN_ ((((p).length : Nat) : Int) - 1) ((i : Nat) : Int)).getD j I0)] ty_38 rfl rfl rfl rfl rfl (.head _) rfl hb77 (nl J (dr (sk (sA (sd s0))) [0,4,8,12,16,20,24,29] [7] mix (by kernel_rfl) (fun K J => pQ rfl (qL ty_38 rfl (List.mem_cons_of_mem _ (List.mem_append_right _ (List.mem_cons_self))) rfl) (pQ rfl (qL ty_38 rfl m0 rfl) (pE rfl (pE rfl (pQ rfl (q_as (v' := AV [pI (aD_ (bi_ p a (bT_ b a)) ((j : Nat) : Int))]) (aH_ en_79 rfl (fun w hw => ex_ _ (bi_ p a (bT_ b a)) ((j : Nat) : Int) w (SLe.ap hw (SLfe.sle (OwnG.slfe hF12 (sd (sR (sd (sR (List.sublist_append_left _ _)))))))))) rfl) ?_))))))))
          obtain ⟨r78, hr78⟩ := nm ((E (Z.mul ((aN_ ((((p).length : Nat) : Int) - 1) ((i : Nat) : Int)).getD j I0).dec (aD_ (bi_ p a (bT_ b a)) ((j : Nat) : Int)).dec)) : I)
          refine pC (AV [pI r78]) en_77 (aK_ ((aN_ ((((p).length : Nat) : Int) - 1) ((i : Nat) : Int)).getD j I0).1 (aD_ (bi_ p a (bT_ b a)) ((j : Nat) : Int)).1 ((aN_ ((((p).length : Nat) : Int) - 1) ((i : Nat) : Int)).getD j I0).2 (aD_ (bi_ p a (bT_ b a)) ((j : Nat) : Int)).2) rfl rfl (by rw [hr78]; first | done | rfl) (pC (AV [pI (E (Z.add mb63.dec r78.dec))]) en_94 (cY_ mb63.1 r78.1 mb63.2 r78.2) rfl rfl rfl (oS [pI (E (Z.add mb63.dec r78.dec))] ty_38 rfl rfl rfl rfl rfl rfl (.tail _ (Upd.left (.head _) _)) rfl hb63 rfl (sk (sA (sd s0))) (fl J (J33 _ _ (Rk fun K J => sV (.int .i64 (((j + 1) : Nat) : Int)) rfl (congrArg (Value.int .i64) (wx (by omega) (by omega) (by omega))) (sE rfl (nl J (⟨(by repeat first | exact .refl | refine .cons rfl ?_), _, _, (sd (s0)), (Nat.lt_succ_self _), (j + 1), (E (Z.add mb63.dec r78.dec)), (by subst hr78; exact (hT1.symm.trans (Eq.symm (bif_t h76 rfl))).symm), (Nat.lt_of_lt_of_le (by first | omega | (simp only [List.length_append, List.length_cons, List.length_nil, List.length_set, List.length_take, and_true, true_and, or_true, true_or, Nat.zero_add] <;> omega)) (Nat.le_of_lt_succ hq1)), (by first | omega | (simp only [List.length_append, List.length_cons, List.length_nil, List.length_set, List.length_take, and_true, true_and, or_true, true_or, Nat.zero_add] <;> omega)), rfl, rfl⟩))))))))
         ·skip
          have ph76 := of_decide_eq_false h76
          refine W_f h76 rfl (bw_ (ap_ (ap_ (as_ (hK_u69 _ _ (by repeat first | exact .refl | refine .cons rfl ?_) ⟨_, s0, j, mb63, (by exact hT1.symm.trans (Eq.symm (bif_f h76 rfl))), rfl, rfl⟩)))))
       ·skip
        rintro g M ⟨j, mb63, hCu69, hg44, rfl⟩
        simp only [setG, hg44]
        clear hg44
        refine Sq fun K34 J34 => Rs fun K J => sQ (qF eu_ rfl rfl) rfl (sQ (qC ty_4 rfl (List.mem_append_right _ (List.mem_cons_self)) rfl) rfl (nl J ?_))
        rcases bt mb63.1.bad with h79 | h79
        ·skip
         refine W_t h79 rfl (Rs fun K J => sE rfl (sE rfl (nl J (W_ret (aj_ (aX_ (aj_ (aj_ (aX_ (aj_ (aj_ (ret2 rfl (.inr rfl) rfl rfl ?_))))))))))))
         have hE : ((([] : List I), false) : (List I) × Bool) = (aW_ p a b) := by exact bif_f h8 (bif_f h14 ((sm_q rfl (hT0.symm.trans (Eq.symm (bif_t h62 (trs (Eq.symm (apS hCu69)) (bif_t h79 rfl))))))))
         rw [← hE]
         exact ⟨_, rfl, ⟨[], sn, OwnG.nil⟩⟩
        ·skip
         refine W_f h79 rfl (am_ (J34 _ _ (Rk fun K J => sE rfl (sQ (qL ty_38 rfl (List.mem_append_right _ (List.mem_cons_self)) rfl) rfl (WL_r rfl (az_ [[pI mb63]] [pI mb63] us_22 z_38 sz_38 rfl (by decide) rfl rfl ⟨rfl, rfl, rfl, trivial⟩ rfl (fun b80 hb80 => WL_r rfl (dN_ (e := elI) (l := out) (m := [mb63]) 68 us_22 (by kernel_rfl) (by decide) rfl rfl hO_out (SLe.lit (e := elI) (l := [mb63]) m0 rfl (Nat.le_of_ble_eq_true rfl) rfl) (fq_s (fq_sl (fq_s fq_l))) (by simp only [List.length_append, List.length_cons, List.length_nil]; omega) (by decide) (fun p81 c82 L83 hO84 => ?_)))))))))
         refine sE rfl (nl J (J26 _ _ (Rk fun K J => sV (.int .i64 (((i + 1) : Nat) : Int)) rfl (congrArg (Value.int .i64) (wx (by omega) (by omega) (by omega))) (sE rfl (nl J (⟨(by repeat first | exact .refl | refine .cons rfl ?_), _, _, (sA (sd (sR (sd (s0))))), (Nat.lt_succ_self _), (out ++ [mb63]), (i + 1), p81, c82, L83, (by exact (hT0.symm.trans (Eq.symm (bif_t h62 (trs (Eq.symm (apS hCu69)) (bif_f h79 rfl))))).symm), (Nat.lt_of_lt_of_le (by first | omega | (simp only [List.length_append, List.length_cons, List.length_nil, List.length_set, List.length_take, and_true, true_and, or_true, true_or, Nat.zero_add] <;> omega)) (Nat.le_of_lt_succ hq0)), (by first | omega | (simp only [List.length_append, List.length_cons, List.length_nil, List.length_set, List.length_take, and_true, true_and, or_true, true_or, Nat.zero_add] <;> omega)), ⟨rfl, rfl, hO84⟩, rfl⟩))))))
      ·skip
       have ph62 := of_decide_eq_false h62
       refine W_f h62 rfl (bw_ (ap_ (ap_ (as_ (hK_u15 _ _ (by repeat first | exact .refl | refine .cons rfl ?_) ⟨_, s0, out, i, p_out, c_out, L_out, (by exact hT0.symm.trans (Eq.symm (bif_f h62 rfl))), (by first | omega | (simp only [List.length_append, List.length_cons, List.length_nil, List.length_set, List.length_take, and_true, true_and, or_true, true_or, Nat.zero_add] <;> omega)), ⟨rfl, rfl, hO_out⟩, rfl⟩)))))
    ·skip
     rintro g M ⟨out, i, p_out, c_out, L_out, hCu15, hPu15, ⟨hg9, hg35, hO_out⟩, rfl⟩
     simp only [setG, hg9, hg35]
     clear hg9 hg35
     have hm_out := OwnG.max hO_out
     refine Sq fun K35 J35 => Rs fun K J => sE rfl (sQ (q_as (v' := AV [pI (av_ out)]) (aH_ en_85 rfl (fun w hw => fm_ _ out w (SLe.ap hw (SLfe.sle (OwnG.slfe hO_out (List.sublist_append_left _ _)))))) rfl) rfl (sN zp_38 rfl fun b85 hb85 => sS [pI (av_ out)] ty_38 rfl rfl rfl rfl rfl (.head _) rfl hb85 (nl J (Rs fun K J => sQ (qL ty_38 rfl m0 rfl) rfl (sC (.int .i64 ((Z.signW (av_ out).dec).1)) en_32 (bK_ (av_ out).1 (av_ out).2) rfl rfl rfl (sE rfl (nl J ?_)))))))
     rcases bt ((Z.signW (av_ out).dec).1 != 0) with h86 | h86
     ·skip
      refine W_t h86 rfl (Rs fun K J => sE rfl (sQ (q_as (v' := .int .i64 (((out).length : Nat) : Int)) (aS_ (e := elI) sl_22 rfl (SLfe.sle (OwnG.slfe hO_out (sd (List.sublist_append_left _ _))))) rfl) rfl (sE rfl (nl J ?_))))
      refine ch_ (fun S M h => J35 S M h) [15, 71, 72, 73, 74, 75, 76, 77, 78, 79, 80, 81, 82, 83] (fun g M => ∃ (k : Nat) (t : List I) (L_t : List Blk), (b6_ p a b out i ((out.length + 1)) 0 out) = (k, t) ∧ (g 71 = .int .i64 ((k : Nat) : Int) ∧ OwnG w0 38 elI (.slice p_out out.length c_out) t L_t) ∧ M = (⟨b85, 38, flat [pI (av_ out)]⟩ :: (L_t ++ (L11 ++ (⟨b2, 44, flat [pI b.n, pI b.d]⟩ :: (⟨b1, 44, flat [pI a.n, pI a.d]⟩ :: [])))))) (fun K_u87 hK_u87 => ?_) ?_
      ·skip
       refine aq_ ?_
       refine aL_ [15, 71, 72, 73, 74, 75, 76, 77, 78, 79, 80, 81, 82, 83] (fun g nn M => ∃ (k : Nat) (t : List I) (L_t : List Blk), (b6_ p a b out i nn k t) = (b6_ p a b out i ((out.length + 1)) 0 out) ∧ out.length - k < nn ∧ (k ≤ out.length ∧ t.length = out.length) ∧ (g 71 = .int .i64 ((k : Nat) : Int) ∧ OwnG w0 38 elI (.slice p_out out.length c_out) t L_t) ∧ M = (⟨b85, 38, flat [pI (av_ out)]⟩ :: (L_t ++ (L11 ++ (⟨b2, 44, flat [pI b.n, pI b.d]⟩ :: (⟨b1, 44, flat [pI a.n, pI a.d]⟩ :: [])))))) ((out.length + 1)) ?start ?round
       case start => exact ⟨_, s0, 0, out, L_out, rfl, (by first | omega | (simp only [List.length_append, List.length_cons, List.length_nil, List.length_set, List.length_take, and_true, true_and, or_true, true_or, Nat.zero_add] <;> omega)), (by first | omega | (simp only [List.length_append, List.length_cons, List.length_nil, List.length_set, List.length_take, and_true, true_and, or_true, true_or, Nat.zero_add] <;> omega)), ⟨rfl, hO_out⟩, rfl⟩
       case round =>
        rintro nn g M ⟨k, t, L_t, hT2, hq2, hinv2, ⟨hg71, hO_t⟩, rfl⟩
        obtain ⟨k2, rfl⟩ : ∃ m, nn = m + 1 := ⟨nn - 1, by omega⟩
        simp only [setG, hg71]
        clear hg71
        have hm_t := OwnG.max hO_t
        refine Rs fun K J => sE rfl (nl J (Sq fun K40 J40 => ?_))
        rcases bt (decide (((k : Nat) : Int) < (((out).length : Nat) : Int))) with h94 | h94
        ·skip
         have ph94 := of_decide_eq_true h94
         refine W_t h94 rfl (am_ (J40 _ _ (Sq fun K41 J41 => aq_ (Rs fun K J => sE rfl (sE rfl (nl J (dr (sk (sR s0)) [0,4,8,12,16,20,24,28,32,37] [9] mix (by kernel_rfl) (fun K J => pE rfl (pE rfl (pE rfl (pE rfl (pQ rfl (q_as (v' := .pointer (some (slb (.slice p_out out.length c_out) (k * 18 + 0)))) (cp_ (e := elI) (l := t) (k := k) sl_22 rfl rfl (SLfe.sle (OwnG.slfe hO_t (sd (List.sublist_append_left _ _)))) (by first | omega | (simp only [List.length_set, List.length_append, List.length_cons, List.length_nil]; omega))) rfl) ?_))))))))))))
         refine pQ rfl (q_ldG (e := elI) (l := t) (k := k) (o := 0) ty_38 rfl (SLfe.sle (OwnG.slfe hO_t (sd (List.sublist_append_left _ _)))) (aA_ I0 (by first | omega | (simp only [List.length_set, List.length_append, List.length_cons, List.length_nil]; omega))) rfl) ?_
         refine pQ rfl (qL ty_38 rfl m0 rfl) (pC (AV [pI (E (Z.quo (t.getD k I0).dec (av_ out).dec))]) en_88 (ca_ (t.getD k I0).1 (av_ out).1 (t.getD k I0).2 (av_ out).2) rfl rfl rfl (pQ rfl (q_as (v' := .pointer (some (slb (.slice p_out out.length c_out) (k * 18 + 0)))) (cp_ (e := elI) (l := t) (k := k) sl_22 rfl rfl (SLfe.sle (OwnG.slfe hO_t (sd (List.sublist_append_left _ _)))) (by first | omega | (simp only [List.length_set, List.length_append, List.length_cons, List.length_nil]; omega))) rfl) ?_))
         refine PL_o rfl rfl (gh_ (e := elI) (l := t) (k := k) (z := (E (Z.quo (t.getD k I0).dec (av_ out).dec))) ty_38 rfl rfl hO_t (by first | omega | (simp only [List.length_set, List.length_append, List.length_cons, List.length_nil]; omega)) (rp_s rp_l) rfl rfl (fun L95 hO96 => ⟨nf, (sk (sR s0)), ?_⟩))
         refine fl J (J41 _ _ (Rk fun K J => sV (.int .i64 (((k + 1) : Nat) : Int)) rfl (congrArg (Value.int .i64) (wx (by omega) (by omega) (by omega))) (sE rfl (nl J (⟨(by repeat first | exact .refl | refine .cons rfl ?_), _, _, s0, (Nat.lt_succ_self _), (k + 1), (t.set k (E (Z.quo (t.getD k I0).dec (av_ out).dec))), L95, (by exact (hT2.symm.trans (Eq.symm (bif_t h94 rfl))).symm), (Nat.lt_of_lt_of_le (by first | omega | (simp only [List.length_append, List.length_cons, List.length_nil, List.length_set, List.length_take, and_true, true_and, or_true, true_or, Nat.zero_add] <;> omega)) (Nat.le_of_lt_succ hq2)), (by first | omega | (simp only [List.length_append, List.length_cons, List.length_nil, List.length_set, List.length_take, and_true, true_and, or_true, true_or, Nat.zero_add] <;> omega)), ⟨rfl, hO96⟩, rfl⟩)))))
        ·skip
         have ph94 := of_decide_eq_false h94
         refine W_f h94 rfl (bw_ (ap_ (ap_ (as_ (hK_u87 _ _ (by repeat first | exact .refl | refine .cons rfl ?_) ⟨_, s0, k, t, L_t, (by exact hT2.symm.trans (Eq.symm (bif_f h94 rfl))), ⟨rfl, hO_t⟩, rfl⟩)))))
      ·skip
       rintro g M ⟨k, t, L_t, hCu87, ⟨hg71, hO_t⟩, rfl⟩
       simp only [setG, hg71]
       clear hg71
       have hm_t := OwnG.max hO_t
       refine Rs fun K J => sE rfl (sE rfl (sE rfl (nl J (W_ret (ret2 rfl (.inr rfl) rfl rfl ?_)))))
       have hE : ((t, true) : (List I) × Bool) = (aW_ p a b) := by exact bif_f h8 (bif_f h14 (trs (Eq.symm (smS hCu15)) (bif_t h86 (trs (Eq.symm (apS hCu87)) rfl))))
       rw [← hE]
       exact ⟨_, rfl, ⟨L_t, (sd (List.sublist_append_left _ _)), hO_t⟩⟩
     ·skip
      refine W_f h86 rfl (am_ (J35 _ _ (Rs fun K J => sE rfl (sE rfl (sE rfl (nl J (W_ret (ret2 rfl (.inr rfl) rfl rfl ?_))))))))
      have hE : ((out, true) : (List I) × Bool) = (aW_ p a b) := by exact bif_f h8 (bif_f h14 (trs (Eq.symm (smS hCu15)) (bif_f h86 rfl)))
      rw [← hE]
      exact ⟨_, rfl, ⟨L_out, (sd (List.sublist_append_left _ _)), hO_out⟩⟩
end Go.Proofs.YtjdfogfmeibkgaaGreat

