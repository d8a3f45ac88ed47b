/- Walks: what these functions return. -/
import Derived.Test.YtjdfogfmeibkgaaGreatQGE
import Derived.Test.YtjdfogfmeibkgaaGreatQFp
import Derived.Test.YtjdfogfmeibkgaaGreatQWi
import Derived.Test.YtjdfogfmeibkgaaGreatQWc
import Derived.Test.YtjdfogfmeibkgaaGreatQWa
namespace Go.Proofs.YtjdfogfmeibkgaaGreat
open Go.Kn Go.Num
set_option linter.unusedVariables false
set_option linter.unusedSimpArgs false
set_option maxRecDepth 20000
set_option maxHeartbeats 8000000
theorem hV_ (a : W) (b : W) :
    Ret Tryz.prog 63 [.int .i64 a.1, .int .i64 b.1] (AV [pI ((eN_ a b).n), pI ((eN_ a b).d)]) := by
 refine aM_ (N := 10) Tryz.func63 rfl rfl (by simp) (fun w0 => ?_)
 simp only [initF, Nat.reduceAdd]
 refine Rs fun K J => sN zp_44 rfl fun b1 hb1 => nl J (Rs fun K J => sE rfl (sC (AV [pI (E (Z.of a.1))]) en_62 (aY_ a.1 a.2) rfl rfl rfl (sE rfl (sC (AV [pI (E (Z.of b.1))]) en_62 (aY_ b.1 b.2) rfl rfl rfl ?_))))
 obtain ⟨r2, hr2⟩ := nm ((bJ_ (E (Z.of a.1)) (E (Z.of b.1))) : Rt)
 refine sC (AV [pI r2.n, pI r2.d]) en_61 (dr_ (E (Z.of a.1)) (E (Z.of b.1))) rfl rfl (by rw [hr2]; first | done | rfl) (sS [pI r2.n, pI r2.d] ty_44 rfl rfl rfl rfl rfl (.head _) rfl hb1 (nl J (W_ret (ret1 rfl (.inr rfl) (resP rfl m0 ty_44 rfl) ?_))))
 exact (by subst hr2; rfl)

end Go.Proofs.YtjdfogfmeibkgaaGreat

namespace Go.Proofs.YtjdfogfmeibkgaaGreat
open Go.Kn Go.Num
set_option linter.unusedVariables false
set_option linter.unusedSimpArgs false
set_option maxRecDepth 20000
set_option maxHeartbeats 8000000
theorem em_ (a : I) :
    Ret Tryz.prog 68 [AV [pI a]] (AV [pI (by_ a)]) := by
 refine aM_ (N := 4) Tryz.func68 rfl rfl (by simp) (fun w0 => ?_)
 simp only [initF, Nat.reduceAdd]
 refine Rs fun K J => WL_r rfl (cG_ rfl rfl (fun b1 hb1 => sN zp_38 rfl fun b2 hb2 => nl J (Rs fun K J => sQ (qL ty_38 rfl m1 rfl) rfl (sS [pI a] ty_38 rfl rfl rfl rfl rfl (.head _) rfl hb2 (nl J (W_ret (ret1 rfl (.inr rfl) (resP rfl m0 ty_38 rfl) ?_)))))))
 exact (by rfl)

theorem fj_ (a : I) :
    Ret Tryz.prog 74 [AV [pI a]] (.bool (dX_ a)) := by
 refine aM_ (N := 10) Tryz.func74 rfl rfl (by simp) (fun w0 => ?_)
 simp only [initF, Nat.reduceAdd]
 refine Rs fun K J => WL_r rfl (cG_ rfl rfl (fun b1 hb1 => sE rfl (nl J ?_)))
 refine bD_ [2, 3, 4, 5, 6, 7, 8, 9] (fun g M => (g 2 = .bool (!a.1.bad && a.1.valid)) ∧ M = [⟨b1, 38, flat [pI a]⟩]) (fun K1 J1 => ?_) ?_
 ·skip
  refine Rk fun K J => sQ (qF eu_ rfl rfl) rfl (sQ (qC ty_4 rfl m0 rfl) rfl (sE rfl ?_))
  rcases bt a.1.bad with h3 | h3
  ·skip
   refine sB (not_f h3) rfl (WL_n rfl (WL_n rfl (sE rfl (sE rfl (nl J ?_)))))
   refine J1 _ _ (by repeat first | exact .refl | refine .cons rfl ?_) ⟨_, s0, ?s2, rfl⟩
   case s2 => exact congrArg Value.bool (mI_ h3)
  ·skip
   refine sB (not_t h3) rfl (sQ (qL ty_38 rfl m0 rfl) rfl (sC (.bool a.1.valid) nA_ (eG_ a.1 a.2) rfl rfl rfl (sE rfl (sE rfl (nl J ?_)))))
   refine J1 _ _ (by repeat first | exact .refl | refine .cons rfl ?_) ⟨_, s0, ?s2, rfl⟩
   case s2 => exact congrArg Value.bool (nF_ h3 rfl)
 ·skip
  rintro g4 M ⟨hg2, rfl⟩
  simp only [setG, hg2]
  clear hg2
  refine W_ret (ret1 rfl (.inr rfl) rfl ?_)
  exact (by rfl)

theorem bO_  (w : World)  :
    Calls Tryz.prog 76 [].toArray w (fun e w' => ∃ v, e = .returned (v) ∧ Ext w w' ∧ Slo w.heap.size w' 38 elI v F_poly_bad) := by
 refine bs_ (n := 3) (fun v => v) Tryz.func76 rfl rfl (by simp) ?_
 obtain ⟨w0, rfl⟩ : ∃ w0, w0 = w := ⟨_, rfl⟩
 simp only [initF, Nat.reduceAdd]
 obtain ⟨q0, hq0⟩ := nm ((E Z.bad) : I)
 refine Rs fun K J => sE rfl (nl J (Rs fun K J => sC (AV [pI q0]) en_65 bz_ rfl rfl (by rw [hq0]; first | done | rfl) (WL_r rfl (az_ [[pI q0]] [pI q0] us_24 z_38 sz_38 rfl (by decide) rfl rfl ⟨rfl, rfl, rfl, trivial⟩ rfl (fun b1 hb1 => sE rfl (nl J (W_ret (ret1 rfl (.inr rfl) rfl ?_))))))))
 have hE : ([q0] : (List I)) = F_poly_bad := by subst hq0; exact rfl
 rw [← hE]
 exact ⟨_, rfl, ⟨_, (sk sn), OwnG.lit (e := elI) (l := [q0]) (qs := [pI q0]) hb1 rfl (Nat.le_of_ble_eq_true rfl) rfl⟩⟩

theorem d4_ (n : Int) (vf : Value) (f : Nat → I) (vo : Value) (o : I → I) (w : World) (hf : FnV Tryz.prog w vf eN (fun k => (k : Int) < n) (outI f)) (ho : FnV Tryz.prog w vo eI (fun _ => True) (outI o)) (hpre : n ≤ 200) :
    Calls Tryz.prog 66 [.int .i64 n, vf, vo].toArray w (fun e w' => ∃ v, e = .returned (v) ∧ Ext w w' ∧ Slo w.heap.size w' 38 elI v (bh_ n f o)) := by
 obtain ⟨g_f, c_f, rfl, Hf⟩ := hf.open
 obtain ⟨g_o, c_o, rfl, Ho⟩ := ho.open
 refine bs_ (n := 55) (fun v => v) Tryz.func66 rfl rfl (by simp) ?_
 obtain ⟨w0, rfl⟩ : ∃ w0, w0 = w := ⟨_, rfl⟩
 simp only [initF, Nat.reduceAdd]
 refine Rs fun K J => sE rfl (nl J (Rs fun K J => sE rfl (sQ (q_as (v' := .int .i64 (((n).toNat : Nat) : Int)) (hi_ rfl rfl) (congrArg (Value.int .i64) (by omega))) rfl (WL_r rfl (j2_ (E := 38) (e := elI) (n := 0) (c := (n).toNat) 68 I0 us_24 (by kernel_rfl) (by decide) (by kernel_rfl) rfl rfl (by omega) (by omega) (by omega) (by omega) (by decide) (by decide) (fun p1 L2 hO3 => sE rfl (nl J (Sq fun K1 J1 => Rs fun K J => sE rfl (sQ (q_as (v' := .int .i64 (((n).toNat : Nat) : Int)) (hi_ rfl rfl) (congrArg (Value.int .i64) (by omega))) rfl (sE rfl (nl J ?_)))))))))))
 refine ch_ (fun S M h => J1 S M h) [6, 7, 8, 9, 15, 16, 17, 18, 19, 20, 21, 22, 23, 24, 25, 26, 27, 28, 29, 30, 31] (fun g M => ∃ (out : List I) (i : Nat) (p_out : Option Addr) (c_out : Nat) (L_out : List Blk), (bF_ n f o ((n.toNat + 1)) ([] : List I) 0) = .inl (out, i) ∧ (g 7 = .slice p_out out.length c_out ∧ g 15 = .int .i64 ((i : Nat) : Int) ∧ OwnG w0 38 elI (.slice p_out out.length c_out) out L_out) ∧ M = (L_out ++ [])) (fun K_u4 hK_u4 => ?_) ?_
 ·skip
  refine aq_ ?_
  refine aL_ [6, 7, 8, 9, 15, 16, 17, 18, 19, 20, 21, 22, 23, 24, 25, 26, 27, 28, 29, 30, 31] (fun g nn M => ∃ (out : List I) (i : Nat) (p_out : Option Addr) (c_out : Nat) (L_out : List Blk), (bF_ n f o nn out i) = (bF_ n f o ((n.toNat + 1)) ([] : List I) 0) ∧ n.toNat - i < nn ∧ (i ≤ n.toNat ∧ out.length = i) ∧ (g 7 = .slice p_out out.length c_out ∧ g 15 = .int .i64 ((i : Nat) : Int) ∧ OwnG w0 38 elI (.slice p_out out.length c_out) out L_out) ∧ M = (L_out ++ [])) ((n.toNat + 1)) ?start ?round
  case start => exact ⟨_, s0, ([] : List I), 0, p1, ((n).toNat), L2, rfl, (by first | omega | (simp only [List.length_append, List.length_cons, List.length_nil, List.length_set, List.length_take, and_true, true_and, or_true, true_or, Nat.zero_add] <;> omega)), ⟨by omega, rfl⟩, ⟨rfl, rfl, hO3⟩, rfl⟩
  case round =>
   rintro nn g M ⟨out, i, p_out, c_out, L_out, hT0, hq0, hinv0, ⟨hg7, hg15, hO_out⟩, rfl⟩
   obtain ⟨k0, rfl⟩ : ∃ m, nn = m + 1 := ⟨nn - 1, by omega⟩
   simp only [setG, hg7, hg15]
   clear hg7 hg15
   have hm_out := OwnG.max hO_out
   refine Rs fun K J => sE rfl (nl J (Sq fun K8 J8 => ?_))
   rcases bt (decide (((i : Nat) : Int) < (((n).toNat : Nat) : Int))) with h29 | h29
   ·skip
    have ph29 := of_decide_eq_true h29
    refine W_t h29 rfl (am_ (J8 _ _ (Sq fun K9 J9 => aq_ (Rs fun K J => sE rfl (sE rfl (nl J (Rs fun K J => sE rfl (sE rfl (sE rfl (sQ (q_as (v' := AV [pI (f i)]) (q_fn (x := i) rfl rfl (FnE.sub Hf sn) (by show ((i : Nat) : Int) < n; omega)) rfl) rfl (sQ (q_as (v' := AV [pI (o (f i))]) (q_fn (x := (f i)) rfl rfl (FnE.sub Ho sn) trivial) rfl) rfl (sN zp_38 rfl fun b30 hb30 => sS [pI (o (f i))] ty_38 rfl rfl rfl rfl rfl (.head _) rfl hb30 (nl J (Sq fun K10 J10 => Rs fun K J => ?_))))))))))))))
    refine sQ (qL ty_38 rfl m0 rfl) rfl (sQ (q_ret en_74 (fj_ (o (f i))) rfl) rfl (sE rfl (nl J ?_)))
    rcases bt (dX_ (o (f i))) with h31 | h31
    ·skip
     refine W_f (not_f h31) rfl (am_ (J10 _ _ (Rk fun K J => sE rfl (sQ (qL ty_38 rfl m0 rfl) rfl (WL_r rfl (az_ [[pI (o (f i))]] [pI (o (f i))] us_24 z_38 sz_38 rfl (by decide) rfl rfl ⟨rfl, rfl, rfl, trivial⟩ rfl (fun b32 hb32 => WL_r rfl (dN_ (e := elI) (l := out) (m := [(o (f i))]) 68 us_24 (by kernel_rfl) (by decide) rfl rfl hO_out (SLe.lit (e := elI) (l := [(o (f i))]) m0 rfl (Nat.le_of_ble_eq_true rfl) rfl) (fq_s (fq_s fq_l)) (by show (out.length + 1) * 68 ≤ _; omega) (by decide) (fun p33 c34 L35 hO36 => sE rfl (nl J (J9 _ _ (Rk fun K J => sV (.int .i64 (((i + 1) : Nat) : Int)) rfl (congrArg (Value.int .i64) (wx (by omega) (by omega) (by omega))) (sE rfl (nl J (⟨(by repeat first | exact .refl | refine .cons rfl ?_), _, _, (sA (sd (sd (s0)))), (Nat.lt_succ_self _), (out ++ [(o (f i))]), (i + 1), p33, c34, L35, (by exact (hT0.symm.trans (Eq.symm (bif_t h29 (bif_t h31 rfl)))).symm), (Nat.lt_of_lt_of_le (by first | omega | (simp only [List.length_append, List.length_cons, List.length_nil, List.length_set, List.length_take, and_true, true_and, or_true, true_or, Nat.zero_add] <;> omega)) (Nat.le_of_lt_succ hq0)), ⟨by omega, (by rw [List.length_append]; show _ + 1 = _; omega)⟩, ⟨rfl, rfl, hO36⟩, rfl⟩)))))))))))))))
    ·skip
     refine W_t (not_t h31) rfl (Rs fun K J => WL_r rfl (an_ (E := 38) (e := elI) (l := F_poly_bad) (fun v => v) en_76 rfl (fun w hw => bO_  w) (fun p37 c38 L39 hF40 => sE rfl (nl J (W_ret (aj_ (aX_ (aj_ (aj_ (aX_ (aj_ (aj_ (ret1 rfl (.inr rfl) rfl ?_)))))))))))))
     have hE : (F_poly_bad : (List I)) = (bh_ n f o) := by exact (sm_q rfl (hT0.symm.trans (Eq.symm (bif_t h29 (bif_f h31 rfl)))))
     rw [← hE]
     exact ⟨_, rfl, ⟨L39, (List.sublist_append_left _ _), hF40⟩⟩
   ·skip
    have ph29 := of_decide_eq_false h29
    refine W_f h29 rfl (bw_ (ap_ (ap_ (as_ (hK_u4 _ _ (by repeat first | exact .refl | refine .cons rfl ?_) ⟨_, s0, out, i, p_out, c_out, L_out, (by exact hT0.symm.trans (Eq.symm (bif_f h29 rfl))), ⟨rfl, rfl, hO_out⟩, rfl⟩)))))
 ·skip
  rintro g M ⟨out, i, p_out, c_out, L_out, hCu4, ⟨hg7, hg15, hO_out⟩, rfl⟩
  simp only [setG, hg7, hg15]
  clear hg7 hg15
  have hm_out := OwnG.max hO_out
  refine bD_ [7, 32, 33, 34, 35, 36, 37, 38, 39, 40, 41, 42, 43, 44, 45, 46, 47, 48, 49] (fun g M => ∃ (cut : List I) (p_cut : Option Addr) (c_cut : Nat) (L_cut : List Blk), (bG_ n f o out i ((out.length + 1)) out) = cut ∧ (g 7 = .slice p_cut cut.length c_cut ∧ OwnG w0 38 elI (.slice p_cut cut.length c_cut) cut L_cut) ∧ M = (L_cut ++ [])) (fun K_u41 hK_u41 => ?_) ?_
  ·skip
   refine aq_ ?_
   refine aL_ [7, 32, 33, 34, 35, 36, 37, 38, 39, 40, 41, 42, 43, 44, 45, 46, 47, 48, 49] (fun g nn M => ∃ (cut : List I) (p_cut : Option Addr) (c_cut : Nat) (L_cut : List Blk), (bG_ n f o out i nn cut) = (bG_ n f o out i ((out.length + 1)) out) ∧ cut.length < nn ∧ (True) ∧ (g 7 = .slice p_cut cut.length c_cut ∧ OwnG w0 38 elI (.slice p_cut cut.length c_cut) cut L_cut) ∧ M = (L_cut ++ [])) ((out.length + 1)) ?start ?round
   case start => exact ⟨_, s0, out, p_out, c_out, L_out, rfl, (Nat.lt_succ_self _), trivial, ⟨rfl, hO_out⟩, rfl⟩
   case round =>
    rintro nn g M ⟨cut, p_cut, c_cut, L_cut, hT1, hq1, hinv1, ⟨hg7, hO_cut⟩, rfl⟩
    obtain ⟨k1, rfl⟩ : ∃ m, nn = m + 1 := ⟨nn - 1, by omega⟩
    simp only [setG, hg7]
    clear hg7
    have hm_cut := OwnG.max hO_cut
    refine Sq fun K13 J13 => ?_
    refine bD_ [32, 33, 34, 35, 36, 37, 38, 39, 40, 41, 42, 43, 44] (fun g M => (g 44 = .bool (decide (0 < (((cut).length : Nat) : Int)) && ((Z.signW (cut.getD ((cut).length - 1) I0).dec).1 == 0))) ∧ M = (L_cut ++ [])) (fun K14 J14 => ?_) ?_
    ·skip
     refine Rk fun K J => sE rfl (sQ (q_as (v' := .int .i64 (((cut).length : Nat) : Int)) (aS_ (e := elI) sl_24 rfl (SLfe.sle (OwnG.slfe hO_cut (List.sublist_append_left _ _)))) rfl) rfl (sE rfl ?_))
     rcases bt (decide (0 < (((cut).length : Nat) : Int))) with h48 | h48
     ·skip
      have ph48 := of_decide_eq_true h48
      refine sB h48 rfl (sE rfl (sE rfl (sQ (q_as (v' := .int .i64 (((cut).length : Nat) : Int)) (aS_ (e := elI) sl_24 rfl (SLfe.sle (OwnG.slfe hO_cut (List.sublist_append_left _ _)))) rfl) rfl (sV (.int .i64 ((((cut).length : Nat) : Int) - 1)) rfl (congrArg (Value.int .i64) (wx (by omega) (by omega) (by omega))) (sQ (q_as (v' := .pointer (some (slb (.slice p_cut cut.length c_cut) (((cut).length - 1) * 18 + 0)))) (c4_ (e := elI) (l := cut) (k := ((cut).length - 1)) sl_24 rfl rfl (by omega) (SLfe.sle (OwnG.slfe hO_cut (List.sublist_append_left _ _))) (by first | omega | (simp only [List.length_set, List.length_append, List.length_cons, List.length_nil]; omega))) rfl) rfl ?_)))))
      refine sQ (q_ldG (e := elI) (l := cut) (k := ((cut).length - 1)) (o := 0) ty_38 rfl (SLfe.sle (OwnG.slfe hO_cut (List.sublist_append_left _ _))) (aA_ I0 (by first | omega | (simp only [List.length_set, List.length_append, List.length_cons, List.length_nil]; omega))) rfl) rfl ?_
      refine sC (.int .i64 ((Z.signW (cut.getD ((cut).length - 1) I0).dec).1)) en_32 (bK_ (cut.getD ((cut).length - 1) I0).1 (cut.getD ((cut).length - 1) I0).2) rfl rfl rfl (sE rfl (sE rfl (nl J ?_)))
      refine J14 _ _ (by repeat first | exact .refl | refine .cons rfl ?_) ⟨_, s0, ?s44, rfl⟩
      case s44 => exact congrArg Value.bool (and_t h48 rfl)
     ·skip
      have ph48 := of_decide_eq_false h48
      refine sB h48 rfl (WL_n rfl (WL_n rfl (WL_n rfl (WL_n rfl (WL_n rfl (WL_n rfl (WL_n rfl (WL_n rfl (sE rfl (nl J ?_))))))))))
      refine J14 _ _ (by repeat first | exact .refl | refine .cons rfl ?_) ⟨_, s0, ?s44, rfl⟩
      case s44 => exact congrArg Value.bool (and_f h48)
    ·skip
     rintro g49 M ⟨hg44, rfl⟩
     simp only [setG, hg44]
     clear hg44
     rcases bt (decide (0 < (((cut).length : Nat) : Int)) && ((Z.signW (cut.getD ((cut).length - 1) I0).dec).1 == 0)) with h50 | h50
     ·skip
      have ph51 := of_decide_eq_true (Bool.and_eq_true_iff.1 h50).1
      refine W_t h50 rfl (am_ (J13 _ _ (aq_ (Rk fun K J => sE rfl (sE rfl (sQ (q_as (v' := .int .i64 (((cut).length : Nat) : Int)) (aS_ (e := elI) sl_24 rfl (SLfe.sle (OwnG.slfe hO_cut (List.sublist_append_left _ _)))) rfl) rfl (sV (.int .i64 ((((cut).length : Nat) : Int) - 1)) rfl (congrArg (Value.int .i64) (wx (by omega) (by omega) (by omega))) (sQ (l9_ (e := elI) (l := cut) (k := ((cut).length - 1)) sl_24 rfl rfl (by omega) hO_cut (by omega)) rfl (sE rfl (nl J (⟨(by repeat first | exact .refl | refine .cons rfl ?_), _, _, s0, (Nat.lt_succ_self _), (cut.take ((cut).length - 1)), p_cut, c_cut, L_cut, (by exact (hT1.symm.trans (Eq.symm (bif_t h50 rfl))).symm), (Nat.lt_of_lt_of_le (by rw [List.length_take]; omega) (Nat.le_of_lt_succ hq1)), trivial, ⟨rfl, (OwnG.take hO_cut (by omega))⟩, rfl⟩)))))))))))
     ·skip
      refine W_f h50 rfl (bw_ (ap_ (ap_ (as_ (hK_u41 _ _ (by repeat first | exact .refl | refine .cons rfl ?_) ⟨_, s0, cut, p_cut, c_cut, L_cut, (by exact hT1.symm.trans (Eq.symm (bif_f h50 rfl))), ⟨rfl, hO_cut⟩, rfl⟩)))))
  ·skip
   rintro g M ⟨cut, p_cut, c_cut, L_cut, hCu41, ⟨hg7, hO_cut⟩, rfl⟩
   simp only [setG, hg7]
   clear hg7
   have hm_cut := OwnG.max hO_cut
   refine Sq fun K15 J15 => Rs fun K J => sE rfl (sQ (q_as (v' := .int .i64 (((cut).length : Nat) : Int)) (aS_ (e := elI) sl_24 rfl (SLfe.sle (OwnG.slfe hO_cut (List.sublist_append_left _ _)))) rfl) rfl (sE rfl (nl J ?_)))
   rcases bt (decide (25 < (((cut).length : Nat) : Int))) with h52 | h52
   ·skip
    have ph52 := of_decide_eq_true h52
    refine W_t h52 rfl (Rs fun K J => WL_r rfl (an_ (E := 38) (e := elI) (l := F_poly_bad) (fun v => v) en_76 rfl (fun w hw => bO_  w) (fun p53 c54 L55 hF56 => sE rfl (nl J (W_ret (aj_ (ret1 rfl (.inr rfl) rfl ?_)))))))
    have hE : (F_poly_bad : (List I)) = (bh_ n f o) := by exact trs (Eq.symm (smS hCu4)) (trs (Eq.symm (apS hCu41)) (bif_t h52 rfl))
    rw [← hE]
    exact ⟨_, rfl, ⟨L55, (List.sublist_append_left _ _), hF56⟩⟩
   ·skip
    have ph52 := of_decide_eq_false h52
    refine W_f h52 rfl (am_ (J15 _ _ (Rs fun K J => sE rfl (sE rfl (nl J (W_ret (ret1 rfl (.inr rfl) rfl ?_)))))))
    have hE : (cut : (List I)) = (bh_ n f o) := by exact trs (Eq.symm (smS hCu4)) (trs (Eq.symm (apS hCu41)) (bif_f h52 rfl))
    rw [← hE]
    exact ⟨_, rfl, ⟨L_cut, (List.sublist_append_left _ _), hO_cut⟩⟩

theorem hg_ (n : Int) (vf : Value) (f : Nat → Go.Num.W) (vo : Value) (o : Go.Num.W → I) (w : World) (hf : FnV Tryz.prog w vf eN (fun k => (k : Int) < n) (outW f)) (ho : FnV Tryz.prog w vo eW (fun _ => True) (outI o)) (hpre : n ≤ 200) :
    Calls Tryz.prog 97 [.int .i64 n, vf, vo].toArray w (fun e w' => ∃ v, e = .returned (v) ∧ Ext w w' ∧ Slo w.heap.size w' 38 elI v (cm_ n f o)) := by
 obtain ⟨g_f, c_f, rfl, Hf⟩ := hf.open
 obtain ⟨g_o, c_o, rfl, Ho⟩ := ho.open
 refine bs_ (n := 55) (fun v => v) Tryz.func97 rfl rfl (by simp) ?_
 obtain ⟨w0, rfl⟩ : ∃ w0, w0 = w := ⟨_, rfl⟩
 simp only [initF, Nat.reduceAdd]
 refine Rs fun K J => sE rfl (nl J (Rs fun K J => sE rfl (sQ (q_as (v' := .int .i64 (((n).toNat : Nat) : Int)) (hi_ rfl rfl) (congrArg (Value.int .i64) (by omega))) rfl (WL_r rfl (j2_ (E := 38) (e := elI) (n := 0) (c := (n).toNat) 68 I0 us_24 (by kernel_rfl) (by decide) (by kernel_rfl) rfl rfl (by omega) (by omega) (by omega) (by omega) (by decide) (by decide) (fun p1 L2 hO3 => sE rfl (nl J (Sq fun K1 J1 => Rs fun K J => sE rfl (sQ (q_as (v' := .int .i64 (((n).toNat : Nat) : Int)) (hi_ rfl rfl) (congrArg (Value.int .i64) (by omega))) rfl (sE rfl (nl J ?_)))))))))))
 refine ch_ (fun S M h => J1 S M h) [6, 7, 8, 9, 15, 16, 17, 18, 19, 20, 21, 22, 23, 24, 25, 26, 27, 28, 29, 30, 31] (fun g M => ∃ (out : List I) (i : Nat) (p_out : Option Addr) (c_out : Nat) (L_out : List Blk), (bQ_ n f o ((n.toNat + 1)) ([] : List I) 0) = .inl (out, i) ∧ (g 7 = .slice p_out out.length c_out ∧ g 15 = .int .i64 ((i : Nat) : Int) ∧ OwnG w0 38 elI (.slice p_out out.length c_out) out L_out) ∧ M = (L_out ++ [])) (fun K_u4 hK_u4 => ?_) ?_
 ·skip
  refine aq_ ?_
  refine aL_ [6, 7, 8, 9, 15, 16, 17, 18, 19, 20, 21, 22, 23, 24, 25, 26, 27, 28, 29, 30, 31] (fun g nn M => ∃ (out : List I) (i : Nat) (p_out : Option Addr) (c_out : Nat) (L_out : List Blk), (bQ_ n f o nn out i) = (bQ_ n f o ((n.toNat + 1)) ([] : List I) 0) ∧ n.toNat - i < nn ∧ (i ≤ n.toNat ∧ out.length = i) ∧ (g 7 = .slice p_out out.length c_out ∧ g 15 = .int .i64 ((i : Nat) : Int) ∧ OwnG w0 38 elI (.slice p_out out.length c_out) out L_out) ∧ M = (L_out ++ [])) ((n.toNat + 1)) ?start ?round
  case start => exact ⟨_, s0, ([] : List I), 0, p1, ((n).toNat), L2, rfl, (by first | omega | (simp only [List.length_append, List.length_cons, List.length_nil, List.length_set, List.length_take, and_true, true_and, or_true, true_or, Nat.zero_add] <;> omega)), ⟨by omega, rfl⟩, ⟨rfl, rfl, hO3⟩, rfl⟩
  case round =>
   rintro nn g M ⟨out, i, p_out, c_out, L_out, hT0, hq0, hinv0, ⟨hg7, hg15, hO_out⟩, rfl⟩
   obtain ⟨k0, rfl⟩ : ∃ m, nn = m + 1 := ⟨nn - 1, by omega⟩
   simp only [setG, hg7, hg15]
   clear hg7 hg15
   have hm_out := OwnG.max hO_out
   refine Rs fun K J => sE rfl (nl J (Sq fun K8 J8 => ?_))
   rcases bt (decide (((i : Nat) : Int) < (((n).toNat : Nat) : Int))) with h29 | h29
   ·skip
    have ph29 := of_decide_eq_true h29
    refine W_t h29 rfl (am_ (J8 _ _ (Sq fun K9 J9 => aq_ (Rs fun K J => sE rfl (sE rfl (nl J (Rs fun K J => sE rfl (sE rfl (sE rfl (sQ (q_as (v' := .int .i64 ((f i).1)) (q_fn (x := i) rfl rfl (FnE.sub Hf sn) (by show ((i : Nat) : Int) < n; omega)) rfl) rfl (sQ (q_as (v' := AV [pI (o (f i))]) (q_fn (x := (f i)) rfl rfl (FnE.sub Ho sn) trivial) rfl) rfl (sN zp_38 rfl fun b30 hb30 => sS [pI (o (f i))] ty_38 rfl rfl rfl rfl rfl (.head _) rfl hb30 (nl J (Sq fun K10 J10 => Rs fun K J => ?_))))))))))))))
    refine sQ (qL ty_38 rfl m0 rfl) rfl (sQ (q_ret en_74 (fj_ (o (f i))) rfl) rfl (sE rfl (nl J ?_)))
    rcases bt (dX_ (o (f i))) with h31 | h31
    ·skip
     refine W_f (not_f h31) rfl (am_ (J10 _ _ (Rk fun K J => sE rfl (sQ (qL ty_38 rfl m0 rfl) rfl (WL_r rfl (az_ [[pI (o (f i))]] [pI (o (f i))] us_24 z_38 sz_38 rfl (by decide) rfl rfl ⟨rfl, rfl, rfl, trivial⟩ rfl (fun b32 hb32 => WL_r rfl (dN_ (e := elI) (l := out) (m := [(o (f i))]) 68 us_24 (by kernel_rfl) (by decide) rfl rfl hO_out (SLe.lit (e := elI) (l := [(o (f i))]) m0 rfl (Nat.le_of_ble_eq_true rfl) rfl) (fq_s (fq_s fq_l)) (by show (out.length + 1) * 68 ≤ _; omega) (by decide) (fun p33 c34 L35 hO36 => sE rfl (nl J (J9 _ _ (Rk fun K J => sV (.int .i64 (((i + 1) : Nat) : Int)) rfl (congrArg (Value.int .i64) (wx (by omega) (by omega) (by omega))) (sE rfl (nl J (⟨(by repeat first | exact .refl | refine .cons rfl ?_), _, _, (sA (sd (sd (s0)))), (Nat.lt_succ_self _), (out ++ [(o (f i))]), (i + 1), p33, c34, L35, (by exact (hT0.symm.trans (Eq.symm (bif_t h29 (bif_t h31 rfl)))).symm), (Nat.lt_of_lt_of_le (by first | omega | (simp only [List.length_append, List.length_cons, List.length_nil, List.length_set, List.length_take, and_true, true_and, or_true, true_or, Nat.zero_add] <;> omega)) (Nat.le_of_lt_succ hq0)), ⟨by omega, (by rw [List.length_append]; show _ + 1 = _; omega)⟩, ⟨rfl, rfl, hO36⟩, rfl⟩)))))))))))))))
    ·skip
     refine W_t (not_t h31) rfl (Rs fun K J => WL_r rfl (an_ (E := 38) (e := elI) (l := F_poly_bad) (fun v => v) en_76 rfl (fun w hw => bO_  w) (fun p37 c38 L39 hF40 => sE rfl (nl J (W_ret (aj_ (aX_ (aj_ (aj_ (aX_ (aj_ (aj_ (ret1 rfl (.inr rfl) rfl ?_)))))))))))))
     have hE : (F_poly_bad : (List I)) = (cm_ n f o) := by exact (sm_q rfl (hT0.symm.trans (Eq.symm (bif_t h29 (bif_f h31 rfl)))))
     rw [← hE]
     exact ⟨_, rfl, ⟨L39, (List.sublist_append_left _ _), hF40⟩⟩
   ·skip
    have ph29 := of_decide_eq_false h29
    refine W_f h29 rfl (bw_ (ap_ (ap_ (as_ (hK_u4 _ _ (by repeat first | exact .refl | refine .cons rfl ?_) ⟨_, s0, out, i, p_out, c_out, L_out, (by exact hT0.symm.trans (Eq.symm (bif_f h29 rfl))), ⟨rfl, rfl, hO_out⟩, rfl⟩)))))
 ·skip
  rintro g M ⟨out, i, p_out, c_out, L_out, hCu4, ⟨hg7, hg15, hO_out⟩, rfl⟩
  simp only [setG, hg7, hg15]
  clear hg7 hg15
  have hm_out := OwnG.max hO_out
  refine bD_ [7, 32, 33, 34, 35, 36, 37, 38, 39, 40, 41, 42, 43, 44, 45, 46, 47, 48, 49] (fun g M => ∃ (cut : List I) (p_cut : Option Addr) (c_cut : Nat) (L_cut : List Blk), (bR_ n f o out i ((out.length + 1)) out) = cut ∧ (g 7 = .slice p_cut cut.length c_cut ∧ OwnG w0 38 elI (.slice p_cut cut.length c_cut) cut L_cut) ∧ M = (L_cut ++ [])) (fun K_u41 hK_u41 => ?_) ?_
  ·skip
   refine aq_ ?_
   refine aL_ [7, 32, 33, 34, 35, 36, 37, 38, 39, 40, 41, 42, 43, 44, 45, 46, 47, 48, 49] (fun g nn M => ∃ (cut : List I) (p_cut : Option Addr) (c_cut : Nat) (L_cut : List Blk), (bR_ n f o out i nn cut) = (bR_ n f o out i ((out.length + 1)) out) ∧ cut.length < nn ∧ (True) ∧ (g 7 = .slice p_cut cut.length c_cut ∧ OwnG w0 38 elI (.slice p_cut cut.length c_cut) cut L_cut) ∧ M = (L_cut ++ [])) ((out.length + 1)) ?start ?round
   case start => exact ⟨_, s0, out, p_out, c_out, L_out, rfl, (Nat.lt_succ_self _), trivial, ⟨rfl, hO_out⟩, rfl⟩
   case round =>
    rintro nn g M ⟨cut, p_cut, c_cut, L_cut, hT1, hq1, hinv1, ⟨hg7, hO_cut⟩, rfl⟩
    obtain ⟨k1, rfl⟩ : ∃ m, nn = m + 1 := ⟨nn - 1, by omega⟩
    simp only [setG, hg7]
    clear hg7
    have hm_cut := OwnG.max hO_cut
    refine Sq fun K13 J13 => ?_
    refine bD_ [32, 33, 34, 35, 36, 37, 38, 39, 40, 41, 42, 43, 44] (fun g M => (g 44 = .bool (decide (0 < (((cut).length : Nat) : Int)) && ((Z.signW (cut.getD ((cut).length - 1) I0).dec).1 == 0))) ∧ M = (L_cut ++ [])) (fun K14 J14 => ?_) ?_
    ·skip
     refine Rk fun K J => sE rfl (sQ (q_as (v' := .int .i64 (((cut).length : Nat) : Int)) (aS_ (e := elI) sl_24 rfl (SLfe.sle (OwnG.slfe hO_cut (List.sublist_append_left _ _)))) rfl) rfl (sE rfl ?_))
     rcases bt (decide (0 < (((cut).length : Nat) : Int))) with h48 | h48
     ·skip
      have ph48 := of_decide_eq_true h48
      refine sB h48 rfl (sE rfl (sE rfl (sQ (q_as (v' := .int .i64 (((cut).length : Nat) : Int)) (aS_ (e := elI) sl_24 rfl (SLfe.sle (OwnG.slfe hO_cut (List.sublist_append_left _ _)))) rfl) rfl (sV (.int .i64 ((((cut).length : Nat) : Int) - 1)) rfl (congrArg (Value.int .i64) (wx (by omega) (by omega) (by omega))) (sQ (q_as (v' := .pointer (some (slb (.slice p_cut cut.length c_cut) (((cut).length - 1) * 18 + 0)))) (c4_ (e := elI) (l := cut) (k := ((cut).length - 1)) sl_24 rfl rfl (by omega) (SLfe.sle (OwnG.slfe hO_cut (List.sublist_append_left _ _))) (by first | omega | (simp only [List.length_set, List.length_append, List.length_cons, List.length_nil]; omega))) rfl) rfl ?_)))))
      refine sQ (q_ldG (e := elI) (l := cut) (k := ((cut).length - 1)) (o := 0) ty_38 rfl (SLfe.sle (OwnG.slfe hO_cut (List.sublist_append_left _ _))) (aA_ I0 (by first | omega | (simp only [List.length_set, List.length_append, List.length_cons, List.length_nil]; omega))) rfl) rfl ?_
      refine sC (.int .i64 ((Z.signW (cut.getD ((cut).length - 1) I0).dec).1)) en_32 (bK_ (cut.getD ((cut).length - 1) I0).1 (cut.getD ((cut).length - 1) I0).2) rfl rfl rfl (sE rfl (sE rfl (nl J ?_)))
      refine J14 _ _ (by repeat first | exact .refl | refine .cons rfl ?_) ⟨_, s0, ?s44, rfl⟩
      case s44 => exact congrArg Value.bool (and_t h48 rfl)
     ·skip
      have ph48 := of_decide_eq_false h48
      refine sB h48 rfl (WL_n rfl (WL_n rfl (WL_n rfl (WL_n rfl (WL_n rfl (WL_n rfl (WL_n rfl (WL_n rfl (sE rfl (nl J ?_))))))))))
      refine J14 _ _ (by repeat first | exact .refl | refine .cons rfl ?_) ⟨_, s0, ?s44, rfl⟩
      case s44 => exact congrArg Value.bool (and_f h48)
    ·skip
     rintro g49 M ⟨hg44, rfl⟩
     simp only [setG, hg44]
     clear hg44
     rcases bt (decide (0 < (((cut).length : Nat) : Int)) && ((Z.signW (cut.getD ((cut).length - 1) I0).dec).1 == 0)) with h50 | h50
     ·skip
      have ph51 := of_decide_eq_true (Bool.and_eq_true_iff.1 h50).1
      refine W_t h50 rfl (am_ (J13 _ _ (aq_ (Rk fun K J => sE rfl (sE rfl (sQ (q_as (v' := .int .i64 (((cut).length : Nat) : Int)) (aS_ (e := elI) sl_24 rfl (SLfe.sle (OwnG.slfe hO_cut (List.sublist_append_left _ _)))) rfl) rfl (sV (.int .i64 ((((cut).length : Nat) : Int) - 1)) rfl (congrArg (Value.int .i64) (wx (by omega) (by omega) (by omega))) (sQ (l9_ (e := elI) (l := cut) (k := ((cut).length - 1)) sl_24 rfl rfl (by omega) hO_cut (by omega)) rfl (sE rfl (nl J (⟨(by repeat first | exact .refl | refine .cons rfl ?_), _, _, s0, (Nat.lt_succ_self _), (cut.take ((cut).length - 1)), p_cut, c_cut, L_cut, (by exact (hT1.symm.trans (Eq.symm (bif_t h50 rfl))).symm), (Nat.lt_of_lt_of_le (by rw [List.length_take]; omega) (Nat.le_of_lt_succ hq1)), trivial, ⟨rfl, (OwnG.take hO_cut (by omega))⟩, rfl⟩)))))))))))
     ·skip
      refine W_f h50 rfl (bw_ (ap_ (ap_ (as_ (hK_u41 _ _ (by repeat first | exact .refl | refine .cons rfl ?_) ⟨_, s0, cut, p_cut, c_cut, L_cut, (by exact hT1.symm.trans (Eq.symm (bif_f h50 rfl))), ⟨rfl, hO_cut⟩, rfl⟩)))))
  ·skip
   rintro g M ⟨cut, p_cut, c_cut, L_cut, hCu41, ⟨hg7, hO_cut⟩, rfl⟩
   simp only [setG, hg7]
   clear hg7
   have hm_cut := OwnG.max hO_cut
   refine Sq fun K15 J15 => Rs fun K J => sE rfl (sQ (q_as (v' := .int .i64 (((cut).length : Nat) : Int)) (aS_ (e := elI) sl_24 rfl (SLfe.sle (OwnG.slfe hO_cut (List.sublist_append_left _ _)))) rfl) rfl (sE rfl (nl J ?_)))
   rcases bt (decide (25 < (((cut).length : Nat) : Int))) with h52 | h52
   ·skip
    have ph52 := of_decide_eq_true h52
    refine W_t h52 rfl (Rs fun K J => WL_r rfl (an_ (E := 38) (e := elI) (l := F_poly_bad) (fun v => v) en_76 rfl (fun w hw => bO_  w) (fun p53 c54 L55 hF56 => sE rfl (nl J (W_ret (aj_ (ret1 rfl (.inr rfl) rfl ?_)))))))
    have hE : (F_poly_bad : (List I)) = (cm_ n f o) := by exact trs (Eq.symm (smS hCu4)) (trs (Eq.symm (apS hCu41)) (bif_t h52 rfl))
    rw [← hE]
    exact ⟨_, rfl, ⟨L55, (List.sublist_append_left _ _), hF56⟩⟩
   ·skip
    have ph52 := of_decide_eq_false h52
    refine W_f h52 rfl (am_ (J15 _ _ (Rs fun K J => sE rfl (sE rfl (nl J (W_ret (ret1 rfl (.inr rfl) rfl ?_)))))))
    have hE : (cut : (List I)) = (cm_ n f o) := by exact trs (Eq.symm (smS hCu4)) (trs (Eq.symm (apS hCu41)) (bif_f h52 rfl))
    rw [← hE]
    exact ⟨_, rfl, ⟨L_cut, (List.sublist_append_left _ _), hO_cut⟩⟩

theorem iK_ (vl : Value) (l : (List I)) (vf : Value) (f : I → Bool) (w : World) (hl : Slr w elI vl l) (hf : FnV Tryz.prog w vf eI (fun _ => True) (outB f)) :
    Calls Tryz.prog 124 [vl, vf].toArray w (fun e w' => e = .returned (.int .i64 ((dV_ l f).1)) ∧ Ext w w') := by
 obtain ⟨p_l, c_l, rfl⟩ := hl.form
 obtain ⟨g_f, c_f, rfl, Hf⟩ := hf.open
 refine aU_ (N := 19) Tryz.func124 rfl rfl (by simp) ?_
 obtain ⟨w0, rfl⟩ : ∃ w0, w0 = w := ⟨_, rfl⟩
 have Hl := hl.old
 have hm_l := hl.max
 simp only [initF, Nat.reduceAdd]
 refine Rs fun K J => sE rfl (nl J (Sq fun K1 J1 => Rs fun K J => sE rfl (sQ (q_as (v' := .int .i64 (((l).length : Nat) : Int)) (aS_ (e := elI) sl_24 rfl (SLe.sub Hl sn)) rfl) rfl (sE rfl (nl J ?_)))))
 refine ch_ (fun S M h => J1 S M h) [4, 5, 8, 9, 10, 11, 12, 13, 14, 15, 16, 17, 18] (fun g M => ∃ (i : Nat), (bU_ l f ((l.length + 1)) 0) = .inl i ∧ (g 8 = .int .i64 ((i : Nat) : Int)) ∧ M = []) (fun K_u1 hK_u1 => ?_) ?_
 ·skip
  refine aq_ ?_
  refine aL_ [4, 5, 8, 9, 10, 11, 12, 13, 14, 15, 16, 17, 18] (fun g nn M => ∃ (i : Nat), (bU_ l f nn i) = (bU_ l f ((l.length + 1)) 0) ∧ l.length - i < nn ∧ (i ≤ l.length) ∧ (g 8 = .int .i64 ((i : Nat) : Int)) ∧ M = []) ((l.length + 1)) ?start ?round
  case start => exact ⟨_, s0, 0, rfl, (by first | omega | (simp only [List.length_append, List.length_cons, List.length_nil, List.length_set, List.length_take, and_true, true_and, or_true, true_or, Nat.zero_add] <;> omega)), (by first | omega | (simp only [List.length_append, List.length_cons, List.length_nil, List.length_set, List.length_take, and_true, true_and, or_true, true_or, Nat.zero_add] <;> omega)), rfl, rfl⟩
  case round =>
   rintro nn g M ⟨i, hT0, hq0, hinv0, hg8, rfl⟩
   obtain ⟨k0, rfl⟩ : ∃ m, nn = m + 1 := ⟨nn - 1, by omega⟩
   simp only [setG, hg8]
   clear hg8
   refine Rs fun K J => sE rfl (nl J (Sq fun K6 J6 => ?_))
   rcases bt (decide (((i : Nat) : Int) < (((l).length : Nat) : Int))) with h6 | h6
   ·skip
    have ph6 := of_decide_eq_true h6
    refine W_t h6 rfl (am_ (J6 _ _ (Sq fun K7 J7 => aq_ (Rs fun K J => sE rfl (sE rfl (nl J (Rs fun K J => sE rfl (sE rfl (sE rfl (sQ (q_as (v' := .pointer (some (slb (.slice p_l l.length c_l) (i * 18 + 0)))) (cp_ (e := elI) (l := l) (k := i) sl_24 rfl rfl (SLe.sub Hl sn) (by first | omega | (simp only [List.length_set, List.length_append, List.length_cons, List.length_nil]; omega))) rfl) rfl ?_))))))))))
    refine sQ (q_ldG (e := elI) (l := l) (k := i) (o := 0) ty_38 rfl (SLe.sub Hl sn) (aA_ I0 (by first | omega | (simp only [List.length_set, List.length_append, List.length_cons, List.length_nil]; omega))) rfl) rfl ?_
    refine sQ (q_as (v' := .bool (f (l.getD i I0))) (q_fn (x := (l.getD i I0)) rfl rfl (FnE.sub Hf sn) trivial) rfl) rfl (nl J ?_)
    rcases bt (f (l.getD i I0)) with h7 | h7
    ·skip
     refine W_t h7 rfl (Rs fun K J => sE rfl (sE rfl (nl J (W_ret (aX_ (aj_ (aj_ (aX_ (aj_ (aj_ (ret1 rfl (.inr rfl) rfl ?_)))))))))))
     refine (show (.int .i64 ((i : Nat) : Int) : Value) = .int .i64 ((W.cv ((i : Nat) : Int)).1) by simp only [cvE (t := ((i : Nat) : Int)) (by omega)]).trans ?_
     exact (by exact congrArg (fun r : W => (.int .i64 r.1 : Value)) (show _ = (dV_ l f) from (sm_q rfl (hT0.symm.trans (Eq.symm (bif_t h6 (bif_t h7 rfl)))))))
    ·skip
     refine W_f h7 rfl (am_ (J7 _ _ (Rk fun K J => sV (.int .i64 (((i + 1) : Nat) : Int)) rfl (congrArg (Value.int .i64) (wx (by omega) (by omega) (by omega))) (sE rfl (nl J (⟨(by repeat first | exact .refl | refine .cons rfl ?_), _, _, s0, (Nat.lt_succ_self _), (i + 1), (by exact (hT0.symm.trans (Eq.symm (bif_t h6 (bif_f h7 rfl)))).symm), (Nat.lt_of_lt_of_le (by first | omega | (simp only [List.length_append, List.length_cons, List.length_nil, List.length_set, List.length_take, and_true, true_and, or_true, true_or, Nat.zero_add] <;> omega)) (Nat.le_of_lt_succ hq0)), (by first | omega | (simp only [List.length_append, List.length_cons, List.length_nil, List.length_set, List.length_take, and_true, true_and, or_true, true_or, Nat.zero_add] <;> omega)), rfl, rfl⟩))))))
   ·skip
    have ph6 := of_decide_eq_false h6
    refine W_f h6 rfl (bw_ (ap_ (ap_ (as_ (hK_u1 _ _ (by repeat first | exact .refl | refine .cons rfl ?_) ⟨_, s0, i, (by exact hT0.symm.trans (Eq.symm (bif_f h6 rfl))), rfl, rfl⟩)))))
 ·skip
  rintro g M ⟨i, hCu1, hg8, rfl⟩
  simp only [setG, hg8]
  clear hg8
  refine Rs fun K J => sE rfl (nl J (W_ret (ret1 rfl (.inr rfl) rfl ?_)))
  exact (by exact congrArg (fun r : W => (.int .i64 r.1 : Value)) (show _ = (dV_ l f) from trs (Eq.symm (smS hCu1)) rfl))

theorem g5_ (vl : Value) (l : (List I)) (vf : Value) (f : I → Bool) (w : World) (hl : Slr w elI vl l) (hf : FnV Tryz.prog w vf eI (fun _ => True) (outB f)) :
    Calls Tryz.prog 72 [vl, vf].toArray w (fun e w' => e = .returned (.bool (do_ l f)) ∧ Ext w w') := by
 obtain ⟨p_l, c_l, rfl⟩ := hl.form
 obtain ⟨g_f, c_f, rfl, Hf⟩ := hf.open
 refine aU_ (N := 9) Tryz.func72 rfl rfl (by simp) ?_
 obtain ⟨w0, rfl⟩ : ∃ w0, w0 = w := ⟨_, rfl⟩
 have Hl := hl.old
 have hm_l := hl.max
 simp only [initF, Nat.reduceAdd]
 refine Rs fun K J => sE rfl (nl J (Rs fun K J => sE rfl (sE rfl (sQ (q_as (v' := .int .i64 ((dV_ l f).1)) (aH_ re_ rfl (fun w hw => iK_ _ l _ f w (SLe.ap hw (SLe.sub Hl sn)) (FnE.ap hw (FnE.sub Hf sn)))) rfl) rfl (sE rfl (sE rfl (nl J (W_ret (ret1 rfl (.inr rfl) rfl ?_)))))))))
 exact (by rfl)

theorem g7_ (a : I) :
    Ret Tryz.prog 73 [AV [pI a]] (.bool (d7_ a)) := by
 refine aM_ (N := 6) Tryz.func73 rfl rfl (by simp) (fun w0 => ?_)
 simp only [initF, Nat.reduceAdd]
 refine Rs fun K J => WL_r rfl (cG_ rfl rfl (fun b1 hb1 => sE rfl (nl J (Rs fun K J => sQ (qL ty_38 rfl m0 rfl) rfl (sQ (q_ret en_74 (fj_ a) rfl) rfl (sE rfl (sE rfl (nl J (W_ret (ret1 rfl (.inr rfl) rfl ?_))))))))))
 exact (by rfl)

theorem aC_ (vp : Value) (p : (List I)) (w : World) (hp : Slr w elI vp p) :
    Calls Tryz.prog 18 [vp].toArray w (fun e w' => e = .returned (.bool (ae_ p)) ∧ Ext w w') := by
 obtain ⟨p_p, c_p, rfl⟩ := hp.form
 refine aU_ (N := 5) Tryz.func18 rfl rfl (by simp) ?_
 obtain ⟨w0, rfl⟩ : ∃ w0, w0 = w := ⟨_, rfl⟩
 have Hp := hp.old
 have hm_p := hp.max
 simp only [initF, Nat.reduceAdd]
 refine Rs fun K J => sE rfl (nl J (Rs fun K J => sE rfl (sQ (q_as (v' := .bool (do_ p (fun (y : I) => (d7_ y)))) (aH_ en_72 rfl (fun w hw => g5_ _ p _ (fun (y : I) => (d7_ y)) w (SLe.ap hw (SLe.sub Hp sn)) (FnV.mk hw en_73 (fun w hw x hx => (g7_ x) w)))) rfl) rfl (sE rfl (nl J (W_ret (ret1 rfl (.inr rfl) rfl ?_)))))))
 exact (by rfl)

theorem h4_ (vl : Value) (l : (List Rt)) (vf : Value) (f : Rt → Bool) (w : World) (hl : Slr w elRt vl l) (hf : FnV Tryz.prog w vf eRt (fun _ => True) (outB f)) :
    Calls Tryz.prog 165 [vl, vf].toArray w (fun e w' => e = .returned (.int .i64 ((ef_ l f).1)) ∧ Ext w w') := by
 obtain ⟨p_l, c_l, rfl⟩ := hl.form
 obtain ⟨g_f, c_f, rfl, Hf⟩ := hf.open
 refine aU_ (N := 19) Tryz.func165 rfl rfl (by simp) ?_
 obtain ⟨w0, rfl⟩ : ∃ w0, w0 = w := ⟨_, rfl⟩
 have Hl := hl.old
 have hm_l := hl.max
 simp only [initF, Nat.reduceAdd]
 refine Rs fun K J => sE rfl (nl J (Sq fun K1 J1 => Rs fun K J => sE rfl (sQ (q_as (v' := .int .i64 (((l).length : Nat) : Int)) (aS_ (e := elRt) ox_ rfl (SLe.sub Hl sn)) rfl) rfl (sE rfl (nl J ?_)))))
 refine ch_ (fun S M h => J1 S M h) [4, 5, 8, 9, 10, 11, 12, 13, 14, 15, 16, 17, 18] (fun g M => ∃ (i : Nat), (cz_ l f ((l.length + 1)) 0) = .inl i ∧ (g 8 = .int .i64 ((i : Nat) : Int)) ∧ M = []) (fun K_u1 hK_u1 => ?_) ?_
 ·skip
  refine aq_ ?_
  refine aL_ [4, 5, 8, 9, 10, 11, 12, 13, 14, 15, 16, 17, 18] (fun g nn M => ∃ (i : Nat), (cz_ l f nn i) = (cz_ l f ((l.length + 1)) 0) ∧ l.length - i < nn ∧ (i ≤ l.length) ∧ (g 8 = .int .i64 ((i : Nat) : Int)) ∧ M = []) ((l.length + 1)) ?start ?round
  case start => exact ⟨_, s0, 0, rfl, (by first | omega | (simp only [List.length_append, List.length_cons, List.length_nil, List.length_set, List.length_take, and_true, true_and, or_true, true_or, Nat.zero_add] <;> omega)), (by first | omega | (simp only [List.length_append, List.length_cons, List.length_nil, List.length_set, List.length_take, and_true, true_and, or_true, true_or, Nat.zero_add] <;> omega)), rfl, rfl⟩
  case round =>
   rintro nn g M ⟨i, hT0, hq0, hinv0, hg8, rfl⟩
   obtain ⟨k0, rfl⟩ : ∃ m, nn = m + 1 := ⟨nn - 1, by omega⟩
   simp only [setG, hg8]
   clear hg8
   refine Rs fun K J => sE rfl (nl J (Sq fun K6 J6 => ?_))
   rcases bt (decide (((i : Nat) : Int) < (((l).length : Nat) : Int))) with h6 | h6
   ·skip
    have ph6 := of_decide_eq_true h6
    refine W_t h6 rfl (am_ (J6 _ _ (Sq fun K7 J7 => aq_ (Rs fun K J => sE rfl (sE rfl (nl J (Rs fun K J => sE rfl (sE rfl (sE rfl (sQ (q_as (v' := .pointer (some (slb (.slice p_l l.length c_l) (i * 36 + 0)))) (cp_ (e := elRt) (l := l) (k := i) ox_ rfl rfl (SLe.sub Hl sn) (by first | omega | (simp only [List.length_set, List.length_append, List.length_cons, List.length_nil]; omega))) rfl) rfl ?_))))))))))
    refine sQ (q_ldG (e := elRt) (l := l) (k := i) (o := 0) ty_44 rfl (SLe.sub Hl sn) (aA_ Rt0 (by first | omega | (simp only [List.length_set, List.length_append, List.length_cons, List.length_nil]; omega))) rfl) rfl ?_
    refine sQ (q_as (v' := .bool (f (l.getD i Rt0))) (q_fn (x := (l.getD i Rt0)) rfl rfl (FnE.sub Hf sn) trivial) rfl) rfl (nl J ?_)
    rcases bt (f (l.getD i Rt0)) with h7 | h7
    ·skip
     refine W_t h7 rfl (Rs fun K J => sE rfl (sE rfl (nl J (W_ret (aX_ (aj_ (aj_ (aX_ (aj_ (aj_ (ret1 rfl (.inr rfl) rfl ?_)))))))))))
     refine (show (.int .i64 ((i : Nat) : Int) : Value) = .int .i64 ((W.cv ((i : Nat) : Int)).1) by simp only [cvE (t := ((i : Nat) : Int)) (by omega)]).trans ?_
     exact (by exact congrArg (fun r : W => (.int .i64 r.1 : Value)) (show _ = (ef_ l f) from (sm_q rfl (hT0.symm.trans (Eq.symm (bif_t h6 (bif_t h7 rfl)))))))
    ·skip
     refine W_f h7 rfl (am_ (J7 _ _ (Rk fun K J => sV (.int .i64 (((i + 1) : Nat) : Int)) rfl (congrArg (Value.int .i64) (wx (by omega) (by omega) (by omega))) (sE rfl (nl J (⟨(by repeat first | exact .refl | refine .cons rfl ?_), _, _, s0, (Nat.lt_succ_self _), (i + 1), (by exact (hT0.symm.trans (Eq.symm (bif_t h6 (bif_f h7 rfl)))).symm), (Nat.lt_of_lt_of_le (by first | omega | (simp only [List.length_append, List.length_cons, List.length_nil, List.length_set, List.length_take, and_true, true_and, or_true, true_or, Nat.zero_add] <;> omega)) (Nat.le_of_lt_succ hq0)), (by first | omega | (simp only [List.length_append, List.length_cons, List.length_nil, List.length_set, List.length_take, and_true, true_and, or_true, true_or, Nat.zero_add] <;> omega)), rfl, rfl⟩))))))
   ·skip
    have ph6 := of_decide_eq_false h6
    refine W_f h6 rfl (bw_ (ap_ (ap_ (as_ (hK_u1 _ _ (by repeat first | exact .refl | refine .cons rfl ?_) ⟨_, s0, i, (by exact hT0.symm.trans (Eq.symm (bif_f h6 rfl))), rfl, rfl⟩)))))
 ·skip
  rintro g M ⟨i, hCu1, hg8, rfl⟩
  simp only [setG, hg8]
  clear hg8
  refine Rs fun K J => sE rfl (nl J (W_ret (ret1 rfl (.inr rfl) rfl ?_)))
  exact (by exact congrArg (fun r : W => (.int .i64 r.1 : Value)) (show _ = (ef_ l f) from trs (Eq.symm (smS hCu1)) rfl))

theorem gT_ (vl : Value) (l : (List Rt)) (vf : Value) (f : Rt → Bool) (w : World) (hl : Slr w elRt vl l) (hf : FnV Tryz.prog w vf eRt (fun _ => True) (outB f)) :
    Calls Tryz.prog 150 [vl, vf].toArray w (fun e w' => e = .returned (.bool (eC_ l f)) ∧ Ext w w') := by
 obtain ⟨p_l, c_l, rfl⟩ := hl.form
 obtain ⟨g_f, c_f, rfl, Hf⟩ := hf.open
 refine aU_ (N := 9) Tryz.func150 rfl rfl (by simp) ?_
 obtain ⟨w0, rfl⟩ : ∃ w0, w0 = w := ⟨_, rfl⟩
 have Hl := hl.old
 have hm_l := hl.max
 simp only [initF, Nat.reduceAdd]
 refine Rs fun K J => sE rfl (nl J (Rs fun K J => sE rfl (sE rfl (sQ (q_as (v' := .int .i64 ((ef_ l f).1)) (aH_ qC_ rfl (fun w hw => h4_ _ l _ f w (SLe.ap hw (SLe.sub Hl sn)) (FnE.ap hw (FnE.sub Hf sn)))) rfl) rfl (sE rfl (sE rfl (nl J (W_ret (ret1 rfl (.inr rfl) rfl ?_)))))))))
 exact (by rfl)

theorem hB_ (a : Rt) :
    Ret Tryz.prog 151 [AV [pI a.n, pI a.d]] (.bool (et_ a)) := by
 refine aM_ (N := 6) Tryz.func151 rfl rfl (by simp) (fun w0 => ?_)
 simp only [initF, Nat.reduceAdd]
 refine Rs fun K J => WL_r rfl (cG_ rfl rfl (fun b1 hb1 => sE rfl (nl J (Rs fun K J => sQ (qL ty_44 rfl m0 rfl) rfl (sQ (q_ret kX_ (d5_ a) rfl) rfl (sE rfl (sE rfl (nl J (W_ret (ret1 rfl (.inr rfl) rfl ?_))))))))))
 exact (by rfl)

theorem fa_ (vl : Value) (l : (List Rt)) (w : World) (hl : Slr w elRt vl l) :
    Calls Tryz.prog 116 [vl].toArray w (fun e w' => e = .returned (.bool (b7_ l)) ∧ Ext w w') := by
 obtain ⟨p_l, c_l, rfl⟩ := hl.form
 refine aU_ (N := 6) Tryz.func116 rfl rfl (by simp) ?_
 obtain ⟨w0, rfl⟩ : ∃ w0, w0 = w := ⟨_, rfl⟩
 have Hl := hl.old
 have hm_l := hl.max
 simp only [initF, Nat.reduceAdd]
 refine Rs fun K J => sE rfl (nl J (Rs fun K J => sE rfl (sQ (q_as (v' := .bool (eC_ l (fun (y : Rt) => (et_ y)))) (aH_ qT_ rfl (fun w hw => gT_ _ l _ (fun (y : Rt) => (et_ y)) w (SLe.ap hw (SLe.sub Hl sn)) (FnV.mk hw qS_ (fun w hw x hx => (hB_ x) w)))) rfl) rfl (sE rfl (sE rfl (nl J (W_ret (ret1 rfl (.inr rfl) rfl ?_))))))))
 exact (by rfl)
end Go.Proofs.YtjdfogfmeibkgaaGreat

