/- The square root by Newton's steps. No program stands in it. Walks: what these functions return. -/
import Derived.Test.YtapbefpeopaecaaGreatDoorYFn
import Derived.KernelRfl
import Derived.Test.YtapbefpeopaecaaGreatDoorYGE
import Derived.Test.YtapbefpeopaecaaGreatDoorYWa
import Derived.Test.YtapbefpeopaecaaGreatDoorYWc
import Derived.Test.YtapbefpeopaecaaGreatDoorYWd
import Derived.Test.YtapbefpeopaecaaGreatDoorYWh
import Derived.Test.YtapbefpeopaecaaGreatDoorYVd

set_option linter.unusedVariables false
set_option linter.unusedSimpArgs false
namespace Go.Num
open Go Go.Kn
theorem nT_ (a : I) : cH_ [a] = a.1.good := by
  unfold cH_ cM_ cM_ R.good
  cases a.1.bad <;> cases a.1.valid <;> rfl
/-- r lies between the root of a, rounded down, and 2^256. -/
def hA_ (a m : I) : Prop := ∃ v r : Nat, a.dec = Z.of (v : Int) ∧ 0 < v ∧ v < 4294967296 ^ 16 ∧ m = E (Z.of (r : Int)) ∧ isqrt v ≤ r ∧ 0 < r ∧ r ≤ 2 ^ 256
theorem qo_ {m k : Nat} (hm : 4294967296 ^ 16 = 2 ^ m) (hk : m = k + k) : (4294967296 : Nat) ^ 16 = 2 ^ k * 2 ^ k := by rw [hm, hk, Nat.pow_add]
theorem sq256 : (4294967296 : Nat) ^ 16 = 2 ^ 256 * 2 ^ 256 := qo_ hV_ rfl
theorem kI_ {v : Nat} (h : 0 < v) (hv : v < 4294967296 ^ 16) : 0 < isqrt v := by
  have := (ej_ hv).2
  rcases Nat.eq_zero_or_pos (isqrt v) with h0 | h0
  · rw [h0] at this; omega
  · exact h0
theorem oK_ {v : Nat} (hv : v < 4294967296 ^ 16) : isqrt v < 2 ^ 256 := by
  have := (ej_ hv).1
  rw [sq256] at hv
  generalize 2 ^ 256 = q at *
  rcases Nat.lt_or_ge (isqrt v) q with h | h
  · exact h
  · have := Nat.mul_le_mul h h; omega
/-- One step of Newton's. -/
theorem r3_ {v r s : Nat} (h1 : s * s ≤ v) (h2 : v < (s + 1) * (s + 1)) (hs : 0 < s) (hr : s ≤ r) : s ≤ (r + v / r) / 2 ∧ v / r ≤ s + 2 ∧ (r ≤ (r + v / r) / 2 → r = s) := by
  have r0 : 0 < r := by omega
  have q1 : r * (v / r) ≤ v := Nat.mul_div_le v r
  have q2 : v < r * (v / r + 1) := by rw [Nat.mul_add, Nat.mul_one]; exact Nat.lt_mul_div_succ v r0
  generalize v / r = q at *
  have e1 : (s + 1) * (s + 1) = s * s + 2 * s + 1 := by rw [Nat.add_mul, Nat.mul_add]; omega
  refine ⟨?_, ?_, ?_⟩
  · rw [Nat.le_div_iff_mul_le (by decide)]
    rcases Nat.lt_or_ge (r + q) (s * 2) with h | h
    · exfalso
      obtain ⟨d, rfl⟩ : ∃ d, r = s + d := ⟨r - s, by omega⟩
      have hq : q + 1 ≤ s - d := by omega
      have hd : d ≤ s := by omega
      have h3 := Nat.mul_le_mul_left (s + d) hq
      have h4 : (s + d) * (s - d) ≤ s * s := by
        obtain ⟨t, rfl⟩ : ∃ t, s = d + t := ⟨s - d, by omega⟩
        rw [Nat.add_sub_cancel_left]
        have : (d + t) * (d + t) = (d + t + d) * t + d * d := by grind
        omega
      omega
    · omega
  · rcases Nat.lt_or_ge (s + 2) q with h | h
    · exfalso
      have h3 := Nat.mul_le_mul hr (show s + 3 ≤ q by omega)
      have : s * (s + 3) = s * s + 3 * s := by grind
      omega
    · exact h
  · intro h
    have h3 : r ≤ q := by rw [Nat.le_div_iff_mul_le (by decide)] at h; omega
    have h4 := Nat.mul_le_mul_left r h3
    rcases Nat.lt_or_ge s r with h5 | h5
    · have := kw_ h5; omega
    · omega
theorem nB {n : Nat} (h : n < 4294967296 ^ 16) : (n : Int).natAbs < 4294967296 ^ 16 := by rwa [Int.natAbs_natCast]
theorem jq_ : (2 : Nat) ^ 256 + 2 ^ 256 + 2 < 4294967296 ^ 16 := by decide +kernel
/-- what a step computes -/
theorem i9_ {a m : I} (h : hA_ a m) : ∃ v r : Nat, a.dec = Z.of (v : Int) ∧ 0 < v ∧ v < 4294967296 ^ 16 ∧ m.dec = Z.of (r : Int) ∧ isqrt v ≤ r ∧ 0 < r ∧ r ≤ 2 ^ 256 ∧ r < 4294967296 ^ 16 ∧ m = E (Z.of (r : Int)) ∧
    Z.add m.dec (Z.quo a.dec m.dec) = Z.of ((r + v / r : Nat) : Int) ∧ r + v / r < 4294967296 ^ 16 ∧ Z.half (Z.add m.dec (Z.quo a.dec m.dec)) = Z.of (((r + v / r) / 2 : Nat) : Int) ∧ isqrt v ≤ (r + v / r) / 2 ∧ (r + v / r) / 2 ≤ 2 ^ 256 ∧ (r ≤ (r + v / r) / 2 → r = isqrt v) := by
  obtain ⟨v, r, ha, hv, hv2, rfl, h1, h2, h3⟩ := h
  have s0 := kI_ hv hv2
  have s1 := oK_ hv2
  obtain ⟨n1, n2, n3⟩ := r3_ (ej_ hv2).1 (ej_ hv2).2 s0 h1
  have hb := jq_
  have r1 : r < 4294967296 ^ 16 := by omega
  have q1 : v / r < 4294967296 ^ 16 := by omega
  have t1 : r + v / r < 4294967296 ^ 16 := by omega
  have e1 : Z.quo (Z.of (v : Int)) (Z.of (r : Int)) = Z.of ((v / r : Nat) : Int) := by
    unfold Z.quo
    rw [a4_ (Z.of_some (nB hv2)) (Z.of_some (nB r1)), if_neg (by omega)]
    congr 1
    rw [Int.fdiv_eq_ediv_of_nonneg _ (by omega)]; rfl
  have e2 : Z.add (Z.of (r : Int)) (Z.of ((v / r : Nat) : Int)) = Z.of ((r + v / r : Nat) : Int) := by
    unfold Z.add
    rw [a4_ (Z.of_some (nB r1)) (Z.of_some (nB q1))]
    congr 1
  have e3 : Z.half (Z.of ((r + v / r : Nat) : Int)) = Z.of (((r + v / r) / 2 : Nat) : Int) := by
    unfold Z.half
    rw [cx_ (Z.of_some (nB t1))]
    congr 1
  refine ⟨v, r, ha, hv, hv2, by rw [E_dec], h1, h2, h3, r1, rfl, ?_, t1, ?_, n1, ?_, n3⟩
  · rw [ha, E_dec, e1, e2]
  · rw [ha, E_dec, e1, e2, e3]
  · generalize 2 ^ 256 = q at *; omega
theorem lP_ {n : Nat} (h : n < 4294967296 ^ 16) : (E (Z.of (n : Int))).1.neg = false := by
  show (Z.of (n : Int)).enc.neg = false
  unfold Z.enc
  rw [Z.of_some (nB h)]
  exact decide_eq_false (show ¬ ((n : Int) < 0) by omega)
theorem qr_ {a m : I} (h : hA_ a m) : (E (Z.add m.dec (Z.quo a.dec m.dec))).1.neg = false := by
  obtain ⟨v, r, _, _, _, _, _, _, _, _, _, e, t, _⟩ := i9_ h
  rw [e]; exact lP_ t
theorem j5_ {a m : I} (h : hA_ a m) : hA_ a (E (Z.half (Z.add m.dec (Z.quo a.dec m.dec)))) := by
  obtain ⟨v, r, ha, hv, hv2, _, _, _, _, _, _, _, _, e, n1, n2, _⟩ := i9_ h
  have := kI_ hv hv2
  exact ⟨v, (r + v / r) / 2, ha, hv, hv2, by rw [e], n1, by omega, n2⟩
theorem pT_ {n : Nat} (h : n < 4294967296 ^ 16) : Z.nat (Z.of (n : Int)) = n := by
  unfold Z.nat
  rw [Z.of_some (nB h)]; exact Int.natAbs_natCast n
theorem lG_ {m n : Nat} (hm : m < 4294967296 ^ 16) (hn : n < 4294967296 ^ 16) : decide (0 ≤ (Z.cmpW (Z.of (m : Int)) (Z.of (n : Int))).1) = decide (n ≤ m) := by
  congr 1
  show (0 ≤ Z.cmp (Z.of (m : Int)) (Z.of (n : Int))) = _
  unfold Z.cmp
  rw [Z.of_some (nB hm), Z.of_some (nB hn)]
  simp only
  unfold cmpI
  apply propext
  constructor
  · intro h
    split at h
    · omega
    · split at h <;> omega
  · intro h
    split
    · omega
    · split <;> omega
theorem lx_ {a m : I} (h : hA_ a m) (hc : decide (0 ≤ (Z.cmpW (Z.half (Z.add m.dec (Z.quo a.dec m.dec))) m.dec).1) = false) : Z.nat (E (Z.half (Z.add m.dec (Z.quo a.dec m.dec)))).dec < Z.nat m.dec := by
  obtain ⟨v, r, ha, hv, hv2, hm, _, _, _, r1, _, _, t, e, n1, n2, _⟩ := i9_ h
  have hb := jq_
  have t1 : (r + v / r) / 2 < 4294967296 ^ 16 := by omega
  rw [e, hm, lG_ t1 r1] at hc
  have := of_decide_eq_false hc
  rw [e, hm, E_dec, pT_ t1, pT_ r1]; omega
theorem pD_ (a : I) : (W.quo (W.add (Z.bitsW a.dec) (wl 1)) (wl 2)).1 = (((a.dec.bits + 1) / 2 : Nat) : Int) := by
  have h := Z.bits_le a.dec
  have e1 : (W.add (Z.bitsW a.dec) (wl 1)).1 = ((a.dec.bits + 1 : Nat) : Int) := by
    show IntKind.i64.wrap (((Z.bits a.dec : Nat) : Int) + 1) = _
    rw [wi (by omega)]; rfl
  show IntKind.i64.wrap ((W.add (Z.bitsW a.dec) (wl 1)).1.tdiv 2) = _
  rw [e1, Int.tdiv_eq_ediv_of_nonneg (by omega)]
  rw [wi (by omega)]; rfl
theorem p6_ (a : I) : 0 ≤ (W.quo (W.add (Z.bitsW a.dec) (wl 1)) (wl 2)).1 := by rw [pD_]; omega
theorem iF_ {a : I} (h1 : (!(cH_ [a]) || a.1.neg) = false) (h2 : ((Z.signW a.dec).1 == 0) = false) : hA_ a (E (Z.shl (Z.of 1) (W.quo (W.add (Z.bitsW a.dec) (wl 1)) (wl 2)).1)) := by
  rw [nT_, Bool.or_eq_false_iff, Bool.not_eq_false'] at h1
  obtain ⟨ga, hn⟩ := h1
  have hv := val_B a.2
  have ea : a.dec = Z.of ((val a.1.w : Nat) : Int) := by
    show a.1.dec = _
    unfold R.dec
    rw [if_pos ga, hn]; rfl
  have v0 : 0 < val a.1.w := by
    rcases Nat.eq_zero_or_pos (val a.1.w) with h | h
    · exfalso
      rw [ea, h] at h2
      revert h2; decide +kernel
    · exact h
  have eb : a.dec.bits = bl (val a.1.w) := hQ_ a.2 ga
  have hbl := Z.bits_le a.dec
  have hk : (a.dec.bits + 1) / 2 ≤ 256 := by omega
  have hlt : val a.1.w < 2 ^ ((a.dec.bits + 1) / 2) * 2 ^ ((a.dec.bits + 1) / 2) := by
    rw [← Nat.pow_add]
    refine Nat.lt_of_lt_of_le (bl_lt _) (Nat.pow_le_pow_right (by decide) ?_)
    rw [← eb]; omega
  have hle : 2 ^ ((a.dec.bits + 1) / 2) ≤ 2 ^ 256 := Nat.pow_le_pow_right (by decide) hk
  have hp : 0 < 2 ^ ((a.dec.bits + 1) / 2) := Nat.pow_pos (by decide)
  refine ⟨val a.1.w, 2 ^ ((a.dec.bits + 1) / 2), ea, v0, hv, ?_, ?_, hp, hle⟩
  · rw [pD_]
    congr 1
    unfold Z.shl
    rw [cx_ (Z.of_some (by decide)), Int.toNat_natCast, Int.one_mul]
    congr 1
  · have := (ej_ hv).1
    generalize 2 ^ ((a.dec.bits + 1) / 2) = q at *
    rcases Nat.lt_or_ge q (isqrt (val a.1.w)) with h | h
    · have := Nat.mul_le_mul (Nat.le_of_lt h) (Nat.le_of_lt h); omega
    · exact h
theorem jN_ (a : I) : ∀ (k : Nat) (m : I), hA_ a m → Z.nat m.dec < k → c2_ a k m = .inr (E (Z.sqrt a.dec))
  | 0, m, _, h => absurd h (Nat.not_lt_zero _)
  | k + 1, m, h, hk => by
    unfold c2_
    cases hc : decide (0 ≤ (Z.cmpW (Z.half (Z.add m.dec (Z.quo a.dec m.dec))) m.dec).1) with
    | false => rw [cond_false]; exact jN_ a k _ (j5_ h) (by have := lx_ h hc; omega)
    | true =>
      obtain ⟨v, r, ha, hv, hv2, hm, _, _, _, r1, hm2, _, t, e, n1, n2, n3⟩ := i9_ h
      have hb := jq_
      have t1 : (r + v / r) / 2 < 4294967296 ^ 16 := by omega
      rw [e, hm, lG_ t1 r1] at hc
      have hr := n3 (of_decide_eq_true hc)
      rw [cond_true, hm2, ha]
      unfold Z.sqrt
      rw [cx_ (Z.of_some (nB hv2)), decide_eq_false (by omega), cond_false, Int.toNat_natCast, ← hr]
theorem qg_ (a : I) : cQ_ a = E (Z.sqrt a.dec) := by
  unfold cQ_
  cases h1 : (!(cH_ [a]) || a.1.neg) with
  | true =>
    rw [cond_true]
    rw [nT_, Bool.or_eq_true, Bool.not_eq_true'] at h1
    cases ga : a.1.good with
    | false => exact congrArg E (ov_ ga).symm
    | true =>
      rw [ga] at h1
      exact congrArg E (oW_ a.2 ga (by simpa using h1)).symm
  | false =>
    rw [cond_false]
    cases h2 : ((Z.signW a.dec).1 == 0) with
    | true =>
      rw [cond_true]
      have h1' := h1
      rw [nT_, Bool.or_eq_false_iff, Bool.not_eq_false'] at h1'
      obtain ⟨ga, hn⟩ := h1'
      have hz : a.1.dec.sign = 0 := beq_iff_eq.1 h2
      have hv : val a.1.w = 0 := by
        rcases Nat.eq_zero_or_pos (val a.1.w) with h | h
        · exact h
        · exact absurd hz (fun hz => by
            unfold Z.sign at hz
            rw [aX_ a.2 ga, hn] at hz
            have := Int.sign_eq_zero_iff_zero.1 hz
            have e : sgn false (val a.1.w) = ((val a.1.w : Nat) : Int) := rfl
            omega)
      have := mu_ (r := 0) a.2 ga hn (by omega) (by omega)
      have e2 : a = E (Z.of 0) := by
        have h3 := ja_ a.2 ga
        have h4 : a.1.dec = Z.of 0 := by
          unfold R.dec
          rw [if_pos ga, hn, hv]; rfl
        rw [h4] at h3
        exact (Subtype.ext h3).symm
      conv => lhs; rw [e2]
      exact congrArg E this
    | false =>
      rw [cond_false, jN_ a _ _ (iF_ h1 h2) (Nat.lt_succ_self _)]; rfl
end Go.Num

namespace Go.Proofs.YtapbefpeopaecaaGreatDoor
open Go.Kn Go.Num
set_option linter.unusedVariables false
set_option linter.unusedSimpArgs false
set_option maxRecDepth 20000
set_option maxHeartbeats 8000000
theorem h1_ (a : R) (ha : a.Ok) (m : Nat) (hm : (m : Int) ≤ 9223372036854775807) :
    Ret Tryz.prog 95 [RV a, .int .i64 (m : Int)] (RV (Z.shl a.dec (m : Int)).enc) := by
 refine av_ (N := 75) Tryz.func95 rfl rfl (by simp) (fun w0 => ?_)
 simp only [initF, Nat.reduceAdd]
 refine Sq fun K1 J1 => Rk fun K J => WL_r rfl (r_box rfl rfl (fun b2 hb2 => WL_r rfl (bl_ z_37 (fun b4 hb4 => nl J (J1 _ _ (Sq fun K2 J2 => ar_ (Sq fun K3 J3 => Rk fun K J => sQ (aS_ ty_37 rfl (by repeat (first | exact .head _ | apply List.mem_append_right | apply List.Mem.tail)) (aQ_ ha)) rfl ?_)))))))
 refine WL_r rfl (cv_ eR_ z_37 sz_37 rfl (by decide) rfl (gs_ ha) (fun b9 hb9 => sQ (bU_ eT_ rfl (fun w hw => bZ_ [a] (ok1 ha) b9 37 w (hw.mem _ m0) (by simp))) rfl ?_))
 refine sE rfl (sE rfl (nl J (J3 _ _ ?_)))
 refine a6_ _ rfl (fun hg => ?_) (fun hg => ?_)
 ·(try simp only [decide_eq_true_eq, decide_eq_false_iff_not, beq_iff_eq, bne_iff_ne, beq_eq_false_iff_ne, bne_eq_false_iff_eq, Bool.not_eq_true', Bool.not_eq_false'] at hg)
  refine Sq fun K4 J4 => Rk fun K J => sQ (q_ret eL_ bW_ rfl) rfl (WL_r rfl (aG_ ty_37 rfl rfl (by repeat (first | exact .head _ | apply Upd.left | apply Upd.tail)) (ag_ _) rfl (at_ _) (.inl (by assumption)) ?_))
  refine nl J (J4 _ _ (W_ret (aB_ (ai_ (ret1 rfl (.inr rfl) ⟨_, _, _, _, _, _, rfl, (by repeat (first | exact .head _ | apply List.mem_append_right | apply List.Mem.tail)), ty_37, _, (bd_ (ag_ _)), (ag_ _), rfl⟩ ?_)))))
  (rw [Z.shl, gq_ (by unfold R.dec; rw [if_neg (by simpa using hg)]; rfl)]; rfl)
 ·(try simp only [decide_eq_true_eq, decide_eq_false_iff_not, beq_iff_eq, bne_iff_ne, beq_eq_false_iff_ne, bne_eq_false_iff_eq, Bool.not_eq_true', Bool.not_eq_false'] at hg)
  refine Sq fun K5 J5 => Rk fun K J => sQ (aS_ ty_37 rfl (by repeat (first | exact .head _ | apply List.mem_append_right | apply List.Mem.tail)) (aQ_ ha)) rfl ?_
  refine sQ (q_ret fu_ (cf_ a ha) rfl) rfl (sE rfl (sE rfl (nl J (J5 _ _ ?_))))
  refine a6_ _ rfl (fun hs => ?_) (fun hs => ?_)
  ·(try simp only [decide_eq_true_eq, decide_eq_false_iff_not, beq_iff_eq, bne_iff_ne, beq_eq_false_iff_ne, bne_eq_false_iff_eq, Bool.not_eq_true', Bool.not_eq_false'] at hs)
   refine Sq fun K6 J6 => Rk fun K J => sQ (aS_ ty_37 rfl (by repeat (first | exact .head _ | apply List.mem_append_right | apply List.Mem.tail)) (aQ_ ha)) rfl ?_
   refine WL_r rfl (aG_ ty_37 rfl rfl (by repeat (first | exact .head _ | apply Upd.left | apply Upd.tail)) (aQ_ ha) rfl (at_ _) (.inl (by assumption)) ?_)
   refine nl J (J6 _ _ (W_ret (aB_ (ai_ (ret1 rfl (.inr rfl) ⟨_, _, _, _, _, _, rfl, (by repeat (first | exact .head _ | apply List.mem_append_right | apply List.Mem.tail)), ty_37, _, (bd_ (aQ_ ha)), (aQ_ ha), rfl⟩ ?_)))))
   exact congrArg RV (qB_ ha (by simpa using hg) hs m)
  ·(try simp only [decide_eq_true_eq, decide_eq_false_iff_not, beq_iff_eq, bne_iff_ne, beq_eq_false_iff_ne, bne_eq_false_iff_eq, Bool.not_eq_true', Bool.not_eq_false'] at hs)
   refine Sq fun K7 J7 => Rk fun K J => sE rfl (sE rfl (sE rfl ?_))
   cases h5 : decide ((m : Int) ≥ 512)
   ·skip
    refine sE rfl (sE rfl (sE rfl ?_))
    cases h6 : decide ((m : Int) > 0)
    ·skip
     refine WL_n rfl (WL_n rfl (WL_n rfl (WL_n rfl (WL_n rfl (sE rfl (sE rfl (sE rfl (nl J (J7 _ _ (by_ rfl (Sq fun K8 J8 => Rk fun K J => sE rfl (sE rfl (sE rfl (nl J (J8 _ _ ?_)))))))))))))))
     refine a6_ _ rfl (fun h33 => ?_) (fun h33 => ?_)
     ·(try simp only [decide_eq_true_eq, decide_eq_false_iff_not, beq_iff_eq, bne_iff_ne, beq_eq_false_iff_ne, bne_eq_false_iff_eq, Bool.not_eq_true', Bool.not_eq_false'] at h33)
      exact absurd h33 (by omega) --done
     ·(try simp only [decide_eq_true_eq, decide_eq_false_iff_not, beq_iff_eq, bne_iff_ne, beq_eq_false_iff_ne, bne_eq_false_iff_eq, Bool.not_eq_true', Bool.not_eq_false'] at h33)
      refine ak_ (J2 _ _ (Sq fun K9 J9 => ?_))
      have hm5 : m < 512 := by have := of_decide_eq_false h5; omega
      have hfar : m / 32 ≤ 15 := by omega
      refine Rk fun K J => WL_r rfl (bl_ z_35 (fun b5 hb5 => nl J (J9 _ _ (Sq fun K10 J10 => Rk fun K J => sE rfl (sQ (q_as (q_quo rfl rfl (by decide)) (congrArg (Value.int .i64) (shq 32 (by decide) hm))) rfl (sE rfl (nl J (J10 _ _ (Sq fun K11 J11 => Sq fun K12 J12 => Rk fun K J => sE rfl (sE rfl (nl J (J12 _ _ ?_))))))))))))
      refine a6_ _ rfl (fun h42 => ?_) (fun h42 => ?_)
      ·(try simp only [decide_eq_true_eq, decide_eq_false_iff_not, beq_iff_eq, bne_iff_ne, beq_eq_false_iff_ne, bne_eq_false_iff_eq, Bool.not_eq_true', Bool.not_eq_false'] at h42)
       refine Sq fun K13 J13 => dr (sd (sk (sk (sk (s0))))) [0,4,8,12,17] [4] mix (by kernel_rfl) (fun K J => pE rfl (pQ rfl (gp_ ar_35 rfl rfl rfl (by omega) (by omega) (by omega) (by omega)) (pQ rfl (aW_ bv_ (by decide) rfl) (pQ rfl (gp_ ar_35 rfl rfl rfl (by decide) (by decide) (by decide) (by decide)) ?_))))
       refine PL_o rfl rfl (k6_ kB_ rfl rfl (by repeat (first | exact .head _ | apply List.mem_append_right | apply List.Mem.tail)) (by repeat (first | exact .head _ | apply Upd.left | apply Upd.tail)) (fun v hv => at_ a v (List.mem_of_mem_drop (List.mem_of_mem_take hv))) (by rw [aQ_ ha]; omega) (by simp [uw]; omega) (lj_ ha hfar) (.inl (by assumption)) ⟨nf, (by repeat (first | exact s0 | exact sn | refine sk ?_ | refine sd ?_ | refine sA ?_ | refine sR ?_)), ?_⟩)
       refine fl J (J13 _ _ (Sq fun K14 J14 => Rk fun K J => sQ (aS_ ty_35 rfl (by repeat (first | exact .head _ | apply List.mem_append_right | apply List.Mem.tail)) (by simp [uw, hl_ ha.len (show m / 32 ≤ 16 by omega)])) rfl ?_))
       refine sE rfl (sQ (q_as (q_rem rfl rfl (by decide)) (congrArg (Value.int .i64) (shr 32 m))) rfl (sQ (q_ret lc_ (fi_ (shw a.w (m / 32)) (hl_ ha.len (by omega)) (mr_ ha.lim) (m % 32) (Nat.mod_lt _ (by decide))) rfl) rfl (sE rfl (sE rfl (sE rfl (WL_r rfl (aG_ ty_35 rfl rfl (by repeat (first | exact .head _ | apply Upd.left | apply Upd.tail)) (by simp [uw, a3_]) (by simp [uw, hl_ ha.len (show m / 32 ≤ 16 by omega)]) (ce_ _) (.inl (by assumption)) ?_)))))))
       refine nl J (J14 _ _ (Sq fun K15 J15 => Rk fun K J => sQ (aW_ bq_ (by decide) rfl) rfl (sQ (bf_ (v := .bool a.neg) ty_4 rfl (by repeat (first | exact .head _ | apply List.mem_append_right | apply List.Mem.tail)) rfl) rfl ?_)))
       refine sQ (aS_ ty_35 rfl (by repeat (first | exact .head _ | apply List.mem_append_right | apply List.Mem.tail)) (by simp [uw, a3_])) rfl ?_
       refine sQ (q_ret eu_ (bn_ a.neg (toL 16 (val (shw a.w (m / 32)) * 2 ^ (m % 32))) (by simp [a3_]) (dh_ _ _)) rfl) rfl ?_
       refine WL_r rfl (aG_ ty_37 rfl rfl (by repeat (first | exact .head _ | apply Upd.left | apply Upd.tail)) (cC_ (by simp [a3_])) rfl (at_ _) (.inl (by assumption)) ?_)
       refine nl J (J15 _ _ (W_ret (ai_ (ret1 rfl (.inr rfl) ⟨_, _, _, _, _, _, rfl, (by repeat (first | exact .head _ | apply List.mem_append_right | apply List.Mem.tail)), ty_37, _, (bd_ (cC_ (by simp [a3_]))), (cC_ (by simp [a3_])), rfl⟩ ?_))))
       exact congrArg RV (pO_ ha (by simpa using hg) (by have := Z.bits_le a.dec; have := of_decide_eq_false h6; omega) hm5)
      ·(try simp only [decide_eq_true_eq, decide_eq_false_iff_not, beq_iff_eq, bne_iff_ne, beq_eq_false_iff_ne, bne_eq_false_iff_eq, Bool.not_eq_true', Bool.not_eq_false'] at h42)
       exact absurd h42 (by omega) --done
    ·skip
     refine sQ (aS_ ty_37 rfl (by repeat (first | exact .head _ | apply List.mem_append_right | apply List.Mem.tail)) (aQ_ ha)) rfl ?_
     refine sQ (q_ret nz_ (fr_ a ha) rfl) rfl (sE rfl (sQ (q_as (q_add rfl rfl) (congrArg (Value.int .i64) (show _ = ((a.dec.bits + m : Nat) : Int) from (wi (by have := Z.bits_le a.dec; have := of_decide_eq_false h5; omega)).trans (Int.natCast_add _ _).symm))) rfl (sE rfl (sE rfl (sE rfl (sE rfl (nl J (J7 _ _ ?_))))))))
     refine a6_ _ rfl (fun h18 => ?_) (fun h18 => ?_)
     ·(try simp only [decide_eq_true_eq, decide_eq_false_iff_not, beq_iff_eq, bne_iff_ne, beq_eq_false_iff_ne, bne_eq_false_iff_eq, Bool.not_eq_true', Bool.not_eq_false'] at h18)
      refine Sq fun K16 J16 => Rk fun K J => sQ (q_ret eL_ bW_ rfl) rfl (WL_r rfl (aG_ ty_37 rfl rfl (by repeat (first | exact .head _ | apply Upd.left | apply Upd.tail)) (ag_ _) rfl (at_ _) (.inl (by assumption)) ?_))
      refine nl J (J16 _ _ (W_ret (aB_ (ai_ (ret1 rfl (.inr rfl) ⟨_, _, _, _, _, _, rfl, (by repeat (first | exact .head _ | apply List.mem_append_right | apply List.Mem.tail)), ty_37, _, (bd_ (ag_ _)), (ag_ _), rfl⟩ ?_)))))
      exact congrArg RV (oX_ ha (by simpa using hg) hs (.inl (by omega)))
     ·(try simp only [decide_eq_true_eq, decide_eq_false_iff_not, beq_iff_eq, bne_iff_ne, beq_eq_false_iff_ne, bne_eq_false_iff_eq, Bool.not_eq_true', Bool.not_eq_false'] at h18)
      refine Sq fun K17 J17 => Rk fun K J => sE rfl (sE rfl (sE rfl (nl J (J17 _ _ ?_))))
      refine a6_ _ rfl (fun h33 => ?_) (fun h33 => ?_)
      ·(try simp only [decide_eq_true_eq, decide_eq_false_iff_not, beq_iff_eq, bne_iff_ne, beq_eq_false_iff_ne, bne_eq_false_iff_eq, Bool.not_eq_true', Bool.not_eq_false'] at h33)
       exact absurd h33 (by omega) --done
      ·(try simp only [decide_eq_true_eq, decide_eq_false_iff_not, beq_iff_eq, bne_iff_ne, beq_eq_false_iff_ne, bne_eq_false_iff_eq, Bool.not_eq_true', Bool.not_eq_false'] at h33)
       refine ak_ (J2 _ _ (Sq fun K18 J18 => ?_))
       have hm5 : m < 512 := by have := of_decide_eq_false h5; omega
       have hfar : m / 32 ≤ 15 := by omega
       refine Rk fun K J => WL_r rfl (bl_ z_35 (fun b5 hb5 => nl J (J18 _ _ (Sq fun K19 J19 => Rk fun K J => sE rfl (sQ (q_as (q_quo rfl rfl (by decide)) (congrArg (Value.int .i64) (shq 32 (by decide) hm))) rfl (sE rfl (nl J (J19 _ _ (Sq fun K20 J20 => Sq fun K21 J21 => Rk fun K J => sE rfl (sE rfl (nl J (J21 _ _ ?_))))))))))))
       refine a6_ _ rfl (fun h42 => ?_) (fun h42 => ?_)
       ·(try simp only [decide_eq_true_eq, decide_eq_false_iff_not, beq_iff_eq, bne_iff_ne, beq_eq_false_iff_ne, bne_eq_false_iff_eq, Bool.not_eq_true', Bool.not_eq_false'] at h42)
        refine Sq fun K22 J22 => dr (sd (sk (sk (sk (s0))))) [0,4,8,12,17] [4] mix (by kernel_rfl) (fun K J => pE rfl (pQ rfl (gp_ ar_35 rfl rfl rfl (by omega) (by omega) (by omega) (by omega)) (pQ rfl (aW_ bv_ (by decide) rfl) (pQ rfl (gp_ ar_35 rfl rfl rfl (by decide) (by decide) (by decide) (by decide)) ?_))))
        refine PL_o rfl rfl (k6_ kB_ rfl rfl (by repeat (first | exact .head _ | apply List.mem_append_right | apply List.Mem.tail)) (by repeat (first | exact .head _ | apply Upd.left | apply Upd.tail)) (fun v hv => at_ a v (List.mem_of_mem_drop (List.mem_of_mem_take hv))) (by rw [aQ_ ha]; omega) (by simp [uw]; omega) (lj_ ha hfar) (.inl (by assumption)) ⟨nf, (by repeat (first | exact s0 | exact sn | refine sk ?_ | refine sd ?_ | refine sA ?_ | refine sR ?_)), ?_⟩)
        refine fl J (J22 _ _ (Sq fun K23 J23 => Rk fun K J => sQ (aS_ ty_35 rfl (by repeat (first | exact .head _ | apply List.mem_append_right | apply List.Mem.tail)) (by simp [uw, hl_ ha.len (show m / 32 ≤ 16 by omega)])) rfl ?_))
        refine sE rfl (sQ (q_as (q_rem rfl rfl (by decide)) (congrArg (Value.int .i64) (shr 32 m))) rfl (sQ (q_ret lc_ (fi_ (shw a.w (m / 32)) (hl_ ha.len (by omega)) (mr_ ha.lim) (m % 32) (Nat.mod_lt _ (by decide))) rfl) rfl (sE rfl (sE rfl (sE rfl (WL_r rfl (aG_ ty_35 rfl rfl (by repeat (first | exact .head _ | apply Upd.left | apply Upd.tail)) (by simp [uw, a3_]) (by simp [uw, hl_ ha.len (show m / 32 ≤ 16 by omega)]) (ce_ _) (.inl (by assumption)) ?_)))))))
        refine nl J (J23 _ _ (Sq fun K24 J24 => Rk fun K J => sQ (aW_ bq_ (by decide) rfl) rfl (sQ (bf_ (v := .bool a.neg) ty_4 rfl (by repeat (first | exact .head _ | apply List.mem_append_right | apply List.Mem.tail)) rfl) rfl ?_)))
        refine sQ (aS_ ty_35 rfl (by repeat (first | exact .head _ | apply List.mem_append_right | apply List.Mem.tail)) (by simp [uw, a3_])) rfl ?_
        refine sQ (q_ret eu_ (bn_ a.neg (toL 16 (val (shw a.w (m / 32)) * 2 ^ (m % 32))) (by simp [a3_]) (dh_ _ _)) rfl) rfl ?_
        refine WL_r rfl (aG_ ty_37 rfl rfl (by repeat (first | exact .head _ | apply Upd.left | apply Upd.tail)) (cC_ (by simp [a3_])) rfl (at_ _) (.inl (by assumption)) ?_)
        refine nl J (J24 _ _ (W_ret (ai_ (ret1 rfl (.inr rfl) ⟨_, _, _, _, _, _, rfl, (by repeat (first | exact .head _ | apply List.mem_append_right | apply List.Mem.tail)), ty_37, _, (bd_ (cC_ (by simp [a3_]))), (cC_ (by simp [a3_])), rfl⟩ ?_))))
        exact congrArg RV (pO_ ha (by simpa using hg) (by omega) hm5)
       ·(try simp only [decide_eq_true_eq, decide_eq_false_iff_not, beq_iff_eq, bne_iff_ne, beq_eq_false_iff_ne, bne_eq_false_iff_eq, Bool.not_eq_true', Bool.not_eq_false'] at h42)
        exact absurd h42 (by omega) --done
   ·skip
    refine WL_n rfl (WL_n rfl (WL_n rfl (WL_n rfl (WL_n rfl (WL_n rfl (WL_n rfl (WL_n rfl (WL_n rfl (sE rfl (sE rfl (nl J (J7 _ _ (bF_ rfl (Sq fun K25 J25 => Rk fun K J => sQ (q_ret eL_ bW_ rfl) rfl (WL_r rfl (aG_ ty_37 rfl rfl (by repeat (first | exact .head _ | apply Upd.left | apply Upd.tail)) (ag_ _) rfl (at_ _) (.inl (by assumption)) ?_))))))))))))))))
    refine nl J (J25 _ _ (W_ret (aB_ (ai_ (ret1 rfl (.inr rfl) ⟨_, _, _, _, _, _, rfl, (by repeat (first | exact .head _ | apply List.mem_append_right | apply List.Mem.tail)), ty_37, _, (bd_ (ag_ _)), (ag_ _), rfl⟩ ?_)))))
    exact congrArg RV (oX_ ha (by simpa using hg) hs (.inr (by have := of_decide_eq_true h5; omega)))
theorem gh_ (a : R) (ha : a.Ok) (n : W) (h0 : 0 ≤ n.1) : Ret Tryz.prog 95 [RV a, .int .i64 n.1] (RV (Z.shl a.dec n.1).enc) := by
  obtain ⟨n, hn⟩ := n
  obtain ⟨m, rfl⟩ : ∃ m : Nat, n = (m : Int) := ⟨n.toNat, by simp only at h0; omega⟩
  exact h1_ a ha m (by unfold I64 at hn; omega)
end Go.Proofs.YtapbefpeopaecaaGreatDoor

namespace Go.Proofs.YtapbefpeopaecaaGreatDoor
open Go.Kn Go.Num
set_option linter.unusedVariables false
set_option linter.unusedSimpArgs false
set_option maxRecDepth 20000
set_option maxHeartbeats 8000000
theorem is_ (vl : Value) (l : (List I)) (w : World) (hl : Slr w elI vl l) :
    Calls Tryz.prog 135 [vl].toArray w (fun e w' => e = .returned (.bool (cH_ l)) ∧ Ext w w') := by
 refine di_ (N := 19) Tryz.func135 rfl rfl (by simp) ?_
 obtain ⟨w0, rfl⟩ : ∃ w0, w0 = w := ⟨_, rfl⟩
 have Hl := hl.old
 have hm_l := hl.max
 simp only [initF, Nat.reduceAdd]
 refine Rs fun K J => sE rfl (nl J (Sq fun K1 J1 => Rs fun K J => sE rfl (sQ (q_as (v' := .int .i64 (((l).length : Nat) : Int)) (e7_ (e := elI) lv_ rfl (SLe.sub Hl sn)) rfl) rfl (sE rfl (nl J ?_)))))
 refine ia_ (fun S M h => J1 S M h) [2, 4, 7, 8, 9, 10, 11, 12, 13, 14, 15, 16, 17, 18] (fun g M => (cM_ l l) = .inl () ∧ (True) ∧ M = []) (fun K_u1 hK_u1 => ?_) ?_
 ·skip
  refine ar_ ?_
  have hmx0 : (l).length ≤ 9223372036854775807 := hm_l
  refine bN_ [2, 4, 7, 8, 9, 10, 11, 12, 13, 14, 15, 16, 17, 18] (fun g nn M => ∃ (i0 : Nat) (l0 : List I), (cM_ l l0) = (cM_ l l) ∧ (l).drop i0 = l0 ∧ l0.length = nn ∧ g 7 = .int .i64 ((i0 : Nat) : Int) ∧ (True) ∧ M = []) (l).length ?start ?round
  case start => exact ⟨_, s0, 0, l, rfl, rfl, rfl, rfl, trivial, rfl⟩
  case round =>
   rintro nn g M ⟨i0, l0, hT0, hr0, rfl, hgi, -, rfl⟩
   simp only [setG, hgi]
   clear hgi
   refine Rs fun K J => sE rfl (nl J (Sq fun K8 J8 => ?_))
   rcases l0 with _ | ⟨x0, l0⟩
   ·skip
    have h18 := nG_ hr0
    refine W_f h18 rfl (bB_ (ax_ (ax_ (aF_ (hK_u1 _ _ (by repeat first | exact .refl | refine .cons rfl ?_) ⟨_, s0, (by exact hT0.symm.trans (Eq.symm (rfl))), trivial, rfl⟩)))))
   ·skip
    have h19 := k9_ hr0
    have g20 := h6_ hr0
    refine W_t h19 rfl (ak_ (J8 _ _ (Sq fun K9 J9 => ar_ (Rs fun K J => sQ (q_as (v' := .pointer (some (slb vl (i0 * 18 + 0)))) (br_ (e := elI) (l := l) (k := i0) lv_ rfl rfl (SLe.sub Hl sn) g20.2.1) rfl) rfl (sQ (q_ldG (e := elI) (l := l) (k := i0) (o := 0) ty_37 rfl (SLe.sub Hl sn) g20.1 rfl) rfl (sN zp_37 rfl fun b21 hb21 => sS [pI x0] ty_37 rfl rfl rfl rfl rfl (.head _) rfl hb21 (nl J ?_)))))))
    refine bQ_ [11, 12, 13, 14, 15, 16, 17] (fun g M => (g 17 = .bool (x0.1.bad || (!x0.1.valid))) ∧ M = [⟨b21, 37, flat [pI x0]⟩]) (fun K10 J10 => ?_) ?_
    ·skip
     refine Rk fun K J => sQ (qF ea_ rfl rfl) rfl (sQ (qC ty_4 rfl m0 rfl) rfl ?_)
     rcases bt x0.1.bad with h23 | h23
     ·skip
      refine sB h23 rfl (WL_n rfl (WL_n rfl (WL_n rfl (sE rfl (nl J ?_)))))
      refine J10 _ _ (by repeat first | exact .refl | refine .cons rfl ?_) ⟨_, s0, ?s17, rfl⟩
      case s17 => exact congrArg Value.bool (or_t h23)
     ·skip
      refine sB h23 rfl (sQ (qL ty_37 rfl m0 rfl) rfl (sC (.bool x0.1.valid) mK_ (e6_ x0.1 x0.2) rfl rfl rfl (sE rfl (sE rfl (nl J ?_)))))
      refine J10 _ _ (by repeat first | exact .refl | refine .cons rfl ?_) ⟨_, s0, ?s17, rfl⟩
      case s17 => exact congrArg Value.bool (or_f h23 rfl)
    ·skip
     rintro g24 M ⟨hg17, rfl⟩
     simp only [setG, hg17]
     clear hg17
     rcases bt (x0.1.bad || (!x0.1.valid)) with h25 | h25
     ·skip
      refine W_t h25 rfl (Rs fun K J => sE rfl (nl J (W_ret (aB_ (ai_ (ai_ (aB_ (ai_ (ai_ (ret1 rfl (.inr rfl) rfl ?_))))))))))
      exact (by exact congrArg (fun r : Bool => (.bool r : Value)) (show _ = (cH_ l) from (sm_q rfl (hT0.symm.trans (Eq.symm (bif_t h25 rfl))))))
     ·skip
      refine W_f h25 rfl (ak_ (J9 _ _ (Rk fun K J => sV (.int .i64 ((i0 + 1 : Nat) : Int)) rfl (congrArg (Value.int .i64) (nxt g20.2.1 hmx0)) (sE rfl (nl J (⟨(by repeat first | exact .refl | refine .cons rfl ?_), _, _, (sd (s0)), (Nat.lt_succ_self _), i0 + 1, l0, (by exact (hT0.symm.trans (Eq.symm (bif_f h25 rfl))).symm), g20.2.2, rfl, rfl, trivial, rfl⟩))))))
 ·skip
  rintro g M ⟨hCu1, -, rfl⟩
  simp only [setG]
  refine Rs fun K J => sE rfl (nl J (W_ret (ret1 rfl (.inr rfl) rfl ?_)))
  exact (by exact congrArg (fun r : Bool => (.bool r : Value)) (show _ = (cH_ l) from trs (Eq.symm (smS hCu1)) rfl))
end Go.Proofs.YtapbefpeopaecaaGreatDoor

namespace Go.Proofs.YtapbefpeopaecaaGreatDoor
open Go.Kn Go.Num
set_option linter.unusedVariables false
set_option linter.unusedSimpArgs false
set_option maxRecDepth 20000
set_option maxHeartbeats 8000000
theorem gH_ (a : I) :
    Ret Tryz.prog 98 [AV [pI a]] (AV [pI (cQ_ a)]) := by
 refine av_ (N := 36) Tryz.func98 rfl rfl (by simp) (fun w0 => ?_)
 simp only [initF, Nat.reduceAdd]
 refine Rs fun K J => WL_r rfl (a1_ rfl rfl (fun b1 hb1 => sN zp_37 rfl fun b2 hb2 => nl J (Sq fun K1 J1 => ?_)))
 refine bQ_ [5, 6, 7, 8, 9, 10, 11, 12] (fun g M => (g 12 = .bool (!(cH_ [a]) || a.1.neg)) ∧ M = [⟨b2, 37, flat [pI I0]⟩, ⟨b1, 37, flat [pI a]⟩]) (fun K2 J2 => ?_) ?_
 ·skip
  refine Rk fun K J => sQ (qL ty_37 rfl m1 rfl) rfl (WL_r rfl (bi_ [[pI a]] [pI a] eR_ z_37 sz_37 rfl (by decide) rfl rfl ⟨rfl, rfl, rfl, trivial⟩ rfl (fun b6 hb6 => sQ (q_as (v' := .bool (cH_ [a])) (bU_ eT_ rfl (fun w hw => is_ _ ([a]) w (SLe.ap hw (SLe.lit (e := elI) (l := [a]) m0 rfl (Nat.le_of_ble_eq_true rfl) rfl)))) rfl) rfl (sE rfl ?_))))
  rcases bt (cH_ [a]) with h7 | h7
  ·skip
   refine sB (not_f h7) rfl (sQ (qF bq_ rfl rfl) rfl (sQ (qC ty_4 rfl m2 rfl) rfl (sE rfl (nl J ?_))))
   refine J2 _ _ (by repeat first | exact .refl | refine .cons rfl ?_) ⟨_, (sd (s0)), ?s12, rfl⟩
   case s12 => exact congrArg Value.bool (nor_t h7 rfl)
  ·skip
   refine sB (not_t h7) rfl (WL_n rfl (WL_n rfl (sE rfl (nl J ?_))))
   refine J2 _ _ (by repeat first | exact .refl | refine .cons rfl ?_) ⟨_, (sd (s0)), ?s12, rfl⟩
   case s12 => exact congrArg Value.bool (nor_f h7)
 ·skip
  rintro g8 M ⟨hg12, rfl⟩
  simp only [setG, hg12]
  clear hg12
  rcases bt (!(cH_ [a]) || a.1.neg) with h9 | h9
  ·skip
   refine W_t h9 rfl (Rs fun K J => sC (AV [pI (E Z.bad)]) eL_ bW_ rfl rfl rfl (sS [pI (E Z.bad)] ty_37 rfl rfl rfl rfl rfl (.head _) rfl hb2 (nl J (W_ret (ai_ (ret1 rfl (.inr rfl) (resP rfl m0 ty_37 rfl) ?_))))))
   exact (by exact congrArg (fun r : I => (AV [pI r] : Value)) (show _ = (cQ_ a) from bif_t h9 rfl))
  ·skip
   refine W_f h9 rfl (ak_ (J1 _ _ (Sq fun K3 J3 => Rs fun K J => sQ (qL ty_37 rfl m1 rfl) rfl (sC (.int .i64 ((Z.signW a.dec).1)) fu_ (cf_ a.1 a.2) rfl rfl rfl (sE rfl (nl J ?_))))))
   rcases bt ((Z.signW a.dec).1 == 0) with h10 | h10
   ·skip
    refine W_t h10 rfl (Rs fun K J => sQ (qL ty_37 rfl m1 rfl) rfl (sS [pI a] ty_37 rfl rfl rfl rfl rfl (.head _) rfl hb2 (nl J (W_ret (ai_ (ret1 rfl (.inr rfl) (resP rfl m0 ty_37 rfl) ?_))))))
    exact (by exact congrArg (fun r : I => (AV [pI r] : Value)) (show _ = (cQ_ a) from bif_f h9 (bif_t h10 rfl)))
   ·skip
    refine W_f h10 rfl (ak_ (J3 _ _ (ds (sk (sk (s0))) [0,4,8,12,16,20,25,29] [7] mix (by kernel_rfl) (fun K J => pC (AV [pI (E (Z.of 1))]) en_61 (bJ_ (wl 1).1 (wl 1).2) rfl rfl rfl ?_))))
    refine pQ rfl (qL ty_37 rfl m1 rfl) (pC (.int .i64 ((Z.bitsW a.dec).1)) nz_ (fr_ a.1 a.2) rfl rfl rfl (pV (.int .i64 ((W.add (Z.bitsW a.dec) (wl 1)).1)) rfl rfl ?_))
    refine pQ rfl (q_as (v' := .int .i64 ((W.quo (W.add (Z.bitsW a.dec) (wl 1)) (wl 2)).1)) (q_quo rfl rfl (by decide)) rfl) ?_
    have hsh : 0 ≤ ((W.quo (W.add (Z.bitsW a.dec) (wl 1)) (wl 2))).1 := p6_ a
    refine pC (AV [pI (E (Z.shl (Z.of 1) (W.quo (W.add (Z.bitsW a.dec) (wl 1)) (wl 2)).1))]) en_95 (gh_ (E (Z.of 1)).1 (E (Z.of 1)).2 (W.quo (W.add (Z.bitsW a.dec) (wl 1)) (wl 2)) (by first | assumption | exact (Int.not_lt.1 (of_decide_eq_false (by first | assumption | exact or3_b (by assumption)))))) rfl rfl (cg1 (fun p => AV [pI (E (Z.shl p (W.quo (W.add (Z.bitsW a.dec) (wl 1)) (wl 2)).1))]) (E_dec _)) ?_
    refine PL_o rfl rfl (bk_ zp_37 (fun b11 hb11 => ⟨(fun _ => sd s0), (sd s0), oS [pI (E (Z.shl (Z.of 1) (W.quo (W.add (Z.bitsW a.dec) (wl 1)) (wl 2)).1))] ty_37 rfl rfl rfl rfl rfl rfl (.head _) rfl hb11 rfl (sd s0) ?_⟩))
    refine fl J (ar_ ?_)
    refine bN_ [4, 24, 25, 26, 27, 28, 29, 30, 31, 32, 33, 34, 35] (fun g nn M => ∃ (mb11 : I), (c2_ a nn mb11) = (c2_ a ((Z.nat (E (Z.shl (Z.of 1) (W.quo (W.add (Z.bitsW a.dec) (wl 1)) (wl 2)).1)).dec + 1)) (E (Z.shl (Z.of 1) (W.quo (W.add (Z.bitsW a.dec) (wl 1)) (wl 2)).1))) ∧ Z.nat mb11.dec < nn ∧ (hA_ a mb11) ∧ (True) ∧ M = [⟨b11, 37, flat [pI mb11]⟩, ⟨b2, 37, flat [pI I0]⟩, ⟨b1, 37, flat [pI a]⟩]) ((Z.nat (E (Z.shl (Z.of 1) (W.quo (W.add (Z.bitsW a.dec) (wl 1)) (wl 2)).1)).dec + 1)) ?start ?round
    case start => exact ⟨_, s0, (E (Z.shl (Z.of 1) (W.quo (W.add (Z.bitsW a.dec) (wl 1)) (wl 2)).1)), rfl, Nat.lt_succ_self _, (iF_ h9 h10), trivial, rfl⟩
    case round =>
     rintro nn g M ⟨mb11, hT0, hq0, hinv0, -, rfl⟩
     obtain ⟨k0, rfl⟩ : ∃ m, nn = m + 1 := ⟨nn - 1, by omega⟩
     simp only [setG]
     refine ar_ (ds (sk (sk (sk (s0)))) [0,4,8,12,16,20,25,29] [7] mix (by kernel_rfl) (fun K J => pQ rfl (qL ty_37 rfl m0 rfl) (pQ rfl (qL ty_37 rfl m2 rfl) (pQ rfl (qL ty_37 rfl m0 rfl) (pC (AV [pI (E (Z.quo a.dec mb11.dec))]) en_97 (cj_ a.1 mb11.1 a.2 mb11.2) rfl rfl rfl (pC (AV [pI (E (Z.add mb11.dec (Z.quo a.dec mb11.dec)))]) ip_ (dK_ mb11.1 (E (Z.quo a.dec mb11.dec)).1 mb11.2 (E (Z.quo a.dec mb11.dec)).2) rfl rfl (cg2 (fun p q => AV [pI (E (Z.add p q))]) rfl (E_dec _)) ?_))))))
     have hhf := qr_ hinv0
     refine pC (AV [pI (E (Z.half (Z.add mb11.dec (Z.quo a.dec mb11.dec))))]) en_95 (iy_ (E (Z.add mb11.dec (Z.quo a.dec mb11.dec))).1 (E (Z.add mb11.dec (Z.quo a.dec mb11.dec))).2 (by assumption)) rfl rfl (cg1 (fun p => AV [pI (E (Z.half p))]) (E_dec _)) (PL_o rfl rfl (bk_ zp_37 (fun b20 hb20 => ⟨(fun _ => sd s0), (sd s0), oS [pI (E (Z.half (Z.add mb11.dec (Z.quo a.dec mb11.dec))))] ty_37 rfl rfl rfl rfl rfl rfl (.head _) rfl hb20 rfl (sd s0) (fl J (Sq fun K6 J6 => Rs fun K J => sQ (qL ty_37 rfl m0 rfl) rfl (sQ (qL ty_37 rfl m1 rfl) rfl (sC (.int .i64 ((Z.cmpW (Z.half (Z.add mb11.dec (Z.quo a.dec mb11.dec))) mb11.dec).1)) o3_ (g6_ (E (Z.half (Z.add mb11.dec (Z.quo a.dec mb11.dec)))).1 mb11.1 (E (Z.half (Z.add mb11.dec (Z.quo a.dec mb11.dec)))).2 mb11.2) rfl rfl (cg2 (fun p q => Value.int .i64 (Z.cmpW p q).1) (E_dec _) rfl) (sE rfl (nl J ?_))))))⟩)))
     rcases bt (decide (0 ≤ (Z.cmpW (Z.half (Z.add mb11.dec (Z.quo a.dec mb11.dec))) mb11.dec).1)) with h21 | h21
     ·skip
      refine W_t h21 rfl (Rs fun K J => sQ (qL ty_37 rfl m1 rfl) rfl (sS [pI mb11] ty_37 rfl rfl rfl rfl rfl (.tail _ (.tail _ (.head _))) rfl hb2 (nl J (W_ret (ai_ (aB_ (ai_ (aB_ (ret1 rfl (.inr rfl) (resP rfl m2 ty_37 rfl) ?_)))))))))
      exact (by exact congrArg (fun r : I => (AV [pI r] : Value)) (show _ = (cQ_ a) from bif_f h9 (bif_f h10 ((sm_q rfl (hT0.symm.trans (Eq.symm (bif_t h21 rfl))))))))
     ·skip
      refine W_f h21 rfl (ak_ (J6 _ _ (Rk fun K J => sQ (qL ty_37 rfl m0 rfl) rfl (sS [pI (E (Z.half (Z.add mb11.dec (Z.quo a.dec mb11.dec))))] ty_37 rfl rfl rfl rfl rfl (.tail _ (.head _)) rfl hb11 (nl J (⟨(by repeat first | exact .refl | refine .cons rfl ?_), _, _, (sd (s0)), (Nat.lt_succ_self _), (E (Z.half (Z.add mb11.dec (Z.quo a.dec mb11.dec)))), (by exact (hT0.symm.trans (Eq.symm (bif_f h21 rfl))).symm), (Nat.lt_of_lt_of_le (lx_ hinv0 h21) (Nat.le_of_lt_succ hq0)), (j5_ hinv0), trivial, rfl⟩))))))
end Go.Proofs.YtapbefpeopaecaaGreatDoor

