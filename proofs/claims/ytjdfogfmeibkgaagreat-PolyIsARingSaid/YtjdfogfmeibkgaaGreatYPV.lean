/- What Cmp returns: the sign of a difference; order, the greater and the lesser. No program stands in it. Intervals: what the program computes is what the reference defines. No program stands in it. Intervals: products, quotients, powers, hulls, what is in two of them. No program stands in it. Intervals as intervals of rational numbers: what they share, hulls, order; the statement on sets. No program stands in it. Rational arithmetic at numbers, with their sizes: no result lacks digits. No program stands in it. Polynomials: three statements: what is made, sums, values. No program stands in it. Values of polynomials at rational numbers. No program stands in it. Polynomials are a ring, and values agree with it. No program stands in it. From a reading of an argument that is a slice to the list that it reads. No program stands in it. -/
import Derived.Test.YtjdfogfmeibkgaaGreatYYg
import Derived.Test.YtjdfogfmeibkgaaGreatYL5
import Derived.Test.YtjdfogfmeibkgaaGreatYFp
import Derived.KernelRfl
import Derived.Test.YtjdfogfmeibkgaaGreatYYf
import Derived.Test.YtjdfogfmeibkgaaGreatYGD
import Derived.ProofKit
import Derived.OpenShut
import Derived.ChangeOld
import Derived.ChangeArms

set_option linter.unusedVariables false
set_option linter.unusedSimpArgs false
namespace Go.Num
open Go Go.Kn
theorem n7_ {u v : Int} (hu : B512 u) (hv : B512 v) (h : 0 < v) : Z.quo (Z.of u) (Z.of v) = Z.of (u / v) := by
  rw [iZ_ hu hv (by omega), jI_ h]
theorem nY_ {a : Rt} {n d : Int} (h : a.Is n d) : ax_ a = true := sx_.2 ⟨n, d, h⟩
end Go.Num

set_option linter.unusedVariables false
set_option linter.unusedSimpArgs false
namespace Go.Num
open Go Go.Kn
theorem jf_ : ax_ a7_ = false := by decide +kernel
theorem Is_of {a : Rt} (h : ax_ a = true) : ∃ n d, Rt.Is a n d := sx_.1 h
/-- An interval that is not bad: its ends, in order. -/
structure Iv.Is (a : Iv) (n d m e : Int) : Prop where
  lo : a.lo.Is n d
  hi : a.hi.Is m e
  le : n * e ≤ m * d
end Go.Num

set_option linter.unusedVariables false
set_option linter.unusedSimpArgs false
namespace Go.Num
open Go Go.Kn
/-- The number that a fraction is. -/
def Rt.At (a : Rt) (q : Rat) : Prop := a.Is q.num (q.den : Int)
theorem Is_At {a : Rt} {n d : Int} (h : a.Is n d) : ∃ q : Rat, a.At q ∧ q.num = n ∧ (q.den : Int) = d := by
  have hd : (d.toNat : Int) = d := Int.toNat_of_nonneg (Int.le_of_lt h.pos)
  have hc : n.natAbs.Coprime d.toNat := by
    have := h.cop
    unfold Int.gcd at this
    rw [show d.natAbs = d.toNat by omega] at this
    exact this
  refine ⟨⟨n, d.toNat, by have := h.pos; omega, hc⟩, ?_, rfl, hd⟩
  show a.Is n (d.toNat : Int)
  rw [hd]; exact h
theorem qt_ {a : Rt} (h : ax_ a = true) : ∃ q, a.At q := by
  obtain ⟨n, d, h1⟩ := Is_of h
  obtain ⟨q, h2, _⟩ := Is_At h1
  exact ⟨q, h2⟩
theorem hd_ {a : Rt} {q : Rat} (h : a.At q) : ax_ a = true := nY_ h
theorem pS_ {a b : Rt} {q : Rat} (ha : a.At q) (hb : b.At q) : a = b := Rt.ext (ha.en.trans hb.en.symm) (ha.ed.trans hb.ed.symm)
/-- An interval from p to q. -/
structure Iv.At (a : Iv) (p q : Rat) : Prop where
  lo : a.lo.At p
  hi : a.hi.At q
  le : p ≤ q
end Go.Num

set_option linter.unusedVariables false
set_option linter.unusedSimpArgs false
namespace Go.Num
open Go Go.Kn
end Go.Num

set_option linter.unusedVariables false
set_option linter.unusedSimpArgs false
namespace Go.Num
open Go Go.Kn
/-- Above and below of less than k bits. -/
structure Sz (q : Rat) (k : Nat) : Prop where
  n : q.num.natAbs < 2 ^ k
  d : q.den < 2 ^ k
theorem lZ_ {a b : Nat} (h : a ≤ b) : (2 : Nat) ^ a ≤ 2 ^ b := Nat.pow_le_pow_right (by decide) h
theorem r9_ {v : Int} {k : Nat} (m : Nat) (hm : 4294967296 ^ 16 = 2 ^ m) (h : v.natAbs < 2 ^ k) (hk : k ≤ m) : B512 v := by
  unfold B512
  rw [hm]
  exact Nat.lt_of_lt_of_le h (lZ_ hk)
theorem B_pow {v : Int} {k : Nat} (h : v.natAbs < 2 ^ k) (hk : k ≤ 512) : B512 v := r9_ 512 nB_ h hk
theorem Sz.mono {q : Rat} {j k : Nat} (h : Sz q j) (hk : j ≤ k) : Sz q k := ⟨Nat.lt_of_lt_of_le h.n (lZ_ hk), Nat.lt_of_lt_of_le h.d (lZ_ hk)⟩
theorem Sz.bn {q : Rat} {k : Nat} (h : Sz q k) (hk : k ≤ 512) : B512 q.num := B_pow h.n hk
theorem Sz.bd {q : Rat} {k : Nat} (h : Sz q k) (hk : k ≤ 512) : B512 (q.den : Int) := B_pow (by simpa using h.d) hk
theorem gc_ {a b j k : Nat} (h : a < 2 ^ j) (g : b < 2 ^ k) : a * b < 2 ^ (j + k) := by
  rw [Nat.pow_add]
  exact Nat.mul_lt_mul_of_lt_of_le h (Nat.le_of_lt g) (Nat.pow_pos (by decide))
theorem Sz.mul {p q : Rat} {j k : Nat} (h : Sz p j) (g : Sz q k) : Sz (p * q) (j + k) := by
  constructor
  · rw [Rat.num_mul]
    refine Nat.lt_of_le_of_lt (Int.natAbs_ediv_le_natAbs _ _) ?_
    rw [Int.natAbs_mul]; exact gc_ h.n g.n
  · rw [Rat.den_mul]
    exact Nat.lt_of_le_of_lt (Nat.div_le_self _ _) (gc_ h.d g.d)
theorem Sz.neg {p : Rat} {k : Nat} (h : Sz p k) : Sz (-p) k := ⟨by rw [Rat.neg_num, Int.natAbs_neg]; exact h.n, h.d⟩
theorem mC_ {n m : Int} {d e j k : Nat} (h1 : n.natAbs < 2 ^ j) (h2 : e < 2 ^ k) (h3 : m.natAbs < 2 ^ k) (h4 : d < 2 ^ j) : (n * e + m * d).natAbs < 2 ^ (j + k + 1) := by
  have a := gc_ h1 h2
  have b := gc_ h4 h3
  have c := Int.natAbs_add_le (n * e) (m * d)
  rw [Int.natAbs_mul, Int.natAbs_mul, Int.natAbs_natCast, Int.natAbs_natCast] at c
  rw [Nat.pow_succ]
  rw [Nat.mul_comm d] at b
  omega
theorem Sz.add {p q : Rat} {j k : Nat} (h : Sz p j) (g : Sz q k) : Sz (p + q) (j + k + 1) := by
  constructor
  · rw [Rat.num_add]
    exact Nat.lt_of_le_of_lt (Int.natAbs_ediv_le_natAbs _ _) (mC_ h.n g.d g.n h.d)
  · rw [Rat.den_add]
    exact Nat.lt_of_le_of_lt (Nat.div_le_self _ _) (Nat.lt_of_lt_of_le (gc_ h.d g.d) (lZ_ (by omega)))
theorem Sz.int {n : Int} {k : Nat} (h : n.natAbs < 2 ^ k) (hk : 0 < k) : Sz (n : Rat) k := ⟨h, Nat.one_lt_two_pow (by omega)⟩
theorem At_of {a : Rt} {n d : Int} {q : Rat} (h : a.Is n d) (he : q.num * d = n * q.den) : a.At q := by
  obtain ⟨p, hp, h1, h2⟩ := Is_At h
  have : p = q := Rat.eq_iff_mul_eq_mul.2 (by rw [h1, h2]; exact he.symm)
  rw [← this]; exact hp
theorem At.is {a : Rt} {q : Rat} (h : a.At q) : a.Is q.num (q.den : Int) := h
theorem kA_ {n d : Int} {q : Rat} (hn : B512 n) (hd : B512 d) (hp : 0 < d) (he : q.num * d = n * q.den) : (aC_ (E (Z.of n)) (E (Z.of d))).At q := by
  refine At_of (gz_ hn hd hp) ?_
  have g1 : ((Int.gcd n d : Nat) : Int) ∣ n := Int.gcd_dvd_left ..
  have g2 : ((Int.gcd n d : Nat) : Int) ∣ d := Int.gcd_dvd_right ..
  have p1 : 0 < ((Int.gcd n d : Nat) : Int) := by have := Int.gcd_pos_of_ne_zero_right n (show d ≠ 0 by omega); omega
  obtain ⟨x, hx⟩ := g1
  obtain ⟨y, hy⟩ := g2
  generalize ((Int.gcd n d : Nat) : Int) = G at *
  have q1 : n / G = x := by rw [hx]; exact Int.mul_ediv_cancel_left _ (by omega)
  have q2 : d / G = y := by rw [hy]; exact Int.mul_ediv_cancel_left _ (by omega)
  rw [q1, q2]
  rw [hx, hy] at he
  exact Int.eq_of_mul_eq_mul_left (show G ≠ 0 by omega) (by grind)
theorem e3_ {q : Rat} : (0 : Int) < q.den := by have := q.den_nz; omega
theorem pP_ {a b : Rt} {p q : Rat} (ha : a.At p) (hb : b.At q) (hn : B512 (p * q).num) (hd : B512 ((p * q).den : Int)) : (cx_ a b).At (p * q) := by
  unfold cx_
  rw [hd_ ha, hd_ hb]
  obtain ⟨x, y, r, s, e1, e2, b1, b2, b3, b4, h1, h2, hc, he⟩ := lb_ ha hb
  simp only [Bool.not_true, Bool.or_false, cond_false, e1, e2, E_dec]
  rw [ee_ b1 b3, ee_ b2 b4]
  have hps : 0 < y * s := Int.mul_pos h1 h2
  have hpq : p * q = Rat.divInt (x * r) (y * s) := by
    rw [← Rat.num_divInt_den p, ← Rat.num_divInt_den q, Rat.divInt_mul_divInt]
    exact (Rat.divInt_eq_divInt_iff (by have := @e3_ p; have := @e3_ q; exact Int.mul_ne_zero (by omega) (by omega)) (by omega)).2 (by rw [he])
  have hnum : (p * q).num = x * r := by
    rw [hpq, Rat.num_divInt, Int.gcd_comm, hc, Int.sign_eq_one_of_pos hps]; simp
  have hden : ((p * q).den : Int) = y * s := by
    rw [hpq, Rat.den_divInt, if_neg (by omega), Int.gcd_comm, hc, Nat.div_one]; omega
  rw [hnum] at hn
  rw [hden] at hd
  exact kA_ hn hd hps (by rw [hnum, hden])
theorem rb_ {a b : Rt} {p q : Rat} {j k : Nat} (ha : a.At p) (hb : b.At q) (hp : Sz p j) (hq : Sz q k) (h : j + k ≤ 512) : (cx_ a b).At (p * q) :=
  pP_ ha hb ((hp.mul hq).bn h) ((hp.mul hq).bd h)
theorem ph_ {a b : Rt} {p q : Rat} {j k : Nat} (ha : a.At p) (hb : b.At q) (hp : Sz p j) (hq : Sz q k) (h : j + k + 1 ≤ 512) : (cP_ a b).At (p + q) := by
  unfold cP_
  rw [hd_ ha, hd_ hb]
  simp only [Bool.not_true, Bool.or_false, cond_false]
  have ia := At.is ha
  have ib := At.is hb
  rw [ia.en, ia.ed, ib.en, ib.ed]
  simp only [E_dec]
  have hdp := @e3_ p
  have hdq := @e3_ q
  have hg : 0 < ((Int.gcd (p.den : Int) (q.den : Int) : Nat) : Int) := by
    have := Int.gcd_pos_of_ne_zero_right (p.den : Int) (show (q.den : Int) ≠ 0 by omega)
    omega
  have hbg := gcd_B (u := (p.den : Int)) ib.hd (by omega)
  have g1 : ((Int.gcd (p.den : Int) (q.den : Int) : Nat) : Int) ∣ (p.den : Int) := Int.gcd_dvd_left ..
  have g2 : ((Int.gcd (p.den : Int) (q.den : Int) : Nat) : Int) ∣ (q.den : Int) := Int.gcd_dvd_right ..
  rw [i9_ ia.hd ib.hd, n7_ ib.hd hbg hg, n7_ ia.hd hbg hg]
  generalize ((Int.gcd (p.den : Int) (q.den : Int) : Nat) : Int) = G at *
  obtain ⟨x, hx⟩ := g1
  obtain ⟨y, hy⟩ := g2
  have q1 : (p.den : Int) / G = x := by rw [hx]; exact Int.mul_ediv_cancel_left _ (by omega)
  have q2 : (q.den : Int) / G = y := by rw [hy]; exact Int.mul_ediv_cancel_left _ (by omega)
  rw [q1, q2]
  have x0 : 0 < x := by rw [hx] at hdp; exact Int.pos_of_mul_pos_right hdp hg
  have y0 : 0 < y := by rw [hy] at hdq; exact Int.pos_of_mul_pos_right hdq hg
  have xl : x ≤ p.den := by rw [hx]; have := Int.mul_le_mul_of_nonneg_right (show (1 : Int) ≤ G by omega) (Int.le_of_lt x0); omega
  have yl : y ≤ q.den := by rw [hy]; have := Int.mul_le_mul_of_nonneg_right (show (1 : Int) ≤ G by omega) (Int.le_of_lt y0); omega
  have x1 : x.toNat < 2 ^ j := Nat.lt_of_le_of_lt (by omega) hp.d
  have y1 : y.toNat < 2 ^ k := Nat.lt_of_le_of_lt (by omega) hq.d
  have xe : x = (x.toNat : Int) := by omega
  have ye : y = (y.toNat : Int) := by omega
  have bx : B512 x := B_pow (k := j) (by rw [xe, Int.natAbs_natCast]; exact x1) (by omega)
  have by' : B512 y := B_pow (k := k) (by rw [ye, Int.natAbs_natCast]; exact y1) (by omega)
  rw [ee_ ia.hn by', ee_ ib.hn bx, ee_ bx ib.hd]
  have t1 : (p.num * y).natAbs < 2 ^ (j + k) := by rw [Int.natAbs_mul]; exact gc_ hp.n (by omega)
  have t2 : (q.num * x).natAbs < 2 ^ (j + k) := by rw [Int.natAbs_mul, Nat.mul_comm]; exact gc_ (by omega) hq.n
  have t3 : (x * (q.den : Int)).natAbs < 2 ^ (j + k) := by rw [Int.natAbs_mul]; exact gc_ (by omega) (by simpa using hq.d)
  rw [iV_ (B_pow t1 (by omega)) (B_pow t2 (by omega))]
  have t4 : (p.num * y + q.num * x).natAbs < 2 ^ (j + k + 1) := by rw [Nat.pow_succ]; omega
  refine kA_ (B_pow t4 h) (B_pow t3 (by omega)) (Int.mul_pos x0 hdq) ?_
  have key : p + q = Rat.divInt (p.num * y + q.num * x) (x * q.den) := by
    conv => lhs; rw [← Rat.num_divInt_den p, ← Rat.num_divInt_den q, Rat.divInt_add_divInt _ _ (by omega) (by omega)]
    refine (Rat.divInt_eq_divInt_iff (Int.mul_ne_zero (by omega) (by omega)) (Int.mul_ne_zero (by omega) (by omega))).2 ?_
    rw [hx, hy]; grind
  have h3 := Rat.num_divInt_den (p + q)
  rw [key] at h3 ⊢
  have h4 := (Rat.divInt_eq_divInt_iff (by have := @e3_ (Rat.divInt (p.num * y + q.num * x) (x * q.den)); omega) (Int.mul_ne_zero (by omega) (by omega))).1 h3
  exact h4
end Go.Num


set_option linter.unusedVariables false
set_option linter.unusedSimpArgs false
namespace Go.Num
open Go Go.Kn
theorem go_ : aJ_ = true := by kernel_rfl
def pw (d : I) : Nat → I
  | 0 => E (Z.of 1)
  | k + 1 => E (Z.mul (pw d k).dec d.dec)
theorem mE_ (n : Nat) (f : Nat → I) : (List.range (n + 1)).map f = (List.range n).map f ++ [f n] := by rw [List.range_succ, List.map_append]; rfl
theorem ky_ (d : I) (n : Int) : ∀ (k m : Nat), n.toNat - (m + 1) < k → bR_ d n k ((List.range (m + 1)).map (pw d)) = (List.range (max n.toNat (m + 1))).map (pw d)
  | 0, m, h => absurd h (Nat.not_lt_zero _)
  | k + 1, m, h => by
    unfold bR_
    have hl : ((List.range (m + 1)).map (pw d)).length = m + 1 := by simp
    by_cases hc : ((m + 1 : Nat) : Int) < n
    · rw [hl, decide_eq_true hc, cond_true]
      have e1 : ((List.range (m + 1)).map (pw d)).getD (m + 1 - 1) I0 = pw d m := by simp [List.getD]
      rw [e1, show E (Z.mul (pw d m).dec d.dec) = pw d (m + 1) from rfl, ← mE_, ky_ d n k (m + 1) (by omega)]
      rw [show max n.toNat (m + 1 + 1) = max n.toNat (m + 1) by omega]
    · rw [hl, decide_eq_false hc, cond_false, show max n.toNat (m + 1) = m + 1 by omega]
theorem nw_ (d : I) (n : Int) : aI_ d n = (List.range (max n.toNat 1)).map (pw d) := ky_ d n _ 0 (by omega)
theorem hf_ (d : I) (n : Int) {k : Nat} (h : k < max n.toNat 1) : (aI_ d n).getD k I0 = pw d k := by
  rw [nw_]; simp [List.getD, h]
theorem fine1 (x : Rt) : b4_ [x] = aL_ x := by
  unfold b4_ dx_ dC_
  have e : cq_ [x] (fun y => cn_ y) ([x].length + 1) 0 = bif aL_ x then .inl 1 else .inr (W.cv 0) := by
    show (bif cn_ x then _ else _) = _
    unfold cn_
    cases aL_ x <;> rfl
  rw [e]
  cases aL_ x <;> rfl
end Go.Num


set_option linter.unusedVariables false
set_option linter.unusedSimpArgs false
namespace Go.Num
open Go Go.Kn
/-- Coefficients as rational numbers. -/
def cR (c : Nat → Int) (i : Nat) : Rat := (c i : Rat)
theorem l6_ (f : Nat → Int) : ∀ n : Nat, ((sumN f n : Int) : Rat) = sumN (fun i => (f i : Rat)) n
  | 0 => rfl
  | n + 1 => by simp only [sumN]; rw [Rat.intCast_add, l6_ f n]
theorem jT_ (c d : Nat → Int) : cR (conv c d) = conv (cR c) (cR d) := by
  funext k
  unfold cR conv
  rw [l6_]
  exact cg_ fun i _ => Rat.intCast_mul ..
/-- The value of a polynomial with n coefficients. -/
def vl (c : Nat → Rat) (x : Rat) (n : Nat) : Rat := sumN (fun i => c i * x ^ i) n
theorem l1_ (x : Rat) (m : Nat) : ∀ n : Nat, x ^ (m + n) = x ^ m * x ^ n
  | 0 => by rw [Rat.pow_zero, Rat.mul_one]; rfl
  | n + 1 => by rw [← Nat.add_assoc, Rat.pow_succ, l1_ x m n, Rat.pow_succ, Rat.mul_assoc]
theorem hr_ {c : Nat → Rat} {x : Rat} {n : Nat} (h : ∀ i, n ≤ i → c i = 0) {m : Nat} (hm : n ≤ m) : vl c x m = vl c x n :=
  eP_ (fun i hi => by rw [h i hi, Rat.zero_mul]) m hm
theorem pV_ (c d : Nat → Rat) (x : Rat) (n : Nat) : vl (fun i => c i + d i) x n = vl c x n + vl d x n := by
  unfold vl
  rw [← hT_]
  exact cg_ fun i _ => Rat.add_mul _ _ _
theorem r2_ (a : Rat) (c : Nat → Rat) (x : Rat) (n : Nat) : vl (fun i => a * c i) x n = a * vl c x n := by
  unfold vl
  rw [← fI_]
  exact cg_ fun i _ => Rat.mul_assoc _ _ _
theorem mb_ (c : Nat → Rat) (x : Rat) (n : Nat) : vl c x (n + 1) = c 0 + x * vl (fun i => c (i + 1)) x n := by
  unfold vl
  rw [hj_, Rat.pow_zero, Rat.mul_one, ← fI_]
  congr 1
  refine cg_ fun i _ => ?_
  rw [Rat.pow_succ]; grind
theorem nu_ {c d : Nat → Rat} {x : Rat} {n m : Nat} (hc : ∀ i, n ≤ i → c i = 0) (hd : ∀ i, m ≤ i → d i = 0) {K : Nat} (hK : n + m ≤ K) : vl (conv c d) x K = vl c x n * vl d x m := by
  have h := jt_ (fun i j => c i * x ^ i * (d j * x ^ j)) K
  have e1 : vl (conv c d) x K = sumN (fun k => sumN (fun i => c i * x ^ i * (d (k - i) * x ^ (k - i))) (k + 1)) K := by
    refine cg_ fun k _ => ?_
    show sumN _ _ * _ = _
    rw [← h6_]
    refine cg_ fun i hi => ?_
    have : x ^ k = x ^ i * x ^ (k - i) := by rw [← l1_]; congr 1; omega
    rw [this]; grind
  rw [e1, h]
  unfold vl
  rw [← h6_]
  rw [eP_ (n := n) (fun i hi => by rw [hc i hi]; exact dz_ fun j _ => by rw [Rat.zero_mul, Rat.zero_mul]) K (by omega)]
  refine cg_ fun i hi => ?_
  rw [fI_]
  congr 1
  exact eP_ (fun j hj => by rw [hd j hj, Rat.zero_mul]) _ (by omega)
def hv (c : Nat → Int) (N D : Int) (L : Nat) : Nat → Int
  | 0 => 0
  | t + 1 => hv c N D L t * N + c (L - 1 - t) * D ^ t
section
variable {c : Nat → Int} {N D : Int} {L : Nat}
theorem pR_ {x : Rat} (hx : (D : Rat) * x = N) : ∀ t : Nat, t ≤ L → ((hv c N D L t : Int) : Rat) * D = (D : Rat) ^ t * vl (fun j => cR c (L - t + j)) x t
  | 0, _ => by show ((0 : Int) : Rat) * D = _ * (0 : Rat); rw [Rat.mul_zero]; exact Rat.zero_mul _
  | t + 1, ht => by
    rw [mb_, hv, Rat.intCast_add, Rat.intCast_mul, Rat.intCast_mul, Rat.intCast_pow, Rat.pow_succ]
    have ih := pR_ hx t (by omega)
    rw [show (fun i => (fun j => cR c (L - (t + 1) + j)) (i + 1)) = fun j => cR c (L - t + j) from funext fun j => by show cR c _ = cR c _; congr 1; omega]
    rw [show L - (t + 1) + 0 = L - 1 - t by omega]
    show _ = _ * (((c (L - 1 - t) : Int) : Rat) + _)
    generalize vl (fun j => cR c (L - t + j)) x t = S at *
    generalize ((hv c N D L t : Int) : Rat) = H at *
    rw [← hx]
    grind
theorem nN_ {x : Rat} (hx : (D : Rat) * x = N) (hD : 0 < D) : ((hv c N D L L : Int) : Rat) = (D : Rat) ^ (L - 1) * vl (cR c) x L := by
  have hd : (D : Rat) ≠ 0 := fun h => by have := Rat.intCast_eq_zero_iff.1 h; omega
  cases L with
  | zero => show ((0 : Int) : Rat) = _ * (0 : Rat); rw [Rat.mul_zero]; rfl
  | succ n =>
    have h := pR_ (c := c) (L := n + 1) hx (n + 1) (Nat.le_refl _)
    rw [show (fun j => cR c (n + 1 - (n + 1) + j)) = cR c from funext fun j => by congr 1; omega, Rat.pow_succ] at h
    rw [Nat.add_sub_cancel]
    have : (((hv c N D (n + 1) (n + 1) : Int) : Rat) - (D : Rat) ^ n * vl (cR c) x (n + 1)) * D = 0 := by grind
    rcases Rat.mul_eq_zero.1 this with h | h
    · grind
    · exact absurd h hd
theorem hv_le {b s : Nat} (hc : ∀ k, (c k).natAbs < 2 ^ b) (hN : N.natAbs < 2 ^ s) (hD : D.natAbs < 2 ^ s) : ∀ t : Nat, (hv c N D L t).natAbs ≤ t * 2 ^ (b + s * t)
  | 0 => by simp [hv]
  | t + 1 => by
    have ih := hv_le hc hN hD t
    have h1 : (hv c N D L t * N).natAbs ≤ t * 2 ^ (b + s * t) * 2 ^ s := by
      rw [Int.natAbs_mul]; exact Nat.mul_le_mul ih (Nat.le_of_lt hN)
    have h2 : (c (L - 1 - t) * D ^ t).natAbs ≤ 2 ^ b * 2 ^ (s * t) := by
      rw [Int.natAbs_mul, Int.natAbs_pow, Nat.pow_mul]
      exact Nat.mul_le_mul (Nat.le_of_lt (hc _)) (Nat.pow_le_pow_left (Nat.le_of_lt hD) t)
    have h3 := Int.natAbs_add_le (hv c N D L t * N) (c (L - 1 - t) * D ^ t)
    have h4 : (2 : Nat) ^ b * 2 ^ (s * t) ≤ 2 ^ (b + s * (t + 1)) := by
      rw [← Nat.pow_add]; exact Nat.pow_le_pow_right (by decide) (by rw [Nat.mul_succ]; omega)
    have h5 : t * 2 ^ (b + s * t) * 2 ^ s = t * 2 ^ (b + s * (t + 1)) := by
      rw [Nat.mul_assoc, ← Nat.pow_add, Nat.mul_succ, Nat.add_assoc]
    rw [Nat.succ_mul]; show (hv c N D L t * N + c (L - 1 - t) * D ^ t).natAbs ≤ _; omega
/-- Enough digits for a value. -/
structure Room (c : Nat → Int) (N D : Int) (L : Nat) : Prop where
  h : ∀ t, t ≤ L → B512 (hv c N D L t)
  m : ∀ t, t < L → B512 (hv c N D L t * N)
  p : ∀ t, t < L → B512 (D ^ t)
  q : ∀ t, t < L → B512 (c (L - 1 - t) * D ^ t)
theorem room {b s n e : Nat} (hc : ∀ k, (c k).natAbs < 2 ^ b) (hN : N.natAbs < 2 ^ s) (hD : D.natAbs < 2 ^ s) (hL : L ≤ n) (hn : n ≤ 2 ^ e) (h : b + s * n + e + 1 ≤ 512) : Room c N D L := by
  have hp : (2 : Nat) ^ (b + s * n + e + 1) = 2 * (2 ^ e * 2 ^ (b + s * n)) := by rw [Nat.pow_succ, Nat.add_comm _ e, Nat.pow_add]; omega
  have h0 : 0 < 2 ^ e * 2 ^ (b + s * n) := Nat.mul_pos (Nat.pow_pos (by decide)) (Nat.pow_pos (by decide))
  have k1 : ∀ t, t ≤ n → t * 2 ^ (b + s * t) ≤ 2 ^ e * 2 ^ (b + s * n) := fun t ht =>
    Nat.mul_le_mul (by omega) (Nat.pow_le_pow_right (by decide) (by have := Nat.mul_le_mul_left s ht; omega))
  have k2 : ∀ t, t < n → (2 : Nat) ^ (s * t) ≤ 2 ^ (b + s * n) := fun t ht => Nat.pow_le_pow_right (by decide) (by have := Nat.mul_le_mul_left s (Nat.le_of_lt ht); omega)
  have he : 1 ≤ 2 ^ e := Nat.pow_pos (by decide)
  have kD : ∀ t, (D ^ t).natAbs ≤ 2 ^ (s * t) := fun t => by rw [Int.natAbs_pow, Nat.pow_mul]; exact Nat.pow_le_pow_left (Nat.le_of_lt hD) t
  have k0 : 2 ^ (b + s * n) ≤ 2 ^ e * 2 ^ (b + s * n) := Nat.le_mul_of_pos_left _ he
  refine ⟨fun t ht => ec_ (k := b + s * n + e + 1) ?_ h, fun t ht => ec_ (k := b + s * n + e + 1) ?_ h, fun t ht => ec_ (k := b + s * n + e + 1) ?_ h, fun t ht => ec_ (k := b + s * n + e + 1) ?_ h⟩
  · have := hv_le (L := L) hc hN hD t
    have := k1 t (by omega)
    omega
  · have h1 := hv_le (L := L) hc hN hD t
    have h2 := k1 (t + 1) (by omega)
    have h3 : (hv c N D L t * N).natAbs ≤ t * 2 ^ (b + s * t) * 2 ^ s := by
      rw [Int.natAbs_mul]; exact Nat.mul_le_mul h1 (Nat.le_of_lt hN)
    have h5 : t * 2 ^ (b + s * t) * 2 ^ s = t * 2 ^ (b + s * (t + 1)) := by
      rw [Nat.mul_assoc, ← Nat.pow_add, Nat.mul_succ, Nat.add_assoc]
    rw [Nat.succ_mul] at h2
    have h6 : 0 < 2 ^ (b + s * (t + 1)) := Nat.pow_pos (by decide)
    omega
  · have := kD t
    have := k2 t (by omega)
    omega
  · have h2 : (c (L - 1 - t) * D ^ t).natAbs ≤ 2 ^ b * 2 ^ (s * t) := by
      rw [Int.natAbs_mul]; exact Nat.mul_le_mul (Nat.le_of_lt (hc _)) (kD t)
    have h3 : (2 : Nat) ^ b * 2 ^ (s * t) ≤ 2 ^ (b + s * n) := by
      rw [← Nat.pow_add]; exact Nat.pow_le_pow_right (by decide) (by have := Nat.mul_le_mul_left s (Nat.le_of_lt (show t < n by omega)); omega)
    omega
theorem lz_ {D : Int} : ∀ {k : Nat}, (∀ j, j ≤ k → B512 (D ^ j)) → pw (E (Z.of D)) k = E (Z.of (D ^ k))
  | 0, _ => by rw [Int.pow_zero]; rfl
  | k + 1, h => by
    rw [pw, lz_ fun j hj => h j (by omega), E_dec, E_dec, ee_ (h k (by omega)) (by have := h 1 (by omega); rwa [Int.pow_one] at this : B512 D), Int.pow_succ]
variable {p : List I} {x : Rt}
theorem p0_ (h : Po p c) (hx : x.Is N D) (r : Room c N D p.length) : ∀ (f t : Nat) (i : Int), t ≤ p.length → i = ((p.length : Nat) : Int) - 1 - t → p.length - t < f →
    (b8_ p x f i (E (Z.of (hv c N D p.length t)))).2 = E (Z.of (hv c N D p.length p.length))
  | 0, t, i, _, _, hf => absurd hf (Nat.not_lt_zero _)
  | f + 1, t, i, ht, hi, hf => by
    unfold b8_
    by_cases h0 : 0 ≤ i
    · rw [decide_eq_true h0, cond_true]
      have hl : t < p.length := by omega
      have e1 : i.toNat = p.length - 1 - t := by omega
      have e2 : p.length - 1 - i.toNat = t := by omega
      simp only
      rw [e2, hf_ _ _ (show t < max (((p.length : Nat) : Int)).toNat 1 by omega), hx.ed, lz_ fun j hj => r.p j (by omega), e1, h.get, hx.en, E_dec, E_dec, E_dec, E_dec, E_dec,
        ee_ (h.B _) (r.p t hl), ee_ (r.h t ht) hx.hn, iV_ (r.m t hl) (r.q t hl)]
      exact p0_ h hx r f (t + 1) _ (by omega) (by omega) (by omega)
    · rw [decide_eq_false h0, cond_false, show t = p.length by omega]
theorem kd_ (h : Po p c) (hx : x.Is N D) (r : Room c N D p.length) : ba_ p x = (E (Z.of (hv c N D p.length p.length)), E (Z.of (D ^ (p.length - 1)))) := by
  unfold ba_
  rw [h.nb, fine1, gy_, nY_ hx]
  show ((b8_ p x (p.length + 1) (((p.length : Nat) : Int) - 1) I0).2, _) = _
  congr 1
  · have e := p0_ h hx r (p.length + 1) 0 (((p.length : Nat) : Int) - 1) (Nat.zero_le _) (by omega) (by omega)
    rw [show hv c N D p.length 0 = 0 from rfl, ← I0_E] at e
    exact e
  · rw [show ((((p.length : Nat) : Int) - 1)).toNat = p.length - 1 by omega, hf_ _ _ (by omega), hx.ed]
    cases hl : p.length with
    | zero => show pw _ 0 = E (Z.of (D ^ 0)); rw [Int.pow_zero]; rfl
    | succ n => exact lz_ fun j hj => r.p j (by omega)
theorem mW_ (q : Rat) : q * ((q.den : Int) : Rat) = ((q.num : Int) : Rat) := by
  have h := Rat.num_divInt_den q
  rw [Rat.divInt_eq_div, Rat.div_def] at h
  have h0 : (((q.den : Nat) : Int) : Rat) ≠ 0 := fun h => q.den_nz (by have := Rat.intCast_eq_zero_iff.1 h; omega)
  have e : (((q.num : Int) : Rat) * (((q.den : Nat) : Int) : Rat)⁻¹) * (((q.den : Nat) : Int) : Rat) = ((q.num : Int) : Rat) := by rw [Rat.mul_assoc, Rat.inv_mul_cancel _ h0, Rat.mul_one]
  rw [h] at e; exact e
theorem l4_ {q : Rat} {n d : Int} (h : (n : Rat) = (d : Rat) * q) : q.num * d = n * q.den := by
  have h1 := mW_ q
  have h2 : (((n * q.den : Int)) : Rat) = ((q.num * d : Int) : Rat) := by
    rw [Rat.intCast_mul, Rat.intCast_mul, h, ← h1]; grind
  exact (Rat.intCast_inj.1 h2).symm
theorem in_ {q : Rat} : ((q.den : Int) : Rat) * q = ((q.num : Int) : Rat) := by
  rw [Rat.mul_comm]; exact mW_ q
/-- The value at a rational number. -/
theorem hi_ {q : Rat} {n b s e : Nat} (h : Po p c) (hb : Bd c n b) (hx : x.At q) (hs : Sz q s) (hn : n ≤ 2 ^ e) (hk : b + s * n + e + 1 ≤ 512) : (ah_ p x).At (vl (cR c) q n) := by
  have ix := At.is hx
  have hl := h.len hb
  have r := room (L := p.length) hb.b hs.n (show ((q.den : Int)).natAbs < 2 ^ s by rw [Int.natAbs_natCast]; exact hs.d) hl hn hk
  unfold ah_
  rw [kd_ h ix r, jy_]
  have hp := @e3_ q
  have hv := nN_ (c := c) (L := p.length) (N := q.num) (D := (q.den : Int)) in_ hp
  rw [hr_ (n := p.length) (fun i hi => by unfold cR; rw [h.zero hi]; rfl) hl]
  refine kA_ (r.h _ (Nat.le_refl _)) ?_ (Int.pow_pos hp) (l4_ ?_)
  · cases hp : p.length with
    | zero => exact B1
    | succ m => exact r.p _ (by omega)
  · rw [hv, Rat.intCast_pow]
theorem lJ_ {q : Rat} {n b s e : Nat} (h : Po p c) (hb : Bd c n b) (hx : x.At q) (hs : Sz q s) (hn : n ≤ 2 ^ e) (hk : b + s * n + e + 1 ≤ 512) : (bI_ p x).2 = true ∧ (bI_ p x).1.1 = (vl (cR c) q n).num.sign := by
  have ix := At.is hx
  have hl := h.len hb
  have r := room (L := p.length) hb.b hs.n (show ((q.den : Int)).natAbs < 2 ^ s by rw [Int.natAbs_natCast]; exact hs.d) hl hn hk
  unfold bI_
  rw [kd_ h ix r]
  have hp := @e3_ q
  have hv := nN_ (c := c) (L := p.length) (N := q.num) (D := (q.den : Int)) in_ hp
  rw [hr_ (n := p.length) (fun i hi => by unfold cR; rw [h.zero hi]; rfl) hl]
  refine ⟨by show (!(E (Z.of _)).1.bad) = true; rw [lY_ (r.h _ (Nat.le_refl _))]; rfl, ?_⟩
  show (Z.signW (E (Z.of _)).dec).1 = _
  rw [E_dec, eM_ (r.h _ (Nat.le_refl _))]
  have e := l4_ (n := Go.Num.hv c q.num (q.den : Int) p.length p.length) (d := (q.den : Int) ^ (p.length - 1)) (by rw [hv, Rat.intCast_pow])
  have e2 := congrArg Int.sign e
  rw [Int.sign_mul, Int.sign_mul, Int.sign_eq_one_of_pos (Int.pow_pos hp), Int.sign_eq_one_of_pos (@e3_ _), Int.mul_one, Int.mul_one] at e2
  exact e2.symm
end
end Go.Num


set_option linter.unusedVariables false
set_option linter.unusedSimpArgs false
namespace Go.Num
open Go Go.Kn
theorem Sz_of {q : Rat} {n d : Int} {k : Nat} (h : (n : Rat) = (d : Rat) * q) (h0 : 0 < d) (hn : n.natAbs < 2 ^ k) (hd : d.natAbs < 2 ^ k) : Sz q k := by
  have e := congrArg Int.natAbs (l4_ h)
  rw [Int.natAbs_mul, Int.natAbs_mul, Int.natAbs_natCast] at e
  have hr := q.reduced
  have k1 : q.den ∣ d.natAbs := (Nat.Coprime.symm hr).dvd_of_dvd_mul_left (by rw [e]; exact Nat.dvd_mul_left ..)
  have k2 : q.num.natAbs ∣ n.natAbs := Nat.Coprime.dvd_of_dvd_mul_right hr (by rw [← e]; exact Nat.dvd_mul_right ..)
  refine ⟨?_, Nat.lt_of_le_of_lt (Nat.le_of_dvd (by omega) k1) hd⟩
  by_cases hz : n.natAbs = 0
  · rw [hz, Nat.zero_mul] at e
    rcases Nat.mul_eq_zero.1 e with h1 | h1
    · rw [h1]; exact Nat.pow_pos (by decide)
    · omega
  · exact Nat.lt_of_le_of_lt (Nat.le_of_dvd (by omega) k2) hn
theorem vl_Sz {c : Nat → Int} {q : Rat} {n b s e : Nat} (hb : Bd c n b) (hs : Sz q s) (hn : n ≤ 2 ^ e) : Sz (vl (cR c) q n) (b + s * n + e + 1) := by
  have hp := @e3_ q
  have hd : ((q.den : Int)).natAbs < 2 ^ s := by rw [Int.natAbs_natCast]; exact hs.d
  have e1 := nN_ (c := c) (L := n) (N := q.num) (D := (q.den : Int)) in_ hp
  rw [← Rat.intCast_pow] at e1
  have h1 := hv_le (L := n) hb.b hs.n hd n
  have hq : (2 : Nat) ^ (b + s * n + e + 1) = 2 * (2 ^ e * 2 ^ (b + s * n)) := by rw [Nat.pow_succ, Nat.add_comm _ e, Nat.pow_add]; omega
  have h0 : 0 < 2 ^ e * 2 ^ (b + s * n) := Nat.mul_pos (Nat.pow_pos (by decide)) (Nat.pow_pos (by decide))
  have k0 : 2 ^ (b + s * n) ≤ 2 ^ e * 2 ^ (b + s * n) := Nat.le_mul_of_pos_left _ (Nat.pow_pos (by decide))
  refine Sz_of e1 (Int.pow_pos hp) ?_ ?_
  · have := Nat.mul_le_mul_right (2 ^ (b + s * n)) hn
    omega
  · rw [Int.natAbs_pow]
    have k1 : (q.den : Int).natAbs ^ (n - 1) ≤ 2 ^ (s * (n - 1)) := by rw [Nat.pow_mul]; exact Nat.pow_le_pow_left (Nat.le_of_lt hd) _
    have k2 : (2 : Nat) ^ (s * (n - 1)) ≤ 2 ^ (b + s * n) := Nat.pow_le_pow_right (by decide) (by have := Nat.mul_le_mul_left s (show n - 1 ≤ n by omega); omega)
    omega
theorem hO_ {x : Rt} {b : Int} (h : au_ x b = true) : ∃ q, x.At q ∧ Sz q b.toNat := by
  unfold au_ at h
  simp only [Bool.and_eq_true, decide_eq_true_eq] at h
  obtain ⟨g, h1, h2⟩ := h
  obtain ⟨q, hq⟩ := qt_ g
  have i := At.is hq
  rw [i.en, E_dec] at h1
  rw [i.ed, E_dec] at h2
  refine ⟨q, hq, kK_ i.hn h1, ?_⟩
  have := kK_ i.hd h2
  rwa [Int.natAbs_natCast] at this
theorem e5_ {p : List I} (x : Rt) (hp : p.length ≤ 1000) (h : p.all gdI = false) : ah_ p x = a7_ := by
  unfold ah_ ba_
  rw [eU_ hp, h]
  show aj_ (E Z.bad) _ = _
  rw [jy_, jX_]
theorem l5_ {a b : Rt} (h : a = a7_ ∨ b = a7_) : aO_ a b = a7_ := by
  rw [nl_]; unfold cx_
  rcases h with rfl | rfl
  · rw [jf_]; rfl
  · rw [jf_]; cases ax_ a <;> rfl
theorem lh_ {a b : Rt} (h : a = a7_ ∨ b = a7_) : a6_ a b = a7_ := by
  rw [mN_]; unfold cP_
  rcases h with rfl | rfl
  · rw [jf_]; rfl
  · rw [jf_]; cases ax_ a <;> rfl
theorem Bd.cz {c : Nat → Int} {n b : Nat} (h : Bd c n b) : ∀ i, n ≤ i → cR c i = 0 := fun i hi => by unfold cR; rw [h.z i hi]; rfl
theorem l25 {l : List I} (h : l.length ≤ 25) : l.length ≤ 1000 := Nat.le_trans h (by decide)
theorem mI_ (p q s : List I) (x : Rt) : b2_ p q s x = true := by
  unfold b2_
  cases hc : (!(ag_ p 6 100) || (!(ag_ q 6 100) || (!(ag_ s 6 100) || (!(au_ x 20)))))
  case true => rw [cond_true]; exact go_
  simp only [Bool.or_eq_false_iff, Bool.not_eq_false'] at hc
  obtain ⟨fp, fq, fs, hx⟩ := hc
  have rp := (few_f (p := p) (d := 6) (b := 100) (by rw [fp]; rfl)).1
  have rq := (few_f (p := q) (d := 6) (b := 100) (by rw [fq]; rfl)).1
  have rs := (few_f (p := s) (d := 6) (b := 100) (by rw [fs]; rfl)).1
  obtain ⟨z, hz, sz⟩ := hO_ hx
  have lp := h1_ rp
  have lq := h1_ rq
  have ls := h1_ rs
  have lb : badp.length ≤ 1000 := by decide
  have A1 : ak_ p q = ak_ q p := by
    cases h1 : p.all gdI
    · rw [eS_ lp lq (.inl h1), eS_ lq lp (.inr h1)]
    · cases h2 : q.all gdI
      · rw [eS_ lp lq (.inr h2), eS_ lq lp (.inl h2)]
      · obtain ⟨c, a, ca⟩ := cS_ fp h1
        obtain ⟨d, b, db⟩ := cS_ fq h2
        exact (iP_ a b ca db (by decide)).eq ((iP_ b a db ca (by decide)).cast fun k => Int.add_comm _ _)
  have A2 : ac_ p q = ac_ q p := by
    cases h1 : p.all gdI
    · rw [cU_ lp lq (.inl h1), cU_ lq lp (.inr h1)]
    · cases h2 : q.all gdI
      · rw [cU_ lp lq (.inr h2), cU_ lq lp (.inl h2)]
      · obtain ⟨c, a, ca⟩ := cS_ fp h1
        obtain ⟨d, b, db⟩ := cS_ fq h2
        exact (fM_ a b ca db (e := 3) (by decide) (by decide) (by decide)).eq ((fM_ b a db ca (e := 3) (by decide) (by decide) (by decide)).cast fun k => by rw [g6_])
  have A3 : ac_ p (ak_ q s) = ak_ (ac_ p q) (ac_ p s) := by
    have k1 := l25 (bO_ p q)
    have k2 := l25 (bO_ p s)
    cases h1 : p.all gdI
    · rw [cU_ lp (l25 (c2_ q s)) (.inl h1), cU_ lp lq (.inl h1), eS_ lb k2 (.inl a9_)]
    · cases h2 : q.all gdI
      · rw [eS_ lq ls (.inl h2), cU_ lp lb (.inr a9_), cU_ lp lq (.inr h2), eS_ lb k2 (.inl a9_)]
      · cases h3 : s.all gdI
        · rw [eS_ lq ls (.inr h3), cU_ lp lb (.inr a9_), cU_ lp ls (.inr h3), eS_ k1 lb (.inr a9_)]
        · obtain ⟨c, a, ca⟩ := cS_ fp h1
          obtain ⟨d, b, db⟩ := cS_ fq h2
          obtain ⟨e, g, eb⟩ := cS_ fs h3
          have u := fM_ a (iP_ b g db eb (by decide)) ca (db.add eb) (e := 3) (by decide) (by decide) (by decide)
          have v := iP_ (fM_ a b ca db (e := 3) (by decide) (by decide) (by decide)) (fM_ a g ca eb (e := 3) (by decide) (by decide) (by decide)) (ca.conv db (e := 3) (by decide)) (ca.conv eb (e := 3) (by decide)) (by decide)
          exact u.eq (v.cast fun k => by rw [l0_])
  have A4 : ac_ (ac_ p q) s = ac_ p (ac_ q s) := by
    have k1 := l25 (bO_ p q)
    have k2 := l25 (bO_ q s)
    cases h1 : p.all gdI
    · rw [cU_ lp lq (.inl h1), cU_ lb ls (.inl a9_), cU_ lp k2 (.inl h1)]
    · cases h2 : q.all gdI
      · rw [cU_ lp lq (.inr h2), cU_ lb ls (.inl a9_), cU_ lq ls (.inl h2), cU_ lp lb (.inr a9_)]
      · cases h3 : s.all gdI
        · rw [cU_ k1 ls (.inr h3), cU_ lq ls (.inr h3), cU_ lp lb (.inr a9_)]
        · obtain ⟨c, a, ca⟩ := cS_ fp h1
          obtain ⟨d, b, db⟩ := cS_ fq h2
          obtain ⟨e, g, eb⟩ := cS_ fs h3
          have u := fM_ (fM_ a b ca db (e := 3) (by decide) (by decide) (by decide)) g (ca.conv db (e := 3) (by decide)) eb (e := 4) (by decide) (by decide) (by decide)
          have v := fM_ a (fM_ b g db eb (e := 3) (by decide) (by decide) (by decide)) ca (db.conv eb (e := 3) (by decide)) (e := 3) (by decide) (by decide) (by decide)
          exact u.eq (v.cast fun k => by rw [ml_])
  have A5 : ah_ (ac_ p q) x = aO_ (ah_ p x) (ah_ q x) := by
    cases h1 : p.all gdI
    · rw [cU_ lp lq (.inl h1), e5_ x lb a9_, e5_ x lp h1, l5_ (.inl rfl)]
    · cases h2 : q.all gdI
      · rw [cU_ lp lq (.inr h2), e5_ x lb a9_, e5_ x lq h2, l5_ (.inr rfl)]
      · obtain ⟨c, a, ca⟩ := cS_ fp h1
        obtain ⟨d, b, db⟩ := cS_ fq h2
        have u := hi_ (e := 4) (fM_ a b ca db (e := 3) (by decide) (by decide) (by decide)) ((ca.conv db (e := 3) (by decide)).mono (show _ ≤ 14 by decide) (Nat.le_refl _)) hz sz (by decide) (by decide)
        rw [jT_, nu_ (n := 7) (m := 7) ca.cz db.cz (by decide)] at u
        have v := hi_ (e := 3) a ca hz sz (by decide) (by decide)
        have w := hi_ (e := 3) b db hz sz (by decide) (by decide)
        rw [nl_]
        exact pS_ u (pP_ v w (At.is u).hn (At.is u).hd)
  have A6 : ah_ (ak_ p q) x = a6_ (ah_ p x) (ah_ q x) := by
    cases h1 : p.all gdI
    · rw [eS_ lp lq (.inl h1), e5_ x lb a9_, e5_ x lp h1, lh_ (.inl rfl)]
    · cases h2 : q.all gdI
      · rw [eS_ lp lq (.inr h2), e5_ x lb a9_, e5_ x lq h2, lh_ (.inr rfl)]
      · obtain ⟨c, a, ca⟩ := cS_ fp h1
        obtain ⟨d, b, db⟩ := cS_ fq h2
        have u := hi_ (e := 3) (iP_ a b ca db (by decide)) (ca.add db) hz sz (by decide) (by decide)
        have e : cR (fun k => c k + d k) = fun i => cR c i + cR d i := funext fun i => Rat.intCast_add ..
        rw [e, pV_] at u
        have v := hi_ (e := 3) a ca hz sz (by decide) (by decide)
        have w := hi_ (e := 3) b db hz sz (by decide) (by decide)
        rw [mN_]
        exact pS_ u (ph_ v w (vl_Sz (e := 3) ca sz (by decide)) (vl_Sz (e := 3) db sz (by decide)) (by decide))
  rw [A3, A4, A5, A6, A1, A2, go_]
  simp only [gJ_, Bool.and_self, decide_true, cond_false]
end Go.Num


set_option linter.unusedVariables false
set_option linter.unusedSimpArgs false
namespace Go.Num
open Go Go.Kn Go.RowKit Go.ChangeShapes Go.WideShapes
section
variable {H : Type} {enc : TypeId × Value → H} {P : Program} {w : World} {base : Nat} {spare : Nat → Bool} {held : Bool} {α : Type} {e : El α}
theorem Rd.app {a : Addr} {A B : List Value} (h : Rd w a A) (k : Rd w (a.add A.length) B) : Rd w a (A ++ B) := fun j v hj => by
  rcases Nat.lt_or_ge j A.length with h' | h'
  · rw [List.getElem?_append_left h'] at hj; exact h j v hj
  · rw [List.getElem?_append_right h'] at hj
    have := k _ _ hj
    rw [kJ_, Nat.add_sub_cancel' h'] at this
    exact this
theorem Rd.of_cells {a : Addr} {n : Nat} {cs : List Value} (h : w.cells? base a n = some cs) : Rd w a cs := fun j v hj => by
  obtain ⟨_, hl, hc⟩ := World.cells?_some h
  have hj' : j < cs.length := (List.getElem?_eq_some_iff.1 hj).1
  have h1 := hc j (by omega)
  rw [hj] at h1
  exact h1
theorem oe_ {a : Addr} {len : Nat} (h : ∀ i, i < len → ∃ x : α, w.cells? base (a.add (i * e.n)) e.n = some (e.cs x)) : ∀ k, k ≤ len → ∃ l : List α, l.length = k ∧ Rd w a (rows e l)
  | 0, _ => ⟨[], rfl, fun j v hj => by simp [rows] at hj⟩
  | k + 1, hk => by
    obtain ⟨l, hl, hr⟩ := oe_ h k (by omega)
    obtain ⟨x, hx⟩ := h k (by omega)
    refine ⟨l ++ [x], by simp [hl], ?_⟩
    rw [e0_]
    refine Rd.app hr ?_
    rw [cR_, hl]
    have := Rd.of_cells hx
    simpa [rows] using this
theorem q8_ {T E : TypeId} {ls : List Leaf} {v : Value} {d : DataW H} {p : List MemPlace} {b0 : Nat} {r : Reach} (hT : P.underlying T = some (.slice E)) (hl : lz P 8 E = some ls) (hn : P.cellsOf E = e.n)
    (op : ∀ cs, LWF cs ls → ∃ x : α, cs = e.cs x) (hv : Value.okWide P w r b0 T v) (ht : DataW.Trod enc P w base spare held T v d p) : ∃ l : List α, Slr w e v l := by
  obtain ⟨fuel, hf⟩ := ht
  have hv' : ∃ a n c, v = .slice a n c := by
    unfold Value.okWide at hv
    rw [hT] at hv
    unfold Cell.okWide at hv
    rw [hT] at hv
    cases v <;> simp_all [Cell.ok]
  obtain ⟨a, n, c, rfl⟩ := hv'
  have e1 : (Value.slice a n c).cells.toList = [.slice a n c] := rfl
  rw [e1] at hf
  rcases DataW.trod_slice hT hf with ⟨h, _⟩ | ⟨a', len, cap, elems, rest, m, _, h, _, _, hlc, hc, hel, hall, _⟩
  · cases h
    exact ⟨[], none, 0, rfl, Nat.le_refl _, by decide, .inl ⟨rfl, rfl, rfl⟩⟩
  · cases h
    have hx : ∀ i, i < n → ∃ x : α, w.cells? base (a'.add (i * e.n)) e.n = some (e.cs x) := fun i hi => by
      have h1 := hall i hi
      rw [List.getElem?_eq_getElem (by omega), hn] at h1
      cases hc' : w.cells? base (a'.add (i * e.n)) e.n with
      | none => rw [hc'] at h1; cases h1
      | some cs =>
        rw [hc'] at h1
        obtain ⟨x, hx⟩ := op cs (fz_ 8 hl h1)
        exact ⟨x, by rw [hx]⟩
    obtain ⟨l, hl', hr⟩ := oe_ hx n (Nat.le_refl _)
    exact ⟨l, some a', c, by rw [hl'], by omega, hc, .inr ⟨a', rfl, hr⟩⟩
end
theorem sA_ {cs : List Value} (h : LWF cs LI) : ∃ x : I, cs = elI.cs x := by
  obtain ⟨x0, rfl⟩ := openI h
  exact ⟨x0, by first | rfl | exact (List.append_nil _).symm | simp [El.cs, elI, flat]⟩
end Go.Num

