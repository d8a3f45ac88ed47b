/- Polynomials: three statements: what is made, sums, values. No program stands in it. What is left of a product and a rest, divided by a factor. No program stands in it. From a reading of an argument that is a slice to the list that it reads. No program stands in it. -/
import Derived.Test.YtjdfogfmeibkgaaGreatVYf
import Derived.Test.YtjdfogfmeibkgaaGreatVFp
import Derived.KernelRfl
import Derived.Test.YtjdfogfmeibkgaaGreatVL10
import Derived.Test.YtjdfogfmeibkgaaGreatVGD
import Derived.ProofKit
import Derived.OpenShut
import Derived.ChangeOld
import Derived.ChangeArms

set_option linter.unusedVariables false
set_option linter.unusedSimpArgs false
namespace Go.Num
open Go Go.Kn
theorem ki_ : bz_ = true := by kernel_rfl
end Go.Num


set_option linter.unusedVariables false
set_option linter.unusedSimpArgs false
namespace Go.Num
open Go Go.Kn
theorem kE_ (d : Nat → Int) (m k : Nat) : conv d (fun i => if i = m then 1 else 0) k = shf d m k := by
  rw [gT_]
  unfold conv shf
  by_cases h : m ≤ k
  · rw [if_pos h, kk_ (a := m) (fun i hi => ?_) (by omega)]
    · show (if m = m then 1 else 0) * d (k - m) = _
      rw [if_pos rfl, Int.one_mul]
    · show (if i = m then 1 else 0) * d (k - i) = _
      rw [if_neg hi, Int.zero_mul]
  · rw [if_neg h]
    refine dN_ fun i hi => ?_
    show (if i = m then 1 else 0) * d (k - i) = _
    rw [if_neg (by omega), Int.zero_mul]
theorem kB_ (d S : Nat → Int) (m k : Nat) (hS : ∀ i, m < i → S i = 0) : conv d S k = conv d (fun i => if i < m then S i else 0) k + S m * shf d m k := by
  have e : conv d (fun i => S m * (if i = m then 1 else 0)) k = S m * shf d m k := by rw [← kE_, jP_]
  rw [← e]
  rw [show conv d S = fun k => conv d (fun i => if i < m then S i else 0) k + conv d (fun i => S m * (if i = m then 1 else 0)) k by
    rw [← mH_]
    congr 1
    funext i
    rcases Nat.lt_trichotomy i m with h | h | h
    · rw [if_pos h, if_neg (by omega), Int.mul_zero, Int.add_zero]
    · rw [if_neg (by omega), if_pos h, h, Int.mul_one, Int.zero_add]
    · rw [if_neg (by omega), if_neg (by omega), hS i h, Int.mul_zero]; rfl]
theorem j2_ {a o : Int} {d : Nat → Int} {n : Nat} (ho : o * d n = a) (hd : ∀ i, n < i → d i = 0) : ∀ (m : Nat) (S R : Nat → Int), (∀ i, m ≤ i → S i = 0) → (∀ i, n ≤ i → R i = 0) → remf a o d n m (fun k => conv d S k + R k) = fun k => a ^ m * R k
  | 0, S, R, hS, hR => by
    funext k
    show conv d S k + R k = _
    rw [show conv d S k = 0 from dN_ fun i _ => by rw [hS _ (Nat.zero_le _), Int.mul_zero], Int.pow_zero, Int.zero_add, Int.one_mul]
  | m + 1, S, R, hS, hR => by
    have hS' : ∀ i, m < i → S i = 0 := fun i hi => hS i hi
    have e : rstep a o d n m (fun k => conv d S k + R k) = fun k => conv d (fun i => a * (if i < m then S i else 0)) k + a * R k := by
      funext k
      show a * (conv d S k + R k) - o * (conv d S (m + n) + R (m + n)) * shf d m k = _
      rw [hR (m + n) (by omega), Nat.add_comm m n, kh_ (n := n) (m := m) hd hS', jP_, kB_ d S m k hS', ← ho]
      grind
    show remf a o d n m (rstep a o d n m _) = _
    rw [e, j2_ ho hd m _ (fun k => a * R k) (fun i hi => by rw [if_neg (by omega), Int.mul_zero]) (fun i hi => by show a * R i = 0; rw [hR i hi, Int.mul_zero])]
    funext k
    rw [Int.pow_succ, Int.mul_assoc]
theorem mJ_ (v : Int) : v.sign * v = (v.natAbs : Int) := by
  rcases Int.lt_trichotomy v 0 with h | h | h
  · rw [Int.sign_eq_neg_one_of_neg h]; omega
  · subst h; rfl
  · rw [Int.sign_eq_one_of_pos h]; omega
theorem mj_ (v : Int) : v.sign.natAbs ≤ 1 := by
  rcases Int.lt_trichotomy v 0 with h | h | h
  · rw [Int.sign_eq_neg_one_of_neg h]; decide
  · subst h; decide
  · rw [Int.sign_eq_one_of_pos h]; decide
theorem gx_ {q s r : List I} {R : Nat → Int} {a : Int} {n T : Nat} (hq : q.length = n + 1) (ha : E (Z.abs (q.getD (q.length - 1) I0).dec) = E (Z.of a)) (hB : B512 a)
    (hT : ((aN_ (as_ q s) r).length - n = T)) (hR : ∀ j k, j ≤ T → B512 (R k * a ^ j)) :
    ∀ (f i : Nat) (w : List I), T - i < f → i ≤ T → Po w (fun k => R k * a ^ i) → Po (aF_ q s r f w i).1 (fun k => R k * a ^ T)
  | 0, i, w, hf, _, _ => absurd hf (Nat.not_lt_zero _)
  | f + 1, i, w, hf, hi, hw => by
    unfold aF_
    by_cases h : i < T
    · rw [decide_eq_true (by omega), cond_true, ha]
      have e : ∀ k, R k * a ^ i * a = R k * a ^ (i + 1) := fun k => by rw [Int.pow_succ, Int.mul_assoc]
      exact gx_ hq ha hB hT hR f (i + 1) _ (by omega) (by omega) ((mS_ hw hB (fun k => by rw [e]; exact hR (i + 1) k (by omega))).cast e)
    · rw [decide_eq_false (by omega), cond_false]
      rw [show T = i by omega]; exact hw
theorem me_ {a : Int} {b : Nat} (ha : a.natAbs < 2 ^ b) (j : Nat) : (a ^ j).natAbs < 2 ^ (b * j + 1) := by
  rw [Int.natAbs_pow]
  have h := Nat.pow_le_pow_left (Nat.le_of_lt ha) j
  rw [← Nat.pow_mul] at h
  exact Nat.lt_of_le_of_lt h (Nat.pow_lt_pow_right (by decide) (by omega))
theorem js_ {p : List I} (hl : p.length ≤ 1000) (h : ab_ p = false) : p.all gdI = true := by
  rw [fe_ hl] at h; simpa using h
theorem kS_ (q s r : List I) : bG_ q s r = true := by
  unfold bG_
  cases hc : (!(al_ q 4 20) || (!(al_ s 4 20) || (!(al_ r 4 20) || ((ab_ q) || ((ab_ s) || ((ab_ r) || decide ((((q).length : Nat) : Int) ≤ (((r).length : Nat) : Int))))))))
  case true => rw [cond_true]; exact ki_
  simp only [Bool.or_eq_false_iff, Bool.not_eq_false', decide_eq_false_iff_not] at hc
  obtain ⟨fq, fs, fr, bq, bs, br, hl⟩ := hc
  have rq := (few_f (p := q) (d := 4) (b := 20) (by rw [fq]; rfl)).1
  have rs := (few_f (p := s) (d := 4) (b := 20) (by rw [fs]; rfl)).1
  have rr := (few_f (p := r) (d := 4) (b := 20) (by rw [fr]; rfl)).1
  obtain ⟨d, g, gb⟩ := il_ fq (js_ (lt_ rq) bq)
  obtain ⟨S, hs, sb⟩ := il_ fs (js_ (lt_ rs) bs)
  obtain ⟨R, hr, rb⟩ := il_ fr (js_ (lt_ rr) br)
  obtain ⟨n, hn⟩ : ∃ n, q.length = n + 1 := ⟨q.length - 1, by omega⟩
  have hR : ∀ i, n ≤ i → R i = 0 := fun i hi => hr.zero (by omega)
  have hd : ∀ i, n < i → d i = 0 := fun i hi => g.zero (by omega)
  have pb := (gb.conv sb (e := 3) (by decide)).add ((rb.mono (Nat.le_refl _) (show _ ≤ Int.toNat 20 + Int.toNat 20 + 3 by decide)))
  have hp := oW_ (oA_ g hs gb sb (e := 3) (by decide) (by decide) (by decide)) hr (gb.conv sb (e := 3) (by decide)) (rb.mono (Nat.le_refl _) (show _ ≤ Int.toNat 20 + Int.toNat 20 + 3 by decide)) (by decide)
  have hT : (aN_ (as_ q s) r).length ≤ n + 5 := hp.short fun k hk => by
    show conv d S k + R k = 0
    rw [hR k (by omega), hg_ (n := n + 1) (m := 5) (fun i hi => hd i (by omega)) sb.z k (by omega)]; rfl
  have hS : ∀ i, (aN_ (as_ q s) r).length - n ≤ i → S i = 0 := fun i hi => by
    rcases Nat.lt_or_ge i s.length with h1 | h1
    · exfalso
      obtain ⟨m, hm⟩ : ∃ m, s.length = m + 1 := ⟨s.length - 1, by omega⟩
      have k1 := hp.zero (k := n + m) (by omega)
      have k2 : conv d S (n + m) + R (n + m) = 0 := k1
      rw [hR (n + m) (by omega), kh_ (n := n) (m := m) hd (fun i hi => hs.zero (by omega)), Int.add_zero] at k2
      rcases Int.mul_eq_zero.1 k2 with h | h
      · exact g.last hn h
      · exact hs.last hm h
    · exact hs.zero h1
  have ha : (((d n).natAbs : Int)).natAbs < 2 ^ 20 := by rw [Int.natAbs_natCast]; exact gb.b n
  have u := nj_ hp g hn (iu_ (c := 20) ha (mj_ _) gb.b _ _ _ pb.b (by
    have : (Int.toNat 20 + Int.toNat 20 + 3 + 1) = 44 := by decide
    rw [this]; omega))
  rw [j2_ (mJ_ (d n)) hd _ S R hS hR] at u
  have hBR : ∀ j k, j ≤ (aN_ (as_ q s) r).length - n → B512 (R k * ((d n).natAbs : Int) ^ j) := fun j k hj => by
    have := f7_ (rb.b k) (me_ ha j)
    refine fw_ this ?_
    have : Int.toNat 20 = 20 := by decide
    rw [this]; omega
  have w := gx_ (s := s) (r := r) hn (a := ((d n).natAbs : Int)) (by rw [hn, Nat.add_sub_cancel, g.get, E_dec, lO_ (g.B n)]) (abs_B (g.B n)) rfl hBR
    ((aN_ (as_ q s) r).length + 2) 0 r (by omega) (Nat.zero_le _) (hr.cast fun k => by rw [Int.pow_zero, Int.mul_one])
  have v := nj_ hr g hn (by
    rw [show r.length - n = 0 by omega]; exact hr.B)
  rw [show r.length - n = 0 by omega] at v
  rw [cond_false]
  show (bz_ && (af_ (ay_ (aN_ (as_ q s) r) q) (aF_ q s r ((aN_ (as_ q s) r).length + 2) r 0).1 && af_ (ay_ r q) r)) = true
  rw [u.eq (w.cast fun k => Int.mul_comm _ _), v.eq hr, iQ_, iQ_, ki_]; rfl
end Go.Num


set_option linter.unusedVariables false
set_option linter.unusedSimpArgs false
namespace Go.Num
open Go Go.Kn Go.RowKit Go.ChangeShapes Go.WideShapes
section
variable {H : Type} {enc : TypeId × Value → H} {P : Program} {w : World} {base : Nat} {spare : Nat → Bool} {held : Bool} {α : Type} {e : El α}
theorem Rd.app {a : Addr} {A B : List Value} (h : Rd w a A) (k : Rd w (a.add A.length) B) : Rd w a (A ++ B) := fun j v hj => by
  rcases Nat.lt_or_ge j A.length with h' | h'
  · rw [List.getElem?_append_left h'] at hj; exact h j v hj
  · rw [List.getElem?_append_right h'] at hj
    have := k _ _ hj
    rw [jc_, Nat.add_sub_cancel' h'] at this
    exact this
theorem Rd.of_cells {a : Addr} {n : Nat} {cs : List Value} (h : w.cells? base a n = some cs) : Rd w a cs := fun j v hj => by
  obtain ⟨_, hl, hc⟩ := World.cells?_some h
  have hj' : j < cs.length := (List.getElem?_eq_some_iff.1 hj).1
  have h1 := hc j (by omega)
  rw [hj] at h1
  exact h1
theorem kZ_ {a : Addr} {len : Nat} (h : ∀ i, i < len → ∃ x : α, w.cells? base (a.add (i * e.n)) e.n = some (e.cs x)) : ∀ k, k ≤ len → ∃ l : List α, l.length = k ∧ Rd w a (rows e l)
  | 0, _ => ⟨[], rfl, fun j v hj => by simp [rows] at hj⟩
  | k + 1, hk => by
    obtain ⟨l, hl, hr⟩ := kZ_ h k (by omega)
    obtain ⟨x, hx⟩ := h k (by omega)
    refine ⟨l ++ [x], by simp [hl], ?_⟩
    rw [d7_]
    refine Rd.app hr ?_
    rw [ch_, hl]
    have := Rd.of_cells hx
    simpa [rows] using this
theorem op_ {T E : TypeId} {ls : List Leaf} {v : Value} {d : DataW H} {p : List MemPlace} {b0 : Nat} {r : Reach} (hT : P.underlying T = some (.slice E)) (hl : lz P 8 E = some ls) (hn : P.cellsOf E = e.n)
    (op : ∀ cs, LWF cs ls → ∃ x : α, cs = e.cs x) (hv : Value.okWide P w r b0 T v) (ht : DataW.Trod enc P w base spare held T v d p) : ∃ l : List α, Slr w e v l := by
  obtain ⟨fuel, hf⟩ := ht
  have hv' : ∃ a n c, v = .slice a n c := by
    unfold Value.okWide at hv
    rw [hT] at hv
    unfold Cell.okWide at hv
    rw [hT] at hv
    cases v <;> simp_all [Cell.ok]
  obtain ⟨a, n, c, rfl⟩ := hv'
  have e1 : (Value.slice a n c).cells.toList = [.slice a n c] := rfl
  rw [e1] at hf
  rcases DataW.trod_slice hT hf with ⟨h, _⟩ | ⟨a', len, cap, elems, rest, m, _, h, _, _, hlc, hc, hel, hall, _⟩
  · cases h
    exact ⟨[], none, 0, rfl, Nat.le_refl _, by decide, .inl ⟨rfl, rfl, rfl⟩⟩
  · cases h
    have hx : ∀ i, i < n → ∃ x : α, w.cells? base (a'.add (i * e.n)) e.n = some (e.cs x) := fun i hi => by
      have h1 := hall i hi
      rw [List.getElem?_eq_getElem (by omega), hn] at h1
      cases hc' : w.cells? base (a'.add (i * e.n)) e.n with
      | none => rw [hc'] at h1; cases h1
      | some cs =>
        rw [hc'] at h1
        obtain ⟨x, hx⟩ := op cs (fE_ 8 hl h1)
        exact ⟨x, by rw [hx]⟩
    obtain ⟨l, hl', hr⟩ := kZ_ hx n (Nat.le_refl _)
    exact ⟨l, some a', c, by rw [hl'], by omega, hc, .inr ⟨a', rfl, hr⟩⟩
end
theorem pE_ {cs : List Value} (h : LWF cs LI) : ∃ x : I, cs = elI.cs x := by
  obtain ⟨x0, rfl⟩ := openI h
  exact ⟨x0, by first | rfl | exact (List.append_nil _).symm | simp [El.cs, elI, flat]⟩
end Go.Num

