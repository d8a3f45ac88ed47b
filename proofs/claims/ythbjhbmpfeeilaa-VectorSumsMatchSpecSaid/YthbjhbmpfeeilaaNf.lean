/- Numbers: products of lists of digits. No program stands in it. -/
import Derived.Test.YthbjhbmpfeeilaaNe
set_option linter.unusedVariables false
set_option linter.unusedSimpArgs false
namespace Go.Num
open Go Go.Kn
theorem dv_set : ∀ (l : List Nat) (j d : Nat), j < l.length → dv (l.set j d) + 65536 ^ j * l.getD j 0 = dv l + 65536 ^ j * d
  | [], j, d, h => by simp at h
  | x :: l, 0, d, _ => by simp [dv]; omega
  | x :: l, j + 1, d, h => by
    have ih := dv_set l j d (by simpa using h)
    simp only [List.set_cons_succ, dv, List.getD_cons_succ, Nat.pow_succ]
    have e1 : 65536 ^ j * 65536 * l.getD j 0 = 65536 * (65536 ^ j * l.getD j 0) := by ac_rfl
    have e2 : 65536 ^ j * 65536 * d = 65536 * (65536 ^ j * d) := by ac_rfl
    rw [e1, e2]; omega
theorem getD_set' (l : List Nat) (i j d : Nat) : (l.set i d).getD j 0 = if i = j ∧ j < l.length then d else l.getD j 0 := by
  by_cases h : i = j
  · subst h
    by_cases h2 : i < l.length
    · rw [if_pos ⟨rfl, h2⟩]; simp [List.getD, h2]
    · rw [if_neg (by simp [h2])]; simp [List.getD, h2]
  · rw [if_neg (by simp [h])]; simp [List.getD, List.getElem?_set, h]
theorem DL_of {l : List Nat} (h : ∀ t, t < l.length → l.getD t 0 < 65536) : DL l := fun d hd => by
  obtain ⟨i, hi, rfl⟩ := List.mem_iff_getElem.1 hd
  have := h i hi
  simpa [List.getD, hi] using this
/-- A row of products is added, without carrying: the first k. -/
structure RowIn (n B i a : Nat) (o : List Nat) (k : Nat) (l : List Nat) : Prop where
  len : l.length = n
  low : ∀ t, l.getD t 0 < 8589934592
  high : ∀ t, i + k ≤ t → l.getD t 0 < 65536
  eq : dv l = dv o + 65536 ^ i * (a * (B % 65536 ^ k))
theorem RowIn.start {n : Nat} (B i a : Nat) {o : List Nat} (ho : DL o) (hl : o.length = n) : RowIn n B i a o 0 o :=
  ⟨hl, fun t => Nat.lt_trans (getD_ltD ho t) (by decide), fun t _ => getD_ltD ho t, by simp [Nat.mod_one]⟩
theorem RowIn.step {n B i a : Nat} {o : List Nat} {k : Nat} {l : List Nat} (h : RowIn n B i a o k l) (hik : i + k < n) (ha : a < 65536) : RowIn n B i a o (k + 1) (l.set (i + k) (l.getD (i + k) 0 + a * dg B k)) := by
  have hb := dg_lt B k
  have hm : a * dg B k ≤ 65535 * 65535 := Nat.mul_le_mul (by omega) (by omega)
  have hh := h.high (i + k) (Nat.le_refl _)
  have hv := dv_set l (i + k) (l.getD (i + k) 0 + a * dg B k) (by rw [h.len]; exact hik)
  refine ⟨by simp [h.len], fun t => ?_, fun t ht => ?_, ?_⟩
  · rw [getD_set']; split
    · omega
    · exact h.low t
  · rw [getD_set', if_neg (by omega)]; exact h.high t (by omega)
  · rw [Nat.mul_add, h.eq] at hv
    rw [dmod_succ, Nat.mul_add a, Nat.mul_add (65536 ^ i)]
    have e : 65536 ^ (i + k) * (a * dg B k) = 65536 ^ i * (a * (65536 ^ k * dg B k)) := by rw [Nat.pow_add]; ac_rfl
    rw [e] at hv; omega
/-- The carries are taken along: the first k. -/
structure CarryIn (n T k : Nat) (l : List Nat) (c : Nat) : Prop where
  len : l.length = n
  low : ∀ t, l.getD t 0 < 8589934592
  done : ∀ t, t < k → l.getD t 0 < 65536
  clt : c < 8589934592
  eq : dv l + c * 65536 ^ k = T
theorem RowIn.done {n B i a k : Nat} {o l : List Nat} (h : RowIn n B i a o k l) : CarryIn n (dv o + 65536 ^ i * (a * (B % 65536 ^ k))) 0 l 0 :=
  ⟨h.len, h.low, fun t ht => by omega, by decide, by rw [h.eq, Nat.zero_mul, Nat.add_zero]⟩
theorem CarryIn.step {n T k : Nat} {l : List Nat} {c : Nat} (h : CarryIn n T k l c) (hk : k < n) : CarryIn n T (k + 1) (l.set k ((l.getD k 0 + c) % 65536)) ((l.getD k 0 + c) / 65536) := by
  have h1 := h.low k
  have h2 := h.clt
  have hv := dv_set l k ((l.getD k 0 + c) % 65536) (by rw [h.len]; exact hk)
  refine ⟨by simp [h.len], fun t => ?_, fun t ht => ?_, by omega, ?_⟩
  · rw [getD_set']; split
    · omega
    · exact h.low t
  · rw [getD_set']; split
    · exact Nat.mod_lt _ (by decide)
    · rename_i hne
      exact h.done t (by rw [h.len] at hne; omega)
  · have he := h.eq
    rw [show 65536 ^ (k + 1) = 65536 ^ k * 65536 from Nat.pow_succ ..]
    generalize 65536 ^ k = p at *
    generalize l.getD k 0 = g at *
    have e4 := Nat.div_add_mod (g + c) 65536
    have f1 : p * (65536 * ((g + c) / 65536)) + p * ((g + c) % 65536) = p * g + p * c := by rw [← Nat.mul_add, e4, Nat.mul_add]
    have f3 : (g + c) / 65536 * (p * 65536) = p * (65536 * ((g + c) / 65536)) := by ac_rfl
    rw [f3]; rw [Nat.mul_comm c p] at he; omega
theorem CarryIn.fin {n T : Nat} {l : List Nat} {c : Nat} (h : CarryIn n T n l c) (hT : T < 65536 ^ n) : DL l ∧ l.length = n ∧ dv l = T := by
  have he := h.eq
  have hc : c = 0 := by
    rcases Nat.eq_zero_or_pos c with h0 | h0
    · exact h0
    · have : 1 * 65536 ^ n ≤ c * 65536 ^ n := Nat.mul_le_mul_right _ h0
      omega
  rw [hc, Nat.zero_mul, Nat.add_zero] at he
  exact ⟨DL_of fun t ht => h.done t (by rw [← h.len]; exact ht), h.len, he⟩
theorem times_row {A B i m : Nat} (hm : B < 65536 ^ m) : A % 65536 ^ i * B + 65536 ^ i * (dg A i * (B % 65536 ^ m)) = A % 65536 ^ (i + 1) * B := by
  rw [Nat.mod_eq_of_lt hm, dmod_succ, Nat.add_mul, Nat.mul_assoc]
theorem times_lt {A B i n m : Nat} (hi : i ≤ n) (hm : B < 65536 ^ m) : A % 65536 ^ i * B < 65536 ^ (n + m + 1) := by
  have h1 := Nat.mod_lt A (show 0 < 65536 ^ i from Nat.pow_pos (by decide))
  have h2 : 65536 ^ i ≤ 65536 ^ n := Nat.pow_le_pow_right (by decide) hi
  rw [Nat.pow_succ, Nat.pow_add]
  have h3 : A % 65536 ^ i * B ≤ 65536 ^ n * 65536 ^ m := Nat.mul_le_mul (by omega) (Nat.le_of_lt hm)
  have h4 : 0 < 65536 ^ n * 65536 ^ m := Nat.mul_pos (Nat.pow_pos (by decide)) (Nat.pow_pos (by decide))
  omega
def atD (l : List Nat) (k : Int) : Nat := if k < 0 then 0 else l.getD k.toNat 0
theorem atD_neg {l : List Nat} {k : Int} (h : k < 0) : atD l k = 0 := if_pos h
theorem atD_pos {l : List Nat} {k : Int} (h : ¬ k < 0) : atD l k = l.getD k.toNat 0 := if_neg h
theorem iwAt {l : List Nat} {k : Nat} (h : k < l.length) : (iw l)[0 + ((k : Int)).toNat * 1]? = some (IV (l.getD k 0)) := by rw [idx1]; exact iw_get h
theorem mac_i64 {x a b : Nat} (hx : x < 65536) (ha : a < 65536) (hb : b < 65536) : Value.int .i64 (IntKind.i64.wrap ((x : Int) + IntKind.i64.wrap ((a : Int) * (b : Int)))) = IV (x + a * b) := by
  have hm : a * b ≤ 65535 * 65535 := Nat.mul_le_mul (by omega) (by omega)
  rw [← Int.natCast_mul, wrap_i64_id (n := ((a * b : Nat) : Int)) (by unfold I64; omega), wrap_i64_id (by unfold I64; omega), IV]; congr 1
theorem addI {a b : Nat} (h : a + b < 9223372036854775808) : IntKind.i64.wrap ((a : Int) + (b : Int)) = ((a + b : Nat) : Int) := by
  rw [wrap_i64_id (by unfold I64; omega)]; omega
section
variable {P : Program} {w0 : World} {X : List Nat} {N : Nat} {S : Fr} {M : List Blk} {d : Option Tmp} {ty : TypeId} {ps : String} {af : Array Edge} {gd : Option (Nat × Bool)}
theorem _root_.Go.Kn.SL.mine' {b n c : Nat} {T : TypeId} {l : List Nat} (h : (⟨b, T, iw l⟩ : Blk) ∈ M) (hl : l.length = n) (hc : n ≤ c) : SL w0 X M (.slice (some ⟨b, 0, none⟩) n c) l := by
  subst hl; exact SL.mine h hc
theorem r_storei {T U : TypeId} {x y : Operand} {b k e : Nat} {l : List Nat} {M' : List Blk} {K : Value → List Blk → Prop} (hT : tyOf P T = some (false, 1)) (hx : evO N S x = some (.pointer (some ⟨b, 0 + ((k : Int)).toNat * 1, none⟩)))
    (hy : evO N S y = some (IV e)) (hu : Upd b U (iw l) (iw (l.set k e)) M M') (ho : k < l.length) (hb : w0.heap.size ≤ b ∨ b ∈ X) (kk : K undef M') :
    OpR P w0 X N ⟨d, .store T x y, ty, ps, af, gd⟩ S M K := by
  have hu' : Upd b U (iw l) ((iw l).set (0 + ((k : Int)).toNat * 1) (IV e)) M M' := by rw [idx1, iw_set]; exact hu
  exact r_store1 hT hx hy rfl hu' (by rw [idx1, iw_len]; exact ho) hb kk
end
end Go.Num
