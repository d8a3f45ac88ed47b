/- Numbers: lists of digits to the base 65536. No program stands in it. -/
import Derived.Test.YthbjhbmpfeeilaaNs
import Derived.Test.YthbjhbmpfeeilaaKt
set_option linter.unusedVariables false
set_option linter.unusedSimpArgs false
namespace Go.Num
open Go Go.Kn
def dv : List Nat → Nat
  | [] => 0
  | d :: l => d + 65536 * dv l
def DL (l : List Nat) : Prop := ∀ d ∈ l, d < 65536
def dg (n k : Nat) : Nat := n / 65536 ^ k % 65536
def dl (n : Nat) : List Nat := if h : n = 0 then [] else (n % 65536) :: dl (n / 65536)
termination_by n
theorem dl_zero : dl 0 = [] := by rw [dl]; rfl
theorem dl_pos {n : Nat} (h : n ≠ 0) : dl n = (n % 65536) :: dl (n / 65536) := by rw [dl, dif_neg h]
theorem DL.tail {d : Nat} {l : List Nat} (h : DL (d :: l)) : DL l := fun x hx => h x (List.mem_cons_of_mem _ hx)
theorem DL.head {d : Nat} {l : List Nat} (h : DL (d :: l)) : d < 65536 := h d List.mem_cons_self
theorem DL.nil : DL [] := fun _ h => by cases h
theorem DL.append {a b : List Nat} (ha : DL a) (hb : DL b) : DL (a ++ b) := fun d h => by
  rcases List.mem_append.1 h with h | h
  · exact ha d h
  · exact hb d h
theorem DL.one {d : Nat} (h : d < 65536) : DL [d] := fun x hx => by rw [List.mem_singleton.1 hx]; exact h
theorem DL.take {l : List Nat} (h : DL l) (n : Nat) : DL (l.take n) := fun d hd => h d (List.mem_of_mem_take hd)
theorem dl_DL (n : Nat) : DL (dl n) := by
  induction n using Nat.strongRecOn with
  | ind n ih =>
    by_cases h : n = 0
    · subst h; rw [dl_zero]; exact DL.nil
    · rw [dl_pos h]
      intro d hd
      rcases List.mem_cons.1 hd with rfl | hd
      · exact Nat.mod_lt _ (by decide)
      · exact ih (n / 65536) (by omega) d hd
theorem dv_dl (n : Nat) : dv (dl n) = n := by
  induction n using Nat.strongRecOn with
  | ind n ih =>
    by_cases h : n = 0
    · subst h; rw [dl_zero]; rfl
    · rw [dl_pos h, dv, ih (n / 65536) (by omega)]; omega
theorem dv_append : ∀ a b, dv (a ++ b) = dv a + 65536 ^ a.length * dv b
  | [], b => by simp [dv]
  | d :: a, b => by
    simp only [List.cons_append, dv, dv_append a b, List.length_cons, Nat.pow_succ]
    rw [Nat.mul_add, Nat.add_assoc, ← Nat.mul_assoc, Nat.mul_comm 65536 (65536 ^ a.length)]
theorem dv_lt : ∀ l, DL l → dv l < 65536 ^ l.length
  | [], _ => by simp [dv]
  | d :: l, h => by
    have h1 := dv_lt l h.tail
    have h2 := h.head
    simp only [dv, List.length_cons, Nat.pow_succ]; omega
theorem dv_zeros : ∀ n, dv (List.replicate n 0) = 0
  | 0 => rfl
  | n + 1 => by rw [List.replicate_succ, dv, dv_zeros n]
theorem getD_dv : ∀ (l : List Nat) (k : Nat), DL l → l.getD k 0 = dg (dv l) k
  | [], k, _ => by simp [dv, dg]
  | d :: l, 0, h => by
    have h2 := h.head
    simp only [dv, dg, List.getD_cons_zero, Nat.pow_zero, Nat.div_one]; omega
  | d :: l, k + 1, h => by
    have h2 := h.head
    rw [List.getD_cons_succ, getD_dv l k h.tail, dg, dg, dv, Nat.pow_succ, Nat.mul_comm (65536 ^ k), ← Nat.div_div_eq_div_mul]
    congr 2; omega
theorem dg_lt (n k : Nat) : dg n k < 65536 := Nat.mod_lt _ (by decide)
theorem getD_ltD {l : List Nat} (h : DL l) (k : Nat) : l.getD k 0 < 65536 := by rw [getD_dv l k h]; exact dg_lt _ _
/-- Zeros at the end change nothing. -/
theorem dv_take (l : List Nat) (n : Nat) (h : szL l ≤ n) : dv (l.take n) = dv l := by
  conv => rhs; rw [← List.take_append_drop n l, dv_append]
  have e : dv (l.drop n) = 0 := by
    have h2 : l.drop n = List.replicate (l.drop n).length 0 := by
      refine List.eq_replicate_iff.2 ⟨rfl, fun x hx => ?_⟩
      obtain ⟨i, hi, rfl⟩ := List.mem_iff_getElem.1 hx
      have h3 := szL_high l (n + i) (by omega)
      rw [List.length_drop] at hi
      rw [List.getElem_drop]
      simpa [List.getD, List.getElem?_eq_getElem (show n + i < l.length by omega)] using h3
    rw [h2, dv_zeros]
  rw [e, Nat.mul_zero, Nat.add_zero]
theorem dl_cons {d m : Nat} (hd : d < 65536) (h : d + 65536 * m ≠ 0) : dl (d + 65536 * m) = d :: dl m := by
  rw [dl_pos h, show (d + 65536 * m) % 65536 = d by omega, show (d + 65536 * m) / 65536 = m by omega]
/-- What is left when the zeros at the end are cut off. -/
theorem trim_eq : ∀ l, DL l → l.take (szL l) = dl (dv l)
  | [], _ => by simp [dv, dl_zero, szL]
  | d :: l, h => by
    have ih := trim_eq l h.tail
    have h2 := h.head
    simp only [szL, dv]
    split
    · rename_i h0
      have hz : dv l = 0 := by rw [← dv_take l 0 (by omega)]; rfl
      rw [hz, Nat.mul_zero, Nat.add_zero]
      split
      · rename_i hd; subst hd; rw [dl_zero]; rfl
      · rename_i hd
        rw [dl_pos hd, Nat.mod_eq_of_lt h2, Nat.div_eq_of_lt h2, dl_zero]; rfl
    · rename_i h0
      rw [List.take_succ_cons, ih, dl_cons h2]
      intro hc
      have : dv l = 0 := by omega
      rw [this, dl_zero] at ih
      have hl := congrArg List.length ih
      rw [List.length_take, Nat.min_eq_left (szL_le l)] at hl
      exact h0 hl
theorem dl_len {n k : Nat} (h : n < 65536 ^ k) : (dl n).length ≤ k := by
  induction k generalizing n with
  | zero => rw [Nat.pow_zero] at h; rw [show n = 0 by omega, dl_zero]; exact Nat.le_refl _
  | succ k ih =>
    by_cases h0 : n = 0
    · subst h0; rw [dl_zero]; exact Nat.zero_le _
    · rw [dl_pos h0, List.length_cons]
      exact Nat.succ_le_succ (ih (by rw [Nat.div_lt_iff_lt_mul (by decide), ← Nat.pow_succ]; exact h))
theorem dl_len_le {l : List Nat} (h : DL l) : (dl (dv l)).length ≤ l.length := dl_len (dv_lt l h)
theorem dl_nil {n : Nat} : (dl n).length = 0 ↔ n = 0 := by
  constructor
  · intro h
    rw [← dv_dl n, List.eq_nil_of_length_eq_zero h]; rfl
  · rintro rfl; rw [dl_zero]; rfl
theorem wrap_i64n {n : Nat} (h : n < 9223372036854775808) : IntKind.i64.wrap (n : Int) = (n : Int) := wrap_i64_id (by unfold I64; omega)
theorem trim_len {l : List Nat} (h : DL l) : (dl (dv l)).length = szL l := by rw [← trim_eq l h, List.length_take, Nat.min_eq_left (szL_le l)]
theorem take_dl {l : List Nat} (h : DL l) : l.take (dl (dv l)).length = dl (dv l) := by rw [trim_len h, trim_eq l h]
theorem trimmed {w0 : World} {M : List Blk} {v : Value} {l : List Nat} {n : Nat} (hD : DL l) (hd : dv l = n) (h : SLf w0 M v l) : SLf w0 M (sls v (dl (dv l)).length) (dl n) := by
  have := h.take (dl_len_le hD)
  rw [take_dl hD] at this; rw [← hd]; exact this
theorem trimmedL {w0 : World} {X : List Nat} {M : List Blk} {v : Value} {l : List Nat} (hD : DL l) (h : SL w0 X M v l) : SL w0 X M (sls v (dl (dv l)).length) (dl (dv l)) := by
  have := h.take (dl_len_le hD)
  rw [take_dl hD] at this; exact this
theorem rem16 {x : Nat} (hx : x < 4294967296) : Value.int .i64 (IntKind.i64.wrap ((x : Int).tmod 65536)) = IV (x % 65536) := by
  rw [show (65536 : Int) = ((65536 : Nat) : Int) from rfl, rem_nat, wrap_i64n (by omega)]; rfl
theorem quo16 {x : Nat} (hx : x < 4294967296) : Value.int .i64 (IntKind.i64.wrap (IntKind.u32.wrap ((x : Int).tdiv 65536))) = IV (x / 65536) := by
  rw [show (65536 : Int) = ((65536 : Nat) : Int) from rfl, Int.tdiv_eq_ediv_of_nonneg (by omega), ← Int.natCast_ediv, wrap_u32, IV, show ((x / 65536 : Nat) : Int) % 4294967296 = ((x / 65536 : Nat) : Int) by omega, wrap_i64n (by omega)]
theorem fillI2 (a b : Nat) : FillR (fun i => some (i * 1, 1)) (List.replicate 2 [Value.int .i64 0]).flatten [(0, IV a), (1, IV b)] (iw [a, b]) := by
  refine .cons rfl (vs := [IV a]) rfl rfl (by simp) rfl (.cons rfl (vs := [IV b]) rfl rfl (by simp) rfl (.nil _))
theorem fillI1 (a : Nat) : FillR (fun i => some (i * 1, 1)) (List.replicate 1 [Value.int .i64 0]).flatten [(0, IV a)] (iw [a]) := by
  refine .cons rfl (vs := [IV a]) rfl rfl (by simp) rfl (.nil _)
theorem DL.two {x : Nat} (hx : x < 4294967296) : DL [x % 65536, x / 65536] := fun d hd => by
  simp only [List.mem_cons, List.not_mem_nil, or_false] at hd
  omega
theorem digits_step {w l : List Nat} {k : Nat} (hw : Lim w) (hl : l.length = 2 * k) (h : dv l = val w % 4294967296 ^ k) : dv (l ++ [w.getD k 0 % 65536, w.getD k 0 / 65536]) = val w % 4294967296 ^ (k + 1) := by
  rw [dv_append, hl, h, mod_succ, getD_val w k hw, Nat.pow_mul]
  have e : dv [dig (val w) k % 65536, dig (val w) k / 65536] = dig (val w) k := by simp only [dv]; omega
  rw [e]
theorem digits_all {a : R} (ha : a.Ok) : val a.w % 4294967296 ^ 16 = val a.w := Nat.mod_eq_of_lt ha.vlt
theorem vz_false {w : List Nat} {k : Nat} (h : false = true ↔ ∀ j, j < k → w.getD j 0 = 0) : false = true ↔ ∀ j, j < k + 1 → w.getD j 0 = 0 :=
  ⟨fun hf => (by cases hf), fun hf => h.2 fun j hj => hf j (by omega)⟩
theorem vz_true {w : List Nat} {k : Nat} (h : true = true ↔ ∀ j, j < k → w.getD j 0 = 0) : (((w.getD k 0 : Nat) : Int) == 0) = true ↔ ∀ j, j < k + 1 → w.getD j 0 = 0 := by
  rw [beq_iff_eq]
  constructor
  · intro h0 j hj
    rcases Nat.lt_or_ge j k with h1 | h1
    · exact h.1 rfl j h1
    · obtain rfl : j = k := by omega
      omega
  · intro hf; have := hf k (by omega); omega
theorem valid_z {r : R} (hr : r.Ok) {z : Bool} (h : z = true ↔ ∀ j, j < 16 → r.w.getD j 0 = 0) : z = r.zero := by
  have e : r.zero = true ↔ ∀ j, j < 16 → r.w.getD j 0 = 0 := by
    unfold R.zero
    rw [beq_iff_eq]
    constructor
    · intro h0 j _; rw [getD_val _ _ hr.lim, h0]; simp [dig]
    · intro hf
      have h1 : szL r.w ≤ 0 := szL_le_of fun j _ => by
        rcases Nat.lt_or_ge j 16 with h2 | h2
        · exact hf j h2
        · simp [List.getD, List.getElem?_eq_none (show r.w.length ≤ j by rw [hr.len]; exact h2)]
      exact sz_zero (by omega)
  exact Bool.eq_iff_iff.2 (h.trans e.symm)
theorem dmod_succ (n k : Nat) : n % 65536 ^ (k + 1) = n % 65536 ^ k + 65536 ^ k * dg n k := by
  rw [Nat.pow_succ, Nat.mod_mul]; rfl
theorem pow16 (j : Nat) : 4294967296 ^ j = 65536 ^ (2 * j) := by rw [Nat.pow_mul]
theorem pow512 : 65536 ^ 32 = 4294967296 ^ 16 := by rw [pow16]
theorem big_dl {n : Nat} (h : ¬ (dl n).length ≤ 32) : ¬ n < 4294967296 ^ 16 := fun hn => h (dl_len (by rw [pow512]; exact hn))
theorem number_bad {neg : Bool} {n : Nat} (h : 32 < (dl n).length) : RV Z.bad.enc = RV (Z.of (sgn neg n)).enc := by
  rw [Z.of_big (by rw [sgn_abs]; exact big_dl (by omega))]
theorem fillN1 (x : Bool) : FillR (fun i => ([(0, 1), (1, 1), (2, 16)] : List (Nat × Nat))[i]?) zR [(1, .bool x)] (R.cells ⟨false, x, List.replicate 16 0⟩) :=
  .cons rfl (vs := [.bool x]) rfl rfl (by simp [zR]) rfl (.nil _)
/-- A word gathered from digits: the first k. -/
structure NumIn (n k : Nat) (ws : List Nat) : Prop where
  len : ws.length = 16
  lim : Lim ws
  eq : val ws = n % 65536 ^ k
theorem NumIn.start (n : Nat) : NumIn n 0 (List.replicate 16 0) := ⟨by simp, lim_zeros 16, by rw [val_zeros, Nat.pow_zero, Nat.mod_one]⟩
theorem NumIn.even {n k : Nat} {ws : List Nat} (h : NumIn n k ws) (he : k % 2 = 0) (hk : k < 32) : ws.getD (k / 2) 0 = 0 ∧ NumIn n (k + 1) (ws.set (k / 2) (dg n k)) := by
  obtain ⟨j, rfl⟩ : ∃ j, k = 2 * j := ⟨k / 2, by omega⟩
  have e0 : ws.getD (2 * j / 2) 0 = 0 := by
    rw [show 2 * j / 2 = j by omega, getD_val _ _ h.lim, dig, h.eq, ← pow16, Nat.div_eq_of_lt (Nat.mod_lt _ (pow_pos' j))]
  refine ⟨e0, ⟨by simp [h.len], lim_set h.lim (Nat.lt_trans (dg_lt _ _) (by decide)), ?_⟩⟩
  have hv := val_set ws (2 * j / 2) (dg n (2 * j)) (by rw [h.len]; omega)
  rw [e0, Nat.mul_zero, Nat.add_zero, h.eq] at hv
  rw [hv, dmod_succ, show 2 * j / 2 = j by omega, pow16]
theorem NumIn.odd {n k : Nat} {ws : List Nat} (h : NumIn n k ws) (he : ¬ k % 2 = 0) (hk : k < 32) : ws.getD (k / 2) 0 < 65536 ∧ NumIn n (k + 1) (ws.set (k / 2) (ws.getD (k / 2) 0 + dg n k * 65536)) := by
  obtain ⟨j, rfl⟩ : ∃ j, k = 2 * j + 1 := ⟨k / 2, by omega⟩
  have e0 : ws.getD ((2 * j + 1) / 2) 0 < 65536 := by
    rw [show (2 * j + 1) / 2 = j by omega, getD_val _ _ h.lim, dig, h.eq, Nat.pow_succ, pow16, Nat.mod_mul_right_div_self]
    exact Nat.lt_of_le_of_lt (Nat.mod_le _ _) (Nat.mod_lt _ (by decide))
  have hd := dg_lt n (2 * j + 1)
  refine ⟨e0, ⟨by simp [h.len], lim_set h.lim (by omega), ?_⟩⟩
  have hv := val_set ws ((2 * j + 1) / 2) (ws.getD ((2 * j + 1) / 2) 0 + dg n (2 * j + 1) * 65536) (by rw [h.len]; omega)
  rw [Nat.mul_add, h.eq] at hv
  rw [dmod_succ n (2 * j + 1), show 65536 ^ (2 * j + 1) * dg n (2 * j + 1) = 4294967296 ^ ((2 * j + 1) / 2) * (dg n (2 * j + 1) * 65536) by rw [show (2 * j + 1) / 2 = j by omega, pow16, Nat.pow_succ]; ac_rfl]
  omega
theorem dl_getD (n k : Nat) : (dl n).getD k 0 = dg n k := by rw [getD_dv _ _ (dl_DL n), dv_dl]
theorem mod_dl (n : Nat) : n % 65536 ^ (dl n).length = n := Nat.mod_eq_of_lt (by have := dv_lt _ (dl_DL n); rwa [dv_dl] at this)
theorem number_fin {neg : Bool} {n : Nat} {ws : List Nat} (h : NumIn n (dl n).length ws) : RV ⟨false, neg && decide ((0 : Int) < ((dl n).length : Int)), ws⟩ = RV (Z.of (sgn neg n)).enc := by
  have hv : val ws = n := by rw [h.eq, mod_dl]
  have e := enc_of_digits neg h.len h.lim
  rw [hv] at e
  rw [e]
  have hd : decide ((0 : Int) < ((dl n).length : Int)) = !(n == 0) := by
    have := @dl_nil n
    by_cases h0 : n = 0
    · subst h0; rw [dl_zero]; rfl
    · have h1 : ¬ (dl n).length = 0 := fun hc => h0 (this.1 hc)
      rw [decide_eq_true (by omega)]; simp [h0]
  rw [hd]
theorem quo2 (n : Nat) (h : n < 1000000) : IntKind.i64.wrap ((n : Int).tdiv 2) = ((n / 2 : Nat) : Int) := by
  rw [Int.tdiv_eq_ediv_of_nonneg (by omega), wrap_i64_id (by unfold I64; omega)]; omega
theorem rem2 (n : Nat) : (n : Int).tmod 2 = ((n % 2 : Nat) : Int) := rem_nat n 2
theorem add_even {d : Nat} (hd : d < 65536) : Value.int .u32 (IntKind.u32.wrap ((0 : Nat) + IntKind.u32.wrap (d : Int))) = U32 d := by
  simp only [wrap_u32, U32]; congr 1; omega
theorem add_odd {x d : Nat} (hx : x < 65536) (hd : d < 65536) : Value.int .u32 (IntKind.u32.wrap ((x : Int) + IntKind.u32.wrap (IntKind.u32.wrap (d : Int) * 65536))) = U32 (x + d * 65536) := by
  simp only [wrap_u32, U32]; congr 1; omega
section
variable {P : Program} {w0 : World} {X : List Nat} {N : Nat} {S : Fr} {M : List Blk} {d : Option Tmp} {ty : TypeId} {ps : String} {af : Array Edge} {gd : Option (Nat × Bool)}
/-- A digit of a number is stored. -/
theorem r_storec {T U : TypeId} {x y : Operand} {b k e : Nat} {bd ng : Bool} {l : List Nat} {M' : List Blk} {K : Value → List Blk → Prop} (hT : tyOf P T = some (false, 1)) (hx : evO N S x = some (.pointer (some ⟨b, 0 + 2 + ((k : Int)).toNat * 1, none⟩)))
    (hy : evO N S y = some (U32 e)) (hu : Upd b U (R.cells ⟨bd, ng, l⟩) (R.cells ⟨bd, ng, l.set k e⟩) M M') (ho : k < l.length) (hb : w0.heap.size ≤ b ∨ b ∈ X) (kk : K undef M') :
    OpR P w0 X N ⟨d, .store T x y, ty, ps, af, gd⟩ S M K := by
  have e1 : (R.cells ⟨bd, ng, l⟩).set (0 + 2 + ((k : Int)).toNat * 1) (U32 e) = R.cells ⟨bd, ng, l.set k e⟩ := by
    rw [show 0 + 2 + ((k : Int)).toNat * 1 = k + 1 + 1 by omega]
    simp only [R.cells, List.set_cons_succ, uw_set]
  exact r_store1 hT hx hy rfl (by rw [e1]; exact hu) (by simp [R.cells, uw_len]; omega) hb kk
end
end Go.Num
