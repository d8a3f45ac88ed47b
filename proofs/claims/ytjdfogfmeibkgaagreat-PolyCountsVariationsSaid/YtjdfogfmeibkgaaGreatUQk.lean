/- Changes of signs: a factor t - z with a positive z brings an odd number of them. No program stands in it. From a reading of an argument that is a slice to the list that it reads. No program stands in it. -/
import Derived.Test.YtjdfogfmeibkgaaGreatUL9
import Derived.Test.YtjdfogfmeibkgaaGreatUFp
import Derived.KernelRfl
import Derived.Test.YtjdfogfmeibkgaaGreatUGD
import Derived.ProofKit
import Derived.OpenShut
import Derived.ChangeOld
import Derived.ChangeArms

set_option linter.unusedVariables false
set_option linter.unusedSimpArgs false
namespace Go.Num
open Go Go.Kn
/-- One coefficient more: the number of changes and the last sign that is not 0. -/
def vst (x : Int × Int) (s : Int) : Int × Int := if s = 0 then x else (if s = -x.2 then x.1 + 1 else x.1, s)
def vsq (c : Nat → Int) : Nat → Int × Int
  | 0 => (0, 0)
  | n + 1 => vst (vsq c n) (c n).sign
theorem fp_ (x : Int) : (x = 0 ∧ x.sign = 0) ∨ (0 < x ∧ x.sign = 1) ∨ (x < 0 ∧ x.sign = -1) := by
  rcases Int.lt_trichotomy x 0 with h | h | h
  · exact .inr (.inr ⟨h, Int.sign_eq_neg_one_of_neg h⟩)
  · subst h; exact .inl ⟨rfl, rfl⟩
  · exact .inr (.inl ⟨h, Int.sign_eq_one_of_pos h⟩)
theorem nG_ {x : Int × Int} {s : Int} {n : Nat} (h : 0 ≤ x.1 ∧ x.1 ≤ n ∧ -1 ≤ x.2 ∧ x.2 ≤ 1) (hs : -1 ≤ s ∧ s ≤ 1) : 0 ≤ (vst x s).1 ∧ (vst x s).1 ≤ (n + 1 : Nat) ∧ -1 ≤ (vst x s).2 ∧ (vst x s).2 ≤ 1 := by
  unfold vst; split
  · omega
  · split <;> simp only <;> omega
theorem jf_ (c : Nat → Int) : ∀ n : Nat, 0 ≤ (vsq c n).1 ∧ (vsq c n).1 ≤ n ∧ -1 ≤ (vsq c n).2 ∧ (vsq c n).2 ≤ 1
  | 0 => by simp [vsq]
  | n + 1 => nG_ (jf_ c n) (by rcases fp_ (c n) with h | h | h <;> omega)
theorem nb_ {p : List I} {c : Nat → Int} (h : Po p c) : ∀ (m k : Nat) (n last : W), p.length - k = m → k ≤ p.length → n.1 = (vsq c k).1 → last.1 = (vsq c k).2 → (bt_ p (p.drop k) n last).1.1 = (vsq c p.length).1
  | 0, k, n, last, hm, hk, hn, hl => by
    have e : k = p.length := by omega
    subst e
    rw [List.drop_of_length_le (Nat.le_refl _)]
    exact hn
  | m + 1, k, n, last, hm, hk, hn, hl => by
    rw [fn_ p (show k < p.length by omega)]
    unfold bt_
    have hr := jf_ c k
    have hp := h.l
    have e : (Z.signW (p.getD k I0).dec).1 = (c k).sign := by rw [h.get, E_dec]; exact jN_ (h.B k)
    have e2 : (W.neg last).1 = -(vsq c k).2 := by rw [negW (by omega), hl]
    have e3 : (W.add n (wl 1)).1 = (vsq c k).1 + 1 := by
      show IntKind.i64.wrap (n.1 + 1) = _
      rw [wi (by omega), hn]
    simp only
    refine nb_ h m (k + 1) _ _ (by omega) (by omega) ?_ ?_
    · show _ = (vst (vsq c k) (c k).sign).1
      unfold vst
      rw [e, e2]
      by_cases h0 : (c k).sign = 0
      · rw [if_pos h0, h0]; exact hn
      · rw [if_neg h0, show ((c k).sign != 0) = true from bne_iff_ne.2 h0, cond_true]
        by_cases h1 : (c k).sign = -(vsq c k).2
        · rw [beq_iff_eq.2 h1, cond_true, if_pos h1]; exact e3
        · rw [beq_eq_false_iff_ne.2 h1, cond_false, if_neg h1]; exact hn
    · show _ = (vst (vsq c k) (c k).sign).2
      unfold vst
      by_cases h0 : (c k).sign = 0
      · rw [if_pos h0, e, h0]; exact hl
      · rw [if_neg h0, e, show ((c k).sign != 0) = true from bne_iff_ne.2 h0, cond_true]; exact e
theorem lR_ {p : List I} {c : Nat → Int} (h : Po p c) : (af_ p).1 = (vsq c p.length).1 := by
  unfold af_
  rw [h.nb, cond_false]
  exact nb_ h p.length 0 (wl 0) (wl 0) (by omega) (Nat.zero_le _) rfl rfl
/-- What holds between the changes of a polynomial and of its product; k: the sign of the last coefficient. -/
def VR (x y : Int × Int) (k : Int) : Prop := (x.2 = 0 ∧ y.2 = 0 ∧ x.1 = y.1 ∧ k = 0) ∨ ((x.2 = 1 ∨ x.2 = -1) ∧ (k = 0 ∨ k = x.2) ∧ ((y.2 = -x.2 ∧ x.1 ≤ y.1 ∧ (y.1 - x.1) % 2 = 0) ∨ (y.2 = x.2 ∧ x.1 + 1 ≤ y.1 ∧ (y.1 - x.1) % 2 = 1)))
theorem nq_ {x y : Int × Int} {k s t : Int} (h : VR x y k) (hs : s = 0 ∨ s = 1 ∨ s = -1) (ht : t = 0 ∨ t = 1 ∨ t = -1) (h0 : s = 0 → t = k) (h1 : s ≠ 0 → k = 0 ∨ k = -s → t = -s) : VR (vst x s) (vst y t) s := by
  obtain ⟨v, l⟩ := x
  obtain ⟨w, m⟩ := y
  unfold VR vst at *
  simp only at *
  rcases h with ⟨a1, a2, a3, a4⟩ | ⟨a1, a2, a3⟩
  · subst a1 a2 a4
    rcases hs with hs | hs | hs
    · subst hs
      have := h0 rfl
      subst this
      left; simp; exact a3
    · have := h1 (by omega) (.inl rfl)
      subst hs this
      right; simp; omega
    · have := h1 (by omega) (.inl rfl)
      subst hs this
      right; simp; omega
  · rcases a1 with a1 | a1 <;> rcases hs with hs | hs | hs <;> subst a1 hs <;> rcases ht with ht | ht | ht <;> subst ht <;> rcases a3 with ⟨b1, b2, b3⟩ | ⟨b1, b2, b3⟩ <;> subst b1 <;> simp at * <;> omega
theorem nh_ {z a x : Int} (hz : 0 < z) : (x.sign = 0 → (a - z * x).sign = a.sign) ∧ (x.sign ≠ 0 → a.sign = 0 ∨ a.sign = -x.sign → (a - z * x).sign = -x.sign) := by
  rcases fp_ x with ⟨h, e⟩ | ⟨h, e⟩ | ⟨h, e⟩
  · subst h
    refine ⟨fun _ => by rw [Int.mul_zero, Int.sub_zero], fun h => absurd e h⟩
  · have hp := Int.mul_pos hz h
    refine ⟨fun h => by omega, fun _ ha => ?_⟩
    rw [e] at ha ⊢
    have : a ≤ 0 := by rcases fp_ a with g | g | g <;> omega
    exact Int.sign_eq_neg_one_of_neg (by omega)
  · have hp := Int.mul_neg_of_pos_of_neg hz h
    refine ⟨fun h => by omega, fun _ ha => ?_⟩
    rw [e] at ha ⊢
    have : 0 ≤ a := by rcases fp_ a with g | g | g <;> omega
    exact Int.sign_eq_one_of_pos (by omega)
theorem sg3 (x : Int) : x.sign = 0 ∨ x.sign = 1 ∨ x.sign = -1 := by rcases fp_ x with h | h | h <;> omega
theorem jP_ (c : Nat → Int) (z : Int) (k : Nat) : conv c (lin (-z) 1) k = (if k = 0 then 0 else c (k - 1)) - z * c k := by
  rw [lK_]
  unfold conv
  cases k with
  | zero => simp [sumN, lin]; grind
  | succ k =>
    rw [fs_, fs_, d7_ fun i hi => by unfold lin; rw [if_neg (by omega), if_neg (by omega), Int.zero_mul]]
    simp [lin]; grind
theorem m5_ (c : Nat → Int) {z : Int} (hz : 0 < z) : ∀ n : Nat, VR (vsq c n) (vsq (conv c (lin (-z) 1)) n) (if n = 0 then 0 else (c (n - 1)).sign)
  | 0 => .inl ⟨rfl, rfl, rfl, rfl⟩
  | n + 1 => by
    have ih := m5_ c hz n
    rw [if_neg (by omega), Nat.add_sub_cancel]
    have g := nh_ (a := if n = 0 then 0 else c (n - 1)) (x := c n) hz
    rw [← jP_ c z n] at g
    have e : (if n = 0 then (0 : Int) else c (n - 1)).sign = if n = 0 then 0 else (c (n - 1)).sign := by split <;> rfl
    rw [e] at g
    exact nq_ ih (sg3 _) (sg3 _) g.1 g.2
/-- A factor brings an odd number of changes. -/
theorem l8_ (c : Nat → Int) {z : Int} (hz : 0 < z) {n : Nat} (h0 : c n ≠ 0) (h1 : c (n + 1) = 0) : (vsq c (n + 1)).1 + 1 ≤ (vsq (conv c (lin (-z) 1)) (n + 2)).1 ∧ ((vsq (conv c (lin (-z) 1)) (n + 2)).1 - (vsq c (n + 1)).1) % 2 = 1 := by
  have h := m5_ c hz (n + 1)
  rw [if_neg (by omega), Nat.add_sub_cancel] at h
  have e : (conv c (lin (-z) 1) (n + 1)).sign = (c n).sign := by rw [jP_, if_neg (by omega), h1, Int.mul_zero, Int.sub_zero, Nat.add_sub_cancel]
  show _ ≤ (vst (vsq (conv c (lin (-z) 1)) (n + 1)) _).1 ∧ ((vst (vsq (conv c (lin (-z) 1)) (n + 1)) _).1 - _) % 2 = 1
  rw [e]
  generalize vsq c (n + 1) = x at *
  generalize vsq (conv c (lin (-z) 1)) (n + 1) = y at *
  have hn : (c n).sign ≠ 0 := by rcases fp_ (c n) with g | g | g <;> omega
  unfold VR at h
  unfold vst
  rw [if_neg hn]
  rcases h with ⟨a1, a2, a3, a4⟩ | ⟨a1, a2, a3⟩
  · exact absurd a4 hn
  · simp only
    split <;> omega
theorem ou_ (a b : W) : aF_ [a, b] = ai_ [E (Z.of a.1), E (Z.of b.1)] := by
  unfold aF_
  rw [gN_, jg_]; rfl
theorem gK_ {p : List I} {z : List U8} (hz : z.length ≤ 6) {v0 : Int} : ∀ (f i : Nat) (q : List I) (c : Nat → Int) (n : Nat), z.length - i < f → i ≤ z.length → Po q c → Bd c (7 + i) (30 + 14 * i) → q.length = n + 1 → v0 + i ≤ (vsq c (n + 1)).1 → ((vsq c (n + 1)).1 - v0 - i) % 2 = 0 →
    v0 + z.length ≤ (af_ (ah_ p z f q i).1).1 ∧ ((af_ (ah_ p z f q i).1).1 - v0 - z.length) % 2 = 0
  | 0, i, q, c, n, hf, _, _, _, _, _, _ => absurd hf (Nat.not_lt_zero _)
  | f + 1, i, q, c, n, hf, hi, hq, hb, hn, h1, h2 => by
    unfold ah_
    by_cases hl : i < z.length
    · rw [decide_eq_true (by omega), cond_true]
      have hzr := (z.getD i u80).2
      generalize hx : (z.getD i u80).1 = x at *
      have e1 : (W.sub (wl (-1)) (W.cv x)).1 = -(1 + x) := by
        show IntKind.i64.wrap ((-1) - (W.cv x).1) = _
        rw [cvE (by omega), wi (by omega)]; omega
      have b1 : (-(1 + x)).natAbs < 2 ^ 9 := by show _ < 512; omega
      have b2 : (1 : Int).natAbs < 2 ^ 9 := by decide
      have hL := oZ_ (iu_ b1 (by decide)) (iu_ b2 (by decide))
      have hLb := or_ b1 b2
      have e2 : aF_ [W.sub (wl (-1)) (W.cv x), wl 1] = ai_ [E (Z.of (-(1 + x))), E (Z.of 1)] := by rw [ou_, e1]
      rw [e2]
      have hM := oT_ hq hL hb hLb (e := 4) (by omega) (by omega) (by omega)
      have hMb := (hb.conv hLb (e := 4) (by omega)).mono (n' := 7 + (i + 1)) (b1 := 30 + 14 * (i + 1)) (by omega) (by omega)
      have hc1 := hq.last hn
      have hc2 := hq.zero (k := n + 1) (by omega)
      have hv : (vsq c (n + 1)).1 + 1 ≤ (vsq (conv c (lin (-(1 + x)) 1)) (n + 1 + 1)).1 ∧ ((vsq (conv c (lin (-(1 + x)) 1)) (n + 1 + 1)).1 - (vsq c (n + 1)).1) % 2 = 1 := l8_ c (z := 1 + x) (by omega) hc1 hc2
      have hlen : (br_ q (ai_ [E (Z.of (-(1 + x))), E (Z.of 1)])).length = n + 1 + 1 := by
        refine Nat.le_antisymm (hM.short fun k hk => ?_) ?_
        · exact g1_ (n := n + 1) (m := 2) (fun i hi => hq.zero (by omega)) hLb.z k (by omega)
        · rcases Nat.lt_or_ge (n + 1) (br_ q (ai_ [E (Z.of (-(1 + x))), E (Z.of 1)])).length with g | g
          · omega
          · have k1 := hM.zero g
            have k2 := lV_ (n := n) (m := 1) (c := c) (d := lin (-(1 + x)) 1) (fun i hi => hq.zero (by omega)) (fun i hi => hLb.z i (by omega))
            rw [k1, show lin (-(1 + x)) 1 1 = 1 from rfl, Int.mul_one] at k2
            exact absurd k2.symm hc1
      exact gK_ hz f (i + 1) _ _ (n + 1) (by omega) (by omega) hM hMb hlen (by omega) (by omega)
    · rw [decide_eq_false (by omega), cond_false]
      show v0 + z.length ≤ (af_ q).1 ∧ ((af_ q).1 - v0 - z.length) % 2 = 0
      rw [lR_ hq, hn, show z.length = i by omega]
      exact ⟨h1, h2⟩
theorem kH_ (p : List I) (z : List U8) : a9_ p z = true := by
  unfold a9_
  cases hc : (!(aG_ p 6 30) || ((ac_ p) || (((((p).length : Nat) : Int) == 0) || decide (6 < (((z).length : Nat) : Int)))))
  case true => rw [cond_true]; exact jR_
  simp only [Bool.or_eq_false_iff, Bool.not_eq_false', decide_eq_false_iff_not] at hc
  obtain ⟨fp, bp, h0, hz⟩ := hc
  have rp := (few_f (p := p) (d := 6) (b := 30) (by rw [fp]; rfl)).1
  obtain ⟨c, hp, hb⟩ := mg_ fp (nw_ (oL_ rp) bp)
  obtain ⟨n, hn⟩ : ∃ n, p.length = n + 1 := ⟨p.length - 1, by have := beq_eq_false_iff_ne.1 h0; omega⟩
  have hv := lR_ hp
  rw [hn] at hv
  have hr := jf_ c (n + 1)
  have hl := hp.l
  obtain ⟨k1, k2⟩ := gK_ (p := p) (z := z) (by omega) (v0 := (vsq c (n + 1)).1) (z.length + 1) 0 p c n (by omega) (Nat.zero_le _) hp hb hn (by omega) (by omega)
  have k3 : (af_ (ah_ p z (z.length + 1) p 0).1).1 ≤ 9223372036854775807 := (af_ (ah_ p z (z.length + 1) p 0).1).2.2
  rw [cond_false]
  show (bA_ && (decide (0 ≤ (W.sub (W.sub (af_ (ah_ p z (z.length + 1) p 0).1) (af_ p)) (W.cv (((z).length : Nat) : Int))).1) && ((W.rem (W.sub (W.sub (af_ (ah_ p z (z.length + 1) p 0).1) (af_ p)) (W.cv (((z).length : Nat) : Int))) (wl 2)).1 == 0))) = true
  generalize af_ (ah_ p z (z.length + 1) p 0).1 = V at *
  have e1 : (W.sub (W.sub V (af_ p)) (W.cv (((z).length : Nat) : Int))).1 = V.1 - (vsq c (n + 1)).1 - z.length := by
    show IntKind.i64.wrap (IntKind.i64.wrap (V.1 - (af_ p).1) - (W.cv (((z).length : Nat) : Int)).1) = _
    rw [cvE (by omega), hv, wi (n := V.1 - (vsq c (n + 1)).1) (by omega), wi (by omega)]
  have e2 : (W.rem (W.sub (W.sub V (af_ p)) (W.cv (((z).length : Nat) : Int))) (wl 2)).1 = 0 := by
    show ((W.sub (W.sub V (af_ p)) (W.cv (((z).length : Nat) : Int))).1).tmod 2 = 0
    rw [e1, Int.tmod_eq_emod_of_nonneg (by omega)]; exact k2
  rw [jR_, e2, e1, decide_eq_true (by omega)]; rfl
end Go.Num


set_option linter.unusedVariables false
set_option linter.unusedSimpArgs false
namespace Go.Num
open Go Go.Kn Go.RowKit Go.ChangeShapes Go.WideShapes
section
variable {H : Type} {enc : TypeId × Value → H} {P : Program} {w : World} {base : Nat} {spare : Nat → Bool} {held : Bool} {α : Type} {e : El α}
theorem Rd.app {a : Addr} {A B : List Value} (h : Rd w a A) (k : Rd w (a.add A.length) B) : Rd w a (A ++ B) := fun j v hj => by
  rcases Nat.lt_or_ge j A.length with h' | h'
  · rw [List.getElem?_append_left h'] at hj; exact h j v hj
  · rw [List.getElem?_append_right h'] at hj
    have := k _ _ hj
    rw [iV_, Nat.add_sub_cancel' h'] at this
    exact this
theorem Rd.of_cells {a : Addr} {n : Nat} {cs : List Value} (h : w.cells? base a n = some cs) : Rd w a cs := fun j v hj => by
  obtain ⟨_, hl, hc⟩ := World.cells?_some h
  have hj' : j < cs.length := (List.getElem?_eq_some_iff.1 hj).1
  have h1 := hc j (by omega)
  rw [hj] at h1
  exact h1
theorem le_ {a : Addr} {len : Nat} (h : ∀ i, i < len → ∃ x : α, w.cells? base (a.add (i * e.n)) e.n = some (e.cs x)) : ∀ k, k ≤ len → ∃ l : List α, l.length = k ∧ Rd w a (rows e l)
  | 0, _ => ⟨[], rfl, fun j v hj => by simp [rows] at hj⟩
  | k + 1, hk => by
    obtain ⟨l, hl, hr⟩ := le_ h k (by omega)
    obtain ⟨x, hx⟩ := h k (by omega)
    refine ⟨l ++ [x], by simp [hl], ?_⟩
    rw [d9_]
    refine Rd.app hr ?_
    rw [cj_, hl]
    have := Rd.of_cells hx
    simpa [rows] using this
theorem n6_ {T E : TypeId} {ls : List Leaf} {v : Value} {d : DataW H} {p : List MemPlace} {b0 : Nat} {r : Reach} (hT : P.underlying T = some (.slice E)) (hl : lz P 8 E = some ls) (hn : P.cellsOf E = e.n)
    (op : ∀ cs, LWF cs ls → ∃ x : α, cs = e.cs x) (hv : Value.okWide P w r b0 T v) (ht : DataW.Trod enc P w base spare held T v d p) : ∃ l : List α, Slr w e v l := by
  obtain ⟨fuel, hf⟩ := ht
  have hv' : ∃ a n c, v = .slice a n c := by
    unfold Value.okWide at hv
    rw [hT] at hv
    unfold Cell.okWide at hv
    rw [hT] at hv
    cases v <;> simp_all [Cell.ok]
  obtain ⟨a, n, c, rfl⟩ := hv'
  have e1 : (Value.slice a n c).cells.toList = [.slice a n c] := rfl
  rw [e1] at hf
  rcases DataW.trod_slice hT hf with ⟨h, _⟩ | ⟨a', len, cap, elems, rest, m, _, h, _, _, hlc, hc, hel, hall, _⟩
  · cases h
    exact ⟨[], none, 0, rfl, Nat.le_refl _, by decide, .inl ⟨rfl, rfl, rfl⟩⟩
  · cases h
    have hx : ∀ i, i < n → ∃ x : α, w.cells? base (a'.add (i * e.n)) e.n = some (e.cs x) := fun i hi => by
      have h1 := hall i hi
      rw [List.getElem?_eq_getElem (by omega), hn] at h1
      cases hc' : w.cells? base (a'.add (i * e.n)) e.n with
      | none => rw [hc'] at h1; cases h1
      | some cs =>
        rw [hc'] at h1
        obtain ⟨x, hx⟩ := op cs (fE_ 8 hl h1)
        exact ⟨x, by rw [hx]⟩
    obtain ⟨l, hl', hr⟩ := le_ hx n (Nat.le_refl _)
    exact ⟨l, some a', c, by rw [hl'], by omega, hc, .inr ⟨a', rfl, hr⟩⟩
end
theorem pq_ {cs : List Value} (h : LWF cs LI) : ∃ x : I, cs = elI.cs x := by
  obtain ⟨x0, rfl⟩ := openI h
  exact ⟨x0, by first | rfl | exact (List.append_nil _).symm | simp [El.cs, elI, flat]⟩
end Go.Num

