/- From a reading of an argument that is a slice to the list that it reads. No program stands in it. -/

import Derived.Test.YtapbefpeopaecaaGreatDoorZGD
import Derived.ProofKit
import Derived.OpenShut
import Derived.ChangeOld
import Derived.ChangeArms
set_option linter.unusedVariables false
set_option linter.unusedSimpArgs false
namespace Go.Num
open Go Go.Kn Go.RowKit Go.ChangeShapes Go.WideShapes
section
variable {H : Type} {enc : TypeId × Value → H} {P : Program} {w : World} {base : Nat} {spare : Nat → Bool} {held : Bool} {α : Type} {e : El α}
theorem Rd.app {a : Addr} {A B : List Value} (h : Rd w a A) (k : Rd w (a.add A.length) B) : Rd w a (A ++ B) := fun j v hj => by
  rcases Nat.lt_or_ge j A.length with h' | h'
  · rw [List.getElem?_append_left h'] at hj; exact h j v hj
  · rw [List.getElem?_append_right h'] at hj
    have := k _ _ hj
    rw [kE_, Nat.add_sub_cancel' h'] at this
    exact this
theorem Rd.of_cells {a : Addr} {n : Nat} {cs : List Value} (h : w.cells? base a n = some cs) : Rd w a cs := fun j v hj => by
  obtain ⟨_, hl, hc⟩ := World.cells?_some h
  have hj' : j < cs.length := (List.getElem?_eq_some_iff.1 hj).1
  have h1 := hc j (by omega)
  rw [hj] at h1
  exact h1
theorem mD_ {a : Addr} {len : Nat} (h : ∀ i, i < len → ∃ x : α, w.cells? base (a.add (i * e.n)) e.n = some (e.cs x)) : ∀ k, k ≤ len → ∃ l : List α, l.length = k ∧ Rd w a (rows e l)
  | 0, _ => ⟨[], rfl, fun j v hj => by simp [rows] at hj⟩
  | k + 1, hk => by
    obtain ⟨l, hl, hr⟩ := mD_ h k (by omega)
    obtain ⟨x, hx⟩ := h k (by omega)
    refine ⟨l ++ [x], by simp [hl], ?_⟩
    rw [eT_]
    refine Rd.app hr ?_
    rw [dx_, hl]
    have := Rd.of_cells hx
    simpa [rows] using this
theorem rf_ {T E : TypeId} {ls : List Leaf} {v : Value} {d : DataW H} {p : List MemPlace} {b0 : Nat} {r : Reach} (hT : P.underlying T = some (.slice E)) (hl : lz P 8 E = some ls) (hn : P.cellsOf E = e.n)
    (op : ∀ cs, LWF cs ls → ∃ x : α, cs = e.cs x) (hv : Value.okWide P w r b0 T v) (ht : DataW.Trod enc P w base spare held T v d p) : ∃ l : List α, Slr w e v l := by
  obtain ⟨fuel, hf⟩ := ht
  have hv' : ∃ a n c, v = .slice a n c := by
    unfold Value.okWide at hv
    rw [hT] at hv
    unfold Cell.okWide at hv
    rw [hT] at hv
    cases v <;> simp_all [Cell.ok]
  obtain ⟨a, n, c, rfl⟩ := hv'
  have e1 : (Value.slice a n c).cells.toList = [.slice a n c] := rfl
  rw [e1] at hf
  rcases DataW.trod_slice hT hf with ⟨h, _⟩ | ⟨a', len, cap, elems, rest, m, _, h, _, _, hlc, hc, hel, hall, _⟩
  · cases h
    exact ⟨[], none, 0, rfl, Nat.le_refl _, by decide, .inl ⟨rfl, rfl, rfl⟩⟩
  · cases h
    have hx : ∀ i, i < n → ∃ x : α, w.cells? base (a'.add (i * e.n)) e.n = some (e.cs x) := fun i hi => by
      have h1 := hall i hi
      rw [List.getElem?_eq_getElem (by omega), hn] at h1
      cases hc' : w.cells? base (a'.add (i * e.n)) e.n with
      | none => rw [hc'] at h1; cases h1
      | some cs =>
        rw [hc'] at h1
        obtain ⟨x, hx⟩ := op cs (fY_ 8 hl h1)
        exact ⟨x, by rw [hx]⟩
    obtain ⟨l, hl', hr⟩ := mD_ hx n (Nat.le_refl _)
    exact ⟨l, some a', c, by rw [hl'], by omega, hc, .inr ⟨a', rfl, hr⟩⟩
end
theorem sv_ {cs : List Value} (h : LWF cs (LI ++ LI)) : ∃ x : Rt, cs = elRt.cs x := by
  obtain ⟨c0, r0, rfl, u0, u1⟩ := LWF.split h
  obtain ⟨x0, rfl⟩ := openI u0
  obtain ⟨x1, rfl⟩ := openI u1
  exact ⟨⟨x0, x1⟩, rfl⟩
theorem su_ {cs : List Value} (h : LWF cs (LI ++ (LI ++ (LI ++ (LI ++ (LI ++ LI)))))) : ∃ x : A3 Rt, cs = elVr.cs x := by
  obtain ⟨c0, r0, rfl, u0, h⟩ := LWF.split h
  obtain ⟨c1, r1, rfl, u1, h⟩ := LWF.split h
  obtain ⟨c2, r2, rfl, u2, h⟩ := LWF.split h
  obtain ⟨c3, r3, rfl, u3, h⟩ := LWF.split h
  obtain ⟨c4, r4, rfl, u4, u5⟩ := LWF.split h
  obtain ⟨x0, rfl⟩ := openI u0
  obtain ⟨x1, rfl⟩ := openI u1
  obtain ⟨x2, rfl⟩ := openI u2
  obtain ⟨x3, rfl⟩ := openI u3
  obtain ⟨x4, rfl⟩ := openI u4
  obtain ⟨x5, rfl⟩ := openI u5
  exact ⟨⟨⟨x0, x1⟩, ⟨x2, x3⟩, ⟨x4, x5⟩⟩, rfl⟩
end Go.Num

