/- The small logic, ninth part: values as rows of parts, and loops that are unrolled. No program stands in it. Slices of elements of several cells: read, cut, measured, handed on. No program stands in it. Calls walked in place; ranges over functions: the iterator and its rounds walked in place. No program stands in it. Types of the program's values: integers of 64 bits, api.Int, rows and structs of them. No program stands in it. Labels and scopes without jumps. No program stands in it. What comparing two whole numbers by sign and digits gives. No program stands in it. Pairs, and the comparison of two fractions by their continued fractions. No program stands in it. Elements of lists, arrays of nine, the greater and the lesser. No program stands in it. Shifts to the left. No program stands in it. Short words: plain operations by one evaluation; the other laws under short names. No program stands in it. From a reading of an argument (bools, integers, arrays and structs of them) to the value of a plain type. No program stands in it. -/
import Derived.Test.YtapbefpeopaecaaGreatDoorYGC
import Derived.Scope
import Derived.ProofKit
import Derived.OpenShut
import Derived.ShutString
import Derived.ChangeOld
import Derived.Below
set_option linter.unusedVariables false
set_option linter.unusedSimpArgs false
namespace Go.Kn
open Go.RowKit
/-- A id_ of cells whose length is known. -/
structure Part where
  n : Nat
  l : List Value
  len : l.length = n
  pl : ∀ v ∈ l, plain v = true
def flat : List Part → List Value
  | [] => []
  | [p] => p.l
  | p :: q :: ps => p.l ++ flat (q :: ps)
theorem eH_ (p : Part) (ps : List Part) : flat (p :: ps) = p.l ++ flat ps := by
  cases ps with
  | nil => simp [flat]
  | cons q ps => rfl
theorem dY_ (ps qs : List Part) : flat (ps ++ qs) = flat ps ++ flat qs := by
  induction ps with
  | nil => rfl
  | cons p ps ih => rw [List.cons_append, eH_, eH_, ih, List.append_assoc]
def psize : List Part → Nat
  | [] => 0
  | p :: ps => p.n + psize ps
theorem eU_ : ∀ ps : List Part, (flat ps).length = psize ps
  | [] => rfl
  | p :: ps => by rw [eH_, List.length_append, p.len, eU_ ps]; rfl
theorem iP_ (ps : List Part) : ∀ v ∈ flat ps, plain v = true := by
  induction ps with
  | nil => intro v h; cases h
  | cons p ps ih =>
    intro v h
    rw [eH_, List.mem_append] at h
    rcases h with h | h
    · exact p.pl v h
    · exact ih v h
/-- The value with these parts. -/
abbrev AV (ps : List Part) : Value := .agg (flat ps).toArray
abbrev ci (k : IntKind) (n : Int) : Part := ⟨1, [.int k n], rfl, fun v h => by rw [List.mem_singleton.1 h]; rfl⟩
/-- The first n cells, as whole parts. -/
def takeP : List Part → Nat → Option (List Part)
  | [], n => bif Nat.beq n 0 then some [] else none
  | p :: ps, n => bif Nat.beq n 0 then some [] else bif Nat.ble p.n n then (match takeP ps (n - p.n) with | some qs => some (p :: qs) | none => none) else none
/-- The n cells from off on, as whole parts. -/
def cutP : List Part → Nat → Nat → Option (List Part)
  | [], off, n => bif Nat.beq off 0 then takeP [] n else none
  | p :: ps, off, n => bif Nat.beq off 0 then takeP (p :: ps) n else bif Nat.ble p.n off then cutP ps (off - p.n) n else none
theorem hm_ : ∀ {ps qs : List Part} {n : Nat}, takeP ps n = some qs → ∃ rs, ps = qs ++ rs ∧ psize qs = n
  | [], qs, n, h => by
    simp only [takeP] at h
    cases hb : Nat.beq n 0
    · rw [hb] at h; cases h
    · rw [hb] at h; cases h; exact ⟨[], rfl, (Nat.eq_of_beq_eq_true hb).symm⟩
  | p :: ps, qs, n, h => by
    simp only [takeP] at h
    cases hb : Nat.beq n 0
    · rw [hb] at h
      simp only [cond_false] at h
      cases hl : Nat.ble p.n n
      · rw [hl] at h; cases h
      · rw [hl] at h
        simp only [cond_true] at h
        split at h
        · rename_i qs' hq
          cases h
          obtain ⟨rs, h1, h2⟩ := hm_ hq
          have := Nat.le_of_ble_eq_true hl
          exact ⟨rs, by rw [h1]; rfl, by simp only [psize, h2]; omega⟩
        · cases h
    · rw [hb] at h; cases h; exact ⟨p :: ps, rfl, (Nat.eq_of_beq_eq_true hb).symm⟩
theorem jJ_ : ∀ {ps qs : List Part} {off n : Nat}, cutP ps off n = some qs → ∃ as rs, ps = as ++ (qs ++ rs) ∧ psize as = off ∧ psize qs = n
  | [], qs, off, n, h => by
    simp only [cutP] at h
    cases hb : Nat.beq off 0
    · rw [hb] at h; cases h
    · rw [hb] at h
      simp only [cond_true] at h
      obtain ⟨rs, h1, h2⟩ := hm_ h
      exact ⟨[], rs, h1, (Nat.eq_of_beq_eq_true hb).symm, h2⟩
  | p :: ps, qs, off, n, h => by
    simp only [cutP] at h
    cases hb : Nat.beq off 0
    · rw [hb] at h
      simp only [cond_false] at h
      cases hl : Nat.ble p.n off
      · rw [hl] at h; cases h
      · rw [hl] at h
        simp only [cond_true] at h
        obtain ⟨as, rs, h1, h2, h3⟩ := jJ_ h
        have := Nat.le_of_ble_eq_true hl
        exact ⟨p :: as, rs, by rw [h1]; rfl, by simp only [psize, h2]; omega, h3⟩
    · rw [hb] at h
      simp only [cond_true] at h
      obtain ⟨rs, h1, h2⟩ := hm_ h
      exact ⟨[], rs, h1, (Nat.eq_of_beq_eq_true hb).symm, h2⟩
theorem eY_ {ps qs : List Part} {off n : Nat} (h : cutP ps off n = some qs) : ((flat ps).drop off).take n = flat qs ∧ (flat qs).length = n ∧ off + n ≤ (flat ps).length := by
  obtain ⟨as, rs, rfl, h1, h2⟩ := jJ_ h
  rw [← h1, ← h2, ← eU_, ← eU_, dY_, dY_, List.drop_left, List.take_left]
  exact ⟨rfl, rfl, by simp only [List.length_append]; omega⟩
/-- The cell at off. -/
def cellP : List Part → Nat → Option Value
  | [], _ => none
  | p :: ps, off => bif Nat.ble p.n off then cellP ps (off - p.n) else p.l[off]?
theorem gY_ : ∀ {ps : List Part} {off : Nat} {v : Value}, cellP ps off = some v → (flat ps)[off]? = some v
  | [], _, _, h => by cases h
  | p :: ps, off, v, h => by
    simp only [cellP] at h
    rw [eH_]
    cases hl : Nat.ble p.n off
    · rw [hl] at h
      have h1 : ¬ p.n ≤ off := fun hc => by rw [Nat.ble_eq_true_of_le hc] at hl; cases hl
      rw [List.getElem?_append_left (by rw [p.len]; omega)]
      exact h
    · rw [hl] at h
      rw [List.getElem?_append_right (by rw [p.len]; exact Nat.le_of_ble_eq_true hl), p.len]
      exact gY_ h
/-- With qs laid over what stands from off on. -/
def dropP : List Part → Nat → Option (List Part)
  | [], n => bif Nat.beq n 0 then some [] else none
  | p :: ps, n => bif Nat.beq n 0 then some (p :: ps) else bif Nat.ble p.n n then dropP ps (n - p.n) else none
def setP : List Part → Nat → Nat → List Part → Option (List Part)
  | [], off, n, qs => bif Nat.beq off 0 then (match dropP [] n with | some rs => some (qs ++ rs) | none => none) else none
  | p :: ps, off, n, qs => bif Nat.beq off 0 then (match dropP (p :: ps) n with | some rs => some (qs ++ rs) | none => none) else
      bif Nat.ble p.n off then (match setP ps (off - p.n) n qs with | some rs => some (p :: rs) | none => none) else none
theorem hp_ : ∀ {ps rs : List Part} {n : Nat}, dropP ps n = some rs → ∃ as, ps = as ++ rs ∧ psize as = n
  | [], rs, n, h => by
    simp only [dropP] at h
    cases hb : Nat.beq n 0
    · rw [hb] at h; cases h
    · rw [hb] at h; cases h; exact ⟨[], rfl, (Nat.eq_of_beq_eq_true hb).symm⟩
  | p :: ps, rs, n, h => by
    simp only [dropP] at h
    cases hb : Nat.beq n 0
    · rw [hb] at h
      simp only [cond_false] at h
      cases hl : Nat.ble p.n n
      · rw [hl] at h; cases h
      · rw [hl] at h
        simp only [cond_true] at h
        obtain ⟨as, h1, h2⟩ := hp_ h
        have := Nat.le_of_ble_eq_true hl
        exact ⟨p :: as, by rw [h1]; rfl, by simp only [psize, h2]; omega⟩
    · rw [hb] at h; cases h; exact ⟨[], rfl, (Nat.eq_of_beq_eq_true hb).symm⟩
theorem jA_ : ∀ {ps ps' qs : List Part} {off n : Nat}, setP ps off n qs = some ps' → ∃ as bs rs, ps = as ++ (bs ++ rs) ∧ ps' = as ++ (qs ++ rs) ∧ psize as = off ∧ psize bs = n
  | [], ps', qs, off, n, h => by
    simp only [setP] at h
    cases hb : Nat.beq off 0
    · rw [hb] at h; cases h
    · rw [hb] at h
      simp only [cond_true] at h
      split at h
      · rename_i rs hr
        cases h
        obtain ⟨as, h1, h2⟩ := hp_ hr
        exact ⟨[], as, rs, h1, rfl, (Nat.eq_of_beq_eq_true hb).symm, h2⟩
      · cases h
  | p :: ps, ps', qs, off, n, h => by
    simp only [setP] at h
    cases hb : Nat.beq off 0
    · rw [hb] at h
      simp only [cond_false] at h
      cases hl : Nat.ble p.n off
      · rw [hl] at h; cases h
      · rw [hl] at h
        simp only [cond_true] at h
        split at h
        · rename_i rs hr
          cases h
          obtain ⟨as, bs, cs, h1, h2, h3, h4⟩ := jA_ hr
          have := Nat.le_of_ble_eq_true hl
          exact ⟨p :: as, bs, cs, by rw [h1]; rfl, by rw [h2]; rfl, by simp only [psize, h3]; omega, h4⟩
        · cases h
    · rw [hb] at h
      simp only [cond_true] at h
      split at h
      · rename_i rs hr
        cases h
        obtain ⟨as, h1, h2⟩ := hp_ hr
        exact ⟨[], as, rs, h1, rfl, (Nat.eq_of_beq_eq_true hb).symm, h2⟩
      · cases h
theorem hK_ {ps ps' qs : List Part} {off n : Nat} (h : setP ps off n qs = some ps') : (flat ps).take off ++ flat qs ++ (flat ps).drop (off + n) = flat ps' ∧ off + n ≤ (flat ps).length := by
  obtain ⟨as, bs, rs, rfl, rfl, h1, h2⟩ := jA_ h
  rw [← h1, ← h2, ← eU_, ← eU_, dY_, dY_, dY_, dY_, List.take_left, List.append_assoc]
  constructor
  · congr 2
    rw [← List.drop_drop, List.drop_left, List.drop_left]
  · simp only [List.length_append]; omega

section
variable {P : Program} {w0 : World} {X : List Nat} {N : Nm} {S : Fr} {M : List Blk} {d : Option Tmp} {ty : TypeId} {ps : String} {af : Array Edge} {gd : Option (Nat × Bool)}
theorem q_ptr {o : Oper} {b off off' : Nat} (q : OpQ P w0 X N o S M (.pointer (some ⟨b, off, none⟩))) (h : off = off') : OpQ P w0 X N o S M (.pointer (some ⟨b, off', none⟩)) := h ▸ q
/-- Loads. -/
theorem ib_ {T U : TypeId} {x : Operand} {n b off : Nat} {cs qs : List Part} (hT : tyOf P T = some (true, n)) (hx : evO N S x = some (.pointer (some ⟨b, off, none⟩))) (hm : (⟨b, U, flat cs⟩ : Blk) ∈ M) (hc : cutP cs off n = some qs) :
    OpQ P w0 X N ⟨d, .load T x, ty, ps, af, gd⟩ S M (AV qs) := cs_ hT hx hm (eY_ hc).1 (eY_ hc).2.1
theorem qH_ {T U : TypeId} {x : Operand} {s b off : Nat} {cs : List Part} {v : Value} (hT : tyOf P T = some (false, s)) (hx : evO N S x = some (.pointer (some ⟨b, off, none⟩))) (hm : (⟨b, U, flat cs⟩ : Blk) ∈ M) (hc : cellP cs off = some v) :
    OpQ P w0 X N ⟨d, .load T x, ty, ps, af, gd⟩ S M v := bf_ hT hx hm (gY_ hc)
/-- Stores. 'qs': the parts of what is stored. -/
theorem k4_ {T U : TypeId} {x y : Operand} {g : Bool} {n b off : Nat} {cs cs' qs : List Part} {M' : List Blk} {v : Value} {K : Value → List Blk → Prop} (hT : tyOf P T = some (g, n)) (hx : evO N S x = some (.pointer (some ⟨b, off, none⟩)))
    (hy : evO N S y = some v) (hv : v.cells = (flat qs).toArray) (hn : psize qs = n) (hc : setP cs off n qs = some cs') (hu : Upd b U (flat cs) (flat cs') M M') (hb : w0.heap.size ≤ b ∨ b ∈ X) (k : K undef M') :
    OpR P w0 X N ⟨d, .store T x y, ty, ps, af, gd⟩ S M K :=
  jf_ hT hx hu hy hv ((eU_ _).trans hn) (iP_ _) (hK_ hc).2 (hK_ hc).1 hb k
theorem a1_ {T : TypeId} {x : Operand} {v : Value} {qs : List Part} {K : Value → List Blk → Prop} (hx : evO N S x = some v) (hv : v.cells = (flat qs).toArray) (k : ∀ b, w0.heap.size ≤ b → K (.pointer (some ⟨b, 0, none⟩)) (⟨b, T, flat qs⟩ :: M)) :
    OpR P w0 X N ⟨d, .box T x, ty, ps, af, gd⟩ S M K := r_box hx hv k
theorem bk_ {T : TypeId} {qs : List Part} {K : Value → List Blk → Prop} (hT : dq_ P T = some (flat qs)) (k : ∀ b, w0.heap.size ≤ b → K (.pointer (some ⟨b, 0, none⟩)) (⟨b, T, flat qs⟩ :: M)) :
    OpR P w0 X N ⟨d, .alloc T, ty, ps, af, gd⟩ S M K := bl_ hT k
/-- Literals. -/
inductive FillP (place : Nat → Option (Nat × Nat)) : List Part → List (Nat × Value) → List Part → Prop where
  | nil (z : List Part) : FillP place z [] z
  | cons {i off size : Nat} {v : Value} {z out : List Part} {rest : List (Nat × Value)} (vs z' : List Part) (hp : place i = some (off, size)) (hv : v.cells = (flat vs).toArray) (hl : psize vs = size)
      (hz : setP z off size vs = some z') (k : FillP place z' rest out) : FillP place z ((i, v) :: rest) out
theorem FillP.r {place : Nat → Option (Nat × Nat)} {z out : List Part} {parts : List (Nat × Value)} (h : FillP place z parts out) : FillR place (flat z) parts (flat out) := by
  induction h with
  | nil z => exact .nil _
  | cons vs z' hp hv hl hz k ih => exact .cons hp hv ((eU_ _).trans hl) (hK_ hz).2 (hK_ hz).1 ih
theorem cy_ {T : TypeId} {xs : List (Nat × Operand)} {parts : List (Nat × Value)} {pl : List (Nat × Nat)} {z out : List Part} (hz : dq_ P T = some (flat z)) (hp : gA_ P T = some pl) (hx : evP N S xs = some parts)
    (h : FillP (fun i => pl[i]?) z parts out) : OpQ P w0 X N ⟨d, .build T xs.toArray, ty, ps, af, gd⟩ S M (AV out) := fH_ hz hp hx h.r
theorem bH_ {T : TypeId} {xs : List (Nat × Operand)} {parts : List (Nat × Value)} {n s : Nat} {z out : List Part} (hz : dq_ P T = some (flat z)) (hp : tyArr P T = some (n, s)) (hx : evP N S xs = some parts)
    (h : FillP (fun i => some (i * s, s)) z parts out) : OpQ P w0 X N ⟨d, .build T xs.toArray, ty, ps, af, gd⟩ S M (AV out) := d6_ hz hp hx h.r
/-- Results. -/
theorem resP {r : Tmp} {T : TypeId} {b off n : Nat} {U : TypeId} {cs qs : List Part} (hx : evO N S (.tmp r) = some (.pointer (some ⟨b, off, none⟩))) (hm : (⟨b, U, flat cs⟩ : Blk) ∈ M) (hT : tyOf P T = some (true, n)) (hc : cutP cs off n = some qs) :
    ResOk P N S M (.cell r T) (AV qs) := ⟨b, off, flat cs, U, true, n, hx, hm, hT, _, (eY_ hc).1, (eY_ hc).2.1, rfl⟩
end
section
variable {P : Program} {w0 : World} {X : List Nat} {N : Nm} {S : Fr} {M : List Blk} {d : Option Tmp} {ty : TypeId} {ps : String} {af : Array Edge} {gd : Option (Nat × Bool)}
theorem ok_ {T off n : Nat} {cs qs : List Part} (hT : tyOf P T = some (true, n)) (hc : cutP cs off n = some qs) (w : World) : (part T (flat cs).toArray off).run P w = .ok (AV qs) w := by
  unfold part
  obtain ⟨h1, h2, h3⟩ := eY_ hc
  simp only [Sem.run_bind, (dO_ (w := w) hT).1, (dO_ (w := w) hT).2, Result.andThen_ok, if_true, Sem.run_pure]
  congr 2
  simp [List.extract, h1]
theorem ml_ {T off n : Nat} {cs : List Part} {v : Value} (hT : tyOf P T = some (false, n)) (hc : cellP cs off = some v) (w : World) : (part T (flat cs).toArray off).run P w = .ok v w := by
  unfold part
  have h := gY_ hc
  have h2 : (flat cs).toArray[off]? = some v := by simpa using h
  simp only [Sem.run_bind, (dO_ (w := w) hT).1, Result.andThen_ok, Bool.false_eq_true, if_false, h2, Sem.run_pure]
/-- An array's length, and its elements: size, aggregate or not. -/
def tyEl (P : Program) (T : TypeId) : Option (Nat × Nat × Bool) := match P.underlying T with
  | some (.array n e) => (tyOf P e).map fun x => (n, x.2, x.1)
  | _ => none
theorem jE_ {T n s : Nat} {g : Bool} (h : tyEl P T = some (n, s, g)) : ∃ e, P.underlying T = some (.array n e) ∧ tyOf P e = some (g, s) := by
  unfold tyEl at h; split at h
  · rename_i m e hu
    cases he : tyOf P e with
    | none => simp [he] at h
    | some x => obtain ⟨x1, x2⟩ := x; simp [he] at h; obtain ⟨rfl, rfl, rfl⟩ := h; exact ⟨e, hu, he⟩
  · cases h
theorem oA_ {T : TypeId} {x y : Operand} {n s : Nat} {k : IntKind} {i : Int} {cs qs : List Part} (hT : tyEl P T = some (n, s, true)) (hx : evO N S x = some (AV cs)) (hy : evO N S y = some (.int k i)) (h0 : 0 ≤ i) (h1 : i < n) (hc : cutP cs (i.toNat * s) s = some qs) :
    OpQ P w0 X N ⟨d, .index T x y, ty, ps, af, gd⟩ S M (AV qs) :=
  q_of fun w _ => by
    obtain ⟨e, hd, he⟩ := jE_ hT
    simp [execOp, aZ_ hx, aZ_ hy, Instr.index, asIntOf, run_underlying hd, (dO_ (w := w) he).2, h0, h1, ok_ he hc]
theorem op_ {T : TypeId} {x y : Operand} {n s : Nat} {k : IntKind} {i : Int} {cs : List Part} {v : Value} (hT : tyEl P T = some (n, s, false)) (hx : evO N S x = some (AV cs)) (hy : evO N S y = some (.int k i)) (h0 : 0 ≤ i) (h1 : i < n) (hc : cellP cs (i.toNat * s) = some v) :
    OpQ P w0 X N ⟨d, .index T x y, ty, ps, af, gd⟩ S M v :=
  q_of fun w _ => by
    obtain ⟨e, hd, he⟩ := jE_ hT
    simp [execOp, aZ_ hx, aZ_ hy, Instr.index, asIntOf, run_underlying hd, (dO_ (w := w) he).2, h0, h1, ml_ he hc]
theorem sf_ {g : FuncId} {xs ys : List Operand} {vs us : List Value} (hx : evL N S xs = some vs) (hy : evL N S ys = some us) : OpQ P w0 X N ⟨d, .makeFunc (.func g) xs.toArray ys.toArray, ty, ps, af, gd⟩ S M (.func (.func g) vs.toArray us.toArray) :=
  q_of fun w _ => by
    have e1 : (xs.toArray.map (ev N S)) = vs.toArray := by rw [← gB_ hx]; simp
    have e2 : (ys.toArray.map (ev N S)) = us.toArray := by rw [← gB_ hy]; simp
    simp only [execOp, Instr.makeFunc, Sem.run_bind, Sem.run_pure, Result.andThen_ok, e1, e2]
/-- A call of a function value. -/
theorem h4_ {g : FuncId} {f : Operand} {xs : List Operand} {tys : Array TypeId} {first cap args : List Value} {v : Value} (he : au_ P g = true) (hf : evO N S f = some (.func (.func g) first.toArray cap.toArray)) (ha : evL N S xs = some args)
    (h : ∀ w, Sat w0 X M w → Calls P g (first ++ args ++ cap).toArray w fun e w' => e = .returned v ∧ Ext w w') : OpQ P w0 X N ⟨d, .call { callee := .value f, args := xs.toArray, argTypes := tys }, ty, ps, af, gd⟩ S M v := by
  intro w hw
  unfold opw
  rw [dN_, h2_ he (aZ_ hf) (by rw [gB_ ha])]
  exact (h w hw).mono fun e w' ⟨h1, h2⟩ => ⟨v, h1, rfl, h2⟩
theorem oc_ {T U : TypeId} {x : Operand} {n b off : Nat} {cs qs : List Part} (hT : tyOf P T = some (true, n)) (hx : evO N S x = some (.pointer (some ⟨b, off, none⟩))) (hm : w0.heap[b]? = some (.cells (flat cs).toArray U (0, 0))) (hX : b ∉ X) (hc : cutP cs off n = some qs) :
    OpQ P w0 X N ⟨d, .load T x, ty, ps, af, gd⟩ S M (AV qs) := lw_ hT hx hm hX (eY_ hc).1 (eY_ hc).2.1
end
section
variable {P : Program} {w0 : World} {X : List Nat} {N : Nm} {S : Fr} {M : List Blk} {Q : Post}
theorem W_sr {id : Nat} {ops : List Oper} {y : Code} (h : ∀ K : Fr → List Blk → Prop, (∀ S M, W P w0 X N y Q S M → K S M) → WL P w0 X N ops K ops S M) : W P w0 X N (.seq (.region id ops.toArray false) y) Q S M :=
  W_seq fun _ hK => iB_ fun K1 h1 => h K1 fun S M hw => h1 S M (hK S M hw)
theorem W_sdr {id : Nat} {ops : List Oper} {y : Code} {MD : List Blk} (sub : MD.Sublist M) (p : Plan) (nw : List Nat) (hm : P.follows .mixedOrders = true) (hs : Region.noSelect ops.toArray = true)
    (hok : Plan.ok ops.toArray nw ops.length (Array.replicate ops.length false) p = true)
    (h : ∀ K : Fr → List Blk → Prop, (∀ S M, W P w0 X N y Q S M → K S M) → PL P w0 X N ops nw MD K p S M) : W P w0 X N (.seq (.region id ops.toArray true) y) Q S M :=
  W_seq fun _ hK => la_ sub p nw hm hs hok fun K1 h1 => h K1 fun S M hw => h1 S M (hK S M hw)
variable {d : Option Tmp} {ty : TypeId} {ps : String} {af : Array Edge} {gd : Option (Nat × Bool)}
theorem WL_st {ops l : List Oper} {R : Fr → List Blk → Prop} {T U : TypeId} {x y : Operand} {g : Bool} {n b off : Nat} {cs cs' qs : List Part} {M' : List Blk} {v : Value} (hg : wantD N ops S (⟨none, .store T x y, ty, ps, af, gd⟩ : Oper) = true)
    (hT : tyOf P T = some (g, n)) (hx : evO N S x = some (.pointer (some ⟨b, off, none⟩))) (hy : evO N S y = some v) (hv : v.cells = (flat qs).toArray) (hn : psize qs = n) (hc : setP cs off n qs = some cs') (hu : Upd b U (flat cs) (flat cs') M M') (hb : w0.heap.size ≤ b)
    (k : WL P w0 X N ops R l S M') : WL P w0 X N ops R (⟨none, .store T x y, ty, ps, af, gd⟩ :: l) S M := WL_r hg (k4_ hT hx hy hv hn hc hu (.inl hb) k)
theorem PL_st {ops : List Oper} {nw : List Nat} {MD : List Blk} {R : Fr → List Blk → Prop} {i : Nat} {r : Plan} {T U : TypeId} {x y : Operand} {g : Bool} {n b off : Nat} {cs cs' qs : List Part} {M' : List Blk} {v : Value}
    (ho : ops[i]? = some ⟨none, .store T x y, ty, ps, af, gd⟩) (hg : wantD N ops S (⟨none, .store T x y, ty, ps, af, gd⟩ : Oper) = true)
    (hT : tyOf P T = some (g, n)) (hx : evO N S x = some (.pointer (some ⟨b, off, none⟩))) (hy : evO N S y = some v) (hv : v.cells = (flat qs).toArray) (hn : psize qs = n) (hc : setP cs off n qs = some cs') (hu : Upd b U (flat cs) (flat cs') M M') (hb : w0.heap.size ≤ b)
    (hw : nw.contains i = false) (hs : MD.Sublist M') (k : PL P w0 X N ops nw MD R r S M') : PL P w0 X N ops nw MD R (.only i r) S M :=
  PL_o ho hg (k4_ hT hx hy hv hn hc hu (.inl hb) ⟨(fun h => by rw [hw] at h; cases h), hs, k⟩)
end
theorem b6_ {p q : Part} {ps qs : List Part} {r s : Bool} (hn : p.n = q.n) (h : r = true ↔ p.l = q.l) (k : s = true ↔ flat ps = flat qs) : ((r && s) = true) ↔ flat (p :: ps) = flat (q :: qs) := by
  rw [eH_, eH_, Bool.and_eq_true, h, k]
  constructor
  · rintro ⟨a, b⟩; rw [a, b]
  · intro e; exact List.append_inj e (by rw [p.len, q.len, hn])
theorem e4_ {p q : Part} {r : Bool} (h : r = true ↔ p.l = q.l) : (r = true) ↔ flat [p] = flat [q] := h
theorem eq_ci {k : IntKind} {a b : Int} : decide (a = b) = true ↔ (ci k a).l = (ci k b).l := by simp
theorem bg_ {p : Part} {ps : List Part} {l m : List Leaf} (h : bV_ p.l l = true) (k : bV_ (flat ps) m = true) : bV_ (flat (p :: ps)) (l ++ m) = true := by rw [eH_]; exact gm_ h k
theorem d9_ {p : Part} {l : List Leaf} (h : bV_ p.l l = true) : bV_ (flat [p]) l = true := h
theorem lv_ci {k : IntKind} {a : Int} : bV_ (ci k a).l [some k] = true := by simp [bV_, g8_]
theorem W_t {P : Program} {w0 : World} {X : List Nat} {N : Nm} {Q : Post} {S : Fr} {M : List Blk} {c : Operand} {x y : Code} {b : Bool} (hb : b = true) (hc : evO N S c = some (.bool b)) (h : W P w0 X N x Q S M) : W P w0 X N (.cond c x y) Q S M := by
  subst hb; exact bF_ hc h
theorem W_f {P : Program} {w0 : World} {X : List Nat} {N : Nm} {Q : Post} {S : Fr} {M : List Blk} {c : Operand} {x y : Code} {b : Bool} (hb : b = false) (hc : evO N S c = some (.bool b)) (h : W P w0 X N y Q S M) : W P w0 X N (.cond c x y) Q S M := by
  subst hb; exact by_ hc h
theorem s0 {α : Type} {l : List α} : l.Sublist l := List.Sublist.refl l
theorem sn {α : Type} {l : List α} : ([] : List α).Sublist l := List.nil_sublist l
theorem sd {α : Type} {a : α} {l m : List α} (h : l.Sublist m) : l.Sublist (a :: m) := List.Sublist.cons a h
theorem sk {α : Type} {a : α} {l m : List α} (h : l.Sublist m) : (a :: l).Sublist (a :: m) := List.Sublist.cons_cons a h
theorem sA {α : Type} {k l m : List α} (h : l.Sublist m) : (k ++ l).Sublist (k ++ m) := List.Sublist.append (List.Sublist.refl k) h
theorem sR {α : Type} {k l m : List α} (h : l.Sublist m) : l.Sublist (k ++ m) := List.Sublist.trans h (List.sublist_append_right k m)
theorem nf {p : Prop} (h : false = true) : p := by cases h
theorem bt (b : Bool) : b = true ∨ b = false := Bool.eq_false_or_eq_true b
theorem and_t {c a v : Bool} (h : c = true) (k : v = a) : v = (c && a) := by rw [h, k]; rfl
theorem and_f {c a : Bool} (h : c = false) : false = (c && a) := by rw [h]; rfl
theorem or_t {c a : Bool} (h : c = true) : true = (c || a) := by rw [h]; rfl
theorem or_f {c a v : Bool} (h : c = false) (k : v = a) : v = (c || a) := by rw [h, k]; rfl
theorem nor_t {c a v : Bool} (h : c = true) (k : v = a) : v = (!c || a) := by rw [h, k]; rfl
theorem nor_f {c a : Bool} (h : c = false) : true = (!c || a) := by rw [h]; rfl
theorem hu_ {c a : Bool} (h : c = true) : false = (!c && a) := by rw [h]; rfl
theorem fz_ {c a v : Bool} (h : c = false) (k : v = a) : v = (!c && a) := by rw [h, k]; rfl
theorem nm {α : Type} (e : α) : ∃ x, x = e := ⟨e, rfl⟩
theorem bif_t {α : Type} {c : Bool} {v x y : α} (h : c = true) (k : v = x) : v = (bif c then x else y) := by rw [h]; exact k
theorem bif_f {α : Type} {c : Bool} {v x y : α} (h : c = false) (k : v = y) : v = (bif c then x else y) := by rw [h]; exact k
theorem not_t {b : Bool} (h : b = false) : (!b) = true := by rw [h]; rfl
theorem not_f {b : Bool} (h : b = true) : (!b) = false := by rw [h]; rfl
def Un (P : Program) (w0 : World) (X : List Nat) (N : Nm) (c : Code) (Q : Post) : Nat → Fr → List Blk → Prop
  | 0, _, _ => False
  | n + 1, S, M => W P w0 X N c (thenK (Un P w0 X N c Q n) Q) S M
section
variable {P : Program} {w0 : World} {X : List Nat} {N : Nm} {Q : Post} {S : Fr} {M : List Blk} {c : Code}
theorem W_un (n : Nat) (h : Un P w0 X N c Q n S M) : W P w0 X N (.loop c) Q S M := by
  refine o6_ (fun n S M => Un P w0 X N c Q n S M) n ⟨M, List.Sublist.refl _, h⟩ ?_
  intro n S M h
  cases n with
  | zero => exact h.elim
  | succ n =>
    refine kO_ h ?_
    intro e S' M' q
    cases e with
    | normal => exact ⟨M', n, List.Sublist.refl _, Nat.lt_succ_self _, q⟩
    | exit id => exact q
    | goto l => exact q
    | ret => exact q
    | panic c => exact q
    | outgrown => exact q
theorem Un_s {n : Nat} (h : ∀ K : Fr → List Blk → Prop, (∀ S' M', Un P w0 X N c Q n S' M' → K S' M') → W P w0 X N c (thenK K Q) S M) : Un P w0 X N c Q (n + 1) S M := h _ fun _ _ h => h
end
end Go.Kn

set_option linter.unusedVariables false
set_option linter.unusedSimpArgs false
namespace Go.Kn
open Go.RowKit
/-- How an element lies in cells. -/
structure El (α : Type) where
  n : Nat
  ps : α → List Part
  len : ∀ x, psize (ps x) = n
def El.cs {α : Type} (e : El α) (x : α) : List Value := flat (e.ps x)
section rows
variable {α : Type} {e : El α}
theorem El.cs_len (x : α) : (e.cs x).length = e.n := (eU_ _).trans (e.len x)
theorem El.cs_plain (x : α) : ∀ v ∈ e.cs x, plain v = true := iP_ _
def rows (e : El α) (l : List α) : List Value := l.flatMap e.cs
theorem du_ : ∀ l : List α, (rows e l).length = l.length * e.n
  | [] => by simp [rows]
  | x :: l => by
    have := du_ l
    simp only [rows, List.flatMap_cons, List.length_append, List.length_cons, El.cs_len] at *
    rw [this, Nat.succ_mul, Nat.add_comm]
theorem e9_ (a b : List α) : rows e (a ++ b) = rows e a ++ rows e b := by simp [rows]
theorem oO_ {l : List α} {k : Nat} {x : α} (h : l[k]? = some x) : ((rows e l).drop (k * e.n)).take e.n = e.cs x := id_ e.cs e.n l k x (fun y _ => El.cs_len y) h
theorem l6_ (l : List α) : ∀ v ∈ rows e l, plain v = true := fun v h => by
  obtain ⟨x, _, hx⟩ := List.mem_flatMap.1 h
  exact El.cs_plain x v hx
theorem jw_ (l : List α) (k : Nat) : (rows e l).take (k * e.n) = rows e (l.take k) := by
  by_cases h : k ≤ l.length
  · have e1 : l = l.take k ++ l.drop k := (List.take_append_drop k l).symm
    have e2 : (rows e (l.take k)).length = k * e.n := by rw [du_, List.length_take, Nat.min_eq_left h]
    conv => lhs; rw [e1, e9_]
    rw [← e2, List.take_left]
  · rw [List.take_of_length_le (l := rows e l) (by rw [du_]; exact Nat.mul_le_mul_right _ (by omega)), List.take_of_length_le (by omega)]
theorem j1_ (l : List α) (k : Nat) : (rows e l).drop (k * e.n) = rows e (l.drop k) := by
  by_cases h : k ≤ l.length
  · have e1 : l = l.take k ++ l.drop k := (List.take_append_drop k l).symm
    have e2 : (rows e (l.take k)).length = k * e.n := by rw [du_, List.length_take, Nat.min_eq_left h]
    conv => lhs; rw [e1, e9_]
    rw [← e2, List.drop_left]
  · rw [List.drop_of_length_le (l := l) (by omega), List.drop_of_length_le]
    · rfl
    · rw [du_]; exact Nat.mul_le_mul_right _ (by omega)
end rows
theorem nX_ (a : Addr) (m n : Nat) : (a.add m).add n = a.add (m + n) := by
  unfold Addr.add
  by_cases h : m = 0
  · subst h; simp
  · by_cases h2 : n = 0
    · subst h2; simp [h]
    · simp [h, h2, Nat.add_assoc]
/-- From a on, cs stand. -/
def Rd (w : World) (a : Addr) (cs : List Value) : Prop := ∀ j v, cs[j]? = some v → w.cell? (a.add j) = some v
theorem Rd.ext {w w' : World} {a : Addr} {cs : List Value} (h : Rd w a cs) (he : Ext w w') : Rd w' a cs := fun j v hj => by
  have h1 := h j v hj
  have he' : Below w.heap.size w w' := he
  unfold World.cell? at *
  have hb : (a.add j).block < w.heap.size := by
    cases hc : w.heap[(a.add j).block]? with
    | none => rw [hc] at h1; cases h1
    | some o => exact bz_? hc
  rw [he'.block _ hb]; exact h1
theorem Rd.sub {w : World} {a : Addr} {cs : List Value} (h : Rd w a cs) (o n : Nat) : Rd w (a.add o) ((cs.drop o).take n) := fun j v hj => by
  have hj' : j < n := by
    rcases Nat.lt_or_ge j n with h' | h'
    · exact h'
    · rw [List.getElem?_eq_none (by rw [List.length_take]; omega)] at hj; cases hj
  rw [nX_]
  rw [List.getElem?_take_of_lt hj', List.getElem?_drop] at hj
  exact h _ _ hj
theorem Rd.of_block {w : World} {b off : Nat} {T : TypeId} {cs xs : List Value} (h : w.heap[b]? = some (.cells cs.toArray T (0, 0))) (hx : (cs.drop off).take xs.length = xs) : Rd w ⟨b, off, none⟩ xs := fun j v hj => by
  rw [ef_]
  have hj' : j < xs.length := (List.getElem?_eq_some_iff.1 hj).1
  rw [← hx, List.getElem?_take_of_lt hj', List.getElem?_drop] at hj
  simp [World.cell?, h, hj]
/-- In w, v is a slice that reads l. -/
def Slr {α : Type} (w : World) (e : El α) (v : Value) (l : List α) : Prop :=
  ∃ p c, v = .slice p l.length c ∧ l.length ≤ c ∧ c ≤ maxLen ∧ ((p = none ∧ l = [] ∧ c = 0) ∨ ∃ a, p = some a ∧ Rd w a (rows e l))
/-- So it is in every world that fits. -/
def SLe {α : Type} (w0 : World) (X : List Nat) (M : List Blk) (e : El α) (v : Value) (l : List α) : Prop := ∀ w, Sat w0 X M w → Slr w e v l
/-- The place m cells behind a slice's beginning. -/
def slb : Value → Nat → Addr
  | .slice (some a) _ _, m => a.add m
  | _, m => ⟨0, m, none⟩
theorem m6_ (v : Value) (m o : Nat) : (slb v m).add o = slb v (m + o) := by
  unfold slb
  split
  · exact nX_ _ _ _
  · exact ef_ _ _ _
section
variable {α : Type} {e : El α} {P : Program} {w0 : World} {X : List Nat} {N : Nm} {S : Fr} {M M' : List Blk} {d : Option Tmp} {ty : TypeId} {ps : String} {af : Array Edge} {gd : Option (Nat × Bool)} {v : Value} {l : List α}
theorem Slr.ext {w w' : World} (h : Slr w e v l) (he : Ext w w') : Slr w' e v l := by
  obtain ⟨p, c, hv, hc, hm, h⟩ := h
  refine ⟨p, c, hv, hc, hm, ?_⟩
  rcases h with h | ⟨a, ha, hr⟩
  · exact .inl h
  · exact .inr ⟨a, ha, hr.ext he⟩
theorem Slr.max {w : World} (h : Slr w e v l) : l.length ≤ 9223372036854775807 := by
  obtain ⟨p, c, _, hc, hm, _⟩ := h
  unfold maxLen at hm; omega
theorem SLe.sub (h : SLe w0 X M e v l) (hs : M.Sublist M') : SLe w0 X M' e v l := fun w hw => h w (hw.sub hs)
theorem Slr.old (h : Slr w0 e v l) : SLe w0 [] [] e v l := fun w hw => h.ext hw.ext
theorem SLe.nil : SLe w0 X M e (.slice none 0 0) [] := fun w _ => ⟨none, 0, rfl, Nat.le_refl _, Nat.zero_le _, .inl ⟨rfl, rfl, rfl⟩⟩
theorem SLe.blk {b off n c : Nat} {T : TypeId} {cs : List Value} (h : (⟨b, T, cs⟩ : Blk) ∈ M) (hn : l.length = n) (hc : n ≤ c) (hm : c ≤ maxLen) (ht : (cs.drop off).take (n * e.n) = rows e l) : SLe w0 X M e (.slice (some ⟨b, off, none⟩) n c) l := fun w hw => by
  subst hn
  refine ⟨_, c, rfl, hc, hm, .inr ⟨_, rfl, Rd.of_block (hw.mem _ h) ?_⟩⟩
  rw [du_]; exact ht
/-- A row of ours that holds l and nothing else. -/
theorem SLe.mine {b n : Nat} {T : TypeId} {cs : List Value} (h : (⟨b, T, cs⟩ : Blk) ∈ M) (hn : l.length = n) (hm : n ≤ maxLen) (ht : cs = rows e l) : SLe w0 X M e (.slice (some ⟨b, 0, none⟩) n n) l :=
  SLe.blk h hn (Nat.le_refl _) hm (by subst ht; rw [List.drop_zero, ← hn, ← du_]; exact List.take_length ..)
theorem SLe.max (h : SLe w0 X M e v l) {w : World} (hw : Sat w0 X M w) : l.length ≤ 9223372036854775807 := (h w hw).max
theorem e7_ {T : TypeId} {x : Operand} {s : Nat} (hT : dV_ P T = some s) (hx : evO N S x = some v) (hv : SLe w0 X M e v l) : OpQ P w0 X N ⟨d, .call { callee := .builtin .len, args := #[x], argTypes := #[T] }, ty, ps, af, gd⟩ S M (.int .i64 (l.length : Nat)) := by
  intro w hw
  obtain ⟨p, c, rfl, _⟩ := hv w hw
  exact q_len (w0 := w0) (X := X) (M := M) hT hx w hw
theorem br_ {T : TypeId} {x y : Operand} {k : Nat} {i : IntKind} (hT : dV_ P T = some e.n) (hx : evO N S x = some v) (hy : evO N S y = some (.int i (k : Int))) (hv : SLe w0 X M e v l) (hk : k < l.length) :
    OpQ P w0 X N ⟨d, .indexAddr T x y, ty, ps, af, gd⟩ S M (.pointer (some (slb v (k * e.n)))) := by
  intro w hw
  obtain ⟨p, c, rfl, hc, hm, h⟩ := hv w hw
  rcases h with ⟨_, h, _⟩ | ⟨a, rfl, hr⟩
  · rw [h] at hk; simp at hk
  · refine q_of (w0 := w0) (X := X) (M := M) (fun w _ => ?_) w hw
    obtain ⟨e', q, hd, hi, hs⟩ := d0_ hT
    have h0 : (0 : Int) ≤ (k : Int) := Int.natCast_nonneg k
    have h1 : (k : Int) < ((l.length : Nat) : Int) := Int.ofNat_lt.2 hk
    simp [execOp, aZ_ hx, aZ_ hy, Instr.indexAt, asIntOf, run_underlying hd, sizeOf, typeInfo, hi, hs, h0, h1, slb]
    omega
theorem Slr.at {w : World} {k : Nat} {x : α} (h : Slr w e v l) (hk : l[k]? = some x) : Rd w (slb v (k * e.n)) (e.cs x) := by
  obtain ⟨p, c, rfl, hc, hm, h⟩ := h
  rcases h with ⟨_, h, _⟩ | ⟨a, rfl, hr⟩
  · rw [h] at hk; simp at hk
  · have := hr.sub (k * e.n) e.n
    rw [oO_ hk] at this; exact this
theorem qA_ {T : TypeId} {n : Nat} {w : World} {a : Addr} {vs : List Value} (hT : tyOf P T = some (true, n)) (h : Rd w a vs) (hl : vs.length = n) : (Instr.loadAt T (.pointer (some a))).run P w = .ok (.agg vs.toArray) w := by
  have hx := run_loadCells_list (P := P) w a vs (fun j v hj => h j v hj)
  rw [hl] at hx
  simp [Instr.loadAt, Instr.sureAddr, loadVar, (dO_ (w := w) hT).1, (dO_ (w := w) hT).2, hx]
theorem oM_ {T : TypeId} {s : Nat} {w : World} {a : Addr} {v : Value} (hT : tyOf P T = some (false, s)) (h : Rd w a [v]) : (Instr.loadAt T (.pointer (some a))).run P w = .ok v w := by
  have hc := h 0 v rfl
  have ha : a.add 0 = a := by simp [Addr.add]
  rw [ha] at hc
  simp [Instr.loadAt, Instr.sureAddr, loadVar, (dO_ (w := w) hT).1, load, Sem.run, hc]
/-- An element, or a part of it. -/
theorem q_ldG {T : TypeId} {x : Operand} {k o n : Nat} {y : α} {qs : List Part} (hT : tyOf P T = some (true, n)) (hx : evO N S x = some (.pointer (some (slb v (k * e.n + o))))) (hv : SLe w0 X M e v l) (hk : l[k]? = some y) (hc : cutP (e.ps y) o n = some qs) :
    OpQ P w0 X N ⟨d, .load T x, ty, ps, af, gd⟩ S M (AV qs) :=
  q_of fun w hw => by
    have h := ((hv w hw).at hk).sub o n
    rw [El.cs, (eY_ hc).1, m6_] at h
    simp only [execOp, aZ_ hx, Sem.run_bind, qA_ hT h (eY_ hc).2.1]; rfl
theorem q2_ {T : TypeId} {x : Operand} {k o s : Nat} {y : α} {u : Value} (hT : tyOf P T = some (false, s)) (hx : evO N S x = some (.pointer (some (slb v (k * e.n + o))))) (hv : SLe w0 X M e v l) (hk : l[k]? = some y) (hc : cellP (e.ps y) o = some u) :
    OpQ P w0 X N ⟨d, .load T x, ty, ps, af, gd⟩ S M u :=
  q_of fun w hw => by
    have h := ((hv w hw).at hk).sub o 1
    have hu : ((e.cs y).drop o).take 1 = [u] := by
      have h1 := gY_ hc
      have hlt := (List.getElem?_eq_some_iff.1 h1).1
      rw [show e.cs y = flat (e.ps y) from rfl, List.drop_eq_getElem_cons hlt, List.take_succ_cons, List.take_zero]
      rw [List.getElem?_eq_getElem hlt] at h1
      rw [Option.some.inj h1]
    rw [hu, m6_] at h
    simp only [execOp, aZ_ hx, Sem.run_bind, oM_ hT h]; rfl
/-- A prefix. -/
theorem Slr.take {w : World} (h : Slr w e v l) {n : Nat} (hn : n ≤ l.length) : Slr w e (sls v n) (l.take n) := by
  obtain ⟨p, c, rfl, hc, hm, h⟩ := h
  have hl : (l.take n).length = n := by rw [List.length_take, Nat.min_eq_left hn]
  refine ⟨p, c, by rw [hl]; rfl, by omega, hm, ?_⟩
  rcases h with ⟨h1, h2, h3⟩ | ⟨a, ha, hr⟩
  · exact .inl ⟨h1, by rw [h2]; simp, h3⟩
  · refine .inr ⟨a, ha, ?_⟩
    have := hr.sub 0 (n * e.n)
    rw [List.drop_zero, jw_] at this
    rwa [show a.add 0 = a by simp [Addr.add]] at this
/-- In w, v is a slice that reads l, and it lies in no block below B. -/
def Slfe {α : Type} (B : Nat) (w : World) (e : El α) (v : Value) (l : List α) : Prop :=
  ∃ p c, v = .slice p l.length c ∧ l.length ≤ c ∧ c ≤ maxLen ∧ ((p = none ∧ l = [] ∧ c = 0) ∨ ∃ b off T, ∃ cs : List Value, p = some ⟨b, off, none⟩ ∧ B ≤ b ∧ w.heap[b]? = some (.cells cs.toArray T (0, 0)) ∧ (cs.drop off).take (l.length * e.n) = rows e l)
/-- Ours, and read. -/
def SLfe (w0 : World) (M : List Blk) (e : El α) (v : Value) (l : List α) : Prop :=
  ∃ p c, v = .slice p l.length c ∧ l.length ≤ c ∧ c ≤ maxLen ∧ ((p = none ∧ l = [] ∧ c = 0) ∨ ∃ b off T cs, p = some ⟨b, off, none⟩ ∧ w0.heap.size ≤ b ∧ (⟨b, T, cs⟩ : Blk) ∈ M ∧ (cs.drop off).take (l.length * e.n) = rows e l)
theorem SLfe.sub (h : SLfe w0 M e v l) (hs : M.Sublist M') : SLfe w0 M' e v l := by
  obtain ⟨p, c, hv, hc, hm, h⟩ := h
  refine ⟨p, c, hv, hc, hm, ?_⟩
  rcases h with h | ⟨b, off, T, cs, hp, hB, hh, ht⟩
  · exact .inl h
  · exact .inr ⟨b, off, T, cs, hp, hB, hs.mem hh, ht⟩
theorem SLfe.sle (h : SLfe w0 M e v l) : SLe w0 X M e v l := fun w hw => by
  obtain ⟨p, c, hv, hc, hm, h⟩ := h
  refine ⟨p, c, hv, hc, hm, ?_⟩
  rcases h with h | ⟨b, off, T, cs, hp, hB, hh, ht⟩
  · exact .inl h
  · exact .inr ⟨_, hp, Rd.of_block (hw.mem _ hh) (by rw [du_]; exact ht)⟩
theorem SLfe.slfe {w : World} (h : SLfe w0 M e v l) (hw : Sat w0 X M w) : Slfe w0.heap.size w e v l := by
  obtain ⟨p, c, hv, hc, hm, h⟩ := h
  refine ⟨p, c, hv, hc, hm, ?_⟩
  rcases h with h | ⟨b, off, T, cs, hp, hB, hh, ht⟩
  · exact .inl h
  · exact .inr ⟨b, off, T, cs, hp, hB, hw.mem _ hh, ht⟩
theorem SLfe.nil : SLfe w0 M e (.slice none 0 0) [] := ⟨_, 0, rfl, Nat.le_refl _, Nat.zero_le _, .inl ⟨rfl, rfl, rfl⟩⟩
theorem SLfe.mine {b n c : Nat} {T : TypeId} {cs : List Value} (hB : w0.heap.size ≤ b) (h : (⟨b, T, cs⟩ : Blk) ∈ M) (hn : l.length = n) (hc : n ≤ c) (hm : c ≤ maxLen) (ht : cs.take (n * e.n) = rows e l) : SLfe w0 M e (.slice (some ⟨b, 0, none⟩) n c) l := by
  subst hn
  exact ⟨_, c, rfl, hc, hm, .inr ⟨b, 0, T, cs, rfl, hB, h, by rw [List.drop_zero]; exact ht⟩⟩
theorem Slfe.nowf {w w' : World} (h : Slfe w.heap.size w' e v l) (hw : Sat w0 X M w) (he : Ext w w') : ∃ L, Sat w0 X (L ++ M) w' ∧ SLfe w0 L e v l := by
  have hw' := Sat.mono _ _ _ _ _ hw he
  obtain ⟨p, c, hv, hc, hm, h⟩ := h
  rcases h with h | ⟨b, off, T, cs, hp, hB, hh, ht⟩
  · exact ⟨[], hw', p, c, hv, hc, hm, .inl h⟩
  · have hb : b ∉ M.map Blk.b := fun hm => by
      obtain ⟨x, hx, rfl⟩ := List.mem_map.1 hm
      have := bz_? (hw.mem x hx); omega
    refine ⟨[⟨b, T, cs⟩], ⟨hw'.os, hw'.tape, hw'.output, hw'.size, hw'.old, by simpa using And.intro (by simpa using hb) hw'.nodup, fun y hy => ?_⟩, p, c, hv, hc, hm, .inr ⟨b, off, T, cs, hp, Nat.le_trans hw.size hB, by simp, ht⟩⟩
    rcases List.mem_cons.1 hy with rfl | hy
    · exact hh
    · exact hw'.mem y hy
def OwnG (w0 : World) (E : TypeId) (e : El α) (v : Value) (l : List α) (L : List Blk) : Prop :=
  (v = .slice none 0 0 ∧ l = [] ∧ L = []) ∨ ∃ g cap, ∃ cur : List Value, v = .slice (some ⟨g, 0, none⟩) l.length cap ∧ L = [⟨g, E, cur⟩] ∧ w0.heap.size ≤ g ∧ l.length ≤ cap ∧ cap ≤ maxLen ∧ cur.length = cap * e.n ∧ cur.take (l.length * e.n) = rows e l
theorem OwnG.nil {E : TypeId} : OwnG w0 E e (.slice none 0 0) [] [] := .inl ⟨rfl, rfl, rfl⟩
theorem OwnG.slfe {E : TypeId} {L : List Blk} (h : OwnG w0 E e v l L) (hs : L.Sublist M) : SLfe w0 M e v l := by
  rcases h with ⟨rfl, rfl, rfl⟩ | ⟨g, cap, cur, rfl, rfl, hg, hc, hm, hl, ht⟩
  · exact SLfe.nil
  · exact ⟨_, cap, rfl, hc, hm, .inr ⟨g, 0, E, cur, rfl, hg, hs.mem (by simp), by rw [List.drop_zero]; exact ht⟩⟩
theorem OwnG.of_mine {E : TypeId} {b n : Nat} {cs : List Value} (hb : w0.heap.size ≤ b) (hn : l.length = n) (hm : n ≤ maxLen) (ht : cs = rows e l) : OwnG w0 E e (.slice (some ⟨b, 0, none⟩) n n) l [⟨b, E, cs⟩] := by
  subst hn ht
  exact .inr ⟨b, l.length, rows e l, rfl, rfl, hb, Nat.le_refl _, hm, du_ l, List.take_of_length_le (by rw [du_]; exact Nat.le_refl _)⟩
/-- The elements' sizes: cells, bytes. -/
def tySz (P : Program) (E : TypeId) (n bytes : Nat) : Bool := match P.info? E with
  | some i => i.size == n && i.bytes == bytes && (match i.zero with | some z => z.cells.size == n | none => false)
  | none => false
theorem ny_ {T E : TypeId} {x y : Operand} {u : Value} {m : List α} {L M1 : List Blk} {bytes : Nat} {K : Value → List Blk → Prop} (hT : P.underlying T = some (.slice E)) (hE : tySz P E e.n bytes = true) (h0 : 0 < e.n) (hx : evO N S x = some v) (hy : evO N S y = some u)
    (hv : OwnG w0 E e v l L) (hu : SLe w0 X M e u m) (hs : (L ++ M1).Sublist M) (hn : (l.length + m.length) * bytes ≤ 140737488355328) (h8 : 0 < bytes) (k : ∀ v' L', OwnG w0 E e v' (l ++ m) L' → K v' (L' ++ M1)) :
    OpR P w0 X N ⟨d, .call { callee := .builtin .append, args := #[x, y], argTypes := #[T, T] }, ty, ps, af, gd⟩ S M K := by
  intro w hw
  unfold tySz at hE
  cases hi : P.info? E with
  | none => simp [hi] at hE
  | some i =>
  cases hz : i.zero with
  | none => simp [hi, hz] at hE
  | some z =>
  simp only [hi, hz, Bool.and_eq_true, beq_iff_eq] at hE
  obtain ⟨⟨h1, hby⟩, hzc⟩ := hE
  have hlen : l.length + m.length ≤ 140737488355328 := Nat.le_trans (Nat.le_mul_of_pos_right _ h8) hn
  have hw1 : Sat w0 X (L ++ M1) w := hw.sub hs
  have hown : w.ownsRow w0.heap.size E e.n v l.length (rows e l) := by
    refine ⟨du_ l, ?_⟩
    rcases hv with ⟨rfl, rfl, rfl⟩ | ⟨g, cap, cur, rfl, rfl, hg, hc, hm, hl, ht⟩
    · exact .inl ⟨rfl, rfl⟩
    · exact .inr ⟨g, cap, cur.toArray, rfl, hg, hw1.mem ⟨g, E, cur⟩ (by simp), hc, hm, by simp [hl], ht⟩
  have hrow : ∀ k, v.ownBlock = some k → k ∈ L.map Blk.b ∧ w0.heap.size ≤ k := by
    intro k hk
    rcases hv with ⟨rfl, rfl, rfl⟩ | ⟨g, cap, cur, rfl, rfl, hg, hc, hm, hl, ht⟩
    · cases hk
    · obtain rfl : g = k := by simpa [Value.ownBlock] using hk
      exact ⟨by simp, hg⟩
  have hrun : ∃ v' w', (Builtin.append_ #[T, T] ty #[v, u]).run P w = .ok v' w' ∧ w'.ownsRow w0.heap.size E e.n v' (l.length + m.length) (rows e l ++ rows e m) ∧ w.grownBy w' v.ownBlock ∧ (v'.ownBlock = v.ownBlock ∨ v'.ownBlock = some w.heap.size) := by
    obtain ⟨p, c, rfl, hc, hm', h⟩ := hu w hw
    rcases h with ⟨rfl, rfl, rfl⟩ | ⟨a, rfl, hr⟩
    · refine ⟨v, w, ?_, by simpa [rows] using hown, ⟨rfl, rfl, rfl, Nat.le_refl _, fun _ _ _ => rfl⟩, .inl rfl⟩
      rcases hv with ⟨rfl, rfl, rfl⟩ | ⟨g, cap, cur, rfl, rfl, hg, hc, hm, hl, ht⟩
      · simp [Builtin.append_, run_underlying hT, sizeOf, typeInfo, hi, Builtin.lenOf, Builtin.firstCells]
      · simp [Builtin.append_, run_underlying hT, sizeOf, typeInfo, hi, Builtin.lenOf, Builtin.firstCells, hc, storeCells]
    · obtain ⟨v', w', hr, ho, hg, _, hb⟩ := run_append_own_at (P := P) w w0.heap.size T ty E i z e.n bytes hT hi hz h1 hby hzc h0 v l.length (rows e l) hown a m.length c (rows e m) (du_ m) hr (fun u hu => hh_ (l6_ m u hu)) (by unfold maxLen; omega) hn hw.size
      exact ⟨v', w', hr, ho, hg, hb⟩
  obtain ⟨v', w', hr, ho, hg, hb⟩ := hrun
  unfold opw
  have hex : (execOp (ev N S) ⟨d, .call { callee := .builtin .append, args := #[x, y], argTypes := #[T, T] }, ty, ps, af, gd⟩).run P w = .ok (.value v') w' := by
    simp [execOp, resolve, invoke, builtin, aZ_ hx, aZ_ hy, hr]
  rw [dN_, hex]
  have hko : KeepsOthers w w' := KeepsOthers.of_grownBy hg fun j o hj ho => by
    obtain ⟨x, hx, hxb⟩ := List.mem_map.1 (hrow j hj).1
    have h9 := hw1.mem x (List.mem_append_left _ hx)
    rw [hxb, ho] at h9
    cases h9; rfl
  have hold : ∀ k, k < w0.heap.size → k ∉ X → w'.heap[k]? = w0.heap[k]? := fun k hk hx => by
    rw [hg.block k (Nat.lt_of_lt_of_le hk hw.size) (fun e => by have := (hrow k e.symm).2; omega)]; exact hw.old k hk hx
  have hM1 : ∀ y ∈ M1, w'.heap[y.b]? = some (.cells y.cs.toArray y.T (0, 0)) := fun y hy => by
    have hy' := hw1.mem y (List.mem_append_right _ hy)
    rw [hg.block y.b (bz_? hy') (fun e => ?_)]; exact hy'
    have h2 := hw1.nodup
    rw [List.map_append, List.nodup_append] at h2
    exact h2.2.2 _ (hrow _ e.symm).1 _ (List.mem_map_of_mem hy) rfl
  have hnd1 : (M1.map Blk.b).Nodup := by
    have h2 := hw1.nodup
    rw [List.map_append, List.nodup_append] at h2; exact h2.2.1
  rcases ho.2 with ⟨rfl, hz0⟩ | ⟨g, cap, cur, rfl, hbg, hcell, hnc, hcm, hcs, htk⟩
  · have e0 : l ++ m = [] := List.eq_nil_of_length_eq_zero (by rw [List.length_append]; exact hz0)
    refine ⟨hko, [] ++ M1, ⟨hg.os.trans hw.os, hg.tape.trans hw.tape, hg.output.trans hw.output, Nat.le_trans hw.size hg.size, hold, hnd1, hM1⟩, k _ [] (.inl ⟨rfl, e0, rfl⟩)⟩
  · have hgn : g ∉ M1.map Blk.b := by
      rcases hb with hb | hb
      · have h2 := hw1.nodup
        rw [List.map_append, List.nodup_append] at h2
        exact fun hm => h2.2.2 _ (hrow g hb.symm).1 _ hm rfl
      · have hgs : g = w.heap.size := by simpa [Value.ownBlock] using hb
        intro hm
        obtain ⟨y, hy, hyb⟩ := List.mem_map.1 hm
        have := bz_? (hw1.mem y (List.mem_append_right _ hy))
        omega
    refine ⟨hko, [⟨g, E, cur.toList⟩] ++ M1, ⟨hg.os.trans hw.os, hg.tape.trans hw.tape, hg.output.trans hw.output, Nat.le_trans hw.size hg.size, hold, by simpa using And.intro (by simpa using hgn) hnd1, fun y hy => ?_⟩,
      k _ _ (.inr ⟨g, cap, cur.toList, by rw [List.length_append], rfl, hbg, by rw [List.length_append]; exact hnc, hcm, by simpa using hcs, by rw [List.length_append, e9_]; exact htk⟩)⟩
    rcases List.mem_cons.1 hy with rfl | hy
    · simpa using hcell
    · exact hM1 y hy
end
end Go.Kn
namespace Go.Kn
def sm {σ ρ β : Type} (f : σ → β) (g : ρ → β) : σ ⊕ ρ → β
  | .inl s => f s
  | .inr r => g r
theorem sm_r {σ ρ β : Type} {f : σ → β} {g : ρ → β} {x : σ ⊕ ρ} {r : ρ} {v : β} (h : x = .inr r) (k : v = g r) : v = sm f g x := by rw [h]; exact k
def ap {σ β : Type} (f : σ → β) (x : σ) : β := f x
theorem h6_ {α : Type} {l r : List α} {i : Nat} {x : α} (h : l.drop i = x :: r) : l[i]? = some x ∧ i < l.length ∧ l.drop (i + 1) = r := by
  have h1 : i < l.length := by
    rcases Nat.lt_or_ge i l.length with h' | h'
    · exact h'
    · rw [List.drop_of_length_le h'] at h; cases h
  rw [List.drop_eq_getElem_cons h1] at h
  simp only [List.cons.injEq] at h
  exact ⟨by rw [List.getElem?_eq_getElem h1, h.1], h1, h.2⟩
theorem n2_ {α : Type} {l : List α} {i : Nat} (h : l.drop i = []) : l.length ≤ i := by simpa using h
theorem wi {n : Int} (h : -9223372036854775808 ≤ n ∧ n ≤ 9223372036854775807) : IntKind.i64.wrap n = n := by
  unfold IntKind.wrap
  simp [IntKind.bits, IntKind.signed]
  omega
end Go.Kn
namespace Go.Kn
theorem nxt {n i : Nat} (hi : i < n) (hm : n ≤ 9223372036854775807) : IntKind.i64.wrap ((i : Int) + 1) = ((i + 1 : Nat) : Int) := by rw [wi (by omega)]; omega
theorem nG_ {α : Type} {l : List α} {i : Nat} (h : l.drop i = []) : decide ((i : Int) < ((l.length : Nat) : Int)) = false := decide_eq_false (by have := n2_ h; omega)
theorem k9_ {α : Type} {l r : List α} {i : Nat} {x : α} (h : l.drop i = x :: r) : decide ((i : Int) < ((l.length : Nat) : Int)) = true := decide_eq_true (by have := (h6_ h).2.1; omega)
end Go.Kn
namespace Go.Kn
open Go.RowKit
def AllP (s : Nat) : Nat → List (Nat × Value) → List (List Part) → Prop
  | _, [], [] => True
  | i, (j, v) :: ps, q :: qs => j = i ∧ v.cells = (flat q).toArray ∧ psize q = s ∧ AllP s (i + 1) ps qs
  | _, _, _ => False
theorem jZ_ {s : Nat} : ∀ (parts : List (Nat × Value)) (qs : List (List Part)) (i : Nat) (pre post : List Value), AllP s i parts qs → pre.length = i * s → post.length = parts.length * s →
    FillR (fun i => some (i * s, s)) (pre ++ post) parts (pre ++ flat qs.flatten)
  | [], [], i, pre, post, _, _, hq => by
    have : post = [] := List.eq_nil_of_length_eq_zero (by simpa using hq)
    subst this; exact .nil _
  | (j, v) :: ps, q :: qs, i, pre, post, h, hp, hq => by
    obtain ⟨rfl, hv, hs, h⟩ := h
    have hl : (flat q).length = s := (eU_ _).trans hs
    have hq' : post.length = ps.length * s + s := by rw [hq, List.length_cons, Nat.succ_mul]
    have ih := jZ_ ps qs (j + 1) (pre ++ flat q) (post.drop s) h (by rw [List.length_append, hp, hl, Nat.succ_mul]) (by rw [List.length_drop]; omega)
    rw [List.flatten_cons, dY_, ← List.append_assoc]
    refine .cons rfl hv hl (by rw [List.length_append, hp]; omega) ?_ ih
    rw [← hp, List.take_left, ← List.drop_drop, List.drop_left]
  | [], _ :: _, _, _, _, h, _, _ => h.elim
  | _ :: _, [], _, _, _, h, _, _ => h.elim
section
variable {P : Program} {w0 : World} {X : List Nat} {N : Nm} {S : Fr} {M : List Blk} {d : Option Tmp} {ty : TypeId} {ps : String} {af : Array Edge} {gd : Option (Nat × Bool)}
theorem bi_ {T E : TypeId} {xs : List (Nat × Operand)} {parts : List (Nat × Value)} {n s : Nat} {z : List Value} {K : Value → List Blk → Prop} (qs : List (List Part)) (out : List Part) (hT : P.underlying T = some (.slice E)) (hz : dq_ P E = some z) (hs : (P.info? E).map (·.size) = some s)
    (hzl : z.length = s) (hn : n * s ≤ 16777216) (hx : evP N S xs = some parts) (hpl : parts.length = n) (h : AllP s 0 parts qs) (ho : qs.flatten = out) (k : ∀ b, w0.heap.size ≤ b → K (.slice (some ⟨b, 0, none⟩) n n) (⟨b, E, flat out⟩ :: M)) :
    OpR P w0 X N ⟨d, .buildSlice T n xs.toArray, ty, ps, af, gd⟩ S M K := by
  subst ho
  refine cv_ hT hz hs hzl hn hx ?_ k
  have := jZ_ parts qs 0 [] ((List.replicate n z).flatten) h (by simp) (by rw [hpl]; simp [hzl])
  simpa using this
end
end Go.Kn
namespace Go.Kn
/-- Ways meet behind x, and y goes on. -/
theorem ia_ {P : Program} {w0 : World} {X : List Nat} {N : Nm} {Q Q0 : Post} {S0 : Fr} {M0 : List Blk} {x y : Code} (hK : ∀ S M, W P w0 X N y Q0 S M → Q .normal S M) (mods : List Nat) (R : (Nat → Value) → List Blk → Prop)
    (hx : ∀ K : Fr → List Blk → Prop, (∀ S M, PutOn mods S0 S → (∃ M', M'.Sublist M ∧ R (look S) M') → K S M) → W P w0 X N x (thenK K Q) S0 M0)
    (hy : ∀ g M, R g M → W P w0 X N y Q0 (setG S0 g mods) M) : W P w0 X N x Q S0 M0 := by
  refine kO_ (hx (fun S M => PutOn mods S0 S ∧ ∃ M', M'.Sublist M ∧ R (look S) M') (fun S M h1 h2 => ⟨h1, h2⟩)) ?_
  intro e S M h
  cases e with
  | normal =>
    obtain ⟨hp, M', hs, hr⟩ := h
    exact hK S M (kh_ (gK_ hp) (W_sub hs (hy _ _ hr)))
  | exit id => exact h
  | goto l => exact h
  | ret => exact h
  | panic c => exact h
  | outgrown => exact h
end Go.Kn
namespace Go.Kn
end Go.Kn
namespace Go.Kn
theorem sm_q {σ ρ β : Type} {f : σ → β} {g : ρ → β} {x : σ ⊕ ρ} {r : ρ} {v : β} (k : v = g r) (h : x = .inr r) : v = sm f g x := sm_r h k
end Go.Kn
namespace Go.Kn
open Go.RowKit
def slk (k s : Nat) : Value → Value
  | .slice a len cap => .slice (if cap = k then a else a.map (·.add (k * s))) (len - k) (cap - k)
  | v => v
theorem Slr.drop {α : Type} {e : El α} {v : Value} {l : List α} {w : World} (h : Slr w e v l) {k : Nat} (hk : k ≤ l.length) : Slr w e (slk k e.n v) (l.drop k) := by
  obtain ⟨p, c, rfl, hc, hm, h⟩ := h
  refine ⟨_, c - k, by rw [List.length_drop]; rfl, by rw [List.length_drop]; omega, by unfold maxLen at *; omega, ?_⟩
  rcases h with ⟨h1, h2, h3⟩ | ⟨a, ha, hr⟩
  · subst h1 h2 h3
    obtain rfl : k = 0 := by simpa using hk
    exact .inl ⟨rfl, rfl, rfl⟩
  · subst ha
    by_cases hck : c = k
    · refine .inr ⟨a, by rw [if_pos hck], ?_⟩
      have : l.drop k = [] := List.drop_of_length_le (by omega)
      rw [this]; intro j v hj; cases hj
    · refine .inr ⟨a.add (k * e.n), by rw [if_neg hck]; rfl, ?_⟩
      have h2 := hr.sub (k * e.n) ((l.length - k) * e.n)
      rw [j1_, List.take_of_length_le (by rw [du_, List.length_drop]; exact Nat.le_refl _)] at h2
      exact h2
section
variable {α : Type} {e : El α} {P : Program} {w0 : World} {X : List Nat} {N : Nm} {S : Fr} {M : List Blk} {d : Option Tmp} {ty : TypeId} {ps : String} {af : Array Edge} {gd : Option (Nat × Bool)} {v : Value} {l : List α}
theorem SLe.drop (h : SLe w0 X M e v l) {k : Nat} (hk : k ≤ l.length) : SLe w0 X M e (slk k e.n v) (l.drop k) := fun w hw => (h w hw).drop hk
end
end Go.Kn
namespace Go.Kn
section
variable {α : Type} {e : El α} {w0 : World} {X : List Nat} {M : List Blk} {v : Value} {l : List α}
theorem hX_ : ∀ l : List α, flat (l.flatMap e.ps) = rows e l
  | [] => rfl
  | x :: l => by
    rw [List.flatMap_cons, dY_, hX_ l]; simp [rows, El.cs]
/-- A literal of ours, told in parts. -/
theorem SLe.lit {b n : Nat} {T : TypeId} {qs : List Part} (h : (⟨b, T, flat qs⟩ : Blk) ∈ M) (hn : l.length = n) (hm : n ≤ maxLen) (hq : qs = l.flatMap e.ps) : SLe w0 X M e (.slice (some ⟨b, 0, none⟩) n n) l :=
  SLe.mine h hn hm (by rw [hq]; exact hX_ l)
theorem SLe.ap {w : World} (hw : Sat w0 X M w) (h : SLe w0 X M e v l) : Slr w e v l := h w hw
end
end Go.Kn

set_option linter.unusedVariables false
set_option linter.unusedSimpArgs false
namespace Go.Kn
open Go.RowKit
section
variable {P : Program} {w0 : World} {X : List Nat} {S : Fr} {M : List Blk} {d : Option Tmp} {ty : TypeId} {p : String} {af : Array Edge} {gd : Option (Nat × Bool)}
theorem DG.lt {B : Nat} {w : World} : ∀ {D : List Deferred}, DG B D w → ∀ e ∈ D, ∃ b, e.target = .collected b ∧ b < w.heap.size
  | d :: D, ⟨⟨b, h1, _, h3, _⟩, h⟩, e, he => by
    rcases List.mem_cons.1 he with rfl | he
    · exact ⟨b, by rw [h1], bz_? h3⟩
    · exact DG.lt h e he
theorem DG.same {B : Nat} {w w' : World} : ∀ {D : List Deferred}, DG B D w → (∀ (k : Nat) (o : Option (List Deferred)), w.heap[k]? = some (.deferred o) → w'.heap[k]? = some (.deferred o)) → DG B D w'
  | [], _, _ => trivial
  | d :: D, ⟨⟨b, h1, h2, h3, h4⟩, h⟩, hk => ⟨⟨b, h1, h2, hk _ _ h3, h4⟩, DG.same h hk⟩
end
end Go.Kn

set_option linter.unusedVariables false
set_option linter.unusedSimpArgs false
namespace Go.Num
open Go Go.Kn
instance (n : Int) : Decidable (I64 n) := by unfold I64; infer_instance
/-- A Go int. -/
abbrev W := {n : Int // I64 n}
theorem fl_ (n : Int) : I64 (IntKind.i64.wrap n) := by rw [gX_]; unfold I64; split <;> omega
abbrev wl (n : Int) (h : I64 n := by decide) : W := ⟨n, h⟩
def W.add (a b : W) : W := ⟨IntKind.i64.wrap (a.1 + b.1), fl_ _⟩
def W.sub (a b : W) : W := ⟨IntKind.i64.wrap (a.1 - b.1), fl_ _⟩
def W.mul (a b : W) : W := ⟨IntKind.i64.wrap (a.1 * b.1), fl_ _⟩
def W.neg (a : W) : W := ⟨IntKind.i64.wrap (0 - a.1), fl_ _⟩
def W.quo (a b : W) : W := ⟨IntKind.i64.wrap (a.1.tdiv b.1), fl_ _⟩
theorem os_ {a b : Int} (ha : I64 a) : I64 (a.tmod b) := by
  have h : (a.tmod b).natAbs ≤ a.natAbs := by rw [Int.natAbs_tmod]; exact Nat.mod_le _ _
  by_cases h0 : a = -9223372036854775808
  · subst h0
    have h1 : Int.tmod (-9223372036854775808) b ≤ 0 := by rw [Int.neg_tmod]; have := Int.tmod_nonneg b (show (0 : Int) ≤ 9223372036854775808 by decide); omega
    unfold I64; omega
  · unfold I64 at *; omega
def W.rem (a b : W) : W := ⟨a.1.tmod b.1, os_ a.2⟩
deriving instance DecidableEq for R
/-- An api.Int. -/
abbrev I := {r : R // r.Ok}
def I.dec (x : I) : Z := x.1.dec
def E (z : Z) : I := ⟨z.enc, Z.enc_ok z⟩
def I0 : I := ⟨⟨false, false, List.replicate 16 0⟩, ⟨by simp, fc_ 16⟩⟩
theorem E_dec (z : Z) : (E z).dec = z := f7_ z
theorem E_inj {a b : Z} (h : E a = E b) : a = b := by rw [← E_dec a, ← E_dec b, h]
theorem cg1 {α : Type} (g : Z → α) {x : I} {a : Z} (h : x.dec = a) : g x.1.dec = g a := by subst h; rfl
theorem cg2 {α : Type} (g : Z → Z → α) {x y : I} {a b : Z} (h : x.dec = a) (k : y.dec = b) : g x.1.dec y.1.dec = g a b := by subst h k; rfl
instance : DecidableEq Z := fun a b => decidable_of_iff (a.o = b.o) ⟨fun h => Z.ext h, fun h => by rw [h]⟩
def pI (x : I) : Part := ⟨18, x.1.cells, aQ_ x.2, at_ _⟩
theorem mI_ {a b : R} (h : a.cells = b.cells) : a = b := by
  cases a; cases b
  simp only [R.cells, List.cons.injEq, Value.bool.injEq] at h
  obtain ⟨h1, h2, h3⟩ := h
  rw [h1, h2, jH_ h3]
theorem eq_pI {a b : I} : decide (a = b) = true ↔ (pI a).l = (pI b).l := by
  rw [decide_eq_true_iff]
  exact ⟨fun h => by rw [h], fun h => Subtype.ext (mI_ h)⟩
def LI : List Leaf := none :: none :: List.replicate 16 (some .u32)
theorem lv_pI {a : I} : bV_ (pI a).l LI = true := by
  show (g8_ _ none && (g8_ _ none && bV_ (uw a.1.w) (List.replicate 16 (some .u32)))) = true
  rw [dM_ a.2.len]; rfl
theorem oz_ (z : Z) : I64 z.sign := by
  unfold Z.sign; split
  · rename_i x _
    have h : x.sign = -1 ∨ x.sign = 0 ∨ x.sign = 1 := by
      rcases Int.lt_trichotomy x 0 with h | h | h
      · exact .inl (Int.sign_eq_neg_one_of_neg h)
      · subst h; exact .inr (.inl rfl)
      · exact .inr (.inr (Int.sign_eq_one_of_pos h))
    unfold I64; omega
  · decide
def Z.signW (z : Z) : W := ⟨z.sign, oz_ z⟩
theorem qS_ (a b : Z) : I64 (Z.cmp a b) := by
  unfold Z.cmp; split <;> try decide
  unfold cmpI; split
  · decide
  · split <;> decide
def Z.cmpW (a b : Z) : W := ⟨Z.cmp a b, qS_ a b⟩
theorem nQ_ (z : Z) : I64 z.small.1 := by
  unfold Z.small; split
  · split
    · rename_i h; unfold I64; exact h
    · decide
  · decide
def Z.smallW (z : Z) : W := ⟨z.small.1, nQ_ z⟩
theorem dx_ : dv [1] = 1 := rfl
theorem lt32 {a : R} (ha : a.Ok) : val a.w < 65536 ^ 32 := by rw [lp_]; exact ha.vlt
theorem dadd {n m k : Nat} (hn : n < 65536 ^ k) (hm : m < 65536 ^ k) : n + m < 65536 ^ (k + 1) := by rw [Nat.pow_succ]; omega
theorem dsub {n m k : Nat} (hn : n < 65536 ^ k) : n - m < 65536 ^ k := Nat.lt_of_le_of_lt (Nat.sub_le _ _) hn
theorem dmul {n m i k : Nat} (hn : n < 65536 ^ i) (hm : m < 65536 ^ k) : n * m < 65536 ^ (i + k) := by rw [Nat.pow_add]; exact Nat.mul_lt_mul_of_lt_of_lt hn hm
theorem ddiv {n m k : Nat} (hn : n < 65536 ^ k) : n / m < 65536 ^ k := Nat.lt_of_le_of_lt (Nat.div_le_self _ _) hn
theorem drem {n m k : Nat} (hn : n < 65536 ^ k) : n % m < 65536 ^ k := Nat.lt_of_le_of_lt (Nat.mod_le _ _) hn
theorem mm_ (a : R) : I64 (wordI a) := by
  by_cases h : wordB a = true
  · have h1 : wordI a = sgn a.neg (val a.w) := by unfold wordI; rw [if_pos h]
    unfold wordB at h
    rw [Bool.and_eq_true, decide_eq_true_iff] at h
    rw [h1]; unfold I64; cases a.neg <;> simp only [sgn_t, sgn_f] <;> omega
  · unfold wordI; rw [if_neg h]; decide
def wordW (a : I) : W := ⟨wordI a.1, mm_ a.1⟩
def W.fdiv (a b : W) : W := ⟨IntKind.i64.wrap (a.1.fdiv b.1), fl_ _⟩
theorem kV_ {a b : I} (h : (wordB a.1 && (wordB b.1 && ((wordW b).1 != 0))) = true) : (wordW a).1 ≠ -9223372036854775808 ∧ (wordW b).1 ≠ 0 ∧ (wordW a).1.fdiv (wordW b).1 = (W.fdiv (wordW a) (wordW b)).1 := by
  simp only [Bool.and_eq_true, bne_iff_ne] at h
  obtain ⟨h1, h2, h0⟩ := h
  have h3 := (dc_ a.2 h1).2.2.2
  refine ⟨fun hc => ?_, h0, (aN_ (oy_ h3 h0)).symm⟩
  have : wordI a.1 = -9223372036854775808 := hc
  omega
theorem hB_of {x y : Bool} {n : Nat} (h : (x || (y || ((((dl n).length : Nat) : Int) == 0))) = false) : 0 < n := by
  simp only [Bool.or_eq_false_iff, beq_eq_false_iff_ne] at h
  obtain ⟨_, _, h⟩ := h
  rcases Nat.eq_zero_or_pos n with rfl | hn
  · exact absurd (by rw [eo_]; rfl) h
  · exact hn
/-- Rows of three, of four; structs. -/
structure A3 (α : Type) where
  x : α
  y : α
  z : α
deriving DecidableEq
structure A4 (α : Type) where
  x : α
  y : α
  z : α
  t : α
deriving DecidableEq
structure Rt where
  n : I
  d : I
deriving DecidableEq
/-- skewbackref06.Direction -/
structure Dir where
  v : A3 W
  e : W
deriving DecidableEq
end Go.Num

set_option linter.unusedVariables false
set_option linter.unusedSimpArgs false
namespace Go.Kn
open Go
def pn_ (Q : Post) : Post
  | .goto _, _, _ => False
  | e, S, M => Q e S M
section
variable {P : Program} {w0 : World} {X : List Nat} {N : Nm} {Q : Post} {S : Fr} {M : List Blk} {c : Code}
theorem qu_ {l : Nat} (h : Q .normal S M) : W P w0 X N (.label l) Q S M := fun B D w hB hd hr hw => wpIn_label ⟨D, S, M, rfl, hw, .refl _ _, hd, hr, h⟩
theorem kn_ {b : Frame} {a : Act} {k : List Item} {cs : List Frame} {w : World} {c : Code} : step P (lone (b.atR a (.code (.scope c) :: k)) cs w) = .next (lone (b.atR a (.code c :: .inScope c :: k)) cs w) :=
  step_lone_go (by simp [stepG, stepG.exec, Frame.atR])
theorem jl_ {b : Frame} {a : Act} {k : List Item} {cs : List Frame} {w : World} {c : Code} : step P (lone (b.atR a (.inScope c :: k)) cs w) = .next (lone (b.atR a k) cs w) :=
  step_lone_go (by simp [stepG, stepG.exec, Frame.atR])
theorem gP_ {F : Fence} {n : Nat} {c : Code} {Q : Exit → Act → World → Prop} {a : Act} {w : World} (h : c.wpIn F n P (Exit.noGoto Q) a w) : (Code.scope c).wpIn F n P Q a w := by
  intro b k cs hro hb hr
  obtain ⟨e, a₁, w₁, hq, harr⟩ := h b (.inScope c :: k) cs hro hb hr
  have s1 : StepsIn (Machine.fenced P F) P (lone (b.atR a (.code (.scope c) :: k)) cs w) (lone (b.atR a (.code c :: .inScope c :: k)) cs w) := .one (fenced_calm hb hr rfl) kn_
  cases e with
  | normal => exact ⟨.normal, a₁, w₁, hq, StepsIn.trans s1 (StepsIn.trans harr (.one (fenced_calm hb hr rfl) jl_))⟩
  | exit id => exact ⟨.exit id, a₁, w₁, hq, .of_steps s1 ⟨fun k' hk => harr.1 k' (by simp [exitTo, hk]), fun hr' hk => harr.2 hr' (by simp [exitTo, hk])⟩⟩
  | goto l => exact hq.elim
  | ret => exact ⟨_, a₁, w₁, hq, .of_steps s1 harr⟩
  | panic ch => exact ⟨_, a₁, w₁, hq, .of_steps s1 harr⟩
  | outgrown => exact ⟨_, a₁, w₁, hq, .of_steps s1 harr⟩
theorem p1_ (h : W P w0 X N c (pn_ Q) S M) : W P w0 X N (.scope c) Q S M := by
  intro B D w hB hd hr hw
  refine gP_ (wpIn_mono (h B D w hB hd hr hw) ?_)
  rintro e a w' ⟨D', S', M', rfl, hs, hk, hd', hr', q⟩
  cases e with
  | normal => exact ⟨D', S', M', rfl, hs, hk, hd', hr', q⟩
  | exit id => exact ⟨D', S', M', rfl, hs, hk, hd', hr', q⟩
  | goto l => exact q.elim
  | ret => exact ⟨D', S', M', rfl, hs, hk, hd', hr', q⟩
  | panic c => exact ⟨D', S', M', rfl, hs, hk, hd', hr', q⟩
  | outgrown => exact ⟨D', S', M', rfl, hs, hk, hd', hr', q⟩
theorem gE_ (h : Q .ret S M) : pn_ Q .ret S M := h
end
end Go.Kn

set_option linter.unusedVariables false
set_option linter.unusedSimpArgs false
namespace Go.Num
open Go Go.Kn
theorem jg_ {a b : R} (ha : a.Ok) (hb : b.Ok) (ga : a.good = true) (gb : b.good = true) : Z.cmp a.dec b.dec = cmpI (sgn a.neg (val a.w)) (sgn b.neg (val b.w)) := by
  unfold Z.cmp; rw [aX_ ha ga, aX_ hb gb]
theorem mc_ {a : R} (ga : a.good = true) (h : a.neg = true) : 0 < val a.w := by
  unfold R.good R.valid R.zero at ga
  rw [h] at ga
  cases hb : a.bad
  · rw [hb] at ga
    refine Nat.pos_of_ne_zero fun h0 => ?_
    rw [h0] at ga; simp at ga
  · rw [hb] at ga; simp at ga
theorem pS_ {a b : R} (ha : a.Ok) (hb : b.Ok) (ga : a.good = true) (gb : b.good = true) (hn : a.neg ≠ b.neg) (h : a.neg = true) : (-1 : Int) = Z.cmp a.dec b.dec := by
  have hb2 : b.neg = false := by cases h2 : b.neg; rfl; rw [h, h2] at hn; exact absurd rfl hn
  have h0 := mc_ ga h
  rw [jg_ ha hb ga gb, h, hb2]; unfold cmpI sgn
  rw [if_pos (by simp only [if_true, Bool.false_eq_true, if_false]; omega)]
theorem pL_ {a b : R} (ha : a.Ok) (hb : b.Ok) (ga : a.good = true) (gb : b.good = true) (hn : a.neg ≠ b.neg) (h : a.neg = false) : (1 : Int) = Z.cmp a.dec b.dec := by
  have hb2 : b.neg = true := by cases h2 : b.neg; rw [h, h2] at hn; exact absurd rfl hn; rfl
  have h0 := mc_ gb hb2
  rw [jg_ ha hb ga gb, h, hb2]; unfold cmpI sgn
  rw [if_neg (by simp only [if_true, Bool.false_eq_true, if_false]; omega), if_neg (by simp only [if_true, Bool.false_eq_true, if_false]; omega)]
theorem pu_ {a b : R} (ha : a.Ok) (hb : b.Ok) (ga : a.good = true) (gb : b.good = true) (hn : a.neg = b.neg) (h : a.neg = true) : cmpI (val b.w) (val a.w) = Z.cmp a.dec b.dec := by
  rw [jg_ ha hb ga gb, ← hn, h]; unfold cmpI sgn
  simp only [if_true]
  split <;> split <;> (try split) <;> (try split) <;> omega
theorem pd_ {a b : R} (ha : a.Ok) (hb : b.Ok) (ga : a.good = true) (gb : b.good = true) (hn : a.neg = b.neg) (h : a.neg = false) : cmpI (val a.w) (val b.w) = Z.cmp a.dec b.dec := by
  rw [jg_ ha hb ga gb, ← hn, h]; unfold sgn
  simp only [Bool.false_eq_true, if_false]
end Go.Num

set_option linter.unusedVariables false
set_option linter.unusedSimpArgs false
namespace Go.Num
open Go Go.Kn
structure A2 (α : Type) where
  x : α
  y : α
/-- What the loop of the comparison yields: the rounds that are left, the sign, the two fractions. -/
def cf : Nat → W → I → I → I → I → W
  | 0, o, _, _, _, _ => o
  | k + 1, o, a, b, c, d =>
    bif ((Z.cmpW (Z.quo a.dec b.dec) (Z.quo c.dec d.dec)).1 != 0) then W.mul o (Z.cmpW (Z.quo a.dec b.dec) (Z.quo c.dec d.dec))
    else bif (((Z.signW (Z.rem a.dec b.dec)).1 == 0) || ((Z.signW (Z.rem c.dec d.dec)).1 == 0)) then W.mul o (W.sub (Z.signW (Z.rem a.dec b.dec)) (Z.signW (Z.rem c.dec d.dec)))
    else cf k (W.neg o) b (E (Z.rem a.dec b.dec)) d (E (Z.rem c.dec d.dec))
def cfN (b : I) : Nat := match b.dec.o with | some v => v.toNat | none => 0
/-- A denominator that is greater than 0, with at most n rounds to go. -/
def cfP (n : Nat) (b : I) : Prop := ∃ v : Int, b.dec.o = some v ∧ 0 < v ∧ v.toNat ≤ n
theorem jF_ {b : I} (h : 0 < (Z.signW b.dec).1) : cfP (cfN b) b := by
  have h : 0 < b.dec.sign := h
  unfold Z.sign at h
  cases ho : b.dec.o with
  | none => rw [ho] at h; exact absurd h (by decide)
  | some v => rw [ho] at h; exact ⟨v, ho, Int.sign_pos_iff.1 h, by unfold cfN; rw [ho]; exact Nat.le_refl _⟩
theorem kG_ {n : Nat} {b : I} (h : cfP n b) : ∃ m, n = m + 1 := by
  obtain ⟨v, _, h1, h2⟩ := h
  exact ⟨n - 1, by omega⟩
theorem cf_c {k : Nat} {o r : W} {a b c d : I} (h : cf (k + 1) o a b c d = r) (h1 : ((Z.cmpW (Z.quo a.dec b.dec) (Z.quo c.dec d.dec)).1 != 0) = true) : W.mul o (Z.cmpW (Z.quo a.dec b.dec) (Z.quo c.dec d.dec)) = r := by
  rw [cf, h1] at h; exact h
theorem cf_s {k : Nat} {o r : W} {a b c d : I} (h : cf (k + 1) o a b c d = r) (h1 : ((Z.cmpW (Z.quo a.dec b.dec) (Z.quo c.dec d.dec)).1 != 0) = false)
    (h2 : (((Z.signW (Z.rem a.dec b.dec)).1 == 0) || ((Z.signW (Z.rem c.dec d.dec)).1 == 0)) = true) : W.mul o (W.sub (Z.signW (Z.rem a.dec b.dec)) (Z.signW (Z.rem c.dec d.dec))) = r := by
  rw [cf, h1, h2] at h; exact h
theorem cf_n {k : Nat} {o r : W} {a b c d : I} (h : cf (k + 1) o a b c d = r ∧ cfP (k + 1) b) (h1 : ((Z.cmpW (Z.quo a.dec b.dec) (Z.quo c.dec d.dec)).1 != 0) = false)
    (h2 : (((Z.signW (Z.rem a.dec b.dec)).1 == 0) || ((Z.signW (Z.rem c.dec d.dec)).1 == 0)) = false) : cf k (W.neg o) b (E (Z.rem a.dec b.dec)) d (E (Z.rem c.dec d.dec)) = r ∧ cfP k (E (Z.rem a.dec b.dec)) := by
  obtain ⟨h, v, hv, h0, hk⟩ := h
  rw [cf, h1, h2] at h
  refine ⟨h, ?_⟩
  rw [Bool.or_eq_false_iff] at h2
  have h3 : (Z.rem a.dec b.dec).sign ≠ 0 := fun h => by have := h2.1; rw [show (Z.signW (Z.rem a.dec b.dec)).1 = (Z.rem a.dec b.dec).sign from rfl, h] at this; exact absurd this (by decide)
  cases ha : a.dec.o with
  | none => rw [Z.rem, c9_ (.inl ha)] at h3; exact absurd rfl h3
  | some u =>
    have hr : Z.rem a.dec b.dec = Z.of (u.fmod v) := by rw [Z.rem, a4_ ha hv, if_neg (by omega)]
    have h4 : 0 ≤ u.fmod v := Int.fmod_nonneg_of_pos _ h0
    have h5 : u.fmod v < v := Int.fmod_lt_of_pos _ h0
    have h6 : (u.fmod v).natAbs < 4294967296 ^ 16 := Nat.lt_of_le_of_lt (by omega) (b.dec.h v hv)
    refine ⟨u.fmod v, ?_, ?_, by omega⟩
    · rw [E_dec, hr, Z.of_some h6]
    · have h8 : u.fmod v ≠ 0 := fun h7 => h3 (by rw [hr, h7]; rfl)
      omega
end Go.Num

set_option linter.unusedVariables false
set_option linter.unusedSimpArgs false
namespace Go.Num
open Go Go.Kn
structure A9 (α : Type) where
  x0 : α
  x1 : α
  x2 : α
  x3 : α
  x4 : α
  x5 : α
  x6 : α
  x7 : α
  x8 : α
deriving DecidableEq
/-- An interval. -/
structure Iv where
  lo : Rt
  hi : Rt
deriving DecidableEq
def W.max (a b : W) : W := bif decide (a.1 < b.1) then b else a
def W.min (a b : W) : W := bif decide (b.1 < a.1) then b else a
def elW : El W := ⟨1, fun x => [ci .i64 x.1], fun _ => rfl⟩
def elI : El I := ⟨18, fun x => [pI x], fun _ => rfl⟩
def elRt : El Rt := ⟨36, fun x => [pI x.n, pI x.d], fun _ => rfl⟩
def elV : El (A3 W) := ⟨3, fun x => [ci .i64 x.x.1, ci .i64 x.y.1, ci .i64 x.z.1], fun _ => rfl⟩
def elVr : El (A3 Rt) := ⟨108, fun a => [pI a.x.n, pI a.x.d, pI a.y.n, pI a.y.d, pI a.z.n, pI a.z.d], fun _ => rfl⟩
end Go.Num
namespace Go.Num
end Go.Num
namespace Go.Num
end Go.Num
namespace Go.Num
open Go Go.Kn
def W.z : W := ⟨0, by decide⟩
theorem bo_ {α : Type} {l : List α} {i : Nat} (d : α) (h : i < l.length) : l[i]? = some (l.getD i d) := by simp [h]
theorem qV_ {n b e : Nat} (h : n < (2 ^ b) ^ e) : bl n ≤ b * e := fG_ (by rw [Nat.pow_mul]; exact h)
theorem Z.bits_le (z : Z) : z.bits ≤ 512 := by
  unfold Z.bits
  split
  · rename_i x hx
    have := z.h x hx
    exact qV_ (b := 32) (e := 16) this
  · omega
def Z.bitsW (z : Z) : W := ⟨(z.bits : Nat), by have := Z.bits_le z; unfold I64; omega⟩
/-- 2^k, k from 0 on. -/
def W.shl (a b : W) : W := ⟨IntKind.i64.wrap (a.1 * 2 ^ (Min.min b.1.toNat 64)), fl_ _⟩
/-- exact sums -/
theorem wx {n m : Int} (h : n = m) (h1 : -9223372036854775808 ≤ m) (h2 : m ≤ 9223372036854775807) : IntKind.i64.wrap n = m := by subst h; exact wi ⟨h1, h2⟩
end Go.Num
namespace Go.Num
end Go.Num
namespace Go.Num
open Go
def W.cv (n : Int) : W := ⟨IntKind.i64.wrap n, fl_ n⟩
end Go.Num
namespace Go.Num
end Go.Num
namespace Go.Num
open Go Go.Kn
end Go.Num
namespace Go.Num
end Go.Num
namespace Go.Num
open Go Go.Kn
def Rt0 : Rt := ⟨I0, I0⟩
def V0 : A3 Rt := ⟨Rt0, Rt0, Rt0⟩
/-- An interval, or nothing. -/
structure Met where
  a : Iv
  is : Bool
deriving DecidableEq
/-- times 2^k, k from 0 on -/
def Z.shl (z : Z) (k : Int) : Z := lift1 (fun v => Z.of (v * 2 ^ k.toNat)) z
end Go.Num

set_option linter.unusedVariables false
set_option linter.unusedSimpArgs false
namespace Go.Num
open Go Go.Kn
theorem shq (k : Nat) (hk : 0 < k) {m : Nat} (h : (m : Int) ≤ 9223372036854775807) : IntKind.i64.wrap ((m : Int).tdiv (k : Int)) = ((m / k : Nat) : Int) := by
  rw [Int.tdiv_eq_ediv_of_nonneg (Int.natCast_nonneg m), ← Int.natCast_ediv]
  have h1 : m / k ≤ m := Nat.div_le_self _ _
  generalize m / k = q at *
  exact wi ⟨by omega, by omega⟩
theorem shr (k : Nat) (m : Nat) : (m : Int).tmod (k : Int) = ((m % k : Nat) : Int) := by
  rw [Int.tmod_eq_emod_of_nonneg (Int.natCast_nonneg m), ← Int.natCast_emod]
/-- k limbs up -/
def shw (a : List Nat) (k : Nat) : List Nat := List.replicate k 0 ++ a.take (16 - k)
theorem hl_ {a : List Nat} {k : Nat} (h : a.length = 16) (hk : k ≤ 16) : (shw a k).length = 16 := by simp [shw, h]; omega
theorem mr_ {a : List Nat} {k : Nat} (h : Lim a) : Lim (shw a k) := by
  intro x hx
  rcases List.mem_append.1 hx with hx | hx
  · rw [(List.mem_replicate.1 hx).2]; decide
  · exact h x (List.mem_of_mem_take hx)
theorem qI_ {a : R} (h : a.Ok) {k : Nat} (hk : k ≤ 15) : ((uw (List.replicate 16 0)).take k ++ (a.cells.drop 2).take (16 - k)) ++ (uw (List.replicate 16 0)).drop (k + (16 - k)) = uw (shw a.w k) := by
  have e : k + (16 - k) = 16 := by omega
  rw [e]
  have e1 : a.cells.drop 2 = uw a.w := rfl
  rw [e1]
  unfold uw shw
  rw [List.map_append, ← List.map_take, ← List.map_take, ← List.map_drop, List.take_replicate, List.drop_replicate]
  simp only [Nat.sub_self, List.replicate_zero, List.map_nil, List.append_nil]
  rw [Nat.min_eq_left (by omega)]
theorem ks_ {a : List Nat} {n : Nat} (ha : Lim a) (hn : n ≤ a.length) (h : val a < 4294967296 ^ n) : val (a.take n) = val a := by
  have h1 := ez_ (a.take n) (a.drop n)
  rw [List.take_append_drop, List.length_take, Nat.min_eq_left hn] at h1
  rcases Nat.eq_zero_or_pos (val (a.drop n)) with h0 | h0
  · rw [h0] at h1; omega
  · have : 4294967296 ^ n ≤ 4294967296 ^ n * val (a.drop n) := Nat.le_mul_of_pos_right _ h0
    omega
theorem hV_ : (4294967296 : Nat) ^ 16 = 2 ^ 512 := by decide +kernel
theorem p4_ {a : List Nat} {m : Nat} (hl : a.length = 16) (ha : Lim a) (h : val a * 2 ^ m < 4294967296 ^ 16) (hm : m < 512) : val (shw a (m / 32)) * 2 ^ (m % 32) = val a * 2 ^ m := by
  have e : (2 : Nat) ^ m = 4294967296 ^ (m / 32) * 2 ^ (m % 32) := by
    rw [show (4294967296 : Nat) = 2 ^ 32 from rfl, ← Nat.pow_mul, ← Nat.pow_add]; congr 1; omega
  have hk : m / 32 ≤ 15 := by omega
  have h1 : val a < 4294967296 ^ (16 - m / 32) := by
    have h2 : val a * 4294967296 ^ (m / 32) ≤ val a * 2 ^ m := by rw [e]; exact Nat.mul_le_mul_left _ (Nat.le_mul_of_pos_right _ (Nat.pow_pos (by decide)))
    have h3 : (4294967296 : Nat) ^ 16 = 4294967296 ^ (16 - m / 32) * 4294967296 ^ (m / 32) := by rw [← Nat.pow_add]; congr 1; omega
    rw [h3] at h
    exact Nat.lt_of_mul_lt_mul_right (Nat.lt_of_le_of_lt h2 h)
  unfold shw
  rw [ez_, dZ_, List.length_replicate, ks_ ha (by omega) h1, e, Nat.zero_add]
  rw [Nat.mul_comm (4294967296 ^ (m / 32)), Nat.mul_assoc]
theorem oq_ (b : Bool) (n k : Nat) : sgn b n * (k : Int) = sgn b (n * k) := by
  cases b <;> simp [sgn, Int.neg_mul]
theorem ku_ {a : R} (ha : a.Ok) (ga : a.good = true) (m : Nat) : Z.shl a.dec (m : Int) = Z.of (sgn a.neg (val a.w * 2 ^ m)) := by
  unfold Z.shl
  rw [cx_ (aX_ ha ga), ← oq_]
  simp
theorem hQ_ {a : R} (ha : a.Ok) (ga : a.good = true) : a.dec.bits = bl (val a.w) := by
  unfold Z.bits
  rw [aX_ ha ga]
  simp only
  congr 1
  cases a.neg <;> simp [sgn]
theorem sh_lt {v m : Nat} (h : bl v + m ≤ 512) : v * 2 ^ m < 4294967296 ^ 16 := by
  rw [hV_]
  calc v * 2 ^ m < 2 ^ bl v * 2 ^ m := Nat.mul_lt_mul_of_pos_right (bl_lt v) (Nat.pow_pos (by decide))
    _ = 2 ^ (bl v + m) := (Nat.pow_add _ _ _).symm
    _ ≤ 2 ^ 512 := Nat.pow_le_pow_right (by decide) h
theorem pO_ {a : R} (ha : a.Ok) (ga : a.good = true) {m : Nat} (h : a.dec.bits + m ≤ 512) (hm : m < 512) :
    R.mk false (a.neg && !(val (toL 16 (val (shw a.w (m / 32)) * 2 ^ (m % 32))) == 0)) (toL 16 (val (shw a.w (m / 32)) * 2 ^ (m % 32))) = (Z.shl a.dec (m : Int)).enc := by
  rw [hQ_ ha ga] at h
  have h1 := sh_lt h
  rw [p4_ ha.len ha.lim h1 hm, ku_ ha ga]
  exact dD_ a.neg h1
theorem oX_ {a : R} (ha : a.Ok) (ga : a.good = true) (hs : a.dec.sign ≠ 0) {m : Nat} (h : 512 < a.dec.bits + m ∨ 512 ≤ m) : Z.bad.enc = (Z.shl a.dec (m : Int)).enc := by
  rw [hQ_ ha ga] at h
  have hp := gt_ ha ga hs
  rw [ku_ ha ga, Z.of_big]
  have hn : (sgn a.neg (val a.w * 2 ^ m)).natAbs = val a.w * 2 ^ m := by
    generalize val a.w * 2 ^ m = q
    cases a.neg <;> simp [sgn]
  rw [hn, hV_]
  rw [Nat.not_lt]
  have hb := bl_le (n := val a.w) (by omega)
  have hb1 : 1 ≤ bl (val a.w) := by
    rcases Nat.eq_zero_or_pos (bl (val a.w)) with h0 | h0
    · have := bl_lt (val a.w); rw [h0] at this; omega
    · exact h0
  calc 2 ^ 512 ≤ 2 ^ (bl (val a.w) - 1 + m) := Nat.pow_le_pow_right (by decide) (by omega)
    _ = 2 ^ (bl (val a.w) - 1) * 2 ^ m := Nat.pow_add _ _ _
    _ ≤ val a.w * 2 ^ m := Nat.mul_le_mul_right _ hb
theorem qB_ {a : R} (ha : a.Ok) (ga : a.good = true) (hs : a.dec.sign = 0) (m : Nat) : a = (Z.shl a.dec (m : Int)).enc := by
  have hv : val a.w = 0 := by
    rcases Nat.eq_zero_or_pos (val a.w) with h | h
    · exact h
    · exfalso
      unfold Z.sign at hs
      rw [aX_ ha ga] at hs
      simp only at hs
      have := Int.sign_eq_zero_iff_zero.1 hs
      revert this
      cases a.neg <;> simp [sgn] <;> omega
  have h2 : Z.shl a.dec (m : Int) = a.dec := by
    rw [ku_ ha ga, hv, Nat.zero_mul]
    unfold R.dec
    rw [if_pos ga, hv]
  rw [h2]; exact (ja_ ha ga).symm
end Go.Num
namespace Go.Num
open Go Go.Kn
theorem lj_ {a : R} (h : a.Ok) {k : Nat} (hk : k ≤ 15) : (uw (List.replicate 16 0)).take (0 + ((k : Nat) : Int).toNat * 1) ++ (a.cells.drop (0 + 2 + (0 : Int).toNat * 1)).take (min (((16 : Nat) : Int).toNat - (0 : Int).toNat) (((16 : Nat) : Int).toNat - ((k : Nat) : Int).toNat) * 1) ++ (uw (List.replicate 16 0)).drop (0 + ((k : Nat) : Int).toNat * 1 + min (((16 : Nat) : Int).toNat - (0 : Int).toNat) (((16 : Nat) : Int).toNat - ((k : Nat) : Int).toNat) * 1) = uw (shw a.w k) := by
  have := qI_ h hk
  have e1 : min (((16 : Nat) : Int).toNat - (0 : Int).toNat) (((16 : Nat) : Int).toNat - ((k : Nat) : Int).toNat) * 1 = 16 - k := by
    have : ((16 : Nat) : Int).toNat = 16 := rfl
    have : (0 : Int).toNat = 0 := rfl
    omega
  have e2 : 0 + ((k : Nat) : Int).toNat * 1 = k := by omega
  have e3 : 0 + 2 + (0 : Int).toNat * 1 = 2 := rfl
  rw [e1, e2, e3]; exact this
end Go.Num
namespace Go.Num
open Go Go.Kn
end Go.Num
namespace Go.Num
open Go Go.Kn
end Go.Num
namespace Go.Num
theorem or3_b {a b c : Bool} (h : (a || (b || c)) = false) : b = false := (Bool.or_eq_false_iff.1 (Bool.or_eq_false_iff.1 h).2).1
end Go.Num

set_option linter.unusedVariables false
set_option linter.unusedSimpArgs false
namespace Go.Kn
open Go.RowKit
/-- What a plain operation dQ_; none where it is no plain one. -/
def evalP (N : Nm) (S : Fr) : Op → Option Value
  | .move x => evO N S x
  | .assign x => evO N S x
  | .pick c a b => match evO N S c with
    | some (.bool t) => bif t then evO N S a else evO N S b
    | _ => none
  | .nilCheck x => match evO N S x with
    | some (.pointer (some a)) => some (.pointer (some a))
    | _ => none
  | .extract x i => match evO N S x with
    | some (.tuple vs) => vs[i]?
    | _ => none
  | .unOp u _ x => match u, evO N S x with
    | .not, some (.bool a) => some (.bool (!a))
    | .neg, some (.int k a) => some (.int k (k.wrap (0 - a)))
    | _, _ => none
  | .binOp b _ x y _ => match evO N S x with
    | some (.int k a) => match evO N S y with
      | some (.int k' c) => if k = k' then (match b with
          | .add => some (.int k (k.wrap (a + c)))
          | .sub => some (.int k (k.wrap (a - c)))
          | .mul => some (.int k (k.wrap (a * c)))
          | .eql => some (.bool (a == c))
          | .neq => some (.bool (a != c))
          | .lss => some (.bool (decide (a < c)))
          | .leq => some (.bool (decide (a ≤ c)))
          | .gtr => some (.bool (decide (c < a)))
          | .geq => some (.bool (decide (c ≤ a)))
          | _ => none) else none
      | _ => none
    | _ => none
  | _ => none
/-- An operation of a region: undef, if it is not wanted. -/
def evalO (N : Nm) (ops : List Oper) (S : Fr) (o : Oper) : Option Value := bif okD o.dst then (bif Region.wanted o (yld N ops S) then evalP N S o.op else some undef) else none
section
variable {P : Program} {w0 : World} {X : List Nat} {N : Nm} {S : Fr} {M : List Blk}
theorem om_ {o : Oper} {v : Value} (h : evalP N S o.op = some v) : OpQ P w0 X N o S M v := by
  obtain ⟨d, op, ty, ps, af, gd⟩ := o
  dsimp only at h
  cases op <;> simp only [evalP] at h <;> try (cases h; done)
  case move x => exact c5_ h
  case assign x => exact oR_ h
  case pick c a b =>
    split at h
    · rename_i t hc
      refine rC_ hc ?_
      cases t <;> simpa using h
    · cases h
  case nilCheck x =>
    split at h
    · rename_i a hx; cases h; exact q_nil hx
    · cases h
  case extract x i =>
    split at h
    · rename_i vs hx; exact ms_ hx h
    · cases h
  case unOp u T x =>
    split at h
    · rename_i a hx; cases h; exact q_not hx
    · rename_i k a hx; cases h; exact q_neg hx
    · cases h
  case binOp b T x y yT =>
    split at h
    · rename_i k a hx
      split at h
      · rename_i k' c hy
        split at h
        · rename_i hk
          subst hk
          cases b <;> simp only at h <;> first | (cases h; done) | (cases h; first | exact q_add hx hy | exact q_sub hx hy | exact q_mul hx hy | exact q_eql hx hy | exact q_neq hx hy | exact q_lss hx hy | exact q_leq hx hy | exact q_gtr hx hy | exact q_geq hx hy)
        · cases h
      · cases h
    · cases h
theorem g4_ {ops : List Oper} {o : Oper} {v : Value} (h : evalO N ops S o = some v) :
    okD o.dst = true ∧ ((Region.wanted o (yld N ops S) = true ∧ OpQ P w0 X N o S M v) ∨ (Region.wanted o (yld N ops S) = false ∧ v = undef)) := by
  unfold evalO at h
  cases hk : okD o.dst
  · rw [hk] at h; cases h
  refine ⟨rfl, ?_⟩
  rw [hk] at h
  cases hw : Region.wanted o (yld N ops S)
  · rw [hw] at h; cases h; exact .inr ⟨rfl, rfl⟩
  · rw [hw] at h; exact .inl ⟨rfl, om_ h⟩
theorem oI_ {ops : List Oper} {o : Oper} (h1 : okD o.dst = true) (h2 : Region.wanted o (yld N ops S) = true) : wantD N ops S o = true := by unfold wantD; rw [h1, h2]; rfl
theorem oF_ {ops : List Oper} {o : Oper} (h1 : okD o.dst = true) (h2 : Region.wanted o (yld N ops S) = false) : wantN N ops S o = false := by unfold wantN; rw [h1, h2]; rfl
variable {ops : List Oper} {Q : Fr → List Blk → Prop} {o : Oper} {l : List Oper} {v v' : Value} {d : Tmp} {b c : Bool} {nw : List Nat} {MD : List Blk} {i : Nat} {ws : List Nat} {r : Plan}
def evalD (N : Nm) (ops : List Oper) (S : Fr) (o : Oper) : Option (Tmp × Value) := match o.dst with
  | some d => match evalO N ops S o with
    | some v => some (d, v)
    | none => none
  | none => none
def evalI (N : Nm) (ops : List Oper) (S : Fr) (i : Nat) : Option (Tmp × Value) := match ops[i]? with
  | some o => evalD N ops S o
  | none => none
theorem kP_ (h : evalD N ops S o = some (d, v)) : o.dst = some d ∧ evalO N ops S o = some v := by
  unfold evalD at h
  split at h
  · rename_i e he
    split at h
    · rename_i u hu; cases h; exact ⟨he, hu⟩
    · cases h
  · cases h
theorem lJ_ (h : evalI N ops S i = some (d, v)) : ∃ o, ops[i]? = some o ∧ o.dst = some d ∧ evalO N ops S o = some v := by
  unfold evalI at h
  split at h
  · rename_i o ho; exact ⟨o, ho, kP_ h⟩
  · cases h
/-- A wanted operation: its slot. -/
def wD (N : Nm) (ops : List Oper) (S : Fr) (o : Oper) : Option Tmp := bif wantD N ops S o then o.dst else none
def wI (N : Nm) (ops : List Oper) (S : Fr) (i : Nat) : Option (Tmp × Oper) := match ops[i]? with
  | some o => match wD N ops S o with
    | some d => some (d, o)
    | none => none
  | none => none
theorem wD_ok (h : wD N ops S o = some d) : wantD N ops S o = true ∧ o.dst = some d := by
  unfold wD at h
  cases hw : wantD N ops S o
  · rw [hw] at h; cases h
  · rw [hw] at h; exact ⟨rfl, h⟩
theorem wI_ok (h : wI N ops S i = some (d, o)) : ops[i]? = some o ∧ wantD N ops S o = true ∧ o.dst = some d := by
  unfold wI at h
  split at h
  · rename_i o' ho
    split at h
    · rename_i d' hd; cases h; exact ⟨ho, wD_ok hd⟩
    · cases h
  · cases h
theorem sE (h : evalD N ops S o = some (d, v)) (k : WL P w0 X N ops Q l ((d, v) :: S) M) : WL P w0 X N ops Q (o :: l) S M := by
  obtain ⟨hd, h⟩ := kP_ h
  have k' : WL P w0 X N ops Q l (putS S o.dst v) M := by rw [hd]; exact k
  obtain ⟨h1, h2⟩ := g4_ (P := P) (w0 := w0) (X := X) (M := M) h
  rcases h2 with ⟨hg, hq⟩ | ⟨hg, rfl⟩
  · exact WL_q (oI_ h1 hg) hq k'
  · exact WL_n (oF_ h1 hg) k'
theorem sV (v : Value) (h : evalD N ops S o = some (d, v')) (hv : v' = v) (k : WL P w0 X N ops Q l ((d, v) :: S) M) : WL P w0 X N ops Q (o :: l) S M := sE (hv ▸ h) k
theorem sB (hb : b = c) (h : evalD N ops S o = some (d, .bool b)) (k : WL P w0 X N ops Q l ((d, .bool c) :: S) M) : WL P w0 X N ops Q (o :: l) S M := sE (hb ▸ h) k
theorem pE (h : evalI N ops S i = some (d, v)) (k : PL P w0 X N ops nw MD Q r ((d, v) :: S) M) : PL P w0 X N ops nw MD Q (.quiet i ws r) S M := by
  obtain ⟨o, ho, hd, h⟩ := lJ_ h
  exact ⟨o, v, ho, (g4_ (P := P) (w0 := w0) (X := X) (M := M) h).1, (g4_ h).2, by rw [hd]; exact k⟩
theorem pV (v : Value) (h : evalI N ops S i = some (d, v')) (hv : v' = v) (k : PL P w0 X N ops nw MD Q r ((d, v) :: S) M) : PL P w0 X N ops nw MD Q (.quiet i ws r) S M := pE (hv ▸ h) k
theorem pB (hb : b = c) (h : evalI N ops S i = some (d, .bool b)) (k : PL P w0 X N ops nw MD Q r ((d, .bool c) :: S) M) : PL P w0 X N ops nw MD Q (.quiet i ws r) S M := pE (hb ▸ h) k
theorem tE (h : evalI N ops S i = some (d, v)) (k : PL P w0 X N ops nw MD Q r ((d, v) :: S) M) : PL P w0 X N ops nw MD Q (.still i ws r) S M := by
  obtain ⟨o, ho, hd, h⟩ := lJ_ h
  exact ⟨o, v, ho, (g4_ (P := P) (w0 := w0) (X := X) (M := M) h).1, (g4_ h).2, by rw [hd]; exact k⟩
/-- An operation whose law is told. -/
theorem sQ (h : OpQ P w0 X N o S M v) (hd : wD N ops S o = some d) (k : WL P w0 X N ops Q l ((d, v) :: S) M) : WL P w0 X N ops Q (o :: l) S M := WL_q (wD_ok hd).1 h (by rw [(wD_ok hd).2]; exact k)
theorem pQ (hd : wI N ops S i = some (d, o)) (h : OpQ P w0 X N o S M v) (k : PL P w0 X N ops nw MD Q r ((d, v) :: S) M) : PL P w0 X N ops nw MD Q (.quiet i ws r) S M :=
  PL_q (wI_ok hd).1 (wI_ok hd).2.1 h (by rw [(wI_ok hd).2.2]; exact k)
section
variable {g : FuncId} {xs : List Operand} {tys : Array TypeId} {args : List Value} {ty : TypeId} {ps : String} {af : Array Edge} {gd : Option (Nat × Bool)}
theorem sC (v : Value) (he : au_ P g = true) (h : Ret P g args v')
    (hg : wD N ops S (⟨some d, .call { callee := .value (.func g), args := xs.toArray, argTypes := tys }, ty, ps, af, gd⟩ : Oper) = some d) (ha : evL N S xs = some args) (hv : v' = v) (k : WL P w0 X N ops Q l ((d, v) :: S) M) :
    WL P w0 X N ops Q (⟨some d, .call { callee := .value (.func g), args := xs.toArray, argTypes := tys }, ty, ps, af, gd⟩ :: l) S M := WL_q (wD_ok hg).1 (q_as (q_ret he h ha) hv) k
theorem pC (v : Value) (he : au_ P g = true) (h : Ret P g args v')
    (ho : wI N ops S i = some (d, ⟨some d, .call { callee := .value (.func g), args := xs.toArray, argTypes := tys }, ty, ps, af, gd⟩)) (ha : evL N S xs = some args) (hv : v' = v) (k : PL P w0 X N ops nw MD Q r ((d, v) :: S) M) :
    PL P w0 X N ops nw MD Q (.quiet i ws r) S M := PL_q (wI_ok ho).1 (wI_ok ho).2.1 (q_as (q_ret he h ha) hv) k
theorem sN {T : TypeId} {qs : List Part} (hT : dq_ P T = some (flat qs)) (hg : wD N ops S (⟨some d, .alloc T, ty, ps, af, gd⟩ : Oper) = some d)
    (k : ∀ b, w0.heap.size ≤ b → WL P w0 X N ops Q l ((d, .pointer (some ⟨b, 0, none⟩)) :: S) (⟨b, T, flat qs⟩ :: M)) : WL P w0 X N ops Q (⟨some d, .alloc T, ty, ps, af, gd⟩ :: l) S M := WL_r (wD_ok hg).1 (bk_ hT k)
theorem sS {T U : TypeId} {x y : Operand} {g : Bool} {n b off : Nat} {cs cs' : List Part} {M' : List Blk} (qs : List Part) (hT : tyOf P T = some (g, n)) (hg : wantD N ops S (⟨none, .store T x y, ty, ps, af, gd⟩ : Oper) = true)
    (hx : evO N S x = some (.pointer (some ⟨b, off, none⟩))) (hv : evO N S y = some v) (hc' : v.cells = (flat qs).toArray) (hn : psize qs = n) (hu : Upd b U (flat cs) (flat cs') M M') (hc : setP cs off n qs = some cs') (hb : w0.heap.size ≤ b)
    (k : WL P w0 X N ops Q l S M') : WL P w0 X N ops Q (⟨none, .store T x y, ty, ps, af, gd⟩ :: l) S M := by
  exact WL_st hg hT hx hv hc' hn hc hu hb k
theorem oS {T U : TypeId} {x y : Operand} {g : Bool} {n b off : Nat} {cs cs' : List Part} {M' : List Blk} (qs : List Part) (hT : tyOf P T = some (g, n)) (ho : ops[i]? = some ⟨none, .store T x y, ty, ps, af, gd⟩)
    (hg : wantD N ops S (⟨none, .store T x y, ty, ps, af, gd⟩ : Oper) = true)
    (hx : evO N S x = some (.pointer (some ⟨b, off, none⟩))) (hv : evO N S y = some v) (hc' : v.cells = (flat qs).toArray) (hn : psize qs = n) (hu : Upd b U (flat cs) (flat cs') M M') (hc : setP cs off n qs = some cs') (hb : w0.heap.size ≤ b)
    (hw : nw.contains i = false) (hs : MD.Sublist M') (k : PL P w0 X N ops nw MD Q r S M') : PL P w0 X N ops nw MD Q (.only i r) S M := by
  exact PL_st ho hg hT hx hv hc' hn hc hu hb hw hs k
end
theorem nl {A K : Fr → List Blk → Prop} (hK : ∀ S M, A S M → K S M) (h : A S M) : WL P w0 X N ops K [] S M := hK _ _ h
theorem fl {A K : Fr → List Blk → Prop} (hK : ∀ S M, A S M → K S M) (h : A S M) : PL P w0 X N ops nw MD K .fin S M := hK _ _ h
end
section
variable {P : Program} {w0 : World} {X : List Nat} {N : Nm} {S : Fr} {M : List Blk} {d : Option Tmp} {ty : TypeId} {ps : String} {af : Array Edge} {gd : Option (Nat × Bool)}
theorem qF {T : TypeId} {x : Operand} {f o n b off : Nat} (hT : ff_ P T f = some (o, n)) (hx : evO N S x = some (.pointer (some ⟨b, off, none⟩))) (hn : Nat.beq n 0 = false) : OpQ P w0 X N ⟨d, .fieldAddr T x f, ty, ps, af, gd⟩ S M (.pointer (some ⟨b, off + o, none⟩)) :=
  aW_ hT (fun h => by subst h; cases hn) hx
theorem qA {T : TypeId} {x y : Operand} {n s b off i : Nat} {k : IntKind} (hT : tyArr P T = some (n, s)) (hx : evO N S x = some (.pointer (some ⟨b, off, none⟩))) (hy : evO N S y = some (.int k (Int.ofNat i))) (h1 : Nat.blt i n = true) : OpQ P w0 X N ⟨d, .indexAddr T x y, ty, ps, af, gd⟩ S M (.pointer (some ⟨b, off + i * s, none⟩)) :=
  bM_ hT hx hy (Int.natCast_nonneg i) (Int.ofNat_lt.2 (by simpa [Nat.blt_eq] using h1))
theorem qL {T U : TypeId} {x : Operand} {n b off : Nat} {cs qs : List Part} (hT : tyOf P T = some (true, n)) (hx : evO N S x = some (.pointer (some ⟨b, off, none⟩))) (hm : (⟨b, U, flat cs⟩ : Blk) ∈ M) (hc : cutP cs off n = some qs) :
    OpQ P w0 X N ⟨d, .load T x, ty, ps, af, gd⟩ S M (AV qs) := ib_ hT hx hm hc
theorem qC {T U : TypeId} {x : Operand} {s b off : Nat} {cs : List Part} {v : Value} (hT : tyOf P T = some (false, s)) (hx : evO N S x = some (.pointer (some ⟨b, off, none⟩))) (hm : (⟨b, U, flat cs⟩ : Blk) ∈ M) (hc : cellP cs off = some v) :
    OpQ P w0 X N ⟨d, .load T x, ty, ps, af, gd⟩ S M v := qH_ hT hx hm hc
theorem qI {T : TypeId} {x y : Operand} {n s i : Nat} {k : IntKind} {cs qs : List Part} (hT : tyEl P T = some (n, s, true)) (hx : evO N S x = some (AV cs)) (hy : evO N S y = some (.int k (Int.ofNat i))) (h1 : Nat.blt i n = true) (hc : cutP cs (i * s) s = some qs) :
    OpQ P w0 X N ⟨d, .index T x y, ty, ps, af, gd⟩ S M (AV qs) := oA_ hT hx hy (Int.natCast_nonneg i) (Int.ofNat_lt.2 (by simpa [Nat.blt_eq] using h1)) hc
theorem qJ {T : TypeId} {x y : Operand} {n s i : Nat} {k : IntKind} {cs : List Part} {v : Value} (hT : tyEl P T = some (n, s, false)) (hx : evO N S x = some (AV cs)) (hy : evO N S y = some (.int k (Int.ofNat i))) (h1 : Nat.blt i n = true) (hc : cellP cs (i * s) = some v) :
    OpQ P w0 X N ⟨d, .index T x y, ty, ps, af, gd⟩ S M v := op_ hT hx hy (Int.natCast_nonneg i) (Int.ofNat_lt.2 (by simpa [Nat.blt_eq] using h1)) hc
end
section
variable {P : Program} {w0 : World} {X : List Nat} {N : Nm} {S : Fr} {M : List Blk} {Q : Post}
theorem Sq {x y : Code} (h : ∀ K : Fr → List Blk → Prop, (∀ S M, W P w0 X N y Q S M → K S M) → W P w0 X N x (thenK K Q) S M) : W P w0 X N (.seq x y) Q S M := W_seq h
theorem Rs {id : Nat} {ops : List Oper} {y : Code} (h : ∀ K : Fr → List Blk → Prop, (∀ S M, W P w0 X N y Q S M → K S M) → WL P w0 X N ops K ops S M) : W P w0 X N (.seq (.region id ops.toArray false) y) Q S M := W_sr h
theorem Rk {id : Nat} {ops : List Oper} (h : ∀ K : Fr → List Blk → Prop, (∀ S M, Q .normal S M → K S M) → WL P w0 X N ops K ops S M) : W P w0 X N (.region id ops.toArray false) Q S M := iB_ h
end
def waits (ops : Array Oper) (i : Nat) : List Nat :=
  (List.range ops.size).foldl (fun ws j => match ops[j]? with
    | some oj => bif oj.after.any (fun e => Region.binds .any e && (e.on == i || ws.contains e.on)) then j :: ws else ws
    | none => ws) []
def mP (ops : Array Oper) : List Nat → Plan
  | [] => .fin
  | n :: l => bif Nat.beq (n % 4) 0 then .quiet (n / 4) (waits ops (n / 4)) (mP ops l) else bif Nat.beq (n % 4) 1 then .only (n / 4) (mP ops l) else .still (n / 4) (waits ops (n / 4)) (mP ops l)
/-- All but these. -/
def nwx (ops : List Oper) (nx : List Nat) : List Nat := (List.range ops.length).filter fun i => !nx.contains i
section
variable {P : Program} {w0 : World} {X : List Nat} {N : Nm} {S : Fr} {M : List Blk} {Q : Post}
theorem dr {id : Nat} {ops : List Oper} {MD : List Blk} (sub : MD.Sublist M) (pl nx : List Nat) (hm : P.follows .mixedOrders = true)
    (hok : (Region.noSelect ops.toArray && Plan.ok ops.toArray (nwx ops nx) ops.length (Array.replicate ops.length false) (mP ops.toArray pl)) = true)
    (h : ∀ K : Fr → List Blk → Prop, (∀ S M, Q .normal S M → K S M) → PL P w0 X N ops (nwx ops nx) MD K (mP ops.toArray pl) S M) : W P w0 X N (.region id ops.toArray true) Q S M :=
  la_ sub _ _ hm (Bool.and_eq_true_iff.1 hok).1 (Bool.and_eq_true_iff.1 hok).2 h
theorem ds {id : Nat} {ops : List Oper} {y : Code} {MD : List Blk} (sub : MD.Sublist M) (pl nx : List Nat) (hm : P.follows .mixedOrders = true)
    (hok : (Region.noSelect ops.toArray && Plan.ok ops.toArray (nwx ops nx) ops.length (Array.replicate ops.length false) (mP ops.toArray pl)) = true)
    (h : ∀ K : Fr → List Blk → Prop, (∀ S M, W P w0 X N y Q S M → K S M) → PL P w0 X N ops (nwx ops nx) MD K (mP ops.toArray pl) S M) : W P w0 X N (.seq (.region id ops.toArray true) y) Q S M :=
  W_sdr sub _ _ hm (Bool.and_eq_true_iff.1 hok).1 (Bool.and_eq_true_iff.1 hok).2 h
end
end Go.Kn

set_option linter.unusedVariables false
set_option linter.unusedSimpArgs false
namespace Go.Num
open Go Go.Kn Go.RowKit Go.ChangeShapes Go.WideShapes
def lwf : Value → Leaf → Prop
  | .bool _, none => True
  | .int k n, some k' => k = k' ∧ (Lit.int k n).wf = true
  | _, _ => False
def LWF : List Value → List Leaf → Prop
  | [], [] => True
  | v :: vs, l :: ls => lwf v l ∧ LWF vs ls
  | _, _ => False
theorem LWF.len : ∀ {vs : List Value} {ls : List Leaf}, LWF vs ls → vs.length = ls.length
  | [], [], _ => rfl
  | v :: vs, l :: ls, h => by simp [LWF.len h.2]
  | [], _ :: _, h => h.elim
  | _ :: _, [], h => h.elim
theorem LWF.append : ∀ {vs us : List Value} {ls ms : List Leaf}, LWF vs ls → LWF us ms → LWF (vs ++ us) (ls ++ ms)
  | [], _, [], _, _, k => k
  | v :: vs, _, l :: ls, _, h, k => ⟨h.1, LWF.append h.2 k⟩
  | [], _, _ :: _, _, h, _ => h.elim
  | _ :: _, _, [], _, h, _ => h.elim
theorem LWF.split : ∀ {ls ms : List Leaf} {vs : List Value}, LWF vs (ls ++ ms) → ∃ a b, vs = a ++ b ∧ LWF a ls ∧ LWF b ms
  | [], _, vs, h => ⟨[], vs, rfl, trivial, h⟩
  | l :: ls, ms, [], h => h.elim
  | l :: ls, ms, v :: vs, h => by
    obtain ⟨a, b, rfl, h1, h2⟩ := LWF.split (ls := ls) (ms := ms) h.2
    exact ⟨v :: a, b, rfl, ⟨h.1, h1⟩, h2⟩
/-- The dQ_ of a type, with its sizes held against them. -/
def lzGo (P : Program) (f : TypeId → Option (List Leaf)) : List Field → Nat → Option (List Leaf)
  | [], _ => some []
  | x :: fs, off => if x.offset ≠ off then none else (f x.type).bind fun l => if P.cellsOf x.type = l.length then (lzGo P f fs (off + l.length)).map (l ++ ·) else none
def lz (P : Program) : Nat → TypeId → Option (List Leaf)
  | 0, _ => none
  | d + 1, T => match P.underlying T with
    | some .bool => some [none]
    | some (.int k) => some [some k]
    | some (.array n e) => (lz P d e).bind fun l => if P.cellsOf e = l.length ∧ P.cellsOf T = n * l.length then some ((List.replicate n l).flatten) else none
    | some (.struct fs) => (lzGo P (lz P d) fs.toList 0).bind fun l => if P.cellsOf T = l.length then some l else none
    | _ => none
def o5_ (P : Program) (T : TypeId) : Bool := match P.underlying T with | some (.struct _) => true | some (.array _ _) => true | _ => false
section
variable {H : Type} {enc : TypeId × Value → H} {P : Program} {w : World} {base : Nat} {spare : Nat → Bool} {held : Bool}
theorem iT_ {l : List Leaf} : ∀ (n : Nat) (cs : List Value), cs.length = n * l.length → (∀ i, i < n → LWF ((cs.drop (i * l.length)).take l.length) l) → LWF cs ((List.replicate n l).flatten)
  | 0, cs, hl, _ => by
    have : cs = [] := List.eq_nil_of_length_eq_zero (by simpa using hl)
    subst this; exact trivial
  | n + 1, cs, hl, h => by
    rw [List.replicate_succ, List.flatten_cons]
    have h0 := h 0 (by omega)
    rw [Nat.zero_mul, List.drop_zero] at h0
    have := iT_ (l := l) n (cs.drop l.length) (by rw [List.length_drop, hl, Nat.succ_mul, Nat.add_sub_cancel]) (fun i hi => by
      have := h (i + 1) (by omega)
      rw [List.drop_drop, show l.length + i * l.length = (i + 1) * l.length by rw [Nat.succ_mul]; omega]; exact this)
    have e := LWF.append h0 this
    rwa [List.take_append_drop] at e
theorem py_ {f : TypeId → Option (List Leaf)} : ∀ (fs : List Field) (off : Nat) (ls : List Leaf) (cs : List Value), lzGo P f fs off = some ls → cs.length = off + ls.length →
    (∀ (i : Nat) (x : Field), fs[i]? = some x → ∀ l, f x.type = some l → LWF ((cs.drop x.offset).take (P.cellsOf x.type)) l) → LWF (cs.drop off) ls
  | [], off, ls, cs, h, hl, _ => by
    cases h
    have : cs.drop off = [] := List.eq_nil_of_length_eq_zero (by rw [List.length_drop]; simp at hl; omega)
    rw [this]; exact trivial
  | x :: fs, off, ls, cs, h, hl, hx => by
    unfold lzGo at h
    split at h
    · cases h
    · rename_i ho
      have ho' : x.offset = off := Classical.byContradiction ho
      cases hf : f x.type with
      | none => simp [hf] at h
      | some l =>
        simp only [hf, Option.bind_some] at h
        split at h
        · rename_i hs
          cases hg : lzGo P f fs (off + l.length) with
          | none => simp [hg] at h
          | some m =>
            simp only [hg, Option.map_some, Option.some.injEq] at h
            subst h
            have h1 := hx 0 x rfl l hf
            rw [ho', hs] at h1
            have h2 := py_ fs (off + l.length) m cs hg (by rw [hl, List.length_append]; omega) (fun i y hy => hx (i + 1) y (by simpa using hy))
            have e := LWF.append h1 h2
            rw [← List.drop_drop] at e
            rwa [List.take_append_drop] at e
        · cases h
theorem gL_ : ∀ (d : Nat) {T : TypeId} {ls : List Leaf} {fuel : Nat} {cs : List Value} {x : DataW H × List MemPlace}, lz P d T = some ls → DataW.trod enc P w base spare held fuel T cs = some x → LWF cs ls
  | 0, _, _, _, _, _, h, _ => by cases h
  | d + 1, T, ls, fuel, cs, x, h, ht => by
    unfold lz at h
    split at h
    · rename_i hu
      cases h
      cases fuel with
      | zero => simp [DataW.trod] at ht
      | succ m =>
        unfold DataW.trod at ht
        rw [hu] at ht
        split at ht <;> simp_all [LWF, lwf]
    · rename_i k hu
      cases h
      obtain ⟨n, h1, _, h3⟩ := DataW.trod_int hu ht
      subst h1; exact ⟨⟨rfl, h3⟩, trivial⟩
    · rename_i n e hu
      cases hl : lz P d e with
      | none => simp [hl] at h
      | some l =>
        simp only [hl, Option.bind_some] at h
        split at h
        · rename_i hs
          cases h
          obtain ⟨xs, m, _, _, hlen, hxl, hall⟩ := DataW.trod_array hu ht
          refine iT_ n cs (by rw [hlen, hs.2]) (fun i hi => ?_)
          have h1 := hall i hi
          rw [hs.1, List.getElem?_eq_getElem (by rw [hxl]; exact hi)] at h1
          exact gL_ d hl h1
        · cases h
    · rename_i fs hu
      cases hl : lzGo P (lz P d) fs.toList 0 with
      | none => simp [hl] at h
      | some l =>
        simp only [hl, Option.bind_some] at h
        split at h
        · rename_i hs
          cases h
          obtain ⟨xs, m, _, _, hlen, hxl, hall⟩ := DataW.trod_struct hu ht
          have := py_ fs.toList 0 ls cs hl (by rw [hlen, hs]; omega) (fun i y hy l' hl' => by
            have hy' : fs[i]? = some y := by simpa using hy
            have h1 := hall i y hy'
            have hi : i < fs.size := (Array.getElem?_eq_some_iff.1 hy').1
            rw [List.getElem?_eq_getElem (by rw [hxl]; exact hi)] at h1
            exact gL_ d hl' h1)
          rwa [List.drop_zero] at this
        · cases h
    · cases h
theorem sh_ {T : TypeId} {ls : List Leaf} {v : Value} {d : DataW H} {p : List MemPlace} (h : lz P 8 T = some ls) (ht : DataW.Trod enc P w base spare held T v d p) : LWF v.cells.toList ls := by
  obtain ⟨fuel, hf⟩ := ht
  exact gL_ 8 h hf
theorem qU_ {r : Reach} {T : TypeId} {v : Value} (h : o5_ P T = true) (hv : Value.okWide P w r base T v) : ∃ cs : List Value, v = .agg cs.toArray := by
  unfold o5_ at h
  unfold Value.okWide at hv
  split at h
  · rename_i fs hu; rw [hu] at hv; obtain ⟨cs, hc, _⟩ := hv; exact ⟨cs.toList, by simpa using hc⟩
  · rename_i n e hu; rw [hu] at hv; obtain ⟨cs, hc, _⟩ := hv; exact ⟨cs.toList, by simpa using hc⟩
  · cases h
end
theorem openW {cs : List Value} (h : LWF cs [some .i64]) : ∃ x : W, cs = [.int .i64 x.1] := by
  match cs, h with
  | [.int k n], h =>
    obtain ⟨⟨rfl, hw⟩, _⟩ := h
    have := bounds_i64 hw
    exact ⟨⟨n, this⟩, rfl⟩
end Go.Num
namespace Go.Num
open Go Go.Kn Go.RowKit
theorem sj_ {P : Program} {w : World} {base : Nat} {r : Reach} {T : TypeId} {v : Value} {k : IntKind} (hu : P.underlying T = some (.int k)) (hv : Value.okWide P w r base T v) : ∃ n, v = .int k n ∧ k.has n := by
  unfold Value.okWide at hv
  rw [hu] at hv
  unfold Cell.okWide at hv
  rw [hu] at hv
  unfold Cell.ok at hv
  rw [hu] at hv
  cases v <;> simp_all
theorem si_ {n : Int} (h : IntKind.i64.has n) : I64 n := by
  simp [IntKind.has, IntKind.min, IntKind.max, IntKind.signed, IntKind.bits] at h
  unfold I64; omega
end Go.Num

