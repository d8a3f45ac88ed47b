/- The small logic, ninth part: values as rows of parts, and loops that are unrolled. No program stands in it. Slices of elements of several cells: read, cut, measured, handed on. No program stands in it. Calls walked in place; ranges over functions: the iterator and its rounds walked in place. No program stands in it. Types of the program's values: integers of 64 bits, api.Int, rows and structs of them. No program stands in it. Labels and scopes without jumps. No program stands in it. What comparing two whole numbers by sign and digits gives. No program stands in it. Pairs, and the comparison of two fractions by their continued fractions. No program stands in it. Elements of lists, arrays of nine, the greater and the lesser. No program stands in it. Shifts to the left. No program stands in it. Short words: plain operations by one evaluation; the other laws under short names. No program stands in it. From a reading of an argument (bools, integers, arrays and structs of them) to the value of a plain type. No program stands in it. -/
import Derived.Test.YtjdfogfmeibkgaaGreatQGC
import Derived.Scope
import Derived.ProofKit
import Derived.OpenShut
import Derived.ShutString
import Derived.ChangeOld
import Derived.Below
set_option linter.unusedVariables false
set_option linter.unusedSimpArgs false
namespace Go.Kn
open Go.RowKit
/-- A hu_ of cells whose length is known. -/
structure Part where
  n : Nat
  l : List Value
  len : l.length = n
  pl : ∀ v ∈ l, plain v = true
def flat : List Part → List Value
  | [] => []
  | [p] => p.l
  | p :: q :: ps => p.l ++ flat (q :: ps)
theorem eg_ (p : Part) (ps : List Part) : flat (p :: ps) = p.l ++ flat ps := by
  cases ps with
  | nil => simp [flat]
  | cons q ps => rfl
theorem da_ (ps qs : List Part) : flat (ps ++ qs) = flat ps ++ flat qs := by
  induction ps with
  | nil => rfl
  | cons p ps ih => rw [List.cons_append, eg_, eg_, ih, List.append_assoc]
def psize : List Part → Nat
  | [] => 0
  | p :: ps => p.n + psize ps
theorem el_ : ∀ ps : List Part, (flat ps).length = psize ps
  | [] => rfl
  | p :: ps => by rw [eg_, List.length_append, p.len, el_ ps]; rfl
theorem ik_ (ps : List Part) : ∀ v ∈ flat ps, plain v = true := by
  induction ps with
  | nil => intro v h; cases h
  | cons p ps ih =>
    intro v h
    rw [eg_, List.mem_append] at h
    rcases h with h | h
    · exact p.pl v h
    · exact ih v h
/-- The value with these parts. -/
abbrev AV (ps : List Part) : Value := .agg (flat ps).toArray
abbrev ci (k : IntKind) (n : Int) : Part := ⟨1, [.int k n], rfl, fun v h => by rw [List.mem_singleton.1 h]; rfl⟩
/-- The first n cells, as whole parts. -/
def takeP : List Part → Nat → Option (List Part)
  | [], n => bif Nat.beq n 0 then some [] else none
  | p :: ps, n => bif Nat.beq n 0 then some [] else bif Nat.ble p.n n then (match takeP ps (n - p.n) with | some qs => some (p :: qs) | none => none) else none
/-- The n cells from off on, as whole parts. -/
def cutP : List Part → Nat → Nat → Option (List Part)
  | [], off, n => bif Nat.beq off 0 then takeP [] n else none
  | p :: ps, off, n => bif Nat.beq off 0 then takeP (p :: ps) n else bif Nat.ble p.n off then cutP ps (off - p.n) n else none
theorem gR_ : ∀ {ps qs : List Part} {n : Nat}, takeP ps n = some qs → ∃ rs, ps = qs ++ rs ∧ psize qs = n
  | [], qs, n, h => by
    simp only [takeP] at h
    cases hb : Nat.beq n 0
    · rw [hb] at h; cases h
    · rw [hb] at h; cases h; exact ⟨[], rfl, (Nat.eq_of_beq_eq_true hb).symm⟩
  | p :: ps, qs, n, h => by
    simp only [takeP] at h
    cases hb : Nat.beq n 0
    · rw [hb] at h
      simp only [cond_false] at h
      cases hl : Nat.ble p.n n
      · rw [hl] at h; cases h
      · rw [hl] at h
        simp only [cond_true] at h
        split at h
        · rename_i qs' hq
          cases h
          obtain ⟨rs, h1, h2⟩ := gR_ hq
          have := Nat.le_of_ble_eq_true hl
          exact ⟨rs, by rw [h1]; rfl, by simp only [psize, h2]; omega⟩
        · cases h
    · rw [hb] at h; cases h; exact ⟨p :: ps, rfl, (Nat.eq_of_beq_eq_true hb).symm⟩
theorem jL_ : ∀ {ps qs : List Part} {off n : Nat}, cutP ps off n = some qs → ∃ as rs, ps = as ++ (qs ++ rs) ∧ psize as = off ∧ psize qs = n
  | [], qs, off, n, h => by
    simp only [cutP] at h
    cases hb : Nat.beq off 0
    · rw [hb] at h; cases h
    · rw [hb] at h
      simp only [cond_true] at h
      obtain ⟨rs, h1, h2⟩ := gR_ h
      exact ⟨[], rs, h1, (Nat.eq_of_beq_eq_true hb).symm, h2⟩
  | p :: ps, qs, off, n, h => by
    simp only [cutP] at h
    cases hb : Nat.beq off 0
    · rw [hb] at h
      simp only [cond_false] at h
      cases hl : Nat.ble p.n off
      · rw [hl] at h; cases h
      · rw [hl] at h
        simp only [cond_true] at h
        obtain ⟨as, rs, h1, h2, h3⟩ := jL_ h
        have := Nat.le_of_ble_eq_true hl
        exact ⟨p :: as, rs, by rw [h1]; rfl, by simp only [psize, h2]; omega, h3⟩
    · rw [hb] at h
      simp only [cond_true] at h
      obtain ⟨rs, h1, h2⟩ := gR_ h
      exact ⟨[], rs, h1, (Nat.eq_of_beq_eq_true hb).symm, h2⟩
theorem eM_ {ps qs : List Part} {off n : Nat} (h : cutP ps off n = some qs) : ((flat ps).drop off).take n = flat qs ∧ (flat qs).length = n ∧ off + n ≤ (flat ps).length := by
  obtain ⟨as, rs, rfl, h1, h2⟩ := jL_ h
  rw [← h1, ← h2, ← el_, ← el_, da_, da_, List.drop_left, List.take_left]
  exact ⟨rfl, rfl, by simp only [List.length_append]; omega⟩
/-- The cell at off. -/
def cellP : List Part → Nat → Option Value
  | [], _ => none
  | p :: ps, off => bif Nat.ble p.n off then cellP ps (off - p.n) else p.l[off]?
theorem gj_ : ∀ {ps : List Part} {off : Nat} {v : Value}, cellP ps off = some v → (flat ps)[off]? = some v
  | [], _, _, h => by cases h
  | p :: ps, off, v, h => by
    simp only [cellP] at h
    rw [eg_]
    cases hl : Nat.ble p.n off
    · rw [hl] at h
      have h1 : ¬ p.n ≤ off := fun hc => by rw [Nat.ble_eq_true_of_le hc] at hl; cases hl
      rw [List.getElem?_append_left (by rw [p.len]; omega)]
      exact h
    · rw [hl] at h
      rw [List.getElem?_append_right (by rw [p.len]; exact Nat.le_of_ble_eq_true hl), p.len]
      exact gj_ h
/-- With qs laid over what stands from off on. -/
def dropP : List Part → Nat → Option (List Part)
  | [], n => bif Nat.beq n 0 then some [] else none
  | p :: ps, n => bif Nat.beq n 0 then some (p :: ps) else bif Nat.ble p.n n then dropP ps (n - p.n) else none
def setP : List Part → Nat → Nat → List Part → Option (List Part)
  | [], off, n, qs => bif Nat.beq off 0 then (match dropP [] n with | some rs => some (qs ++ rs) | none => none) else none
  | p :: ps, off, n, qs => bif Nat.beq off 0 then (match dropP (p :: ps) n with | some rs => some (qs ++ rs) | none => none) else
      bif Nat.ble p.n off then (match setP ps (off - p.n) n qs with | some rs => some (p :: rs) | none => none) else none
theorem gK_ : ∀ {ps rs : List Part} {n : Nat}, dropP ps n = some rs → ∃ as, ps = as ++ rs ∧ psize as = n
  | [], rs, n, h => by
    simp only [dropP] at h
    cases hb : Nat.beq n 0
    · rw [hb] at h; cases h
    · rw [hb] at h; cases h; exact ⟨[], rfl, (Nat.eq_of_beq_eq_true hb).symm⟩
  | p :: ps, rs, n, h => by
    simp only [dropP] at h
    cases hb : Nat.beq n 0
    · rw [hb] at h
      simp only [cond_false] at h
      cases hl : Nat.ble p.n n
      · rw [hl] at h; cases h
      · rw [hl] at h
        simp only [cond_true] at h
        obtain ⟨as, h1, h2⟩ := gK_ h
        have := Nat.le_of_ble_eq_true hl
        exact ⟨p :: as, by rw [h1]; rfl, by simp only [psize, h2]; omega⟩
    · rw [hb] at h; cases h; exact ⟨[], rfl, (Nat.eq_of_beq_eq_true hb).symm⟩
theorem jN_ : ∀ {ps ps' qs : List Part} {off n : Nat}, setP ps off n qs = some ps' → ∃ as bs rs, ps = as ++ (bs ++ rs) ∧ ps' = as ++ (qs ++ rs) ∧ psize as = off ∧ psize bs = n
  | [], ps', qs, off, n, h => by
    simp only [setP] at h
    cases hb : Nat.beq off 0
    · rw [hb] at h; cases h
    · rw [hb] at h
      simp only [cond_true] at h
      split at h
      · rename_i rs hr
        cases h
        obtain ⟨as, h1, h2⟩ := gK_ hr
        exact ⟨[], as, rs, h1, rfl, (Nat.eq_of_beq_eq_true hb).symm, h2⟩
      · cases h
  | p :: ps, ps', qs, off, n, h => by
    simp only [setP] at h
    cases hb : Nat.beq off 0
    · rw [hb] at h
      simp only [cond_false] at h
      cases hl : Nat.ble p.n off
      · rw [hl] at h; cases h
      · rw [hl] at h
        simp only [cond_true] at h
        split at h
        · rename_i rs hr
          cases h
          obtain ⟨as, bs, cs, h1, h2, h3, h4⟩ := jN_ hr
          have := Nat.le_of_ble_eq_true hl
          exact ⟨p :: as, bs, cs, by rw [h1]; rfl, by rw [h2]; rfl, by simp only [psize, h3]; omega, h4⟩
        · cases h
    · rw [hb] at h
      simp only [cond_true] at h
      split at h
      · rename_i rs hr
        cases h
        obtain ⟨as, h1, h2⟩ := gK_ hr
        exact ⟨[], as, rs, h1, rfl, (Nat.eq_of_beq_eq_true hb).symm, h2⟩
      · cases h
theorem he_ {ps ps' qs : List Part} {off n : Nat} (h : setP ps off n qs = some ps') : (flat ps).take off ++ flat qs ++ (flat ps).drop (off + n) = flat ps' ∧ off + n ≤ (flat ps).length := by
  obtain ⟨as, bs, rs, rfl, rfl, h1, h2⟩ := jN_ h
  rw [← h1, ← h2, ← el_, ← el_, da_, da_, da_, da_, List.take_left, List.append_assoc]
  constructor
  · congr 2
    rw [← List.drop_drop, List.drop_left, List.drop_left]
  · simp only [List.length_append]; omega

section
variable {P : Program} {w0 : World} {X : List Nat} {N : Nm} {S : Fr} {M : List Blk} {d : Option Tmp} {ty : TypeId} {ps : String} {af : Array Edge} {gd : Option (Nat × Bool)}
/-- Loads. -/
theorem pm_ {T U : TypeId} {x : Operand} {n b off : Nat} {cs qs : List Part} (hT : tyOf P T = some (true, n)) (hx : evO N S x = some (.pointer (some ⟨b, off, none⟩))) (hm : (⟨b, U, flat cs⟩ : Blk) ∈ M) (hc : cutP cs off n = some qs) :
    OpQ P w0 X N ⟨d, .load T x, ty, ps, af, gd⟩ S M (AV qs) := b8_ hT hx hm (eM_ hc).1 (eM_ hc).2.1
theorem kn_ {T U : TypeId} {x : Operand} {s b off : Nat} {cs : List Part} {v : Value} (hT : tyOf P T = some (false, s)) (hx : evO N S x = some (.pointer (some ⟨b, off, none⟩))) (hm : (⟨b, U, flat cs⟩ : Blk) ∈ M) (hc : cellP cs off = some v) :
    OpQ P w0 X N ⟨d, .load T x, ty, ps, af, gd⟩ S M v := bd_ hT hx hm (gj_ hc)
/-- Stores. 'qs': the parts of what is stored. -/
theorem k0_ {T U : TypeId} {x y : Operand} {g : Bool} {n b off : Nat} {cs cs' qs : List Part} {M' : List Blk} {v : Value} {K : Value → List Blk → Prop} (hT : tyOf P T = some (g, n)) (hx : evO N S x = some (.pointer (some ⟨b, off, none⟩)))
    (hy : evO N S y = some v) (hv : v.cells = (flat qs).toArray) (hn : psize qs = n) (hc : setP cs off n qs = some cs') (hu : Upd b U (flat cs) (flat cs') M M') (hb : w0.heap.size ≤ b ∨ b ∈ X) (k : K undef M') :
    OpR P w0 X N ⟨d, .store T x y, ty, ps, af, gd⟩ S M K :=
  iC_ hT hx hu hy hv ((el_ _).trans hn) (ik_ _) (he_ hc).2 (he_ hc).1 hb k
theorem cG_ {T : TypeId} {x : Operand} {v : Value} {qs : List Part} {K : Value → List Blk → Prop} (hx : evO N S x = some v) (hv : v.cells = (flat qs).toArray) (k : ∀ b, w0.heap.size ≤ b → K (.pointer (some ⟨b, 0, none⟩)) (⟨b, T, flat qs⟩ :: M)) :
    OpR P w0 X N ⟨d, .box T x, ty, ps, af, gd⟩ S M K := r_box hx hv k
theorem dK_ {T : TypeId} {qs : List Part} {K : Value → List Blk → Prop} (hT : dq_ P T = some (flat qs)) (k : ∀ b, w0.heap.size ≤ b → K (.pointer (some ⟨b, 0, none⟩)) (⟨b, T, flat qs⟩ :: M)) :
    OpR P w0 X N ⟨d, .alloc T, ty, ps, af, gd⟩ S M K := bb_ hT k
/-- Literals. -/
inductive FillP (place : Nat → Option (Nat × Nat)) : List Part → List (Nat × Value) → List Part → Prop where
  | nil (z : List Part) : FillP place z [] z
  | cons {i off size : Nat} {v : Value} {z out : List Part} {rest : List (Nat × Value)} (vs z' : List Part) (hp : place i = some (off, size)) (hv : v.cells = (flat vs).toArray) (hl : psize vs = size)
      (hz : setP z off size vs = some z') (k : FillP place z' rest out) : FillP place z ((i, v) :: rest) out
theorem FillP.r {place : Nat → Option (Nat × Nat)} {z out : List Part} {parts : List (Nat × Value)} (h : FillP place z parts out) : FillR place (flat z) parts (flat out) := by
  induction h with
  | nil z => exact .nil _
  | cons vs z' hp hv hl hz k ih => exact .cons hp hv ((el_ _).trans hl) (he_ hz).2 (he_ hz).1 ih
theorem fD_ {T : TypeId} {xs : List (Nat × Operand)} {parts : List (Nat × Value)} {pl : List (Nat × Nat)} {z out : List Part} (hz : dq_ P T = some (flat z)) (hp : gp_ P T = some pl) (hx : evP N S xs = some parts)
    (h : FillP (fun i => pl[i]?) z parts out) : OpQ P w0 X N ⟨d, .build T xs.toArray, ty, ps, af, gd⟩ S M (AV out) := e9_ hz hp hx h.r
/-- Results. -/
theorem resP {r : Tmp} {T : TypeId} {b off n : Nat} {U : TypeId} {cs qs : List Part} (hx : evO N S (.tmp r) = some (.pointer (some ⟨b, off, none⟩))) (hm : (⟨b, U, flat cs⟩ : Blk) ∈ M) (hT : tyOf P T = some (true, n)) (hc : cutP cs off n = some qs) :
    ResOk P N S M (.cell r T) (AV qs) := ⟨b, off, flat cs, U, true, n, hx, hm, hT, _, (eM_ hc).1, (eM_ hc).2.1, rfl⟩
end
section
variable {P : Program} {w0 : World} {X : List Nat} {N : Nm} {S : Fr} {M : List Blk} {d : Option Tmp} {ty : TypeId} {ps : String} {af : Array Edge} {gd : Option (Nat × Bool)}
theorem hP_ {g : FuncId} {xs ys : List Operand} {vs us : List Value} (hx : evL N S xs = some vs) (hy : evL N S ys = some us) : OpQ P w0 X N ⟨d, .makeFunc (.func g) xs.toArray ys.toArray, ty, ps, af, gd⟩ S M (.func (.func g) vs.toArray us.toArray) :=
  q_of fun w _ => by
    have e1 : (xs.toArray.map (ev N S)) = vs.toArray := by rw [← ff_ hx]; simp
    have e2 : (ys.toArray.map (ev N S)) = us.toArray := by rw [← ff_ hy]; simp
    simp only [execOp, Instr.makeFunc, Sem.run_bind, Sem.run_pure, Result.andThen_ok, e1, e2]
/-- A call of a function value. -/
theorem pr_ {g : FuncId} {f : Operand} {xs : List Operand} {tys : Array TypeId} {first cap args : List Value} {v : Value} (he : al_ P g = true) (hf : evO N S f = some (.func (.func g) first.toArray cap.toArray)) (ha : evL N S xs = some args)
    (h : ∀ w, Sat w0 X M w → Calls P g (first ++ args ++ cap).toArray w fun e w' => e = .returned v ∧ Ext w w') : OpQ P w0 X N ⟨d, .call { callee := .value f, args := xs.toArray, argTypes := tys }, ty, ps, af, gd⟩ S M v := by
  intro w hw
  unfold opw
  rw [cT_, hJ_ he (au_ hf) (by rw [ff_ ha])]
  exact (h w hw).mono fun e w' ⟨h1, h2⟩ => ⟨v, h1, rfl, h2⟩
theorem nR_ {T U : TypeId} {x : Operand} {n b off : Nat} {cs qs : List Part} (hT : tyOf P T = some (true, n)) (hx : evO N S x = some (.pointer (some ⟨b, off, none⟩))) (hm : w0.heap[b]? = some (.cells (flat cs).toArray U (0, 0))) (hX : b ∉ X) (hc : cutP cs off n = some qs) :
    OpQ P w0 X N ⟨d, .load T x, ty, ps, af, gd⟩ S M (AV qs) := kQ_ hT hx hm hX (eM_ hc).1 (eM_ hc).2.1
theorem d1_ {T U : TypeId} {x : Operand} {s b off : Nat} {cs : List Part} {v : Value} (hT : tyOf P T = some (false, s)) (hx : evO N S x = some (.pointer (some ⟨b, off, none⟩))) (hm : w0.heap[b]? = some (.cells (flat cs).toArray U (0, 0))) (hX : b ∉ X) (hc : cellP cs off = some v) :
    OpQ P w0 X N ⟨d, .load T x, ty, ps, af, gd⟩ S M v := i3_ hT hx hm hX (gj_ hc)
end
section
variable {P : Program} {w0 : World} {X : List Nat} {N : Nm} {S : Fr} {M : List Blk} {Q : Post}
theorem W_sr {id : Nat} {ops : List Oper} {y : Code} (h : ∀ K : Fr → List Blk → Prop, (∀ S M, W P w0 X N y Q S M → K S M) → WL P w0 X N ops K ops S M) : W P w0 X N (.seq (.region id ops.toArray false) y) Q S M :=
  W_seq fun _ hK => ib_ fun K1 h1 => h K1 fun S M hw => h1 S M (hK S M hw)
theorem W_sdr {id : Nat} {ops : List Oper} {y : Code} {MD : List Blk} (sub : MD.Sublist M) (p : Plan) (nw : List Nat) (hm : P.follows .mixedOrders = true) (hs : Region.noSelect ops.toArray = true)
    (hok : Plan.ok ops.toArray nw ops.length (Array.replicate ops.length false) p = true)
    (h : ∀ K : Fr → List Blk → Prop, (∀ S M, W P w0 X N y Q S M → K S M) → PL P w0 X N ops nw MD K p S M) : W P w0 X N (.seq (.region id ops.toArray true) y) Q S M :=
  W_seq fun _ hK => lt_ sub p nw hm hs hok fun K1 h1 => h K1 fun S M hw => h1 S M (hK S M hw)
variable {d : Option Tmp} {ty : TypeId} {ps : String} {af : Array Edge} {gd : Option (Nat × Bool)}
theorem WL_st {ops l : List Oper} {R : Fr → List Blk → Prop} {T U : TypeId} {x y : Operand} {g : Bool} {n b off : Nat} {cs cs' qs : List Part} {M' : List Blk} {v : Value} (hg : wantD N ops S (⟨none, .store T x y, ty, ps, af, gd⟩ : Oper) = true)
    (hT : tyOf P T = some (g, n)) (hx : evO N S x = some (.pointer (some ⟨b, off, none⟩))) (hy : evO N S y = some v) (hv : v.cells = (flat qs).toArray) (hn : psize qs = n) (hc : setP cs off n qs = some cs') (hu : Upd b U (flat cs) (flat cs') M M') (hb : w0.heap.size ≤ b)
    (k : WL P w0 X N ops R l S M') : WL P w0 X N ops R (⟨none, .store T x y, ty, ps, af, gd⟩ :: l) S M := WL_r hg (k0_ hT hx hy hv hn hc hu (.inl hb) k)
theorem PL_st {ops : List Oper} {nw : List Nat} {MD : List Blk} {R : Fr → List Blk → Prop} {i : Nat} {r : Plan} {T U : TypeId} {x y : Operand} {g : Bool} {n b off : Nat} {cs cs' qs : List Part} {M' : List Blk} {v : Value}
    (ho : ops[i]? = some ⟨none, .store T x y, ty, ps, af, gd⟩) (hg : wantD N ops S (⟨none, .store T x y, ty, ps, af, gd⟩ : Oper) = true)
    (hT : tyOf P T = some (g, n)) (hx : evO N S x = some (.pointer (some ⟨b, off, none⟩))) (hy : evO N S y = some v) (hv : v.cells = (flat qs).toArray) (hn : psize qs = n) (hc : setP cs off n qs = some cs') (hu : Upd b U (flat cs) (flat cs') M M') (hb : w0.heap.size ≤ b)
    (hw : nw.contains i = false) (hs : MD.Sublist M') (k : PL P w0 X N ops nw MD R r S M') : PL P w0 X N ops nw MD R (.only i r) S M :=
  PL_o ho hg (k0_ hT hx hy hv hn hc hu (.inl hb) ⟨(fun h => by rw [hw] at h; cases h), hs, k⟩)
end
theorem kI_ {p q : Part} {ps qs : List Part} {r s : Bool} (hn : p.n = q.n) (h : r = true ↔ p.l = q.l) (k : s = true ↔ flat ps = flat qs) : ((r && s) = true) ↔ flat (p :: ps) = flat (q :: qs) := by
  rw [eg_, eg_, Bool.and_eq_true, h, k]
  constructor
  · rintro ⟨a, b⟩; rw [a, b]
  · intro e; exact List.append_inj e (by rw [p.len, q.len, hn])
theorem fy_ {p q : Part} {r : Bool} (h : r = true ↔ p.l = q.l) : (r = true) ↔ flat [p] = flat [q] := h
theorem it_ {p : Part} {ps : List Part} {l m : List Leaf} (h : bt_ p.l l = true) (k : bt_ (flat ps) m = true) : bt_ (flat (p :: ps)) (l ++ m) = true := by rw [eg_]; exact fK_ h k
theorem ek_ {p : Part} {l : List Leaf} (h : bt_ p.l l = true) : bt_ (flat [p]) l = true := h
theorem W_t {P : Program} {w0 : World} {X : List Nat} {N : Nm} {Q : Post} {S : Fr} {M : List Blk} {c : Operand} {x y : Code} {b : Bool} (hb : b = true) (hc : evO N S c = some (.bool b)) (h : W P w0 X N x Q S M) : W P w0 X N (.cond c x y) Q S M := by
  subst hb; exact hv_ hc h
theorem W_f {P : Program} {w0 : World} {X : List Nat} {N : Nm} {Q : Post} {S : Fr} {M : List Blk} {c : Operand} {x y : Code} {b : Bool} (hb : b = false) (hc : evO N S c = some (.bool b)) (h : W P w0 X N y Q S M) : W P w0 X N (.cond c x y) Q S M := by
  subst hb; exact dw_ hc h
theorem s0 {α : Type} {l : List α} : l.Sublist l := List.Sublist.refl l
theorem sn {α : Type} {l : List α} : ([] : List α).Sublist l := List.nil_sublist l
theorem sd {α : Type} {a : α} {l m : List α} (h : l.Sublist m) : l.Sublist (a :: m) := List.Sublist.cons a h
theorem sk {α : Type} {a : α} {l m : List α} (h : l.Sublist m) : (a :: l).Sublist (a :: m) := List.Sublist.cons_cons a h
theorem sA {α : Type} {k l m : List α} (h : l.Sublist m) : (k ++ l).Sublist (k ++ m) := List.Sublist.append (List.Sublist.refl k) h
theorem sR {α : Type} {k l m : List α} (h : l.Sublist m) : l.Sublist (k ++ m) := List.Sublist.trans h (List.sublist_append_right k m)
theorem nf {p : Prop} (h : false = true) : p := by cases h
theorem bt (b : Bool) : b = true ∨ b = false := Bool.eq_false_or_eq_true b
theorem and_t {c a v : Bool} (h : c = true) (k : v = a) : v = (c && a) := by rw [h, k]; rfl
theorem and_f {c a : Bool} (h : c = false) : false = (c && a) := by rw [h]; rfl
theorem or_t {c a : Bool} (h : c = true) : true = (c || a) := by rw [h]; rfl
theorem or_f {c a v : Bool} (h : c = false) (k : v = a) : v = (c || a) := by rw [h, k]; rfl
theorem nor_t {c a v : Bool} (h : c = true) (k : v = a) : v = (!c || a) := by rw [h, k]; rfl
theorem nor_f {c a : Bool} (h : c = false) : true = (!c || a) := by rw [h]; rfl
theorem mI_ {c a : Bool} (h : c = true) : false = (!c && a) := by rw [h]; rfl
theorem nF_ {c a v : Bool} (h : c = false) (k : v = a) : v = (!c && a) := by rw [h, k]; rfl
theorem nm {α : Type} (e : α) : ∃ x, x = e := ⟨e, rfl⟩
theorem bif_t {α : Type} {c : Bool} {v x y : α} (h : c = true) (k : v = x) : v = (bif c then x else y) := by rw [h]; exact k
theorem bif_f {α : Type} {c : Bool} {v x y : α} (h : c = false) (k : v = y) : v = (bif c then x else y) := by rw [h]; exact k
theorem not_t {b : Bool} (h : b = false) : (!b) = true := by rw [h]; rfl
theorem not_f {b : Bool} (h : b = true) : (!b) = false := by rw [h]; rfl
section
variable {P : Program} {w0 : World} {X : List Nat} {N : Nm} {Q : Post} {S : Fr} {M : List Blk} {c : Code}
end
end Go.Kn

set_option linter.unusedVariables false
set_option linter.unusedSimpArgs false
namespace Go.Kn
open Go.RowKit
/-- How an element lies in cells. -/
structure El (α : Type) where
  n : Nat
  ps : α → List Part
  len : ∀ x, psize (ps x) = n
def El.cs {α : Type} (e : El α) (x : α) : List Value := flat (e.ps x)
section rows
variable {α : Type} {e : El α}
theorem El.cs_len (x : α) : (e.cs x).length = e.n := (el_ _).trans (e.len x)
theorem El.cs_plain (x : α) : ∀ v ∈ e.cs x, plain v = true := ik_ _
def rows (e : El α) (l : List α) : List Value := l.flatMap e.cs
theorem cr_ : ∀ l : List α, (rows e l).length = l.length * e.n
  | [] => by simp [rows]
  | x :: l => by
    have := cr_ l
    simp only [rows, List.flatMap_cons, List.length_append, List.length_cons, El.cs_len] at *
    rw [this, Nat.succ_mul, Nat.add_comm]
theorem ez_ (a b : List α) : rows e (a ++ b) = rows e a ++ rows e b := by simp [rows]
theorem kR_ {l : List α} {k : Nat} {x : α} (h : l[k]? = some x) : ((rows e l).drop (k * e.n)).take e.n = e.cs x := hu_ e.cs e.n l k x (fun y _ => El.cs_len y) h
theorem lZ_ (l : List α) : ∀ v ∈ rows e l, plain v = true := fun v h => by
  obtain ⟨x, _, hx⟩ := List.mem_flatMap.1 h
  exact El.cs_plain x v hx
theorem gl_ (l : List α) (k : Nat) : (rows e l).take (k * e.n) = rows e (l.take k) := by
  by_cases h : k ≤ l.length
  · have e1 : l = l.take k ++ l.drop k := (List.take_append_drop k l).symm
    have e2 : (rows e (l.take k)).length = k * e.n := by rw [cr_, List.length_take, Nat.min_eq_left h]
    conv => lhs; rw [e1, ez_]
    rw [← e2, List.take_left]
  · rw [List.take_of_length_le (l := rows e l) (by rw [cr_]; exact Nat.mul_le_mul_right _ (by omega)), List.take_of_length_le (by omega)]
theorem jA_ (l : List α) (k : Nat) : (rows e l).drop (k * e.n) = rows e (l.drop k) := by
  by_cases h : k ≤ l.length
  · have e1 : l = l.take k ++ l.drop k := (List.take_append_drop k l).symm
    have e2 : (rows e (l.take k)).length = k * e.n := by rw [cr_, List.length_take, Nat.min_eq_left h]
    conv => lhs; rw [e1, ez_]
    rw [← e2, List.drop_left]
  · rw [List.drop_of_length_le (l := l) (by omega), List.drop_of_length_le]
    · rfl
    · rw [cr_]; exact Nat.mul_le_mul_right _ (by omega)
end rows
theorem j8_ (a : Addr) (m n : Nat) : (a.add m).add n = a.add (m + n) := by
  unfold Addr.add
  by_cases h : m = 0
  · subst h; simp
  · by_cases h2 : n = 0
    · subst h2; simp [h]
    · simp [h, h2, Nat.add_assoc]
/-- From a on, cs stand. -/
def Rd (w : World) (a : Addr) (cs : List Value) : Prop := ∀ j v, cs[j]? = some v → w.cell? (a.add j) = some v
theorem Rd.ext {w w' : World} {a : Addr} {cs : List Value} (h : Rd w a cs) (he : Ext w w') : Rd w' a cs := fun j v hj => by
  have h1 := h j v hj
  have he' : Below w.heap.size w w' := he
  unfold World.cell? at *
  have hb : (a.add j).block < w.heap.size := by
    cases hc : w.heap[(a.add j).block]? with
    | none => rw [hc] at h1; cases h1
    | some o => exact aT_? hc
  rw [he'.block _ hb]; exact h1
theorem Rd.sub {w : World} {a : Addr} {cs : List Value} (h : Rd w a cs) (o n : Nat) : Rd w (a.add o) ((cs.drop o).take n) := fun j v hj => by
  have hj' : j < n := by
    rcases Nat.lt_or_ge j n with h' | h'
    · exact h'
    · rw [List.getElem?_eq_none (by rw [List.length_take]; omega)] at hj; cases hj
  rw [j8_]
  rw [List.getElem?_take_of_lt hj', List.getElem?_drop] at hj
  exact h _ _ hj
theorem Rd.of_block {w : World} {b off : Nat} {T : TypeId} {cs xs : List Value} (h : w.heap[b]? = some (.cells cs.toArray T (0, 0))) (hx : (cs.drop off).take xs.length = xs) : Rd w ⟨b, off, none⟩ xs := fun j v hj => by
  rw [du_]
  have hj' : j < xs.length := (List.getElem?_eq_some_iff.1 hj).1
  rw [← hx, List.getElem?_take_of_lt hj', List.getElem?_drop] at hj
  simp [World.cell?, h, hj]
/-- In w, v is a slice that reads l. -/
def Slr {α : Type} (w : World) (e : El α) (v : Value) (l : List α) : Prop :=
  ∃ p c, v = .slice p l.length c ∧ l.length ≤ c ∧ c ≤ maxLen ∧ ((p = none ∧ l = [] ∧ c = 0) ∨ ∃ a, p = some a ∧ Rd w a (rows e l))
/-- So it is in every world that fits. -/
def SLe {α : Type} (w0 : World) (X : List Nat) (M : List Blk) (e : El α) (v : Value) (l : List α) : Prop := ∀ w, Sat w0 X M w → Slr w e v l
/-- The place m cells behind a slice's beginning. -/
def slb : Value → Nat → Addr
  | .slice (some a) _ _, m => a.add m
  | _, m => ⟨0, m, none⟩
theorem ko_ (v : Value) (m o : Nat) : (slb v m).add o = slb v (m + o) := by
  unfold slb
  split
  · exact j8_ _ _ _
  · exact du_ _ _ _
section
variable {α : Type} {e : El α} {P : Program} {w0 : World} {X : List Nat} {N : Nm} {S : Fr} {M M' : List Blk} {d : Option Tmp} {ty : TypeId} {ps : String} {af : Array Edge} {gd : Option (Nat × Bool)} {v : Value} {l : List α}
theorem Slr.ext {w w' : World} (h : Slr w e v l) (he : Ext w w') : Slr w' e v l := by
  obtain ⟨p, c, hv, hc, hm, h⟩ := h
  refine ⟨p, c, hv, hc, hm, ?_⟩
  rcases h with h | ⟨a, ha, hr⟩
  · exact .inl h
  · exact .inr ⟨a, ha, hr.ext he⟩
theorem Slr.max {w : World} (h : Slr w e v l) : l.length ≤ 9223372036854775807 := by
  obtain ⟨p, c, _, hc, hm, _⟩ := h
  unfold maxLen at hm; omega
theorem SLe.sub (h : SLe w0 X M e v l) (hs : M.Sublist M') : SLe w0 X M' e v l := fun w hw => h w (hw.sub hs)
theorem Slr.old (h : Slr w0 e v l) : SLe w0 [] [] e v l := fun w hw => h.ext hw.ext
theorem SLe.nil : SLe w0 X M e (.slice none 0 0) [] := fun w _ => ⟨none, 0, rfl, Nat.le_refl _, Nat.zero_le _, .inl ⟨rfl, rfl, rfl⟩⟩
theorem SLe.blk {b off n c : Nat} {T : TypeId} {cs : List Value} (h : (⟨b, T, cs⟩ : Blk) ∈ M) (hn : l.length = n) (hc : n ≤ c) (hm : c ≤ maxLen) (ht : (cs.drop off).take (n * e.n) = rows e l) : SLe w0 X M e (.slice (some ⟨b, off, none⟩) n c) l := fun w hw => by
  subst hn
  refine ⟨_, c, rfl, hc, hm, .inr ⟨_, rfl, Rd.of_block (hw.mem _ h) ?_⟩⟩
  rw [cr_]; exact ht
/-- A row of ours that holds l and nothing else. -/
theorem SLe.mine {b n : Nat} {T : TypeId} {cs : List Value} (h : (⟨b, T, cs⟩ : Blk) ∈ M) (hn : l.length = n) (hm : n ≤ maxLen) (ht : cs = rows e l) : SLe w0 X M e (.slice (some ⟨b, 0, none⟩) n n) l :=
  SLe.blk h hn (Nat.le_refl _) hm (by subst ht; rw [List.drop_zero, ← hn, ← cr_]; exact List.take_length ..)
theorem SLe.max (h : SLe w0 X M e v l) {w : World} (hw : Sat w0 X M w) : l.length ≤ 9223372036854775807 := (h w hw).max
theorem aS_ {T : TypeId} {x : Operand} {s : Nat} (hT : c5_ P T = some s) (hx : evO N S x = some v) (hv : SLe w0 X M e v l) : OpQ P w0 X N ⟨d, .call { callee := .builtin .len, args := #[x], argTypes := #[T] }, ty, ps, af, gd⟩ S M (.int .i64 (l.length : Nat)) := by
  intro w hw
  obtain ⟨p, c, rfl, _⟩ := hv w hw
  exact q_len (w0 := w0) (X := X) (M := M) hT hx w hw
theorem cp_ {T : TypeId} {x y : Operand} {k : Nat} {i : IntKind} (hT : c5_ P T = some e.n) (hx : evO N S x = some v) (hy : evO N S y = some (.int i (k : Int))) (hv : SLe w0 X M e v l) (hk : k < l.length) :
    OpQ P w0 X N ⟨d, .indexAddr T x y, ty, ps, af, gd⟩ S M (.pointer (some (slb v (k * e.n)))) := by
  intro w hw
  obtain ⟨p, c, rfl, hc, hm, h⟩ := hv w hw
  rcases h with ⟨_, h, _⟩ | ⟨a, rfl, hr⟩
  · rw [h] at hk; simp at hk
  · refine q_of (w0 := w0) (X := X) (M := M) (fun w _ => ?_) w hw
    obtain ⟨e', q, hd, hi, hs⟩ := dF_ hT
    have h0 : (0 : Int) ≤ (k : Int) := Int.natCast_nonneg k
    have h1 : (k : Int) < ((l.length : Nat) : Int) := Int.ofNat_lt.2 hk
    simp [execOp, au_ hx, au_ hy, Instr.indexAt, asIntOf, run_underlying hd, sizeOf, typeInfo, hi, hs, h0, h1, slb]
    omega
theorem mj_ {T : TypeId} {x : Operand} {f o n m : Nat} (hT : eU_ P T f = some (o, n)) (hx : evO N S x = some (.pointer (some (slb v m)))) (hn : Nat.beq n 0 = false) : OpQ P w0 X N ⟨d, .fieldAddr T x f, ty, ps, af, gd⟩ S M (.pointer (some (slb v (m + o)))) :=
  q_of fun w _ => by
    obtain ⟨fs, y, i, hd, hf, hi, ho, hs⟩ := g1_ hT
    have hn' : n ≠ 0 := fun h => by subst h; cases hn
    simp [execOp, au_ hx, Instr.fieldAt, run_underlying hd, hf, Instr.sureAddr, fieldPlace, sizeOf, typeInfo, hi, hs, hn', ho, ko_]
theorem Slr.at {w : World} {k : Nat} {x : α} (h : Slr w e v l) (hk : l[k]? = some x) : Rd w (slb v (k * e.n)) (e.cs x) := by
  obtain ⟨p, c, rfl, hc, hm, h⟩ := h
  rcases h with ⟨_, h, _⟩ | ⟨a, rfl, hr⟩
  · rw [h] at hk; simp at hk
  · have := hr.sub (k * e.n) e.n
    rw [kR_ hk] at this; exact this
theorem pW_ {T : TypeId} {n : Nat} {w : World} {a : Addr} {vs : List Value} (hT : tyOf P T = some (true, n)) (h : Rd w a vs) (hl : vs.length = n) : (Instr.loadAt T (.pointer (some a))).run P w = .ok (.agg vs.toArray) w := by
  have hx := run_loadCells_list (P := P) w a vs (fun j v hj => h j v hj)
  rw [hl] at hx
  simp [Instr.loadAt, Instr.sureAddr, loadVar, (eB_ (w := w) hT).1, (eB_ (w := w) hT).2, hx]
theorem nO_ {T : TypeId} {s : Nat} {w : World} {a : Addr} {v : Value} (hT : tyOf P T = some (false, s)) (h : Rd w a [v]) : (Instr.loadAt T (.pointer (some a))).run P w = .ok v w := by
  have hc := h 0 v rfl
  have ha : a.add 0 = a := by simp [Addr.add]
  rw [ha] at hc
  simp [Instr.loadAt, Instr.sureAddr, loadVar, (eB_ (w := w) hT).1, load, Sem.run, hc]
/-- An element, or a part of it. -/
theorem q_ldG {T : TypeId} {x : Operand} {k o n : Nat} {y : α} {qs : List Part} (hT : tyOf P T = some (true, n)) (hx : evO N S x = some (.pointer (some (slb v (k * e.n + o))))) (hv : SLe w0 X M e v l) (hk : l[k]? = some y) (hc : cutP (e.ps y) o n = some qs) :
    OpQ P w0 X N ⟨d, .load T x, ty, ps, af, gd⟩ S M (AV qs) :=
  q_of fun w hw => by
    have h := ((hv w hw).at hk).sub o n
    rw [El.cs, (eM_ hc).1, ko_] at h
    simp only [execOp, au_ hx, Sem.run_bind, pW_ hT h (eM_ hc).2.1]; rfl
theorem jD_ {T : TypeId} {x : Operand} {k o s : Nat} {y : α} {u : Value} (hT : tyOf P T = some (false, s)) (hx : evO N S x = some (.pointer (some (slb v (k * e.n + o))))) (hv : SLe w0 X M e v l) (hk : l[k]? = some y) (hc : cellP (e.ps y) o = some u) :
    OpQ P w0 X N ⟨d, .load T x, ty, ps, af, gd⟩ S M u :=
  q_of fun w hw => by
    have h := ((hv w hw).at hk).sub o 1
    have hu : ((e.cs y).drop o).take 1 = [u] := by
      have h1 := gj_ hc
      have hlt := (List.getElem?_eq_some_iff.1 h1).1
      rw [show e.cs y = flat (e.ps y) from rfl, List.drop_eq_getElem_cons hlt, List.take_succ_cons, List.take_zero]
      rw [List.getElem?_eq_getElem hlt] at h1
      rw [Option.some.inj h1]
    rw [hu, ko_] at h
    simp only [execOp, au_ hx, Sem.run_bind, nO_ hT h]; rfl
/-- A prefix. -/
theorem Slr.take {w : World} (h : Slr w e v l) {n : Nat} (hn : n ≤ l.length) : Slr w e (sls v n) (l.take n) := by
  obtain ⟨p, c, rfl, hc, hm, h⟩ := h
  have hl : (l.take n).length = n := by rw [List.length_take, Nat.min_eq_left hn]
  refine ⟨p, c, by rw [hl]; rfl, by omega, hm, ?_⟩
  rcases h with ⟨h1, h2, h3⟩ | ⟨a, ha, hr⟩
  · exact .inl ⟨h1, by rw [h2]; simp, h3⟩
  · refine .inr ⟨a, ha, ?_⟩
    have := hr.sub 0 (n * e.n)
    rw [List.drop_zero, gl_] at this
    rwa [show a.add 0 = a by simp [Addr.add]] at this
/-- In w, v is a slice that reads l, and it lies in no block below B. -/
def Slfe {α : Type} (B : Nat) (w : World) (e : El α) (v : Value) (l : List α) : Prop :=
  ∃ p c, v = .slice p l.length c ∧ l.length ≤ c ∧ c ≤ maxLen ∧ ((p = none ∧ l = [] ∧ c = 0) ∨ ∃ b off T, ∃ cs : List Value, p = some ⟨b, off, none⟩ ∧ B ≤ b ∧ w.heap[b]? = some (.cells cs.toArray T (0, 0)) ∧ (cs.drop off).take (l.length * e.n) = rows e l)
/-- Ours, and read. -/
def SLfe (w0 : World) (M : List Blk) (e : El α) (v : Value) (l : List α) : Prop :=
  ∃ p c, v = .slice p l.length c ∧ l.length ≤ c ∧ c ≤ maxLen ∧ ((p = none ∧ l = [] ∧ c = 0) ∨ ∃ b off T cs, p = some ⟨b, off, none⟩ ∧ w0.heap.size ≤ b ∧ (⟨b, T, cs⟩ : Blk) ∈ M ∧ (cs.drop off).take (l.length * e.n) = rows e l)
theorem SLfe.sub (h : SLfe w0 M e v l) (hs : M.Sublist M') : SLfe w0 M' e v l := by
  obtain ⟨p, c, hv, hc, hm, h⟩ := h
  refine ⟨p, c, hv, hc, hm, ?_⟩
  rcases h with h | ⟨b, off, T, cs, hp, hB, hh, ht⟩
  · exact .inl h
  · exact .inr ⟨b, off, T, cs, hp, hB, hs.mem hh, ht⟩
theorem SLfe.sle (h : SLfe w0 M e v l) : SLe w0 X M e v l := fun w hw => by
  obtain ⟨p, c, hv, hc, hm, h⟩ := h
  refine ⟨p, c, hv, hc, hm, ?_⟩
  rcases h with h | ⟨b, off, T, cs, hp, hB, hh, ht⟩
  · exact .inl h
  · exact .inr ⟨_, hp, Rd.of_block (hw.mem _ hh) (by rw [cr_]; exact ht)⟩
theorem SLfe.slfe {w : World} (h : SLfe w0 M e v l) (hw : Sat w0 X M w) : Slfe w0.heap.size w e v l := by
  obtain ⟨p, c, hv, hc, hm, h⟩ := h
  refine ⟨p, c, hv, hc, hm, ?_⟩
  rcases h with h | ⟨b, off, T, cs, hp, hB, hh, ht⟩
  · exact .inl h
  · exact .inr ⟨b, off, T, cs, hp, hB, hw.mem _ hh, ht⟩
theorem SLfe.nil : SLfe w0 M e (.slice none 0 0) [] := ⟨_, 0, rfl, Nat.le_refl _, Nat.zero_le _, .inl ⟨rfl, rfl, rfl⟩⟩
theorem SLfe.mine {b n c : Nat} {T : TypeId} {cs : List Value} (hB : w0.heap.size ≤ b) (h : (⟨b, T, cs⟩ : Blk) ∈ M) (hn : l.length = n) (hc : n ≤ c) (hm : c ≤ maxLen) (ht : cs.take (n * e.n) = rows e l) : SLfe w0 M e (.slice (some ⟨b, 0, none⟩) n c) l := by
  subst hn
  exact ⟨_, c, rfl, hc, hm, .inr ⟨b, 0, T, cs, rfl, hB, h, by rw [List.drop_zero]; exact ht⟩⟩
theorem Slfe.nowf {w w' : World} (h : Slfe w.heap.size w' e v l) (hw : Sat w0 X M w) (he : Ext w w') : ∃ L, Sat w0 X (L ++ M) w' ∧ SLfe w0 L e v l := by
  have hw' := Sat.mono _ _ _ _ _ hw he
  obtain ⟨p, c, hv, hc, hm, h⟩ := h
  rcases h with h | ⟨b, off, T, cs, hp, hB, hh, ht⟩
  · exact ⟨[], hw', p, c, hv, hc, hm, .inl h⟩
  · have hb : b ∉ M.map Blk.b := fun hm => by
      obtain ⟨x, hx, rfl⟩ := List.mem_map.1 hm
      have := aT_? (hw.mem x hx); omega
    refine ⟨[⟨b, T, cs⟩], ⟨hw'.os, hw'.tape, hw'.output, hw'.size, hw'.old, by simpa using And.intro (by simpa using hb) hw'.nodup, fun y hy => ?_⟩, p, c, hv, hc, hm, .inr ⟨b, off, T, cs, hp, Nat.le_trans hw.size hB, by simp, ht⟩⟩
    rcases List.mem_cons.1 hy with rfl | hy
    · exact hh
    · exact hw'.mem y hy
def OwnG (w0 : World) (E : TypeId) (e : El α) (v : Value) (l : List α) (L : List Blk) : Prop :=
  (v = .slice none 0 0 ∧ l = [] ∧ L = []) ∨ ∃ g cap, ∃ cur : List Value, v = .slice (some ⟨g, 0, none⟩) l.length cap ∧ L = [⟨g, E, cur⟩] ∧ w0.heap.size ≤ g ∧ l.length ≤ cap ∧ cap ≤ maxLen ∧ cur.length = cap * e.n ∧ cur.take (l.length * e.n) = rows e l
theorem OwnG.nil {E : TypeId} : OwnG w0 E e (.slice none 0 0) [] [] := .inl ⟨rfl, rfl, rfl⟩
theorem OwnG.slfe {E : TypeId} {L : List Blk} (h : OwnG w0 E e v l L) (hs : L.Sublist M) : SLfe w0 M e v l := by
  rcases h with ⟨rfl, rfl, rfl⟩ | ⟨g, cap, cur, rfl, rfl, hg, hc, hm, hl, ht⟩
  · exact SLfe.nil
  · exact ⟨_, cap, rfl, hc, hm, .inr ⟨g, 0, E, cur, rfl, hg, hs.mem (by simp), by rw [List.drop_zero]; exact ht⟩⟩
theorem OwnG.of_mine {E : TypeId} {b n : Nat} {cs : List Value} (hb : w0.heap.size ≤ b) (hn : l.length = n) (hm : n ≤ maxLen) (ht : cs = rows e l) : OwnG w0 E e (.slice (some ⟨b, 0, none⟩) n n) l [⟨b, E, cs⟩] := by
  subst hn ht
  exact .inr ⟨b, l.length, rows e l, rfl, rfl, hb, Nat.le_refl _, hm, cr_ l, List.take_of_length_le (by rw [cr_]; exact Nat.le_refl _)⟩
/-- The elements' sizes: cells, bytes. -/
def tySz (P : Program) (E : TypeId) (n bytes : Nat) : Bool := match P.info? E with
  | some i => i.size == n && i.bytes == bytes && (match i.zero with | some z => z.cells.size == n | none => false)
  | none => false
theorem mS_ {T E : TypeId} {x y : Operand} {u : Value} {m : List α} {L M1 : List Blk} {bytes : Nat} {K : Value → List Blk → Prop} (hT : P.underlying T = some (.slice E)) (hE : tySz P E e.n bytes = true) (h0 : 0 < e.n) (hx : evO N S x = some v) (hy : evO N S y = some u)
    (hv : OwnG w0 E e v l L) (hu : SLe w0 X M e u m) (hs : (L ++ M1).Sublist M) (hn : (l.length + m.length) * bytes ≤ 140737488355328) (h8 : 0 < bytes) (k : ∀ v' L', OwnG w0 E e v' (l ++ m) L' → K v' (L' ++ M1)) :
    OpR P w0 X N ⟨d, .call { callee := .builtin .append, args := #[x, y], argTypes := #[T, T] }, ty, ps, af, gd⟩ S M K := by
  intro w hw
  unfold tySz at hE
  cases hi : P.info? E with
  | none => simp [hi] at hE
  | some i =>
  cases hz : i.zero with
  | none => simp [hi, hz] at hE
  | some z =>
  simp only [hi, hz, Bool.and_eq_true, beq_iff_eq] at hE
  obtain ⟨⟨h1, hby⟩, hzc⟩ := hE
  have hlen : l.length + m.length ≤ 140737488355328 := Nat.le_trans (Nat.le_mul_of_pos_right _ h8) hn
  have hw1 : Sat w0 X (L ++ M1) w := hw.sub hs
  have hown : w.ownsRow w0.heap.size E e.n v l.length (rows e l) := by
    refine ⟨cr_ l, ?_⟩
    rcases hv with ⟨rfl, rfl, rfl⟩ | ⟨g, cap, cur, rfl, rfl, hg, hc, hm, hl, ht⟩
    · exact .inl ⟨rfl, rfl⟩
    · exact .inr ⟨g, cap, cur.toArray, rfl, hg, hw1.mem ⟨g, E, cur⟩ (by simp), hc, hm, by simp [hl], ht⟩
  have hrow : ∀ k, v.ownBlock = some k → k ∈ L.map Blk.b ∧ w0.heap.size ≤ k := by
    intro k hk
    rcases hv with ⟨rfl, rfl, rfl⟩ | ⟨g, cap, cur, rfl, rfl, hg, hc, hm, hl, ht⟩
    · cases hk
    · obtain rfl : g = k := by simpa [Value.ownBlock] using hk
      exact ⟨by simp, hg⟩
  have hrun : ∃ v' w', (Builtin.append_ #[T, T] ty #[v, u]).run P w = .ok v' w' ∧ w'.ownsRow w0.heap.size E e.n v' (l.length + m.length) (rows e l ++ rows e m) ∧ w.grownBy w' v.ownBlock ∧ (v'.ownBlock = v.ownBlock ∨ v'.ownBlock = some w.heap.size) := by
    obtain ⟨p, c, rfl, hc, hm', h⟩ := hu w hw
    rcases h with ⟨rfl, rfl, rfl⟩ | ⟨a, rfl, hr⟩
    · refine ⟨v, w, ?_, by simpa [rows] using hown, ⟨rfl, rfl, rfl, Nat.le_refl _, fun _ _ _ => rfl⟩, .inl rfl⟩
      rcases hv with ⟨rfl, rfl, rfl⟩ | ⟨g, cap, cur, rfl, rfl, hg, hc, hm, hl, ht⟩
      · simp [Builtin.append_, run_underlying hT, sizeOf, typeInfo, hi, Builtin.lenOf, Builtin.firstCells]
      · simp [Builtin.append_, run_underlying hT, sizeOf, typeInfo, hi, Builtin.lenOf, Builtin.firstCells, hc, storeCells]
    · obtain ⟨v', w', hr, ho, hg, _, hb⟩ := run_append_own_at (P := P) w w0.heap.size T ty E i z e.n bytes hT hi hz h1 hby hzc h0 v l.length (rows e l) hown a m.length c (rows e m) (cr_ m) hr (fun u hu => gC_ (lZ_ m u hu)) (by unfold maxLen; omega) hn hw.size
      exact ⟨v', w', hr, ho, hg, hb⟩
  obtain ⟨v', w', hr, ho, hg, hb⟩ := hrun
  unfold opw
  have hex : (execOp (ev N S) ⟨d, .call { callee := .builtin .append, args := #[x, y], argTypes := #[T, T] }, ty, ps, af, gd⟩).run P w = .ok (.value v') w' := by
    simp [execOp, resolve, invoke, builtin, au_ hx, au_ hy, hr]
  rw [cT_, hex]
  have hko : KeepsOthers w w' := KeepsOthers.of_grownBy hg fun j o hj ho => by
    obtain ⟨x, hx, hxb⟩ := List.mem_map.1 (hrow j hj).1
    have h9 := hw1.mem x (List.mem_append_left _ hx)
    rw [hxb, ho] at h9
    cases h9; rfl
  have hold : ∀ k, k < w0.heap.size → k ∉ X → w'.heap[k]? = w0.heap[k]? := fun k hk hx => by
    rw [hg.block k (Nat.lt_of_lt_of_le hk hw.size) (fun e => by have := (hrow k e.symm).2; omega)]; exact hw.old k hk hx
  have hM1 : ∀ y ∈ M1, w'.heap[y.b]? = some (.cells y.cs.toArray y.T (0, 0)) := fun y hy => by
    have hy' := hw1.mem y (List.mem_append_right _ hy)
    rw [hg.block y.b (aT_? hy') (fun e => ?_)]; exact hy'
    have h2 := hw1.nodup
    rw [List.map_append, List.nodup_append] at h2
    exact h2.2.2 _ (hrow _ e.symm).1 _ (List.mem_map_of_mem hy) rfl
  have hnd1 : (M1.map Blk.b).Nodup := by
    have h2 := hw1.nodup
    rw [List.map_append, List.nodup_append] at h2; exact h2.2.1
  rcases ho.2 with ⟨rfl, hz0⟩ | ⟨g, cap, cur, rfl, hbg, hcell, hnc, hcm, hcs, htk⟩
  · have e0 : l ++ m = [] := List.eq_nil_of_length_eq_zero (by rw [List.length_append]; exact hz0)
    refine ⟨hko, [] ++ M1, ⟨hg.os.trans hw.os, hg.tape.trans hw.tape, hg.output.trans hw.output, Nat.le_trans hw.size hg.size, hold, hnd1, hM1⟩, k _ [] (.inl ⟨rfl, e0, rfl⟩)⟩
  · have hgn : g ∉ M1.map Blk.b := by
      rcases hb with hb | hb
      · have h2 := hw1.nodup
        rw [List.map_append, List.nodup_append] at h2
        exact fun hm => h2.2.2 _ (hrow g hb.symm).1 _ hm rfl
      · have hgs : g = w.heap.size := by simpa [Value.ownBlock] using hb
        intro hm
        obtain ⟨y, hy, hyb⟩ := List.mem_map.1 hm
        have := aT_? (hw1.mem y (List.mem_append_right _ hy))
        omega
    refine ⟨hko, [⟨g, E, cur.toList⟩] ++ M1, ⟨hg.os.trans hw.os, hg.tape.trans hw.tape, hg.output.trans hw.output, Nat.le_trans hw.size hg.size, hold, by simpa using And.intro (by simpa using hgn) hnd1, fun y hy => ?_⟩,
      k _ _ (.inr ⟨g, cap, cur.toList, by rw [List.length_append], rfl, hbg, by rw [List.length_append]; exact hnc, hcm, by simpa using hcs, by rw [List.length_append, ez_]; exact htk⟩)⟩
    rcases List.mem_cons.1 hy with rfl | hy
    · simpa using hcell
    · exact hM1 y hy
end
end Go.Kn
namespace Go.Kn
def sm {σ ρ β : Type} (f : σ → β) (g : ρ → β) : σ ⊕ ρ → β
  | .inl s => f s
  | .inr r => g r
theorem sm_r {σ ρ β : Type} {f : σ → β} {g : ρ → β} {x : σ ⊕ ρ} {r : ρ} {v : β} (h : x = .inr r) (k : v = g r) : v = sm f g x := by rw [h]; exact k
def ap {σ β : Type} (f : σ → β) (x : σ) : β := f x
theorem hC_ {α : Type} {l r : List α} {i : Nat} {x : α} (h : l.drop i = x :: r) : l[i]? = some x ∧ i < l.length ∧ l.drop (i + 1) = r := by
  have h1 : i < l.length := by
    rcases Nat.lt_or_ge i l.length with h' | h'
    · exact h'
    · rw [List.drop_of_length_le h'] at h; cases h
  rw [List.drop_eq_getElem_cons h1] at h
  simp only [List.cons.injEq] at h
  exact ⟨by rw [List.getElem?_eq_getElem h1, h.1], h1, h.2⟩
theorem n5_ {α : Type} {l : List α} {i : Nat} (h : l.drop i = []) : l.length ≤ i := by simpa using h
theorem wi {n : Int} (h : -9223372036854775808 ≤ n ∧ n ≤ 9223372036854775807) : IntKind.i64.wrap n = n := by
  unfold IntKind.wrap
  simp [IntKind.bits, IntKind.signed]
  omega
end Go.Kn
namespace Go.Kn
theorem nxt {n i : Nat} (hi : i < n) (hm : n ≤ 9223372036854775807) : IntKind.i64.wrap ((i : Int) + 1) = ((i + 1 : Nat) : Int) := by rw [wi (by omega)]; omega
theorem me_ {α : Type} {l : List α} {i : Nat} (h : l.drop i = []) : decide ((i : Int) < ((l.length : Nat) : Int)) = false := decide_eq_false (by have := n5_ h; omega)
theorem lA_ {α : Type} {l r : List α} {i : Nat} {x : α} (h : l.drop i = x :: r) : decide ((i : Int) < ((l.length : Nat) : Int)) = true := decide_eq_true (by have := (hC_ h).2.1; omega)
end Go.Kn
namespace Go.Kn
open Go.RowKit
def AllP (s : Nat) : Nat → List (Nat × Value) → List (List Part) → Prop
  | _, [], [] => True
  | i, (j, v) :: ps, q :: qs => j = i ∧ v.cells = (flat q).toArray ∧ psize q = s ∧ AllP s (i + 1) ps qs
  | _, _, _ => False
theorem jH_ {s : Nat} : ∀ (parts : List (Nat × Value)) (qs : List (List Part)) (i : Nat) (pre post : List Value), AllP s i parts qs → pre.length = i * s → post.length = parts.length * s →
    FillR (fun i => some (i * s, s)) (pre ++ post) parts (pre ++ flat qs.flatten)
  | [], [], i, pre, post, _, _, hq => by
    have : post = [] := List.eq_nil_of_length_eq_zero (by simpa using hq)
    subst this; exact .nil _
  | (j, v) :: ps, q :: qs, i, pre, post, h, hp, hq => by
    obtain ⟨rfl, hv, hs, h⟩ := h
    have hl : (flat q).length = s := (el_ _).trans hs
    have hq' : post.length = ps.length * s + s := by rw [hq, List.length_cons, Nat.succ_mul]
    have ih := jH_ ps qs (j + 1) (pre ++ flat q) (post.drop s) h (by rw [List.length_append, hp, hl, Nat.succ_mul]) (by rw [List.length_drop]; omega)
    rw [List.flatten_cons, da_, ← List.append_assoc]
    refine .cons rfl hv hl (by rw [List.length_append, hp]; omega) ?_ ih
    rw [← hp, List.take_left, ← List.drop_drop, List.drop_left]
  | [], _ :: _, _, _, _, h, _, _ => h.elim
  | _ :: _, [], _, _, _, h, _, _ => h.elim
section
variable {P : Program} {w0 : World} {X : List Nat} {N : Nm} {S : Fr} {M : List Blk} {d : Option Tmp} {ty : TypeId} {ps : String} {af : Array Edge} {gd : Option (Nat × Bool)}
theorem az_ {T E : TypeId} {xs : List (Nat × Operand)} {parts : List (Nat × Value)} {n s : Nat} {z : List Value} {K : Value → List Blk → Prop} (qs : List (List Part)) (out : List Part) (hT : P.underlying T = some (.slice E)) (hz : dq_ P E = some z) (hs : (P.info? E).map (·.size) = some s)
    (hzl : z.length = s) (hn : n * s ≤ 16777216) (hx : evP N S xs = some parts) (hpl : parts.length = n) (h : AllP s 0 parts qs) (ho : qs.flatten = out) (k : ∀ b, w0.heap.size ≤ b → K (.slice (some ⟨b, 0, none⟩) n n) (⟨b, E, flat out⟩ :: M)) :
    OpR P w0 X N ⟨d, .buildSlice T n xs.toArray, ty, ps, af, gd⟩ S M K := by
  subst ho
  refine cS_ hT hz hs hzl hn hx ?_ k
  have := jH_ parts qs 0 [] ((List.replicate n z).flatten) h (by simp) (by rw [hpl]; simp [hzl])
  simpa using this
theorem hi_ {x y : Operand} {tys : Array TypeId} {k : IntKind} {a b : Int} (hx : evO N S x = some (.int k a)) (hy : evO N S y = some (.int k b)) : OpQ P w0 X N ⟨d, .call { callee := .builtin .max, args := #[x, y], argTypes := tys }, ty, ps, af, gd⟩ S M (.int k (if b > a then b else a)) :=
  q_of fun w _ => by
    simp only [execOp, resolve, invoke, builtin, Sem.run_bind, Sem.run_pure, Result.andThen_ok, List.map_toArray, List.map_cons, List.map_nil, au_ hx, au_ hy, run_max_int2]
theorem qA_ {x y : Operand} {tys : Array TypeId} {k : IntKind} {a b : Int} (hx : evO N S x = some (.int k a)) (hy : evO N S y = some (.int k b)) : OpQ P w0 X N ⟨d, .call { callee := .builtin .min, args := #[x, y], argTypes := tys }, ty, ps, af, gd⟩ S M (.int k (if b < a then b else a)) :=
  q_of fun w _ => by
    simp only [execOp, resolve, invoke, builtin, Sem.run_bind, Sem.run_pure, Result.andThen_ok, List.map_toArray, List.map_cons, List.map_nil, au_ hx, au_ hy, run_min_int2]
end
end Go.Kn
namespace Go.Kn
/-- Ways meet behind x, and y goes on. -/
theorem ch_ {P : Program} {w0 : World} {X : List Nat} {N : Nm} {Q Q0 : Post} {S0 : Fr} {M0 : List Blk} {x y : Code} (hK : ∀ S M, W P w0 X N y Q0 S M → Q .normal S M) (mods : List Nat) (R : (Nat → Value) → List Blk → Prop)
    (hx : ∀ K : Fr → List Blk → Prop, (∀ S M, PutOn mods S0 S → (∃ M', M'.Sublist M ∧ R (look S) M') → K S M) → W P w0 X N x (thenK K Q) S0 M0)
    (hy : ∀ g M, R g M → W P w0 X N y Q0 (setG S0 g mods) M) : W P w0 X N x Q S0 M0 := by
  refine mJ_ (hx (fun S M => PutOn mods S0 S ∧ ∃ M', M'.Sublist M ∧ R (look S) M') (fun S M h1 h2 => ⟨h1, h2⟩)) ?_
  intro e S M h
  cases e with
  | normal =>
    obtain ⟨hp, M', hs, hr⟩ := h
    exact hK S M (kv_ (fY_ hp) (W_sub hs (hy _ _ hr)))
  | exit id => exact h
  | goto l => exact h
  | ret => exact h
  | panic c => exact h
  | outgrown => exact h
end Go.Kn
namespace Go.Kn
end Go.Kn
namespace Go.Kn
theorem sm_q {σ ρ β : Type} {f : σ → β} {g : ρ → β} {x : σ ⊕ ρ} {r : ρ} {v : β} (k : v = g r) (h : x = .inr r) : v = sm f g x := sm_r h k
end Go.Kn
namespace Go.Kn
open Go.RowKit
def slk (k s : Nat) : Value → Value
  | .slice a len cap => .slice (if cap = k then a else a.map (·.add (k * s))) (len - k) (cap - k)
  | v => v
theorem Slr.drop {α : Type} {e : El α} {v : Value} {l : List α} {w : World} (h : Slr w e v l) {k : Nat} (hk : k ≤ l.length) : Slr w e (slk k e.n v) (l.drop k) := by
  obtain ⟨p, c, rfl, hc, hm, h⟩ := h
  refine ⟨_, c - k, by rw [List.length_drop]; rfl, by rw [List.length_drop]; omega, by unfold maxLen at *; omega, ?_⟩
  rcases h with ⟨h1, h2, h3⟩ | ⟨a, ha, hr⟩
  · subst h1 h2 h3
    obtain rfl : k = 0 := by simpa using hk
    exact .inl ⟨rfl, rfl, rfl⟩
  · subst ha
    by_cases hck : c = k
    · refine .inr ⟨a, by rw [if_pos hck], ?_⟩
      have : l.drop k = [] := List.drop_of_length_le (by omega)
      rw [this]; intro j v hj; cases hj
    · refine .inr ⟨a.add (k * e.n), by rw [if_neg hck]; rfl, ?_⟩
      have h2 := hr.sub (k * e.n) ((l.length - k) * e.n)
      rw [jA_, List.take_of_length_le (by rw [cr_, List.length_drop]; exact Nat.le_refl _)] at h2
      exact h2
section
variable {α : Type} {e : El α} {P : Program} {w0 : World} {X : List Nat} {N : Nm} {S : Fr} {M : List Blk} {d : Option Tmp} {ty : TypeId} {ps : String} {af : Array Edge} {gd : Option (Nat × Bool)} {v : Value} {l : List α}
theorem SLe.drop (h : SLe w0 X M e v l) {k : Nat} (hk : k ≤ l.length) : SLe w0 X M e (slk k e.n v) (l.drop k) := fun w hw => (h w hw).drop hk
end
theorem ea_ {a b : Int} (h : (a == b) = true) : a = b := by simpa using h
theorem c9_ {a b : Int} (h : (a == b) = false) : a ≠ b := by simpa using h
end Go.Kn
namespace Go.Kn
section
variable {α : Type} {e : El α} {w0 : World} {X : List Nat} {M : List Blk} {v : Value} {l : List α}
theorem hk_ : ∀ l : List α, flat (l.flatMap e.ps) = rows e l
  | [] => rfl
  | x :: l => by
    rw [List.flatMap_cons, da_, hk_ l]; simp [rows, El.cs]
/-- A literal of ours, told in parts. -/
theorem SLe.lit {b n : Nat} {T : TypeId} {qs : List Part} (h : (⟨b, T, flat qs⟩ : Blk) ∈ M) (hn : l.length = n) (hm : n ≤ maxLen) (hq : qs = l.flatMap e.ps) : SLe w0 X M e (.slice (some ⟨b, 0, none⟩) n n) l :=
  SLe.mine h hn hm (by rw [hq]; exact hk_ l)
theorem SLe.ap {w : World} (hw : Sat w0 X M w) (h : SLe w0 X M e v l) : Slr w e v l := h w hw
end
end Go.Kn

set_option linter.unusedVariables false
set_option linter.unusedSimpArgs false
namespace Go.Kn
open Go.RowKit
section
variable {P : Program} {w0 : World} {X : List Nat} {S : Fr} {M : List Blk} {d : Option Tmp} {ty : TypeId} {p : String} {af : Array Edge} {gd : Option (Nat × Bool)}
theorem ly_ {id : Nat} {Q : Post} (h : Q .normal S M) : i4_ id Q .normal S M := h
theorem pN_ {next : Fr → List Blk → Prop} {Q : Post} (h : next S M) : thenK next Q .normal S M := h
/-- A function's value, with what it has captured. -/
abbrev cfn (g : Nat) (cap : List Value) : Part := ⟨1, [.func (.func g) #[] cap.toArray], rfl, fun v h => by rw [List.mem_singleton.1 h]; rfl⟩
abbrev csl (a : Option Addr) (l c : Nat) : Part := ⟨1, [.slice a l c], rfl, fun v h => by rw [List.mem_singleton.1 h]; rfl⟩
/-- A call that is walked in place: a function's. -/
theorem r_inl {N : Nm} {n' : Nat} {g : FuncId} {fn : Func} {c : Code} {xs : List Operand} {tys : Array TypeId} {args : List Value} {K : Value → List Blk → Prop} (he : al_ P g = true) (hf : P.funcs[g]? = some fn) (hb : fn.body = some c) (hn : fn.ntmps = n')
    (ha : evL N S xs = some args) (hl : args.length ≤ n') (h : W P w0 X (pl n') c (eh_ P fn w0 X (pl n') K) (initF 0 args) M) : OpR P w0 X N ⟨d, .call { callee := .value (.func g), args := xs.toArray, argTypes := tys }, ty, p, af, gd⟩ S M K :=
  jg_ he ha fun w hw => dZ_ hf hb hn hl hw h
/-- What is no cells turns; none of ours. -/
theorem Sat.putO {w : World} {b : Nat} {o : Obj} (h : Sat w0 X M w) (hb : w0.heap.size ≤ b) (hd : w.heap[b]? = some o) (ho : o.isCells = false) (o' : Obj) : Sat w0 X M (w.putObj b o') :=
  ⟨h.os, h.tape, h.output, by rw [World.putObj_size]; exact h.size, fun k hk hx => (World.putObj_heap_other (by omega)).trans (h.old k hk hx), h.nodup, fun x hx => by
    refine (World.putObj_heap_other (fun e => ?_)).trans (h.mem x hx)
    have := h.mem x hx
    rw [e, hd] at this; cases this; cases ho⟩
theorem DG.lt {B : Nat} {w : World} : ∀ {D : List Deferred}, DG B D w → ∀ e ∈ D, ∃ b, e.target = .collected b ∧ b < w.heap.size
  | d :: D, ⟨⟨b, h1, _, h3, _⟩, h⟩, e, he => by
    rcases List.mem_cons.1 he with rfl | he
    · exact ⟨b, by rw [h1], aT_? h3⟩
    · exact DG.lt h e he
theorem DG.same {B : Nat} {w w' : World} : ∀ {D : List Deferred}, DG B D w → (∀ (k : Nat) (o : Option (List Deferred)), w.heap[k]? = some (.deferred o) → w'.heap[k]? = some (.deferred o)) → DG B D w'
  | [], _, _ => trivial
  | d :: D, ⟨⟨b, h1, h2, h3, h4⟩, h⟩, hk => ⟨⟨b, h1, h2, hk _ _ h3, h4⟩, DG.same h hk⟩
/-- A frame c1_; its marks are shut. -/
theorem kK_ {fn : Func} {tmps : Array Value} {B n : Nat} {F : Fence} {R : Ending → World → Prop} (hB : w0.heap.size ≤ B) : ∀ (D : List Deferred) (w' : World), DG B D w' → Sat w0 X M w' →
    (∀ w'', Sat w0 X M w'' → w'.heap.size ≤ w''.heap.size → (∀ k, k < B → w''.heap[k]? = w'.heap[k]?) → ∃ v, (results fn tmps).run P w'' = .ok v w'' ∧ R (.returned v) w'') → LeavesInM F n P fn tmps R D .returning w'
  | [], w', _, hs, h => h w' hs (Nat.le_refl _) fun _ _ => rfl
  | d :: D, w', ⟨⟨b, h1, h2, h3, h4⟩, hd⟩, hs, h => by
    refine ⟨by simp, .inl ⟨b, w'.putObj b (.deferred none), by rw [h1], run_takeDeferred h3, kK_ hB D _ ?_ (hs.putO (Nat.le_trans hB h2) h3 rfl _) fun w'' hs' hz hk => h w'' hs' (by rw [World.putObj_size] at hz; exact hz) fun k hlt => (hk k hlt).trans (World.putObj_heap_other (by omega))⟩⟩
    clear h1 hs h
    revert hd h4
    induction D with
    | nil => exact fun _ _ => trivial
    | cons e D ih =>
      rintro h4 ⟨⟨b', g1, g2, g3, g4⟩, hd⟩
      refine ⟨⟨b', g1, g2, (World.putObj_heap_other (fun e' => ?_)).trans g3, g4⟩, ih (fun x hx => h4 x (List.mem_cons_of_mem _ hx)) hd⟩
      exact h4 e List.mem_cons_self (by rw [g1, e'])
/-- What an iterator c1_: its rounds have come to an end, or one has returned. -/
def li_ (P : Program) (fn : Func) (w0 : World) (X : List Nat) (N : Nm) (Q : Post) (S0 : Fr) : Post := fun e S M =>
  (e = .normal ∨ e = .ret) ∧ (∃ v, ∀ w, Sat w0 X M w → (results fn (act N S).tmps).run P w = .ok v w) ∧ (gst S = true → Q .ret S0 M) ∧ (gst S = false → Q .normal S0 M)
theorem qL_ {fn : Func} {N : Nm} {Q : Post} {S0 : Fr} {e : Exit} (hr : fn.results = #[]) (he : e = .normal ∨ e = .ret) (hg : gst S = false) (h : Q .normal S0 M) : li_ P fn w0 X N Q S0 e S M :=
  ⟨he, ⟨.tuple #[], fun w _ => by simp [fO_, hr]⟩, fun h' => (by rw [hg] at h'; cases h'), fun _ => h⟩
theorem jy_ : ∀ (l : List Value) (k : Nat), k + l.length ≤ 1000000 → gst (initF k l) = false
  | [], _, _ => rfl
  | v :: l, k, h => by
    have h1 := jy_ l (k + 1) (by simp only [List.length_cons] at h; omega)
    have h2 : okD (some k) = true := by simp [okD, Nat.blt_eq]; simp only [List.length_cons] at h; omega
    exact (gI_ (S := initF (k + 1) l) (d := some k) (v := v) h2).trans h1
/-- A range over a function: the iterator, walked in place. -/
theorem pV_ {n n' gf : Nat} {g : Operand} {ps : Array Tmp} {assign body c : Code} {fn : Func} {lb : List Value} {Q : Post} (hg : evO (pl n) S g = some (.func (.func gf) #[] lb.toArray)) (he : al_ P gf = true) (hf : P.funcs[gf]? = some fn) (hb : fn.body = some c)
    (hn : fn.ntmps = n') (hl : lb.length + 1 ≤ n') (hm : n' ≤ 1000000)
    (h : ∀ (l : Nat) (ρ : Loop), w0.heap.size ≤ l → ρ.params = ps → ρ.assign = assign → ρ.body = body → ρ.tmps = (act (pl n) S).tmps →
      W P w0 X ⟨n', .iter l ρ⟩ c (li_ P fn w0 X ⟨n', .iter l ρ⟩ Q S) (initF 0 (.func (.yield l) #[] #[] :: lb)) M) : W P w0 X (pl n) (.rangeFunc g ps assign body) Q S M := by
  intro B D w hB hd hr hw
  refine wpIn_rangeFunc (fun fnid _ => ?_)
  obtain ⟨ρ, hρ⟩ : ∃ ρ : Loop, ρ = { state := .ready, pending := none, fn := fnid, tmps := (act (pl n) S).tmps, params := ps, assign, body, defers := w.heap.size } := ⟨_, rfl⟩
  obtain ⟨W1, hW1⟩ : ∃ W1, (w.alloc (.deferred (some []))).alloc (.loop ρ) = W1 := ⟨_, rfl⟩
  have hE : Ext w W1 := by rw [← hW1]; exact ((Below.refl _ w).alloc (Nat.le_refl _) _).alloc (by simp) _
  have hL1 : W1.heap[w.heap.size + 1]? = some (.loop ρ) := by
    rw [← hW1]; have := World.alloc_heap_new (w.alloc (.deferred (some []))) (.loop ρ); rwa [World.size_alloc] at this
  have hK1 : W1.heap[w.heap.size]? = some (.deferred (some [])) := by
    rw [← hW1]; exact (Below.heap_alloc _ _ _ (by simp)).trans (World.alloc_heap_new w _)
  have hz1 : W1.heap.size = w.heap.size + 2 := by rw [← hW1]; simp
  refine ⟨w.heap.size + 1, [{ target := .collected w.heap.size, args := #[] }], W1, { target := .fn (.func gf) lb.toArray, args := #[.func (.yield (w.heap.size + 1)) #[] #[]] }, W1, gf,
    #[.func (.yield (w.heap.size + 1)) #[] #[]] ++ lb.toArray, W1, ?_, ?_, fun _ _ => trivial, ?_, fun e => (by cases e), ?_⟩
  · rw [← hW1, hρ]; exact run_enterLoop_outer _ _ _ _ _
  · have hg' : (actD D (pl n) S).eval g = .func (.func gf) #[] lb.toArray := by rw [go_]; exact au_ hg
    simp only [resolve, hg']
    simp [go_sem]
  · simp [invoke, go_sem, jR_ he]
  · refine callsIn_of_wp_marks (F := gg_ none) (n := 0) hf hb trivial ?_ rfl
    have h1 := h (w.heap.size + 1) ρ (by have := hw.size; omega) (by rw [hρ]) (by rw [hρ]) (by rw [hρ]) (by rw [hρ]) W1.heap.size [] W1 (Nat.le_refl _) trivial ?_ (Sat.mono _ _ _ _ _ hw hE)
    · rw [ja_ [] _ _ (by simp only [List.length_cons]; exact hl)] at h1
      rw [hn]
      have harg : (Value.func (.yield (w.heap.size + 1)) #[] #[] :: lb).toArray = #[.func (.yield (w.heap.size + 1)) #[] #[]] ++ lb.toArray := by simp
      rw [harg] at h1
      refine wpIn_mono h1 ?_
      rintro e a w' ⟨D', S', M', rfl, hs, hk, hd', hr', hne, ⟨v, hv⟩, hq1, hq2⟩
      have key : LeavesInM (gg_ none) 0 P fn (actD D' ⟨n', .iter (w.heap.size + 1) ρ⟩ S').tmps (rangePost (gg_ none) 0 P (w.heap.size + 1) (lift w0 X (pl n) B w Q) { actD D (pl n) S with defers := [{ target := .collected w.heap.size, args := #[] }] ++ (actD D (pl n) S).defers }) D' .returning w' := by
        refine kK_ (w0 := w0) (X := X) (M := M') (by have := hw.size; omega : w0.heap.size ≤ W1.heap.size) D' w' hd' hs fun w'' hs'' hz hsame => ⟨v, hv w'' hs'', ?_⟩
        have hlt : w.heap.size + 1 < W1.heap.size := by omega
        have hl2 : ∀ k, k < w.heap.size → w''.heap[k]? = w'.heap[k]? := fun k hk => hsame k (by omega)
        have hd2 : w''.heap[w.heap.size]? = some (.deferred (some [])) := (hsame _ (by omega)).trans (hk.same _ _ (fun l ρ' e => by cases e; omega) hK1 rfl)
        have hzz : w.heap.size ≤ w''.heap.size := by have := hk.size; omega
        have fin : ∀ (r r' : Loop) (e : Exit), w''.heap[w.heap.size + 1]? = some (.loop r) → Q e S M' → lift w0 X (pl n) B w Q e { actD D (pl n) S with defers := [{ target := .collected w.heap.size, args := #[] }] ++ (actD D (pl n) S).defers } (w''.putObj (w.heap.size + 1) (.loop r')) := by
          intro r r' e hl3 hq
          have hko : KO .plain w (w''.putObj (w.heap.size + 1) (.loop r')) := ⟨by rw [World.putObj_size]; exact hzz, fun k o _ hk1 ho => by
            have hlk := aT_? hk1
            refine (World.putObj_heap_other (by omega)).trans ((hl2 k hlk).trans (hk.same k o (fun l ρ' e => by cases e; omega) ?_ ho))
            exact (Below.block hE k hlk).trans hk1⟩
          refine ⟨{ target := .collected w.heap.size, args := #[] } :: D, S, M', rfl, hs''.putO (by have := hw.size; omega) hl3 rfl _, hko, ⟨⟨_, rfl, hB, (World.putObj_heap_other (by omega)).trans hd2, fun e he h => ?_⟩, DG.ko hr hko hd⟩, fun _ _ h => (by cases h), hq⟩
          obtain ⟨b, hb1, hb2⟩ := DG.lt hd e he
          rw [h] at hb1; cases hb1; omega
        have hrec := hr' (w.heap.size + 1)
        cases hgs : gst S' with
        | false =>
          have hl3 := (hsame _ hlt).trans (hrec { ρ with state := .ready, pending := none } (by simp only [recOf, hgs]; rfl))
          exact ⟨none, _, run_endLoop hl3 (by simp), fin _ _ _ hl3 (hq2 hgs)⟩
        | true =>
          have hl3 := (hsame _ hlt).trans (hrec { ρ with state := .done, pending := some .ret } (by simp only [recOf, hgs]; rfl))
          exact ⟨some .ret, _, run_endLoop hl3 (by simp), wpIn_ret (fin _ _ _ hl3 (hq1 hgs))⟩
      rcases hne with rfl | rfl
      · exact key
      · exact key
    · intro l ρ' hrec
      have hg0 := jy_ (.func (.yield (w.heap.size + 1)) #[] #[] :: lb) 0 (by simp only [List.length_cons]; omega)
      simp only [recOf, hg0, cond_false, Option.some.injEq, Prod.mk.injEq] at hrec
      obtain ⟨rfl, rfl⟩ := hrec
      rw [hL1, hρ]
/-- How a round is left. -/
def mc_ (S : Fr) (K : Value → Fr → List Blk → Prop) : Post
  | .normal, _, M => K (.bool true) S M
  | .ret, _, M => K (.bool false) ((1000000, .bool false) :: S) M
  | _, _, _ => False
theorem pY_ {K : Value → Fr → List Blk → Prop} {S' : Fr} (h : K (.bool true) S M) : mc_ S K .normal S' M := h
def zipS : List Tmp → List Value → Fr → Fr
  | p :: ps, v :: vs, S => zipS ps vs ((p, v) :: S)
  | _, _, S => S
theorem n1_ (n : Nm) : ∀ (ps : List Tmp) (vs : List Value) (S : Fr), ((ps.toArray.zip vs.toArray).foldl (fun tmps (t, a) => tmps.setIfInBounds t a) (act n S).tmps) = (act n (zipS ps vs S)).tmps := by
  intro ps vs S
  rw [List.zip_toArray, List.foldl_toArray]
  induction ps generalizing vs S with
  | nil => rfl
  | cons p ps ih =>
    cases vs with
    | nil => rfl
    | cons v vs =>
      simp only [List.zip_cons_cons, List.foldl_cons, zipS]
      have : (act n S).tmps.setIfInBounds p v = (act n ((p, v) :: S)).tmps := congrArg Act.tmps (p0_ n S (some p) v)
      rw [this]; exact ih vs _
/-- A call of yield: the round, walked in place. -/
theorem pL_ {n n' l : Nat} {ρ : Loop} {f : Operand} {xs : List Operand} {tys : Array TypeId} {ps : List Tmp} {args : List Value} {assign body : Code} {S0 : Fr} {K : Value → Fr → List Blk → Prop} (hf : evO ⟨n', .iter l ρ⟩ S f = some (.func (.yield l) #[] #[])) (ha : evL ⟨n', .iter l ρ⟩ S xs = some args)
    (hg : gst S = false) (hp : ρ.params = ps.toArray) (hpa : ρ.assign = assign) (hpb : ρ.body = body) (ht : ρ.tmps = (act (pl n) S0).tmps) (hs : args.length = ps.length) (hN : Nat.ble n' 1000000 = true) (hlb : w0.heap.size ≤ l)
    (h : W P w0 X ⟨n, .round l ρ .ready⟩ assign (thenK (fun S' M' => W P w0 X ⟨n, .round l ρ .busy⟩ body (mc_ S K) S' M') (fun _ _ _ => False)) (zipS ps args S0) M) :
    OpS P w0 X ⟨n', .iter l ρ⟩ ⟨d, .call { callee := .value f, args := xs.toArray, argTypes := tys }, ty, p, af, gd⟩ S M K := by
  intro w hr hw
  have hl : w.heap[l]? = some (.loop { ρ with state := .ready, pending := none }) := hr l _ (by simp only [recOf, hg, cond_false])
  have hy := run_yield (P := P) (args := args.toArray) hl (by rw [hp]; simpa using hs)
  unfold opw
  rw [cT_]
  have hexec : (execOp (ev ⟨n', .iter l ρ⟩ S) ⟨d, .call { callee := .value f, args := xs.toArray, argTypes := tys }, ty, p, af, gd⟩).run P w = (Instr.yield l args.toArray).run P w := by
    have hx : Array.map (ev ⟨n', .iter l ρ⟩ S) xs.toArray = args.toArray := by rw [← ff_ ha]; simp
    simp only [execOp, resolve, au_ hf, Deferred.ofValue, Sem.run_bind, Sem.run_pure, Result.andThen_ok, invoke, hx]
    simp
  rw [hexec, hy]
  refine roundIn_of_wpIn (F := Fence.wide) trivial ?_
  have hrr : ∀ st, w.heap[l]? = some (.loop { ρ with state := st, pending := none }) → RecAt (.round l ρ st) (zipS ps args S0) w := fun st h l' ρ' e => by cases e; exact h
  have h1 := h w.heap.size [] w (Nat.le_refl _) trivial (hrr _ hl) hw
  have hz : actD [] ⟨n, .round l ρ .ready⟩ (zipS ps args S0) = { tmps := (act (pl n) (zipS ps args S0)).tmps, defers := [] } := rfl
  rw [hz, ← n1_, ← ht, ← hp, ← hpa] at h1
  refine wpIn_mono h1 ?_
  rintro e a1 w1 ⟨D1, S1, M1, rfl, hs1, hk1, hd1, hr1, q⟩
  cases e with
  | normal =>
    have hl1 : w1.heap[l]? = some (.loop { ρ with state := .ready, pending := none }) := hr1 _ _ rfl
    have hlt1 := aT_? hl1
    refine ⟨_, run_beginRound hl1 rfl, ?_⟩
    have hl2 : (w1.putObj l (.loop { ρ with state := .busy, pending := none })).heap[l]? = some (.loop { ρ with state := .busy, pending := none }) := World.putObj_heap_same hlt1
    have q1 : W P w0 X ⟨n, .round l ρ .busy⟩ body (mc_ S K) S1 M1 := q
    have h2 := q1 w.heap.size D1 (w1.putObj l (.loop { ρ with state := .busy, pending := none })) (by rw [World.putObj_size]; exact hk1.size) (hd1.same fun k o hk => (World.putObj_heap_other (fun e => by subst e; rw [hl1] at hk; cases hk)).trans hk)
      (fun l' ρ' e => by cases e; exact hl2) (hs1.putO hlb hl1 rfl _)
    rw [← hpb] at h2
    refine wpIn_mono h2 ?_
    rintro e3 a3 w3 ⟨D3, S3, M3, rfl, hs3, hk3, hd3, hr3, q3⟩
    have hl3 : w3.heap[l]? = some (.loop { ρ with state := .busy, pending := none }) := hr3 _ _ rfl
    have hlt3 := aT_? hl3
    have hko : ∀ o, KO (.iter l ρ) w (w3.putObj l o) := fun o => ⟨by rw [World.putObj_size]; have := hk1.size; have := hk3.size; rw [World.putObj_size] at this; omega, fun k o hne hk ho => by
      have hkl := hne _ _ rfl
      refine (World.putObj_heap_other hkl).trans (hk3.same k o (fun _ _ e => by cases e) ((World.putObj_heap_other hkl).trans (hk1.same k o (fun _ _ e => by cases e) hk ho)) ho)⟩
    cases e3 with
    | normal =>
      refine ⟨_, _, run_endRound none hl3, .bool true, rfl, hko _, S, M3, fun _ => rfl, fun l' ρ' e => ?_, hs3.putO hlb hl3 rfl _, q3⟩
      simp only [recOf, hg, cond_false, Option.some.injEq, Prod.mk.injEq] at e
      obtain ⟨rfl, rfl⟩ := e
      exact World.putObj_heap_same hlt3
    | ret =>
      refine ⟨_, _, run_endRound (some .ret) hl3, .bool false, rfl, hko _, (1000000, .bool false) :: S, M3, fun D => ?_, fun l' ρ' e => ?_, hs3.putO hlb hl3 rfl _, q3⟩
      · unfold actD
        congr 2
        refine List.map_congr_left fun i hi => ?_
        rw [e2_, if_neg]
        have h1 : i < n' := List.mem_range.1 hi
        have h2 : n' ≤ 1000000 := Nat.le_of_ble_eq_true hN
        intro e; omega
      · have : gst ((1000000, .bool false) :: S) = true := rfl
        simp only [recOf, this, cond_true, Option.some.injEq, Prod.mk.injEq] at e
        obtain ⟨rfl, rfl⟩ := e
        exact World.putObj_heap_same hlt3
    | exit id => exact q3.elim
    | goto t => exact q3.elim
    | panic ch => exact q3.elim
    | outgrown => exact q3.elim
  | exit id => exact q.elim
  | goto t => exact q.elim
  | ret => exact q.elim
  | panic ch => exact q.elim
  | outgrown => exact q.elim
theorem WL_y {N : Nm} {ops : List Oper} {Q : Fr → List Blk → Prop} {o : Oper} {l : List Oper} (hg : wantD N ops S o = true) (h : OpS P w0 X N o S M (fun v S' M' => WL P w0 X N ops Q l (putS S' o.dst v) M')) :
    WL P w0 X N ops Q (o :: l) S M := by
  simp only [WL]; exact ⟨(dv_ hg).1, by rw [if_pos (dv_ hg).2]; exact h⟩
end
end Go.Kn

set_option linter.unusedVariables false
set_option linter.unusedSimpArgs false
namespace Go.Num
open Go Go.Kn
instance (n : Int) : Decidable (I64 n) := by unfold I64; infer_instance
/-- A Go int. -/
abbrev W := {n : Int // I64 n}
theorem eI_ (n : Int) : I64 (IntKind.i64.wrap n) := by rw [iF_]; unfold I64; split <;> omega
abbrev wl (n : Int) (h : I64 n := by decide) : W := ⟨n, h⟩
def W.add (a b : W) : W := ⟨IntKind.i64.wrap (a.1 + b.1), eI_ _⟩
def W.sub (a b : W) : W := ⟨IntKind.i64.wrap (a.1 - b.1), eI_ _⟩
def W.mul (a b : W) : W := ⟨IntKind.i64.wrap (a.1 * b.1), eI_ _⟩
def W.neg (a : W) : W := ⟨IntKind.i64.wrap (0 - a.1), eI_ _⟩
def W.quo (a b : W) : W := ⟨IntKind.i64.wrap (a.1.tdiv b.1), eI_ _⟩
theorem nY_ {a b : Int} (ha : I64 a) : I64 (a.tmod b) := by
  have h : (a.tmod b).natAbs ≤ a.natAbs := by rw [Int.natAbs_tmod]; exact Nat.mod_le _ _
  by_cases h0 : a = -9223372036854775808
  · subst h0
    have h1 : Int.tmod (-9223372036854775808) b ≤ 0 := by rw [Int.neg_tmod]; have := Int.tmod_nonneg b (show (0 : Int) ≤ 9223372036854775808 by decide); omega
    unfold I64; omega
  · unfold I64 at *; omega
def W.rem (a b : W) : W := ⟨a.1.tmod b.1, nY_ a.2⟩
deriving instance DecidableEq for R
/-- An api.Int. -/
abbrev I := {r : R // r.Ok}
def I.dec (x : I) : Z := x.1.dec
def E (z : Z) : I := ⟨z.enc, Z.enc_ok z⟩
def I0 : I := ⟨⟨false, false, List.replicate 16 0⟩, ⟨by simp, eA_ 16⟩⟩
theorem E_dec (z : Z) : (E z).dec = z := gL_ z
theorem cg1 {α : Type} (g : Z → α) {x : I} {a : Z} (h : x.dec = a) : g x.1.dec = g a := by subst h; rfl
theorem cg2 {α : Type} (g : Z → Z → α) {x y : I} {a b : Z} (h : x.dec = a) (k : y.dec = b) : g x.1.dec y.1.dec = g a b := by subst h k; rfl
instance : DecidableEq Z := fun a b => decidable_of_iff (a.o = b.o) ⟨fun h => Z.ext h, fun h => by rw [h]⟩
def pI (x : I) : Part := ⟨18, x.1.cells, a0_ x.2, ar_ _⟩
theorem m3_ {a b : R} (h : a.cells = b.cells) : a = b := by
  cases a; cases b
  simp only [R.cells, List.cons.injEq, Value.bool.injEq] at h
  obtain ⟨h1, h2, h3⟩ := h
  rw [h1, h2, jE_ h3]
theorem eq_pI {a b : I} : decide (a = b) = true ↔ (pI a).l = (pI b).l := by
  rw [decide_eq_true_iff]
  exact ⟨fun h => by rw [h], fun h => Subtype.ext (m3_ h)⟩
def LI : List Leaf := none :: none :: List.replicate 16 (some .u32)
theorem lv_pI {a : I} : bt_ (pI a).l LI = true := by
  show (g3_ _ none && (g3_ _ none && bt_ (uw a.1.w) (List.replicate 16 (some .u32)))) = true
  rw [cX_ a.2.len]; rfl
theorem nL_ (z : Z) : I64 z.sign := by
  unfold Z.sign; split
  · rename_i x _
    have h : x.sign = -1 ∨ x.sign = 0 ∨ x.sign = 1 := by
      rcases Int.lt_trichotomy x 0 with h | h | h
      · exact .inl (Int.sign_eq_neg_one_of_neg h)
      · subst h; exact .inr (.inl rfl)
      · exact .inr (.inr (Int.sign_eq_one_of_pos h))
    unfold I64; omega
  · decide
def Z.signW (z : Z) : W := ⟨z.sign, nL_ z⟩
theorem qu_ : dv [1] = 1 := rfl
def W.fdiv (a b : W) : W := ⟨IntKind.i64.wrap (a.1.fdiv b.1), eI_ _⟩
/-- Rows of three, of four; structs. -/
structure A3 (α : Type) where
  x : α
  y : α
  z : α
deriving DecidableEq
structure A4 (α : Type) where
  x : α
  y : α
  z : α
  t : α
deriving DecidableEq
structure Rt where
  n : I
  d : I
deriving DecidableEq
/-- skewbackref06.Direction -/
structure Dir where
  v : A3 W
  e : W
deriving DecidableEq
end Go.Num

set_option linter.unusedVariables false
set_option linter.unusedSimpArgs false
namespace Go.Kn
open Go
section
variable {P : Program} {w0 : World} {X : List Nat} {N : Nm} {Q : Post} {S : Fr} {M : List Blk} {c : Code}
end
end Go.Kn

set_option linter.unusedVariables false
set_option linter.unusedSimpArgs false
namespace Go.Num
open Go Go.Kn
end Go.Num

set_option linter.unusedVariables false
set_option linter.unusedSimpArgs false
namespace Go.Num
open Go Go.Kn
structure A2 (α : Type) where
  x : α
  y : α
end Go.Num

set_option linter.unusedVariables false
set_option linter.unusedSimpArgs false
namespace Go.Num
open Go Go.Kn
structure A9 (α : Type) where
  x0 : α
  x1 : α
  x2 : α
  x3 : α
  x4 : α
  x5 : α
  x6 : α
  x7 : α
  x8 : α
deriving DecidableEq
/-- An interval. -/
structure Iv where
  lo : Rt
  hi : Rt
deriving DecidableEq
def W.max (a b : W) : W := bif decide (a.1 < b.1) then b else a
def W.min (a b : W) : W := bif decide (b.1 < a.1) then b else a
def elW : El W := ⟨1, fun x => [ci .i64 x.1], fun _ => rfl⟩
def elI : El I := ⟨18, fun x => [pI x], fun _ => rfl⟩
def elRt : El Rt := ⟨36, fun x => [pI x.n, pI x.d], fun _ => rfl⟩
end Go.Num
namespace Go.Num
end Go.Num
namespace Go.Num
end Go.Num
namespace Go.Num
open Go Go.Kn
def W.z : W := ⟨0, by decide⟩
theorem aA_ {α : Type} {l : List α} {i : Nat} (d : α) (h : i < l.length) : l[i]? = some (l.getD i d) := by simp [h]
theorem ql_ {n b e : Nat} (h : n < (2 ^ b) ^ e) : bl n ≤ b * e := fk_ (by rw [Nat.pow_mul]; exact h)
theorem Z.bits_le (z : Z) : z.bits ≤ 512 := by
  unfold Z.bits
  split
  · rename_i x hx
    have := z.h x hx
    exact ql_ (b := 32) (e := 16) this
  · omega
def Z.bitsW (z : Z) : W := ⟨(z.bits : Nat), by have := Z.bits_le z; unfold I64; omega⟩
/-- 2^k, k from 0 on. -/
def W.shl (a b : W) : W := ⟨IntKind.i64.wrap (a.1 * 2 ^ (Min.min b.1.toNat 64)), eI_ _⟩
/-- exact sums -/
theorem wx {n m : Int} (h : n = m) (h1 : -9223372036854775808 ≤ m) (h2 : m ≤ 9223372036854775807) : IntKind.i64.wrap n = m := by subst h; exact wi ⟨h1, h2⟩
end Go.Num
namespace Go.Num
end Go.Num
namespace Go.Num
open Go
def W.cv (n : Int) : W := ⟨IntKind.i64.wrap n, eI_ n⟩
end Go.Num
namespace Go.Num
end Go.Num
namespace Go.Num
open Go Go.Kn
end Go.Num
namespace Go.Num
end Go.Num
namespace Go.Num
open Go Go.Kn
def Rt0 : Rt := ⟨I0, I0⟩
/-- An interval, or nothing. -/
structure Met where
  a : Iv
  is : Bool
deriving DecidableEq
/-- times 2^k, k from 0 on -/
def Z.shl (z : Z) (k : Int) : Z := lift1 (fun v => Z.of (v * 2 ^ k.toNat)) z
end Go.Num

set_option linter.unusedVariables false
set_option linter.unusedSimpArgs false
namespace Go.Num
open Go Go.Kn
theorem shq (k : Nat) (hk : 0 < k) {m : Nat} (h : (m : Int) ≤ 9223372036854775807) : IntKind.i64.wrap ((m : Int).tdiv (k : Int)) = ((m / k : Nat) : Int) := by
  rw [Int.tdiv_eq_ediv_of_nonneg (Int.natCast_nonneg m), ← Int.natCast_ediv]
  have h1 : m / k ≤ m := Nat.div_le_self _ _
  generalize m / k = q at *
  exact wi ⟨by omega, by omega⟩
theorem shr (k : Nat) (m : Nat) : (m : Int).tmod (k : Int) = ((m % k : Nat) : Int) := by
  rw [Int.tmod_eq_emod_of_nonneg (Int.natCast_nonneg m), ← Int.natCast_emod]
theorem my_ : (4294967296 : Nat) ^ 16 = 2 ^ 512 := by decide +kernel
theorem jb_ {a : R} (ha : a.Ok) (ga : a.good = true) : a.dec.bits = bl (val a.w) := by
  unfold Z.bits
  rw [bg_ ha ga]
  simp only
  congr 1
  cases a.neg <;> simp [sgn]
end Go.Num
namespace Go.Num
open Go Go.Kn
end Go.Num
namespace Go.Num
open Go Go.Kn
theorem p3_ (n k : Nat) : (((dg n (k / 16) : Nat) : Int).fdiv (2 ^ (min (((k % 16 : Nat) : Int)).toNat IntKind.i64.bits))).tmod 2 = ((n / 2 ^ k % 2 : Nat) : Int) := by
  have h1 : (((k % 16 : Nat) : Int)).toNat = k % 16 := Int.toNat_natCast _
  have h2 : k % 16 < 16 := Nat.mod_lt _ (by decide)
  have h3 : min (k % 16) IntKind.i64.bits = k % 16 := Nat.min_eq_left (by show k % 16 ≤ 64; omega)
  rw [h1, h3]
  have h5 : ((2 : Int) ^ (k % 16)) = ((2 ^ (k % 16) : Nat) : Int) := by simp
  rw [h5, Int.fdiv_eq_ediv_of_nonneg _ (Int.natCast_nonneg _), ← Int.natCast_ediv, Int.tmod_eq_emod_of_nonneg (Int.natCast_nonneg _)]
  rw [show (2 : Int) = ((2 : Nat) : Int) from rfl, ← Int.natCast_emod]
  congr 1
  unfold dg
  have hk : (2 : Nat) ^ k = 65536 ^ (k / 16) * 2 ^ (k % 16) := by
    rw [show (65536 : Nat) = 2 ^ 16 from rfl, ← Nat.pow_mul, ← Nat.pow_add]; congr 1; omega
  rw [hk, ← Nat.div_div_eq_div_mul]
  generalize n / 65536 ^ (k / 16) = x
  have h6 : (65536 : Nat) = 2 ^ (k % 16) * (2 * 2 ^ (15 - k % 16)) := by
    rw [← Nat.pow_succ', ← Nat.pow_add, show (65536 : Nat) = 2 ^ 16 from rfl]; congr 1; omega
  rw [h6, Nat.mod_mul_right_div_self, Nat.mod_mul_right_mod]
theorem nq_ {n m : Nat} (h : n < 2 ^ (m + 1)) (h0 : n / 2 ^ m % 2 = 0) : n < 2 ^ m := by
  have h1 : n / 2 ^ m < 2 := by rw [Nat.div_lt_iff_lt_mul (Nat.pow_pos (by decide)), Nat.mul_comm, ← Nat.pow_succ]; exact h
  have h2 : n / 2 ^ m = 0 := by generalize n / 2 ^ m = q at *; omega
  rcases Nat.div_eq_zero_iff.1 h2 with h3 | h3
  · exact absurd h3 (by have := Nat.pow_pos (n := m) (show 0 < 2 by decide); omega)
  · exact h3
theorem pB_ {n m : Nat} (h : n < 2 ^ (m + 1)) (h0 : n / 2 ^ m % 2 ≠ 0) : bl n = m + 1 := by
  refine bl_eq h (.inr ?_)
  rw [Nat.add_sub_cancel]
  rcases Nat.lt_or_ge n (2 ^ m) with h1 | h1
  · rw [Nat.div_eq_of_lt h1] at h0; exact absurd rfl h0
  · exact h1
theorem lK_ (n : Nat) : n < 2 ^ (16 * (dl n).length) := by
  have := dl_lt n
  rw [Nat.pow_mul]; exact this
theorem mul16 {n : Nat} (h : n ≤ 200) : IntKind.i64.wrap (16 * (n : Int)) = ((16 * n : Nat) : Int) := by
  rw [wi (by omega)]; omega
end Go.Num
namespace Go.Num
open Go Go.Kn
theorem nQ_ {a : R} (h : a.good = false) : a.dec.bits = 0 := by
  unfold R.dec
  rw [if_neg (by simp [h])]; rfl
theorem pX_ {a : R} (ha : a.Ok) (ga : a.good = true) {k : Nat} (h : val a.w < 2 ^ k) (h0 : k = 0) : a.dec.bits = k := by
  subst h0
  rw [jb_ ha ga]
  have : val a.w = 0 := by simpa using h
  rw [this]; rfl
end Go.Num
namespace Go.Num
end Go.Num

set_option linter.unusedVariables false
set_option linter.unusedSimpArgs false
namespace Go.Kn
open Go.RowKit
/-- What a plain operation c1_; none where it is no plain one. -/
def evalP (N : Nm) (S : Fr) : Op → Option Value
  | .move x => evO N S x
  | .assign x => evO N S x
  | .pick c a b => match evO N S c with
    | some (.bool t) => bif t then evO N S a else evO N S b
    | _ => none
  | .nilCheck x => match evO N S x with
    | some (.pointer (some a)) => some (.pointer (some a))
    | _ => none
  | .extract x i => match evO N S x with
    | some (.tuple vs) => vs[i]?
    | _ => none
  | .unOp u _ x => match u, evO N S x with
    | .not, some (.bool a) => some (.bool (!a))
    | .neg, some (.int k a) => some (.int k (k.wrap (0 - a)))
    | _, _ => none
  | .binOp b _ x y _ => match evO N S x with
    | some (.int k a) => match evO N S y with
      | some (.int k' c) => if k = k' then (match b with
          | .add => some (.int k (k.wrap (a + c)))
          | .sub => some (.int k (k.wrap (a - c)))
          | .mul => some (.int k (k.wrap (a * c)))
          | .eql => some (.bool (a == c))
          | .neq => some (.bool (a != c))
          | .lss => some (.bool (decide (a < c)))
          | .leq => some (.bool (decide (a ≤ c)))
          | .gtr => some (.bool (decide (c < a)))
          | .geq => some (.bool (decide (c ≤ a)))
          | _ => none) else none
      | _ => none
    | _ => none
  | _ => none
/-- An operation of a region: undef, if it is not wanted. -/
def evalO (N : Nm) (ops : List Oper) (S : Fr) (o : Oper) : Option Value := bif okD o.dst then (bif Region.wanted o (yld N ops S) then evalP N S o.op else some undef) else none
section
variable {P : Program} {w0 : World} {X : List Nat} {N : Nm} {S : Fr} {M : List Blk}
theorem oj_ {o : Oper} {v : Value} (h : evalP N S o.op = some v) : OpQ P w0 X N o S M v := by
  obtain ⟨d, op, ty, ps, af, gd⟩ := o
  dsimp only at h
  cases op <;> simp only [evalP] at h <;> try (cases h; done)
  case move x => exact db_ h
  case assign x => exact oo_ h
  case pick c a b =>
    split at h
    · rename_i t hc
      refine rf_ hc ?_
      cases t <;> simpa using h
    · cases h
  case nilCheck x =>
    split at h
    · rename_i a hx; cases h; exact q_nil hx
    · cases h
  case extract x i =>
    split at h
    · rename_i vs hx; exact ng_ hx h
    · cases h
  case unOp u T x =>
    split at h
    · rename_i a hx; cases h; exact q_not hx
    · rename_i k a hx; cases h; exact q_neg hx
    · cases h
  case binOp b T x y yT =>
    split at h
    · rename_i k a hx
      split at h
      · rename_i k' c hy
        split at h
        · rename_i hk
          subst hk
          cases b <;> simp only at h <;> first | (cases h; done) | (cases h; first | exact q_add hx hy | exact q_sub hx hy | exact q_mul hx hy | exact q_eql hx hy | exact q_neq hx hy | exact q_lss hx hy | exact q_leq hx hy | exact q_gtr hx hy | exact q_geq hx hy)
        · cases h
      · cases h
    · cases h
theorem gm_ {ops : List Oper} {o : Oper} {v : Value} (h : evalO N ops S o = some v) :
    okD o.dst = true ∧ ((Region.wanted o (yld N ops S) = true ∧ OpQ P w0 X N o S M v) ∨ (Region.wanted o (yld N ops S) = false ∧ v = undef)) := by
  unfold evalO at h
  cases hk : okD o.dst
  · rw [hk] at h; cases h
  refine ⟨rfl, ?_⟩
  rw [hk] at h
  cases hw : Region.wanted o (yld N ops S)
  · rw [hw] at h; cases h; exact .inr ⟨rfl, rfl⟩
  · rw [hw] at h; exact .inl ⟨rfl, oj_ h⟩
theorem n0_ {ops : List Oper} {o : Oper} (h1 : okD o.dst = true) (h2 : Region.wanted o (yld N ops S) = true) : wantD N ops S o = true := by unfold wantD; rw [h1, h2]; rfl
theorem og_ {ops : List Oper} {o : Oper} (h1 : okD o.dst = true) (h2 : Region.wanted o (yld N ops S) = false) : wantN N ops S o = false := by unfold wantN; rw [h1, h2]; rfl
variable {ops : List Oper} {Q : Fr → List Blk → Prop} {o : Oper} {l : List Oper} {v v' : Value} {d : Tmp} {b c : Bool} {nw : List Nat} {MD : List Blk} {i : Nat} {ws : List Nat} {r : Plan}
def evalD (N : Nm) (ops : List Oper) (S : Fr) (o : Oper) : Option (Tmp × Value) := match o.dst with
  | some d => match evalO N ops S o with
    | some v => some (d, v)
    | none => none
  | none => none
def evalI (N : Nm) (ops : List Oper) (S : Fr) (i : Nat) : Option (Tmp × Value) := match ops[i]? with
  | some o => evalD N ops S o
  | none => none
theorem kD_ (h : evalD N ops S o = some (d, v)) : o.dst = some d ∧ evalO N ops S o = some v := by
  unfold evalD at h
  split at h
  · rename_i e he
    split at h
    · rename_i u hu; cases h; exact ⟨he, hu⟩
    · cases h
  · cases h
theorem le_ (h : evalI N ops S i = some (d, v)) : ∃ o, ops[i]? = some o ∧ o.dst = some d ∧ evalO N ops S o = some v := by
  unfold evalI at h
  split at h
  · rename_i o ho; exact ⟨o, ho, kD_ h⟩
  · cases h
/-- A wanted operation: its slot. -/
def wD (N : Nm) (ops : List Oper) (S : Fr) (o : Oper) : Option Tmp := bif wantD N ops S o then o.dst else none
def wI (N : Nm) (ops : List Oper) (S : Fr) (i : Nat) : Option (Tmp × Oper) := match ops[i]? with
  | some o => match wD N ops S o with
    | some d => some (d, o)
    | none => none
  | none => none
theorem wD_ok (h : wD N ops S o = some d) : wantD N ops S o = true ∧ o.dst = some d := by
  unfold wD at h
  cases hw : wantD N ops S o
  · rw [hw] at h; cases h
  · rw [hw] at h; exact ⟨rfl, h⟩
theorem wI_ok (h : wI N ops S i = some (d, o)) : ops[i]? = some o ∧ wantD N ops S o = true ∧ o.dst = some d := by
  unfold wI at h
  split at h
  · rename_i o' ho
    split at h
    · rename_i d' hd; cases h; exact ⟨ho, wD_ok hd⟩
    · cases h
  · cases h
theorem sE (h : evalD N ops S o = some (d, v)) (k : WL P w0 X N ops Q l ((d, v) :: S) M) : WL P w0 X N ops Q (o :: l) S M := by
  obtain ⟨hd, h⟩ := kD_ h
  have k' : WL P w0 X N ops Q l (putS S o.dst v) M := by rw [hd]; exact k
  obtain ⟨h1, h2⟩ := gm_ (P := P) (w0 := w0) (X := X) (M := M) h
  rcases h2 with ⟨hg, hq⟩ | ⟨hg, rfl⟩
  · exact WL_q (n0_ h1 hg) hq k'
  · exact WL_n (og_ h1 hg) k'
theorem sV (v : Value) (h : evalD N ops S o = some (d, v')) (hv : v' = v) (k : WL P w0 X N ops Q l ((d, v) :: S) M) : WL P w0 X N ops Q (o :: l) S M := sE (hv ▸ h) k
theorem sB (hb : b = c) (h : evalD N ops S o = some (d, .bool b)) (k : WL P w0 X N ops Q l ((d, .bool c) :: S) M) : WL P w0 X N ops Q (o :: l) S M := sE (hb ▸ h) k
theorem pE (h : evalI N ops S i = some (d, v)) (k : PL P w0 X N ops nw MD Q r ((d, v) :: S) M) : PL P w0 X N ops nw MD Q (.quiet i ws r) S M := by
  obtain ⟨o, ho, hd, h⟩ := le_ h
  exact ⟨o, v, ho, (gm_ (P := P) (w0 := w0) (X := X) (M := M) h).1, (gm_ h).2, by rw [hd]; exact k⟩
theorem pV (v : Value) (h : evalI N ops S i = some (d, v')) (hv : v' = v) (k : PL P w0 X N ops nw MD Q r ((d, v) :: S) M) : PL P w0 X N ops nw MD Q (.quiet i ws r) S M := pE (hv ▸ h) k
theorem pB (hb : b = c) (h : evalI N ops S i = some (d, .bool b)) (k : PL P w0 X N ops nw MD Q r ((d, .bool c) :: S) M) : PL P w0 X N ops nw MD Q (.quiet i ws r) S M := pE (hb ▸ h) k
theorem tE (h : evalI N ops S i = some (d, v)) (k : PL P w0 X N ops nw MD Q r ((d, v) :: S) M) : PL P w0 X N ops nw MD Q (.still i ws r) S M := by
  obtain ⟨o, ho, hd, h⟩ := le_ h
  exact ⟨o, v, ho, (gm_ (P := P) (w0 := w0) (X := X) (M := M) h).1, (gm_ h).2, by rw [hd]; exact k⟩
theorem tV (v : Value) (h : evalI N ops S i = some (d, v')) (hv : v' = v) (k : PL P w0 X N ops nw MD Q r ((d, v) :: S) M) : PL P w0 X N ops nw MD Q (.still i ws r) S M := tE (hv ▸ h) k
/-- An operation whose law is told. -/
theorem sQ (h : OpQ P w0 X N o S M v) (hd : wD N ops S o = some d) (k : WL P w0 X N ops Q l ((d, v) :: S) M) : WL P w0 X N ops Q (o :: l) S M := WL_q (wD_ok hd).1 h (by rw [(wD_ok hd).2]; exact k)
theorem pQ (hd : wI N ops S i = some (d, o)) (h : OpQ P w0 X N o S M v) (k : PL P w0 X N ops nw MD Q r ((d, v) :: S) M) : PL P w0 X N ops nw MD Q (.quiet i ws r) S M :=
  PL_q (wI_ok hd).1 (wI_ok hd).2.1 h (by rw [(wI_ok hd).2.2]; exact k)
section
variable {g : FuncId} {xs : List Operand} {tys : Array TypeId} {args : List Value} {ty : TypeId} {ps : String} {af : Array Edge} {gd : Option (Nat × Bool)}
theorem sC (v : Value) (he : al_ P g = true) (h : Ret P g args v')
    (hg : wD N ops S (⟨some d, .call { callee := .value (.func g), args := xs.toArray, argTypes := tys }, ty, ps, af, gd⟩ : Oper) = some d) (ha : evL N S xs = some args) (hv : v' = v) (k : WL P w0 X N ops Q l ((d, v) :: S) M) :
    WL P w0 X N ops Q (⟨some d, .call { callee := .value (.func g), args := xs.toArray, argTypes := tys }, ty, ps, af, gd⟩ :: l) S M := WL_q (wD_ok hg).1 (q_as (q_ret he h ha) hv) k
theorem pC (v : Value) (he : al_ P g = true) (h : Ret P g args v')
    (ho : wI N ops S i = some (d, ⟨some d, .call { callee := .value (.func g), args := xs.toArray, argTypes := tys }, ty, ps, af, gd⟩)) (ha : evL N S xs = some args) (hv : v' = v) (k : PL P w0 X N ops nw MD Q r ((d, v) :: S) M) :
    PL P w0 X N ops nw MD Q (.quiet i ws r) S M := PL_q (wI_ok ho).1 (wI_ok ho).2.1 (q_as (q_ret he h ha) hv) k
theorem sX {T : TypeId} {x : Operand} (qs : List Part) (hg : wD N ops S (⟨some d, .box T x, ty, ps, af, gd⟩ : Oper) = some d) (hv : evO N S x = some v) (hc : v.cells = (flat qs).toArray)
    (k : ∀ b, w0.heap.size ≤ b → WL P w0 X N ops Q l ((d, .pointer (some ⟨b, 0, none⟩)) :: S) (⟨b, T, flat qs⟩ :: M)) : WL P w0 X N ops Q (⟨some d, .box T x, ty, ps, af, gd⟩ :: l) S M := WL_r (wD_ok hg).1 (cG_ hv hc k)
theorem sN {T : TypeId} {qs : List Part} (hT : dq_ P T = some (flat qs)) (hg : wD N ops S (⟨some d, .alloc T, ty, ps, af, gd⟩ : Oper) = some d)
    (k : ∀ b, w0.heap.size ≤ b → WL P w0 X N ops Q l ((d, .pointer (some ⟨b, 0, none⟩)) :: S) (⟨b, T, flat qs⟩ :: M)) : WL P w0 X N ops Q (⟨some d, .alloc T, ty, ps, af, gd⟩ :: l) S M := WL_r (wD_ok hg).1 (dK_ hT k)
theorem sS {T U : TypeId} {x y : Operand} {g : Bool} {n b off : Nat} {cs cs' : List Part} {M' : List Blk} (qs : List Part) (hT : tyOf P T = some (g, n)) (hg : wantD N ops S (⟨none, .store T x y, ty, ps, af, gd⟩ : Oper) = true)
    (hx : evO N S x = some (.pointer (some ⟨b, off, none⟩))) (hv : evO N S y = some v) (hc' : v.cells = (flat qs).toArray) (hn : psize qs = n) (hu : Upd b U (flat cs) (flat cs') M M') (hc : setP cs off n qs = some cs') (hb : w0.heap.size ≤ b)
    (k : WL P w0 X N ops Q l S M') : WL P w0 X N ops Q (⟨none, .store T x y, ty, ps, af, gd⟩ :: l) S M := by
  exact WL_st hg hT hx hv hc' hn hc hu hb k
theorem oS {T U : TypeId} {x y : Operand} {g : Bool} {n b off : Nat} {cs cs' : List Part} {M' : List Blk} (qs : List Part) (hT : tyOf P T = some (g, n)) (ho : ops[i]? = some ⟨none, .store T x y, ty, ps, af, gd⟩)
    (hg : wantD N ops S (⟨none, .store T x y, ty, ps, af, gd⟩ : Oper) = true)
    (hx : evO N S x = some (.pointer (some ⟨b, off, none⟩))) (hv : evO N S y = some v) (hc' : v.cells = (flat qs).toArray) (hn : psize qs = n) (hu : Upd b U (flat cs) (flat cs') M M') (hc : setP cs off n qs = some cs') (hb : w0.heap.size ≤ b)
    (hw : nw.contains i = false) (hs : MD.Sublist M') (k : PL P w0 X N ops nw MD Q r S M') : PL P w0 X N ops nw MD Q (.only i r) S M := by
  exact PL_st ho hg hT hx hv hc' hn hc hu hb hw hs k
end
theorem nl {A K : Fr → List Blk → Prop} (hK : ∀ S M, A S M → K S M) (h : A S M) : WL P w0 X N ops K [] S M := hK _ _ h
theorem fl {A K : Fr → List Blk → Prop} (hK : ∀ S M, A S M → K S M) (h : A S M) : PL P w0 X N ops nw MD K .fin S M := hK _ _ h
end
section
variable {P : Program} {w0 : World} {X : List Nat} {N : Nm} {S : Fr} {M : List Blk} {d : Option Tmp} {ty : TypeId} {ps : String} {af : Array Edge} {gd : Option (Nat × Bool)}
theorem qF {T : TypeId} {x : Operand} {f o n b off : Nat} (hT : eU_ P T f = some (o, n)) (hx : evO N S x = some (.pointer (some ⟨b, off, none⟩))) (hn : Nat.beq n 0 = false) : OpQ P w0 X N ⟨d, .fieldAddr T x f, ty, ps, af, gd⟩ S M (.pointer (some ⟨b, off + o, none⟩)) :=
  aJ_ hT (fun h => by subst h; cases hn) hx
theorem qL {T U : TypeId} {x : Operand} {n b off : Nat} {cs qs : List Part} (hT : tyOf P T = some (true, n)) (hx : evO N S x = some (.pointer (some ⟨b, off, none⟩))) (hm : (⟨b, U, flat cs⟩ : Blk) ∈ M) (hc : cutP cs off n = some qs) :
    OpQ P w0 X N ⟨d, .load T x, ty, ps, af, gd⟩ S M (AV qs) := pm_ hT hx hm hc
theorem qC {T U : TypeId} {x : Operand} {s b off : Nat} {cs : List Part} {v : Value} (hT : tyOf P T = some (false, s)) (hx : evO N S x = some (.pointer (some ⟨b, off, none⟩))) (hm : (⟨b, U, flat cs⟩ : Blk) ∈ M) (hc : cellP cs off = some v) :
    OpQ P w0 X N ⟨d, .load T x, ty, ps, af, gd⟩ S M v := kn_ hT hx hm hc
end
section
variable {P : Program} {w0 : World} {X : List Nat} {N : Nm} {S : Fr} {M : List Blk} {Q : Post}
theorem Sq {x y : Code} (h : ∀ K : Fr → List Blk → Prop, (∀ S M, W P w0 X N y Q S M → K S M) → W P w0 X N x (thenK K Q) S M) : W P w0 X N (.seq x y) Q S M := W_seq h
theorem Rs {id : Nat} {ops : List Oper} {y : Code} (h : ∀ K : Fr → List Blk → Prop, (∀ S M, W P w0 X N y Q S M → K S M) → WL P w0 X N ops K ops S M) : W P w0 X N (.seq (.region id ops.toArray false) y) Q S M := W_sr h
theorem Rk {id : Nat} {ops : List Oper} (h : ∀ K : Fr → List Blk → Prop, (∀ S M, Q .normal S M → K S M) → WL P w0 X N ops K ops S M) : W P w0 X N (.region id ops.toArray false) Q S M := ib_ h
end
def waits (ops : Array Oper) (i : Nat) : List Nat :=
  (List.range ops.size).foldl (fun ws j => match ops[j]? with
    | some oj => bif oj.after.any (fun e => Region.binds .any e && (e.on == i || ws.contains e.on)) then j :: ws else ws
    | none => ws) []
def mP (ops : Array Oper) : List Nat → Plan
  | [] => .fin
  | n :: l => bif Nat.beq (n % 4) 0 then .quiet (n / 4) (waits ops (n / 4)) (mP ops l) else bif Nat.beq (n % 4) 1 then .only (n / 4) (mP ops l) else .still (n / 4) (waits ops (n / 4)) (mP ops l)
/-- All but these. -/
def nwx (ops : List Oper) (nx : List Nat) : List Nat := (List.range ops.length).filter fun i => !nx.contains i
section
variable {P : Program} {w0 : World} {X : List Nat} {N : Nm} {S : Fr} {M : List Blk} {Q : Post}
theorem dr {id : Nat} {ops : List Oper} {MD : List Blk} (sub : MD.Sublist M) (pl nx : List Nat) (hm : P.follows .mixedOrders = true)
    (hok : (Region.noSelect ops.toArray && Plan.ok ops.toArray (nwx ops nx) ops.length (Array.replicate ops.length false) (mP ops.toArray pl)) = true)
    (h : ∀ K : Fr → List Blk → Prop, (∀ S M, Q .normal S M → K S M) → PL P w0 X N ops (nwx ops nx) MD K (mP ops.toArray pl) S M) : W P w0 X N (.region id ops.toArray true) Q S M :=
  lt_ sub _ _ hm (Bool.and_eq_true_iff.1 hok).1 (Bool.and_eq_true_iff.1 hok).2 h
theorem ds {id : Nat} {ops : List Oper} {y : Code} {MD : List Blk} (sub : MD.Sublist M) (pl nx : List Nat) (hm : P.follows .mixedOrders = true)
    (hok : (Region.noSelect ops.toArray && Plan.ok ops.toArray (nwx ops nx) ops.length (Array.replicate ops.length false) (mP ops.toArray pl)) = true)
    (h : ∀ K : Fr → List Blk → Prop, (∀ S M, W P w0 X N y Q S M → K S M) → PL P w0 X N ops (nwx ops nx) MD K (mP ops.toArray pl) S M) : W P w0 X N (.seq (.region id ops.toArray true) y) Q S M :=
  W_sdr sub _ _ hm (Bool.and_eq_true_iff.1 hok).1 (Bool.and_eq_true_iff.1 hok).2 h
end
end Go.Kn

set_option linter.unusedVariables false
set_option linter.unusedSimpArgs false
namespace Go.Num
open Go Go.Kn Go.RowKit Go.ChangeShapes Go.WideShapes
def lwf : Value → Leaf → Prop
  | .bool _, none => True
  | .int k n, some k' => k = k' ∧ (Lit.int k n).wf = true
  | _, _ => False
def LWF : List Value → List Leaf → Prop
  | [], [] => True
  | v :: vs, l :: ls => lwf v l ∧ LWF vs ls
  | _, _ => False
theorem LWF.len : ∀ {vs : List Value} {ls : List Leaf}, LWF vs ls → vs.length = ls.length
  | [], [], _ => rfl
  | v :: vs, l :: ls, h => by simp [LWF.len h.2]
  | [], _ :: _, h => h.elim
  | _ :: _, [], h => h.elim
theorem LWF.append : ∀ {vs us : List Value} {ls ms : List Leaf}, LWF vs ls → LWF us ms → LWF (vs ++ us) (ls ++ ms)
  | [], _, [], _, _, k => k
  | v :: vs, _, l :: ls, _, h, k => ⟨h.1, LWF.append h.2 k⟩
  | [], _, _ :: _, _, h, _ => h.elim
  | _ :: _, _, [], _, h, _ => h.elim
theorem LWF.split : ∀ {ls ms : List Leaf} {vs : List Value}, LWF vs (ls ++ ms) → ∃ a b, vs = a ++ b ∧ LWF a ls ∧ LWF b ms
  | [], _, vs, h => ⟨[], vs, rfl, trivial, h⟩
  | l :: ls, ms, [], h => h.elim
  | l :: ls, ms, v :: vs, h => by
    obtain ⟨a, b, rfl, h1, h2⟩ := LWF.split (ls := ls) (ms := ms) h.2
    exact ⟨v :: a, b, rfl, ⟨h.1, h1⟩, h2⟩
/-- The c1_ of a type, with its sizes held against them. -/
def lzGo (P : Program) (f : TypeId → Option (List Leaf)) : List Field → Nat → Option (List Leaf)
  | [], _ => some []
  | x :: fs, off => if x.offset ≠ off then none else (f x.type).bind fun l => if P.cellsOf x.type = l.length then (lzGo P f fs (off + l.length)).map (l ++ ·) else none
def lz (P : Program) : Nat → TypeId → Option (List Leaf)
  | 0, _ => none
  | d + 1, T => match P.underlying T with
    | some .bool => some [none]
    | some (.int k) => some [some k]
    | some (.array n e) => (lz P d e).bind fun l => if P.cellsOf e = l.length ∧ P.cellsOf T = n * l.length then some ((List.replicate n l).flatten) else none
    | some (.struct fs) => (lzGo P (lz P d) fs.toList 0).bind fun l => if P.cellsOf T = l.length then some l else none
    | _ => none
section
variable {H : Type} {enc : TypeId × Value → H} {P : Program} {w : World} {base : Nat} {spare : Nat → Bool} {held : Bool}
theorem ij_ {l : List Leaf} : ∀ (n : Nat) (cs : List Value), cs.length = n * l.length → (∀ i, i < n → LWF ((cs.drop (i * l.length)).take l.length) l) → LWF cs ((List.replicate n l).flatten)
  | 0, cs, hl, _ => by
    have : cs = [] := List.eq_nil_of_length_eq_zero (by simpa using hl)
    subst this; exact trivial
  | n + 1, cs, hl, h => by
    rw [List.replicate_succ, List.flatten_cons]
    have h0 := h 0 (by omega)
    rw [Nat.zero_mul, List.drop_zero] at h0
    have := ij_ (l := l) n (cs.drop l.length) (by rw [List.length_drop, hl, Nat.succ_mul, Nat.add_sub_cancel]) (fun i hi => by
      have := h (i + 1) (by omega)
      rw [List.drop_drop, show l.length + i * l.length = (i + 1) * l.length by rw [Nat.succ_mul]; omega]; exact this)
    have e := LWF.append h0 this
    rwa [List.take_append_drop] at e
theorem oT_ {f : TypeId → Option (List Leaf)} : ∀ (fs : List Field) (off : Nat) (ls : List Leaf) (cs : List Value), lzGo P f fs off = some ls → cs.length = off + ls.length →
    (∀ (i : Nat) (x : Field), fs[i]? = some x → ∀ l, f x.type = some l → LWF ((cs.drop x.offset).take (P.cellsOf x.type)) l) → LWF (cs.drop off) ls
  | [], off, ls, cs, h, hl, _ => by
    cases h
    have : cs.drop off = [] := List.eq_nil_of_length_eq_zero (by rw [List.length_drop]; simp at hl; omega)
    rw [this]; exact trivial
  | x :: fs, off, ls, cs, h, hl, hx => by
    unfold lzGo at h
    split at h
    · cases h
    · rename_i ho
      have ho' : x.offset = off := Classical.byContradiction ho
      cases hf : f x.type with
      | none => simp [hf] at h
      | some l =>
        simp only [hf, Option.bind_some] at h
        split at h
        · rename_i hs
          cases hg : lzGo P f fs (off + l.length) with
          | none => simp [hg] at h
          | some m =>
            simp only [hg, Option.map_some, Option.some.injEq] at h
            subst h
            have h1 := hx 0 x rfl l hf
            rw [ho', hs] at h1
            have h2 := oT_ fs (off + l.length) m cs hg (by rw [hl, List.length_append]; omega) (fun i y hy => hx (i + 1) y (by simpa using hy))
            have e := LWF.append h1 h2
            rw [← List.drop_drop] at e
            rwa [List.take_append_drop] at e
        · cases h
theorem f3_ : ∀ (d : Nat) {T : TypeId} {ls : List Leaf} {fuel : Nat} {cs : List Value} {x : DataW H × List MemPlace}, lz P d T = some ls → DataW.trod enc P w base spare held fuel T cs = some x → LWF cs ls
  | 0, _, _, _, _, _, h, _ => by cases h
  | d + 1, T, ls, fuel, cs, x, h, ht => by
    unfold lz at h
    split at h
    · rename_i hu
      cases h
      cases fuel with
      | zero => simp [DataW.trod] at ht
      | succ m =>
        unfold DataW.trod at ht
        rw [hu] at ht
        split at ht <;> simp_all [LWF, lwf]
    · rename_i k hu
      cases h
      obtain ⟨n, h1, _, h3⟩ := DataW.trod_int hu ht
      subst h1; exact ⟨⟨rfl, h3⟩, trivial⟩
    · rename_i n e hu
      cases hl : lz P d e with
      | none => simp [hl] at h
      | some l =>
        simp only [hl, Option.bind_some] at h
        split at h
        · rename_i hs
          cases h
          obtain ⟨xs, m, _, _, hlen, hxl, hall⟩ := DataW.trod_array hu ht
          refine ij_ n cs (by rw [hlen, hs.2]) (fun i hi => ?_)
          have h1 := hall i hi
          rw [hs.1, List.getElem?_eq_getElem (by rw [hxl]; exact hi)] at h1
          exact f3_ d hl h1
        · cases h
    · rename_i fs hu
      cases hl : lzGo P (lz P d) fs.toList 0 with
      | none => simp [hl] at h
      | some l =>
        simp only [hl, Option.bind_some] at h
        split at h
        · rename_i hs
          cases h
          obtain ⟨xs, m, _, _, hlen, hxl, hall⟩ := DataW.trod_struct hu ht
          have := oT_ fs.toList 0 ls cs hl (by rw [hlen, hs]; omega) (fun i y hy l' hl' => by
            have hy' : fs[i]? = some y := by simpa using hy
            have h1 := hall i y hy'
            have hi : i < fs.size := (Array.getElem?_eq_some_iff.1 hy').1
            rw [List.getElem?_eq_getElem (by rw [hxl]; exact hi)] at h1
            exact f3_ d hl' h1)
          rwa [List.drop_zero] at this
        · cases h
    · cases h
end
theorem mi_ : ∀ {n : Nat} {cs : List Value}, LWF cs (List.replicate n (some .u32)) → ∃ l : List Nat, l.length = n ∧ Lim l ∧ cs = uw l
  | 0, [], _ => ⟨[], rfl, (fun _ h => by cases h), rfl⟩
  | 0, _ :: _, h => h.elim
  | n + 1, [], h => h.elim
  | n + 1, v :: vs, h => by
    obtain ⟨l, hl, hlim, rfl⟩ := mi_ (n := n) (cs := vs) h.2
    match v, h.1 with
    | .int k m, hv =>
      obtain ⟨rfl, hw⟩ := hv
      have hb := bounds_u32 hw
      refine ⟨m.toNat :: l, by simp [hl], fun d hd => ?_, ?_⟩
      · rcases List.mem_cons.1 hd with rfl | hd
        · omega
        · exact hlim d hd
      · have : ((m.toNat : Nat) : Int) = m := by omega
        simp [uw, U32, this]
theorem openI {cs : List Value} (h : LWF cs LI) : ∃ x : I, cs = (pI x).l := by
  match cs, h with
  | .bool a :: .bool b :: rest, h =>
    obtain ⟨l, hl, hlim, rfl⟩ := mi_ h.2.2
    exact ⟨⟨⟨a, b, l⟩, ⟨hl, hlim⟩⟩, rfl⟩
end Go.Num
namespace Go.Num
open Go Go.Kn Go.RowKit
end Go.Num

