/- The small logic, ninth part: values as rows of parts, and loops that are unrolled. No program stands in it. -/
import Derived.Test.YthbjhbmpfeeilaaKt
set_option linter.unusedVariables false
set_option linter.unusedSimpArgs false
namespace Go.Kn
open Go.RowKit
/-- A stretch of cells whose length is known. -/
structure Part where
  n : Nat
  l : List Value
  len : l.length = n
  pl : ∀ v ∈ l, plain v = true
def flat : List Part → List Value
  | [] => []
  | [p] => p.l
  | p :: q :: ps => p.l ++ flat (q :: ps)
theorem flat_cons (p : Part) (ps : List Part) : flat (p :: ps) = p.l ++ flat ps := by
  cases ps with
  | nil => simp [flat]
  | cons q ps => rfl
theorem flat_append (ps qs : List Part) : flat (ps ++ qs) = flat ps ++ flat qs := by
  induction ps with
  | nil => rfl
  | cons p ps ih => rw [List.cons_append, flat_cons, flat_cons, ih, List.append_assoc]
def psize : List Part → Nat
  | [] => 0
  | p :: ps => p.n + psize ps
theorem flat_len : ∀ ps : List Part, (flat ps).length = psize ps
  | [] => rfl
  | p :: ps => by rw [flat_cons, List.length_append, p.len, flat_len ps]; rfl
theorem flat_plain (ps : List Part) : ∀ v ∈ flat ps, plain v = true := by
  induction ps with
  | nil => intro v h; cases h
  | cons p ps ih =>
    intro v h
    rw [flat_cons, List.mem_append] at h
    rcases h with h | h
    · exact p.pl v h
    · exact ih v h
/-- The value with these parts. -/
abbrev AV (ps : List Part) : Value := .agg (flat ps).toArray
abbrev ci (k : IntKind) (n : Int) : Part := ⟨1, [.int k n], rfl, fun v h => by rw [List.mem_singleton.1 h]; rfl⟩
abbrev cb (b : Bool) : Part := ⟨1, [.bool b], rfl, fun v h => by rw [List.mem_singleton.1 h]; rfl⟩
/-- The first n cells, as whole parts. -/
def takeP : List Part → Nat → Option (List Part)
  | [], n => bif Nat.beq n 0 then some [] else none
  | p :: ps, n => bif Nat.beq n 0 then some [] else bif Nat.ble p.n n then (match takeP ps (n - p.n) with | some qs => some (p :: qs) | none => none) else none
/-- The n cells from off on, as whole parts. -/
def cutP : List Part → Nat → Nat → Option (List Part)
  | [], off, n => bif Nat.beq off 0 then takeP [] n else none
  | p :: ps, off, n => bif Nat.beq off 0 then takeP (p :: ps) n else bif Nat.ble p.n off then cutP ps (off - p.n) n else none
theorem takeP_spec : ∀ {ps qs : List Part} {n : Nat}, takeP ps n = some qs → ∃ rs, ps = qs ++ rs ∧ psize qs = n
  | [], qs, n, h => by
    simp only [takeP] at h
    cases hb : Nat.beq n 0
    · rw [hb] at h; cases h
    · rw [hb] at h; cases h; exact ⟨[], rfl, (Nat.eq_of_beq_eq_true hb).symm⟩
  | p :: ps, qs, n, h => by
    simp only [takeP] at h
    cases hb : Nat.beq n 0
    · rw [hb] at h
      simp only [cond_false] at h
      cases hl : Nat.ble p.n n
      · rw [hl] at h; cases h
      · rw [hl] at h
        simp only [cond_true] at h
        split at h
        · rename_i qs' hq
          cases h
          obtain ⟨rs, h1, h2⟩ := takeP_spec hq
          have := Nat.le_of_ble_eq_true hl
          exact ⟨rs, by rw [h1]; rfl, by simp only [psize, h2]; omega⟩
        · cases h
    · rw [hb] at h; cases h; exact ⟨p :: ps, rfl, (Nat.eq_of_beq_eq_true hb).symm⟩
theorem cutP_spec : ∀ {ps qs : List Part} {off n : Nat}, cutP ps off n = some qs → ∃ as rs, ps = as ++ (qs ++ rs) ∧ psize as = off ∧ psize qs = n
  | [], qs, off, n, h => by
    simp only [cutP] at h
    cases hb : Nat.beq off 0
    · rw [hb] at h; cases h
    · rw [hb] at h
      simp only [cond_true] at h
      obtain ⟨rs, h1, h2⟩ := takeP_spec h
      exact ⟨[], rs, h1, (Nat.eq_of_beq_eq_true hb).symm, h2⟩
  | p :: ps, qs, off, n, h => by
    simp only [cutP] at h
    cases hb : Nat.beq off 0
    · rw [hb] at h
      simp only [cond_false] at h
      cases hl : Nat.ble p.n off
      · rw [hl] at h; cases h
      · rw [hl] at h
        simp only [cond_true] at h
        obtain ⟨as, rs, h1, h2, h3⟩ := cutP_spec h
        have := Nat.le_of_ble_eq_true hl
        exact ⟨p :: as, rs, by rw [h1]; rfl, by simp only [psize, h2]; omega, h3⟩
    · rw [hb] at h
      simp only [cond_true] at h
      obtain ⟨rs, h1, h2⟩ := takeP_spec h
      exact ⟨[], rs, h1, (Nat.eq_of_beq_eq_true hb).symm, h2⟩
theorem cut_flat {ps qs : List Part} {off n : Nat} (h : cutP ps off n = some qs) : ((flat ps).drop off).take n = flat qs ∧ (flat qs).length = n ∧ off + n ≤ (flat ps).length := by
  obtain ⟨as, rs, rfl, h1, h2⟩ := cutP_spec h
  rw [← h1, ← h2, ← flat_len, ← flat_len, flat_append, flat_append, List.drop_left, List.take_left]
  exact ⟨rfl, rfl, by simp only [List.length_append]; omega⟩
/-- The cell at off. -/
def cellP : List Part → Nat → Option Value
  | [], _ => none
  | p :: ps, off => bif Nat.ble p.n off then cellP ps (off - p.n) else p.l[off]?
theorem cell_flat : ∀ {ps : List Part} {off : Nat} {v : Value}, cellP ps off = some v → (flat ps)[off]? = some v
  | [], _, _, h => by cases h
  | p :: ps, off, v, h => by
    simp only [cellP] at h
    rw [flat_cons]
    cases hl : Nat.ble p.n off
    · rw [hl] at h
      have h1 : ¬ p.n ≤ off := fun hc => by rw [Nat.ble_eq_true_of_le hc] at hl; cases hl
      rw [List.getElem?_append_left (by rw [p.len]; omega)]
      exact h
    · rw [hl] at h
      rw [List.getElem?_append_right (by rw [p.len]; exact Nat.le_of_ble_eq_true hl), p.len]
      exact cell_flat h
/-- With qs laid over what stands from off on. -/
def dropP : List Part → Nat → Option (List Part)
  | [], n => bif Nat.beq n 0 then some [] else none
  | p :: ps, n => bif Nat.beq n 0 then some (p :: ps) else bif Nat.ble p.n n then dropP ps (n - p.n) else none
def setP : List Part → Nat → Nat → List Part → Option (List Part)
  | [], off, n, qs => bif Nat.beq off 0 then (match dropP [] n with | some rs => some (qs ++ rs) | none => none) else none
  | p :: ps, off, n, qs => bif Nat.beq off 0 then (match dropP (p :: ps) n with | some rs => some (qs ++ rs) | none => none) else
      bif Nat.ble p.n off then (match setP ps (off - p.n) n qs with | some rs => some (p :: rs) | none => none) else none
theorem dropP_spec : ∀ {ps rs : List Part} {n : Nat}, dropP ps n = some rs → ∃ as, ps = as ++ rs ∧ psize as = n
  | [], rs, n, h => by
    simp only [dropP] at h
    cases hb : Nat.beq n 0
    · rw [hb] at h; cases h
    · rw [hb] at h; cases h; exact ⟨[], rfl, (Nat.eq_of_beq_eq_true hb).symm⟩
  | p :: ps, rs, n, h => by
    simp only [dropP] at h
    cases hb : Nat.beq n 0
    · rw [hb] at h
      simp only [cond_false] at h
      cases hl : Nat.ble p.n n
      · rw [hl] at h; cases h
      · rw [hl] at h
        simp only [cond_true] at h
        obtain ⟨as, h1, h2⟩ := dropP_spec h
        have := Nat.le_of_ble_eq_true hl
        exact ⟨p :: as, by rw [h1]; rfl, by simp only [psize, h2]; omega⟩
    · rw [hb] at h; cases h; exact ⟨[], rfl, (Nat.eq_of_beq_eq_true hb).symm⟩
theorem setP_spec : ∀ {ps ps' qs : List Part} {off n : Nat}, setP ps off n qs = some ps' → ∃ as bs rs, ps = as ++ (bs ++ rs) ∧ ps' = as ++ (qs ++ rs) ∧ psize as = off ∧ psize bs = n
  | [], ps', qs, off, n, h => by
    simp only [setP] at h
    cases hb : Nat.beq off 0
    · rw [hb] at h; cases h
    · rw [hb] at h
      simp only [cond_true] at h
      split at h
      · rename_i rs hr
        cases h
        obtain ⟨as, h1, h2⟩ := dropP_spec hr
        exact ⟨[], as, rs, h1, rfl, (Nat.eq_of_beq_eq_true hb).symm, h2⟩
      · cases h
  | p :: ps, ps', qs, off, n, h => by
    simp only [setP] at h
    cases hb : Nat.beq off 0
    · rw [hb] at h
      simp only [cond_false] at h
      cases hl : Nat.ble p.n off
      · rw [hl] at h; cases h
      · rw [hl] at h
        simp only [cond_true] at h
        split at h
        · rename_i rs hr
          cases h
          obtain ⟨as, bs, cs, h1, h2, h3, h4⟩ := setP_spec hr
          have := Nat.le_of_ble_eq_true hl
          exact ⟨p :: as, bs, cs, by rw [h1]; rfl, by rw [h2]; rfl, by simp only [psize, h3]; omega, h4⟩
        · cases h
    · rw [hb] at h
      simp only [cond_true] at h
      split at h
      · rename_i rs hr
        cases h
        obtain ⟨as, h1, h2⟩ := dropP_spec hr
        exact ⟨[], as, rs, h1, rfl, (Nat.eq_of_beq_eq_true hb).symm, h2⟩
      · cases h
theorem set_flat {ps ps' qs : List Part} {off n : Nat} (h : setP ps off n qs = some ps') : (flat ps).take off ++ flat qs ++ (flat ps).drop (off + n) = flat ps' ∧ off + n ≤ (flat ps).length := by
  obtain ⟨as, bs, rs, rfl, rfl, h1, h2⟩ := setP_spec h
  rw [← h1, ← h2, ← flat_len, ← flat_len, flat_append, flat_append, flat_append, flat_append, List.take_left, List.append_assoc]
  constructor
  · congr 2
    rw [← List.drop_drop, List.drop_left, List.drop_left]
  · simp only [List.length_append]; omega

section
variable {P : Program} {w0 : World} {X : List Nat} {N : Nat} {S : Fr} {M : List Blk} {d : Option Tmp} {ty : TypeId} {ps : String} {af : Array Edge} {gd : Option (Nat × Bool)}
theorem q_ptr {o : Oper} {b off off' : Nat} (q : OpQ P w0 X N o S M (.pointer (some ⟨b, off, none⟩))) (h : off = off') : OpQ P w0 X N o S M (.pointer (some ⟨b, off', none⟩)) := h ▸ q
/-- Loads. -/
theorem q_loadp {T U : TypeId} {x : Operand} {n b off : Nat} {cs qs : List Part} (hT : tyOf P T = some (true, n)) (hx : evO N S x = some (.pointer (some ⟨b, off, none⟩))) (hm : (⟨b, U, flat cs⟩ : Blk) ∈ M) (hc : cutP cs off n = some qs) :
    OpQ P w0 X N ⟨d, .load T x, ty, ps, af, gd⟩ S M (AV qs) := q_loada hT hx hm (cut_flat hc).1 (cut_flat hc).2.1
theorem q_loadc {T U : TypeId} {x : Operand} {s b off : Nat} {cs : List Part} {v : Value} (hT : tyOf P T = some (false, s)) (hx : evO N S x = some (.pointer (some ⟨b, off, none⟩))) (hm : (⟨b, U, flat cs⟩ : Blk) ∈ M) (hc : cellP cs off = some v) :
    OpQ P w0 X N ⟨d, .load T x, ty, ps, af, gd⟩ S M v := q_load hT hx hm (cell_flat hc)
/-- Stores. 'qs': the parts of what is stored. -/
theorem r_storep {T U : TypeId} {x y : Operand} {g : Bool} {n b off : Nat} {cs cs' qs : List Part} {M' : List Blk} {v : Value} {K : Value → List Blk → Prop} (hT : tyOf P T = some (g, n)) (hx : evO N S x = some (.pointer (some ⟨b, off, none⟩)))
    (hy : evO N S y = some v) (hv : v.cells = (flat qs).toArray) (hn : psize qs = n) (hc : setP cs off n qs = some cs') (hu : Upd b U (flat cs) (flat cs') M M') (hb : w0.heap.size ≤ b ∨ b ∈ X) (k : K undef M') :
    OpR P w0 X N ⟨d, .store T x y, ty, ps, af, gd⟩ S M K :=
  r_store hT hx hu hy hv ((flat_len _).trans hn) (flat_plain _) (set_flat hc).2 (set_flat hc).1 hb k
theorem r_boxp {T : TypeId} {x : Operand} {v : Value} {qs : List Part} {K : Value → List Blk → Prop} (hx : evO N S x = some v) (hv : v.cells = (flat qs).toArray) (k : ∀ b, w0.heap.size ≤ b → K (.pointer (some ⟨b, 0, none⟩)) (⟨b, T, flat qs⟩ :: M)) :
    OpR P w0 X N ⟨d, .box T x, ty, ps, af, gd⟩ S M K := r_box hx hv k
theorem r_allocp {T : TypeId} {qs : List Part} {K : Value → List Blk → Prop} (hT : tyZero P T = some (flat qs)) (k : ∀ b, w0.heap.size ≤ b → K (.pointer (some ⟨b, 0, none⟩)) (⟨b, T, flat qs⟩ :: M)) :
    OpR P w0 X N ⟨d, .alloc T, ty, ps, af, gd⟩ S M K := r_alloc hT k
/-- Literals. -/
inductive FillP (place : Nat → Option (Nat × Nat)) : List Part → List (Nat × Value) → List Part → Prop where
  | nil (z : List Part) : FillP place z [] z
  | cons {i off size : Nat} {v : Value} {z out : List Part} {rest : List (Nat × Value)} (vs z' : List Part) (hp : place i = some (off, size)) (hv : v.cells = (flat vs).toArray) (hl : psize vs = size)
      (hz : setP z off size vs = some z') (k : FillP place z' rest out) : FillP place z ((i, v) :: rest) out
theorem FillP.r {place : Nat → Option (Nat × Nat)} {z out : List Part} {parts : List (Nat × Value)} (h : FillP place z parts out) : FillR place (flat z) parts (flat out) := by
  induction h with
  | nil z => exact .nil _
  | cons vs z' hp hv hl hz k ih => exact .cons hp hv ((flat_len _).trans hl) (set_flat hz).2 (set_flat hz).1 ih
theorem q_buildsp {T : TypeId} {xs : List (Nat × Operand)} {parts : List (Nat × Value)} {pl : List (Nat × Nat)} {z out : List Part} (hz : tyZero P T = some (flat z)) (hp : tyPlaces P T = some pl) (hx : evP N S xs = some parts)
    (h : FillP (fun i => pl[i]?) z parts out) : OpQ P w0 X N ⟨d, .build T xs.toArray, ty, ps, af, gd⟩ S M (AV out) := q_builds hz hp hx h.r
theorem q_buildap {T : TypeId} {xs : List (Nat × Operand)} {parts : List (Nat × Value)} {n s : Nat} {z out : List Part} (hz : tyZero P T = some (flat z)) (hp : tyArr P T = some (n, s)) (hx : evP N S xs = some parts)
    (h : FillP (fun i => some (i * s, s)) z parts out) : OpQ P w0 X N ⟨d, .build T xs.toArray, ty, ps, af, gd⟩ S M (AV out) := q_builda hz hp hx h.r
/-- Results. -/
theorem resP {r : Tmp} {T : TypeId} {b off n : Nat} {U : TypeId} {cs qs : List Part} (hx : evO N S (.tmp r) = some (.pointer (some ⟨b, off, none⟩))) (hm : (⟨b, U, flat cs⟩ : Blk) ∈ M) (hT : tyOf P T = some (true, n)) (hc : cutP cs off n = some qs) :
    ResOk P N S M (.cell r T) (AV qs) := ⟨b, off, flat cs, U, true, n, hx, hm, hT, _, (cut_flat hc).1, (cut_flat hc).2.1, rfl⟩
theorem resC {r : Tmp} {T : TypeId} {b off n : Nat} {U : TypeId} {cs : List Part} {v : Value} (hx : evO N S (.tmp r) = some (.pointer (some ⟨b, off, none⟩))) (hm : (⟨b, U, flat cs⟩ : Blk) ∈ M) (hT : tyOf P T = some (false, n)) (hc : cellP cs off = some v) :
    ResOk P N S M (.cell r T) v := ⟨b, off, flat cs, U, false, n, hx, hm, hT, cell_flat hc⟩
end
/-! parts of values; function values -/
section
variable {P : Program} {w0 : World} {X : List Nat} {N : Nat} {S : Fr} {M : List Blk} {d : Option Tmp} {ty : TypeId} {ps : String} {af : Array Edge} {gd : Option (Nat × Bool)}
theorem part_agg {T off n : Nat} {cs qs : List Part} (hT : tyOf P T = some (true, n)) (hc : cutP cs off n = some qs) (w : World) : (part T (flat cs).toArray off).run P w = .ok (AV qs) w := by
  unfold part
  obtain ⟨h1, h2, h3⟩ := cut_flat hc
  simp only [Sem.run_bind, (tyOf_spec (w := w) hT).1, (tyOf_spec (w := w) hT).2, Result.andThen_ok, if_true, Sem.run_pure]
  congr 2
  simp [List.extract, h1]
theorem part_cell {T off n : Nat} {cs : List Part} {v : Value} (hT : tyOf P T = some (false, n)) (hc : cellP cs off = some v) (w : World) : (part T (flat cs).toArray off).run P w = .ok v w := by
  unfold part
  have h := cell_flat hc
  have h2 : (flat cs).toArray[off]? = some v := by simpa using h
  simp only [Sem.run_bind, (tyOf_spec (w := w) hT).1, Result.andThen_ok, Bool.false_eq_true, if_false, h2, Sem.run_pure]
/-- An array's length, and its elements: size, aggregate or not. -/
def tyEl (P : Program) (T : TypeId) : Option (Nat × Nat × Bool) := match P.underlying T with
  | some (.array n e) => (tyOf P e).map fun x => (n, x.2, x.1)
  | _ => none
theorem tyEl_spec {T n s : Nat} {g : Bool} (h : tyEl P T = some (n, s, g)) : ∃ e, P.underlying T = some (.array n e) ∧ tyOf P e = some (g, s) := by
  unfold tyEl at h; split at h
  · rename_i m e hu
    cases he : tyOf P e with
    | none => simp [he] at h
    | some x => obtain ⟨x1, x2⟩ := x; simp [he] at h; obtain ⟨rfl, rfl, rfl⟩ := h; exact ⟨e, hu, he⟩
  · cases h
theorem q_indexa {T : TypeId} {x y : Operand} {n s : Nat} {k : IntKind} {i : Int} {cs qs : List Part} (hT : tyEl P T = some (n, s, true)) (hx : evO N S x = some (AV cs)) (hy : evO N S y = some (.int k i)) (h0 : 0 ≤ i) (h1 : i < n) (hc : cutP cs (i.toNat * s) s = some qs) :
    OpQ P w0 X N ⟨d, .index T x y, ty, ps, af, gd⟩ S M (AV qs) :=
  q_of fun w _ => by
    obtain ⟨e, hd, he⟩ := tyEl_spec hT
    simp [execOp, evO_spec hx, evO_spec hy, Instr.index, asIntOf, run_underlying hd, (tyOf_spec (w := w) he).2, h0, h1, part_agg he hc]
theorem q_indexc {T : TypeId} {x y : Operand} {n s : Nat} {k : IntKind} {i : Int} {cs : List Part} {v : Value} (hT : tyEl P T = some (n, s, false)) (hx : evO N S x = some (AV cs)) (hy : evO N S y = some (.int k i)) (h0 : 0 ≤ i) (h1 : i < n) (hc : cellP cs (i.toNat * s) = some v) :
    OpQ P w0 X N ⟨d, .index T x y, ty, ps, af, gd⟩ S M v :=
  q_of fun w _ => by
    obtain ⟨e, hd, he⟩ := tyEl_spec hT
    simp [execOp, evO_spec hx, evO_spec hy, Instr.index, asIntOf, run_underlying hd, (tyOf_spec (w := w) he).2, h0, h1, part_cell he hc]
/-- A field: its offset, its size, aggregate or not. -/
def tyFl (P : Program) (T : TypeId) (f : Nat) : Option (Nat × Nat × Bool) := match P.underlying T with
  | some (.struct fs) => (fs[f]?).bind fun x => (tyOf P x.type).map fun y => (x.offset, y.2, y.1)
  | _ => none
theorem tyFl_spec {T f o s : Nat} {g : Bool} (h : tyFl P T f = some (o, s, g)) : ∃ fs x, P.underlying T = some (.struct fs) ∧ fs[f]? = some x ∧ x.offset = o ∧ tyOf P x.type = some (g, s) := by
  unfold tyFl at h; split at h
  · rename_i fs hu
    cases hx : fs[f]? with
    | none => simp [hx] at h
    | some x =>
      cases he : tyOf P x.type with
      | none => simp [hx, he] at h
      | some y => obtain ⟨y1, y2⟩ := y; simp [hx, he] at h; obtain ⟨rfl, rfl, rfl⟩ := h; exact ⟨fs, x, hu, hx, rfl, he⟩
  · cases h
theorem q_fielda {T : TypeId} {x : Operand} {f o s : Nat} {cs qs : List Part} (hT : tyFl P T f = some (o, s, true)) (hx : evO N S x = some (AV cs)) (hc : cutP cs o s = some qs) : OpQ P w0 X N ⟨d, .field T x f, ty, ps, af, gd⟩ S M (AV qs) :=
  q_of fun w _ => by
    obtain ⟨fs, y, hd, hf, ho, he⟩ := tyFl_spec hT
    simp [execOp, evO_spec hx, Instr.field, run_underlying hd, hf, asAgg, ho, part_agg he hc]
theorem q_fieldc {T : TypeId} {x : Operand} {f o s : Nat} {cs : List Part} {v : Value} (hT : tyFl P T f = some (o, s, false)) (hx : evO N S x = some (AV cs)) (hc : cellP cs o = some v) : OpQ P w0 X N ⟨d, .field T x f, ty, ps, af, gd⟩ S M v :=
  q_of fun w _ => by
    obtain ⟨fs, y, hd, hf, ho, he⟩ := tyFl_spec hT
    simp [execOp, evO_spec hx, Instr.field, run_underlying hd, hf, asAgg, ho, part_cell he hc]
theorem q_mkfn {g : FuncId} {xs ys : List Operand} {vs us : List Value} (hx : evL N S xs = some vs) (hy : evL N S ys = some us) : OpQ P w0 X N ⟨d, .makeFunc (.func g) xs.toArray ys.toArray, ty, ps, af, gd⟩ S M (.func (.func g) vs.toArray us.toArray) :=
  q_of fun w _ => by
    have e1 : (xs.toArray.map (ev N S)) = vs.toArray := by rw [← evL_spec hx]; simp
    have e2 : (ys.toArray.map (ev N S)) = us.toArray := by rw [← evL_spec hy]; simp
    simp only [execOp, Instr.makeFunc, Sem.run_bind, Sem.run_pure, Result.andThen_ok, e1, e2]
/-- A call of a function value. -/
theorem q_callv {g : FuncId} {f : Operand} {xs : List Operand} {tys : Array TypeId} {first cap args : List Value} {v : Value} (he : entersB P g = true) (hf : evO N S f = some (.func (.func g) first.toArray cap.toArray)) (ha : evL N S xs = some args)
    (h : ∀ w, Sat w0 X M w → Calls P g (first ++ args ++ cap).toArray w fun e w' => e = .returned v ∧ Ext w w') : OpQ P w0 X N ⟨d, .call { callee := .value f, args := xs.toArray, argTypes := tys }, ty, ps, af, gd⟩ S M v := by
  intro w hw
  unfold opw
  rw [act_eval, exec_call he (evO_spec hf) (by rw [evL_spec ha])]
  exact (h w hw).mono fun e w' ⟨h1, h2⟩ => ⟨v, h1, rfl, h2⟩
theorem q_loadop {T U : TypeId} {x : Operand} {n b off : Nat} {cs qs : List Part} (hT : tyOf P T = some (true, n)) (hx : evO N S x = some (.pointer (some ⟨b, off, none⟩))) (hm : w0.heap[b]? = some (.cells (flat cs).toArray U (0, 0))) (hX : b ∉ X) (hc : cutP cs off n = some qs) :
    OpQ P w0 X N ⟨d, .load T x, ty, ps, af, gd⟩ S M (AV qs) := q_loadoa hT hx hm hX (cut_flat hc).1 (cut_flat hc).2.1
theorem q_loadoc {T U : TypeId} {x : Operand} {s b off : Nat} {cs : List Part} {v : Value} (hT : tyOf P T = some (false, s)) (hx : evO N S x = some (.pointer (some ⟨b, off, none⟩))) (hm : w0.heap[b]? = some (.cells (flat cs).toArray U (0, 0))) (hX : b ∉ X) (hc : cellP cs off = some v) :
    OpQ P w0 X N ⟨d, .load T x, ty, ps, af, gd⟩ S M v := q_loado hT hx hm hX (cell_flat hc)
theorem ret3 {fn : Func} {R : Value → List Blk → Prop} {r1 r2 r3 : ResultVar} {v1 v2 v3 : Value} {e : Exit} (hr : fn.results = #[r1, r2, r3]) (he : e = .normal ∨ e = .ret) (h1 : ResOk P N S M r1 v1) (h2 : ResOk P N S M r2 v2) (h3 : ResOk P N S M r3 v3)
    (k : R (.tuple #[v1, v2, v3]) M) : retPost P fn w0 X N R e S M :=
  ⟨he, _, fun w hw => by
    have a1 := run_res h1 hw
    have a2 := run_res h2 hw
    have a3 := run_res h3 hw
    simp [results_eq, hr, List.mapM_toArray, List.mapM_cons, List.mapM_nil, a1, a2, a3], k⟩
end
/-! a region, and what follows -/
section
variable {P : Program} {w0 : World} {X : List Nat} {N : Nat} {S : Fr} {M : List Blk} {Q : Post}
theorem W_sr {id : Nat} {ops : List Oper} {y : Code} (h : ∀ K : Fr → List Blk → Prop, (∀ S M, W P w0 X N y Q S M → K S M) → WL P w0 X N ops K ops S M) : W P w0 X N (.seq (.region id ops.toArray false) y) Q S M :=
  W_seq fun _ hK => W_region_k fun K1 h1 => h K1 fun S M hw => h1 S M (hK S M hw)
theorem W_sdr {id : Nat} {ops : List Oper} {y : Code} {MD : List Blk} (sub : MD.Sublist M) (p : Plan) (nw : List Nat) (hm : P.follows .mixedOrders = true) (hs : Region.noSelect ops.toArray = true)
    (hok : Plan.ok ops.toArray nw ops.length (Array.replicate ops.length false) p = true)
    (h : ∀ K : Fr → List Blk → Prop, (∀ S M, W P w0 X N y Q S M → K S M) → PL P w0 X N ops nw MD K p S M) : W P w0 X N (.seq (.region id ops.toArray true) y) Q S M :=
  W_seq fun _ hK => W_draw sub p nw hm hs hok fun K1 h1 => h K1 fun S M hw => h1 S M (hK S M hw)
variable {d : Option Tmp} {ty : TypeId} {ps : String} {af : Array Edge} {gd : Option (Nat × Bool)}
theorem WL_st {ops l : List Oper} {R : Fr → List Blk → Prop} {T U : TypeId} {x y : Operand} {g : Bool} {n b off : Nat} {cs cs' qs : List Part} {M' : List Blk} {v : Value} (hg : Region.wanted (⟨none, .store T x y, ty, ps, af, gd⟩ : Oper) (yld N ops S) = true)
    (hT : tyOf P T = some (g, n)) (hx : evO N S x = some (.pointer (some ⟨b, off, none⟩))) (hy : evO N S y = some v) (hv : v.cells = (flat qs).toArray) (hn : psize qs = n) (hc : setP cs off n qs = some cs') (hu : Upd b U (flat cs) (flat cs') M M') (hb : w0.heap.size ≤ b)
    (k : WL P w0 X N ops R l S M') : WL P w0 X N ops R (⟨none, .store T x y, ty, ps, af, gd⟩ :: l) S M := WL_r hg (r_storep hT hx hy hv hn hc hu (.inl hb) k)
theorem PL_st {ops : List Oper} {nw : List Nat} {MD : List Blk} {R : Fr → List Blk → Prop} {i : Nat} {r : Plan} {T U : TypeId} {x y : Operand} {g : Bool} {n b off : Nat} {cs cs' qs : List Part} {M' : List Blk} {v : Value}
    (ho : ops[i]? = some ⟨none, .store T x y, ty, ps, af, gd⟩) (hg : Region.wanted (⟨none, .store T x y, ty, ps, af, gd⟩ : Oper) (yld N ops S) = true)
    (hT : tyOf P T = some (g, n)) (hx : evO N S x = some (.pointer (some ⟨b, off, none⟩))) (hy : evO N S y = some v) (hv : v.cells = (flat qs).toArray) (hn : psize qs = n) (hc : setP cs off n qs = some cs') (hu : Upd b U (flat cs) (flat cs') M M') (hb : w0.heap.size ≤ b)
    (hw : nw.contains i = false) (hs : MD.Sublist M') (k : PL P w0 X N ops nw MD R r S M') : PL P w0 X N ops nw MD R (.only i r) S M :=
  PL_o ho hg (r_storep hT hx hy hv hn hc hu (.inl hb) ⟨(fun h => by rw [hw] at h; cases h), hs, k⟩)
end
/-! '==' -/
theorem eqP_nil : (true = true) ↔ flat ([] : List Part) = flat [] := ⟨fun _ => rfl, fun _ => rfl⟩
theorem eqP_cons {p q : Part} {ps qs : List Part} {r s : Bool} (hn : p.n = q.n) (h : r = true ↔ p.l = q.l) (k : s = true ↔ flat ps = flat qs) : ((r && s) = true) ↔ flat (p :: ps) = flat (q :: qs) := by
  rw [flat_cons, flat_cons, Bool.and_eq_true, h, k]
  constructor
  · rintro ⟨a, b⟩; rw [a, b]
  · intro e; exact List.append_inj e (by rw [p.len, q.len, hn])
theorem eqP_one {p q : Part} {r : Bool} (h : r = true ↔ p.l = q.l) : (r = true) ↔ flat [p] = flat [q] := h
theorem eq_ci {k : IntKind} {a b : Int} : decide (a = b) = true ↔ (ci k a).l = (ci k b).l := by simp
theorem eq_cb {a b : Bool} : (a == b) = true ↔ (cb a).l = (cb b).l := by simp
theorem lv_cons {p : Part} {ps : List Part} {l m : List Leaf} (h : leavesOk p.l l = true) (k : leavesOk (flat ps) m = true) : leavesOk (flat (p :: ps)) (l ++ m) = true := by rw [flat_cons]; exact leavesOk_append h k
theorem lv_one {p : Part} {l : List Leaf} (h : leavesOk p.l l = true) : leavesOk (flat [p]) l = true := h
theorem lv_ci {k : IntKind} {a : Int} : leavesOk (ci k a).l [some k] = true := by simp [leavesOk, leafOk]
theorem lv_cb {a : Bool} : leavesOk (cb a).l [none] = true := rfl
theorem W_t {P : Program} {w0 : World} {X : List Nat} {N : Nat} {Q : Post} {S : Fr} {M : List Blk} {c : Operand} {x y : Code} {b : Bool} (hb : b = true) (hc : evO N S c = some (.bool b)) (h : W P w0 X N x Q S M) : W P w0 X N (.cond c x y) Q S M := by
  subst hb; exact W_true hc h
theorem W_f {P : Program} {w0 : World} {X : List Nat} {N : Nat} {Q : Post} {S : Fr} {M : List Blk} {c : Operand} {x y : Code} {b : Bool} (hb : b = false) (hc : evO N S c = some (.bool b)) (h : W P w0 X N y Q S M) : W P w0 X N (.cond c x y) Q S M := by
  subst hb; exact W_false hc h
/-! short words for what is printed often -/
theorem s0 {α : Type} {l : List α} : l.Sublist l := List.Sublist.refl l
theorem sn {α : Type} {l : List α} : ([] : List α).Sublist l := List.nil_sublist l
theorem sd {α : Type} {a : α} {l m : List α} (h : l.Sublist m) : l.Sublist (a :: m) := List.Sublist.cons a h
theorem sk {α : Type} {a : α} {l m : List α} (h : l.Sublist m) : (a :: l).Sublist (a :: m) := List.Sublist.cons_cons a h
theorem sA {α : Type} {k l m : List α} (h : l.Sublist m) : (k ++ l).Sublist (k ++ m) := List.Sublist.append (List.Sublist.refl k) h
theorem sR {α : Type} {k l m : List α} (h : l.Sublist m) : l.Sublist (k ++ m) := List.Sublist.trans h (List.sublist_append_right k m)
theorem nf {p : Prop} (h : false = true) : p := by cases h
theorem bt (b : Bool) : b = true ∨ b = false := Bool.eq_false_or_eq_true b
theorem and_t {c a v : Bool} (h : c = true) (k : v = a) : v = (c && a) := by rw [h, k]; rfl
theorem and_f {c a : Bool} (h : c = false) : false = (c && a) := by rw [h]; rfl
theorem or_t {c a : Bool} (h : c = true) : true = (c || a) := by rw [h]; rfl
theorem or_f {c a v : Bool} (h : c = false) (k : v = a) : v = (c || a) := by rw [h, k]; rfl
theorem nor_t {c a v : Bool} (h : c = true) (k : v = a) : v = (!c || a) := by rw [h, k]; rfl
theorem nor_f {c a : Bool} (h : c = false) : true = (!c || a) := by rw [h]; rfl
theorem nand_t {c a : Bool} (h : c = true) : false = (!c && a) := by rw [h]; rfl
theorem nand_f {c a v : Bool} (h : c = false) (k : v = a) : v = (!c && a) := by rw [h, k]; rfl
theorem nm {α : Type} (e : α) : ∃ x, x = e := ⟨e, rfl⟩
theorem bif_t {α : Type} {c : Bool} {v x y : α} (h : c = true) (k : v = x) : v = (bif c then x else y) := by rw [h]; exact k
theorem bif_f {α : Type} {c : Bool} {v x y : α} (h : c = false) (k : v = y) : v = (bif c then x else y) := by rw [h]; exact k
theorem not_t {b : Bool} (h : b = false) : (!b) = true := by rw [h]; rfl
theorem not_f {b : Bool} (h : b = true) : (!b) = false := by rw [h]; rfl
/-! A loop of a known number of rounds -/
def Un (P : Program) (w0 : World) (X : List Nat) (N : Nat) (c : Code) (Q : Post) : Nat → Fr → List Blk → Prop
  | 0, _, _ => False
  | n + 1, S, M => W P w0 X N c (thenK (Un P w0 X N c Q n) Q) S M
section
variable {P : Program} {w0 : World} {X : List Nat} {N : Nat} {Q : Post} {S : Fr} {M : List Blk} {c : Code}
theorem W_un (n : Nat) (h : Un P w0 X N c Q n S M) : W P w0 X N (.loop c) Q S M := by
  refine W_loop (fun n S M => Un P w0 X N c Q n S M) n ⟨M, List.Sublist.refl _, h⟩ ?_
  intro n S M h
  cases n with
  | zero => exact h.elim
  | succ n =>
    refine W_mono h ?_
    intro e S' M' q
    cases e with
    | normal => exact ⟨M', n, List.Sublist.refl _, Nat.lt_succ_self _, q⟩
    | exit id => exact q
    | goto l => exact q
    | ret => exact q
    | panic c => exact q
    | outgrown => exact q
theorem Un_s {n : Nat} (h : ∀ K : Fr → List Blk → Prop, (∀ S' M', Un P w0 X N c Q n S' M' → K S' M') → W P w0 X N c (thenK K Q) S M) : Un P w0 X N c Q (n + 1) S M := h _ fun _ _ h => h
end
end Go.Kn
