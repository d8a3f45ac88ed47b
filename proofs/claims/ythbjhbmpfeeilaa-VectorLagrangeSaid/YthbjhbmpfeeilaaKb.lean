/- The small logic, sixth part: literals of structs, arrays and slices; slices that lie in old memory. No program stands in it. -/
import Derived.Test.YthbjhbmpfeeilaaKe
set_option linter.unusedVariables false
set_option linter.unusedSimpArgs false
namespace Go.Kn
open Go.RowKit
/-- Parts laid into a row of cells, one after the other. -/
inductive FillR (place : Nat → Option (Nat × Nat)) : List Value → List (Nat × Value) → List Value → Prop where
  | nil (z : List Value) : FillR place z [] z
  | cons {i off size : Nat} {v : Value} {vs z z' out : List Value} {rest : List (Nat × Value)} (hp : place i = some (off, size)) (hv : v.cells = vs.toArray) (hl : vs.length = size) (ho : off + size ≤ z.length)
      (hz : z.take off ++ vs ++ z.drop (off + size) = z') (k : FillR place z' rest out) : FillR place z ((i, v) :: rest) out
theorem foldl_set (vs : List Value) : ∀ (j off : Nat) (z : List Value), off + j + vs.length ≤ z.length →
    (vs.zipIdx j).foldl (fun (cs : Array Value) (x : Value × Nat) => cs.setIfInBounds (off + x.2) x.1) z.toArray = (z.take (off + j) ++ vs ++ z.drop (off + j + vs.length)).toArray := by
  induction vs with
  | nil => intro j off z h; simp
  | cons v vs ih =>
    intro j off z h
    simp only [List.zipIdx_cons, List.foldl_cons, List.setIfInBounds_toArray]
    simp only [List.length_cons] at h
    rw [ih (j + 1) off (z.set (off + j) v) (by simp; omega)]
    congr 1
    have hlt : off + j < z.length := by omega
    apply List.ext_getElem?
    intro i
    simp only [List.append_assoc, List.getElem?_append, List.length_take, List.length_set, List.getElem?_take, List.getElem?_drop, List.getElem?_set, List.length_cons]
    have e1 : min (off + (j + 1)) z.length = off + j + 1 := by omega
    have e2 : min (off + j) z.length = off + j := by omega
    rw [e1, e2]
    by_cases h1 : i < off + j
    · rw [if_pos (by omega), if_pos (by omega), if_neg (by omega), if_pos h1, if_pos (by omega)]
    · by_cases h2 : i = off + j
      · subst h2
        rw [if_pos (by omega), if_pos (by omega), if_pos rfl, if_pos hlt, if_neg (by omega)]
        simp
      · rw [if_neg (by omega), if_neg h1]
        rw [if_neg (show ¬ off + j = off + (j + 1) + vs.length + (i - (off + j + 1) - vs.length) by omega)]
        have e3 : i - (off + j) = (i - (off + j + 1)) + 1 := by omega
        rw [e3]
        by_cases h3 : i - (off + j + 1) < vs.length
        · rw [if_pos h3, if_pos (by omega)]; simp
        · rw [if_neg h3, if_neg (by omega)]
          congr 1; omega
theorem fill_of {place : Nat → Option (Nat × Nat)} {z out : List Value} {parts : List (Nat × Value)} (h : FillR place z parts out) : Instr.fill place z.toArray parts = some out.toArray := by
  induction h with
  | nil z => rfl
  | @cons i off size v vs z z' out rest hp hv hl ho hz k ih =>
    rw [Instr.fill, hp]
    simp only [hv]
    have h1 : ¬ (vs.toArray.size ≠ size ∨ off + vs.toArray.size > z.toArray.size) := by
      simp only [List.size_toArray]; omega
    have h2 : (vs.toArray.size ≠ size || off + vs.toArray.size > z.toArray.size) = false := by
      simp only [List.size_toArray, Bool.or_eq_false_iff, decide_eq_false_iff_not]; omega
    have hf := foldl_set vs 0 off z (by omega)
    simp only [Nat.add_zero] at hf
    have hz' : (vs.toArray.zipIdx).foldl (fun cs (x : Value × Nat) => cs.setIfInBounds (off + x.2) x.1) z.toArray = z'.toArray := by
      rw [← hz, ← hl, ← hf, ← Array.foldl_toList, Array.toList_zipIdx]
    simp only [h2, Bool.false_eq_true, if_false]
    rw [← ih, ← hz']
/-- Where the fields of a struct lie. -/
def tyPlaces (P : Program) (T : TypeId) : Option (List (Nat × Nat)) := match P.underlying T with
  | some (.struct fs) => fs.toList.mapM fun f => (P.info? f.type).map fun i => (f.offset, i.size)
  | _ => none
theorem run_places {P : Program} {w : World} : ∀ (fs : List Field) (pl : List (Nat × Nat)), (fs.mapM fun f => (P.info? f.type).map fun i => (f.offset, i.size)) = some pl →
    (fs.mapM fun f => (do pure (f.offset, ← sizeOf f.type) : Sem (Nat × Nat))).run P w = .ok pl w
  | [], pl, h => by simp at h; subst h; simp
  | f :: fs, pl, h => by
    rw [List.mapM_cons] at h
    simp only [bind, Option.bind_eq_some_iff, pure, Option.some.injEq] at h
    obtain ⟨a, ha, as, has, rfl⟩ := h
    obtain ⟨i, hi, rfl⟩ := Option.map_eq_some_iff.1 ha
    have h1 : (do pure (f.offset, ← sizeOf f.type) : Sem (Nat × Nat)).run P w = .ok (f.offset, i.size) w := by simp [sizeOf, typeInfo, hi]
    have h2 := run_places (w := w) fs as has
    have h3 : ∀ (g : Field → Sem (Nat × Nat)), (g f).run P w = .ok (f.offset, i.size) w → (fs.mapM g).run P w = .ok as w → ((f :: fs).mapM g).run P w = .ok ((f.offset, i.size) :: as) w := fun g a b => by
      rw [List.mapM_cons]
      simp only [Sem.run_bind, a, b, Result.andThen_ok, Sem.run_pure]
    exact h3 _ h1 h2
def evP (N : Nat) (S : Fr) : List (Nat × Operand) → Option (List (Nat × Value))
  | [] => some []
  | (i, x) :: xs => match evO N S x, evP N S xs with
    | some v, some vs => some ((i, v) :: vs)
    | _, _ => none
theorem evP_spec {N : Nat} {S : Fr} : ∀ {xs : List (Nat × Operand)} {vs : List (Nat × Value)}, evP N S xs = some vs → (xs.map fun (i, x) => (i, ev N S x)) = vs
  | [], _, h => by simp only [evP] at h; cases h; rfl
  | (i, x) :: xs, vs, h => by
    simp only [evP] at h
    split at h
    · rename_i v ws hv hw
      cases h
      have := evP_spec hw
      simp only [List.map_cons, evO_spec hv, this]
    · cases h
section
variable {P : Program} {w0 : World} {X : List Nat} {N : Nat} {S : Fr} {M : List Blk} {d : Option Tmp} {ty : TypeId} {ps : String} {af : Array Edge} {gd : Option (Nat × Bool)}
theorem zero_run {T : TypeId} {z : List Value} (h : tyZero P T = some z) (w : World) : ∃ v, (zeroValue T).run P w = .ok v w ∧ v.cells = z.toArray := by
  obtain ⟨i, v, hi, hz, hc⟩ := tyZero_spec h
  exact ⟨v, by simp [zeroValue, typeInfo, hi, hz], hc⟩
theorem q_builds {T : TypeId} {xs : List (Nat × Operand)} {parts : List (Nat × Value)} {pl : List (Nat × Nat)} {z out : List Value} (hz : tyZero P T = some z) (hp : tyPlaces P T = some pl) (hx : evP N S xs = some parts)
    (h : FillR (fun i => pl[i]?) z parts out) : OpQ P w0 X N ⟨d, .build T xs.toArray, ty, ps, af, gd⟩ S M (.agg out.toArray) := q_of fun w _ => by
  obtain ⟨v, hv, hc⟩ := zero_run hz w
  unfold tyPlaces at hp
  split at hp
  · rename_i fs hu
    have hpl : (fs.mapM fun f => (do pure (f.offset, ← sizeOf f.type) : Sem (Nat × Nat))).run P w = .ok pl.toArray w := by
      have := run_places (w := w) fs.toList pl hp
      rw [← Array.toArray_toList (xs := fs), List.mapM_toArray]
      simp only [Sem.run_map, this, Result.andThen_ok]
    have hf : Instr.fill (fun i => pl.toArray[i]?) z.toArray parts = some out.toArray := by
      have := fill_of h
      simpa using this
    simp only [execOp, Instr.build, Sem.run_bind, hv, Result.andThen_ok, run_underlying hu, hpl, hc]
    have hparts : (Array.map (fun x => (x.1, ev N S x.2)) xs.toArray).toList = parts := by
      have := evP_spec hx; simpa using this
    simp only [hparts, hf]
    rfl
  · cases hp
theorem q_builda {T : TypeId} {xs : List (Nat × Operand)} {parts : List (Nat × Value)} {n s : Nat} {z out : List Value} (hz : tyZero P T = some z) (hp : tyArr P T = some (n, s)) (hx : evP N S xs = some parts)
    (h : FillR (fun i => some (i * s, s)) z parts out) : OpQ P w0 X N ⟨d, .build T xs.toArray, ty, ps, af, gd⟩ S M (.agg out.toArray) := q_of fun w _ => by
  obtain ⟨v, hv, hc⟩ := zero_run hz w
  obtain ⟨e, q, hu, hi, hs⟩ := tyArr_spec hp
  have hf := fill_of h
  have hparts : (Array.map (fun x => (x.1, ev N S x.2)) xs.toArray).toList = parts := by
    have := evP_spec hx; simpa using this
  simp only [execOp, Instr.build, Sem.run_bind, hv, Result.andThen_ok, run_underlying hu, hc, sizeOf, typeInfo, run_program, hi, hs, Sem.run_pure, hparts, hf]
/-- A slice literal (the arguments of a variadic call, too). 'z': the zero cells of one element. -/
theorem r_bslice {T E : TypeId} {xs : List (Nat × Operand)} {parts : List (Nat × Value)} {n s : Nat} {z out : List Value} {K : Value → List Blk → Prop} (hT : P.underlying T = some (.slice E)) (hz : tyZero P E = some z) (hs : (P.info? E).map (·.size) = some s) (hzl : z.length = s)
    (hn : n * s ≤ 16777216) (hx : evP N S xs = some parts) (h : FillR (fun i => some (i * s, s)) (List.replicate n z).flatten parts out) (k : ∀ b, w0.heap.size ≤ b → K (.slice (some ⟨b, 0, none⟩) n n) (⟨b, E, out⟩ :: M)) :
    OpR P w0 X N ⟨d, .buildSlice T n xs.toArray, ty, ps, af, gd⟩ S M K := by
  intro w hw
  obtain ⟨v, hv, hc⟩ := zero_run hz w
  obtain ⟨i, hi, hsz⟩ := Option.map_eq_some_iff.1 hs
  have hparts : (Array.map (fun x => (x.1, ev N S x.2)) xs.toArray).toList = parts := by
    have := evP_spec hx; simpa using this
  have hf := fill_of h
  have hrep : (Array.range (n * s)).map (fun j => z.toArray[j % z.toArray.size]!) = ((List.replicate n z).flatten).toArray := by
    apply Array.ext'
    apply List.ext_getElem?
    intro j
    simp only [Array.toList_map, Array.toList_range, List.getElem?_map, List.size_toArray, hzl]
    by_cases hj : j < n * s
    · have hs0 : 0 < s := by
        rcases Nat.eq_zero_or_pos s with h0 | h0
        · rw [h0] at hj; simp at hj
        · exact h0
      rw [List.getElem?_range hj, Option.map_some]
      have hm : j % s < z.length := by rw [hzl]; exact Nat.mod_lt _ hs0
      have hfl : ∀ (m : Nat) (q : Nat), q < m * s → (List.replicate m z).flatten[q]? = z[q % s]? := by
        intro m
        induction m with
        | zero => intro q hq; simp at hq
        | succ m ih =>
          intro q hq
          rw [List.replicate_succ, List.flatten_cons, List.getElem?_append]
          split
          · rename_i hlt; rw [hzl] at hlt; rw [Nat.mod_eq_of_lt hlt]
          · rename_i hge
            rw [hzl] at hge ⊢
            rw [ih (q - s) (by rw [Nat.succ_mul] at hq; omega), Nat.mod_eq_sub_mod (by omega : s ≤ q)]
      rw [hfl n j hj]
      simp [hm]
    · rw [List.getElem?_eq_none (by simpa using Nat.le_of_not_lt hj), List.getElem?_eq_none]
      · rfl
      · simp [hzl]; omega
  unfold opw
  have hrun : (execOp (ev N S) ⟨d, .buildSlice T n xs.toArray, ty, ps, af, gd⟩).run P w = .ok (.value (.slice (some ⟨w.heap.size, 0, none⟩) n n)) (w.alloc (.cells out.toArray E)) := by
    have hlim : ¬ n * s > 2 ^ 24 := by omega
    by_cases h0 : n * s = 0
    · have hcells : (Array.range (n * s)).map (fun j => (#[] : Array Value)[j % (#[] : Array Value).size]!) = ((List.replicate n z).flatten).toArray := by
        rw [← hrep, h0]; simp
      simp only [execOp, Instr.buildSlice, Sem.run_bind, run_underlying hT, Result.andThen_ok, sizeOf, typeInfo, run_program, hi, hsz, Sem.run_pure, hlim, if_false, if_pos h0, hcells, hparts, hf]
      simp [newRow, newObj, Sem.run]
    · simp only [execOp, Instr.buildSlice, Sem.run_bind, run_underlying hT, Result.andThen_ok, sizeOf, typeInfo, run_program, hi, hsz, Sem.run_pure, hlim, if_false, if_neg h0, hv, hc, hrep, hparts, hf]
      simp [newRow, newObj, Sem.run]
  rw [act_eval, hrun]
  exact ⟨_, hw.alloc E out, k _ hw.size⟩
/-- Loads out of memory that was there at the start. -/
theorem q_loado {T U : TypeId} {x : Operand} {s b off : Nat} {cs : List Value} {v : Value} (hT : tyOf P T = some (false, s)) (hx : evO N S x = some (.pointer (some ⟨b, off, none⟩))) (hm : w0.heap[b]? = some (.cells cs.toArray U (0, 0))) (hX : b ∉ X) (hc : cs[off]? = some v) :
    OpQ P w0 X N ⟨d, .load T x, ty, ps, af, gd⟩ S M v :=
  q_of fun w hw => by
    have hm' : w.heap[b]? = some (.cells cs.toArray U (0, 0)) := by rw [hw.old b (lt_of_getElem? hm) hX]; exact hm
    simp only [execOp, evO_spec hx, Sem.run_bind, load_cell (w := w) hT hm' hc]; rfl
theorem q_loadoa {T U : TypeId} {x : Operand} {n b off : Nat} {cs vs : List Value} (hT : tyOf P T = some (true, n)) (hx : evO N S x = some (.pointer (some ⟨b, off, none⟩))) (hm : w0.heap[b]? = some (.cells cs.toArray U (0, 0))) (hX : b ∉ X) (hv : (cs.drop off).take n = vs) (hl : vs.length = n) :
    OpQ P w0 X N ⟨d, .load T x, ty, ps, af, gd⟩ S M (.agg vs.toArray) :=
  q_of fun w hw => by
    have hm' : w.heap[b]? = some (.cells cs.toArray U (0, 0)) := by rw [hw.old b (lt_of_getElem? hm) hX]; exact hm
    simp only [execOp, evO_spec hx, Sem.run_bind, load_agg (w := w) hT hm' hv hl]; rfl
theorem callsq_of_W {f : FuncId} {fn : Func} {c : Code} {args : List Value} {v : Value} {w : World} (hf : P.funcs[f]? = some fn) (hb : fn.body = some c) (hn : fn.ntmps = N) (hl : args.length ≤ N)
    (h : W P w [] N c (retPost P fn w [] N fun u _ => u = v) (initF 0 args) []) : Calls P f args.toArray w fun e w' => e = .returned v ∧ Ext w w' :=
  (calls_of_W hf hb hn hl (Sat.start w []) h).mono fun e w' ⟨u, M', he, hs, hu⟩ => ⟨by rw [he, hu], hs.ext⟩
theorem q_as {o : Oper} {v v' : Value} (q : OpQ P w0 X N o S M v) (h : v = v') : OpQ P w0 X N o S M v' := h ▸ q
theorem takeAll {l : List Value} {n : Nat} (h : l.length = n) : (l.drop 0).take n = l := by simp [← h]
/-- The stretch of n cells from o on, in a row of rows. -/
theorem stretch {α : Type} (f : α → List Value) (n : Nat) : ∀ (l : List α) (k : Nat) (x : α), (∀ y ∈ l, (f y).length = n) → l[k]? = some x → ((l.flatMap f).drop (k * n)).take n = f x
  | [], k, x, _, h => by simp at h
  | y :: l, 0, x, hl, h => by
    simp only [List.getElem?_cons_zero, Option.some.injEq] at h
    subst h
    simp [List.flatMap_cons, ← hl y List.mem_cons_self]
  | y :: l, k + 1, x, hl, h => by
    rw [List.flatMap_cons, Nat.succ_mul, Nat.add_comm (k * n), ← List.drop_drop, ← hl y List.mem_cons_self, List.drop_left, hl y List.mem_cons_self]
    exact stretch f n l k x (fun z hz => hl z (List.mem_cons_of_mem _ hz)) (by simpa using h)
end
end Go.Kn
