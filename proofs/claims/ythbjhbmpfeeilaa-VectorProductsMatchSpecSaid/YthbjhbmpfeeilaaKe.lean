/- The small logic, fifth part: '==' on structs and arrays whose parts are bools and integers compares all cells. No program stands in it. -/
import Derived.Test.YthbjhbmpfeeilaaKp
import Derived.ChangeKeysEq
set_option linter.unusedVariables false
set_option linter.unusedSimpArgs false
namespace Go.Kn
open Go.RowKit
/-- A leaf: a bool (none), or an integer of a kind. -/
abbrev Leaf := Option IntKind
def leafOk : Value → Leaf → Bool
  | .bool _, none => true
  | .int k _, some k' => k == k'
  | _, _ => false
def leavesOk : List Value → List Leaf → Bool
  | [], [] => true
  | v :: vs, l :: ls => leafOk v l && leavesOk vs ls
  | _, _ => false
theorem leavesOk_len : ∀ {vs : List Value} {ls : List Leaf}, leavesOk vs ls = true → vs.length = ls.length
  | [], [], _ => rfl
  | v :: vs, l :: ls, h => by simp only [leavesOk, Bool.and_eq_true] at h; simp [leavesOk_len h.2]
  | [], _ :: _, h => by cases h
  | _ :: _, [], h => by cases h
theorem leavesOk_append : ∀ {vs us : List Value} {ls ms : List Leaf}, leavesOk vs ls = true → leavesOk us ms = true → leavesOk (vs ++ us) (ls ++ ms) = true
  | [], _, [], _, _, h => h
  | v :: vs, _, l :: ls, _, h, k => by
    simp only [leavesOk, Bool.and_eq_true, List.cons_append] at *
    exact ⟨h.1, leavesOk_append h.2 k⟩
  | [], _, _ :: _, _, h, _ => by cases h
  | _ :: _, _, [], _, h, _ => by cases h
theorem leavesOk_split : ∀ {ls ms : List Leaf} {vs : List Value}, leavesOk vs (ls ++ ms) = true → leavesOk (vs.take ls.length) ls = true ∧ leavesOk (vs.drop ls.length) ms = true
  | [], ms, vs, h => ⟨by simp [leavesOk], by simpa using h⟩
  | l :: ls, ms, [], h => by cases h
  | l :: ls, ms, v :: vs, h => by
    simp only [leavesOk, List.cons_append, Bool.and_eq_true] at h
    obtain ⟨h1, h2⟩ := leavesOk_split h.2
    exact ⟨by simp [leavesOk, h.1, h1], by simpa using h2⟩
def leavesGo (P : Program) (f : TypeId → Option (Bool × List Leaf)) : List Field → Nat → Option (List Leaf)
  | [], _ => some []
  | x :: fs, off => if x.name = "_" ∨ x.offset ≠ off then none else
      (f x.type).bind fun (_, l) => if (P.info? x.type).map (·.size) = some l.length then (leavesGo P f fs (off + l.length)).map (l ++ ·) else none
/-- The leaves of a type. The Bool: is it an aggregate. -/
def leaves (P : Program) : Nat → TypeId → Option (Bool × List Leaf)
  | 0, _ => none
  | d + 1, T => match P.underlying T with
    | some .bool => some (false, [none])
    | some (.int k) => some (false, [some k])
    | some (.array n e) => (leaves P d e).bind fun (_, l) => if (P.info? e).map (·.size) = some l.length then some (true, (List.replicate n l).flatten) else none
    | some (.struct fs) => if P.stoodInHeld T then none else (leavesGo P (leaves P d) fs.toList 0).map fun l => (true, l)
    | _ => none
def mkT (g : Bool) (vs : List Value) : Value := if g then .agg vs.toArray else vs.headD undef
theorem leaf_one {vs : List Value} {l : Leaf} (h : leavesOk vs [l] = true) : ∃ v, vs = [v] ∧ leafOk v l = true := by
  cases vs with
  | nil => cases h
  | cons v vs =>
    simp only [leavesOk, Bool.and_eq_true] at h
    cases vs with
    | nil => exact ⟨v, rfl, h.1⟩
    | cons u us => cases h.2
def EqT (P : Program) (dd : Nat) (T : TypeId) (g : Bool) (ls : List Leaf) : Prop :=
  ∀ (w : World) (xs ys : List Value), leavesOk xs ls = true → leavesOk ys ls = true → ∃ r : Bool, (Op.equalIn dd T (mkT g xs) (mkT g ys)).run P w = .ok r w ∧ (r = true ↔ xs = ys)
theorem leaves_agg {P : Program} : ∀ {d : Nat} {T : TypeId} {g : Bool} {ls : List Leaf}, leaves P d T = some (g, ls) → ∃ desc, P.underlying T = some desc ∧ isAggD desc = g ∧ (g = false → ls.length = 1)
  | 0, _, _, _, h => by simp [leaves] at h
  | d + 1, T, g, ls, h => by
    unfold leaves at h
    split at h
    · rename_i hu; cases h; exact ⟨_, hu, rfl, fun _ => rfl⟩
    · rename_i k hu; cases h; exact ⟨_, hu, rfl, fun _ => rfl⟩
    · rename_i n e hu
      obtain ⟨⟨g', l⟩, _, h2⟩ := Option.bind_eq_some_iff.1 h
      dsimp only at h2
      split at h2
      · cases h2; exact ⟨_, hu, rfl, fun h => by cases h⟩
      · cases h2
    · rename_i fs hu
      split at h
      · cases h
      · obtain ⟨l, _, h2⟩ := Option.map_eq_some_iff.1 h
        cases h2; exact ⟨_, hu, rfl, fun h => by cases h⟩
    · cases h
theorem run_part_leaf {P : Program} {d : Nat} {T : TypeId} {g : Bool} {ls : List Leaf} {i : TypeInfo} (h : leaves P d T = some (g, ls)) (hi : P.info? T = some i) (hs : i.size = ls.length) {xs : List Value} {off : Nat} (hx : leavesOk ((xs.drop off).take ls.length) ls = true) (w : World) :
    (part T xs.toArray off).run P w = .ok (mkT g ((xs.drop off).take ls.length)) w := by
  obtain ⟨desc, hu, hg, hl1⟩ := leaves_agg h
  have ha : (isAgg T).run P w = .ok g w := by
    unfold isAgg; simp only [Sem.run_bind, run_underlying hu, Result.andThen_ok]; rw [← hg]; cases desc <;> rfl
  have hz : (sizeOf T).run P w = .ok ls.length w := by simp [sizeOf, typeInfo, hi, hs]
  unfold part
  simp only [Sem.run_bind, ha, Result.andThen_ok]
  cases g with
  | true =>
    simp only [if_true, Sem.run_bind, hz, Result.andThen_ok, Sem.run_pure, mkT]
    congr 2
    simp [List.extract]
  | false =>
    have hl := hl1 rfl
    obtain ⟨l, rfl⟩ : ∃ l, ls = [l] := by
      match ls, hl with
      | [l], _ => exact ⟨l, rfl⟩
    obtain ⟨v, hv, _⟩ := leaf_one hx
    have hget : xs.toArray[off]? = some v := by
      have : ((xs.drop off).take 1)[0]? = some v := by
        have hv' := hv; simp only [List.length_singleton] at hv'; rw [hv']; rfl
      simpa using this
    simp only [Bool.false_eq_true, if_false, hget, Sem.run_pure]
    rw [hv]; rfl
theorem go_eq {P : Program} {d dd : Nat} (IH : ∀ {T : TypeId} {g : Bool} {ls : List Leaf}, leaves P d T = some (g, ls) → EqT P dd T g ls) : ∀ (fs : List Field) (off : Nat) (ls : List Leaf), leavesGo P (leaves P d) fs off = some ls →
    ∀ (w : World) (xs ys : List Value), leavesOk (xs.drop off) ls = true → leavesOk (ys.drop off) ls = true → ∃ r : Bool, (Op.eqFields dd xs.toArray ys.toArray fs).run P w = .ok r w ∧ (r = true ↔ xs.drop off = ys.drop off)
  | [], off, ls, h, w, xs, ys, hx, hy => by
    simp only [leavesGo] at h; cases h
    have h1 := leavesOk_len hx; have h2 := leavesOk_len hy
    exact ⟨true, by simp [Op.eqFields], by rw [List.length_eq_zero_iff.1 h1, List.length_eq_zero_iff.1 h2]; simp⟩
  | f :: fs, off, ls, h, w, xs, ys, hx, hy => by
    simp only [leavesGo] at h
    split at h
    · cases h
    · rename_i hn
      obtain ⟨⟨g, l⟩, hl, h2⟩ := Option.bind_eq_some_iff.1 h
      dsimp only at h2
      split at h2
      · rename_i hsz
        obtain ⟨rest, hrest, rfl⟩ := Option.map_eq_some_iff.1 h2
        have hname : f.name ≠ "_" := fun e => hn (.inl e)
        have hoff : f.offset = off := Classical.byContradiction fun e => hn (.inr e)
        obtain ⟨i, hi, hs⟩ := Option.map_eq_some_iff.1 hsz
        obtain ⟨hx1, hx2⟩ := leavesOk_split hx
        obtain ⟨hy1, hy2⟩ := leavesOk_split hy
        rw [List.drop_drop] at hx2 hy2
        obtain ⟨r1, hr1, e1⟩ := IH hl w _ _ hx1 hy1
        obtain ⟨r2, hr2, e2⟩ := go_eq IH fs (off + l.length) rest hrest w xs ys hx2 hy2
        have p1 := run_part_leaf hl hi hs (off := off) hx1 w
        have p2 := run_part_leaf hl hi hs (off := off) hy1 w
        have key : xs.drop off = ys.drop off ↔ (xs.drop off).take l.length = (ys.drop off).take l.length ∧ xs.drop (off + l.length) = ys.drop (off + l.length) := by
          rw [← List.drop_drop, ← List.drop_drop]
          constructor
          · intro e; rw [e]; exact ⟨rfl, rfl⟩
          · rintro ⟨a, b⟩; rw [← List.take_append_drop l.length (xs.drop off), ← List.take_append_drop l.length (ys.drop off), a, b]
        simp only [Op.eqFields, hname, ne_eq, not_false_eq_true, if_true, Sem.run_bind, hoff, p1, p2, hr1, Result.andThen_ok]
        cases r1
        · exact ⟨false, by simp, by simp only [Bool.false_eq_true, false_iff]; intro e; exact absurd (e1.2 (key.1 e).1) (by simp)⟩
        · refine ⟨r2, by simpa using hr2, ?_⟩
          rw [e2, key]; simp [e1.1 rfl]
      · cases h2
theorem items_eq {P : Program} {dd : Nat} {d : Nat} {e : TypeId} {g : Bool} {l : List Leaf} {i : TypeInfo} (hl : leaves P d e = some (g, l)) (hi : P.info? e = some i) (hs : i.size = l.length) (IH : EqT P dd e g l) : ∀ (n k : Nat)
    (w : World) (xs ys : List Value), leavesOk (xs.drop (k * l.length)) (List.replicate n l).flatten = true → leavesOk (ys.drop (k * l.length)) (List.replicate n l).flatten = true →
    ∃ r : Bool, (Op.eqItems dd e l.length xs.toArray ys.toArray (List.range' k n)).run P w = .ok r w ∧ (r = true ↔ xs.drop (k * l.length) = ys.drop (k * l.length))
  | 0, k, w, xs, ys, hx, hy => by
    have h1 := leavesOk_len hx; have h2 := leavesOk_len hy
    simp only [List.replicate_zero, List.flatten_nil, List.length_nil] at h1 h2
    exact ⟨true, by simp [Op.eqItems], by rw [List.length_eq_zero_iff.1 h1, List.length_eq_zero_iff.1 h2]; simp⟩
  | n + 1, k, w, xs, ys, hx, hy => by
    rw [List.replicate_succ, List.flatten_cons] at hx hy
    obtain ⟨hx1, hx2⟩ := leavesOk_split hx
    obtain ⟨hy1, hy2⟩ := leavesOk_split hy
    rw [List.drop_drop, ← Nat.succ_mul] at hx2 hy2
    obtain ⟨r1, hr1, e1⟩ := IH w _ _ hx1 hy1
    obtain ⟨r2, hr2, e2⟩ := items_eq hl hi hs IH n (k + 1) w xs ys hx2 hy2
    have p1 := run_part_leaf hl hi hs (off := k * l.length) hx1 w
    have p2 := run_part_leaf hl hi hs (off := k * l.length) hy1 w
    have key : xs.drop (k * l.length) = ys.drop (k * l.length) ↔ (xs.drop (k * l.length)).take l.length = (ys.drop (k * l.length)).take l.length ∧ xs.drop ((k + 1) * l.length) = ys.drop ((k + 1) * l.length) := by
      rw [Nat.succ_mul, ← List.drop_drop, ← List.drop_drop]
      constructor
      · intro e; rw [e]; exact ⟨rfl, rfl⟩
      · rintro ⟨a, b⟩; rw [← List.take_append_drop l.length (xs.drop (k * l.length)), ← List.take_append_drop l.length (ys.drop (k * l.length)), a, b]
    simp only [List.range'_succ, Op.eqItems, Sem.run_bind, p1, p2, hr1, Result.andThen_ok]
    cases r1
    · exact ⟨false, by simp, by simp only [Bool.false_eq_true, false_iff]; intro e; exact absurd (e1.2 (key.1 e).1) (by simp)⟩
    · refine ⟨r2, by simpa using hr2, ?_⟩
      rw [e2, key]; simp [e1.1 rfl]
theorem eqT_of {P : Program} (x : Nat) : ∀ (d : Nat) {T : TypeId} {g : Bool} {ls : List Leaf}, leaves P d T = some (g, ls) → EqT P (x + d) T g ls
  | 0, _, _, _, h => by simp [leaves] at h
  | d + 1, T, g, ls, h => by
    intro w xs ys hx hy
    rw [← Nat.add_assoc]
    have h0 := h
    unfold leaves at h
    split at h
    · rename_i hu
      cases h
      obtain ⟨u, rfl, hu1⟩ := leaf_one hx
      obtain ⟨v, rfl, hv1⟩ := leaf_one hy
      cases u <;> simp only [leafOk, Bool.false_eq_true] at hu1
      cases v <;> simp only [leafOk, Bool.false_eq_true] at hv1
      rename_i a b
      exact ⟨a == b, by simpa [mkT] using run_equalIn_bool' w (x + d) T a b hu, by simp⟩
    · rename_i k hu
      cases h
      obtain ⟨u, rfl, hu1⟩ := leaf_one hx
      obtain ⟨v, rfl, hv1⟩ := leaf_one hy
      cases u <;> simp only [leafOk, Bool.false_eq_true] at hu1
      cases v <;> simp only [leafOk, Bool.false_eq_true] at hv1
      rename_i k1 a k2 b
      obtain rfl : k1 = k := by simpa using hu1
      obtain rfl : k2 = k1 := by simpa using hv1
      exact ⟨a == b, by simpa [mkT] using run_equalIn_int w (x + d) T k2 k2 a b hu, by simp⟩
    · rename_i n e hu
      obtain ⟨⟨g', l⟩, hl, h2⟩ := Option.bind_eq_some_iff.1 h
      dsimp only at h2
      split at h2
      · rename_i hsz
        cases h2
        obtain ⟨i, hi, hs⟩ := Option.map_eq_some_iff.1 hsz
        obtain ⟨r, hr, e1⟩ := items_eq hl hi hs (eqT_of x d hl) n 0 w xs ys (by simpa using hx) (by simpa using hy)
        refine ⟨r, ?_, by simpa using e1⟩
        have := run_equalIn_array (P := P) w (x + d) xs.toArray ys.toArray hu hi
        simp only [mkT, if_true]
        rw [this, List.range_eq_range', show P.cellsOf e = l.length by simp [Program.cellsOf, hi, hs]]
        exact hr
      · cases h2
    · rename_i fs hu
      split at h
      · cases h
      · rename_i hst
        obtain ⟨l, hgo, h2⟩ := Option.map_eq_some_iff.1 h
        obtain ⟨rfl, rfl⟩ := Prod.mk.inj h2
        obtain ⟨r, hr, e1⟩ := go_eq (fun {_ _ _} hh => eqT_of x d hh) fs.toList 0 _ hgo w xs ys (by simpa using hx) (by simpa using hy)
        have hfo : P.fieldsOf T = fs := by simp [Program.fieldsOf, hu]
        refine ⟨r, ?_, by simpa using e1⟩
        have := run_equalIn_struct (P := P) w (x + d) T xs.toArray ys.toArray (by rw [hfo]; exact hu) (by simpa using hst)
        simp only [mkT, if_true]
        rw [this, hfo]; exact hr
    · cases h
/-- '==' of an aggregate type of bools and integers. -/
theorem eqOk_of {P : Program} {T : TypeId} {ls : List Leaf} {xs ys : List Value} {r : Bool} (d : Nat) (hd : d ≤ 10000) (hg : P.eqGuardType P.depth T = false) (h : leaves P d T = some (true, ls)) (hx : leavesOk xs ls = true) (hy : leavesOk ys ls = true)
    (hr : r = true ↔ xs = ys) : EqOk P T xs ys r := by
  refine ⟨hg, fun w => ?_⟩
  obtain ⟨r', h1, h2⟩ := eqT_of (P := P) (10000 - d) d h w xs ys hx hy
  rw [show 10000 - d + d = 10000 by omega] at h1
  have : r' = r := by
    cases r <;> cases r' <;> simp_all
  rw [this] at h1
  simpa [mkT] using h1
end Go.Kn
