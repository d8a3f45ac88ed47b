/- The small logic, eighth part: lists of whole numbers as slices, read only or grown at their end. No program stands in it. -/
import Derived.Test.YthbjhbmpfeeilaaKs
import Derived.Maps.AppendAt
set_option linter.unusedVariables false
set_option linter.unusedSimpArgs false
namespace Go.Kn
open Go.RowKit
def IV (n : Nat) : Value := .int .i64 (n : Int)
def iw (l : List Nat) : List Value := l.map IV
theorem iw_len (l : List Nat) : (iw l).length = l.length := by simp [iw]
theorem iw_get {l : List Nat} {k : Nat} (h : k < l.length) : (iw l)[k]? = some (IV (l.getD k 0)) := by simp [iw, h]
theorem iw_set (l : List Nat) (k n : Nat) : (iw l).set k (IV n) = iw (l.set k n) := by simp [iw, List.map_set]
theorem iw_plain (l : List Nat) : ∀ v ∈ iw l, plain v = true := fun v h => by
  obtain ⟨n, _, rfl⟩ := List.mem_map.1 h; rfl
theorem iw_take (l : List Nat) (n : Nat) : (iw l).take n = iw (l.take n) := by simp [iw]
theorem iw_append (a b : List Nat) : iw (a ++ b) = iw a ++ iw b := by simp [iw]
/-- In the world w, v is a slice that reads l. -/
def Sl (w : World) (v : Value) (l : List Nat) : Prop :=
  ∃ p c, v = .slice p l.length c ∧ l.length ≤ c ∧ ((p = none ∧ l = [] ∧ c = 0) ∨ ∃ b off T, ∃ cs : List Value, p = some ⟨b, off, none⟩ ∧ w.heap[b]? = some (.cells cs.toArray T (0, 0)) ∧ (cs.drop off).take l.length = iw l)
/-- A block that is known, ours or an old one that stays. -/
def Hold (w0 : World) (X : List Nat) (M : List Blk) (b : Nat) (T : TypeId) (cs : List Value) : Prop := (⟨b, T, cs⟩ : Blk) ∈ M ∨ (b ∉ X ∧ w0.heap[b]? = some (.cells cs.toArray T (0, 0)))
def SL (w0 : World) (X : List Nat) (M : List Blk) (v : Value) (l : List Nat) : Prop :=
  ∃ p c, v = .slice p l.length c ∧ l.length ≤ c ∧ ((p = none ∧ l = [] ∧ c = 0) ∨ ∃ b off T cs, p = some ⟨b, off, none⟩ ∧ Hold w0 X M b T cs ∧ (cs.drop off).take l.length = iw l)
def sla : Value → Nat → Addr
  | .slice (some a) _ _, k => a.add k
  | _, _ => ⟨0, 0, none⟩
def sls : Value → Nat → Value
  | .slice p _ c, n => .slice p n c
  | v, _ => v
section
variable {P : Program} {w0 : World} {X : List Nat} {N : Nat} {S : Fr} {M M' : List Blk} {d : Option Tmp} {ty : TypeId} {ps : String} {af : Array Edge} {gd : Option (Nat × Bool)}
theorem Hold.at {b : Nat} {T : TypeId} {cs : List Value} {w : World} (h : Hold w0 X M b T cs) (hw : Sat w0 X M w) : w.heap[b]? = some (.cells cs.toArray T (0, 0)) := by
  rcases h with h | ⟨hx, h⟩
  · exact hw.mem _ h
  · rw [hw.old b (lt_of_getElem? h) hx]; exact h
theorem SL.sub {v : Value} {l : List Nat} (h : SL w0 X M v l) (hs : M.Sublist M') : SL w0 X M' v l := by
  obtain ⟨p, c, hv, hc, h⟩ := h
  refine ⟨p, c, hv, hc, ?_⟩
  rcases h with h | ⟨b, off, T, cs, hp, hh, ht⟩
  · exact .inl h
  · refine .inr ⟨b, off, T, cs, hp, ?_, ht⟩
    rcases hh with hh | hh
    · exact .inl (hs.mem hh)
    · exact .inr hh
theorem SL.sl {v : Value} {l : List Nat} {w : World} (h : SL w0 X M v l) (hw : Sat w0 X M w) : Sl w v l := by
  obtain ⟨p, c, hv, hc, h⟩ := h
  refine ⟨p, c, hv, hc, ?_⟩
  rcases h with h | ⟨b, off, T, cs, hp, hh, ht⟩
  · exact .inl h
  · exact .inr ⟨b, off, T, cs, hp, hh.at hw, ht⟩
theorem Sl.old {v : Value} {l : List Nat} (h : Sl w0 v l) : SL w0 [] M v l := by
  obtain ⟨p, c, hv, hc, h⟩ := h
  refine ⟨p, c, hv, hc, ?_⟩
  rcases h with h | ⟨b, off, T, cs, hp, hh, ht⟩
  · exact .inl h
  · exact .inr ⟨b, off, T, cs, hp, .inr ⟨by simp, hh⟩, ht⟩
/-- What a call brought is known from then on. -/
theorem Sl.now {v : Value} {l : List Nat} {w : World} (h : Sl w v l) (hw : Sat w0 X M w) : ∃ L, Sat w0 X (L ++ M) w ∧ SL w0 X (L ++ M) v l := by
  obtain ⟨p, c, hv, hc, h⟩ := h
  rcases h with h | ⟨b, off, T, cs, hp, hh, ht⟩
  · exact ⟨[], hw, p, c, hv, hc, .inl h⟩
  by_cases hb : b ∈ M.map Blk.b
  · obtain ⟨x, hx, hxb⟩ := List.mem_map.1 hb
    have h1 := hw.mem x hx
    rw [hxb, hh] at h1
    simp only [Option.some.injEq, Obj.cells.injEq, and_true] at h1
    have hxe : (⟨b, T, cs⟩ : Blk) = x := by
      cases x with
      | mk xb xT xcs =>
        simp only at hxb h1
        subst hxb
        obtain ⟨h1, h2⟩ := h1
        rw [h2, show cs = xcs by simpa using h1]
    exact ⟨[], hw, p, c, hv, hc, .inr ⟨b, off, T, cs, hp, .inl (by rw [hxe]; exact hx), ht⟩⟩
  · refine ⟨[⟨b, T, cs⟩], ⟨hw.os, hw.tape, hw.output, hw.size, hw.old, by simpa using And.intro (by simpa using hb) hw.nodup, fun y hy => ?_⟩, p, c, hv, hc, .inr ⟨b, off, T, cs, hp, .inl (by simp), ht⟩⟩
    rcases List.mem_cons.1 hy with rfl | hy
    · exact hh
    · exact hw.mem y hy
theorem SL.mine {b : Nat} {T : TypeId} {l : List Nat} {c : Nat} (h : (⟨b, T, iw l⟩ : Blk) ∈ M) (hc : l.length ≤ c) : SL w0 X M (.slice (some ⟨b, 0, none⟩) l.length c) l :=
  ⟨_, c, rfl, hc, .inr ⟨b, 0, T, iw l, rfl, .inl h, by rw [List.drop_zero]; exact List.take_of_length_le (by rw [iw_len]; exact Nat.le_refl _)⟩⟩
theorem SL.take {v : Value} {l : List Nat} (h : SL w0 X M v l) {n : Nat} (hn : n ≤ l.length) : SL w0 X M (sls v n) (l.take n) := by
  obtain ⟨p, c, rfl, hc, h⟩ := h
  have hl : (l.take n).length = n := by rw [List.length_take, Nat.min_eq_left hn]
  refine ⟨p, c, by rw [hl]; rfl, by omega, ?_⟩
  rcases h with ⟨h1, h2, h3⟩ | ⟨b, off, T, cs, hp, hh, ht⟩
  · exact .inl ⟨h1, by rw [h2]; simp, h3⟩
  · refine .inr ⟨b, off, T, cs, hp, hh, ?_⟩
    rw [hl, ← iw_take, ← ht, List.take_take, Nat.min_eq_left hn]
theorem q_lenl {T : TypeId} {x : Operand} {s : Nat} {v : Value} {l : List Nat} (hT : tySlice P T = some s) (hx : evO N S x = some v) (hv : SL w0 X M v l) : OpQ P w0 X N ⟨d, .call { callee := .builtin .len, args := #[x], argTypes := #[T] }, ty, ps, af, gd⟩ S M (.int .i64 l.length) := by
  obtain ⟨p, c, rfl, _⟩ := hv
  exact q_len hT hx
theorem SL.at {v : Value} {l : List Nat} (h : SL w0 X M v l) {k : Nat} (hk : k < l.length) : ∃ b off T cs c, v = .slice (some ⟨b, off, none⟩) l.length c ∧ Hold w0 X M b T cs ∧ cs[off + k]? = some (IV (l.getD k 0)) := by
  obtain ⟨p, c, rfl, hc, h⟩ := h
  rcases h with ⟨h1, h2, h3⟩ | ⟨b, off, T, cs, hp, hh, ht⟩
  · rw [h2] at hk; simp at hk
  · refine ⟨b, off, T, cs, c, by rw [hp], hh, ?_⟩
    rw [← iw_get hk, ← ht, List.getElem?_take_of_lt hk, List.getElem?_drop]
theorem q_idxl {T : TypeId} {x y : Operand} {v : Value} {l : List Nat} {k : Nat} {i : IntKind} (hT : tySlice P T = some 1) (hx : evO N S x = some v) (hy : evO N S y = some (.int i (k : Int))) (hv : SL w0 X M v l) (hk : k < l.length) :
    OpQ P w0 X N ⟨d, .indexAddr T x y, ty, ps, af, gd⟩ S M (.pointer (some (sla v k))) := by
  obtain ⟨b, off, U, cs, c, rfl, _⟩ := hv.at hk
  have h := q_idxs (P := P) (w0 := w0) (X := X) (M := M) (d := d) (ty := ty) (ps := ps) (af := af) (gd := gd) hT hx hy (by omega) (by omega)
  rw [show off + ((k : Int)).toNat * 1 = off + k by omega] at h
  rw [sla, add_addr]; exact h
theorem q_loadl {T : TypeId} {x : Operand} {s : Nat} {v : Value} {l : List Nat} {k : Nat} (hT : tyOf P T = some (false, s)) (hx : evO N S x = some (.pointer (some (sla v k)))) (hv : SL w0 X M v l) (hk : k < l.length) :
    OpQ P w0 X N ⟨d, .load T x, ty, ps, af, gd⟩ S M (IV (l.getD k 0)) := by
  obtain ⟨b, off, U, cs, c, rfl, hh, hg⟩ := hv.at hk
  rw [sla, add_addr] at hx
  exact q_of fun w hw => by simp only [execOp, evO_spec hx, Sem.run_bind, load_cell (w := w) hT (hh.at hw) hg]; rfl
theorem q_slcl {T : TypeId} {x y : Operand} {s : Nat} {v : Value} {l : List Nat} {n : Nat} {i : IntKind} (hT : tySlice P T = some s) (hx : evO N S x = some v) (hy : evO N S y = some (.int i (n : Int))) (hv : SL w0 X M v l) (hn : n ≤ l.length) :
    OpQ P w0 X N ⟨d, .slice T x none (some y) none, ty, ps, af, gd⟩ S M (sls v n) := by
  obtain ⟨p, c, rfl, hc, _⟩ := hv
  refine q_of fun w hw => ?_
  obtain ⟨e, q, hu, hi', hs⟩ := tySlice_spec hT
  have hb := bounds_run (P := P) (N := N) (S := S) (w := w) (isSl := true) (len := l.length) (cap := c) (lo := none) (hi := some y) (l := 0) (h := (n : Int)) rfl (by simp [evOpt, hy]) (Int.le_refl _) (by omega) (by omega)
  simp only [Option.map_none, Option.map_some] at hb
  simp only [execOp, Instr.sliceAt, Instr.slice, Sem.run_bind, run_underlying hu, evO_spec hx, Result.andThen_ok]
  simp only [Option.map_none, Option.map_some, hb, Result.andThen_ok, sizeOf, typeInfo, Sem.run_bind, run_program, hi', hs, Sem.run_pure, Option.map_some, sls]
  cases p <;> simp [Addr.add]
theorem Upd.left {b : Nat} {T : TypeId} {cs cs' : List Value} (h : Upd b T cs cs' M M') : ∀ L : List Blk, Upd b T cs cs' (L ++ M) (L ++ M')
  | [] => h
  | x :: L => .tail x (Upd.left h L)
/-- In the world w, v is a slice that reads l, and it lies in no block below B. -/
def Slf (B : Nat) (w : World) (v : Value) (l : List Nat) : Prop :=
  ∃ p c, v = .slice p l.length c ∧ l.length ≤ c ∧ ((p = none ∧ l = [] ∧ c = 0) ∨ ∃ b off T, ∃ cs : List Value, p = some ⟨b, off, none⟩ ∧ B ≤ b ∧ w.heap[b]? = some (.cells cs.toArray T (0, 0)) ∧ (cs.drop off).take l.length = iw l)
theorem Slf.sl {B : Nat} {w : World} {v : Value} {l : List Nat} (h : Slf B w v l) : Sl w v l := by
  obtain ⟨p, c, hv, hc, h⟩ := h
  refine ⟨p, c, hv, hc, ?_⟩
  rcases h with h | ⟨b, off, T, cs, hp, _, hh, ht⟩
  · exact .inl h
  · exact .inr ⟨b, off, T, cs, hp, hh, ht⟩
theorem Slf.now {v : Value} {l : List Nat} {w w' : World} (h : Slf w.heap.size w' v l) (hw : Sat w0 X M w) (he : Ext w w') : ∃ L, Sat w0 X (L ++ M) w' ∧ SL w0 X L v l := by
  have hw' := Sat.mono _ _ _ _ _ hw he
  obtain ⟨p, c, hv, hc, h⟩ := h
  rcases h with h | ⟨b, off, T, cs, hp, hB, hh, ht⟩
  · exact ⟨[], hw', p, c, hv, hc, .inl h⟩
  · have hb : b ∉ M.map Blk.b := fun hm => by
      obtain ⟨x, hx, rfl⟩ := List.mem_map.1 hm
      have := lt_of_getElem? (hw.mem x hx); omega
    refine ⟨[⟨b, T, cs⟩], ⟨hw'.os, hw'.tape, hw'.output, hw'.size, hw'.old, by simpa using And.intro (by simpa using hb) hw'.nodup, fun y hy => ?_⟩, p, c, hv, hc, .inr ⟨b, off, T, cs, hp, .inl (by simp), ht⟩⟩
    rcases List.mem_cons.1 hy with rfl | hy
    · exact hh
    · exact hw'.mem y hy
/-- A call that brings a list of its own. -/
theorem r_callsl {g : FuncId} {xs : List Operand} {tys : Array TypeId} {args : List Value} {l : List Nat} {K : Value → List Blk → Prop} (he : entersB P g = true) (ha : evL N S xs = some args)
    (h : ∀ w, Sat w0 X M w → Calls P g args.toArray w fun e w' => ∃ v, e = .returned v ∧ Ext w w' ∧ Slf w.heap.size w' v l) (k : ∀ v L, SL w0 X L v l → K v (L ++ M)) : OpR P w0 X N ⟨d, .call { callee := .value (.func g), args := xs.toArray, argTypes := tys }, ty, ps, af, gd⟩ S M K :=
  r_call he ha fun w hw => (h w hw).mono fun _ w' ⟨v, h1, h2, h3⟩ => by
    obtain ⟨L, hs, hv⟩ := h3.now hw h2
    exact ⟨v, L ++ M, h1, hs, k v L hv⟩
/-- A call that brings two lists, read from then on. -/
theorem r_callsl2 {g : FuncId} {xs : List Operand} {tys : Array TypeId} {args : List Value} {l1 l2 : List Nat} {K : Value → List Blk → Prop} (he : entersB P g = true) (ha : evL N S xs = some args)
    (h : ∀ w, Sat w0 X M w → Calls P g args.toArray w fun e w' => ∃ v1 v2, e = .returned (.tuple #[v1, v2]) ∧ Ext w w' ∧ Slf w.heap.size w' v1 l1 ∧ Slf w.heap.size w' v2 l2) (k : ∀ v1 v2 L, SL w0 X L v1 l1 → SL w0 X L v2 l2 → K (.tuple #[v1, v2]) (L ++ M)) :
    OpR P w0 X N ⟨d, .call { callee := .value (.func g), args := xs.toArray, argTypes := tys }, ty, ps, af, gd⟩ S M K :=
  r_call he ha fun w hw => (h w hw).mono fun _ w' ⟨v1, v2, h1, h2, h3, h4⟩ => by
    obtain ⟨L1, hs, hv⟩ := h3.now hw h2
    obtain ⟨p, c, hv2, hc2, h4⟩ := h4
    rcases h4 with h4 | ⟨b, off, T, cs, hp, hB, hh, ht⟩
    · exact ⟨.tuple #[v1, v2], L1 ++ M, h1, hs, k v1 v2 _ hv ⟨p, c, hv2, hc2, .inl h4⟩⟩
    · by_cases hb : b ∈ L1.map Blk.b
      · obtain ⟨x, hx, hxb⟩ := List.mem_map.1 hb
        have h5 := hs.mem x (List.mem_append_left _ hx)
        rw [hxb, hh] at h5
        simp only [Option.some.injEq, Obj.cells.injEq, and_true] at h5
        have hxe : (⟨b, T, cs⟩ : Blk) = x := by
          cases x with
          | mk xb xT xcs =>
            simp only at hxb h5
            subst hxb
            obtain ⟨h5, h6⟩ := h5
            rw [h6, show cs = xcs by simpa using h5]
        exact ⟨.tuple #[v1, v2], L1 ++ M, h1, hs, k v1 v2 _ hv ⟨p, c, hv2, hc2, .inr ⟨b, off, T, cs, hp, .inl (by rw [hxe]; exact hx), ht⟩⟩⟩
      · have hb2 : b ∉ (L1 ++ M).map Blk.b := fun hm => by
          rw [List.map_append] at hm
          rcases List.mem_append.1 hm with hm | hm
          · exact hb hm
          · obtain ⟨x, hx, rfl⟩ := List.mem_map.1 hm
            have := lt_of_getElem? (hw.mem x hx); omega
        refine ⟨.tuple #[v1, v2], (⟨b, T, cs⟩ :: L1) ++ M, h1, ⟨hs.os, hs.tape, hs.output, hs.size, hs.old, by simpa using And.intro (by simpa using hb2) (by simpa using hs.nodup), fun y hy => ?_⟩, k v1 v2 _ (hv.sub (List.sublist_cons_self _ _)) ⟨p, c, hv2, hc2, .inr ⟨b, off, T, cs, hp, .inl (by simp), ht⟩⟩⟩
        rcases List.mem_cons.1 hy with rfl | hy
        · exact hh
        · exact hs.mem y hy
/-- Ours, and read. -/
def SLf (w0 : World) (M : List Blk) (v : Value) (l : List Nat) : Prop :=
  ∃ p c, v = .slice p l.length c ∧ l.length ≤ c ∧ ((p = none ∧ l = [] ∧ c = 0) ∨ ∃ b off T cs, p = some ⟨b, off, none⟩ ∧ w0.heap.size ≤ b ∧ (⟨b, T, cs⟩ : Blk) ∈ M ∧ (cs.drop off).take l.length = iw l)
theorem SLf.slf {v : Value} {l : List Nat} {w : World} (h : SLf w0 M v l) (hw : Sat w0 X M w) : Slf w0.heap.size w v l := by
  obtain ⟨p, c, hv, hc, h⟩ := h
  refine ⟨p, c, hv, hc, ?_⟩
  rcases h with h | ⟨b, off, T, cs, hp, hB, hh, ht⟩
  · exact .inl h
  · exact .inr ⟨b, off, T, cs, hp, hB, hw.mem _ hh, ht⟩
theorem SLf.take {v : Value} {l : List Nat} (h : SLf w0 M v l) {n : Nat} (hn : n ≤ l.length) : SLf w0 M (sls v n) (l.take n) := by
  obtain ⟨p, c, rfl, hc, h⟩ := h
  have hl : (l.take n).length = n := by rw [List.length_take, Nat.min_eq_left hn]
  refine ⟨p, c, by rw [hl]; rfl, by omega, ?_⟩
  rcases h with ⟨h1, h2, h3⟩ | ⟨b, off, T, cs, hp, hB, hh, ht⟩
  · exact .inl ⟨h1, by rw [h2]; simp, h3⟩
  · refine .inr ⟨b, off, T, cs, hp, hB, hh, ?_⟩
    rw [hl, ← iw_take, ← ht, List.take_take, Nat.min_eq_left hn]
theorem SLf.sub {v : Value} {l : List Nat} (h : SLf w0 M v l) (hs : M.Sublist M') : SLf w0 M' v l := by
  obtain ⟨p, c, hv, hc, h⟩ := h
  refine ⟨p, c, hv, hc, ?_⟩
  rcases h with h | ⟨b, off, T, cs, hp, hB, hh, ht⟩
  · exact .inl h
  · exact .inr ⟨b, off, T, cs, hp, hB, hs.mem hh, ht⟩
theorem SLf.mine {b n c : Nat} {T : TypeId} {l : List Nat} (hB : w0.heap.size ≤ b) (h : (⟨b, T, iw l⟩ : Blk) ∈ M) (hl : l.length = n) (hc : n ≤ c) : SLf w0 M (.slice (some ⟨b, 0, none⟩) n c) l := by
  subst hl
  exact ⟨_, c, rfl, hc, .inr ⟨b, 0, T, iw l, rfl, hB, h, by rw [List.drop_zero]; exact List.take_of_length_le (by rw [iw_len]; exact Nat.le_refl _)⟩⟩
theorem SLf.sl {v : Value} {l : List Nat} (h : SLf w0 M v l) : SL w0 X M v l := by
  obtain ⟨p, c, hv, hc, h⟩ := h
  refine ⟨p, c, hv, hc, ?_⟩
  rcases h with h | ⟨b, off, T, cs, hp, hB, hh, ht⟩
  · exact .inl h
  · exact .inr ⟨b, off, T, cs, hp, .inl hh, ht⟩
theorem SLf.none : SLf w0 M (.slice none 0 0) [] := ⟨_, 0, rfl, Nat.le_refl _, .inl ⟨rfl, rfl, rfl⟩⟩
theorem Slf.nowf {v : Value} {l : List Nat} {w w' : World} (h : Slf w.heap.size w' v l) (hw : Sat w0 X M w) (he : Ext w w') : ∃ L, Sat w0 X (L ++ M) w' ∧ SLf w0 L v l := by
  have hw' := Sat.mono _ _ _ _ _ hw he
  obtain ⟨p, c, hv, hc, h⟩ := h
  rcases h with h | ⟨b, off, T, cs, hp, hB, hh, ht⟩
  · exact ⟨[], hw', p, c, hv, hc, .inl h⟩
  · have hb : b ∉ M.map Blk.b := fun hm => by
      obtain ⟨x, hx, rfl⟩ := List.mem_map.1 hm
      have := lt_of_getElem? (hw.mem x hx); omega
    refine ⟨[⟨b, T, cs⟩], ⟨hw'.os, hw'.tape, hw'.output, hw'.size, hw'.old, by simpa using And.intro (by simpa using hb) hw'.nodup, fun y hy => ?_⟩, p, c, hv, hc, .inr ⟨b, off, T, cs, hp, Nat.le_trans hw.size hB, by simp, ht⟩⟩
    rcases List.mem_cons.1 hy with rfl | hy
    · exact hh
    · exact hw'.mem y hy
/-- A call that brings a list of its own, in a new block. -/
theorem r_callslf {g : FuncId} {xs : List Operand} {tys : Array TypeId} {args : List Value} {l : List Nat} {K : Value → List Blk → Prop} (he : entersB P g = true) (ha : evL N S xs = some args)
    (h : ∀ w, Sat w0 X M w → Calls P g args.toArray w fun e w' => ∃ v, e = .returned v ∧ Ext w w' ∧ Slf w.heap.size w' v l) (k : ∀ v L, SLf w0 L v l → K v (L ++ M)) : OpR P w0 X N ⟨d, .call { callee := .value (.func g), args := xs.toArray, argTypes := tys }, ty, ps, af, gd⟩ S M K :=
  r_call he ha fun w hw => (h w hw).mono fun _ w' ⟨v, h1, h2, h3⟩ => by
    obtain ⟨L, hs, hv⟩ := h3.nowf hw h2
    exact ⟨v, L ++ M, h1, hs, k v L hv⟩
/-- The entry of a function that brings a list of its own. -/
theorem callssl_of_W {f : FuncId} {fn : Func} {c : Code} {args : List Value} {w : World} {l : List Nat} (hf : P.funcs[f]? = some fn) (hb : fn.body = some c) (hn : fn.ntmps = N) (hl : args.length ≤ N)
    (h : W P w [] N c (retPost P fn w [] N fun v M => SLf w M v l) (initF 0 args) []) : Calls P f args.toArray w fun e w' => ∃ v, e = .returned v ∧ Ext w w' ∧ Slf w.heap.size w' v l :=
  (calls_of_W hf hb hn hl (Sat.start w []) h).mono fun e w' ⟨u, M', he, hs, hu⟩ => ⟨u, he, hs.ext, hu.slf hs⟩
theorem callssl2_of_W {f : FuncId} {fn : Func} {c : Code} {args : List Value} {w : World} {l1 l2 : List Nat} (hf : P.funcs[f]? = some fn) (hb : fn.body = some c) (hn : fn.ntmps = N) (hl : args.length ≤ N)
    (h : W P w [] N c (retPost P fn w [] N fun v M => ∃ v1 v2, v = .tuple #[v1, v2] ∧ SLf w M v1 l1 ∧ SLf w M v2 l2) (initF 0 args) []) : Calls P f args.toArray w fun e w' => ∃ v1 v2, e = .returned (.tuple #[v1, v2]) ∧ Ext w w' ∧ Slf w.heap.size w' v1 l1 ∧ Slf w.heap.size w' v2 l2 :=
  (calls_of_W hf hb hn hl (Sat.start w []) h).mono fun e w' ⟨u, M', he, hs, v1, v2, hu, h1, h2⟩ => ⟨v1, v2, by rw [he, hu], hs.ext, h1.slf hs, h2.slf hs⟩
theorem q_maxn {x y : Operand} {tys : Array TypeId} {k : IntKind} {a b : Nat} (hx : evO N S x = some (.int k (a : Int))) (hy : evO N S y = some (.int k (b : Int))) : OpQ P w0 X N ⟨d, .call { callee := .builtin .max, args := #[x, y], argTypes := tys }, ty, ps, af, gd⟩ S M (.int k ((max a b : Nat) : Int)) :=
  q_of fun w _ => by
    have e : (if (b : Int) > (a : Int) then (b : Int) else (a : Int)) = ((max a b : Nat) : Int) := by split <;> omega
    simp only [execOp, resolve, invoke, builtin, Sem.run_bind, Sem.run_pure, Result.andThen_ok, List.map_toArray, List.map_cons, List.map_nil, evO_spec hx, evO_spec hy, run_max_int2, e]
theorem q_minn {x y : Operand} {tys : Array TypeId} {k : IntKind} {a b : Nat} (hx : evO N S x = some (.int k (a : Int))) (hy : evO N S y = some (.int k (b : Int))) : OpQ P w0 X N ⟨d, .call { callee := .builtin .min, args := #[x, y], argTypes := tys }, ty, ps, af, gd⟩ S M (.int k ((min a b : Nat) : Int)) :=
  q_of fun w _ => by
    have e : (if (b : Int) < (a : Int) then (b : Int) else (a : Int)) = ((min a b : Nat) : Int) := by split <;> omega
    simp only [execOp, resolve, invoke, builtin, Sem.run_bind, Sem.run_pure, Result.andThen_ok, List.map_toArray, List.map_cons, List.map_nil, evO_spec hx, evO_spec hy, run_min_int2, e]
/-! a row of our own that grows -/
def Own (w0 : World) (E : TypeId) (v : Value) (l : List Nat) (L : List Blk) : Prop :=
  (v = .slice none 0 0 ∧ l = [] ∧ L = []) ∨ ∃ g cap, ∃ cur : List Value, v = .slice (some ⟨g, 0, none⟩) l.length cap ∧ L = [⟨g, E, cur⟩] ∧ w0.heap.size ≤ g ∧ l.length ≤ cap ∧ cap ≤ maxLen ∧ cur.length = cap ∧ cur.take l.length = iw l
theorem Own.nil {E : TypeId} : Own w0 E (.slice none 0 0) [] [] := .inl ⟨rfl, rfl, rfl⟩
theorem Own.sl {E : TypeId} {v : Value} {l : List Nat} {L : List Blk} (h : Own w0 E v l L) (hs : L.Sublist M) : SL w0 X M v l := by
  rcases h with ⟨rfl, rfl, rfl⟩ | ⟨g, cap, cur, rfl, rfl, hg, hc, hm, hl, ht⟩
  · exact ⟨none, 0, rfl, Nat.le_refl _, .inl ⟨rfl, rfl, rfl⟩⟩
  · exact ⟨_, cap, rfl, hc, .inr ⟨g, 0, E, cur, rfl, .inl (hs.mem (by simp)), by rw [List.drop_zero]; exact ht⟩⟩
theorem Own.slf {E : TypeId} {v : Value} {l : List Nat} {L : List Blk} (h : Own w0 E v l L) (hs : L.Sublist M) : SLf w0 M v l := by
  rcases h with ⟨rfl, rfl, rfl⟩ | ⟨g, cap, cur, rfl, rfl, hg, hc, hm, hl, ht⟩
  · exact ⟨none, 0, rfl, Nat.le_refl _, .inl ⟨rfl, rfl, rfl⟩⟩
  · exact ⟨_, cap, rfl, hc, .inr ⟨g, 0, E, cur, rfl, hg, hs.mem (by simp), by rw [List.drop_zero]; exact ht⟩⟩
theorem Own.of_mine {E : TypeId} {b : Nat} {l : List Nat} (hb : w0.heap.size ≤ b) (hm : l.length ≤ maxLen) : Own w0 E (.slice (some ⟨b, 0, none⟩) l.length l.length) l [⟨b, E, iw l⟩] :=
  .inr ⟨b, l.length, iw l, rfl, rfl, hb, Nat.le_refl _, hm, iw_len l, List.take_of_length_le (by rw [iw_len]; exact Nat.le_refl _)⟩
/-- The elements are whole numbers of one cell. -/
def tyOne (P : Program) (E : TypeId) : Bool := match P.info? E with
  | some i => i.size == 1 && i.bytes == 8 && (match i.zero with | some z => z.cells.size == 1 | none => false)
  | none => false
theorem made_iw (n : Nat) : madeCells #[IV 0] n = (iw (List.replicate n 0)).toArray := by
  unfold madeCells
  apply Array.ext
  · simp [iw]
  · intro i h1 h2
    simp [iw, Nat.mod_one, IV]
theorem r_make {T E : TypeId} {x y : Operand} {n : Nat} {K : Value → List Blk → Prop} (hT : P.underlying T = some (.slice E)) (hE : tyOne P E = true) (hz : tyZero P E = some [IV 0]) (hx : evO N S x = some (.int .i64 (n : Int))) (hy : evO N S y = some (.int .i64 (n : Int))) (hn : n ≤ 1000000)
    (k : ∀ b, w0.heap.size ≤ b → K (.slice (some ⟨b, 0, none⟩) n n) (⟨b, E, iw (List.replicate n 0)⟩ :: M)) : OpR P w0 X N ⟨d, .makeSlice T x y, ty, ps, af, gd⟩ S M K := by
  intro w hw
  obtain ⟨i, z, hi, hz, hc⟩ := tyZero_spec hz
  unfold tyOne at hE
  simp only [hi, hz, Bool.and_eq_true, beq_iff_eq] at hE
  obtain ⟨⟨h1, h8⟩, hzc⟩ := hE
  have hr := run_makeSlice (P := P) w T E i z hT hi hz .i64 .i64 n n (by omega) (Int.le_refl _) (by rw [h1]; omega) (by rw [h8]; omega) (by omega)
  rw [h1, hc, Nat.mul_one, made_iw, Int.toNat_natCast] at hr
  unfold opw
  have hex : (execOp (ev N S) ⟨d, .makeSlice T x y, ty, ps, af, gd⟩).run P w = .ok (.value (.slice (some ⟨w.heap.size, 0, none⟩) n n)) (w.alloc (.cells (iw (List.replicate n 0)).toArray E)) := by
    simp [execOp, evO_spec hx, evO_spec hy, hr]
  rw [act_eval, hex]
  exact ⟨_, hw.alloc E _, k _ hw.size⟩
theorem r_append {T E : TypeId} {x y : Operand} {v u : Value} {l m : List Nat} {L M1 : List Blk} {K : Value → List Blk → Prop} (hT : P.underlying T = some (.slice E)) (hE : tyOne P E = true) (hx : evO N S x = some v) (hy : evO N S y = some u)
    (hv : Own w0 E v l L) (hu : SL w0 X M u m) (hs : (L ++ M1).Sublist M) (hn : l.length + m.length ≤ 1000000) (k : ∀ v' L', Own w0 E v' (l ++ m) L' → K v' (L' ++ M1)) :
    OpR P w0 X N ⟨d, .call { callee := .builtin .append, args := #[x, y], argTypes := #[T, T] }, ty, ps, af, gd⟩ S M K := by
  intro w hw
  unfold tyOne at hE
  cases hi : P.info? E with
  | none => simp [hi] at hE
  | some i =>
  cases hz : i.zero with
  | none => simp [hi, hz] at hE
  | some z =>
  simp only [hi, hz, Bool.and_eq_true, beq_iff_eq] at hE
  obtain ⟨⟨h1, h8⟩, hzc⟩ := hE
  have hw1 : Sat w0 X (L ++ M1) w := hw.sub hs
  have hown : w.ownsRow w0.heap.size E 1 v l.length (iw l) := by
    refine ⟨by rw [iw_len, Nat.mul_one], ?_⟩
    rcases hv with ⟨rfl, rfl, rfl⟩ | ⟨g, cap, cur, rfl, rfl, hg, hc, hm, hl, ht⟩
    · exact .inl ⟨rfl, rfl⟩
    · exact .inr ⟨g, cap, cur.toArray, rfl, hg, hw1.mem ⟨g, E, cur⟩ (by simp), hc, hm, by simp [hl], by rw [Nat.mul_one]; exact ht⟩
  have hrow : ∀ k, v.ownBlock = some k → k ∈ L.map Blk.b ∧ w0.heap.size ≤ k := by
    intro k hk
    rcases hv with ⟨rfl, rfl, rfl⟩ | ⟨g, cap, cur, rfl, rfl, hg, hc, hm, hl, ht⟩
    · cases hk
    · obtain rfl : g = k := by simpa [Value.ownBlock] using hk
      exact ⟨by simp, hg⟩
  -- the run
  have hrun : ∃ v' w', (Builtin.append_ #[T, T] ty #[v, u]).run P w = .ok v' w' ∧ w'.ownsRow w0.heap.size E 1 v' (l.length + m.length) (iw l ++ iw m) ∧ w.grownBy w' v.ownBlock ∧ (v'.ownBlock = v.ownBlock ∨ v'.ownBlock = some w.heap.size) := by
    obtain ⟨p, c, rfl, hc, h⟩ := hu
    rcases h with ⟨rfl, rfl, rfl⟩ | ⟨b, off, U, cs, rfl, hh, ht⟩
    · -- nothing is appended
      have hle : l.length ≤ (match v with | .slice _ _ c => c | _ => 0) := by
        rcases hv with ⟨rfl, rfl, rfl⟩ | ⟨g, cap, cur, rfl, rfl, hg, hc, hm, hl, ht⟩
        · exact Nat.le_refl _
        · exact hc
      refine ⟨v, w, ?_, by simpa [iw] using hown, ⟨rfl, rfl, rfl, Nat.le_refl _, fun _ _ _ => rfl⟩, .inl rfl⟩
      rcases hv with ⟨rfl, rfl, rfl⟩ | ⟨g, cap, cur, rfl, rfl, hg, hc, hm, hl, ht⟩
      · simp [Builtin.append_, run_underlying hT, sizeOf, typeInfo, hi, Builtin.lenOf, Builtin.firstCells]
      · simp [Builtin.append_, run_underlying hT, sizeOf, typeInfo, hi, Builtin.lenOf, Builtin.firstCells, hc, storeCells]
    · obtain ⟨v', w', hr, ho, hg, _, hb⟩ := run_append_own_at (P := P) w w0.heap.size T ty E i z 1 8 hT hi hz h1 h8 hzc (by decide) v l.length (iw l) hown ⟨b, off, none⟩ m.length c (iw m) (by rw [iw_len, Nat.mul_one]) (fun j u hj => by
        rw [add_addr]
        rw [← ht] at hj
        have hj' : j < m.length := by
          have := (List.getElem?_eq_some_iff.1 hj).1
          rw [List.length_take] at this; omega
        rw [List.getElem?_take_of_lt hj', List.getElem?_drop] at hj
        simp [World.cell?, hh.at hw, hj]) (fun u hu => plain_one (iw_plain m u hu)) (by unfold maxLen; omega) (by omega) hw.size
      exact ⟨v', w', hr, ho, hg, hb⟩
  obtain ⟨v', w', hr, ho, hg, hb⟩ := hrun
  unfold opw
  have hex : (execOp (ev N S) ⟨d, .call { callee := .builtin .append, args := #[x, y], argTypes := #[T, T] }, ty, ps, af, gd⟩).run P w = .ok (.value v') w' := by
    simp [execOp, resolve, invoke, builtin, evO_spec hx, evO_spec hy, hr]
  rw [act_eval, hex]
  have hold : ∀ k, k < w0.heap.size → k ∉ X → w'.heap[k]? = w0.heap[k]? := fun k hk hx => by
    rw [hg.block k (Nat.lt_of_lt_of_le hk hw.size) (fun e => by have := (hrow k e.symm).2; omega)]; exact hw.old k hk hx
  have hM1 : ∀ y ∈ M1, w'.heap[y.b]? = some (.cells y.cs.toArray y.T (0, 0)) := fun y hy => by
    have hy' := hw1.mem y (List.mem_append_right _ hy)
    rw [hg.block y.b (lt_of_getElem? hy') (fun e => ?_)]; exact hy'
    have h2 := hw1.nodup
    rw [List.map_append, List.nodup_append] at h2
    exact h2.2.2 _ (hrow _ e.symm).1 _ (List.mem_map_of_mem hy) rfl
  have hnd1 : (M1.map Blk.b).Nodup := by
    have h2 := hw1.nodup
    rw [List.map_append, List.nodup_append] at h2; exact h2.2.1
  rcases ho.2 with ⟨rfl, hz0⟩ | ⟨g, cap, cur, rfl, hbg, hcell, hnc, hcm, hcs, htk⟩
  · have e0 : l ++ m = [] := List.eq_nil_of_length_eq_zero (by rw [List.length_append]; exact hz0)
    refine ⟨[] ++ M1, ⟨hg.os.trans hw.os, hg.tape.trans hw.tape, hg.output.trans hw.output, Nat.le_trans hw.size hg.size, hold, hnd1, hM1⟩, k _ [] (.inl ⟨rfl, e0, rfl⟩)⟩
  · have hgn : g ∉ M1.map Blk.b := by
      rcases hb with hb | hb
      · have h2 := hw1.nodup
        rw [List.map_append, List.nodup_append] at h2
        exact fun hm => h2.2.2 _ (hrow g hb.symm).1 _ hm rfl
      · have hgs : g = w.heap.size := by simpa [Value.ownBlock] using hb
        intro hm
        obtain ⟨y, hy, hyb⟩ := List.mem_map.1 hm
        have := lt_of_getElem? (hw1.mem y (List.mem_append_right _ hy))
        omega
    refine ⟨[⟨g, E, cur.toList⟩] ++ M1, ⟨hg.os.trans hw.os, hg.tape.trans hw.tape, hg.output.trans hw.output, Nat.le_trans hw.size hg.size, hold, by simpa using And.intro (by simpa using hgn) hnd1, fun y hy => ?_⟩, k _ _ (.inr ⟨g, cap, cur.toList, by rw [List.length_append], rfl, hbg, by rw [List.length_append]; exact hnc, hcm, by simpa using hcs, by rw [iw_append, List.length_append, ← htk, Nat.mul_one]⟩)⟩
    rcases List.mem_cons.1 hy with rfl | hy
    · simpa using hcell
    · exact hM1 y hy
end
end Go.Kn
