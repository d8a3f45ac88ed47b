/- The small logic, seventh part: slices of arrays and of slices, bytes of a string. No program stands in it. -/
import Derived.Test.YthbjhbmpfeeilaaKb
set_option linter.unusedVariables false
set_option linter.unusedSimpArgs false
namespace Go.Kn
open Go.RowKit
section
variable {P : Program} {w0 : World} {X : List Nat} {N : Nat} {S : Fr} {M : List Blk} {d : Option Tmp} {ty : TypeId} {ps : String} {af : Array Edge} {gd : Option (Nat × Bool)}
def evOpt (N : Nat) (S : Fr) (dflt : Int) : Option Operand → Option Int
  | none => some dflt
  | some x => match evO N S x with | some (.int _ i) => some i | _ => none
theorem bound_run {x : Operand} {i : Int} {y : Nat} {code : BoundsCode} {w : World} (h : evOpt N S 0 (some x) = some i) (h0 : 0 ≤ i) (h1 : i ≤ y) : (Instr.sliceBound (ev N S x) y code).run P w = .ok i.toNat w := by
  simp only [evOpt] at h
  split at h
  · rename_i k j hx
    cases h
    simp [Instr.sliceBound, evO_spec hx, asIntOf, h0, h1]
  · cases h
theorem bounds_run {isSl : Bool} {len cap : Nat} {lo hi : Option Operand} {l h : Int} {w : World} (hl : evOpt N S 0 lo = some l) (hh : evOpt N S len hi = some h) (h0 : 0 ≤ l) (h1 : l ≤ h) (h2 : h ≤ cap) :
    (Instr.sliceBounds isSl len cap (lo.map (ev N S)) (hi.map (ev N S)) none).run P w = .ok (l.toNat, h.toNat, cap) w := by
  unfold Instr.sliceBounds
  have hh' : h = ((h.toNat : Nat) : Int) := by omega
  cases hi with
  | none =>
    simp only [evOpt] at hh; cases hh
    cases lo with
    | none => simp only [evOpt] at hl; cases hl; simp
    | some x =>
      have hb := fun code => bound_run (P := P) (w := w) (code := code) (y := len) hl h0 (by omega)
      simp [hb]
  | some z =>
    have hz : evOpt N S 0 (some z) = some h := hh
    have hb2 := fun code => bound_run (P := P) (w := w) (code := code) (y := cap) hz (by omega) h2
    cases lo with
    | none =>
      simp only [evOpt] at hl; cases hl
      cases isSl <;> simp [hb2]
    | some x =>
      have hb := fun code => bound_run (P := P) (w := w) (code := code) (y := h.toNat) hl h0 (by omega)
      cases isSl <;> simp [hb2, hb]
/-- A slice of an array in a block. -/
theorem q_slca {T : TypeId} {x : Operand} {lo hi : Option Operand} {n s b off : Nat} {l h : Int} (hT : tyArr P T = some (n, s)) (hx : evO N S x = some (.pointer (some ⟨b, off, none⟩))) (hl : evOpt N S 0 lo = some l) (hh : evOpt N S n hi = some h)
    (h0 : 0 ≤ l) (h1 : l ≤ h) (h2 : h ≤ n) (h3 : l < n) : OpQ P w0 X N ⟨d, .slice T x lo hi none, ty, ps, af, gd⟩ S M (.slice (some ⟨b, off + l.toNat * s, none⟩) (h.toNat - l.toNat) (n - l.toNat)) :=
  q_of fun w _ => by
    obtain ⟨e, q, hu, hi', hs⟩ := tyArr_spec hT
    have hb := bounds_run (P := P) (w := w) (isSl := false) (cap := n) hl hh h0 h1 h2
    have hne : ¬ n = l.toNat := by omega
    simp [execOp, Instr.sliceAt, run_underlying hu, evO_spec hx, Instr.sureAddr, hb, sizeOf, typeInfo, hi', hs, hne, add_addr]
/-- A slice of a slice. -/
theorem q_slcs {T : TypeId} {x : Operand} {lo hi : Option Operand} {s b off len cap : Nat} {l h : Int} (hT : tySlice P T = some s) (hx : evO N S x = some (.slice (some ⟨b, off, none⟩) len cap)) (hl : evOpt N S 0 lo = some l) (hh : evOpt N S len hi = some h)
    (h0 : 0 ≤ l) (h1 : l ≤ h) (h2 : h ≤ cap) : OpQ P w0 X N ⟨d, .slice T x lo hi none, ty, ps, af, gd⟩ S M (.slice (some (if cap = l.toNat then ⟨b, off, none⟩ else ⟨b, off + l.toNat * s, none⟩)) (h.toNat - l.toNat) (cap - l.toNat)) :=
  q_of fun w _ => by
    obtain ⟨e, q, hu, hi', hs⟩ := tySlice_spec hT
    have hb := bounds_run (P := P) (w := w) (isSl := true) (cap := cap) hl hh h0 h1 h2
    simp only [execOp, Instr.sliceAt, Instr.slice, Sem.run_bind, run_underlying hu, evO_spec hx, Result.andThen_ok]
    simp only [Option.map_none, hb, Result.andThen_ok, sizeOf, typeInfo, Sem.run_bind, run_program, hi', hs, Sem.run_pure, Option.map_some, add_addr]
    split <;> simp [*]
theorem q_s2a {T : TypeId} {x : Operand} {n s len cap : Nat} {a : Addr} (hT : tyArr P T = some (n, s)) (hx : evO N S x = some (.slice (some a) len cap)) (hn : n ≤ len) : OpQ P w0 X N ⟨d, .sliceToArrayPointer T x, ty, ps, af, gd⟩ S M (.pointer (some a)) :=
  q_of fun w _ => by
    obtain ⟨e, q, hu, hi', hs⟩ := tyArr_spec hT
    have hlt : ¬ len < n := by omega
    simp [execOp, Instr.arrayAt, run_underlying hu, evO_spec hx, hlt]
/-- A byte of a constant string that is a table. -/
theorem q_istr {T : TypeId} {x y : Operand} {s : ByteArray} {k : IntKind} {j n : Nat} (f : Nat → Nat) (hT : P.underlying T = some .string) (hx : evO N S x = some (.string s)) (hy : evO N S y = some (.int k (j : Int))) (hj : j < n)
    (h : (List.range n).all (fun j => (s.data[j]?).map UInt8.toNat == some (f j)) = true) : OpQ P w0 X N ⟨d, .index T x y, ty, ps, af, gd⟩ S M (.int .u8 (f j : Nat)) :=
  q_of fun w _ => by
    rw [List.all_eq_true] at h
    have h1 := h j (List.mem_range.2 hj)
    rw [beq_iff_eq] at h1
    obtain ⟨c, hc, hcf⟩ := Option.map_eq_some_iff.1 h1
    have hs : s[j]? = some c := by
      obtain ⟨hlt, he⟩ := Array.getElem?_eq_some_iff.1 hc
      have hlt' : j < s.size := hlt
      rw [getElem?_pos s j hlt']
      congr 1
    simp [execOp, Instr.index, evO_spec hx, evO_spec hy, asIntOf, run_underlying hT, hs, hcf]
/-- As it was, but for the blocks X. -/
structure ExtX (X : List Nat) (w w' : World) : Prop where
  os : w'.os = w.os
  tape : w'.tape = w.tape
  output : w'.output = w.output
  size : w.heap.size ≤ w'.heap.size
  old : ∀ k, k < w.heap.size → k ∉ X → w'.heap[k]? = w.heap[k]?
theorem Sat.extX {w : World} (h : Sat w0 X M w) : ExtX X w0 w := ⟨h.os, h.tape, h.output, h.size, h.old⟩
theorem Sat.upd {w w' : World} {b : Nat} {T : TypeId} {cs cs' : List Value} {M' : List Blk} (h : Sat w0 X M w) (he : ExtX [b] w w') (hc : w'.heap[b]? = some (.cells cs'.toArray T (0, 0))) (hu : Upd b T cs cs' M M') (hb : w0.heap.size ≤ b ∨ b ∈ X) : Sat w0 X M' w' := by
  refine ⟨he.os.trans h.os, he.tape.trans h.tape, he.output.trans h.output, Nat.le_trans h.size he.size, fun k hk hx => ?_, by rw [hu.names]; exact h.nodup, fun x hx => ?_⟩
  · have hne : k ∉ [b] := by
      simp only [List.mem_singleton]
      rintro rfl
      rcases hb with hb | hb
      · omega
      · exact hx hb
    rw [he.old k (Nat.lt_of_lt_of_le hk h.size) hne]; exact h.old k hk hx
  · rcases hu.new h.nodup x hx with rfl | ⟨h1, h2⟩
    · exact hc
    · rw [he.old x.b (lt_of_getElem? (h.mem x h1)) (by simpa using h2)]; exact h.mem x h1
/-- A call whose value is known up to some x. -/
theorem r_callx {α : Type} {g : FuncId} {xs : List Operand} {tys : Array TypeId} {args : List Value} {f : α → Value} {Q : α → Prop} {K : Value → List Blk → Prop} (he : entersB P g = true) (ha : evL N S xs = some args)
    (h : ∀ w, Sat w0 X M w → Calls P g args.toArray w fun e w' => ∃ x, e = .returned (f x) ∧ Ext w w' ∧ Q x) (k : ∀ x, Q x → K (f x) M) : OpR P w0 X N ⟨d, .call { callee := .value (.func g), args := xs.toArray, argTypes := tys }, ty, ps, af, gd⟩ S M K :=
  r_call he ha fun w hw => (h w hw).mono fun _ w' ⟨x, h1, h2, h3⟩ => ⟨f x, M, h1, Sat.mono _ _ _ _ _ hw h2, k x h3⟩
/-- A call that writes one block of ours. -/
theorem r_callw {α : Type} {g : FuncId} {xs : List Operand} {tys : Array TypeId} {args : List Value} {f : α → Value} {Q : α → Prop} {K : Value → List Blk → Prop} {b : Nat} {T : TypeId} {cs : List Value} {cs' : α → List Value} {M' : α → List Blk}
    (he : entersB P g = true) (ha : evL N S xs = some args)
    (h : ∀ w, Sat w0 X M w → Calls P g args.toArray w fun e w' => ∃ x, e = .returned (f x) ∧ ExtX [b] w w' ∧ w'.heap[b]? = some (.cells (cs' x).toArray T (0, 0)) ∧ Q x) (hu : ∀ x, Upd b T cs (cs' x) M (M' x)) (hb : w0.heap.size ≤ b ∨ b ∈ X)
    (k : ∀ x, Q x → K (f x) (M' x)) : OpR P w0 X N ⟨d, .call { callee := .value (.func g), args := xs.toArray, argTypes := tys }, ty, ps, af, gd⟩ S M K :=
  r_call he ha fun w hw => (h w hw).mono fun _ w' ⟨x, h1, h2, h4, h3⟩ => ⟨f x, M' x, h1, hw.upd h2 h4 (hu x) hb, k x h3⟩
/-- The entry of a function that may write the block b of its caller's. -/
theorem callsw_of_W {f : FuncId} {fn : Func} {c : Code} {args : List Value} {w : World} {b : Nat} {T : TypeId} {cs : List Value} {R : Value → List Blk → Prop} (hf : P.funcs[f]? = some fn) (hb : fn.body = some c) (hn : fn.ntmps = N) (hl : args.length ≤ N)
    (hc : w.heap[b]? = some (.cells cs.toArray T (0, 0))) (h : W P w [b] N c (retPost P fn w [b] N R) (initF 0 args) [⟨b, T, cs⟩]) : Calls P f args.toArray w fun e w' => ∃ v M', e = .returned v ∧ Sat w [b] M' w' ∧ R v M' := by
  refine calls_of_W hf hb hn hl ⟨rfl, rfl, rfl, Nat.le_refl _, fun _ _ _ => rfl, by simp, fun x hx => ?_⟩ h
  obtain rfl : x = ⟨b, T, cs⟩ := by simpa using hx
  exact hc
theorem callsx_of_W {α : Type} {f : FuncId} {fn : Func} {c : Code} {args : List Value} {w : World} {g : α → Value} {Q : α → Prop} (hf : P.funcs[f]? = some fn) (hb : fn.body = some c) (hn : fn.ntmps = N) (hl : args.length ≤ N)
    (h : W P w [] N c (retPost P fn w [] N fun v _ => ∃ x, v = g x ∧ Q x) (initF 0 args) []) : Calls P f args.toArray w fun e w' => ∃ x, e = .returned (g x) ∧ Ext w w' ∧ Q x :=
  (calls_of_W hf hb hn hl (Sat.start w []) h).mono fun e w' ⟨u, M', he, hs, x, hu, hq⟩ => ⟨x, by rw [he, hu], hs.ext, hq⟩
/-- The same, with what the block holds afterwards. -/
theorem callsw_x {α : Type} {f : FuncId} {fn : Func} {c : Code} {args : List Value} {w : World} {b : Nat} {T : TypeId} {cs : List Value} {g : α → Value} {cs' : α → List Value} {Q : α → Prop} (hf : P.funcs[f]? = some fn) (hb : fn.body = some c) (hn : fn.ntmps = N) (hl : args.length ≤ N)
    (hc : w.heap[b]? = some (.cells cs.toArray T (0, 0))) (h : W P w [b] N c (retPost P fn w [b] N fun v M => ∃ x, v = g x ∧ (⟨b, T, cs' x⟩ : Blk) ∈ M ∧ Q x) (initF 0 args) [⟨b, T, cs⟩]) :
    Calls P f args.toArray w fun e w' => ∃ x, e = .returned (g x) ∧ ExtX [b] w w' ∧ w'.heap[b]? = some (.cells (cs' x).toArray T (0, 0)) ∧ Q x :=
  (callsw_of_W hf hb hn hl hc h).mono fun e w' ⟨v, M', he, hs, x, hv, hx, hq⟩ => ⟨x, by rw [he, hv], hs.extX, hs.mem _ hx, hq⟩
/-- The built-in copy between two rows of ours. -/
theorem upd_mem {b : Nat} {T : TypeId} {cs : List Value} (h : (⟨b, T, cs⟩ : Blk) ∈ M) (cs' : List Value) : ∃ M', Upd b T cs cs' M M' := by
  induction M with
  | nil => cases h
  | cons x l ih =>
    rcases List.mem_cons.1 h with rfl | h
    · exact ⟨_, .head _⟩
    · obtain ⟨M', hm⟩ := ih h; exact ⟨_, .tail _ hm⟩
theorem ret0 {fn : Func} {R : Value → List Blk → Prop} {e : Exit} (hr : fn.results = #[]) (he : e = .normal ∨ e = .ret) (k : R (.tuple #[]) M) : retPost P fn w0 X N R e S M :=
  ⟨he, _, fun w _ => by simp [results_eq, hr], k⟩
theorem r_copy {dT sT : TypeId} {x y : Operand} {s b b' off off' len len' cap cap' : Nat} {T T' : TypeId} {cs cs' cs'' : List Value} {M' : List Blk} {K : Value → List Blk → Prop} (hT : tySlice P dT = some s)
    (hx : evO N S x = some (.slice (some ⟨b, off, none⟩) len cap)) (hy : evO N S y = some (.slice (some ⟨b', off', none⟩) len' cap')) (hm : (⟨b', T', cs'⟩ : Blk) ∈ M) (hu : Upd b T cs cs'' M M')
    (hp : ∀ v ∈ (cs'.drop off').take (min len' len * s), plain v = true) (h1 : off' + min len' len * s ≤ cs'.length) (h2 : off + min len' len * s ≤ cs.length)
    (hc : cs.take off ++ (cs'.drop off').take (min len' len * s) ++ cs.drop (off + min len' len * s) = cs'') (hb : w0.heap.size ≤ b ∨ b ∈ X) (k : K (.int .i64 (min len' len : Nat)) M') :
    OpR P w0 X N ⟨d, .call { callee := .builtin .copy, args := #[x, y], argTypes := #[dT, sT] }, ty, ps, af, gd⟩ S M K := by
  intro w hw
  obtain ⟨e, q, hu', hi, hs⟩ := tySlice_spec hT
  have hl : ((cs'.drop off').take (min len' len * s)).length = min len' len * s := by simp; omega
  have hld : (loadCells ⟨b', off', none⟩ (min len' len * s)).run P w = .ok ((cs'.drop off').take (min len' len * s)).toArray w := by
    have := run_loadCells_list (P := P) w ⟨b', off', none⟩ ((cs'.drop off').take (min len' len * s)) (fun j v hj => by
      rw [add_addr]
      have hj' : j < min len' len * s := by have := (List.getElem?_eq_some_iff.1 hj).1; omega
      rw [List.getElem?_take_of_lt hj', List.getElem?_drop] at hj
      simp [World.cell?, hw.mem _ hm, hj])
    rwa [hl] at this
  have hst := run_storeCells_at (P := P) b off T ((cs'.drop off').take (min len' len * s)) 0 cs.toArray w (hw.mem _ hu.mem) (by simp only [List.size_toArray]; omega) (fun v hv => plain_one (hp v hv))
  simp only [Nat.add_zero, hl] at hst
  unfold opw
  have hrun : (execOp (ev N S) ⟨d, .call { callee := .builtin .copy, args := #[x, y], argTypes := #[dT, sT] }, ty, ps, af, gd⟩).run P w = .ok (.value (.int .i64 (min len' len : Nat))) (w.setRow b cs''.toArray) := by
    have hmin : Nat.min len' len = min len' len := rfl
    simp [execOp, resolve, invoke, builtin, evO_spec hx, evO_spec hy, Builtin.copy_, run_underlying hu', Builtin.lenOf, sizeOf, typeInfo, hi, hs, Builtin.firstCells, hmin, hld, hst, hc, goInt]
  rw [act_eval, hrun]
  exact ⟨M', hw.set hu hb, k⟩
end
end Go.Kn
