/- The small logic, fourth part: one law an operation; the entry into a function and its end. No program stands in it. -/
import Derived.Test.YthbjhbmpfeeilaaKo
import Derived.Laws.StructEq
set_option linter.unusedVariables false
set_option linter.unusedSimpArgs false
namespace Go.Kn
open Go.RowKit
section
variable {P : Program} {w0 : World} {X : List Nat} {N : Nat} {S : Fr} {M : List Blk} {d : Option Tmp} {ty : TypeId} {ps : String} {af : Array Edge} {gd : Option (Nat × Bool)}

theorem q_of {o : Oper} {v : Value} (h : ∀ w, Sat w0 X M w → (execOp (ev N S) o).run P w = .ok (.value v) w) : OpQ P w0 X N o S M v := by
  intro w hw
  unfold opw
  rw [act_eval, h w hw]
  exact ⟨rfl, Ext.refl _⟩
theorem q_move {x : Operand} {v : Value} (hv : evO N S x = some v) : OpQ P w0 X N ⟨d, .move x, ty, ps, af, gd⟩ S M v := q_of fun w _ => by simp [execOp, evO_spec hv]
theorem q_assign {x : Operand} {v : Value} (hv : evO N S x = some v) : OpQ P w0 X N ⟨d, .assign x, ty, ps, af, gd⟩ S M v := q_of fun w _ => by simp [execOp, evO_spec hv]
theorem q_pick {c a b : Operand} {t : Bool} {v : Value} (hc : evO N S c = some (.bool t)) (hv : (if t then evO N S a else evO N S b) = some v) : OpQ P w0 X N ⟨d, .pick c a b, ty, ps, af, gd⟩ S M v :=
  q_of fun w _ => by
    simp only [execOp, evO_spec hc, asBool]
    cases t <;> simp [evO_spec hv]
def noGuard (op : BinOp) : Bool := match op with | .eql | .neq => false | _ => true
theorem run_bin_int {op : BinOp} {T yT : TypeId} {x y : Operand} {k : IntKind} {a b : Int} {v : Value} (hx : evO N S x = some (.int k a)) (hy : evO N S y = some (.int k b)) (hs : op ≠ .shl ∧ op ≠ .shr)
    (hr : ∀ w, ((match op with | .add | .sub | .mul => Op.intArith op k a b | .quo | .rem => Op.intDiv op k a b | .and | .or | .xor | .andNot => Op.intBits op k a b | _ => Op.intCmp op a b) : Sem Value).run P w = .ok v w) :
    OpQ P w0 X N ⟨d, .binOp op T x y yT, ty, ps, af, gd⟩ S M v := q_of fun w _ => by
  have hg : ∀ w, (eqGuard op T x y (.int k a) (.int k b)).run P w = .ok () w := fun w => by cases op <;> rfl
  have h1 := hr w
  simp only [execOp, evO_spec hx, evO_spec hy, Sem.run_bind, hg, Result.andThen_ok]
  have h2 : (binOp op T (.int k a) (.int k b)).run P w = .ok v w := by
    rw [← h1]
    cases op <;> first | (exact absurd rfl hs.1) | (exact absurd rfl hs.2) | simp [binOp]
  rw [h2]; rfl
theorem q_add {T yT : TypeId} {x y : Operand} {k : IntKind} {a b : Int} (hx : evO N S x = some (.int k a)) (hy : evO N S y = some (.int k b)) : OpQ P w0 X N ⟨d, .binOp .add T x y yT, ty, ps, af, gd⟩ S M (.int k (k.wrap (a + b))) :=
  run_bin_int hx hy (by simp) fun _ => rfl
theorem q_sub {T yT : TypeId} {x y : Operand} {k : IntKind} {a b : Int} (hx : evO N S x = some (.int k a)) (hy : evO N S y = some (.int k b)) : OpQ P w0 X N ⟨d, .binOp .sub T x y yT, ty, ps, af, gd⟩ S M (.int k (k.wrap (a - b))) :=
  run_bin_int hx hy (by simp) fun _ => rfl
theorem q_mul {T yT : TypeId} {x y : Operand} {k : IntKind} {a b : Int} (hx : evO N S x = some (.int k a)) (hy : evO N S y = some (.int k b)) : OpQ P w0 X N ⟨d, .binOp .mul T x y yT, ty, ps, af, gd⟩ S M (.int k (k.wrap (a * b))) :=
  run_bin_int hx hy (by simp) fun _ => rfl
theorem q_quo {T yT : TypeId} {x y : Operand} {k : IntKind} {a b : Int} (hx : evO N S x = some (.int k a)) (hy : evO N S y = some (.int k b)) (hb : b ≠ 0) : OpQ P w0 X N ⟨d, .binOp .quo T x y yT, ty, ps, af, gd⟩ S M (.int k (k.wrap (a.tdiv b))) :=
  run_bin_int hx hy (by simp) fun _ => by simp [Op.intDiv, hb]
theorem q_rem {T yT : TypeId} {x y : Operand} {k : IntKind} {a b : Int} (hx : evO N S x = some (.int k a)) (hy : evO N S y = some (.int k b)) (hb : b ≠ 0) : OpQ P w0 X N ⟨d, .binOp .rem T x y yT, ty, ps, af, gd⟩ S M (.int k (a.tmod b)) :=
  run_bin_int hx hy (by simp) fun _ => by simp [Op.intDiv, hb]
theorem q_or {T yT : TypeId} {x y : Operand} {k : IntKind} {a b : Int} (hx : evO N S x = some (.int k a)) (hy : evO N S y = some (.int k b)) : OpQ P w0 X N ⟨d, .binOp .or T x y yT, ty, ps, af, gd⟩ S M (.int k (k.wrap (BitVec.ofInt k.bits a ||| BitVec.ofInt k.bits b).toNat)) :=
  run_bin_int hx hy (by simp) fun _ => rfl
theorem q_and {T yT : TypeId} {x y : Operand} {k : IntKind} {a b : Int} (hx : evO N S x = some (.int k a)) (hy : evO N S y = some (.int k b)) : OpQ P w0 X N ⟨d, .binOp .and T x y yT, ty, ps, af, gd⟩ S M (.int k (k.wrap (BitVec.ofInt k.bits a &&& BitVec.ofInt k.bits b).toNat)) :=
  run_bin_int hx hy (by simp) fun _ => rfl
theorem q_eql {T yT : TypeId} {x y : Operand} {k : IntKind} {a b : Int} (hx : evO N S x = some (.int k a)) (hy : evO N S y = some (.int k b)) : OpQ P w0 X N ⟨d, .binOp .eql T x y yT, ty, ps, af, gd⟩ S M (.bool (a == b)) :=
  run_bin_int hx hy (by simp) fun _ => rfl
theorem q_neq {T yT : TypeId} {x y : Operand} {k : IntKind} {a b : Int} (hx : evO N S x = some (.int k a)) (hy : evO N S y = some (.int k b)) : OpQ P w0 X N ⟨d, .binOp .neq T x y yT, ty, ps, af, gd⟩ S M (.bool (a != b)) :=
  run_bin_int hx hy (by simp) fun _ => rfl
theorem q_lss {T yT : TypeId} {x y : Operand} {k : IntKind} {a b : Int} (hx : evO N S x = some (.int k a)) (hy : evO N S y = some (.int k b)) : OpQ P w0 X N ⟨d, .binOp .lss T x y yT, ty, ps, af, gd⟩ S M (.bool (decide (a < b))) :=
  run_bin_int hx hy (by simp) fun _ => rfl
theorem q_leq {T yT : TypeId} {x y : Operand} {k : IntKind} {a b : Int} (hx : evO N S x = some (.int k a)) (hy : evO N S y = some (.int k b)) : OpQ P w0 X N ⟨d, .binOp .leq T x y yT, ty, ps, af, gd⟩ S M (.bool (decide (a ≤ b))) :=
  run_bin_int hx hy (by simp) fun _ => rfl
theorem q_gtr {T yT : TypeId} {x y : Operand} {k : IntKind} {a b : Int} (hx : evO N S x = some (.int k a)) (hy : evO N S y = some (.int k b)) : OpQ P w0 X N ⟨d, .binOp .gtr T x y yT, ty, ps, af, gd⟩ S M (.bool (decide (b < a))) :=
  run_bin_int hx hy (by simp) fun _ => rfl
theorem q_geq {T yT : TypeId} {x y : Operand} {k : IntKind} {a b : Int} (hx : evO N S x = some (.int k a)) (hy : evO N S y = some (.int k b)) : OpQ P w0 X N ⟨d, .binOp .geq T x y yT, ty, ps, af, gd⟩ S M (.bool (decide (b ≤ a))) :=
  run_bin_int hx hy (by simp) fun _ => rfl
theorem q_shl {T yT : TypeId} {x y : Operand} {k k' : IntKind} {a b : Int} (hx : evO N S x = some (.int k a)) (hy : evO N S y = some (.int k' b)) (hb : 0 ≤ b) : OpQ P w0 X N ⟨d, .binOp .shl T x y yT, ty, ps, af, gd⟩ S M (.int k (k.wrap (a * 2 ^ (min b.toNat k.bits)))) :=
  q_of fun w _ => by
    have hb' : ¬ b < 0 := by omega
    simp [execOp, evO_spec hx, evO_spec hy, eqGuard, binOp, Op.shift, hb']
theorem q_shr {T yT : TypeId} {x y : Operand} {k k' : IntKind} {a b : Int} (hx : evO N S x = some (.int k a)) (hy : evO N S y = some (.int k' b)) (hb : 0 ≤ b) : OpQ P w0 X N ⟨d, .binOp .shr T x y yT, ty, ps, af, gd⟩ S M (.int k (a.fdiv (2 ^ (min b.toNat k.bits)))) :=
  q_of fun w _ => by
    have hb' : ¬ b < 0 := by omega
    simp [execOp, evO_spec hx, evO_spec hy, eqGuard, binOp, Op.shift, hb']
def tyBool (P : Program) (T : TypeId) : Bool := match P.underlying T with | some .bool => true | _ => false
theorem tyBool_spec {T : TypeId} (h : tyBool P T = true) : P.underlying T = some .bool := by
  unfold tyBool at h; split at h
  · assumption
  · cases h
theorem q_eqlb {T yT : TypeId} {x y : Operand} {a b : Bool} (hT : tyBool P T = true) (hx : evO N S x = some (.bool a)) (hy : evO N S y = some (.bool b)) : OpQ P w0 X N ⟨d, .binOp .eql T x y yT, ty, ps, af, gd⟩ S M (.bool (a == b)) :=
  q_of fun w _ => by simp [execOp, evO_spec hx, evO_spec hy, eqGuard, binOp, Op.equal, Op.maxDepth, run_equalIn_bool' w 9999 T a b (tyBool_spec hT)]
theorem q_neqb {T yT : TypeId} {x y : Operand} {a b : Bool} (hT : tyBool P T = true) (hx : evO N S x = some (.bool a)) (hy : evO N S y = some (.bool b)) : OpQ P w0 X N ⟨d, .binOp .neq T x y yT, ty, ps, af, gd⟩ S M (.bool (a != b)) :=
  q_of fun w _ => by simp [execOp, evO_spec hx, evO_spec hy, eqGuard, binOp, Op.equal, Op.maxDepth, run_equalIn_bool' w 9999 T a b (tyBool_spec hT)]; cases a <;> cases b <;> rfl
/-- Two aggregates: what '==' of this type gives is handed in. -/
def EqOk (P : Program) (T : TypeId) (xs ys : List Value) (r : Bool) : Prop := P.eqGuardType P.depth T = false ∧ ∀ w, (Op.equalIn 10000 T (.agg xs.toArray) (.agg ys.toArray)).run P w = .ok r w
theorem q_eqla {T yT : TypeId} {x y : Operand} {xs ys : List Value} {r : Bool} (hx : evO N S x = some (.agg xs.toArray)) (hy : evO N S y = some (.agg ys.toArray)) (h : EqOk P T xs ys r) : OpQ P w0 X N ⟨d, .binOp .eql T x y yT, ty, ps, af, gd⟩ S M (.bool r) :=
  q_of fun w _ => by simp only [execOp, evO_spec hx, evO_spec hy, Sem.run_bind, run_eqGuard_agg w .eql T x y _ _ h.1, Result.andThen_ok, run_eql_struct, h.2]; rfl
theorem q_neqa {T yT : TypeId} {x y : Operand} {xs ys : List Value} {r : Bool} (hx : evO N S x = some (.agg xs.toArray)) (hy : evO N S y = some (.agg ys.toArray)) (h : EqOk P T xs ys r) : OpQ P w0 X N ⟨d, .binOp .neq T x y yT, ty, ps, af, gd⟩ S M (.bool (!r)) :=
  q_of fun w _ => by simp only [execOp, evO_spec hx, evO_spec hy, Sem.run_bind, run_eqGuard_agg w .neq T x y _ _ h.1, Result.andThen_ok, run_neq_struct, h.2]; rfl
theorem q_neg {T : TypeId} {x : Operand} {k : IntKind} {a : Int} (hx : evO N S x = some (.int k a)) : OpQ P w0 X N ⟨d, .unOp .neg T x, ty, ps, af, gd⟩ S M (.int k (k.wrap (0 - a))) := q_of fun w _ => by simp [execOp, evO_spec hx, Op.unary, Op.intArith]
theorem q_not {T : TypeId} {x : Operand} {a : Bool} (hx : evO N S x = some (.bool a)) : OpQ P w0 X N ⟨d, .unOp .not T x, ty, ps, af, gd⟩ S M (.bool (!a)) := q_of fun w _ => by simp [execOp, evO_spec hx, Op.unary]
theorem tyInt_spec {T : TypeId} {k : IntKind} (h : tyInt P T = some k) : P.underlying T = some (.int k) := by
  unfold tyInt at h; split at h
  · cases h; assumption
  · cases h
theorem q_conv {T U : TypeId} {x : Operand} {k k' : IntKind} {a : Int} (hT : tyInt P T = some k') (hU : tyInt P U = some k) (hx : evO N S x = some (.int k' a)) : OpQ P w0 X N ⟨d, .convert T U x, ty, ps, af, gd⟩ S M (.int k (k.wrap a)) :=
  q_of fun w _ => by simp [execOp, evO_spec hx, convert, run_underlying (tyInt_spec hT), run_underlying (tyInt_spec hU), Conv.intToInt]
theorem tyField_spec {T : TypeId} {f o n : Nat} (h : tyField P T f = some (o, n)) : ∃ fs x i, P.underlying T = some (.struct fs) ∧ fs[f]? = some x ∧ P.info? x.type = some i ∧ x.offset = o ∧ i.size = n := by
  unfold tyField at h; split at h
  · rename_i fs hd
    cases hf : fs[f]? with
    | none => simp [hf] at h
    | some x =>
      cases hi : P.info? x.type with
      | none => simp [hf, hi] at h
      | some i => simp [hf, hi] at h; exact ⟨fs, x, i, hd, hf, hi, h.1, h.2⟩
  · cases h
theorem q_faddr {T : TypeId} {x : Operand} {f o n b off : Nat} (hT : tyField P T f = some (o, n)) (hn : n ≠ 0) (hx : evO N S x = some (.pointer (some ⟨b, off, none⟩))) : OpQ P w0 X N ⟨d, .fieldAddr T x f, ty, ps, af, gd⟩ S M (.pointer (some ⟨b, off + o, none⟩)) :=
  q_of fun w _ => by
    obtain ⟨fs, y, i, hd, hf, hi, ho, hs⟩ := tyField_spec hT
    simp [execOp, evO_spec hx, Instr.fieldAt, run_underlying hd, hf, Instr.sureAddr, fieldPlace, sizeOf, typeInfo, hi, hs, hn, ho, add_addr]
theorem tyArr_spec {T n s : Nat} (h : tyArr P T = some (n, s)) : ∃ e i, P.underlying T = some (.array n e) ∧ P.info? e = some i ∧ i.size = s := by
  unfold tyArr at h; split at h
  · rename_i m e hd
    cases hi : P.info? e with
    | none => simp [hi] at h
    | some i => simp [hi] at h; obtain ⟨rfl, h2⟩ := h; exact ⟨e, i, hd, hi, h2⟩
  · cases h
theorem tySlice_spec {T s : Nat} (h : tySlice P T = some s) : ∃ e i, P.underlying T = some (.slice e) ∧ P.info? e = some i ∧ i.size = s := by
  unfold tySlice at h; split at h
  · rename_i e hd
    cases hi : P.info? e with
    | none => simp [hi] at h
    | some i => simp [hi] at h; exact ⟨e, i, hd, hi, h⟩
  · cases h
theorem q_idxa {T : TypeId} {x y : Operand} {n s b off : Nat} {k : IntKind} {i : Int} (hT : tyArr P T = some (n, s)) (hx : evO N S x = some (.pointer (some ⟨b, off, none⟩))) (hy : evO N S y = some (.int k i)) (h0 : 0 ≤ i) (h1 : i < n) :
    OpQ P w0 X N ⟨d, .indexAddr T x y, ty, ps, af, gd⟩ S M (.pointer (some ⟨b, off + i.toNat * s, none⟩)) :=
  q_of fun w _ => by
    obtain ⟨e, q, hd, hi, hs⟩ := tyArr_spec hT
    simp [execOp, evO_spec hx, evO_spec hy, Instr.indexAt, asIntOf, run_underlying hd, Instr.sureAddr, sizeOf, typeInfo, hi, hs, h0, h1, add_addr]
theorem q_idxs {T : TypeId} {x y : Operand} {s b off len cap : Nat} {k : IntKind} {i : Int} (hT : tySlice P T = some s) (hx : evO N S x = some (.slice (some ⟨b, off, none⟩) len cap)) (hy : evO N S y = some (.int k i)) (h0 : 0 ≤ i) (h1 : i < len) :
    OpQ P w0 X N ⟨d, .indexAddr T x y, ty, ps, af, gd⟩ S M (.pointer (some ⟨b, off + i.toNat * s, none⟩)) :=
  q_of fun w _ => by
    obtain ⟨e, q, hd, hi, hs⟩ := tySlice_spec hT
    simp [execOp, evO_spec hx, evO_spec hy, Instr.indexAt, asIntOf, run_underlying hd, sizeOf, typeInfo, hi, hs, h0, h1, add_addr]
theorem q_load {T U : TypeId} {x : Operand} {s b off : Nat} {cs : List Value} {v : Value} (hT : tyOf P T = some (false, s)) (hx : evO N S x = some (.pointer (some ⟨b, off, none⟩))) (hm : (⟨b, U, cs⟩ : Blk) ∈ M) (hc : cs[off]? = some v) :
    OpQ P w0 X N ⟨d, .load T x, ty, ps, af, gd⟩ S M v :=
  q_of fun w hw => by simp only [execOp, evO_spec hx, Sem.run_bind, load_cell (w := w) hT (hw.mem _ hm) hc]; rfl
theorem q_loada {T U : TypeId} {x : Operand} {n b off : Nat} {cs vs : List Value} (hT : tyOf P T = some (true, n)) (hx : evO N S x = some (.pointer (some ⟨b, off, none⟩))) (hm : (⟨b, U, cs⟩ : Blk) ∈ M) (hv : (cs.drop off).take n = vs) (hl : vs.length = n) :
    OpQ P w0 X N ⟨d, .load T x, ty, ps, af, gd⟩ S M (.agg vs.toArray) :=
  q_of fun w hw => by simp only [execOp, evO_spec hx, Sem.run_bind, load_agg (w := w) hT (hw.mem _ hm) hv hl]; rfl
theorem q_extract {x : Operand} {i : Nat} {vs : Array Value} {v : Value} (hx : evO N S x = some (.tuple vs)) (hv : vs[i]? = some v) : OpQ P w0 X N ⟨d, .extract x i, ty, ps, af, gd⟩ S M v := q_of fun w _ => by simp [execOp, evO_spec hx, Instr.extract, hv]
theorem q_nil {x : Operand} {a : Addr} (hx : evO N S x = some (.pointer (some a))) : OpQ P w0 X N ⟨d, .nilCheck x, ty, ps, af, gd⟩ S M (.pointer (some a)) := q_of fun w _ => by simp [execOp, evO_spec hx]
theorem q_len {T : TypeId} {x : Operand} {s len cap : Nat} {a : Option Addr} (hT : tySlice P T = some s) (hx : evO N S x = some (.slice a len cap)) : OpQ P w0 X N ⟨d, .call { callee := .builtin .len, args := #[x], argTypes := #[T] }, ty, ps, af, gd⟩ S M (.int .i64 len) :=
  q_of fun w _ => by
    obtain ⟨e, q, hd, hi, hs⟩ := tySlice_spec hT
    simp [execOp, resolve, invoke, builtin, evO_spec hx, Builtin.len_, run_underlying hd, goInt]

/-! calls -/
def entersB (P : Program) (f : FuncId) : Bool := match P.funcs[f]? with
  | some fn => !(fn.name == "runtime.NumGoroutine") && fn.body.isSome
  | none => false
theorem run_enter {f : FuncId} (h : entersB P f = true) (args : Array Value) (w : World) : (callFunc f args).run P w = .ok (.enter f args) w := by
  unfold entersB at h
  split at h
  · rename_i fn hf
    simp only [Bool.and_eq_true, Bool.not_eq_true'] at h
    have hn : fn.body.isNone = false := by cases hb : fn.body <;> simp_all
    simp only [callFunc, Sem.run_bind, run_program, Result.andThen_ok, hf, h.1, hn]
    rfl
  · cases h
/-- The call returns v, and only adds to memory. -/
def Ret (P : Program) (f : FuncId) (args : List Value) (v : Value) : Prop := ∀ w, Calls P f args.toArray w fun e w' => e = .returned v ∧ Ext w w'
theorem exec_call {g : FuncId} {f : Operand} {xs : List Operand} {tys : Array TypeId} {args : List Value} {first cap : List Value} (he : entersB P g = true) (hf : ev N S f = .func (.func g) first.toArray cap.toArray)
    (ha : first ++ xs.map (ev N S) ++ cap = args) (w : World) :
    (execOp (ev N S) ⟨d, .call { callee := .value f, args := xs.toArray, argTypes := tys }, ty, ps, af, gd⟩).run P w = .ok (.enter g args.toArray) w := by
  have : first.toArray ++ Array.map (ev N S) xs.toArray ++ cap.toArray = args.toArray := by rw [← ha]; simp
  simp only [execOp, resolve, hf, Deferred.ofValue, Sem.run_bind, Sem.run_pure, Result.andThen_ok, invoke, this, run_enter he]
theorem q_call {g : FuncId} {xs : List Operand} {tys : Array TypeId} {args : List Value} {v : Value} (he : entersB P g = true) (ha : evL N S xs = some args)
    (h : ∀ w, Sat w0 X M w → Calls P g args.toArray w fun e w' => e = .returned v ∧ Ext w w') : OpQ P w0 X N ⟨d, .call { callee := .value (.func g), args := xs.toArray, argTypes := tys }, ty, ps, af, gd⟩ S M v := by
  intro w hw
  unfold opw
  rw [act_eval, exec_call (first := []) (cap := []) he rfl (by simpa using evL_spec ha)]
  exact (h w hw).mono fun e w' ⟨h1, h2⟩ => ⟨v, h1, rfl, h2⟩
theorem q_ret {g : FuncId} {xs : List Operand} {tys : Array TypeId} {args : List Value} {v : Value} (he : entersB P g = true) (h : Ret P g args v) (ha : evL N S xs = some args) :
    OpQ P w0 X N ⟨d, .call { callee := .value (.func g), args := xs.toArray, argTypes := tys }, ty, ps, af, gd⟩ S M v := q_call he ha fun w _ => h w
theorem r_call {g : FuncId} {xs : List Operand} {tys : Array TypeId} {args : List Value} {K : Value → List Blk → Prop} (he : entersB P g = true) (ha : evL N S xs = some args)
    (h : ∀ w, Sat w0 X M w → Calls P g args.toArray w fun e w' => ∃ v M', e = .returned v ∧ Sat w0 X M' w' ∧ K v M') : OpR P w0 X N ⟨d, .call { callee := .value (.func g), args := xs.toArray, argTypes := tys }, ty, ps, af, gd⟩ S M K := by
  intro w hw
  unfold opw
  rw [act_eval, exec_call (first := []) (cap := []) he rfl (by simpa using evL_spec ha)]
  exact (h w hw).mono fun e w' ⟨v, M', h1, h2, h3⟩ => ⟨v, h1, M', h2, h3⟩

/-! memory -/
theorem r_box {T : TypeId} {x : Operand} {v : Value} {cs : List Value} {K : Value → List Blk → Prop} (hx : evO N S x = some v) (hv : v.cells = cs.toArray) (k : ∀ b, w0.heap.size ≤ b → K (.pointer (some ⟨b, 0, none⟩)) (⟨b, T, cs⟩ :: M)) :
    OpR P w0 X N ⟨d, .box T x, ty, ps, af, gd⟩ S M K := by
  intro w hw
  unfold opw
  have hrun : (execOp (ev N S) ⟨d, .box T x, ty, ps, af, gd⟩).run P w = .ok (.value (.pointer (some ⟨w.heap.size, 0, none⟩))) (w.alloc (.cells cs.toArray T)) := by
    simp [execOp, Instr.box, newVar, newRow, newObj, evO_spec hx, hv, Sem.run]
  rw [act_eval, hrun]
  exact ⟨_, hw.alloc T cs, k _ hw.size⟩
def tyZero (P : Program) (T : TypeId) : Option (List Value) := (P.info? T).bind fun i => i.zero.map fun v => v.cells.toList
theorem tyZero_spec {T : TypeId} {cs : List Value} (h : tyZero P T = some cs) : ∃ i v, P.info? T = some i ∧ i.zero = some v ∧ v.cells = cs.toArray := by
  unfold tyZero at h
  cases hi : P.info? T with
  | none => simp [hi] at h
  | some i =>
    cases hz : i.zero with
    | none => simp [hi, hz] at h
    | some v => simp [hi, hz] at h; exact ⟨i, v, rfl, hz, by rw [← h]⟩
theorem r_alloc {T : TypeId} {cs : List Value} {K : Value → List Blk → Prop} (hT : tyZero P T = some cs) (k : ∀ b, w0.heap.size ≤ b → K (.pointer (some ⟨b, 0, none⟩)) (⟨b, T, cs⟩ :: M)) :
    OpR P w0 X N ⟨d, .alloc T, ty, ps, af, gd⟩ S M K := by
  intro w hw
  obtain ⟨i, z, hi, hz, hc⟩ := tyZero_spec hT
  unfold opw
  have hrun : (execOp (ev N S) ⟨d, .alloc T, ty, ps, af, gd⟩).run P w = .ok (.value (.pointer (some ⟨w.heap.size, 0, none⟩))) (w.alloc (.cells cs.toArray T)) := by
    simp [execOp, Instr.alloc, zeroValue, typeInfo, hi, hz, newVar, newRow, newObj, hc, Sem.run]
  rw [act_eval, hrun]
  exact ⟨_, hw.alloc T cs, k _ hw.size⟩
theorem r_store {T U : TypeId} {x y : Operand} {g : Bool} {n b off : Nat} {cs vs cs' : List Value} {M' : List Blk} {v : Value} {K : Value → List Blk → Prop} (hT : tyOf P T = some (g, n)) (hx : evO N S x = some (.pointer (some ⟨b, off, none⟩))) (hu : Upd b U cs cs' M M')
    (hy0 : evO N S y = some v) (hy : v.cells = vs.toArray) (hl : vs.length = n) (hp : ∀ v ∈ vs, plain v = true) (ho : off + n ≤ cs.length) (hc : cs.take off ++ vs ++ cs.drop (off + n) = cs') (hb : w0.heap.size ≤ b ∨ b ∈ X) (k : K undef M') :
    OpR P w0 X N ⟨d, .store T x y, ty, ps, af, gd⟩ S M K := by
  intro w hw
  unfold opw
  have hrun : (execOp (ev N S) ⟨d, .store T x y, ty, ps, af, gd⟩).run P w = .ok .skip (w.setRow b cs'.toArray) := by
    simp only [execOp, evO_spec hx, evO_spec hy0, Sem.run_bind, store_row (w := w) hT (hw.mem _ hu.mem) hy hl hp ho, hc]; rfl
  rw [act_eval, hrun]
  exact ⟨M', hw.set hu hb, k⟩
/-- One cell is stored. -/
theorem r_store1 {T U : TypeId} {x y : Operand} {b off : Nat} {cs : List Value} {v : Value} {M' : List Blk} {K : Value → List Blk → Prop} (hT : tyOf P T = some (false, 1)) (hx : evO N S x = some (.pointer (some ⟨b, off, none⟩)))
    (hy : evO N S y = some v) (hp : plain v = true) (hu : Upd b U cs (cs.set off v) M M') (ho : off < cs.length) (hb : w0.heap.size ≤ b ∨ b ∈ X) (k : K undef M') :
    OpR P w0 X N ⟨d, .store T x y, ty, ps, af, gd⟩ S M K :=
  r_store (vs := [v]) hT hx hu hy (by cases v <;> first | rfl | cases hp) rfl (by simpa using hp) (by omega) (by
    rw [List.set_eq_take_append_cons_drop, if_pos ho]; simp) hb k
/-- The whole block is stored. -/
theorem r_storew {T U : TypeId} {x y : Operand} {n b : Nat} {cs vs : List Value} {M' : List Blk} {K : Value → List Blk → Prop} (hT : tyOf P T = some (true, n)) (hx : evO N S x = some (.pointer (some ⟨b, 0, none⟩)))
    (hy : evO N S y = some (.agg vs.toArray)) (hu : Upd b U cs vs M M') (hl : vs.length = n) (ho : cs.length = n) (hp : ∀ v ∈ vs, plain v = true) (hb : w0.heap.size ≤ b ∨ b ∈ X) (k : K undef M') :
    OpR P w0 X N ⟨d, .store T x y, ty, ps, af, gd⟩ S M K :=
  r_store (vs := vs) hT hx hu hy rfl hl hp (by omega) (by simp [← ho]) hb k
theorem q_loadw {T U : TypeId} {x : Operand} {n b : Nat} {cs : List Value} (hT : tyOf P T = some (true, n)) (hx : evO N S x = some (.pointer (some ⟨b, 0, none⟩))) (hm : (⟨b, U, cs⟩ : Blk) ∈ M) (hl : cs.length = n) :
    OpQ P w0 X N ⟨d, .load T x, ty, ps, af, gd⟩ S M (.agg cs.toArray) := q_loada hT hx hm (by simp [← hl]) hl
end

section
variable {α : Type} {x a0 a1 a2 a3 a4 a5 a6 a7 a8 a9 a10 a11 a12 a13 : α} {l : List α}
theorem m0 : x ∈ x :: l := List.mem_cons_self
theorem m1 : x ∈ a0 :: x :: l := List.mem_cons_of_mem _ m0
theorem m2 : x ∈ a0 :: a1 :: x :: l := List.mem_cons_of_mem _ m1
theorem m3 : x ∈ a0 :: a1 :: a2 :: x :: l := List.mem_cons_of_mem _ m2
theorem m4 : x ∈ a0 :: a1 :: a2 :: a3 :: x :: l := List.mem_cons_of_mem _ m3
theorem m5 : x ∈ a0 :: a1 :: a2 :: a3 :: a4 :: x :: l := List.mem_cons_of_mem _ m4
theorem m6 : x ∈ a0 :: a1 :: a2 :: a3 :: a4 :: a5 :: x :: l := List.mem_cons_of_mem _ m5
theorem m7 : x ∈ a0 :: a1 :: a2 :: a3 :: a4 :: a5 :: a6 :: x :: l := List.mem_cons_of_mem _ m6
theorem m8 : x ∈ a0 :: a1 :: a2 :: a3 :: a4 :: a5 :: a6 :: a7 :: x :: l := List.mem_cons_of_mem _ m7
theorem m9 : x ∈ a0 :: a1 :: a2 :: a3 :: a4 :: a5 :: a6 :: a7 :: a8 :: x :: l := List.mem_cons_of_mem _ m8
theorem m10 : x ∈ a0 :: a1 :: a2 :: a3 :: a4 :: a5 :: a6 :: a7 :: a8 :: a9 :: x :: l := List.mem_cons_of_mem _ m9
theorem m11 : x ∈ a0 :: a1 :: a2 :: a3 :: a4 :: a5 :: a6 :: a7 :: a8 :: a9 :: a10 :: x :: l := List.mem_cons_of_mem _ m10
theorem m12 : x ∈ a0 :: a1 :: a2 :: a3 :: a4 :: a5 :: a6 :: a7 :: a8 :: a9 :: a10 :: a11 :: x :: l := List.mem_cons_of_mem _ m11
theorem m13 : x ∈ a0 :: a1 :: a2 :: a3 :: a4 :: a5 :: a6 :: a7 :: a8 :: a9 :: a10 :: a11 :: a12 :: x :: l := List.mem_cons_of_mem _ m12
end
/-! ### The function's entry and its end -/
section
variable {P : Program} {w0 : World} {X : List Nat} {N : Nat}
def retPost (P : Program) (fn : Func) (w0 : World) (X : List Nat) (N : Nat) (R : Value → List Blk → Prop) : Post := fun e S M =>
  (e = .normal ∨ e = .ret) ∧ ∃ v, (∀ w, Sat w0 X M w → (results fn (act N S).tmps).run P w = .ok v w) ∧ R v M
def initF : Nat → List Value → Fr
  | _, [] => []
  | i, v :: l => (i, v) :: initF (i + 1) l
theorem look_initF (l : List Value) : ∀ (k i : Nat), look (initF k l) (k + i) = l.getD i undef := by
  induction l with
  | nil => intro k i; rfl
  | cons v l ih =>
    intro k i
    simp only [initF, look_cons]
    cases i with
    | zero => simp
    | succ i =>
      rw [if_neg (by omega), show k + (i + 1) = (k + 1) + i by omega, ih]
      simp
theorem act_initF (N : Nat) (args : List Value) (hl : args.length ≤ N) : act N (initF 0 args) = { tmps := args.toArray ++ Array.replicate (N - args.toArray.size) undef, defers := [] } := by
  unfold act
  congr 1
  apply Array.ext'
  apply List.ext_getElem?
  intro i
  have h := look_initF args 0 i
  rw [Nat.zero_add] at h
  simp only [List.getElem?_map, Array.toList_append, Array.toList_replicate, List.size_toArray]
  by_cases hi : i < N
  · rw [List.getElem?_range hi, Option.map_some, h]
    by_cases h2 : i < args.length
    · rw [List.getElem?_append_left h2]; simp [h2]
    · rw [List.getElem?_append_right (by omega), List.getElem?_replicate, if_pos (by omega)]
      simp [List.getD, List.getElem?_eq_none (Nat.le_of_not_lt h2)]
  · rw [List.getElem?_eq_none (by simp; omega), List.getElem?_eq_none (by simp; omega)]; rfl
theorem calls_of_W {f : FuncId} {fn : Func} {c : Code} {args : List Value} {w : World} {M : List Blk} {R : Value → List Blk → Prop} (hf : P.funcs[f]? = some fn) (hb : fn.body = some c) (hn : fn.ntmps = N) (hl : args.length ≤ N) (hw : Sat w0 X M w)
    (h : W P w0 X N c (retPost P fn w0 X N R) (initF 0 args) M) : Calls P f args.toArray w fun e w' => ∃ v M', e = .returned v ∧ Sat w0 X M' w' ∧ R v M' := by
  refine calls_of_wp hf hb ?_
  have h1 := h w hw
  rw [act_initF N args hl, ← hn] at h1
  refine wp_mono h1 ?_
  rintro e a w' ⟨S, M', rfl, hs, hne, v, hv, hr⟩
  rcases hne with rfl | rfl
  · exact ⟨rfl, v, hv w' hs, v, M', rfl, hs, hr⟩
  · exact ⟨rfl, v, hv w' hs, v, M', rfl, hs, hr⟩
theorem ret_of_W {f : FuncId} {fn : Func} {c : Code} {args : List Value} {v : Value} (hf : P.funcs[f]? = some fn) (hb : fn.body = some c) (hn : fn.ntmps = N) (hl : args.length ≤ N)
    (h : ∀ w0, W P w0 [] N c (retPost P fn w0 [] N fun u _ => u = v) (initF 0 args) []) : Ret P f args v := fun w =>
  (calls_of_W hf hb hn hl (Sat.start w []) (h w)).mono fun e w' ⟨u, M', he, hs, hu⟩ => ⟨by rw [he, hu], hs.ext⟩
/-- What one result reads as. -/
def ResOk (P : Program) (N : Nat) (S : Fr) (M : List Blk) : ResultVar → Value → Prop
  | .tmp t, v => evO N S (.tmp t) = some v
  | .cell a T, v => ∃ b off cs U g n, evO N S (.tmp a) = some (.pointer (some ⟨b, off, none⟩)) ∧ (⟨b, U, cs⟩ : Blk) ∈ M ∧ tyOf P T = some (g, n) ∧
      (match g with | true => ∃ vs, (cs.drop off).take n = vs ∧ vs.length = n ∧ v = .agg vs.toArray | false => cs[off]? = some v)
def resSem (tmps : Array Value) : ResultVar → Sem Value
  | .tmp t => pure (tmps.getD t undef)
  | .cell a t => do loadVar t (← asAddr (tmps.getD a undef))
theorem results_eq (fn : Func) (tmps : Array Value) : results fn tmps = (do let vs ← fn.results.mapM (resSem tmps); pure (if h : vs.size = 1 then vs[0] else .tuple vs)) := rfl
theorem tmps_at (N : Nat) (S : Fr) (t : Tmp) : (act N S).tmps.getD t undef = ev N S (.tmp t) := by rw [← act_eval]; rfl
theorem run_res {S : Fr} {M : List Blk} {r : ResultVar} {v : Value} (h : ResOk P N S M r v) {w : World} (hw : Sat w0 X M w) : (resSem (act N S).tmps r).run P w = .ok v w := by
  cases r with
  | tmp t => simp only [ResOk] at h; simp only [resSem, tmps_at, evO_spec h]; rfl
  | cell a T =>
    obtain ⟨b, off, cs, U, g, n, hp, hm, hT, hv⟩ := h
    simp only [resSem, tmps_at, evO_spec hp, asAddr, Sem.run_bind, Sem.run_pure, Result.andThen_ok]
    cases g with
    | true =>
      obtain ⟨vs, h1, h2, rfl⟩ := hv
      have := load_agg (w := w) hT (hw.mem _ hm) h1 h2
      simpa [Instr.loadAt, Instr.sureAddr] using this
    | false =>
      have := load_cell (w := w) hT (hw.mem _ hm) hv
      simpa [Instr.loadAt, Instr.sureAddr] using this
theorem ret1 {fn : Func} {R : Value → List Blk → Prop} {S : Fr} {M : List Blk} {r : ResultVar} {v : Value} {e : Exit} (hr : fn.results = #[r]) (he : e = .normal ∨ e = .ret) (h : ResOk P N S M r v) (k : R v M) : retPost P fn w0 X N R e S M :=
  ⟨he, v, fun w hw => by
    have := run_res h hw
    simp [results_eq, hr, List.mapM_toArray, List.mapM_cons, List.mapM_nil, this], k⟩
theorem ret2 {fn : Func} {R : Value → List Blk → Prop} {S : Fr} {M : List Blk} {r1 r2 : ResultVar} {v1 v2 : Value} {e : Exit} (hr : fn.results = #[r1, r2]) (he : e = .normal ∨ e = .ret) (h1 : ResOk P N S M r1 v1) (h2 : ResOk P N S M r2 v2)
    (k : R (.tuple #[v1, v2]) M) : retPost P fn w0 X N R e S M :=
  ⟨he, _, fun w hw => by
    have a1 := run_res h1 hw
    have a2 := run_res h2 hw
    simp [results_eq, hr, List.mapM_toArray, List.mapM_cons, List.mapM_nil, a1, a2], k⟩
end
section
variable {P : Program} {w0 : World} {X : List Nat} {N : Nat}
/-! ### Frames at a loop's head -/
def setG (S : Fr) (g : Nat → Value) : List Nat → Fr
  | [] => S
  | i :: l => (i, g i) :: setG S g l
inductive PutOn (mods : List Nat) (S0 : Fr) : Fr → Prop where
  | refl : PutOn mods S0 S0
  | cons {d : Nat} {v : Value} {S : Fr} (h : mods.contains d = true) (k : PutOn mods S0 S) : PutOn mods S0 ((d, v) :: S)
theorem PutOn.look {mods : List Nat} {S0 S : Fr} (h : PutOn mods S0 S) {i : Nat} (hi : mods.contains i = false) : look S i = look S0 i := by
  induction h with
  | refl => rfl
  | cons h _ ih => rw [look_cons, if_neg (fun e => by subst e; rw [h] at hi; cases hi)]; exact ih
theorem look_setG (S : Fr) (g : Nat → Value) (i : Nat) : ∀ l : List Nat, look (setG S g l) i = if l.contains i then g i else look S i
  | [] => by simp [setG]
  | j :: l => by
    simp only [setG, look_cons]
    by_cases h : j = i
    · subst h; simp
    · rw [if_neg h, look_setG S g i l]
      have h' : ¬ i = j := fun e => h e.symm
      simp [h']
theorem setG_of_putOn {mods : List Nat} {S0 S : Fr} {g : Nat → Value} (h : PutOn mods (setG S0 g mods) S) (N : Nat) : act N S = act N (setG S0 (look S) mods) := by
  refine act_congr fun i => ?_
  rw [look_setG]
  cases hc : mods.contains i
  · rw [h.look hc, look_setG, hc]; rfl
  · rfl
theorem W_congr {c : Code} {Q : Post} {S S' : Fr} {M : List Blk} (h : act N S = act N S') (k : W P w0 X N c Q S' M) : W P w0 X N c Q S M := fun w hw => by rw [h]; exact k w hw
/-- A loop: 'mods' are the slots that a round may write; R speaks of their values, of the measure and of the blocks. -/
theorem W_loop_g {Q : Post} {S0 : Fr} {M0 : List Blk} {c : Code} (mods : List Nat) (R : (Nat → Value) → Nat → List Blk → Prop) (n : Nat)
    (start : ∃ M', M'.Sublist M0 ∧ R (look S0) n M')
    (round : ∀ n g M, R g n M → W P w0 X N c (thenK (fun S' M' => PutOn mods (setG S0 g mods) S' ∧ ∃ M'' m, M''.Sublist M' ∧ m < n ∧ R (look S') m M'') Q) (setG S0 g mods) M) : W P w0 X N (.loop c) Q S0 M0 := by
  refine W_loop (fun n S M => ∃ g, act N S = act N (setG S0 g mods) ∧ R g n M) n ?_ ?_
  · obtain ⟨M', hs, hr⟩ := start
    refine ⟨M', hs, _, act_congr fun i => ?_, hr⟩
    rw [look_setG]; split <;> rfl
  · rintro n S M ⟨g, he, hr⟩
    refine W_congr he (W_mono (round n g M hr) ?_)
    intro e S M h
    cases e with
    | normal => obtain ⟨hp, M'', m, hs, hl, hr⟩ := h; exact ⟨M'', m, hs, hl, _, setG_of_putOn hp N, hr⟩
    | exit id => exact h
    | goto l => exact h
    | ret => exact h
    | panic c => exact h
    | outgrown => exact h
theorem setG_of_putOn0 {mods : List Nat} {S0 S : Fr} (h : PutOn mods S0 S) (N : Nat) : act N S = act N (setG S0 (look S) mods) := by
  refine act_congr fun i => ?_
  rw [look_setG]
  cases hc : mods.contains i
  · rw [h.look hc]; rfl
  · rfl
/-- Where ways meet: 'mods' are the slots that x may write; R speaks of their values and of the blocks. -/
theorem W_join {Q : Post} {S0 : Fr} {M0 : List Blk} {x y : Code} (mods : List Nat) (R : (Nat → Value) → List Blk → Prop)
    (hx : ∀ K : Fr → List Blk → Prop, (∀ S M, PutOn mods S0 S → (∃ M', M'.Sublist M ∧ R (look S) M') → K S M) → W P w0 X N x (thenK K Q) S0 M0)
    (hy : ∀ g M, R g M → W P w0 X N y Q (setG S0 g mods) M) : W P w0 X N (.seq x y) Q S0 M0 := by
  refine W_seq fun K hK => W_mono (hx (fun S M => PutOn mods S0 S ∧ ∃ M', M'.Sublist M ∧ R (look S) M') (fun S M h1 h2 => ⟨h1, h2⟩)) ?_
  intro e S M h
  cases e with
  | normal =>
    obtain ⟨hp, M', hs, hr⟩ := h
    exact hK S M (W_congr (setG_of_putOn0 hp N) fun w hw => hy _ _ hr w (hw.sub hs))
  | exit id => exact h
  | goto l => exact h
  | ret => exact h
  | panic c => exact h
  | outgrown => exact h
theorem thenK_x {id : Nat} {K : Fr → List Blk → Prop} {Q : Post} {S : Fr} {M : List Blk} (h : Q (.exit id) S M) : thenK K Q (.exit id) S M := h
theorem thenK_r {K : Fr → List Blk → Prop} {Q : Post} {S : Fr} {M : List Blk} (h : Q .ret S M) : thenK K Q .ret S M := h
theorem blockK_r {id : Nat} {Q : Post} {S : Fr} {M : List Blk} (h : Q .ret S M) : blockK id Q .ret S M := h
theorem blockK_hit {id : Nat} {Q : Post} {S : Fr} {M : List Blk} (h : Q .normal S M) : blockK id Q (.exit id) S M := by show (if id = id then _ else _); rw [if_pos rfl]; exact h
theorem blockK_miss {id id' : Nat} {Q : Post} {S : Fr} {M : List Blk} (hn : id' ≠ id) (h : Q (.exit id') S M) : blockK id Q (.exit id') S M := by show (if id' = id then _ else _); rw [if_neg hn]; exact h
end
end Go.Kn
