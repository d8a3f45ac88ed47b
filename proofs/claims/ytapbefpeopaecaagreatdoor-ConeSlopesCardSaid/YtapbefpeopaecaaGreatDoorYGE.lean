/- Appending to a list of our own, wherever its block stands among those that we hold. No program stands in it. Lists as results; lists of our own: elements are stored, prefixes with no room behind them are appended to. No program stands in it. Halves and square roots of whole numbers. No program stands in it. Structures with lists: the edges of a pyramid, multipliers. No program stands in it. Closed facts of the program's types and functions. What these functions compute, as plain functions. No program stands in it. -/
import Derived.Test.YtapbefpeopaecaaGreatDoorYGD
import Derived.ArgAppend
import Derived.Test.YtapbefpeopaecaaGreatDoorProg
set_option linter.unusedVariables false
set_option linter.unusedSimpArgs false
namespace Go.Kn
open Go
/-- M is L and R, in some order. -/
def Frq (M L R : List Blk) : Prop := M.Perm (L ++ R)
theorem fq_l {L R : List Blk} : Frq (L ++ R) L R := List.Perm.refl _
theorem fq_s {x : Blk} {R L R' : List Blk} (h : Frq R L R') : Frq (x :: R) L (x :: R') := (List.Perm.cons x h).trans List.perm_middle.symm
theorem Sat.perm {w0 w : World} {X : List Nat} {M M' : List Blk} (h : Sat w0 X M w) (p : M.Perm M') : Sat w0 X M' w :=
  ⟨h.os, h.tape, h.output, h.size, h.old, (p.map Blk.b).nodup_iff.1 h.nodup, fun x hx => h.mem x (p.mem_iff.2 hx)⟩
theorem OwnG.lit {α : Type} {e : El α} {w0 : World} {l : List α} {E : TypeId} {b n : Nat} {qs : List Part} (hb : w0.heap.size ≤ b) (hn : l.length = n) (hm : n ≤ maxLen) (hq : qs = l.flatMap e.ps) : OwnG w0 E e (.slice (some ⟨b, 0, none⟩) n n) l [⟨b, E, flat qs⟩] :=
  OwnG.of_mine hb hn hm (by rw [hq]; exact hX_ l)
theorem nZ_ {α : Type} {e : El α} {P : Program} {w0 : World} {X : List Nat} {N : Nm} {S : Fr} {M : List Blk} {d : Option Tmp} {ty : TypeId} {ps : String} {af : Array Edge} {gd : Option (Nat × Bool)} {v : Value} {l : List α}
    {T E : TypeId} {x y : Operand} {u : Value} {m : List α} {L M1 : List Blk} {K : Value → List Blk → Prop} (bytes : Nat) (hT : P.underlying T = some (.slice E)) (hE : tySz P E e.n bytes = true) (h0 : 0 < e.n) (hx : evO N S x = some v) (hy : evO N S y = some u)
    (hv : OwnG w0 E e v l L) (hu : SLe w0 X M e u m) (hs : Frq M L M1) (hn : (l.length + m.length) * bytes ≤ 140737488355328) (h8 : 0 < bytes) (k : ∀ v' L', OwnG w0 E e v' (l ++ m) L' → K v' (L' ++ M1)) :
    OpR P w0 X N ⟨d, .call { callee := .builtin .append, args := #[x, y], argTypes := #[T, T] }, ty, ps, af, gd⟩ S M K := fun w hw =>
  ny_ (M := L ++ M1) hT hE h0 hx hy hv (fun w hw => hu w (hw.perm (List.Perm.symm hs))) (List.Sublist.refl _) hn h8 k w (hw.perm hs)
end Go.Kn

set_option linter.unusedVariables false
set_option linter.unusedSimpArgs false
namespace Go.Kn
open Go
section
variable {α : Type} {e : El α} {P : Program} {w0 : World} {X : List Nat} {N : Nm} {S : Fr} {M M' : List Blk} {d : Option Tmp} {ty : TypeId} {ps : String} {af : Array Edge} {gd : Option (Nat × Bool)} {v : Value} {l : List α}
theorem OpR.perm {o : Oper} {K : Value → List Blk → Prop} (p : M.Perm M') (h : OpR P w0 X N o S M' K) : OpR P w0 X N o S M K := fun w hw => h w (hw.perm p)
theorem fq_n {M : List Blk} : Frq M [] M := List.Perm.refl _
theorem OwnG.form {E : TypeId} {L : List Blk} (h : OwnG w0 E e v l L) : ∃ p c, v = .slice p l.length c := by
  rcases h with ⟨rfl, rfl, rfl⟩ | ⟨g, cap, cur, rfl, _⟩
  · exact ⟨none, 0, rfl⟩
  · exact ⟨_, _, rfl⟩
theorem SLfe.max (h : SLfe w0 M e v l) : l.length ≤ 9223372036854775807 := by
  obtain ⟨p, c, hv, hc, hm, _⟩ := h
  unfold maxLen at hm; omega
theorem SLfe.lit {b n : Nat} {T : TypeId} {qs : List Part} (hB : w0.heap.size ≤ b) (h : (⟨b, T, flat qs⟩ : Blk) ∈ M) (hn : l.length = n) (hm : n ≤ maxLen) (hq : qs = l.flatMap e.ps) : SLfe w0 M e (.slice (some ⟨b, 0, none⟩) n n) l :=
  SLfe.mine hB h hn (Nat.le_refl _) hm (by rw [← hn, List.take_of_length_le, hq, hX_]; rw [hq, hX_, du_]; exact Nat.le_refl _)
theorem dy_ {T E : TypeId} {x y : Operand} {u : Value} {m : List α} {L M1 : List Blk} {K : Value → List Blk → Prop} (bytes : Nat) (hT : P.underlying T = some (.slice E)) (hE : tySz P E e.n bytes = true) (h0 : 0 < e.n) (hx : evO N S x = some v) (hy : evO N S y = some u)
    (hv : OwnG w0 E e v l L) (hu : SLe w0 X M e u m) (hs : Frq M L M1) (hn : (l.length + m.length) * bytes ≤ 140737488355328) (h8 : 0 < bytes) (k : ∀ p c L', OwnG w0 E e (.slice p (l ++ m).length c) (l ++ m) L' → K (.slice p (l ++ m).length c) (L' ++ M1)) :
    OpR P w0 X N ⟨d, .call { callee := .builtin .append, args := #[x, y], argTypes := #[T, T] }, ty, ps, af, gd⟩ S M K :=
  nZ_ bytes hT hE h0 hx hy hv hu hs hn h8 fun v' L' h => by
    obtain ⟨p, c, rfl⟩ := h.form
    exact k p c L' h
theorem gR_ {n : Nat} {f : FuncId} {fn : Func} {c : Code} {args : List Value} {w : World} (R : Value → Value) (hf : P.funcs[f]? = some fn) (hb : fn.body = some c) (hn : fn.ntmps = n) (hl : args.length ≤ n)
    (h : W P w [] (pl n) c (eN_ P fn w [] (pl n) fun r M => ∃ v, r = R v ∧ SLfe w M e v l) (initF 0 args) []) : Calls P f args.toArray w fun f w' => ∃ v, f = .returned (R v) ∧ Ext w w' ∧ Slfe w.heap.size w' e v l :=
  (eA_ hf hb hn hl (Sat.start w []) h).mono fun f w' ⟨r, M', he, hs, _, v, hr, hu⟩ => ⟨v, by rw [he, hr], hs.ext, hu.slfe hs⟩
theorem fq_ {g : FuncId} {xs : List Operand} {tys : Array TypeId} {args : List Value} {K : Value → List Blk → Prop} (R : Value → Value) (he : au_ P g = true) (ha : evL N S xs = some args)
    (h : ∀ w, Sat w0 X M w → Calls P g args.toArray w fun f w' => ∃ v, f = .returned (R v) ∧ Ext w w' ∧ Slfe w.heap.size w' e v l) (k : ∀ p c L, SLfe w0 L e (.slice p l.length c) l → K (R (.slice p l.length c)) (L ++ M)) : OpR P w0 X N ⟨d, .call { callee := .value (.func g), args := xs.toArray, argTypes := tys }, ty, ps, af, gd⟩ S M K :=
  jW_ he ha fun w hw => (h w hw).mono fun _ w' ⟨v, h1, h2, h3⟩ => by
    obtain ⟨L, hs, hv⟩ := h3.nowf hw h2
    obtain ⟨p, c, rfl, _⟩ := id hv
    exact ⟨_, L ++ M, h1, hs, Ext.keeps h2, k p c L hv⟩
theorem n1_ {k : Nat} {z : α} (hk : k < l.length) : (rows e l).take (k * e.n) ++ e.cs z ++ (rows e l).drop (k * e.n + e.n) = rows e (l.set k z) := by
  rw [jw_, show k * e.n + e.n = (k + 1) * e.n by rw [Nat.succ_mul], j1_, List.set_eq_take_append_cons_drop, if_pos hk, e9_]
  simp [rows]
theorem dl_ {T E : TypeId} {x y : Operand} {g : Bool} {k m : Nat} {z : α} {u : Value} {L M1 : List Blk} {K : Value → List Blk → Prop} (hT : tyOf P T = some (g, e.n)) (hx : evO N S x = some (.pointer (some (slb v m)))) (hm : m = k * e.n) (hv : OwnG w0 E e v l L) (hk : k < l.length)
    (hs : Frq M L M1) (hy0 : evO N S y = some u) (hy : u.cells = (flat (e.ps z)).toArray) (kk : ∀ L', OwnG w0 E e v (l.set k z) L' → K undef (L' ++ M1)) : OpR P w0 X N ⟨d, .store T x y, ty, ps, af, gd⟩ S M K := by
  subst hm
  rcases hv with ⟨rfl, rfl, rfl⟩ | ⟨g', cap, cur, rfl, rfl, hg, hc, hmx, hl, ht⟩
  · simp at hk
  have hx' : evO N S x = some (.pointer (some ⟨g', k * e.n, none⟩)) := by rw [hx]; simp [slb, ef_]
  have e1 : l.length * e.n ≤ cap * e.n := Nat.mul_le_mul_right _ hc
  have e2 : (k + 1) * e.n ≤ l.length * e.n := Nat.mul_le_mul_right _ (by omega)
  rw [Nat.succ_mul] at e2
  have hcs : (e.cs z).length = e.n := El.cs_len z
  have hcur : cur = rows e l ++ cur.drop (l.length * e.n) := by rw [← ht, List.take_append_drop]
  have hlr := du_ (e := e) l
  refine OpR.perm hs (jf_ (U := E) (cs := cur) (vs := e.cs z) (M' := ⟨g', E, cur.take (k * e.n) ++ e.cs z ++ cur.drop (k * e.n + e.n)⟩ :: M1) hT hx' (.head _) hy0 hy hcs (fun v h => El.cs_plain z v h) (by omega) rfl (.inl hg) ?_)
  refine kk [⟨g', E, cur.take (k * e.n) ++ e.cs z ++ cur.drop (k * e.n + e.n)⟩] (.inr ⟨g', cap, _, by rw [List.length_set], rfl, hg, by rw [List.length_set]; exact hc, hmx, ?_, ?_⟩)
  · rw [List.length_append, List.length_append, List.length_take, List.length_drop, hcs, hl, Nat.min_eq_left (by omega)]; omega
  · rw [List.length_set, ← n1_ hk]
    have t1 : cur.take (k * e.n) = (rows e l).take (k * e.n) := by rw [← ht, List.take_take, Nat.min_eq_left (by omega)]
    have t2 : (cur.drop (k * e.n + e.n)).take (l.length * e.n - (k * e.n + e.n)) = (rows e l).drop (k * e.n + e.n) := by rw [← ht, List.drop_take]
    rw [t1]
    have n1 : ((rows e l).take (k * e.n) ++ e.cs z).length = k * e.n + e.n := by rw [List.length_append, List.length_take, hcs, hlr, Nat.min_eq_left (by omega)]
    rw [List.take_append, n1, t2, List.take_of_length_le (by rw [n1]; omega)]
theorem q_sl3 {T : TypeId} {x y z : Operand} {p : Option Addr} {n c : Nat} {i i' : IntKind} (hT : dV_ P T = some e.n) (hx : evO N S x = some (.slice p n c)) (hy : evO N S y = some (.int i (n : Int))) (hz : evO N S z = some (.int i' (n : Int))) (hv : SLe w0 X M e (.slice p n c) l) :
    OpQ P w0 X N ⟨d, .slice T x none (some y) (some z), ty, ps, af, gd⟩ S M (.slice p n n) := by
  intro w hw
  obtain ⟨p', c', h, hc, hm, hp⟩ := hv w hw
  cases h
  refine q_of (w0 := w0) (X := X) (M := M) (fun w hw => ?_) w hw
  obtain ⟨e', q, hu, hi', hs⟩ := d0_ hT
  have hy' : evOpt N S 0 (some y) = some ((l.length : Nat) : Int) := by simp [evOpt, hy]
  have hz' : evOpt N S 0 (some z) = some ((l.length : Nat) : Int) := by simp [evOpt, hz]
  have b1 := fun code => fd_ (P := P) (w := w) (code := code) (y := c) hz' (by omega) (by omega)
  have b2 := fun code => fd_ (P := P) (w := w) (code := code) (y := l.length) hy' (by omega) (by omega)
  simp only [execOp, Instr.sliceAt, Instr.slice, Sem.run_bind, run_underlying hu, aZ_ hx, Result.andThen_ok]
  simp [Instr.sliceBounds, b1, b2, sizeOf, typeInfo, hi', hs, Sem.run_bind]
  intro _
  cases p <;> simp [Addr.add]
theorem se_ {T : TypeId} {x y z : Operand} {n : Nat} {i i' : IntKind} (hT : dV_ P T = some n) (hx : evO N S x = some (.slice none 0 0)) (hy : evO N S y = some (.int i 0)) (hz : evO N S z = some (.int i' 0)) :
    OpQ P w0 X N ⟨d, .slice T x none (some y) (some z), ty, ps, af, gd⟩ S M (.slice none 0 0) := by
  refine q_of (fun w hw => ?_)
  obtain ⟨e', q, hu, hi', hs⟩ := d0_ hT
  have hy' : evOpt N S 0 (some y) = some 0 := by simp [evOpt, hy]
  have hz' : evOpt N S 0 (some z) = some 0 := by simp [evOpt, hz]
  have b1 := fun code => fd_ (P := P) (w := w) (code := code) (y := 0) hz' (by omega) (by omega)
  have b2 := fun code => fd_ (P := P) (w := w) (code := code) (y := 0) hy' (by omega) (by omega)
  simp only [execOp, Instr.sliceAt, Instr.slice, Sem.run_bind, run_underlying hu, aZ_ hx, Result.andThen_ok]
  simp [Instr.sliceBounds, b1, b2, sizeOf, typeInfo, hi', hs, Sem.run_bind]
theorem SLe.full {p : Option Addr} {n c : Nat} (h : SLe w0 X M e (.slice p n c) l) (h0 : 0 < n ∨ c = 0) : SLe w0 X M e (.slice p n n) l := fun w hw => by
  obtain ⟨p', c', hq, hc, hm, hp⟩ := h w hw
  cases hq
  refine ⟨p, l.length, rfl, Nat.le_refl _, by omega, ?_⟩
  rcases hp with ⟨rfl, rfl, rfl⟩ | ⟨a, rfl, hr⟩
  · exact .inl ⟨rfl, rfl, rfl⟩
  · exact .inr ⟨a, rfl, hr⟩
theorem mx_ {T E : TypeId} {x y : Operand} {u : Value} {m : List α} {p : Option Addr} {n : Nat} {K : Value → List Blk → Prop} (bytes : Nat) (hT : P.underlying T = some (.slice E)) (hE : tySz P E e.n bytes = true) (h0 : 0 < e.n) (hx : evO N S x = some (.slice p n n)) (hy : evO N S y = some u)
    (hv : SLe w0 X M e (.slice p n n) l) (hn0 : 0 < n) (hu : SLe w0 X M e u m) (hm0 : 0 < m.length) (hn : (l.length + m.length) * bytes ≤ 140737488355328) (h8 : 0 < bytes) (k : ∀ p c L', OwnG w0 E e (.slice p (l ++ m).length c) (l ++ m) L' → K (.slice p (l ++ m).length c) (L' ++ M)) :
    OpR P w0 X N ⟨d, .call { callee := .builtin .append, args := #[x, y], argTypes := #[T, T] }, ty, ps, af, gd⟩ S M K := by
  intro w hw
  unfold tySz at hE
  cases hi : P.info? E with
  | none => simp [hi] at hE
  | some i =>
  cases hz : i.zero with
  | none => simp [hi, hz] at hE
  | some z =>
  simp only [hi, hz, Bool.and_eq_true, beq_iff_eq] at hE
  obtain ⟨⟨h1, hby⟩, hzc⟩ := hE
  obtain ⟨p', c', hq, hc, hm, hp⟩ := hv w hw
  cases hq
  rcases hp with ⟨_, rfl, _⟩ | ⟨b, rfl, hb⟩
  · simp at hn0
  obtain ⟨q, cu, rfl, hcu, hmu, hqu⟩ := hu w hw
  rcases hqu with ⟨_, rfl, _⟩ | ⟨a, rfl, hr⟩
  · simp at hm0
  have hlen : l.length + m.length ≤ 140737488355328 := Nat.le_trans (Nat.le_mul_of_pos_right _ h8) hn
  obtain ⟨v', w', hrun, ho, hg⟩ := run_append_arg_grows (P := P) w T ty E i z e.n bytes hT hi hz h1 hby hzc h0 b l.length l.length (rows e l) (du_ l) (fun j u hj => hb j u hj) a m.length cu (rows e m) (du_ m) (fun j u hj => hr j u hj) (by omega) (by unfold maxLen; omega) hn
  unfold opw
  have hex : (execOp (ev N S) ⟨d, .call { callee := .builtin .append, args := #[x, y], argTypes := #[T, T] }, ty, ps, af, gd⟩).run P w = .ok (.value v') w' := by
    simp [execOp, resolve, invoke, builtin, aZ_ hx, aZ_ hy, hrun]
  rw [dN_, hex]
  have hext : Ext w w' := ⟨hg.os, hg.tape, hg.output, hg.size, fun k hk => hg.block k hk (by simp)⟩
  have hw' : Sat w0 X M w' := Sat.mono _ _ _ _ _ hw hext
  rcases ho.2 with ⟨rfl, hz0⟩ | ⟨g, cap, cur, rfl, hbg, hcell, hnc, hcm, hcs, htk⟩
  · omega
  · have hgn : g ∉ M.map Blk.b := by
      intro hmm
      obtain ⟨y, hy, hyb⟩ := List.mem_map.1 hmm
      have := bz_? (hw.mem y hy)
      omega
    have e1 : (l ++ m).length = l.length + m.length := List.length_append
    refine ⟨Ext.keeps hext, [⟨g, E, cur.toList⟩] ++ M, ⟨hw'.os, hw'.tape, hw'.output, hw'.size, hw'.old, by simpa using And.intro (by simpa using hgn) hw'.nodup, fun y hy => ?_⟩, ?_⟩
    · rcases List.mem_cons.1 hy with rfl | hy
      · simpa using hcell
      · exact hw'.mem y hy
    · have := k (some ⟨g, 0, none⟩) cap [⟨g, E, cur.toList⟩] (.inr ⟨g, cap, cur.toList, rfl, rfl, Nat.le_trans hw.size hbg, by rw [e1]; exact hnc, hcm, by simpa using hcs, by rw [e1, e9_]; exact htk⟩)
      rw [e1] at this; exact this
end
end Go.Kn

set_option linter.unusedVariables false
set_option linter.unusedSimpArgs false
namespace Go.Num
open Go Go.Kn
def Z.nat (z : Z) : Nat := match z.o with | some v => v.natAbs | none => 0
def Z.half (z : Z) : Z := lift1 (fun v => Z.of (v / 2)) z
/-- a root, bit by bit -/
def sqb : Nat → Nat → Nat → Nat
  | 0, _, r => r
  | k + 1, v, r => bif decide (v < (r + 2 ^ k) * (r + 2 ^ k)) then sqb k v r else sqb k v (r + 2 ^ k)
def isqrt (v : Nat) : Nat := sqb 256 v 0
def Z.sqrt (z : Z) : Z := lift1 (fun v => bif decide (v < 0) then Z.bad else Z.of ((isqrt v.toNat : Nat) : Int)) z
theorem jt_ : ∀ (k v r : Nat), r * r ≤ v → v < (r + 2 ^ k) * (r + 2 ^ k) → sqb k v r * sqb k v r ≤ v ∧ v < (sqb k v r + 1) * (sqb k v r + 1)
  | 0, v, r, h1, h2 => ⟨h1, h2⟩
  | k + 1, v, r, h1, h2 => by
    unfold sqb
    by_cases h : v < (r + 2 ^ k) * (r + 2 ^ k)
    · rw [decide_eq_true h, cond_true]; exact jt_ k v r h1 h
    · rw [decide_eq_false h, cond_false]
      refine jt_ k v (r + 2 ^ k) (by omega) ?_
      rw [Nat.add_assoc, ← Nat.two_mul, Nat.mul_comm 2, ← Nat.pow_succ]; exact h2
theorem mM_ {v k m : Nat} (hm : 4294967296 ^ 16 = 2 ^ m) (hk : m = k + k) (h : v < 4294967296 ^ 16) : v < (0 + 2 ^ k) * (0 + 2 ^ k) := by
  rw [Nat.zero_add, ← Nat.pow_add, ← hk, ← hm]; exact h
theorem ej_ {v : Nat} (h : v < 4294967296 ^ 16) : isqrt v * isqrt v ≤ v ∧ v < (isqrt v + 1) * (isqrt v + 1) := jt_ 256 v 0 (Nat.zero_le _) (mM_ hV_ rfl h)
theorem kw_ {a b : Nat} (h : a < b) : (a + 1) * (a + 1) ≤ b * b := Nat.mul_le_mul h h
theorem nE_ {v r s : Nat} (h1 : r * r ≤ v) (h2 : v < (r + 1) * (r + 1)) (h3 : s * s ≤ v) (h4 : v < (s + 1) * (s + 1)) : r = s := by
  rcases Nat.lt_trichotomy r s with h | h | h
  · have := kw_ h; omega
  · exact h
  · have := kw_ h; omega
theorem l8_ {v r : Nat} (h : v < 4294967296 ^ 16) (h1 : r * r ≤ v) (h2 : v < (r + 1) * (r + 1)) : r = isqrt v := nE_ h1 h2 (ej_ h).1 (ej_ h).2
theorem val_B {a : R} (ha : a.Ok) : val a.w < 4294967296 ^ 16 := by have := gJ_ a.w ha.lim; rwa [ha.len] at this
theorem mu_ {a : R} (ha : a.Ok) (ga : a.good = true) (hn : a.neg = false) {r : Nat} (h1 : r * r ≤ val a.w) (h2 : val a.w < (r + 1) * (r + 1)) : Z.of (sgn false r) = Z.sqrt a.dec := by
  unfold Z.sqrt
  rw [cx_ (aX_ ha ga), hn]
  have e : sgn false (val a.w) = ((val a.w : Nat) : Int) := rfl
  rw [e, decide_eq_false (by omega), cond_false, Int.toNat_natCast, ← l8_ (val_B ha) h1 h2]; rfl
theorem oW_ {a : R} (ha : a.Ok) (ga : a.good = true) (hn : a.neg = true) : Z.sqrt a.dec = Z.bad := by
  unfold Z.sqrt
  rw [cx_ (aX_ ha ga), hn]
  have h0 : val a.w ≠ 0 := fun h => by
    have := ga
    unfold R.good R.valid at this
    simp [hn, R.zero] at this
    exact this.2 h
  have e : sgn true (val a.w) = -((val a.w : Nat) : Int) := rfl
  rw [e, decide_eq_true (by omega)]; rfl
theorem ov_ {a : R} (ga : a.good = false) : Z.sqrt a.dec = Z.bad := by
  unfold Z.sqrt R.dec
  rw [if_neg (by simp [ga])]; rfl
theorem nJ_ {a : R} (ha : a.Ok) (ga : a.good = true) (hn : a.neg = false) : R.mk false false (toL 16 (val a.w / 2 ^ 1)) = (Z.half a.dec).enc := by
  unfold Z.half
  rw [cx_ (aX_ ha ga), hn]
  have e : sgn false (val a.w) / 2 = sgn false (val a.w / 2 ^ 1) := by
    show ((val a.w : Nat) : Int) / 2 = ((val a.w / 2 ^ 1 : Nat) : Int)
    omega
  rw [e]
  exact dD_ false (Nat.lt_of_le_of_lt (Nat.div_le_self _ _) (val_B ha))
theorem oT_ {a : R} (ga : a.good = false) : Z.half a.dec = Z.bad := by
  unfold Z.half R.dec
  rw [if_neg (by simp [ga])]; rfl
theorem mQ_ {a : R} (ha : a.Ok) (ga : a.good = true) (hn : a.neg = false) (hs : a.dec.sign = 0) : a = (Z.half a.dec).enc := by
  have hv : sgn false (val a.w) = 0 := by
    unfold Z.sign at hs
    rw [aX_ ha ga, hn] at hs
    exact Int.sign_eq_zero_iff_zero.1 hs
  unfold Z.half
  rw [cx_ (aX_ ha ga), hn, hv]
  have e : a.dec = Z.of 0 := by
    unfold R.dec
    rw [if_pos ga, hn, hv]
  have := (ja_ ha ga).symm
  rw [e] at this; exact this
theorem mE_ {a : R} (h : a.Ok) : (uw (List.replicate 16 0)).take 0 ++ (a.cells.drop 2).take 16 ++ (uw (List.replicate 16 0)).drop 16 = uw a.w := by
  have e1 : a.cells.drop 2 = uw a.w := rfl
  have e2 : (uw a.w).length = 16 := by rw [ck_, h.len]
  have e3 : (uw (List.replicate 16 0)).drop 16 = [] := rfl
  rw [e1, List.take_of_length_le (l := uw a.w) (by omega), e3, List.take_zero, List.nil_append, List.append_nil]
end Go.Num

namespace Go.Num
open Go Go.Kn
theorem neI_f {a b : Int} (h : (a != b) = false) : a = b := by simpa using h
theorem neI_t {a b : Int} (h : (a != b) = true) : a ≠ b := by simpa using h
theorem trs {α : Type} {a b c : α} (h2 : b = c) (h1 : a = b) : a = c := h1.trans h2
theorem apS {σ β : Type} {f : σ → β} {x s : σ} (h : x = s) : ap f x = f s := by rw [h]; rfl
theorem smS {σ ρ β : Type} {f : σ → β} {g : ρ → β} {x : σ ⊕ ρ} {s : σ} (h : x = .inl s) : sm f g x = f s := by rw [h]; rfl
theorem li_ {x : Int} (h : (x != 0) = false) : decide (0 ≤ x) = true := by
  have : x = 0 := by simpa using h
  rw [this]; rfl
structure Edg where
  l : List (A3 Rt)
  e : W
structure Pts where
  l : List Rt
  is : Bool
end Go.Num

set_option linter.unusedVariables false
set_option linter.unusedSimpArgs false
namespace Go.Proofs.YtapbefpeopaecaaGreatDoor
open Go.Kn Go.Num
theorem mix : Tryz.prog.follows .mixedOrders = true := by kernel_rfl
theorem ar_23 : tyArr Tryz.prog 23 = some (3, 1) := by kernel_rfl
theorem ar_35 : tyArr Tryz.prog 35 = some (16, 1) := by kernel_rfl
theorem ar_41 : tyArr Tryz.prog 41 = some (3, 36) := by kernel_rfl
theorem ar_74 : tyArr Tryz.prog 74 = some (2, 3) := by kernel_rfl
theorem ar_75 : tyArr Tryz.prog 75 = some (2, 36) := by kernel_rfl
theorem ar_94 : tyArr Tryz.prog 94 = some (3, 18) := by kernel_rfl
theorem et_ : tyArr Tryz.prog 118 = some (2, 18) := by kernel_rfl
theorem j3_ : tyArr Tryz.prog 132 = some (32, 1) := by kernel_rfl
theorem fj_ : tyArr Tryz.prog 146 = some (17, 1) := by kernel_rfl
theorem bo_4 : jM_ Tryz.prog 4 = true := by kernel_rfl
theorem eg_23 : Tryz.prog.eqGuardType Tryz.prog.depth 23 = false := by kernel_rfl
theorem eg_35 : Tryz.prog.eqGuardType Tryz.prog.depth 35 = false := by kernel_rfl
theorem eg_37 : Tryz.prog.eqGuardType Tryz.prog.depth 37 = false := by kernel_rfl
theorem eg_39 : Tryz.prog.eqGuardType Tryz.prog.depth 39 = false := by kernel_rfl
theorem eg_41 : Tryz.prog.eqGuardType Tryz.prog.depth 41 = false := by kernel_rfl
theorem el_23 : tyEl Tryz.prog 23 = some (3, 1, false) := by kernel_rfl
theorem el_94 : tyEl Tryz.prog 94 = some (3, 18, true) := by kernel_rfl
theorem en_10 : au_ Tryz.prog 10 = true := by kernel_rfl
theorem en_12 : au_ Tryz.prog 12 = true := by kernel_rfl
theorem en_13 : au_ Tryz.prog 13 = true := by kernel_rfl
theorem en_16 : au_ Tryz.prog 16 = true := by kernel_rfl
theorem en_17 : au_ Tryz.prog 17 = true := by kernel_rfl
theorem en_18 : au_ Tryz.prog 18 = true := by kernel_rfl
theorem en_19 : au_ Tryz.prog 19 = true := by kernel_rfl
theorem en_20 : au_ Tryz.prog 20 = true := by kernel_rfl
theorem en_21 : au_ Tryz.prog 21 = true := by kernel_rfl
theorem en_23 : au_ Tryz.prog 23 = true := by kernel_rfl
theorem en_25 : au_ Tryz.prog 25 = true := by kernel_rfl
theorem en_26 : au_ Tryz.prog 26 = true := by kernel_rfl
theorem en_27 : au_ Tryz.prog 27 = true := by kernel_rfl
theorem en_29 : au_ Tryz.prog 29 = true := by kernel_rfl
theorem en_31 : au_ Tryz.prog 31 = true := by kernel_rfl
theorem en_32 : au_ Tryz.prog 32 = true := by kernel_rfl
theorem en_33 : au_ Tryz.prog 33 = true := by kernel_rfl
theorem en_34 : au_ Tryz.prog 34 = true := by kernel_rfl
theorem en_35 : au_ Tryz.prog 35 = true := by kernel_rfl
theorem en_36 : au_ Tryz.prog 36 = true := by kernel_rfl
theorem en_37 : au_ Tryz.prog 37 = true := by kernel_rfl
theorem en_38 : au_ Tryz.prog 38 = true := by kernel_rfl
theorem en_39 : au_ Tryz.prog 39 = true := by kernel_rfl
theorem en_40 : au_ Tryz.prog 40 = true := by kernel_rfl
theorem en_41 : au_ Tryz.prog 41 = true := by kernel_rfl
theorem en_42 : au_ Tryz.prog 42 = true := by kernel_rfl
theorem en_43 : au_ Tryz.prog 43 = true := by kernel_rfl
theorem en_44 : au_ Tryz.prog 44 = true := by kernel_rfl
theorem en_45 : au_ Tryz.prog 45 = true := by kernel_rfl
theorem en_46 : au_ Tryz.prog 46 = true := by kernel_rfl
theorem en_47 : au_ Tryz.prog 47 = true := by kernel_rfl
theorem en_49 : au_ Tryz.prog 49 = true := by kernel_rfl
theorem en_50 : au_ Tryz.prog 50 = true := by kernel_rfl
theorem en_51 : au_ Tryz.prog 51 = true := by kernel_rfl
theorem en_55 : au_ Tryz.prog 55 = true := by kernel_rfl
theorem en_56 : au_ Tryz.prog 56 = true := by kernel_rfl
theorem en_57 : au_ Tryz.prog 57 = true := by kernel_rfl
theorem en_58 : au_ Tryz.prog 58 = true := by kernel_rfl
theorem en_59 : au_ Tryz.prog 59 = true := by kernel_rfl
theorem en_60 : au_ Tryz.prog 60 = true := by kernel_rfl
theorem en_61 : au_ Tryz.prog 61 = true := by kernel_rfl
theorem en_62 : au_ Tryz.prog 62 = true := by kernel_rfl
theorem en_63 : au_ Tryz.prog 63 = true := by kernel_rfl
theorem en_64 : au_ Tryz.prog 64 = true := by kernel_rfl
theorem en_65 : au_ Tryz.prog 65 = true := by kernel_rfl
theorem en_66 : au_ Tryz.prog 66 = true := by kernel_rfl
theorem en_67 : au_ Tryz.prog 67 = true := by kernel_rfl
theorem en_68 : au_ Tryz.prog 68 = true := by kernel_rfl
theorem en_69 : au_ Tryz.prog 69 = true := by kernel_rfl
theorem en_70 : au_ Tryz.prog 70 = true := by kernel_rfl
theorem en_71 : au_ Tryz.prog 71 = true := by kernel_rfl
theorem en_72 : au_ Tryz.prog 72 = true := by kernel_rfl
theorem en_73 : au_ Tryz.prog 73 = true := by kernel_rfl
theorem en_74 : au_ Tryz.prog 74 = true := by kernel_rfl
theorem en_75 : au_ Tryz.prog 75 = true := by kernel_rfl
theorem en_76 : au_ Tryz.prog 76 = true := by kernel_rfl
theorem en_77 : au_ Tryz.prog 77 = true := by kernel_rfl
theorem en_78 : au_ Tryz.prog 78 = true := by kernel_rfl
theorem en_79 : au_ Tryz.prog 79 = true := by kernel_rfl
theorem en_80 : au_ Tryz.prog 80 = true := by kernel_rfl
theorem en_81 : au_ Tryz.prog 81 = true := by kernel_rfl
theorem en_82 : au_ Tryz.prog 82 = true := by kernel_rfl
theorem en_83 : au_ Tryz.prog 83 = true := by kernel_rfl
theorem en_84 : au_ Tryz.prog 84 = true := by kernel_rfl
theorem en_85 : au_ Tryz.prog 85 = true := by kernel_rfl
theorem en_86 : au_ Tryz.prog 86 = true := by kernel_rfl
theorem en_87 : au_ Tryz.prog 87 = true := by kernel_rfl
theorem en_88 : au_ Tryz.prog 88 = true := by kernel_rfl
theorem en_89 : au_ Tryz.prog 89 = true := by kernel_rfl
theorem en_90 : au_ Tryz.prog 90 = true := by kernel_rfl
theorem en_91 : au_ Tryz.prog 91 = true := by kernel_rfl
theorem en_92 : au_ Tryz.prog 92 = true := by kernel_rfl
theorem en_93 : au_ Tryz.prog 93 = true := by kernel_rfl
theorem en_94 : au_ Tryz.prog 94 = true := by kernel_rfl
theorem en_95 : au_ Tryz.prog 95 = true := by kernel_rfl
theorem en_96 : au_ Tryz.prog 96 = true := by kernel_rfl
theorem en_97 : au_ Tryz.prog 97 = true := by kernel_rfl
theorem en_98 : au_ Tryz.prog 98 = true := by kernel_rfl
theorem qZ_ : au_ Tryz.prog 102 = true := by kernel_rfl
theorem hd_ : au_ Tryz.prog 103 = true := by kernel_rfl
theorem g9_ : au_ Tryz.prog 104 = true := by kernel_rfl
theorem o1_ : au_ Tryz.prog 105 = true := by kernel_rfl
theorem le_ : au_ Tryz.prog 106 = true := by kernel_rfl
theorem fu_ : au_ Tryz.prog 107 = true := by kernel_rfl
theorem hB_ : au_ Tryz.prog 108 = true := by kernel_rfl
theorem k1_ : au_ Tryz.prog 109 = true := by kernel_rfl
theorem rT_ : au_ Tryz.prog 110 = true := by kernel_rfl
theorem lE_ : au_ Tryz.prog 111 = true := by kernel_rfl
theorem eu_ : au_ Tryz.prog 112 = true := by kernel_rfl
theorem r2_ : au_ Tryz.prog 113 = true := by kernel_rfl
theorem lk_ : au_ Tryz.prog 114 = true := by kernel_rfl
theorem ip_ : au_ Tryz.prog 115 = true := by kernel_rfl
theorem o3_ : au_ Tryz.prog 116 = true := by kernel_rfl
theorem pv_ : au_ Tryz.prog 117 = true := by kernel_rfl
theorem m2_ : au_ Tryz.prog 118 = true := by kernel_rfl
theorem lH_ : au_ Tryz.prog 119 = true := by kernel_rfl
theorem pA_ : au_ Tryz.prog 120 = true := by kernel_rfl
theorem ng_ : au_ Tryz.prog 121 = true := by kernel_rfl
theorem rx_ : au_ Tryz.prog 122 = true := by kernel_rfl
theorem iQ_ : au_ Tryz.prog 123 = true := by kernel_rfl
theorem pp_ : au_ Tryz.prog 124 = true := by kernel_rfl
theorem pw_ : au_ Tryz.prog 125 = true := by kernel_rfl
theorem m0_ : au_ Tryz.prog 126 = true := by kernel_rfl
theorem q6_ : au_ Tryz.prog 127 = true := by kernel_rfl
theorem nN_ : au_ Tryz.prog 128 = true := by kernel_rfl
theorem rJ_ : au_ Tryz.prog 129 = true := by kernel_rfl
theorem ii_ : au_ Tryz.prog 130 = true := by kernel_rfl
theorem kK_ : au_ Tryz.prog 131 = true := by kernel_rfl
theorem hx_ : au_ Tryz.prog 132 = true := by kernel_rfl
theorem pi_ : au_ Tryz.prog 133 = true := by kernel_rfl
theorem r1_ : au_ Tryz.prog 134 = true := by kernel_rfl
theorem eT_ : au_ Tryz.prog 135 = true := by kernel_rfl
theorem eL_ : au_ Tryz.prog 136 = true := by kernel_rfl
theorem nz_ : au_ Tryz.prog 137 = true := by kernel_rfl
theorem rZ_ : au_ Tryz.prog 138 = true := by kernel_rfl
theorem lc_ : au_ Tryz.prog 139 = true := by kernel_rfl
theorem pg_ : au_ Tryz.prog 140 = true := by kernel_rfl
theorem hY_ : au_ Tryz.prog 141 = true := by kernel_rfl
theorem pF_ : au_ Tryz.prog 142 = true := by kernel_rfl
theorem mw_ : au_ Tryz.prog 144 = true := by kernel_rfl
theorem mK_ : au_ Tryz.prog 145 = true := by kernel_rfl
theorem mh_ : au_ Tryz.prog 146 = true := by kernel_rfl
theorem pQ_ : au_ Tryz.prog 147 = true := by kernel_rfl
theorem rf_ : au_ Tryz.prog 148 = true := by kernel_rfl
theorem iC_ : au_ Tryz.prog 149 = true := by kernel_rfl
theorem mq_ : au_ Tryz.prog 150 = true := by kernel_rfl
theorem rX_ : au_ Tryz.prog 151 = true := by kernel_rfl
theorem jy_ : au_ Tryz.prog 152 = true := by kernel_rfl
theorem kD_ : au_ Tryz.prog 153 = true := by kernel_rfl
theorem pH_ : au_ Tryz.prog 154 = true := by kernel_rfl
theorem q3_ : au_ Tryz.prog 156 = true := by kernel_rfl
theorem qX_ : au_ Tryz.prog 157 = true := by kernel_rfl
theorem q0_ : au_ Tryz.prog 158 = true := by kernel_rfl
theorem ru_ : au_ Tryz.prog 159 = true := by kernel_rfl
theorem q5_ : au_ Tryz.prog 160 = true := by kernel_rfl
theorem rA_ : au_ Tryz.prog 161 = true := by kernel_rfl
theorem pB_ : au_ Tryz.prog 163 = true := by kernel_rfl
theorem ea_ : ff_ Tryz.prog 37 0 = some (0, 1) := by kernel_rfl
theorem bq_ : ff_ Tryz.prog 37 1 = some (1, 1) := by kernel_rfl
theorem bv_ : ff_ Tryz.prog 37 2 = some (2, 16) := by kernel_rfl
theorem cu_ : ff_ Tryz.prog 39 0 = some (0, 18) := by kernel_rfl
theorem b0_ : ff_ Tryz.prog 39 1 = some (18, 18) := by kernel_rfl
theorem gU_ : ff_ Tryz.prog 97 0 = some (0, 3) := by kernel_rfl
theorem mP_ : ff_ Tryz.prog 97 1 = some (3, 1) := by kernel_rfl
theorem in_3 : tyInt Tryz.prog 3 = some .i64 := by kernel_rfl
theorem in_5 : tyInt Tryz.prog 5 = some .u8 := by kernel_rfl
theorem in_34 : tyInt Tryz.prog 34 = some .u32 := by kernel_rfl
theorem bT_ : tyInt Tryz.prog 112 = some .u64 := by kernel_rfl
theorem lv_35 : dQ_ Tryz.prog 8 35 = some (true, (List.replicate 16 (some IntKind.u32))) := by kernel_rfl
theorem lw_23 : dQ_ Tryz.prog 8 23 = some (true, ([some .i64] ++ ([some .i64] ++ [some .i64]))) := by kernel_rfl
theorem lw_37 : dQ_ Tryz.prog 8 37 = some (true, LI) := by kernel_rfl
theorem lw_39 : dQ_ Tryz.prog 8 39 = some (true, (LI ++ LI)) := by kernel_rfl
theorem lw_41 : dQ_ Tryz.prog 8 41 = some (true, (LI ++ (LI ++ (LI ++ (LI ++ (LI ++ LI)))))) := by kernel_rfl
theorem on_3 : tyOne Tryz.prog 3 = true := by kernel_rfl
theorem pl_37 : gA_ Tryz.prog 37 = some [(0, 1), (1, 1), (2, 16)] := by kernel_rfl
theorem pl_39 : gA_ Tryz.prog 39 = some [(0, 18), (18, 18)] := by kernel_rfl
theorem pl_97 : gA_ Tryz.prog 97 = some [(0, 3), (3, 1)] := by kernel_rfl
theorem sl_24 : dV_ Tryz.prog 24 = some 108 := by kernel_rfl
theorem sl_43 : dV_ Tryz.prog 43 = some 36 := by kernel_rfl
theorem sl_73 : dV_ Tryz.prog 73 = some 3 := by kernel_rfl
theorem sl_81 : dV_ Tryz.prog 81 = some 1 := by kernel_rfl
theorem kB_ : dV_ Tryz.prog 128 = some 1 := by kernel_rfl
theorem lv_ : dV_ Tryz.prog 143 = some 18 := by kernel_rfl
theorem st_9 : Tryz.prog.underlying 9 = some .string := by kernel_rfl
theorem sz_3 : (Tryz.prog.info? 3).map (·.size) = some 1 := by kernel_rfl
theorem sz_23 : (Tryz.prog.info? 23).map (·.size) = some 3 := by kernel_rfl
theorem sz_37 : (Tryz.prog.info? 37).map (·.size) = some 18 := by kernel_rfl
theorem sz_39 : (Tryz.prog.info? 39).map (·.size) = some 36 := by kernel_rfl
theorem sz_41 : (Tryz.prog.info? 41).map (·.size) = some 108 := by kernel_rfl
theorem ty_3 : tyOf Tryz.prog 3 = some (false, 1) := by kernel_rfl
theorem ty_4 : tyOf Tryz.prog 4 = some (false, 1) := by kernel_rfl
theorem ty_23 : tyOf Tryz.prog 23 = some (true, 3) := by kernel_rfl
theorem ty_25 : tyOf Tryz.prog 25 = some (false, 1) := by kernel_rfl
theorem ty_34 : tyOf Tryz.prog 34 = some (false, 1) := by kernel_rfl
theorem ty_35 : tyOf Tryz.prog 35 = some (true, 16) := by kernel_rfl
theorem ty_37 : tyOf Tryz.prog 37 = some (true, 18) := by kernel_rfl
theorem ty_39 : tyOf Tryz.prog 39 = some (true, 36) := by kernel_rfl
theorem ty_41 : tyOf Tryz.prog 41 = some (true, 108) := by kernel_rfl
theorem ty_74 : tyOf Tryz.prog 74 = some (true, 6) := by kernel_rfl
theorem ty_75 : tyOf Tryz.prog 75 = some (true, 72) := by kernel_rfl
theorem ty_94 : tyOf Tryz.prog 94 = some (true, 54) := by kernel_rfl
theorem ty_97 : tyOf Tryz.prog 97 = some (true, 4) := by kernel_rfl
theorem kM_ : tyOf Tryz.prog 118 = some (true, 36) := by kernel_rfl
theorem us_24 : Tryz.prog.underlying 24 = some (.slice 41) := by kernel_rfl
theorem us_43 : Tryz.prog.underlying 43 = some (.slice 39) := by kernel_rfl
theorem us_73 : Tryz.prog.underlying 73 = some (.slice 23) := by kernel_rfl
theorem us_81 : Tryz.prog.underlying 81 = some (.slice 3) := by kernel_rfl
theorem eR_ : Tryz.prog.underlying 143 = some (.slice 37) := by kernel_rfl
theorem z_3 : dq_ Tryz.prog 3 = some [.int .i64 0] := by kernel_rfl
theorem z_23 : dq_ Tryz.prog 23 = some (List.replicate 3 (.int .i64 0)) := by kernel_rfl
theorem z_35 : dq_ Tryz.prog 35 = some (uw (List.replicate 16 0)) := by kernel_rfl
theorem z_37 : dq_ Tryz.prog 37 = some zR := by kernel_rfl
theorem z_39 : dq_ Tryz.prog 39 = some (([.bool false] ++ [.bool false] ++ (List.replicate 16 (.int .u32 0))) ++ ([.bool false] ++ [.bool false] ++ (List.replicate 16 (.int .u32 0)))) := by kernel_rfl
theorem z_41 : dq_ Tryz.prog 41 = some ((([.bool false] ++ [.bool false] ++ (List.replicate 16 (.int .u32 0))) ++ ([.bool false] ++ [.bool false] ++ (List.replicate 16 (.int .u32 0)))) ++ (([.bool false] ++ [.bool false] ++ (List.replicate 16 (.int .u32 0))) ++ ([.bool false] ++ [.bool false] ++ (List.replicate 16 (.int .u32 0)))) ++ (([.bool false] ++ [.bool false] ++ (List.replicate 16 (.int .u32 0))) ++ ([.bool false] ++ [.bool false] ++ (List.replicate 16 (.int .u32 0))))) := by kernel_rfl
theorem z_132 : dq_ Tryz.prog 132 = some (uw (List.replicate 32 0)) := by kernel_rfl
theorem z_146 : dq_ Tryz.prog 146 = some (uw (List.replicate 17 0)) := by kernel_rfl
theorem zp_23 : dq_ Tryz.prog 23 = some (flat [ci .i64 0, ci .i64 0, ci .i64 0]) := by kernel_rfl
theorem zp_37 : dq_ Tryz.prog 37 = some (flat [pI I0]) := by kernel_rfl
theorem zp_39 : dq_ Tryz.prog 39 = some (flat [pI I0, pI I0]) := by kernel_rfl
theorem zp_41 : dq_ Tryz.prog 41 = some (flat [pI I0, pI I0, pI I0, pI I0, pI I0, pI I0]) := by kernel_rfl
theorem zp_74 : dq_ Tryz.prog 74 = some (flat [ci .i64 0, ci .i64 0, ci .i64 0, ci .i64 0, ci .i64 0, ci .i64 0]) := by kernel_rfl
theorem zp_75 : dq_ Tryz.prog 75 = some (flat [pI I0, pI I0, pI I0, pI I0]) := by kernel_rfl
theorem zp_94 : dq_ Tryz.prog 94 = some (flat [pI I0, pI I0, pI I0]) := by kernel_rfl
theorem zp_97 : dq_ Tryz.prog 97 = some (flat [ci .i64 0, ci .i64 0, ci .i64 0, ci .i64 0]) := by kernel_rfl
theorem iH_ : dq_ Tryz.prog 118 = some (flat [pI I0, pI I0]) := by kernel_rfl
end Go.Proofs.YtapbefpeopaecaaGreatDoor

set_option linter.unusedVariables false
set_option linter.unusedSimpArgs false
namespace Go.Num
open Go Go.Kn
def dk_ (a : I) : I :=
  bif a.1.good then ((E (Z.of (sgn (!a.1.neg) (val a.1.w))))) else ((E Z.bad))
def dj_ (a : I) : I :=
  bif a.1.good then ((E (Z.of (sgn false (val a.1.w))))) else ((E Z.bad))
def cq_ (a : I) (b : I) : I :=
  bif ((wordB a.1) && (wordB b.1)) then ((E (Z.of (W.add (wordW a) (wordW b)).1))) else (bif (!a.1.good || (!b.1.good)) then ((E Z.bad)) else (bif (a.1.neg == b.1.neg) then ((E (Z.of (sgn a.1.neg ((val a.1.w) + (val b.1.w)))))) else (bif decide ((val a.1.w) < (val b.1.w)) then ((E (Z.of (sgn b.1.neg ((val b.1.w) - (val a.1.w)))))) else ((E (Z.of (sgn a.1.neg ((val a.1.w) - (val b.1.w)))))))))
def e8_ (a : I) (b : I) : I :=
  (E (Z.add a.dec (Z.neg b.dec)))
def cZ_ (a : I) (b : I) : I :=
  bif ((wordB a.1) && ((wordB b.1) && ((decide ((wordW a).1 < 2147483648) && decide (-2147483648 < (wordW a).1)) && (decide ((wordW b).1 < 2147483648) && decide (-2147483648 < (wordW b).1))))) then ((E (Z.of (W.mul (wordW a) (wordW b)).1))) else (bif (!a.1.good || (!b.1.good)) then ((E Z.bad)) else ((E (Z.of (sgn (a.1.neg != b.1.neg) ((val a.1.w) * (val b.1.w)))))))
def cX_ (a : I) : W :=
  bif (!a.1.good || ((((dl (val a.1.w)).length : Nat) : Int) == 0)) then ((wl 0)) else (bif a.1.neg then ((wl (-1))) else ((wl 1)))
def bp_ (a : I) (b : I) : W :=
  bif (!a.1.good && (!b.1.good)) then ((wl 0)) else (bif a.1.good then (bif b.1.good then (bif (a.1.neg != b.1.neg) then (bif a.1.neg then ((wl (-1))) else ((wl 1))) else (bif a.1.neg then (bif decide ((val b.1.w) < (val a.1.w)) then ((wl (-1))) else (bif decide ((val a.1.w) < (val b.1.w)) then ((wl 1)) else ((wl 0)))) else (bif decide ((val a.1.w) < (val b.1.w)) then ((wl (-1))) else (bif decide ((val b.1.w) < (val a.1.w)) then ((wl 1)) else ((wl 0)))))) else ((wl 1))) else ((wl (-1))))
def cI_ (a : I) (b : I) : I :=
  bif ((wordB a.1) && ((wordB b.1) && ((wordW b).1 != 0))) then ((E (Z.of (W.fdiv (wordW a) (wordW b)).1))) else (bif (!a.1.good || (!b.1.good || ((((dl (val b.1.w)).length : Nat) : Int) == 0))) then ((E Z.bad)) else (bif ((a.1.neg != b.1.neg) && decide (0 < (((dl ((val a.1.w) % (val b.1.w))).length : Nat) : Int))) then ((E (Z.of (sgn (a.1.neg != b.1.neg) (((val a.1.w) / (val b.1.w)) + 1))))) else ((E (Z.of (sgn (a.1.neg != b.1.neg) ((val a.1.w) / (val b.1.w))))))))
end Go.Num

set_option linter.unusedVariables false
set_option linter.unusedSimpArgs false
namespace Go.Num
open Go Go.Kn
def cJ_ (a : I) (b : I) : I :=
  bif ((wordB a.1) && ((wordB b.1) && ((wordW b).1 != 0))) then (let r10 : I := (E (Z.of (W.sub (wordW a) (W.mul (wordW b) (W.fdiv (wordW a) (wordW b)))).1))
  r10) else (bif (!a.1.good || (!b.1.good || ((((dl (val b.1.w)).length : Nat) : Int) == 0))) then ((E Z.bad)) else (bif ((a.1.neg != b.1.neg) && decide (0 < (((dl ((val a.1.w) % (val b.1.w))).length : Nat) : Int))) then ((E (Z.of (sgn b.1.neg ((val b.1.w) - ((val a.1.w) % (val b.1.w))))))) else ((E (Z.of (sgn b.1.neg ((val a.1.w) % (val b.1.w))))))))
end Go.Num

