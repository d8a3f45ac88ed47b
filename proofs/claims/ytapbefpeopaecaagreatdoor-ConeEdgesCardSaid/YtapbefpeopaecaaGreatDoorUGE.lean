/- Appending to a list of our own, wherever its block stands among those that we hold. No program stands in it. Lists as results; lists of our own: elements are stored, prefixes with no room behind them are appended to. No program stands in it. Halves and square roots of whole numbers. No program stands in it. Structures with lists: the edges of a pyramid, multipliers. No program stands in it. Closed facts of the program's types and functions. What these functions compute, as plain functions. No program stands in it. -/
import Derived.Test.YtapbefpeopaecaaGreatDoorUGD
import Derived.ArgAppend
import Derived.Test.YtapbefpeopaecaaGreatDoorProg
set_option linter.unusedVariables false
set_option linter.unusedSimpArgs false
namespace Go.Kn
open Go
/-- M is L and R, in some order. -/
def Frq (M L R : List Blk) : Prop := M.Perm (L ++ R)
theorem fq_l {L R : List Blk} : Frq (L ++ R) L R := List.Perm.refl _
theorem fq_s {x : Blk} {R L R' : List Blk} (h : Frq R L R') : Frq (x :: R) L (x :: R') := (List.Perm.cons x h).trans List.perm_middle.symm
theorem Sat.perm {w0 w : World} {X : List Nat} {M M' : List Blk} (h : Sat w0 X M w) (p : M.Perm M') : Sat w0 X M' w :=
  ⟨h.os, h.tape, h.output, h.size, h.old, (p.map Blk.b).nodup_iff.1 h.nodup, fun x hx => h.mem x (p.mem_iff.2 hx)⟩
theorem OwnG.lit {α : Type} {e : El α} {w0 : World} {l : List α} {E : TypeId} {b n : Nat} {qs : List Part} (hb : w0.heap.size ≤ b) (hn : l.length = n) (hm : n ≤ maxLen) (hq : qs = l.flatMap e.ps) : OwnG w0 E e (.slice (some ⟨b, 0, none⟩) n n) l [⟨b, E, flat qs⟩] :=
  OwnG.of_mine hb hn hm (by rw [hq]; exact h3_ l)
theorem mu_ {α : Type} {e : El α} {P : Program} {w0 : World} {X : List Nat} {N : Nm} {S : Fr} {M : List Blk} {d : Option Tmp} {ty : TypeId} {ps : String} {af : Array Edge} {gd : Option (Nat × Bool)} {v : Value} {l : List α}
    {T E : TypeId} {x y : Operand} {u : Value} {m : List α} {L M1 : List Blk} {K : Value → List Blk → Prop} (bytes : Nat) (hT : P.underlying T = some (.slice E)) (hE : tySz P E e.n bytes = true) (h0 : 0 < e.n) (hx : evO N S x = some v) (hy : evO N S y = some u)
    (hv : OwnG w0 E e v l L) (hu : SLe w0 X M e u m) (hs : Frq M L M1) (hn : (l.length + m.length) * bytes ≤ 140737488355328) (h8 : 0 < bytes) (k : ∀ v' L', OwnG w0 E e v' (l ++ m) L' → K v' (L' ++ M1)) :
    OpR P w0 X N ⟨d, .call { callee := .builtin .append, args := #[x, y], argTypes := #[T, T] }, ty, ps, af, gd⟩ S M K := fun w hw =>
  na_ (M := L ++ M1) hT hE h0 hx hy hv (fun w hw => hu w (hw.perm (List.Perm.symm hs))) (List.Sublist.refl _) hn h8 k w (hw.perm hs)
end Go.Kn

set_option linter.unusedVariables false
set_option linter.unusedSimpArgs false
namespace Go.Kn
open Go
section
variable {α : Type} {e : El α} {P : Program} {w0 : World} {X : List Nat} {N : Nm} {S : Fr} {M M' : List Blk} {d : Option Tmp} {ty : TypeId} {ps : String} {af : Array Edge} {gd : Option (Nat × Bool)} {v : Value} {l : List α}
theorem OpR.perm {o : Oper} {K : Value → List Blk → Prop} (p : M.Perm M') (h : OpR P w0 X N o S M' K) : OpR P w0 X N o S M K := fun w hw => h w (hw.perm p)
theorem fq_n {M : List Blk} : Frq M [] M := List.Perm.refl _
theorem OwnG.form {E : TypeId} {L : List Blk} (h : OwnG w0 E e v l L) : ∃ p c, v = .slice p l.length c := by
  rcases h with ⟨rfl, rfl, rfl⟩ | ⟨g, cap, cur, rfl, _⟩
  · exact ⟨none, 0, rfl⟩
  · exact ⟨_, _, rfl⟩
theorem SLfe.max (h : SLfe w0 M e v l) : l.length ≤ 9223372036854775807 := by
  obtain ⟨p, c, hv, hc, hm, _⟩ := h
  unfold maxLen at hm; omega
theorem SLfe.lit {b n : Nat} {T : TypeId} {qs : List Part} (hB : w0.heap.size ≤ b) (h : (⟨b, T, flat qs⟩ : Blk) ∈ M) (hn : l.length = n) (hm : n ≤ maxLen) (hq : qs = l.flatMap e.ps) : SLfe w0 M e (.slice (some ⟨b, 0, none⟩) n n) l :=
  SLfe.mine hB h hn (Nat.le_refl _) hm (by rw [← hn, List.take_of_length_le, hq, h3_]; rw [hq, h3_, de_]; exact Nat.le_refl _)
theorem dd_ {T E : TypeId} {x y : Operand} {u : Value} {m : List α} {L M1 : List Blk} {K : Value → List Blk → Prop} (bytes : Nat) (hT : P.underlying T = some (.slice E)) (hE : tySz P E e.n bytes = true) (h0 : 0 < e.n) (hx : evO N S x = some v) (hy : evO N S y = some u)
    (hv : OwnG w0 E e v l L) (hu : SLe w0 X M e u m) (hs : Frq M L M1) (hn : (l.length + m.length) * bytes ≤ 140737488355328) (h8 : 0 < bytes) (k : ∀ p c L', OwnG w0 E e (.slice p (l ++ m).length c) (l ++ m) L' → K (.slice p (l ++ m).length c) (L' ++ M1)) :
    OpR P w0 X N ⟨d, .call { callee := .builtin .append, args := #[x, y], argTypes := #[T, T] }, ty, ps, af, gd⟩ S M K :=
  mu_ bytes hT hE h0 hx hy hv hu hs hn h8 fun v' L' h => by
    obtain ⟨p, c, rfl⟩ := h.form
    exact k p c L' h
theorem gj_ {n : Nat} {f : FuncId} {fn : Func} {c : Code} {args : List Value} {w : World} (R : Value → Value) (hf : P.funcs[f]? = some fn) (hb : fn.body = some c) (hn : fn.ntmps = n) (hl : args.length ≤ n)
    (h : W P w [] (pl n) c (eE_ P fn w [] (pl n) fun r M => ∃ v, r = R v ∧ SLfe w M e v l) (initF 0 args) []) : Calls P f args.toArray w fun f w' => ∃ v, f = .returned (R v) ∧ Ext w w' ∧ Slfe w.heap.size w' e v l :=
  (em_ hf hb hn hl (Sat.start w []) h).mono fun f w' ⟨r, M', he, hs, _, v, hr, hu⟩ => ⟨v, by rw [he, hr], hs.ext, hu.slfe hs⟩
theorem ff_ {g : FuncId} {xs : List Operand} {tys : Array TypeId} {args : List Value} {K : Value → List Blk → Prop} (R : Value → Value) (he : ay_ P g = true) (ha : evL N S xs = some args)
    (h : ∀ w, Sat w0 X M w → Calls P g args.toArray w fun f w' => ∃ v, f = .returned (R v) ∧ Ext w w' ∧ Slfe w.heap.size w' e v l) (k : ∀ p c L, SLfe w0 L e (.slice p l.length c) l → K (R (.slice p l.length c)) (L ++ M)) : OpR P w0 X N ⟨d, .call { callee := .value (.func g), args := xs.toArray, argTypes := tys }, ty, ps, af, gd⟩ S M K :=
  jo_ he ha fun w hw => (h w hw).mono fun _ w' ⟨v, h1, h2, h3⟩ => by
    obtain ⟨L, hs, hv⟩ := h3.nowf hw h2
    obtain ⟨p, c, rfl, _⟩ := id hv
    exact ⟨_, L ++ M, h1, hs, Ext.keeps h2, k p c L hv⟩
theorem om_ {k : Nat} {z : α} (hk : k < l.length) : (rows e l).take (k * e.n) ++ e.cs z ++ (rows e l).drop (k * e.n + e.n) = rows e (l.set k z) := by
  rw [jn_, show k * e.n + e.n = (k + 1) * e.n by rw [Nat.succ_mul], jK_, List.set_eq_take_append_cons_drop, if_pos hk, eX_]
  simp [rows]
theorem c6_ {T E : TypeId} {x y : Operand} {g : Bool} {k m : Nat} {z : α} {u : Value} {L M1 : List Blk} {K : Value → List Blk → Prop} (hT : tyOf P T = some (g, e.n)) (hx : evO N S x = some (.pointer (some (slb v m)))) (hm : m = k * e.n) (hv : OwnG w0 E e v l L) (hk : k < l.length)
    (hs : Frq M L M1) (hy0 : evO N S y = some u) (hy : u.cells = (flat (e.ps z)).toArray) (kk : ∀ L', OwnG w0 E e v (l.set k z) L' → K undef (L' ++ M1)) : OpR P w0 X N ⟨d, .store T x y, ty, ps, af, gd⟩ S M K := by
  subst hm
  rcases hv with ⟨rfl, rfl, rfl⟩ | ⟨g', cap, cur, rfl, rfl, hg, hc, hmx, hl, ht⟩
  · simp at hk
  have hx' : evO N S x = some (.pointer (some ⟨g', k * e.n, none⟩)) := by rw [hx]; simp [slb, dX_]
  have e1 : l.length * e.n ≤ cap * e.n := Nat.mul_le_mul_right _ hc
  have e2 : (k + 1) * e.n ≤ l.length * e.n := Nat.mul_le_mul_right _ (by omega)
  rw [Nat.succ_mul] at e2
  have hcs : (e.cs z).length = e.n := El.cs_len z
  have hcur : cur = rows e l ++ cur.drop (l.length * e.n) := by rw [← ht, List.take_append_drop]
  have hlr := de_ (e := e) l
  refine OpR.perm hs (jg_ (U := E) (cs := cur) (vs := e.cs z) (M' := ⟨g', E, cur.take (k * e.n) ++ e.cs z ++ cur.drop (k * e.n + e.n)⟩ :: M1) hT hx' (.head _) hy0 hy hcs (fun v h => El.cs_plain z v h) (by omega) rfl (.inl hg) ?_)
  refine kk [⟨g', E, cur.take (k * e.n) ++ e.cs z ++ cur.drop (k * e.n + e.n)⟩] (.inr ⟨g', cap, _, by rw [List.length_set], rfl, hg, by rw [List.length_set]; exact hc, hmx, ?_, ?_⟩)
  · rw [List.length_append, List.length_append, List.length_take, List.length_drop, hcs, hl, Nat.min_eq_left (by omega)]; omega
  · rw [List.length_set, ← om_ hk]
    have t1 : cur.take (k * e.n) = (rows e l).take (k * e.n) := by rw [← ht, List.take_take, Nat.min_eq_left (by omega)]
    have t2 : (cur.drop (k * e.n + e.n)).take (l.length * e.n - (k * e.n + e.n)) = (rows e l).drop (k * e.n + e.n) := by rw [← ht, List.drop_take]
    rw [t1]
    have n1 : ((rows e l).take (k * e.n) ++ e.cs z).length = k * e.n + e.n := by rw [List.length_append, List.length_take, hcs, hlr, Nat.min_eq_left (by omega)]
    rw [List.take_append, n1, t2, List.take_of_length_le (by rw [n1]; omega)]
theorem q_sl3 {T : TypeId} {x y z : Operand} {p : Option Addr} {n c : Nat} {i i' : IntKind} (hT : dR_ P T = some e.n) (hx : evO N S x = some (.slice p n c)) (hy : evO N S y = some (.int i (n : Int))) (hz : evO N S z = some (.int i' (n : Int))) (hv : SLe w0 X M e (.slice p n c) l) :
    OpQ P w0 X N ⟨d, .slice T x none (some y) (some z), ty, ps, af, gd⟩ S M (.slice p n n) := by
  intro w hw
  obtain ⟨p', c', h, hc, hm, hp⟩ := hv w hw
  cases h
  refine q_of (w0 := w0) (X := X) (M := M) (fun w hw => ?_) w hw
  obtain ⟨e', q, hu, hi', hs⟩ := dQ_ hT
  have hy' : evOpt N S 0 (some y) = some ((l.length : Nat) : Int) := by simp [evOpt, hy]
  have hz' : evOpt N S 0 (some z) = some ((l.length : Nat) : Int) := by simp [evOpt, hz]
  have b1 := fun code => e2_ (P := P) (w := w) (code := code) (y := c) hz' (by omega) (by omega)
  have b2 := fun code => e2_ (P := P) (w := w) (code := code) (y := l.length) hy' (by omega) (by omega)
  simp only [execOp, Instr.sliceAt, Instr.slice, Sem.run_bind, run_underlying hu, aN_ hx, Result.andThen_ok]
  simp [Instr.sliceBounds, b1, b2, sizeOf, typeInfo, hi', hs, Sem.run_bind]
  intro _
  cases p <;> simp [Addr.add]
theorem ry_ {T : TypeId} {x y z : Operand} {n : Nat} {i i' : IntKind} (hT : dR_ P T = some n) (hx : evO N S x = some (.slice none 0 0)) (hy : evO N S y = some (.int i 0)) (hz : evO N S z = some (.int i' 0)) :
    OpQ P w0 X N ⟨d, .slice T x none (some y) (some z), ty, ps, af, gd⟩ S M (.slice none 0 0) := by
  refine q_of (fun w hw => ?_)
  obtain ⟨e', q, hu, hi', hs⟩ := dQ_ hT
  have hy' : evOpt N S 0 (some y) = some 0 := by simp [evOpt, hy]
  have hz' : evOpt N S 0 (some z) = some 0 := by simp [evOpt, hz]
  have b1 := fun code => e2_ (P := P) (w := w) (code := code) (y := 0) hz' (by omega) (by omega)
  have b2 := fun code => e2_ (P := P) (w := w) (code := code) (y := 0) hy' (by omega) (by omega)
  simp only [execOp, Instr.sliceAt, Instr.slice, Sem.run_bind, run_underlying hu, aN_ hx, Result.andThen_ok]
  simp [Instr.sliceBounds, b1, b2, sizeOf, typeInfo, hi', hs, Sem.run_bind]
theorem SLe.full {p : Option Addr} {n c : Nat} (h : SLe w0 X M e (.slice p n c) l) (h0 : 0 < n ∨ c = 0) : SLe w0 X M e (.slice p n n) l := fun w hw => by
  obtain ⟨p', c', hq, hc, hm, hp⟩ := h w hw
  cases hq
  refine ⟨p, l.length, rfl, Nat.le_refl _, by omega, ?_⟩
  rcases hp with ⟨rfl, rfl, rfl⟩ | ⟨a, rfl, hr⟩
  · exact .inl ⟨rfl, rfl, rfl⟩
  · exact .inr ⟨a, rfl, hr⟩
theorem nr_ {T E : TypeId} {x y : Operand} {u : Value} {m : List α} {p : Option Addr} {n : Nat} {K : Value → List Blk → Prop} (bytes : Nat) (hT : P.underlying T = some (.slice E)) (hE : tySz P E e.n bytes = true) (h0 : 0 < e.n) (hx : evO N S x = some (.slice p n n)) (hy : evO N S y = some u)
    (hv : SLe w0 X M e (.slice p n n) l) (hn0 : 0 < n) (hu : SLe w0 X M e u m) (hm0 : 0 < m.length) (hn : (l.length + m.length) * bytes ≤ 140737488355328) (h8 : 0 < bytes) (k : ∀ p c L', OwnG w0 E e (.slice p (l ++ m).length c) (l ++ m) L' → K (.slice p (l ++ m).length c) (L' ++ M)) :
    OpR P w0 X N ⟨d, .call { callee := .builtin .append, args := #[x, y], argTypes := #[T, T] }, ty, ps, af, gd⟩ S M K := by
  intro w hw
  unfold tySz at hE
  cases hi : P.info? E with
  | none => simp [hi] at hE
  | some i =>
  cases hz : i.zero with
  | none => simp [hi, hz] at hE
  | some z =>
  simp only [hi, hz, Bool.and_eq_true, beq_iff_eq] at hE
  obtain ⟨⟨h1, hby⟩, hzc⟩ := hE
  obtain ⟨p', c', hq, hc, hm, hp⟩ := hv w hw
  cases hq
  rcases hp with ⟨_, rfl, _⟩ | ⟨b, rfl, hb⟩
  · simp at hn0
  obtain ⟨q, cu, rfl, hcu, hmu, hqu⟩ := hu w hw
  rcases hqu with ⟨_, rfl, _⟩ | ⟨a, rfl, hr⟩
  · simp at hm0
  have hlen : l.length + m.length ≤ 140737488355328 := Nat.le_trans (Nat.le_mul_of_pos_right _ h8) hn
  obtain ⟨v', w', hrun, ho, hg⟩ := run_append_arg_grows (P := P) w T ty E i z e.n bytes hT hi hz h1 hby hzc h0 b l.length l.length (rows e l) (de_ l) (fun j u hj => hb j u hj) a m.length cu (rows e m) (de_ m) (fun j u hj => hr j u hj) (by omega) (by unfold maxLen; omega) hn
  unfold opw
  have hex : (execOp (ev N S) ⟨d, .call { callee := .builtin .append, args := #[x, y], argTypes := #[T, T] }, ty, ps, af, gd⟩).run P w = .ok (.value v') w' := by
    simp [execOp, resolve, invoke, builtin, aN_ hx, aN_ hy, hrun]
  rw [dt_, hex]
  have hext : Ext w w' := ⟨hg.os, hg.tape, hg.output, hg.size, fun k hk => hg.block k hk (by simp)⟩
  have hw' : Sat w0 X M w' := Sat.mono _ _ _ _ _ hw hext
  rcases ho.2 with ⟨rfl, hz0⟩ | ⟨g, cap, cur, rfl, hbg, hcell, hnc, hcm, hcs, htk⟩
  · omega
  · have hgn : g ∉ M.map Blk.b := by
      intro hmm
      obtain ⟨y, hy, hyb⟩ := List.mem_map.1 hmm
      have := bi_? (hw.mem y hy)
      omega
    have e1 : (l ++ m).length = l.length + m.length := List.length_append
    refine ⟨Ext.keeps hext, [⟨g, E, cur.toList⟩] ++ M, ⟨hw'.os, hw'.tape, hw'.output, hw'.size, hw'.old, by simpa using And.intro (by simpa using hgn) hw'.nodup, fun y hy => ?_⟩, ?_⟩
    · rcases List.mem_cons.1 hy with rfl | hy
      · simpa using hcell
      · exact hw'.mem y hy
    · have := k (some ⟨g, 0, none⟩) cap [⟨g, E, cur.toList⟩] (.inr ⟨g, cap, cur.toList, rfl, rfl, Nat.le_trans hw.size hbg, by rw [e1]; exact hnc, hcm, by simpa using hcs, by rw [e1, eX_]; exact htk⟩)
      rw [e1] at this; exact this
end
end Go.Kn

set_option linter.unusedVariables false
set_option linter.unusedSimpArgs false
namespace Go.Num
open Go Go.Kn
def Z.nat (z : Z) : Nat := match z.o with | some v => v.natAbs | none => 0
def Z.half (z : Z) : Z := lift1 (fun v => Z.of (v / 2)) z
/-- a root, bit by bit -/
def sqb : Nat → Nat → Nat → Nat
  | 0, _, r => r
  | k + 1, v, r => bif decide (v < (r + 2 ^ k) * (r + 2 ^ k)) then sqb k v r else sqb k v (r + 2 ^ k)
def isqrt (v : Nat) : Nat := sqb 256 v 0
def Z.sqrt (z : Z) : Z := lift1 (fun v => bif decide (v < 0) then Z.bad else Z.of ((isqrt v.toNat : Nat) : Int)) z
theorem iL_ : ∀ (k v r : Nat), r * r ≤ v → v < (r + 2 ^ k) * (r + 2 ^ k) → sqb k v r * sqb k v r ≤ v ∧ v < (sqb k v r + 1) * (sqb k v r + 1)
  | 0, v, r, h1, h2 => ⟨h1, h2⟩
  | k + 1, v, r, h1, h2 => by
    unfold sqb
    by_cases h : v < (r + 2 ^ k) * (r + 2 ^ k)
    · rw [decide_eq_true h, cond_true]; exact iL_ k v r h1 h
    · rw [decide_eq_false h, cond_false]
      refine iL_ k v (r + 2 ^ k) (by omega) ?_
      rw [Nat.add_assoc, ← Nat.two_mul, Nat.mul_comm 2, ← Nat.pow_succ]; exact h2
theorem l1_ {v k m : Nat} (hm : 4294967296 ^ 16 = 2 ^ m) (hk : m = k + k) (h : v < 4294967296 ^ 16) : v < (0 + 2 ^ k) * (0 + 2 ^ k) := by
  rw [Nat.zero_add, ← Nat.pow_add, ← hk, ← hm]; exact h
theorem eb_ {v : Nat} (h : v < 4294967296 ^ 16) : isqrt v * isqrt v ≤ v ∧ v < (isqrt v + 1) * (isqrt v + 1) := iL_ 256 v 0 (Nat.zero_le _) (l1_ hO_ rfl h)
theorem j4_ {a b : Nat} (h : a < b) : (a + 1) * (a + 1) ≤ b * b := Nat.mul_le_mul h h
theorem m8_ {v r s : Nat} (h1 : r * r ≤ v) (h2 : v < (r + 1) * (r + 1)) (h3 : s * s ≤ v) (h4 : v < (s + 1) * (s + 1)) : r = s := by
  rcases Nat.lt_trichotomy r s with h | h | h
  · have := j4_ h; omega
  · exact h
  · have := j4_ h; omega
theorem lJ_ {v r : Nat} (h : v < 4294967296 ^ 16) (h1 : r * r ≤ v) (h2 : v < (r + 1) * (r + 1)) : r = isqrt v := m8_ h1 h2 (eb_ h).1 (eb_ h).2
theorem val_B {a : R} (ha : a.Ok) : val a.w < 4294967296 ^ 16 := by have := gf_ a.w ha.lim; rwa [ha.len] at this
theorem m0_ {a : R} (ha : a.Ok) (ga : a.good = true) (hn : a.neg = false) {r : Nat} (h1 : r * r ≤ val a.w) (h2 : val a.w < (r + 1) * (r + 1)) : Z.of (sgn false r) = Z.sqrt a.dec := by
  unfold Z.sqrt
  rw [b9_ (aT_ ha ga), hn]
  have e : sgn false (val a.w) = ((val a.w : Nat) : Int) := rfl
  rw [e, decide_eq_false (by omega), cond_false, Int.toNat_natCast, ← lJ_ (val_B ha) h1 h2]; rfl
theorem oa_ {a : R} (ha : a.Ok) (ga : a.good = true) (hn : a.neg = true) : Z.sqrt a.dec = Z.bad := by
  unfold Z.sqrt
  rw [b9_ (aT_ ha ga), hn]
  have h0 : val a.w ≠ 0 := fun h => by
    have := ga
    unfold R.good R.valid at this
    simp [hn, R.zero] at this
    exact this.2 h
  have e : sgn true (val a.w) = -((val a.w : Nat) : Int) := rfl
  rw [e, decide_eq_true (by omega)]; rfl
theorem n5_ {a : R} (ga : a.good = false) : Z.sqrt a.dec = Z.bad := by
  unfold Z.sqrt R.dec
  rw [if_neg (by simp [ga])]; rfl
theorem mJ_ {a : R} (ha : a.Ok) (ga : a.good = true) (hn : a.neg = false) : R.mk false false (toL 16 (val a.w / 2 ^ 1)) = (Z.half a.dec).enc := by
  unfold Z.half
  rw [b9_ (aT_ ha ga), hn]
  have e : sgn false (val a.w) / 2 = sgn false (val a.w / 2 ^ 1) := by
    show ((val a.w : Nat) : Int) / 2 = ((val a.w / 2 ^ 1 : Nat) : Int)
    omega
  rw [e]
  exact dp_ false (Nat.lt_of_le_of_lt (Nat.div_le_self _ _) (val_B ha))
theorem n8_ {a : R} (ga : a.good = false) : Z.half a.dec = Z.bad := by
  unfold Z.half R.dec
  rw [if_neg (by simp [ga])]; rfl
theorem mI_ {a : R} (ha : a.Ok) (ga : a.good = true) (hn : a.neg = false) (hs : a.dec.sign = 0) : a = (Z.half a.dec).enc := by
  have hv : sgn false (val a.w) = 0 := by
    unfold Z.sign at hs
    rw [aT_ ha ga, hn] at hs
    exact Int.sign_eq_zero_iff_zero.1 hs
  unfold Z.half
  rw [b9_ (aT_ ha ga), hn, hv]
  have e : a.dec = Z.of 0 := by
    unfold R.dec
    rw [if_pos ga, hn, hv]
  have := (iU_ ha ga).symm
  rw [e] at this; exact this
theorem mc_ {a : R} (h : a.Ok) : (uw (List.replicate 16 0)).take 0 ++ (a.cells.drop 2).take 16 ++ (uw (List.replicate 16 0)).drop 16 = uw a.w := by
  have e1 : a.cells.drop 2 = uw a.w := rfl
  have e2 : (uw a.w).length = 16 := by rw [b5_, h.len]
  have e3 : (uw (List.replicate 16 0)).drop 16 = [] := rfl
  rw [e1, List.take_of_length_le (l := uw a.w) (by omega), e3, List.take_zero, List.nil_append, List.append_nil]
end Go.Num

namespace Go.Num
open Go Go.Kn
theorem neI_f {a b : Int} (h : (a != b) = false) : a = b := by simpa using h
theorem neI_t {a b : Int} (h : (a != b) = true) : a ≠ b := by simpa using h
theorem trs {α : Type} {a b c : α} (h2 : b = c) (h1 : a = b) : a = c := h1.trans h2
theorem apS {σ β : Type} {f : σ → β} {x s : σ} (h : x = s) : ap f x = f s := by rw [h]; rfl
theorem smS {σ ρ β : Type} {f : σ → β} {g : ρ → β} {x : σ ⊕ ρ} {s : σ} (h : x = .inl s) : sm f g x = f s := by rw [h]; rfl
theorem kL_ {x : Int} (h : (x != 0) = false) : decide (0 ≤ x) = true := by
  have : x = 0 := by simpa using h
  rw [this]; rfl
structure Edg where
  l : List (A3 Rt)
  e : W
structure Pts where
  l : List Rt
  is : Bool
end Go.Num

set_option linter.unusedVariables false
set_option linter.unusedSimpArgs false
namespace Go.Proofs.YtapbefpeopaecaaGreatDoor
open Go.Kn Go.Num
theorem mix : Tryz.prog.follows .mixedOrders = true := by kernel_rfl
theorem ar_23 : tyArr Tryz.prog 23 = some (3, 1) := by kernel_rfl
theorem ar_35 : tyArr Tryz.prog 35 = some (16, 1) := by kernel_rfl
theorem ar_41 : tyArr Tryz.prog 41 = some (3, 36) := by kernel_rfl
theorem ar_61 : tyArr Tryz.prog 61 = some (4, 1) := by kernel_rfl
theorem ar_74 : tyArr Tryz.prog 74 = some (2, 3) := by kernel_rfl
theorem ar_75 : tyArr Tryz.prog 75 = some (2, 36) := by kernel_rfl
theorem ar_94 : tyArr Tryz.prog 94 = some (3, 18) := by kernel_rfl
theorem jT_ : tyArr Tryz.prog 132 = some (32, 1) := by kernel_rfl
theorem e9_ : tyArr Tryz.prog 146 = some (17, 1) := by kernel_rfl
theorem bo_4 : jX_ Tryz.prog 4 = true := by kernel_rfl
theorem eg_23 : Tryz.prog.eqGuardType Tryz.prog.depth 23 = false := by kernel_rfl
theorem eg_35 : Tryz.prog.eqGuardType Tryz.prog.depth 35 = false := by kernel_rfl
theorem eg_37 : Tryz.prog.eqGuardType Tryz.prog.depth 37 = false := by kernel_rfl
theorem eg_39 : Tryz.prog.eqGuardType Tryz.prog.depth 39 = false := by kernel_rfl
theorem eg_41 : Tryz.prog.eqGuardType Tryz.prog.depth 41 = false := by kernel_rfl
theorem el_23 : tyEl Tryz.prog 23 = some (3, 1, false) := by kernel_rfl
theorem el_94 : tyEl Tryz.prog 94 = some (3, 18, true) := by kernel_rfl
theorem en_10 : ay_ Tryz.prog 10 = true := by kernel_rfl
theorem en_12 : ay_ Tryz.prog 12 = true := by kernel_rfl
theorem en_13 : ay_ Tryz.prog 13 = true := by kernel_rfl
theorem en_16 : ay_ Tryz.prog 16 = true := by kernel_rfl
theorem en_17 : ay_ Tryz.prog 17 = true := by kernel_rfl
theorem en_19 : ay_ Tryz.prog 19 = true := by kernel_rfl
theorem en_20 : ay_ Tryz.prog 20 = true := by kernel_rfl
theorem en_21 : ay_ Tryz.prog 21 = true := by kernel_rfl
theorem en_23 : ay_ Tryz.prog 23 = true := by kernel_rfl
theorem en_25 : ay_ Tryz.prog 25 = true := by kernel_rfl
theorem en_27 : ay_ Tryz.prog 27 = true := by kernel_rfl
theorem en_32 : ay_ Tryz.prog 32 = true := by kernel_rfl
theorem en_33 : ay_ Tryz.prog 33 = true := by kernel_rfl
theorem en_34 : ay_ Tryz.prog 34 = true := by kernel_rfl
theorem en_35 : ay_ Tryz.prog 35 = true := by kernel_rfl
theorem en_37 : ay_ Tryz.prog 37 = true := by kernel_rfl
theorem en_38 : ay_ Tryz.prog 38 = true := by kernel_rfl
theorem en_40 : ay_ Tryz.prog 40 = true := by kernel_rfl
theorem en_42 : ay_ Tryz.prog 42 = true := by kernel_rfl
theorem en_43 : ay_ Tryz.prog 43 = true := by kernel_rfl
theorem en_44 : ay_ Tryz.prog 44 = true := by kernel_rfl
theorem en_45 : ay_ Tryz.prog 45 = true := by kernel_rfl
theorem en_46 : ay_ Tryz.prog 46 = true := by kernel_rfl
theorem en_47 : ay_ Tryz.prog 47 = true := by kernel_rfl
theorem en_49 : ay_ Tryz.prog 49 = true := by kernel_rfl
theorem en_50 : ay_ Tryz.prog 50 = true := by kernel_rfl
theorem en_51 : ay_ Tryz.prog 51 = true := by kernel_rfl
theorem en_55 : ay_ Tryz.prog 55 = true := by kernel_rfl
theorem en_56 : ay_ Tryz.prog 56 = true := by kernel_rfl
theorem en_57 : ay_ Tryz.prog 57 = true := by kernel_rfl
theorem en_58 : ay_ Tryz.prog 58 = true := by kernel_rfl
theorem en_59 : ay_ Tryz.prog 59 = true := by kernel_rfl
theorem en_60 : ay_ Tryz.prog 60 = true := by kernel_rfl
theorem en_61 : ay_ Tryz.prog 61 = true := by kernel_rfl
theorem en_62 : ay_ Tryz.prog 62 = true := by kernel_rfl
theorem en_63 : ay_ Tryz.prog 63 = true := by kernel_rfl
theorem en_64 : ay_ Tryz.prog 64 = true := by kernel_rfl
theorem en_65 : ay_ Tryz.prog 65 = true := by kernel_rfl
theorem en_66 : ay_ Tryz.prog 66 = true := by kernel_rfl
theorem en_67 : ay_ Tryz.prog 67 = true := by kernel_rfl
theorem en_68 : ay_ Tryz.prog 68 = true := by kernel_rfl
theorem en_69 : ay_ Tryz.prog 69 = true := by kernel_rfl
theorem en_70 : ay_ Tryz.prog 70 = true := by kernel_rfl
theorem en_73 : ay_ Tryz.prog 73 = true := by kernel_rfl
theorem en_74 : ay_ Tryz.prog 74 = true := by kernel_rfl
theorem en_75 : ay_ Tryz.prog 75 = true := by kernel_rfl
theorem en_76 : ay_ Tryz.prog 76 = true := by kernel_rfl
theorem en_77 : ay_ Tryz.prog 77 = true := by kernel_rfl
theorem en_78 : ay_ Tryz.prog 78 = true := by kernel_rfl
theorem en_79 : ay_ Tryz.prog 79 = true := by kernel_rfl
theorem en_80 : ay_ Tryz.prog 80 = true := by kernel_rfl
theorem en_84 : ay_ Tryz.prog 84 = true := by kernel_rfl
theorem en_86 : ay_ Tryz.prog 86 = true := by kernel_rfl
theorem en_87 : ay_ Tryz.prog 87 = true := by kernel_rfl
theorem en_88 : ay_ Tryz.prog 88 = true := by kernel_rfl
theorem en_89 : ay_ Tryz.prog 89 = true := by kernel_rfl
theorem en_90 : ay_ Tryz.prog 90 = true := by kernel_rfl
theorem en_91 : ay_ Tryz.prog 91 = true := by kernel_rfl
theorem en_92 : ay_ Tryz.prog 92 = true := by kernel_rfl
theorem en_93 : ay_ Tryz.prog 93 = true := by kernel_rfl
theorem en_94 : ay_ Tryz.prog 94 = true := by kernel_rfl
theorem en_95 : ay_ Tryz.prog 95 = true := by kernel_rfl
theorem en_96 : ay_ Tryz.prog 96 = true := by kernel_rfl
theorem en_97 : ay_ Tryz.prog 97 = true := by kernel_rfl
theorem en_98 : ay_ Tryz.prog 98 = true := by kernel_rfl
theorem q9_ : ay_ Tryz.prog 102 = true := by kernel_rfl
theorem gF_ : ay_ Tryz.prog 103 = true := by kernel_rfl
theorem gP_ : ay_ Tryz.prog 104 = true := by kernel_rfl
theorem pM_ : ay_ Tryz.prog 105 = true := by kernel_rfl
theorem kT_ : ay_ Tryz.prog 106 = true := by kernel_rfl
theorem fk_ : ay_ Tryz.prog 107 = true := by kernel_rfl
theorem hd_ : ay_ Tryz.prog 108 = true := by kernel_rfl
theorem kZ_ : ay_ Tryz.prog 109 = true := by kernel_rfl
theorem re_ : ay_ Tryz.prog 110 = true := by kernel_rfl
theorem kK_ : ay_ Tryz.prog 111 = true := by kernel_rfl
theorem ek_ : ay_ Tryz.prog 112 = true := by kernel_rfl
theorem ri_ : ay_ Tryz.prog 113 = true := by kernel_rfl
theorem kN_ : ay_ Tryz.prog 114 = true := by kernel_rfl
theorem hN_ : ay_ Tryz.prog 115 = true := by kernel_rfl
theorem pj_ : ay_ Tryz.prog 116 = true := by kernel_rfl
theorem o4_ : ay_ Tryz.prog 117 = true := by kernel_rfl
theorem l4_ : ay_ Tryz.prog 121 = true := by kernel_rfl
theorem rP_ : ay_ Tryz.prog 122 = true := by kernel_rfl
theorem pC_ : ay_ Tryz.prog 123 = true := by kernel_rfl
theorem pt_ : ay_ Tryz.prog 124 = true := by kernel_rfl
theorem pE_ : ay_ Tryz.prog 125 = true := by kernel_rfl
theorem qV_ : ay_ Tryz.prog 129 = true := by kernel_rfl
theorem ia_ : ay_ Tryz.prog 130 = true := by kernel_rfl
theorem lr_ : ay_ Tryz.prog 131 = true := by kernel_rfl
theorem ha_ : ay_ Tryz.prog 132 = true := by kernel_rfl
theorem pm_ : ay_ Tryz.prog 133 = true := by kernel_rfl
theorem rm_ : ay_ Tryz.prog 134 = true := by kernel_rfl
theorem eI_ : ay_ Tryz.prog 135 = true := by kernel_rfl
theorem ew_ : ay_ Tryz.prog 136 = true := by kernel_rfl
theorem mF_ : ay_ Tryz.prog 137 = true := by kernel_rfl
theorem rQ_ : ay_ Tryz.prog 138 = true := by kernel_rfl
theorem lw_ : ay_ Tryz.prog 139 = true := by kernel_rfl
theorem oO_ : ay_ Tryz.prog 140 = true := by kernel_rfl
theorem hY_ : ay_ Tryz.prog 141 = true := by kernel_rfl
theorem oM_ : ay_ Tryz.prog 142 = true := by kernel_rfl
theorem nq_ : ay_ Tryz.prog 144 = true := by kernel_rfl
theorem mO_ : ay_ Tryz.prog 145 = true := by kernel_rfl
theorem mz_ : ay_ Tryz.prog 146 = true := by kernel_rfl
theorem o1_ : ay_ Tryz.prog 147 = true := by kernel_rfl
theorem q2_ : ay_ Tryz.prog 148 = true := by kernel_rfl
theorem iv_ : ay_ Tryz.prog 149 = true := by kernel_rfl
theorem nm_ : ay_ Tryz.prog 150 = true := by kernel_rfl
theorem jW_ : ay_ Tryz.prog 152 = true := by kernel_rfl
theorem kx_ : ay_ Tryz.prog 153 = true := by kernel_rfl
theorem pF_ : ay_ Tryz.prog 154 = true := by kernel_rfl
theorem rY_ : ay_ Tryz.prog 156 = true := by kernel_rfl
theorem q8_ : ay_ Tryz.prog 157 = true := by kernel_rfl
theorem qQ_ : ay_ Tryz.prog 158 = true := by kernel_rfl
theorem rf_ : ay_ Tryz.prog 159 = true := by kernel_rfl
theorem rj_ : ay_ Tryz.prog 160 = true := by kernel_rfl
theorem rD_ : ay_ Tryz.prog 161 = true := by kernel_rfl
theorem oF_ : ay_ Tryz.prog 163 = true := by kernel_rfl
theorem d8_ : fq_ Tryz.prog 37 0 = some (0, 1) := by kernel_rfl
theorem bp_ : fq_ Tryz.prog 37 1 = some (1, 1) := by kernel_rfl
theorem bl_ : fq_ Tryz.prog 37 2 = some (2, 16) := by kernel_rfl
theorem cH_ : fq_ Tryz.prog 39 0 = some (0, 18) := by kernel_rfl
theorem bP_ : fq_ Tryz.prog 39 1 = some (18, 18) := by kernel_rfl
theorem in_3 : tyInt Tryz.prog 3 = some .i64 := by kernel_rfl
theorem in_5 : tyInt Tryz.prog 5 = some .u8 := by kernel_rfl
theorem in_34 : tyInt Tryz.prog 34 = some .u32 := by kernel_rfl
theorem in_60 : tyInt Tryz.prog 60 = some .u16 := by kernel_rfl
theorem bG_ : tyInt Tryz.prog 112 = some .u64 := by kernel_rfl
theorem lv_35 : dx_ Tryz.prog 8 35 = some (true, (List.replicate 16 (some IntKind.u32))) := by kernel_rfl
theorem lw_23 : dx_ Tryz.prog 8 23 = some (true, ([some .i64] ++ ([some .i64] ++ [some .i64]))) := by kernel_rfl
theorem lw_37 : dx_ Tryz.prog 8 37 = some (true, LI) := by kernel_rfl
theorem lw_39 : dx_ Tryz.prog 8 39 = some (true, (LI ++ LI)) := by kernel_rfl
theorem lw_41 : dx_ Tryz.prog 8 41 = some (true, (LI ++ (LI ++ (LI ++ (LI ++ (LI ++ LI)))))) := by kernel_rfl
theorem on_3 : tyOne Tryz.prog 3 = true := by kernel_rfl
theorem pl_37 : gO_ Tryz.prog 37 = some [(0, 1), (1, 1), (2, 16)] := by kernel_rfl
theorem pl_39 : gO_ Tryz.prog 39 = some [(0, 18), (18, 18)] := by kernel_rfl
theorem sl_24 : dR_ Tryz.prog 24 = some 108 := by kernel_rfl
theorem sl_43 : dR_ Tryz.prog 43 = some 36 := by kernel_rfl
theorem sl_81 : dR_ Tryz.prog 81 = some 1 := by kernel_rfl
theorem lA_ : dR_ Tryz.prog 128 = some 1 := by kernel_rfl
theorem lo_ : dR_ Tryz.prog 143 = some 18 := by kernel_rfl
theorem st_9 : Tryz.prog.underlying 9 = some .string := by kernel_rfl
theorem sz_3 : (Tryz.prog.info? 3).map (·.size) = some 1 := by kernel_rfl
theorem sz_37 : (Tryz.prog.info? 37).map (·.size) = some 18 := by kernel_rfl
theorem sz_39 : (Tryz.prog.info? 39).map (·.size) = some 36 := by kernel_rfl
theorem sz_41 : (Tryz.prog.info? 41).map (·.size) = some 108 := by kernel_rfl
theorem ty_3 : tyOf Tryz.prog 3 = some (false, 1) := by kernel_rfl
theorem ty_4 : tyOf Tryz.prog 4 = some (false, 1) := by kernel_rfl
theorem ty_23 : tyOf Tryz.prog 23 = some (true, 3) := by kernel_rfl
theorem ty_34 : tyOf Tryz.prog 34 = some (false, 1) := by kernel_rfl
theorem ty_35 : tyOf Tryz.prog 35 = some (true, 16) := by kernel_rfl
theorem ty_37 : tyOf Tryz.prog 37 = some (true, 18) := by kernel_rfl
theorem ty_39 : tyOf Tryz.prog 39 = some (true, 36) := by kernel_rfl
theorem ty_41 : tyOf Tryz.prog 41 = some (true, 108) := by kernel_rfl
theorem ty_60 : tyOf Tryz.prog 60 = some (false, 1) := by kernel_rfl
theorem ty_74 : tyOf Tryz.prog 74 = some (true, 6) := by kernel_rfl
theorem ty_75 : tyOf Tryz.prog 75 = some (true, 72) := by kernel_rfl
theorem ty_94 : tyOf Tryz.prog 94 = some (true, 54) := by kernel_rfl
theorem us_24 : Tryz.prog.underlying 24 = some (.slice 41) := by kernel_rfl
theorem us_43 : Tryz.prog.underlying 43 = some (.slice 39) := by kernel_rfl
theorem us_81 : Tryz.prog.underlying 81 = some (.slice 3) := by kernel_rfl
theorem eJ_ : Tryz.prog.underlying 143 = some (.slice 37) := by kernel_rfl
theorem z_3 : do_ Tryz.prog 3 = some [.int .i64 0] := by kernel_rfl
theorem z_35 : do_ Tryz.prog 35 = some (uw (List.replicate 16 0)) := by kernel_rfl
theorem z_37 : do_ Tryz.prog 37 = some zR := by kernel_rfl
theorem z_39 : do_ Tryz.prog 39 = some (([.bool false] ++ [.bool false] ++ (List.replicate 16 (.int .u32 0))) ++ ([.bool false] ++ [.bool false] ++ (List.replicate 16 (.int .u32 0)))) := by kernel_rfl
theorem z_41 : do_ Tryz.prog 41 = some ((([.bool false] ++ [.bool false] ++ (List.replicate 16 (.int .u32 0))) ++ ([.bool false] ++ [.bool false] ++ (List.replicate 16 (.int .u32 0)))) ++ (([.bool false] ++ [.bool false] ++ (List.replicate 16 (.int .u32 0))) ++ ([.bool false] ++ [.bool false] ++ (List.replicate 16 (.int .u32 0)))) ++ (([.bool false] ++ [.bool false] ++ (List.replicate 16 (.int .u32 0))) ++ ([.bool false] ++ [.bool false] ++ (List.replicate 16 (.int .u32 0))))) := by kernel_rfl
theorem z_132 : do_ Tryz.prog 132 = some (uw (List.replicate 32 0)) := by kernel_rfl
theorem z_146 : do_ Tryz.prog 146 = some (uw (List.replicate 17 0)) := by kernel_rfl
theorem zp_23 : do_ Tryz.prog 23 = some (flat [ci .i64 0, ci .i64 0, ci .i64 0]) := by kernel_rfl
theorem zp_37 : do_ Tryz.prog 37 = some (flat [pI I0]) := by kernel_rfl
theorem zp_39 : do_ Tryz.prog 39 = some (flat [pI I0, pI I0]) := by kernel_rfl
theorem zp_41 : do_ Tryz.prog 41 = some (flat [pI I0, pI I0, pI I0, pI I0, pI I0, pI I0]) := by kernel_rfl
theorem zp_74 : do_ Tryz.prog 74 = some (flat [ci .i64 0, ci .i64 0, ci .i64 0, ci .i64 0, ci .i64 0, ci .i64 0]) := by kernel_rfl
theorem zp_75 : do_ Tryz.prog 75 = some (flat [pI I0, pI I0, pI I0, pI I0]) := by kernel_rfl
theorem zp_94 : do_ Tryz.prog 94 = some (flat [pI I0, pI I0, pI I0]) := by kernel_rfl
end Go.Proofs.YtapbefpeopaecaaGreatDoor

set_option linter.unusedVariables false
set_option linter.unusedSimpArgs false
namespace Go.Num
open Go Go.Kn
def cY_ (a : I) : I :=
  bif a.1.good then ((E (Z.of (sgn (!a.1.neg) (val a.1.w))))) else ((E Z.bad))
def c3_ (a : I) : I :=
  bif a.1.good then ((E (Z.of (sgn false (val a.1.w))))) else ((E Z.bad))
def cd_ (a : I) (b : I) : I :=
  bif ((wordB a.1) && (wordB b.1)) then ((E (Z.of (W.add (wordW a) (wordW b)).1))) else (bif (!a.1.good || (!b.1.good)) then ((E Z.bad)) else (bif (a.1.neg == b.1.neg) then ((E (Z.of (sgn a.1.neg ((val a.1.w) + (val b.1.w)))))) else (bif decide ((val a.1.w) < (val b.1.w)) then ((E (Z.of (sgn b.1.neg ((val b.1.w) - (val a.1.w)))))) else ((E (Z.of (sgn a.1.neg ((val a.1.w) - (val b.1.w)))))))))
def cK_ (a : I) (b : I) : I :=
  bif ((wordB a.1) && ((wordB b.1) && ((decide ((wordW a).1 < 2147483648) && decide (-2147483648 < (wordW a).1)) && (decide ((wordW b).1 < 2147483648) && decide (-2147483648 < (wordW b).1))))) then ((E (Z.of (W.mul (wordW a) (wordW b)).1))) else (bif (!a.1.good || (!b.1.good)) then ((E Z.bad)) else ((E (Z.of (sgn (a.1.neg != b.1.neg) ((val a.1.w) * (val b.1.w)))))))
def cF_ (a : I) : W :=
  bif (!a.1.good || ((((dl (val a.1.w)).length : Nat) : Int) == 0)) then ((wl 0)) else (bif a.1.neg then ((wl (-1))) else ((wl 1)))
def cr_ (a : I) (b : I) : I :=
  bif ((wordB a.1) && ((wordB b.1) && ((wordW b).1 != 0))) then ((E (Z.of (W.fdiv (wordW a) (wordW b)).1))) else (bif (!a.1.good || (!b.1.good || ((((dl (val b.1.w)).length : Nat) : Int) == 0))) then ((E Z.bad)) else (bif ((a.1.neg != b.1.neg) && decide (0 < (((dl ((val a.1.w) % (val b.1.w))).length : Nat) : Int))) then ((E (Z.of (sgn (a.1.neg != b.1.neg) (((val a.1.w) / (val b.1.w)) + 1))))) else ((E (Z.of (sgn (a.1.neg != b.1.neg) ((val a.1.w) / (val b.1.w))))))))
end Go.Num

set_option linter.unusedVariables false
set_option linter.unusedSimpArgs false
namespace Go.Num
open Go Go.Kn
end Go.Num

set_option linter.unusedVariables false
set_option linter.unusedSimpArgs false
namespace Go.Num
open Go Go.Kn
def av_ (a : (A3 W)) : (A3 I) :=
  (⟨(E (Z.of a.x.1)), (E (Z.of a.y.1)), (E (Z.of a.z.1))⟩ : (A3 I))
def ey_ (a : (A3 I)) (b : (A3 I)) : I :=
  let r5 : I := (E (Z.add (Z.add (Z.of 0) (Z.mul a.x.dec b.x.dec)) (Z.mul a.y.dec b.y.dec)))
  (E (Z.add r5.dec (Z.mul a.z.dec b.z.dec)))
def dz_ (a : (A3 I)) (b : (A3 I)) : (A3 I) :=
  (⟨(E (Z.sub (Z.mul a.y.dec b.z.dec) (Z.mul a.z.dec b.y.dec))), (E (Z.sub (Z.mul a.z.dec b.x.dec) (Z.mul a.x.dec b.z.dec))), (E (Z.sub (Z.mul a.x.dec b.y.dec) (Z.mul a.y.dec b.x.dec)))⟩ : (A3 I))
def a7_ (a : (A3 W)) (b : (A3 W)) : I :=
  (ey_ (av_ a) (av_ b))
def aR_ (a : (A3 I)) : (A3 W) × W :=
  bif (E (Z.gcd (Z.gcd (Z.gcd (Z.of 0) a.x.dec) a.y.dec) a.z.dec)).1.bad then (((⟨(wl 0), (wl 0), (wl 0)⟩ : (A3 W)), (wl 30))) else (bif ((Z.signW (Z.gcd (Z.gcd (Z.gcd (Z.of 0) a.x.dec) a.y.dec) a.z.dec)).1 == 0) then (((⟨(wl 0), (wl 0), (wl 0)⟩ : (A3 W)), (wl 31))) else (let r11 : I := (E (Z.quo a.x.dec (Z.gcd (Z.gcd (Z.gcd (Z.of 0) a.x.dec) a.y.dec) a.z.dec)))
  bif (!r11.dec.small.2 || (decide (2305843009213693952 ≤ (Z.smallW r11.dec).1) || decide ((Z.smallW r11.dec).1 ≤ (-2305843009213693952)))) then (((⟨(wl 0), (wl 0), (wl 0)⟩ : (A3 W)), (wl 30))) else (let r19 : I := (E (Z.quo a.y.dec (Z.gcd (Z.gcd (Z.gcd (Z.of 0) a.x.dec) a.y.dec) a.z.dec)))
  bif (!r19.dec.small.2 || (decide (2305843009213693952 ≤ (Z.smallW r19.dec).1) || decide ((Z.smallW r19.dec).1 ≤ (-2305843009213693952)))) then (((⟨(wl 0), (wl 0), (wl 0)⟩ : (A3 W)), (wl 30))) else (let r27 : I := (E (Z.quo a.z.dec (Z.gcd (Z.gcd (Z.gcd (Z.of 0) a.x.dec) a.y.dec) a.z.dec)))
  bif (!r27.dec.small.2 || (decide (2305843009213693952 ≤ (Z.smallW r27.dec).1) || decide ((Z.smallW r27.dec).1 ≤ (-2305843009213693952)))) then (((⟨(wl 0), (wl 0), (wl 0)⟩ : (A3 W)), (wl 30))) else (((⟨(Z.smallW r11.dec), (Z.smallW r19.dec), (Z.smallW r27.dec)⟩ : (A3 W)), (wl 0)))))))
def F_ratio_one  : I :=
  let q0 : I := (E (Z.of 1))
  q0
def d7_  : Rt :=
  let q0 : I := (E Z.bad)
  let q1 : I := F_ratio_one
  (⟨q0, q1⟩ : Rt)
def b1_ (a : I) : Bool :=
  (!a.1.bad && a.1.valid)
def aV_ (a : Rt) : Bool :=
  ((b1_ a.n) && ((b1_ a.d) && (decide (0 < (Z.signW a.d.dec).1) && decide ((E (Z.gcd a.n.dec a.d.dec)) = F_ratio_one))))
def ao_ (a : I) (b : I) : Rt :=
  bif (!(b1_ a) || (!(b1_ b) || ((Z.signW b.dec).1 == 0))) then (d7_) else (bif decide ((Z.signW b.dec).1 < 0) then ((⟨(E (Z.quo a.dec (Z.neg (Z.gcd a.dec b.dec)))), (E (Z.quo b.dec (Z.neg (Z.gcd a.dec b.dec))))⟩ : Rt)) else ((⟨(E (Z.quo a.dec (Z.gcd a.dec b.dec))), (E (Z.quo b.dec (Z.gcd a.dec b.dec)))⟩ : Rt)))
def ed_ (a : I) : Rt :=
  (ao_ a F_ratio_one)
def aa_ (a : W) : Rt :=
  (ed_ (E (Z.of a.1)))
def bK_ (a : Rt) : Rt :=
  bif (aV_ a) then ((⟨(E (Z.neg a.n.dec)), a.d⟩ : Rt)) else (d7_)
def aw_ (a : Rt) (b : Rt) : Rt :=
  bif (!(aV_ a) || (!(aV_ b))) then (d7_) else (let r15 : I := (E (Z.add (Z.mul a.n.dec (Z.quo b.d.dec (Z.gcd a.d.dec b.d.dec))) (Z.mul b.n.dec (Z.quo a.d.dec (Z.gcd a.d.dec b.d.dec)))))
  let r16 : Rt := (ao_ r15 (E (Z.mul (Z.quo a.d.dec (Z.gcd a.d.dec b.d.dec)) b.d.dec)))
  r16)
def ad_ (a : Rt) (b : Rt) : Rt :=
  (aw_ a (bK_ b))
def az_ (a : Rt) (b : Rt) : Rt :=
  bif (!(aV_ a) || (!(aV_ b))) then (d7_) else (let r26 : I := (E (Z.mul ((ao_ a.n b.d).n).dec ((ao_ b.n a.d).n).dec))
  let r27 : I := (E (Z.mul ((ao_ a.n b.d).d).dec ((ao_ b.n a.d).d).dec))
  bif (r26.1.bad || r27.1.bad) then (d7_) else ((⟨r26, r27⟩ : Rt)))
def F_skewbackref04_one  : I :=
  let q0 : I := (E (Z.of 1))
  q0
def bh_  : Rt :=
  let q0 : I := (E Z.bad)
  let q1 : I := F_skewbackref04_one
  (⟨q0, q1⟩ : Rt)
def ae_ (a : I) (b : I) : Rt :=
  bif (!a.1.good || (!b.1.good || ((Z.signW b.dec).1 == 0))) then (bh_) else (bif decide ((Z.signW b.dec).1 < 0) then ((⟨(E (Z.quo a.dec (Z.neg (Z.gcd a.dec b.dec)))), (E (Z.quo b.dec (Z.neg (Z.gcd a.dec b.dec))))⟩ : Rt)) else ((⟨(E (Z.quo a.dec (Z.gcd a.dec b.dec))), (E (Z.quo b.dec (Z.gcd a.dec b.dec)))⟩ : Rt)))
def af_ (a : W) : Rt :=
  let r2 : Rt := (ae_ (E (Z.of a.1)) F_skewbackref04_one)
  r2
def ar_ (a : W) (b : W) : Rt :=
  let r2 : Rt := (ae_ (E (Z.of a.1)) (E (Z.of b.1)))
  r2
def db_ (a : I) : Rt :=
  let r3 : Rt := (ae_ a F_skewbackref04_one)
  r3
def ai_ (a : Rt) : Bool :=
  bif (!a.n.1.good || (!a.d.1.good)) then (false) else ((decide (0 < (Z.signW a.d.dec).1) && decide ((E (Z.gcd a.n.dec a.d.dec)) = F_skewbackref04_one)))
def a6_ (a : Rt) : Rt :=
  bif (ai_ a) then ((⟨(E (Z.neg a.n.dec)), a.d⟩ : Rt)) else (bh_)
def ak_ (a : Rt) (b : Rt) : Rt :=
  bif (!(ai_ a) || (!(ai_ b))) then (bh_) else (let r11 : I := (E (Z.add (Z.mul a.n.dec (Z.quo b.d.dec (Z.gcd a.d.dec b.d.dec))) (Z.mul b.n.dec (Z.quo a.d.dec (Z.gcd a.d.dec b.d.dec)))))
  let r12 : Rt := (ae_ r11 (E (Z.mul (Z.quo a.d.dec (Z.gcd a.d.dec b.d.dec)) b.d.dec)))
  r12)
def aq_ (a : Rt) (b : Rt) : Rt :=
  let r4 : Rt := (ak_ a (a6_ b))
  r4
def ag_ (a : Rt) (b : Rt) : Rt :=
  bif (!(ai_ a) || (!(ai_ b))) then (bh_) else (let r10 : I := (E (Z.mul ((ae_ a.n b.d).n).dec ((ae_ b.n a.d).n).dec))
  let r12 : I := (E (Z.mul ((ae_ a.n b.d).d).dec ((ae_ b.n a.d).d).dec))
  (ae_ r10 r12))
def dk_ (a : Rt) (b : Bool) : I :=
  bif b then ((E (Z.of 0))) else ((E Z.bad))
def al_ (a : (A3 W)) : (A3 W) × (A3 W) :=
  bif (decide (a.x.1 = 0) && (decide (a.y.1 = 0) && decide (a.z.1 = a.z.1))) then (((⟨(wl 1), (wl 0), (wl 0)⟩ : (A3 W)), (⟨(wl 0), (wl 1), (wl 0)⟩ : (A3 W)))) else (let r6 : (A3 W) := (aR_ (⟨(E (Z.neg ((av_ a).y).dec)), ((av_ a).x), (E (Z.of 0))⟩ : (A3 I))).1
  let r7 : W := (aR_ (⟨(E (Z.neg ((av_ a).y).dec)), ((av_ a).x), (E (Z.of 0))⟩ : (A3 I))).2
  let r9 : (A3 I) := (dz_ (av_ a) (av_ r6))
  let r10 : (A3 W) := (aR_ r9).1
  bif ((r7.1 != 0) || (((aR_ r9).2).1 != 0)) then (((⟨(wl 0), (wl 0), (wl 0)⟩ : (A3 W)), (⟨(wl 0), (wl 0), (wl 0)⟩ : (A3 W)))) else ((r6, r10)))
def bT_ (a : (A3 W)) : (A3 Rt) :=
  (⟨(aa_ a.x), (aa_ a.y), (aa_ a.z)⟩ : (A3 Rt))
def cz_ (a : (A3 Rt)) (b : (A3 Rt)) : Rt :=
  let r5 : Rt := (aw_ (aa_ (wl 0)) (az_ a.x b.x))
  let r6 : Rt := (aw_ r5 (az_ a.y b.y))
  let r7 : Rt := (aw_ r6 (az_ a.z b.z))
  r7
def cB_ (a : (A3 Rt)) (b : (A3 Rt)) : (A3 Rt) :=
  let r4 : Rt := (ad_ (az_ a.y b.z) (az_ a.z b.y))
  let r5 : Rt := (ad_ (az_ a.z b.x) (az_ a.x b.z))
  let r6 : Rt := (ad_ (az_ a.x b.y) (az_ a.y b.x))
  (⟨r4, r5, r6⟩ : (A3 Rt))
def bf_ (a : (A3 W)) (b : (A3 Rt)) : Rt :=
  let r4 : (A3 Rt) := (bT_ a)
  (cz_ r4 b)
def b8_ (a : (A3 Rt)) (b : (A3 Rt)) : (A3 Rt) :=
  (⟨(aw_ a.x b.x), (aw_ a.y b.y), (aw_ a.z b.z)⟩ : (A3 Rt))
def cg_ (a : (A3 Rt)) (b : (A3 Rt)) : (A3 Rt) :=
  (⟨(ad_ a.x b.x), (ad_ a.y b.y), (ad_ a.z b.z)⟩ : (A3 Rt))
def bL_ (a : Rt) (b : (A3 Rt)) : (A3 Rt) :=
  (⟨(az_ a b.x), (az_ a b.y), (az_ a b.z)⟩ : (A3 Rt))
def dP_ (a : (A3 W)) : Bool :=
  bif (decide (2305843009213693952 ≤ a.x.1) || decide (a.x.1 ≤ (-2305843009213693952))) then (false) else (bif (decide (2305843009213693952 ≤ a.y.1) || decide (a.y.1 ≤ (-2305843009213693952))) then (false) else (bif (decide (2305843009213693952 ≤ a.z.1) || decide (a.z.1 ≤ (-2305843009213693952))) then (false) else (true)))
def a2_ (a : (A3 W)) : (A3 I) :=
  (⟨(E (Z.of a.x.1)), (E (Z.of a.y.1)), (E (Z.of a.z.1))⟩ : (A3 I))
def cy_ (a : I) (b : I) (c : I) (d : I) : I :=
  (E (Z.sub (Z.mul a.dec b.dec) (Z.mul c.dec d.dec)))
def cu_ (a : (A3 I)) (b : (A3 I)) : I :=
  let r5 : I := (E (Z.add (Z.add (Z.mul a.x.dec b.x.dec) (Z.mul a.y.dec b.y.dec)) (Z.mul a.z.dec b.z.dec)))
  r5
def ch_ (a : (A3 I)) (b : (A3 I)) : (A3 I) :=
  (⟨(cy_ a.y b.z a.z b.y), (cy_ a.z b.x a.x b.z), (cy_ a.x b.y a.y b.x)⟩ : (A3 I))
def c1_ (a : (A3 W)) (b : (A3 W)) : I :=
  let r4 : (A3 I) := (a2_ a)
  let r5 : (A3 I) := (a2_ b)
  (cu_ r4 r5)
def cO_ (a : (A3 I)) : Dir :=
  bif (E (Z.gcd (Z.gcd (Z.gcd (Z.of 0) a.x.dec) a.y.dec) a.z.dec)).1.bad then ((⟨(⟨(wl 0), (wl 0), (wl 0)⟩ : (A3 W)), (wl 30)⟩ : Dir)) else (bif ((Z.signW (Z.gcd (Z.gcd (Z.gcd (Z.of 0) a.x.dec) a.y.dec) a.z.dec)).1 == 0) then ((⟨(⟨(wl 0), (wl 0), (wl 0)⟩ : (A3 W)), (wl 31)⟩ : Dir)) else (let r7 : I := (E (Z.quo a.x.dec (Z.gcd (Z.gcd (Z.gcd (Z.of 0) a.x.dec) a.y.dec) a.z.dec)))
  bif r7.dec.small.2 then (let r9 : I := (E (Z.quo a.y.dec (Z.gcd (Z.gcd (Z.gcd (Z.of 0) a.x.dec) a.y.dec) a.z.dec)))
  bif r9.dec.small.2 then (let r11 : I := (E (Z.quo a.z.dec (Z.gcd (Z.gcd (Z.gcd (Z.of 0) a.x.dec) a.y.dec) a.z.dec)))
  bif r11.dec.small.2 then (bif (dP_ (⟨(Z.smallW r7.dec), (Z.smallW r9.dec), (Z.smallW r11.dec)⟩ : (A3 W))) then ((⟨(⟨(Z.smallW r7.dec), (Z.smallW r9.dec), (Z.smallW r11.dec)⟩ : (A3 W)), (wl 0)⟩ : Dir)) else ((⟨(⟨(wl 0), (wl 0), (wl 0)⟩ : (A3 W)), (wl 30)⟩ : Dir))) else ((⟨(⟨(wl 0), (wl 0), (wl 0)⟩ : (A3 W)), (wl 30)⟩ : Dir))) else ((⟨(⟨(wl 0), (wl 0), (wl 0)⟩ : (A3 W)), (wl 30)⟩ : Dir))) else ((⟨(⟨(wl 0), (wl 0), (wl 0)⟩ : (A3 W)), (wl 30)⟩ : Dir))))
def aU_ (a : (A3 W)) : (A3 W) × (A3 W) :=
  bif ((a.x.1 == 0) && (a.y.1 == 0)) then (((⟨(wl 1), (wl 0), (wl 0)⟩ : (A3 W)), (⟨(wl 0), (wl 1), (wl 0)⟩ : (A3 W)))) else (let r8 : (A3 I) := (a2_ a)
  let r10 : Dir := (cO_ (⟨(E (Z.neg r8.y.dec)), r8.x, (E (Z.of 0))⟩ : (A3 I)))
  let r12 : (A3 I) := (a2_ r10.v)
  let r13 : (A3 I) := (ch_ r8 r12)
  let r14 : Dir := (cO_ r13)
  bif ((r10.e.1 != 0) || (r14.e.1 != 0)) then (((⟨(wl 0), (wl 0), (wl 0)⟩ : (A3 W)), (⟨(wl 0), (wl 0), (wl 0)⟩ : (A3 W)))) else ((r10.v, r14.v)))
def aQ_ (a : (A3 Rt)) (b : (A3 Rt)) : (A3 Rt) :=
  (⟨(ak_ a.x b.x), (ak_ a.y b.y), (ak_ a.z b.z)⟩ : (A3 Rt))
def aP_ (a : (A3 Rt)) (b : (A3 Rt)) : (A3 Rt) :=
  (⟨(aq_ a.x b.x), (aq_ a.y b.y), (aq_ a.z b.z)⟩ : (A3 Rt))
def aG_ (a : Rt) (b : (A3 Rt)) : (A3 Rt) :=
  (⟨(ag_ a b.x), (ag_ a b.y), (ag_ a b.z)⟩ : (A3 Rt))
def by_ (a : (A3 Rt)) (b : (A3 Rt)) : Rt :=
  let r5 : Rt := (ak_ (ag_ a.x b.x) (ag_ a.y b.y))
  let r6 : Rt := (ak_ r5 (ag_ a.z b.z))
  r6
def cI_ (a : Rt) (b : Rt) (c : Rt) (d : Rt) : Rt :=
  let r6 : Rt := (aq_ (ag_ a b) (ag_ c d))
  r6
def ct_ (a : (A3 Rt)) (b : (A3 Rt)) : (A3 Rt) :=
  let r4 : Rt := (cI_ a.y b.z a.z b.y)
  let r5 : Rt := (cI_ a.z b.x a.x b.z)
  let r6 : Rt := (cI_ a.x b.y a.y b.x)
  (⟨r4, r5, r6⟩ : (A3 Rt))
def aj_ (a : (A3 W)) : (A3 Rt) :=
  (⟨(af_ a.x), (af_ a.y), (af_ a.z)⟩ : (A3 Rt))
def cE_ (a : (A3 W)) (b : (A3 Rt)) : Rt :=
  let r4 : (A3 Rt) := (aj_ a)
  (by_ r4 b)
end Go.Num

