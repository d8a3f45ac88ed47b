/- Appending to a list of our own, wherever its block stands among those that we hold. No program stands in it. Lists as results; lists of our own: elements are stored, prefixes with no room behind them are appended to. No program stands in it. Halves and square roots of whole numbers. No program stands in it. Structures with lists: the edges of a pyramid, multipliers. No program stands in it. -/
import Derived.Test.YtapbefpeopaecaaGreatDoorZGD
import Derived.ArgAppend
set_option linter.unusedVariables false
set_option linter.unusedSimpArgs false
namespace Go.Kn
open Go
/-- M is L and R, in some order. -/
def Frq (M L R : List Blk) : Prop := M.Perm (L ++ R)
theorem fq_l {L R : List Blk} : Frq (L ++ R) L R := List.Perm.refl _
theorem fq_s {x : Blk} {R L R' : List Blk} (h : Frq R L R') : Frq (x :: R) L (x :: R') := (List.Perm.cons x h).trans List.perm_middle.symm
theorem Sat.perm {w0 w : World} {X : List Nat} {M M' : List Blk} (h : Sat w0 X M w) (p : M.Perm M') : Sat w0 X M' w :=
  ⟨h.os, h.tape, h.output, h.size, h.old, (p.map Blk.b).nodup_iff.1 h.nodup, fun x hx => h.mem x (p.mem_iff.2 hx)⟩
theorem OwnG.lit {α : Type} {e : El α} {w0 : World} {l : List α} {E : TypeId} {b n : Nat} {qs : List Part} (hb : w0.heap.size ≤ b) (hn : l.length = n) (hm : n ≤ maxLen) (hq : qs = l.flatMap e.ps) : OwnG w0 E e (.slice (some ⟨b, 0, none⟩) n n) l [⟨b, E, flat qs⟩] :=
  OwnG.of_mine hb hn hm (by rw [hq]; exact iA_ l)
theorem nH_ {α : Type} {e : El α} {P : Program} {w0 : World} {X : List Nat} {N : Nm} {S : Fr} {M : List Blk} {d : Option Tmp} {ty : TypeId} {ps : String} {af : Array Edge} {gd : Option (Nat × Bool)} {v : Value} {l : List α}
    {T E : TypeId} {x y : Operand} {u : Value} {m : List α} {L M1 : List Blk} {K : Value → List Blk → Prop} (bytes : Nat) (hT : P.underlying T = some (.slice E)) (hE : tySz P E e.n bytes = true) (h0 : 0 < e.n) (hx : evO N S x = some v) (hy : evO N S y = some u)
    (hv : OwnG w0 E e v l L) (hu : SLe w0 X M e u m) (hs : Frq M L M1) (hn : (l.length + m.length) * bytes ≤ 140737488355328) (h8 : 0 < bytes) (k : ∀ v' L', OwnG w0 E e v' (l ++ m) L' → K v' (L' ++ M1)) :
    OpR P w0 X N ⟨d, .call { callee := .builtin .append, args := #[x, y], argTypes := #[T, T] }, ty, ps, af, gd⟩ S M K := fun w hw =>
  m3_ (M := L ++ M1) hT hE h0 hx hy hv (fun w hw => hu w (hw.perm (List.Perm.symm hs))) (List.Sublist.refl _) hn h8 k w (hw.perm hs)
end Go.Kn

set_option linter.unusedVariables false
set_option linter.unusedSimpArgs false
namespace Go.Kn
open Go
section
variable {α : Type} {e : El α} {P : Program} {w0 : World} {X : List Nat} {N : Nm} {S : Fr} {M M' : List Blk} {d : Option Tmp} {ty : TypeId} {ps : String} {af : Array Edge} {gd : Option (Nat × Bool)} {v : Value} {l : List α}
theorem OpR.perm {o : Oper} {K : Value → List Blk → Prop} (p : M.Perm M') (h : OpR P w0 X N o S M' K) : OpR P w0 X N o S M K := fun w hw => h w (hw.perm p)
theorem fq_n {M : List Blk} : Frq M [] M := List.Perm.refl _
theorem OwnG.form {E : TypeId} {L : List Blk} (h : OwnG w0 E e v l L) : ∃ p c, v = .slice p l.length c := by
  rcases h with ⟨rfl, rfl, rfl⟩ | ⟨g, cap, cur, rfl, _⟩
  · exact ⟨none, 0, rfl⟩
  · exact ⟨_, _, rfl⟩
theorem SLfe.max (h : SLfe w0 M e v l) : l.length ≤ 9223372036854775807 := by
  obtain ⟨p, c, hv, hc, hm, _⟩ := h
  unfold maxLen at hm; omega
theorem SLfe.lit {b n : Nat} {T : TypeId} {qs : List Part} (hB : w0.heap.size ≤ b) (h : (⟨b, T, flat qs⟩ : Blk) ∈ M) (hn : l.length = n) (hm : n ≤ maxLen) (hq : qs = l.flatMap e.ps) : SLfe w0 M e (.slice (some ⟨b, 0, none⟩) n n) l :=
  SLfe.mine hB h hn (Nat.le_refl _) hm (by rw [← hn, List.take_of_length_le, hq, iA_]; rw [hq, iA_, dx_]; exact Nat.le_refl _)
theorem dL_ {T E : TypeId} {x y : Operand} {u : Value} {m : List α} {L M1 : List Blk} {K : Value → List Blk → Prop} (bytes : Nat) (hT : P.underlying T = some (.slice E)) (hE : tySz P E e.n bytes = true) (h0 : 0 < e.n) (hx : evO N S x = some v) (hy : evO N S y = some u)
    (hv : OwnG w0 E e v l L) (hu : SLe w0 X M e u m) (hs : Frq M L M1) (hn : (l.length + m.length) * bytes ≤ 140737488355328) (h8 : 0 < bytes) (k : ∀ p c L', OwnG w0 E e (.slice p (l ++ m).length c) (l ++ m) L' → K (.slice p (l ++ m).length c) (L' ++ M1)) :
    OpR P w0 X N ⟨d, .call { callee := .builtin .append, args := #[x, y], argTypes := #[T, T] }, ty, ps, af, gd⟩ S M K :=
  nH_ bytes hT hE h0 hx hy hv hu hs hn h8 fun v' L' h => by
    obtain ⟨p, c, rfl⟩ := h.form
    exact k p c L' h
theorem fv_ {n : Nat} {f : FuncId} {fn : Func} {c : Code} {args : List Value} {w : World} (R : Value → Value) (hf : P.funcs[f]? = some fn) (hb : fn.body = some c) (hn : fn.ntmps = n) (hl : args.length ≤ n)
    (h : W P w [] (pl n) c (fg_ P fn w [] (pl n) fun r M => ∃ v, r = R v ∧ SLfe w M e v l) (initF 0 args) []) : Calls P f args.toArray w fun f w' => ∃ v, f = .returned (R v) ∧ Ext w w' ∧ Slfe w.heap.size w' e v l :=
  (eV_ hf hb hn hl (Sat.start w []) h).mono fun f w' ⟨r, M', he, hs, _, v, hr, hu⟩ => ⟨v, by rw [he, hr], hs.ext, hu.slfe hs⟩
theorem eY_ {g : FuncId} {xs : List Operand} {tys : Array TypeId} {args : List Value} {K : Value → List Blk → Prop} (R : Value → Value) (he : ar_ P g = true) (ha : evL N S xs = some args)
    (h : ∀ w, Sat w0 X M w → Calls P g args.toArray w fun f w' => ∃ v, f = .returned (R v) ∧ Ext w w' ∧ Slfe w.heap.size w' e v l) (k : ∀ p c L, SLfe w0 L e (.slice p l.length c) l → K (R (.slice p l.length c)) (L ++ M)) : OpR P w0 X N ⟨d, .call { callee := .value (.func g), args := xs.toArray, argTypes := tys }, ty, ps, af, gd⟩ S M K :=
  kr_ he ha fun w hw => (h w hw).mono fun _ w' ⟨v, h1, h2, h3⟩ => by
    obtain ⟨L, hs, hv⟩ := h3.nowf hw h2
    obtain ⟨p, c, rfl, _⟩ := id hv
    exact ⟨_, L ++ M, h1, hs, Ext.keeps h2, k p c L hv⟩
theorem o5_ {k : Nat} {z : α} (hk : k < l.length) : (rows e l).take (k * e.n) ++ e.cs z ++ (rows e l).drop (k * e.n + e.n) = rows e (l.set k z) := by
  rw [j1_, show k * e.n + e.n = (k + 1) * e.n by rw [Nat.succ_mul], kk_, List.set_eq_take_append_cons_drop, if_pos hk, eT_]
  simp [rows]
theorem dB_ {T E : TypeId} {x y : Operand} {g : Bool} {k m : Nat} {z : α} {u : Value} {L M1 : List Blk} {K : Value → List Blk → Prop} (hT : tyOf P T = some (g, e.n)) (hx : evO N S x = some (.pointer (some (slb v m)))) (hm : m = k * e.n) (hv : OwnG w0 E e v l L) (hk : k < l.length)
    (hs : Frq M L M1) (hy0 : evO N S y = some u) (hy : u.cells = (flat (e.ps z)).toArray) (kk : ∀ L', OwnG w0 E e v (l.set k z) L' → K undef (L' ++ M1)) : OpR P w0 X N ⟨d, .store T x y, ty, ps, af, gd⟩ S M K := by
  subst hm
  rcases hv with ⟨rfl, rfl, rfl⟩ | ⟨g', cap, cur, rfl, rfl, hg, hc, hmx, hl, ht⟩
  · simp at hk
  have hx' : evO N S x = some (.pointer (some ⟨g', k * e.n, none⟩)) := by rw [hx]; simp [slb, ex_]
  have e1 : l.length * e.n ≤ cap * e.n := Nat.mul_le_mul_right _ hc
  have e2 : (k + 1) * e.n ≤ l.length * e.n := Nat.mul_le_mul_right _ (by omega)
  rw [Nat.succ_mul] at e2
  have hcs : (e.cs z).length = e.n := El.cs_len z
  have hcur : cur = rows e l ++ cur.drop (l.length * e.n) := by rw [← ht, List.take_append_drop]
  have hlr := dx_ (e := e) l
  refine OpR.perm hs (jG_ (U := E) (cs := cur) (vs := e.cs z) (M' := ⟨g', E, cur.take (k * e.n) ++ e.cs z ++ cur.drop (k * e.n + e.n)⟩ :: M1) hT hx' (.head _) hy0 hy hcs (fun v h => El.cs_plain z v h) (by omega) rfl (.inl hg) ?_)
  refine kk [⟨g', E, cur.take (k * e.n) ++ e.cs z ++ cur.drop (k * e.n + e.n)⟩] (.inr ⟨g', cap, _, by rw [List.length_set], rfl, hg, by rw [List.length_set]; exact hc, hmx, ?_, ?_⟩)
  · rw [List.length_append, List.length_append, List.length_take, List.length_drop, hcs, hl, Nat.min_eq_left (by omega)]; omega
  · rw [List.length_set, ← o5_ hk]
    have t1 : cur.take (k * e.n) = (rows e l).take (k * e.n) := by rw [← ht, List.take_take, Nat.min_eq_left (by omega)]
    have t2 : (cur.drop (k * e.n + e.n)).take (l.length * e.n - (k * e.n + e.n)) = (rows e l).drop (k * e.n + e.n) := by rw [← ht, List.drop_take]
    rw [t1]
    have n1 : ((rows e l).take (k * e.n) ++ e.cs z).length = k * e.n + e.n := by rw [List.length_append, List.length_take, hcs, hlr, Nat.min_eq_left (by omega)]
    rw [List.take_append, n1, t2, List.take_of_length_le (by rw [n1]; omega)]
theorem q_sl3 {T : TypeId} {x y z : Operand} {p : Option Addr} {n c : Nat} {i i' : IntKind} (hT : ek_ P T = some e.n) (hx : evO N S x = some (.slice p n c)) (hy : evO N S y = some (.int i (n : Int))) (hz : evO N S z = some (.int i' (n : Int))) (hv : SLe w0 X M e (.slice p n c) l) :
    OpQ P w0 X N ⟨d, .slice T x none (some y) (some z), ty, ps, af, gd⟩ S M (.slice p n n) := by
  intro w hw
  obtain ⟨p', c', h, hc, hm, hp⟩ := hv w hw
  cases h
  refine q_of (w0 := w0) (X := X) (M := M) (fun w hw => ?_) w hw
  obtain ⟨e', q, hu, hi', hs⟩ := ed_ hT
  have hy' : evOpt N S 0 (some y) = some ((l.length : Nat) : Int) := by simp [evOpt, hy]
  have hz' : evOpt N S 0 (some z) = some ((l.length : Nat) : Int) := by simp [evOpt, hz]
  have b1 := fun code => fy_ (P := P) (w := w) (code := code) (y := c) hz' (by omega) (by omega)
  have b2 := fun code => fy_ (P := P) (w := w) (code := code) (y := l.length) hy' (by omega) (by omega)
  simp only [execOp, Instr.sliceAt, Instr.slice, Sem.run_bind, run_underlying hu, aX_ hx, Result.andThen_ok]
  simp [Instr.sliceBounds, b1, b2, sizeOf, typeInfo, hi', hs, Sem.run_bind]
  intro _
  cases p <;> simp [Addr.add]
theorem rM_ {T : TypeId} {x y z : Operand} {n : Nat} {i i' : IntKind} (hT : ek_ P T = some n) (hx : evO N S x = some (.slice none 0 0)) (hy : evO N S y = some (.int i 0)) (hz : evO N S z = some (.int i' 0)) :
    OpQ P w0 X N ⟨d, .slice T x none (some y) (some z), ty, ps, af, gd⟩ S M (.slice none 0 0) := by
  refine q_of (fun w hw => ?_)
  obtain ⟨e', q, hu, hi', hs⟩ := ed_ hT
  have hy' : evOpt N S 0 (some y) = some 0 := by simp [evOpt, hy]
  have hz' : evOpt N S 0 (some z) = some 0 := by simp [evOpt, hz]
  have b1 := fun code => fy_ (P := P) (w := w) (code := code) (y := 0) hz' (by omega) (by omega)
  have b2 := fun code => fy_ (P := P) (w := w) (code := code) (y := 0) hy' (by omega) (by omega)
  simp only [execOp, Instr.sliceAt, Instr.slice, Sem.run_bind, run_underlying hu, aX_ hx, Result.andThen_ok]
  simp [Instr.sliceBounds, b1, b2, sizeOf, typeInfo, hi', hs, Sem.run_bind]
theorem SLe.full {p : Option Addr} {n c : Nat} (h : SLe w0 X M e (.slice p n c) l) (h0 : 0 < n ∨ c = 0) : SLe w0 X M e (.slice p n n) l := fun w hw => by
  obtain ⟨p', c', hq, hc, hm, hp⟩ := h w hw
  cases hq
  refine ⟨p, l.length, rfl, Nat.le_refl _, by omega, ?_⟩
  rcases hp with ⟨rfl, rfl, rfl⟩ | ⟨a, rfl, hr⟩
  · exact .inl ⟨rfl, rfl, rfl⟩
  · exact .inr ⟨a, rfl, hr⟩
theorem nl_ {T E : TypeId} {x y : Operand} {u : Value} {m : List α} {p : Option Addr} {n : Nat} {K : Value → List Blk → Prop} (bytes : Nat) (hT : P.underlying T = some (.slice E)) (hE : tySz P E e.n bytes = true) (h0 : 0 < e.n) (hx : evO N S x = some (.slice p n n)) (hy : evO N S y = some u)
    (hv : SLe w0 X M e (.slice p n n) l) (hn0 : 0 < n) (hu : SLe w0 X M e u m) (hm0 : 0 < m.length) (hn : (l.length + m.length) * bytes ≤ 140737488355328) (h8 : 0 < bytes) (k : ∀ p c L', OwnG w0 E e (.slice p (l ++ m).length c) (l ++ m) L' → K (.slice p (l ++ m).length c) (L' ++ M)) :
    OpR P w0 X N ⟨d, .call { callee := .builtin .append, args := #[x, y], argTypes := #[T, T] }, ty, ps, af, gd⟩ S M K := by
  intro w hw
  unfold tySz at hE
  cases hi : P.info? E with
  | none => simp [hi] at hE
  | some i =>
  cases hz : i.zero with
  | none => simp [hi, hz] at hE
  | some z =>
  simp only [hi, hz, Bool.and_eq_true, beq_iff_eq] at hE
  obtain ⟨⟨h1, hby⟩, hzc⟩ := hE
  obtain ⟨p', c', hq, hc, hm, hp⟩ := hv w hw
  cases hq
  rcases hp with ⟨_, rfl, _⟩ | ⟨b, rfl, hb⟩
  · simp at hn0
  obtain ⟨q, cu, rfl, hcu, hmu, hqu⟩ := hu w hw
  rcases hqu with ⟨_, rfl, _⟩ | ⟨a, rfl, hr⟩
  · simp at hm0
  have hlen : l.length + m.length ≤ 140737488355328 := Nat.le_trans (Nat.le_mul_of_pos_right _ h8) hn
  obtain ⟨v', w', hrun, ho, hg⟩ := run_append_arg_grows (P := P) w T ty E i z e.n bytes hT hi hz h1 hby hzc h0 b l.length l.length (rows e l) (dx_ l) (fun j u hj => hb j u hj) a m.length cu (rows e m) (dx_ m) (fun j u hj => hr j u hj) (by omega) (by unfold maxLen; omega) hn
  unfold opw
  have hex : (execOp (ev N S) ⟨d, .call { callee := .builtin .append, args := #[x, y], argTypes := #[T, T] }, ty, ps, af, gd⟩).run P w = .ok (.value v') w' := by
    simp [execOp, resolve, invoke, builtin, aX_ hx, aX_ hy, hrun]
  rw [d5_, hex]
  have hext : Ext w w' := ⟨hg.os, hg.tape, hg.output, hg.size, fun k hk => hg.block k hk (by simp)⟩
  have hw' : Sat w0 X M w' := Sat.mono _ _ _ _ _ hw hext
  rcases ho.2 with ⟨rfl, hz0⟩ | ⟨g, cap, cur, rfl, hbg, hcell, hnc, hcm, hcs, htk⟩
  · omega
  · have hgn : g ∉ M.map Blk.b := by
      intro hmm
      obtain ⟨y, hy, hyb⟩ := List.mem_map.1 hmm
      have := bP_? (hw.mem y hy)
      omega
    have e1 : (l ++ m).length = l.length + m.length := List.length_append
    refine ⟨Ext.keeps hext, [⟨g, E, cur.toList⟩] ++ M, ⟨hw'.os, hw'.tape, hw'.output, hw'.size, hw'.old, by simpa using And.intro (by simpa using hgn) hw'.nodup, fun y hy => ?_⟩, ?_⟩
    · rcases List.mem_cons.1 hy with rfl | hy
      · simpa using hcell
      · exact hw'.mem y hy
    · have := k (some ⟨g, 0, none⟩) cap [⟨g, E, cur.toList⟩] (.inr ⟨g, cap, cur.toList, rfl, rfl, Nat.le_trans hw.size hbg, by rw [e1]; exact hnc, hcm, by simpa using hcs, by rw [e1, eT_]; exact htk⟩)
      rw [e1] at this; exact this
end
end Go.Kn

set_option linter.unusedVariables false
set_option linter.unusedSimpArgs false
namespace Go.Num
open Go Go.Kn
def Z.nat (z : Z) : Nat := match z.o with | some v => v.natAbs | none => 0
def Z.half (z : Z) : Z := lift1 (fun v => Z.of (v / 2)) z
/-- a root, bit by bit -/
def sqb : Nat → Nat → Nat → Nat
  | 0, _, r => r
  | k + 1, v, r => bif decide (v < (r + 2 ^ k) * (r + 2 ^ k)) then sqb k v r else sqb k v (r + 2 ^ k)
def isqrt (v : Nat) : Nat := sqb 256 v 0
def Z.sqrt (z : Z) : Z := lift1 (fun v => bif decide (v < 0) then Z.bad else Z.of ((isqrt v.toNat : Nat) : Int)) z
theorem jF_ : ∀ (k v r : Nat), r * r ≤ v → v < (r + 2 ^ k) * (r + 2 ^ k) → sqb k v r * sqb k v r ≤ v ∧ v < (sqb k v r + 1) * (sqb k v r + 1)
  | 0, v, r, h1, h2 => ⟨h1, h2⟩
  | k + 1, v, r, h1, h2 => by
    unfold sqb
    by_cases h : v < (r + 2 ^ k) * (r + 2 ^ k)
    · rw [decide_eq_true h, cond_true]; exact jF_ k v r h1 h
    · rw [decide_eq_false h, cond_false]
      refine jF_ k v (r + 2 ^ k) (by omega) ?_
      rw [Nat.add_assoc, ← Nat.two_mul, Nat.mul_comm 2, ← Nat.pow_succ]; exact h2
theorem ng_ {v k m : Nat} (hm : 4294967296 ^ 16 = 2 ^ m) (hk : m = k + k) (h : v < 4294967296 ^ 16) : v < (0 + 2 ^ k) * (0 + 2 ^ k) := by
  rw [Nat.zero_add, ← Nat.pow_add, ← hk, ← hm]; exact h
theorem eW_ {v : Nat} (h : v < 4294967296 ^ 16) : isqrt v * isqrt v ≤ v ∧ v < (isqrt v + 1) * (isqrt v + 1) := jF_ 256 v 0 (Nat.zero_le _) (ng_ js_ rfl h)
theorem kz_ {a b : Nat} (h : a < b) : (a + 1) * (a + 1) ≤ b * b := Nat.mul_le_mul h h
theorem mN_ {v r s : Nat} (h1 : r * r ≤ v) (h2 : v < (r + 1) * (r + 1)) (h3 : s * s ≤ v) (h4 : v < (s + 1) * (s + 1)) : r = s := by
  rcases Nat.lt_trichotomy r s with h | h | h
  · have := kz_ h; omega
  · exact h
  · have := kz_ h; omega
theorem mm_ {v r : Nat} (h : v < 4294967296 ^ 16) (h1 : r * r ≤ v) (h2 : v < (r + 1) * (r + 1)) : r = isqrt v := mN_ h1 h2 (eW_ h).1 (eW_ h).2
theorem val_B {a : R} (ha : a.Ok) : val a.w < 4294967296 ^ 16 := by have := gw_ a.w ha.lim; rwa [ha.len] at this
theorem j5_ {a : R} (ha : a.Ok) (ga : a.good = true) (hn : a.neg = false) {r : Nat} (h1 : r * r ≤ val a.w) (h2 : val a.w < (r + 1) * (r + 1)) : Z.of (sgn false r) = Z.sqrt a.dec := by
  unfold Z.sqrt
  rw [cN_ (aU_ ha ga), hn]
  have e : sgn false (val a.w) = ((val a.w : Nat) : Int) := rfl
  rw [e, decide_eq_false (by omega), cond_false, Int.toNat_natCast, ← mm_ (val_B ha) h1 h2]; rfl
theorem k7_ {a : R} (ha : a.Ok) (ga : a.good = true) (hn : a.neg = true) : Z.sqrt a.dec = Z.bad := by
  unfold Z.sqrt
  rw [cN_ (aU_ ha ga), hn]
  have h0 : val a.w ≠ 0 := fun h => by
    have := ga
    unfold R.good R.valid at this
    simp [hn, R.zero] at this
    exact this.2 h
  have e : sgn true (val a.w) = -((val a.w : Nat) : Int) := rfl
  rw [e, decide_eq_true (by omega)]; rfl
theorem lS_ {a : R} (ga : a.good = false) : Z.sqrt a.dec = Z.bad := by
  unfold Z.sqrt R.dec
  rw [if_neg (by simp [ga])]; rfl
theorem oc_ {a : R} (ha : a.Ok) (ga : a.good = true) (hn : a.neg = false) : R.mk false false (toL 16 (val a.w / 2 ^ 1)) = (Z.half a.dec).enc := by
  unfold Z.half
  rw [cN_ (aU_ ha ga), hn]
  have e : sgn false (val a.w) / 2 = sgn false (val a.w / 2 ^ 1) := by
    show ((val a.w : Nat) : Int) / 2 = ((val a.w / 2 ^ 1 : Nat) : Int)
    omega
  rw [e]
  exact dR_ false (Nat.lt_of_le_of_lt (Nat.div_le_self _ _) (val_B ha))
theorem oS_ {a : R} (ga : a.good = false) : Z.half a.dec = Z.bad := by
  unfold Z.half R.dec
  rw [if_neg (by simp [ga])]; rfl
theorem ni_ {a : R} (ha : a.Ok) (ga : a.good = true) (hn : a.neg = false) (hs : a.dec.sign = 0) : a = (Z.half a.dec).enc := by
  have hv : sgn false (val a.w) = 0 := by
    unfold Z.sign at hs
    rw [aU_ ha ga, hn] at hs
    exact Int.sign_eq_zero_iff_zero.1 hs
  unfold Z.half
  rw [cN_ (aU_ ha ga), hn, hv]
  have e : a.dec = Z.of 0 := by
    unfold R.dec
    rw [if_pos ga, hn, hv]
  have := (jQ_ ha ga).symm
  rw [e] at this; exact this
theorem n1_ {a : R} (h : a.Ok) : (uw (List.replicate 16 0)).take 0 ++ (a.cells.drop 2).take 16 ++ (uw (List.replicate 16 0)).drop 16 = uw a.w := by
  have e1 : a.cells.drop 2 = uw a.w := rfl
  have e2 : (uw a.w).length = 16 := by rw [cF_, h.len]
  have e3 : (uw (List.replicate 16 0)).drop 16 = [] := rfl
  rw [e1, List.take_of_length_le (l := uw a.w) (by omega), e3, List.take_zero, List.nil_append, List.append_nil]
theorem oZ_ {n : Nat} (h : n ≤ 32) : IntKind.i64.wrap (IntKind.i64.wrap (8 * (n : Int)) + 7) = ((8 * n + 8 : Nat) : Int) - 1 := by
  rw [wi (n := 8 * (n : Int)) (by omega), wi (by omega)]; omega
theorem sl_ {a k : Nat} (h : a < 65536 ^ k) : a < (0 + 2 ^ (8 * k + 8)) * (0 + 2 ^ (8 * k + 8)) := by
  rw [Nat.zero_add, ← Nat.pow_add]
  rw [show (65536 : Nat) = 2 ^ 16 from rfl, ← Nat.pow_mul] at h
  exact Nat.lt_of_lt_of_le h (Nat.pow_le_pow_right (by decide) (by omega))
theorem rg_ {v r k : Nat} (h2 : v < (r + 2 ^ (k + 1)) * (r + 2 ^ (k + 1))) : v < (r + 2 ^ k + 2 ^ k) * (r + 2 ^ k + 2 ^ k) := by
  rw [Nat.add_assoc, ← Nat.two_mul, Nat.mul_comm 2, ← Nat.pow_succ]; exact h2
theorem nn_ {v r : Nat} (h : r * r ≤ v) (hv : v < 4294967296 ^ 16) : r < 65536 ^ 16 := by
  rcases Nat.lt_or_ge r (65536 ^ 16) with h1 | h1
  · exact h1
  · exfalso
    have h2 := Nat.mul_le_mul h1 h1
    have h3 : (65536 : Nat) ^ 16 * 65536 ^ 16 = 4294967296 ^ 16 := by rw [← Nat.mul_pow]
    omega
theorem qe_ (k : Nat) (hk : k = 17) {m : Nat} (h : m ≤ 264) : 2 ^ m < 65536 ^ k := by
  rw [show (65536 : Nat) = 2 ^ 16 from rfl, ← Nat.pow_mul]
  exact Nat.pow_lt_pow_right (by decide) (by omega)
theorem pg_ {m : Nat} (h : m ≤ 264) : 2 ^ m < 65536 ^ 17 := qe_ 17 rfl h
theorem o6_ {r m : Nat} (h : r < 65536 ^ 16) (h2 : 2 ^ m < 65536 ^ 17) : r + 2 ^ m < 65536 ^ 18 := by
  generalize 2 ^ m = q at *
  have h3 : (65536 : Nat) ^ 16 ≤ 65536 ^ 17 := Nat.pow_le_pow_right (by decide) (by decide)
  have h4 : (65536 : Nat) ^ 17 * 2 ≤ 65536 ^ 18 := by rw [Nat.pow_succ 65536 17]; exact Nat.mul_le_mul_left _ (by decide)
  omega
theorem qv_ {r : Nat} (h : r < 65536 ^ 18) : r * r < 65536 ^ 36 := by
  rw [show (36 : Nat) = 18 + 18 from rfl, Nat.pow_add]
  exact Nat.mul_lt_mul_of_lt_of_le h (Nat.le_of_lt h) (Nat.pow_pos (by decide))
end Go.Num

namespace Go.Num
open Go Go.Kn
theorem neI_f {a b : Int} (h : (a != b) = false) : a = b := by simpa using h
theorem neI_t {a b : Int} (h : (a != b) = true) : a ≠ b := by simpa using h
theorem rD_ {A B : Prop} [Decidable A] [Decidable B] (h : (decide A && decide B) = true) : A ∧ B := by simpa using h
theorem rV_ {A B : Prop} [Decidable A] [Decidable B] (h : (decide A && decide B) = false) : ¬ (A ∧ B) := by
  intro h2
  rw [decide_eq_true h2.1, decide_eq_true h2.2] at h; cases h
theorem trs {α : Type} {a b c : α} (h2 : b = c) (h1 : a = b) : a = c := h1.trans h2
theorem apS {σ β : Type} {f : σ → β} {x s : σ} (h : x = s) : ap f x = f s := by rw [h]; rfl
theorem smS {σ ρ β : Type} {f : σ → β} {g : ρ → β} {x : σ ⊕ ρ} {s : σ} (h : x = .inl s) : sm f g x = f s := by rw [h]; rfl
theorem k4_ {x : Int} (h : (x != 0) = false) : decide (0 ≤ x) = true := by
  have : x = 0 := by simpa using h
  rw [this]; rfl
structure Edg where
  l : List (A3 Rt)
  e : W
structure Pts where
  l : List Rt
  is : Bool
end Go.Num

