/- Appending to a list of our own, wherever its block stands among those that we hold. No program stands in it. Lists as results; lists of our own: elements are stored, prefixes with no room behind them are appended to. No program stands in it. Halves and square roots of whole numbers. No program stands in it. Structures with lists: the edges of a pyramid, multipliers. No program stands in it. Function values handed on; lists made, cut and stored into; exact indices. No program stands in it. Structures of polynomials; conversions. No program stands in it. Closed facts of the program's types and functions. What these functions compute, as plain functions. No program stands in it. -/
import Derived.Test.YtjdfogfmeibkgaaGreatQGD
import Derived.ArgAppend
import Derived.Test.YtjdfogfmeibkgaaGreatProg
set_option linter.unusedVariables false
set_option linter.unusedSimpArgs false
namespace Go.Kn
open Go
/-- M is L and R, in some order. -/
def Frq (M L R : List Blk) : Prop := M.Perm (L ++ R)
theorem fq_b {x : Blk} {R : List Blk} : Frq (x :: R) [x] R := List.Perm.refl _
theorem fq_l {L R : List Blk} : Frq (L ++ R) L R := List.Perm.refl _
theorem fq_s {x : Blk} {R L R' : List Blk} (h : Frq R L R') : Frq (x :: R) L (x :: R') := (List.Perm.cons x h).trans List.perm_middle.symm
theorem fq_sl {L2 R L R' : List Blk} (h : Frq R L R') : Frq (L2 ++ R) L (L2 ++ R') := by
  have h1 : (L2 ++ R).Perm (L2 ++ (L ++ R')) := List.Perm.append_left L2 h
  have h2 : (L2 ++ (L ++ R')).Perm (L ++ (L2 ++ R')) := by
    rw [← List.append_assoc, ← List.append_assoc]
    exact List.Perm.append_right R' List.perm_append_comm
  exact h1.trans h2
theorem Sat.perm {w0 w : World} {X : List Nat} {M M' : List Blk} (h : Sat w0 X M w) (p : M.Perm M') : Sat w0 X M' w :=
  ⟨h.os, h.tape, h.output, h.size, h.old, (p.map Blk.b).nodup_iff.1 h.nodup, fun x hx => h.mem x (p.mem_iff.2 hx)⟩
theorem OwnG.lit {α : Type} {e : El α} {w0 : World} {l : List α} {E : TypeId} {b n : Nat} {qs : List Part} (hb : w0.heap.size ≤ b) (hn : l.length = n) (hm : n ≤ maxLen) (hq : qs = l.flatMap e.ps) : OwnG w0 E e (.slice (some ⟨b, 0, none⟩) n n) l [⟨b, E, flat qs⟩] :=
  OwnG.of_mine hb hn hm (by rw [hq]; exact hk_ l)
theorem m8_ {α : Type} {e : El α} {P : Program} {w0 : World} {X : List Nat} {N : Nm} {S : Fr} {M : List Blk} {d : Option Tmp} {ty : TypeId} {ps : String} {af : Array Edge} {gd : Option (Nat × Bool)} {v : Value} {l : List α}
    {T E : TypeId} {x y : Operand} {u : Value} {m : List α} {L M1 : List Blk} {K : Value → List Blk → Prop} (bytes : Nat) (hT : P.underlying T = some (.slice E)) (hE : tySz P E e.n bytes = true) (h0 : 0 < e.n) (hx : evO N S x = some v) (hy : evO N S y = some u)
    (hv : OwnG w0 E e v l L) (hu : SLe w0 X M e u m) (hs : Frq M L M1) (hn : (l.length + m.length) * bytes ≤ 140737488355328) (h8 : 0 < bytes) (k : ∀ v' L', OwnG w0 E e v' (l ++ m) L' → K v' (L' ++ M1)) :
    OpR P w0 X N ⟨d, .call { callee := .builtin .append, args := #[x, y], argTypes := #[T, T] }, ty, ps, af, gd⟩ S M K := fun w hw =>
  mS_ (M := L ++ M1) hT hE h0 hx hy hv (fun w hw => hu w (hw.perm (List.Perm.symm hs))) (List.Sublist.refl _) hn h8 k w (hw.perm hs)
end Go.Kn

set_option linter.unusedVariables false
set_option linter.unusedSimpArgs false
namespace Go.Kn
open Go
section
variable {α : Type} {e : El α} {P : Program} {w0 : World} {X : List Nat} {N : Nm} {S : Fr} {M M' : List Blk} {d : Option Tmp} {ty : TypeId} {ps : String} {af : Array Edge} {gd : Option (Nat × Bool)} {v : Value} {l : List α}
theorem OpR.perm {o : Oper} {K : Value → List Blk → Prop} (p : M.Perm M') (h : OpR P w0 X N o S M' K) : OpR P w0 X N o S M K := fun w hw => h w (hw.perm p)
theorem OwnG.form {E : TypeId} {L : List Blk} (h : OwnG w0 E e v l L) : ∃ p c, v = .slice p l.length c := by
  rcases h with ⟨rfl, rfl, rfl⟩ | ⟨g, cap, cur, rfl, _⟩
  · exact ⟨none, 0, rfl⟩
  · exact ⟨_, _, rfl⟩
theorem SLfe.max (h : SLfe w0 M e v l) : l.length ≤ 9223372036854775807 := by
  obtain ⟨p, c, hv, hc, hm, _⟩ := h
  unfold maxLen at hm; omega
theorem SLfe.lit {b n : Nat} {T : TypeId} {qs : List Part} (hB : w0.heap.size ≤ b) (h : (⟨b, T, flat qs⟩ : Blk) ∈ M) (hn : l.length = n) (hm : n ≤ maxLen) (hq : qs = l.flatMap e.ps) : SLfe w0 M e (.slice (some ⟨b, 0, none⟩) n n) l :=
  SLfe.mine hB h hn (Nat.le_refl _) hm (by rw [← hn, List.take_of_length_le, hq, hk_]; rw [hq, hk_, cr_]; exact Nat.le_refl _)
theorem dN_ {T E : TypeId} {x y : Operand} {u : Value} {m : List α} {L M1 : List Blk} {K : Value → List Blk → Prop} (bytes : Nat) (hT : P.underlying T = some (.slice E)) (hE : tySz P E e.n bytes = true) (h0 : 0 < e.n) (hx : evO N S x = some v) (hy : evO N S y = some u)
    (hv : OwnG w0 E e v l L) (hu : SLe w0 X M e u m) (hs : Frq M L M1) (hn : (l.length + m.length) * bytes ≤ 140737488355328) (h8 : 0 < bytes) (k : ∀ p c L', OwnG w0 E e (.slice p (l ++ m).length c) (l ++ m) L' → K (.slice p (l ++ m).length c) (L' ++ M1)) :
    OpR P w0 X N ⟨d, .call { callee := .builtin .append, args := #[x, y], argTypes := #[T, T] }, ty, ps, af, gd⟩ S M K :=
  m8_ bytes hT hE h0 hx hy hv hu hs hn h8 fun v' L' h => by
    obtain ⟨p, c, rfl⟩ := h.form
    exact k p c L' h
theorem oa_ {k : Nat} {z : α} (hk : k < l.length) : (rows e l).take (k * e.n) ++ e.cs z ++ (rows e l).drop (k * e.n + e.n) = rows e (l.set k z) := by
  rw [gl_, show k * e.n + e.n = (k + 1) * e.n by rw [Nat.succ_mul], jA_, List.set_eq_take_append_cons_drop, if_pos hk, ez_]
  simp [rows]
theorem nT_ {T E : TypeId} {x y : Operand} {g : Bool} {k m : Nat} {z : α} {u : Value} {L M1 : List Blk} {K : Value → List Blk → Prop} (hT : tyOf P T = some (g, e.n)) (hx : evO N S x = some (.pointer (some (slb v m)))) (hm : m = k * e.n) (hv : OwnG w0 E e v l L) (hk : k < l.length)
    (hs : Frq M L M1) (hy0 : evO N S y = some u) (hy : u.cells = (flat (e.ps z)).toArray) (kk : ∀ L', OwnG w0 E e v (l.set k z) L' → K undef (L' ++ M1)) : OpR P w0 X N ⟨d, .store T x y, ty, ps, af, gd⟩ S M K := by
  subst hm
  rcases hv with ⟨rfl, rfl, rfl⟩ | ⟨g', cap, cur, rfl, rfl, hg, hc, hmx, hl, ht⟩
  · simp at hk
  have hx' : evO N S x = some (.pointer (some ⟨g', k * e.n, none⟩)) := by rw [hx]; simp [slb, du_]
  have e1 : l.length * e.n ≤ cap * e.n := Nat.mul_le_mul_right _ hc
  have e2 : (k + 1) * e.n ≤ l.length * e.n := Nat.mul_le_mul_right _ (by omega)
  rw [Nat.succ_mul] at e2
  have hcs : (e.cs z).length = e.n := El.cs_len z
  have hcur : cur = rows e l ++ cur.drop (l.length * e.n) := by rw [← ht, List.take_append_drop]
  have hlr := cr_ (e := e) l
  refine OpR.perm hs (iC_ (U := E) (cs := cur) (vs := e.cs z) (M' := ⟨g', E, cur.take (k * e.n) ++ e.cs z ++ cur.drop (k * e.n + e.n)⟩ :: M1) hT hx' (.head _) hy0 hy hcs (fun v h => El.cs_plain z v h) (by omega) rfl (.inl hg) ?_)
  refine kk [⟨g', E, cur.take (k * e.n) ++ e.cs z ++ cur.drop (k * e.n + e.n)⟩] (.inr ⟨g', cap, _, by rw [List.length_set], rfl, hg, by rw [List.length_set]; exact hc, hmx, ?_, ?_⟩)
  · rw [List.length_append, List.length_append, List.length_take, List.length_drop, hcs, hl, Nat.min_eq_left (by omega)]; omega
  · rw [List.length_set, ← oa_ hk]
    have t1 : cur.take (k * e.n) = (rows e l).take (k * e.n) := by rw [← ht, List.take_take, Nat.min_eq_left (by omega)]
    have t2 : (cur.drop (k * e.n + e.n)).take (l.length * e.n - (k * e.n + e.n)) = (rows e l).drop (k * e.n + e.n) := by rw [← ht, List.drop_take]
    rw [t1]
    have n1 : ((rows e l).take (k * e.n) ++ e.cs z).length = k * e.n + e.n := by rw [List.length_append, List.length_take, hcs, hlr, Nat.min_eq_left (by omega)]
    rw [List.take_append, n1, t2, List.take_of_length_le (by rw [n1]; omega)]
end
end Go.Kn

set_option linter.unusedVariables false
set_option linter.unusedSimpArgs false
namespace Go.Num
open Go Go.Kn
end Go.Num

namespace Go.Num
open Go Go.Kn
theorem neI_f {a b : Int} (h : (a != b) = false) : a = b := by simpa using h
theorem neI_t {a b : Int} (h : (a != b) = true) : a ≠ b := by simpa using h
theorem trs {α : Type} {a b c : α} (h2 : b = c) (h1 : a = b) : a = c := h1.trans h2
theorem apS {σ β : Type} {f : σ → β} {x s : σ} (h : x = s) : ap f x = f s := by rw [h]; rfl
theorem smS {σ ρ β : Type} {f : σ → β} {g : ρ → β} {x : σ ⊕ ρ} {s : σ} (h : x = .inl s) : sm f g x = f s := by rw [h]; rfl
structure Edg where
  l : List (A3 Rt)
  e : W
structure Pts where
  l : List Rt
  is : Bool
end Go.Num

set_option linter.unusedVariables false
set_option linter.unusedSimpArgs false
namespace Go.Kn
open Go Go.Num
/-- In w and all that follows, v is a function that returns out x for enc x, where dom x holds. -/
def FnV {α : Type} (P : Program) (w : World) (v : Value) (enc : α → List Value) (dom : α → Prop) (out : α → Value) : Prop :=
  ∃ g cap, v = .func (.func g) #[] cap.toArray ∧ al_ P g = true ∧ ∀ w', Ext w w' → ∀ x, dom x → Calls P g (enc x ++ cap).toArray w' fun e w'' => e = .returned (out x) ∧ Ext w' w''
/-- So it is in all worlds that fit. -/
def FnE {α : Type} (P : Program) (w0 : World) (X : List Nat) (M : List Blk) (g : Nat) (cap : List Value) (enc : α → List Value) (dom : α → Prop) (out : α → Value) : Prop :=
  al_ P g = true ∧ ∀ w, Sat w0 X M w → ∀ x, dom x → Calls P g (enc x ++ cap).toArray w fun e w'' => e = .returned (out x) ∧ Ext w w''
section
variable {α : Type} {P : Program} {w0 : World} {X : List Nat} {N : Nm} {S : Fr} {M M' : List Blk} {d : Option Tmp} {ty : TypeId} {ps : String} {af : Array Edge} {gd : Option (Nat × Bool)} {enc : α → List Value} {dom : α → Prop} {out : α → Value} {g : Nat} {cap : List Value}
theorem FnV.open {w : World} {v : Value} (h : FnV P w v enc dom out) : ∃ g cap, v = .func (.func g) #[] cap.toArray ∧ FnE P w [] [] g cap enc dom out := by
  obtain ⟨g, cap, hv, he, hc⟩ := h
  exact ⟨g, cap, hv, he, fun w' hw' x hx => hc w' hw'.ext x hx⟩
theorem FnV.mk {w : World} (hw : Sat w0 X M w) (he : al_ P g = true) (h : ∀ w, Sat w0 X M w → ∀ x, dom x → Calls P g (enc x ++ cap).toArray w fun e w'' => e = .returned (out x) ∧ Ext w w'') : FnV P w (.func (.func g) #[] cap.toArray) enc dom out :=
  ⟨g, cap, rfl, he, fun w' hx x hd => h w' (Sat.mono _ _ _ _ _ hw hx) x hd⟩
theorem FnE.sub (h : FnE P w0 X M g cap enc dom out) (hs : M.Sublist M') : FnE P w0 X M' g cap enc dom out := ⟨h.1, fun w hw => h.2 w (hw.sub hs)⟩
theorem FnE.ap {w : World} (hw : Sat w0 X M w) (h : FnE P w0 X M g cap enc dom out) : FnV P w (.func (.func g) #[] cap.toArray) enc dom out := FnV.mk hw h.1 h.2
theorem FnV.get {w : World} (h : FnV P w (.func (.func g) #[] cap.toArray) enc dom out) : FnE P w [] [] g cap enc dom out := by
  obtain ⟨g', cap', hv, he⟩ := h.open
  have e1 : g = g' ∧ cap = cap' := by simpa using hv
  obtain ⟨rfl, rfl⟩ := e1
  exact he
theorem q_fn {f : Operand} {xs : List Operand} {tys : Array TypeId} (x : α) (hf : evO N S f = some (.func (.func g) #[] cap.toArray)) (ha : evL N S xs = some (enc x)) (h : FnE P w0 X M g cap enc dom out) (hx : dom x) :
    OpQ P w0 X N ⟨d, .call { callee := .value f, args := xs.toArray, argTypes := tys }, ty, ps, af, gd⟩ S M (out x) :=
  pr_ (first := []) (cap := cap) (args := enc x) h.1 hf ha fun w hw => by simpa using h.2 w hw x hx
end
abbrev eN (k : Nat) : List Value := [.int .i64 ((k : Nat) : Int)]
abbrev eW (k : Num.W) : List Value := [.int .i64 k.1]
abbrev eI (x : I) : List Value := [AV [pI x]]
abbrev eII (x : I × I) : List Value := [AV [pI x.1], AV [pI x.2]]
abbrev eRt (x : Rt) : List Value := [AV [pI x.n, pI x.d]]
abbrev outI {α : Type} (f : α → I) (x : α) : Value := AV [pI (f x)]
abbrev outW {α : Type} (f : α → Num.W) (x : α) : Value := .int .i64 (f x).1
abbrev outB {α : Type} (f : α → Bool) (x : α) : Value := .bool (f x)
theorem cvE {t : Int} (h : -9223372036854775808 ≤ t ∧ t ≤ 9223372036854775807) : (W.cv t).1 = t := by
  show IntKind.i64.wrap t = t
  exact wi h
section
variable {α : Type} {e : El α} {P : Program} {w0 : World} {X : List Nat} {N : Nm} {S : Fr} {M M' : List Blk} {d : Option Tmp} {ty : TypeId} {ps : String} {af : Array Edge} {gd : Option (Nat × Bool)} {v : Value} {l : List α}
theorem Slr.form {w : World} (h : Slr w e v l) : ∃ p c, v = .slice p l.length c := by
  obtain ⟨p, c, hv, _⟩ := h
  exact ⟨p, c, hv⟩
/-- An element whose index is told exactly. -/
theorem c4_ {T : TypeId} {x y : Operand} {k : Nat} {i : IntKind} {t : Int} (hT : c5_ P T = some e.n) (hx : evO N S x = some v) (hy : evO N S y = some (.int i t)) (ht : t = (k : Int)) (hv : SLe w0 X M e v l) (hk : k < l.length) :
    OpQ P w0 X N ⟨d, .indexAddr T x y, ty, ps, af, gd⟩ S M (.pointer (some (slb v (k * e.n)))) := by
  subst ht; exact cp_ hT hx hy hv hk
theorem OwnG.take {E : TypeId} {p : Option Addr} {n c : Nat} {L : List Blk} (h : OwnG w0 E e (.slice p n c) l L) {k : Nat} (hk : k ≤ l.length) : OwnG w0 E e (.slice p (l.take k).length c) (l.take k) L := by
  have hl : (l.take k).length = k := by rw [List.length_take, Nat.min_eq_left hk]
  rcases h with ⟨h, rfl, rfl⟩ | ⟨g, cap, cur, h, rfl, hg, hc, hm, hn, ht⟩
  · cases h
    obtain rfl : k = 0 := by simpa using hk
    exact .inl ⟨rfl, rfl, rfl⟩
  · cases h
    refine .inr ⟨g, c, cur, rfl, rfl, hg, by omega, hm, hn, ?_⟩
    rw [hl, ← gl_, ← ht, List.take_take, Nat.min_eq_left (Nat.mul_le_mul_right _ hk)]
theorem l9_ {T E : TypeId} {x y : Operand} {k n c : Nat} {i : IntKind} {t : Int} {p : Option Addr} {L : List Blk} (hT : c5_ P T = some e.n) (hx : evO N S x = some (.slice p n c)) (hy : evO N S y = some (.int i t)) (ht : t = (k : Int)) (hv : OwnG w0 E e (.slice p n c) l L) (hk : k ≤ l.length) :
    OpQ P w0 X N ⟨d, .slice T x none (some y) none, ty, ps, af, gd⟩ S M (.slice p (l.take k).length c) := by
  subst ht
  have hl : (l.take k).length = k := by rw [List.length_take, Nat.min_eq_left hk]
  rw [hl]
  have hn : n = l.length ∧ l.length ≤ c := by
    rcases hv with ⟨h, rfl, rfl⟩ | ⟨g, cap, cur, h, rfl, hg, hc, hm, hn, ht⟩
    · cases h; exact ⟨rfl, Nat.le_refl _⟩
    · cases h; exact ⟨rfl, hc⟩
  refine q_of (w0 := w0) (X := X) (M := M) (fun w hw => ?_)
  obtain ⟨e', q, hu, hi', hs⟩ := dF_ hT
  have hb := gP_ (P := P) (N := N) (S := S) (w := w) (isSl := true) (len := n) (cap := c) (lo := none) (hi := some y) (l := 0) (h := (k : Int)) rfl (by simp [evOpt, hy]) (by omega) (by omega) (by omega)
  simp only [Option.map_none, Option.map_some] at hb
  simp only [execOp, Instr.sliceAt, Instr.slice, Sem.run_bind, run_underlying hu, au_ hx, Result.andThen_ok]
  simp only [Option.map_none, Option.map_some, hb, Result.andThen_ok, sizeOf, typeInfo, Sem.run_bind, run_program, hi', hs, Sem.run_pure]
  cases p <;> simp [Addr.add]
/-- M is L and what f puts around it. -/
def Rpl (M L : List Blk) (f : List Blk → List Blk) : Prop := ∃ R, Frq M L R ∧ ∀ L', (L' ++ R).Perm (f L')
theorem rp_l {L R : List Blk} : Rpl (L ++ R) L (fun L' => L' ++ R) := ⟨R, fq_l, fun _ => List.Perm.refl _⟩
theorem rp_s {x : Blk} {R L : List Blk} {f : List Blk → List Blk} (h : Rpl R L f) : Rpl (x :: R) L (fun L' => x :: f L') := by
  obtain ⟨R', h1, h2⟩ := h
  exact ⟨x :: R', fq_s h1, fun L' => List.perm_middle.trans (List.Perm.cons x (h2 L'))⟩
theorem rp_sl {K R L : List Blk} {f : List Blk → List Blk} (h : Rpl R L f) : Rpl (K ++ R) L (fun L' => K ++ f L') := by
  obtain ⟨R', h1, h2⟩ := h
  refine ⟨K ++ R', fq_sl h1, fun L' => ?_⟩
  have h3 : (L' ++ (K ++ R')).Perm (K ++ (L' ++ R')) := by
    rw [← List.append_assoc, ← List.append_assoc]
    exact List.Perm.append_right R' List.perm_append_comm
  exact h3.trans (List.Perm.append_left K (h2 L'))
theorem gh_ {T E : TypeId} {x y : Operand} {g : Bool} {k m : Nat} {z : α} {u : Value} {L : List Blk} {f : List Blk → List Blk} {K : Value → List Blk → Prop} (hT : tyOf P T = some (g, e.n)) (hx : evO N S x = some (.pointer (some (slb v m)))) (hm : m = k * e.n) (hv : OwnG w0 E e v l L) (hk : k < l.length)
    (hs : Rpl M L f) (hy0 : evO N S y = some u) (hy : u.cells = (flat (e.ps z)).toArray) (kk : ∀ L', OwnG w0 E e v (l.set k z) L' → K undef (f L')) : OpR P w0 X N ⟨d, .store T x y, ty, ps, af, gd⟩ S M K := by
  obtain ⟨R, h1, h2⟩ := hs
  intro w hw
  have h := nT_ (w0 := w0) (X := X) (M := M) (d := d) (ty := ty) (ps := ps) (af := af) (gd := gd) (K := fun u M' => ∃ M2, M'.Perm M2 ∧ K u M2) hT hx hm hv hk h1 hy0 hy (fun L' ho => ⟨f L', h2 L', kk L' ho⟩) w hw
  refine fM_ ?_ h
  rintro u w' ⟨hk', M', hs', M2, hp, hK⟩
  exact ⟨hk', M2, hs'.perm hp, hK⟩
theorem OwnG.len {E : TypeId} {p : Option Addr} {n c : Nat} {L : List Blk} (h : OwnG w0 E e (.slice p n c) l L) : n = l.length := by
  rcases h with ⟨h, rfl, rfl⟩ | ⟨g, cap, cur, h, _⟩
  · cases h; rfl
  · cases h; rfl
theorem mQ_ (x0 : α) (h0 : 0 < e.n) (c : Nat) : madeCells (e.cs x0).toArray (c * e.n) = (rows e (List.replicate c x0)).toArray := by
  apply Array.ext
  · rw [size_madeCells, List.size_toArray, cr_, List.length_replicate]
  · intro i h1 h2
    have hlen : (e.cs x0).length = e.n := El.cs_len x0
    rw [size_madeCells] at h1
    have hq : i / e.n < c := Nat.div_lt_of_lt_mul (by rw [Nat.mul_comm]; exact h1)
    have hr : i % e.n < e.n := Nat.mod_lt _ h0
    have hk : (List.replicate c x0)[i / e.n]? = some x0 := by rw [List.getElem?_replicate, if_pos hq]
    have hg := kR_ (e := e) hk
    have h3 : (rows e (List.replicate c x0))[i]? = some ((e.cs x0)[i % e.n]'(by omega)) := by
      have h4 : (((rows e (List.replicate c x0)).drop (i / e.n * e.n)).take e.n)[i % e.n]? = some ((e.cs x0)[i % e.n]'(by omega)) := by rw [hg]; exact List.getElem?_eq_getElem _
      rw [List.getElem?_take_of_lt hr, List.getElem?_drop, Nat.div_add_mod' i e.n] at h4
      exact h4
    have h5 : (rows e (List.replicate c x0)).toArray[i]? = some ((e.cs x0)[i % e.n]'(by omega)) := by simpa using h3
    rw [Array.getElem?_eq_getElem h2] at h5
    rw [Option.some.inj h5]
    simp only [madeCells, Array.getElem_map, Array.getElem_range, List.size_toArray, hlen]
    rw [getElem!_pos (e.cs x0).toArray (i % e.n) (by rw [List.size_toArray, hlen]; exact hr)]
    simp
theorem j2_ {T E : TypeId} {x y : Operand} {n c : Nat} {i j : IntKind} {s t : Int} {K : Value → List Blk → Prop} (bytes : Nat) (x0 : α) (hT : P.underlying T = some (.slice E)) (hE : tySz P E e.n bytes = true) (h0 : 0 < e.n) (hz : dq_ P E = some (e.cs x0)) (hx : evO N S x = some (.int i s)) (hy : evO N S y = some (.int j t))
    (hs : s = (n : Int)) (ht : t = (c : Int)) (hnc : n ≤ c) (hcm : c ≤ 200000) (hen : e.n ≤ 80) (hby : bytes ≤ 1000) (k : ∀ p L, OwnG w0 E e (.slice p (List.replicate n x0).length c) (List.replicate n x0) L → K (.slice p (List.replicate n x0).length c) (L ++ M)) :
    OpR P w0 X N ⟨d, .makeSlice T x y, ty, ps, af, gd⟩ S M K := by
  subst hs ht
  intro w hw
  obtain ⟨inf, z, hi, hz', hc⟩ := fZ_ hz
  unfold tySz at hE
  simp only [hi, hz', Bool.and_eq_true, beq_iff_eq] at hE
  obtain ⟨⟨h1, hb⟩, hzc⟩ := hE
  have b1 : c * e.n ≤ 200000 * 80 := Nat.mul_le_mul hcm hen
  have b2 : bytes * c ≤ 1000 * 200000 := Nat.mul_le_mul hby hcm
  have hr := run_makeSlice (P := P) w T E inf z hT hi hz' i j n c (by omega) (by omega) (by rw [h1, Int.toNat_natCast]; omega) (by rw [hb]; omega) (by omega)
  rw [h1, hc, Int.toNat_natCast, Int.toNat_natCast, mQ_ x0 h0] at hr
  unfold opw
  have hex : (execOp (ev N S) ⟨d, .makeSlice T x y, ty, ps, af, gd⟩).run P w = .ok (.value (.slice (some ⟨w.heap.size, 0, none⟩) n c)) (w.alloc (.cells (rows e (List.replicate c x0)).toArray E)) := by
    simp [execOp, au_ hx, au_ hy, hr]
  rw [cT_, hex]
  have hl : (List.replicate n x0).length = n := List.length_replicate
  have hk := k (some ⟨w.heap.size, 0, none⟩) [⟨w.heap.size, E, rows e (List.replicate c x0)⟩] (.inr ⟨w.heap.size, c, _, rfl, rfl, hw.size, by rw [hl]; exact hnc, by unfold maxLen; omega, by rw [cr_, List.length_replicate], by
    rw [hl, gl_, List.take_replicate, Nat.min_eq_left hnc]⟩)
  rw [hl] at hk
  exact ⟨.alloc _ _, _, hw.alloc E _, hk⟩
def Slo (B : Nat) (w : World) (E : TypeId) (e : El α) (v : Value) (l : List α) : Prop :=
  (v = .slice none 0 0 ∧ l = []) ∨ ∃ g cap, ∃ cur : List Value, v = .slice (some ⟨g, 0, none⟩) l.length cap ∧ B ≤ g ∧ w.heap[g]? = some (.cells cur.toArray E (0, 0)) ∧ l.length ≤ cap ∧ cap ≤ maxLen ∧ cur.length = cap * e.n ∧ cur.take (l.length * e.n) = rows e l
theorem OwnG.slo {E : TypeId} {L : List Blk} {w : World} (h : OwnG w0 E e v l L) (hs : L.Sublist M) (hw : Sat w0 X M w) : Slo w0.heap.size w E e v l := by
  rcases h with ⟨rfl, rfl, rfl⟩ | ⟨g, cap, cur, rfl, rfl, hg, hc, hm, hn, ht⟩
  · exact .inl ⟨rfl, rfl⟩
  · exact .inr ⟨g, cap, cur, rfl, hg, hw.mem _ (hs.mem List.mem_cons_self), hc, hm, hn, ht⟩
theorem Slo.now {w w' : World} {E : TypeId} (h : Slo w.heap.size w' E e v l) (hw : Sat w0 X M w) (he : Ext w w') : ∃ p c L, v = .slice p l.length c ∧ Sat w0 X (L ++ M) w' ∧ OwnG w0 E e (.slice p l.length c) l L := by
  have hw' := Sat.mono _ _ _ _ _ hw he
  rcases h with ⟨rfl, rfl⟩ | ⟨g, cap, cur, rfl, hB, hh, hc, hm, hn, ht⟩
  · exact ⟨none, 0, [], rfl, hw', .inl ⟨rfl, rfl, rfl⟩⟩
  · have hb : g ∉ M.map Blk.b := fun hm => by
      obtain ⟨x, hx, rfl⟩ := List.mem_map.1 hm
      have := aT_? (hw.mem x hx); omega
    refine ⟨_, cap, [⟨g, E, cur⟩], rfl, ⟨hw'.os, hw'.tape, hw'.output, hw'.size, hw'.old, by simpa using And.intro (by simpa using hb) hw'.nodup, fun y hy => ?_⟩, .inr ⟨g, cap, cur, rfl, rfl, Nat.le_trans hw.size hB, hc, hm, hn, ht⟩⟩
    rcases List.mem_cons.1 hy with rfl | hy
    · exact hh
    · exact hw'.mem y hy
def SloM (w0 : World) (M : List Blk) (E : TypeId) (e : El α) (v : Value) (l : List α) : Prop := ∃ L, L.Sublist M ∧ OwnG w0 E e v l L
theorem bs_ {n : Nat} {E : TypeId} {f : FuncId} {fn : Func} {c : Code} {args : List Value} {w : World} (R : Value → Value) (hf : P.funcs[f]? = some fn) (hb : fn.body = some c) (hn : fn.ntmps = n) (hl : args.length ≤ n)
    (h : W P w [] (pl n) c (eh_ P fn w [] (pl n) fun r M => ∃ v, r = R v ∧ SloM w M E e v l) (initF 0 args) []) : Calls P f args.toArray w fun f w' => ∃ v, f = .returned (R v) ∧ Ext w w' ∧ Slo w.heap.size w' E e v l :=
  (dZ_ hf hb hn hl (Sat.start w []) h).mono fun f w' ⟨r, M', he, hs, _, v, hr, L, hL, hu⟩ => ⟨v, by rw [he, hr], hs.ext, hu.slo hL hs⟩
theorem an_ {E : TypeId} {g : FuncId} {xs : List Operand} {tys : Array TypeId} {args : List Value} {K : Value → List Blk → Prop} (R : Value → Value) (he : al_ P g = true) (ha : evL N S xs = some args)
    (h : ∀ w, Sat w0 X M w → Calls P g args.toArray w fun f w' => ∃ v, f = .returned (R v) ∧ Ext w w' ∧ Slo w.heap.size w' E e v l) (k : ∀ p c L, OwnG w0 E e (.slice p l.length c) l L → K (R (.slice p l.length c)) (L ++ M)) : OpR P w0 X N ⟨d, .call { callee := .value (.func g), args := xs.toArray, argTypes := tys }, ty, ps, af, gd⟩ S M K :=
  jg_ he ha fun w hw => (h w hw).mono fun _ w' ⟨v, h1, h2, h3⟩ => by
    obtain ⟨p, c, L, rfl, hs, hv⟩ := h3.now hw h2
    exact ⟨_, L ++ M, h1, hs, Ext.keeps h2, k p c L hv⟩
theorem OwnG.max {E : TypeId} {L : List Blk} (h : OwnG w0 E e v l L) : l.length ≤ 9223372036854775807 := (h.slfe (List.Sublist.refl L)).max
end
end Go.Kn

set_option linter.unusedVariables false
namespace Go.Num
open Go Go.Kn
structure Sgd where
  s : W
  ok : Bool
structure Lst8 where
  l : List I
  is : Bool
/-- Valid, and not bad. -/
abbrev gdI (x : I) : Bool := !x.1.bad && x.1.valid
/-- Gcd's measure. -/
def gmP (b : List I) : Nat := bif b.all gdI then 2 * b.length else 1
end Go.Num

set_option linter.unusedVariables false
set_option linter.unusedSimpArgs false
namespace Go.Proofs.YtjdfogfmeibkgaaGreat
open Go.Kn Go.Num
theorem mix : Tryz.prog.follows .mixedOrders = true := by kernel_rfl
theorem ar_36 : tyArr Tryz.prog 36 = some (16, 1) := by kernel_rfl
theorem ar_99 : tyArr Tryz.prog 99 = some (32, 1) := by kernel_rfl
theorem eP_ : tyArr Tryz.prog 130 = some (17, 1) := by kernel_rfl
theorem bo_4 : jB_ Tryz.prog 4 = true := by kernel_rfl
theorem eg_36 : Tryz.prog.eqGuardType Tryz.prog.depth 36 = false := by kernel_rfl
theorem eg_38 : Tryz.prog.eqGuardType Tryz.prog.depth 38 = false := by kernel_rfl
theorem eg_44 : Tryz.prog.eqGuardType Tryz.prog.depth 44 = false := by kernel_rfl
theorem en_14 : al_ Tryz.prog 14 = true := by kernel_rfl
theorem en_15 : al_ Tryz.prog 15 = true := by kernel_rfl
theorem en_16 : al_ Tryz.prog 16 = true := by kernel_rfl
theorem en_17 : al_ Tryz.prog 17 = true := by kernel_rfl
theorem en_18 : al_ Tryz.prog 18 = true := by kernel_rfl
theorem en_19 : al_ Tryz.prog 19 = true := by kernel_rfl
theorem en_20 : al_ Tryz.prog 20 = true := by kernel_rfl
theorem en_22 : al_ Tryz.prog 22 = true := by kernel_rfl
theorem en_23 : al_ Tryz.prog 23 = true := by kernel_rfl
theorem en_25 : al_ Tryz.prog 25 = true := by kernel_rfl
theorem en_27 : al_ Tryz.prog 27 = true := by kernel_rfl
theorem en_29 : al_ Tryz.prog 29 = true := by kernel_rfl
theorem en_31 : al_ Tryz.prog 31 = true := by kernel_rfl
theorem en_32 : al_ Tryz.prog 32 = true := by kernel_rfl
theorem en_33 : al_ Tryz.prog 33 = true := by kernel_rfl
theorem en_34 : al_ Tryz.prog 34 = true := by kernel_rfl
theorem en_35 : al_ Tryz.prog 35 = true := by kernel_rfl
theorem en_36 : al_ Tryz.prog 36 = true := by kernel_rfl
theorem en_40 : al_ Tryz.prog 40 = true := by kernel_rfl
theorem en_42 : al_ Tryz.prog 42 = true := by kernel_rfl
theorem en_44 : al_ Tryz.prog 44 = true := by kernel_rfl
theorem en_54 : al_ Tryz.prog 54 = true := by kernel_rfl
theorem en_55 : al_ Tryz.prog 55 = true := by kernel_rfl
theorem en_58 : al_ Tryz.prog 58 = true := by kernel_rfl
theorem en_59 : al_ Tryz.prog 59 = true := by kernel_rfl
theorem en_60 : al_ Tryz.prog 60 = true := by kernel_rfl
theorem en_61 : al_ Tryz.prog 61 = true := by kernel_rfl
theorem en_62 : al_ Tryz.prog 62 = true := by kernel_rfl
theorem en_63 : al_ Tryz.prog 63 = true := by kernel_rfl
theorem en_64 : al_ Tryz.prog 64 = true := by kernel_rfl
theorem en_65 : al_ Tryz.prog 65 = true := by kernel_rfl
theorem en_66 : al_ Tryz.prog 66 = true := by kernel_rfl
theorem en_67 : al_ Tryz.prog 67 = true := by kernel_rfl
theorem en_68 : al_ Tryz.prog 68 = true := by kernel_rfl
theorem en_69 : al_ Tryz.prog 69 = true := by kernel_rfl
theorem en_70 : al_ Tryz.prog 70 = true := by kernel_rfl
theorem en_71 : al_ Tryz.prog 71 = true := by kernel_rfl
theorem en_72 : al_ Tryz.prog 72 = true := by kernel_rfl
theorem en_73 : al_ Tryz.prog 73 = true := by kernel_rfl
theorem en_74 : al_ Tryz.prog 74 = true := by kernel_rfl
theorem en_75 : al_ Tryz.prog 75 = true := by kernel_rfl
theorem en_76 : al_ Tryz.prog 76 = true := by kernel_rfl
theorem en_77 : al_ Tryz.prog 77 = true := by kernel_rfl
theorem en_78 : al_ Tryz.prog 78 = true := by kernel_rfl
theorem en_79 : al_ Tryz.prog 79 = true := by kernel_rfl
theorem en_81 : al_ Tryz.prog 81 = true := by kernel_rfl
theorem en_85 : al_ Tryz.prog 85 = true := by kernel_rfl
theorem en_86 : al_ Tryz.prog 86 = true := by kernel_rfl
theorem en_87 : al_ Tryz.prog 87 = true := by kernel_rfl
theorem en_88 : al_ Tryz.prog 88 = true := by kernel_rfl
theorem en_91 : al_ Tryz.prog 91 = true := by kernel_rfl
theorem en_93 : al_ Tryz.prog 93 = true := by kernel_rfl
theorem en_94 : al_ Tryz.prog 94 = true := by kernel_rfl
theorem en_95 : al_ Tryz.prog 95 = true := by kernel_rfl
theorem en_96 : al_ Tryz.prog 96 = true := by kernel_rfl
theorem en_97 : al_ Tryz.prog 97 = true := by kernel_rfl
theorem en_98 : al_ Tryz.prog 98 = true := by kernel_rfl
theorem en_99 : al_ Tryz.prog 99 = true := by kernel_rfl
theorem qs_ : al_ Tryz.prog 102 = true := by kernel_rfl
theorem eE_ : al_ Tryz.prog 107 = true := by kernel_rfl
theorem kX_ : al_ Tryz.prog 109 = true := by kernel_rfl
theorem mP_ : al_ Tryz.prog 110 = true := by kernel_rfl
theorem ip_ : al_ Tryz.prog 111 = true := by kernel_rfl
theorem qk_ : al_ Tryz.prog 112 = true := by kernel_rfl
theorem rl_ : al_ Tryz.prog 115 = true := by kernel_rfl
theorem l4_ : al_ Tryz.prog 116 = true := by kernel_rfl
theorem q6_ : al_ Tryz.prog 117 = true := by kernel_rfl
theorem qJ_ : al_ Tryz.prog 118 = true := by kernel_rfl
theorem lg_ : al_ Tryz.prog 119 = true := by kernel_rfl
theorem mp_ : al_ Tryz.prog 120 = true := by kernel_rfl
theorem o7_ : al_ Tryz.prog 121 = true := by kernel_rfl
theorem oV_ : al_ Tryz.prog 122 = true := by kernel_rfl
theorem oW_ : al_ Tryz.prog 123 = true := by kernel_rfl
theorem re_ : al_ Tryz.prog 124 = true := by kernel_rfl
theorem nA_ : al_ Tryz.prog 125 = true := by kernel_rfl
theorem qF_ : al_ Tryz.prog 126 = true := by kernel_rfl
theorem hw_ : al_ Tryz.prog 127 = true := by kernel_rfl
theorem oA_ : al_ Tryz.prog 128 = true := by kernel_rfl
theorem qH_ : al_ Tryz.prog 129 = true := by kernel_rfl
theorem q1_ : al_ Tryz.prog 134 = true := by kernel_rfl
theorem qM_ : al_ Tryz.prog 135 = true := by kernel_rfl
theorem qt_ : al_ Tryz.prog 139 = true := by kernel_rfl
theorem oF_ : al_ Tryz.prog 140 = true := by kernel_rfl
theorem mD_ : al_ Tryz.prog 141 = true := by kernel_rfl
theorem oP_ : al_ Tryz.prog 143 = true := by kernel_rfl
theorem q2_ : al_ Tryz.prog 144 = true := by kernel_rfl
theorem m9_ : al_ Tryz.prog 148 = true := by kernel_rfl
theorem l0_ : al_ Tryz.prog 149 = true := by kernel_rfl
theorem qT_ : al_ Tryz.prog 150 = true := by kernel_rfl
theorem qS_ : al_ Tryz.prog 151 = true := by kernel_rfl
theorem mE_ : al_ Tryz.prog 152 = true := by kernel_rfl
theorem m1_ : al_ Tryz.prog 153 = true := by kernel_rfl
theorem oQ_ : al_ Tryz.prog 154 = true := by kernel_rfl
theorem q4_ : al_ Tryz.prog 156 = true := by kernel_rfl
theorem q3_ : al_ Tryz.prog 157 = true := by kernel_rfl
theorem qY_ : al_ Tryz.prog 158 = true := by kernel_rfl
theorem rn_ : al_ Tryz.prog 159 = true := by kernel_rfl
theorem o6_ : al_ Tryz.prog 160 = true := by kernel_rfl
theorem qc_ : al_ Tryz.prog 161 = true := by kernel_rfl
theorem qU_ : al_ Tryz.prog 162 = true := by kernel_rfl
theorem qx_ : al_ Tryz.prog 163 = true := by kernel_rfl
theorem qg_ : al_ Tryz.prog 164 = true := by kernel_rfl
theorem qC_ : al_ Tryz.prog 165 = true := by kernel_rfl
theorem rk_ : al_ Tryz.prog 166 = true := by kernel_rfl
theorem oG_ : al_ Tryz.prog 167 = true := by kernel_rfl
theorem oE_ : al_ Tryz.prog 168 = true := by kernel_rfl
theorem eu_ : eU_ Tryz.prog 38 0 = some (0, 1) := by kernel_rfl
theorem ct_ : eU_ Tryz.prog 38 1 = some (1, 1) := by kernel_rfl
theorem bB_ : eU_ Tryz.prog 38 2 = some (2, 16) := by kernel_rfl
theorem eW_ : eU_ Tryz.prog 44 0 = some (0, 18) := by kernel_rfl
theorem dy_ : eU_ Tryz.prog 44 1 = some (18, 18) := by kernel_rfl
theorem in_3 : tyInt Tryz.prog 3 = some .i64 := by kernel_rfl
theorem in_5 : tyInt Tryz.prog 5 = some .u8 := by kernel_rfl
theorem in_35 : tyInt Tryz.prog 35 = some .u32 := by kernel_rfl
theorem in_94 : tyInt Tryz.prog 94 = some .u64 := by kernel_rfl
theorem lv_36 : c1_ Tryz.prog 8 36 = some (true, (List.replicate 16 (some IntKind.u32))) := by kernel_rfl
theorem lw_38 : c1_ Tryz.prog 8 38 = some (true, LI) := by kernel_rfl
theorem lw_44 : c1_ Tryz.prog 8 44 = some (true, (LI ++ LI)) := by kernel_rfl
theorem on_3 : tyOne Tryz.prog 3 = true := by kernel_rfl
theorem pl_38 : gp_ Tryz.prog 38 = some [(0, 1), (1, 1), (2, 16)] := by kernel_rfl
theorem pl_44 : gp_ Tryz.prog 44 = some [(0, 18), (18, 18)] := by kernel_rfl
theorem sl_22 : c5_ Tryz.prog 22 = some 18 := by kernel_rfl
theorem sl_24 : c5_ Tryz.prog 24 = some 18 := by kernel_rfl
theorem sl_70 : c5_ Tryz.prog 70 = some 1 := by kernel_rfl
theorem qv_ : c5_ Tryz.prog 101 = some 1 := by kernel_rfl
theorem ox_ : c5_ Tryz.prog 121 = some 36 := by kernel_rfl
theorem st_9 : Tryz.prog.underlying 9 = some .string := by kernel_rfl
theorem sz_3 : (Tryz.prog.info? 3).map (·.size) = some 1 := by kernel_rfl
theorem sz_38 : (Tryz.prog.info? 38).map (·.size) = some 18 := by kernel_rfl
theorem sz_44 : (Tryz.prog.info? 44).map (·.size) = some 36 := by kernel_rfl
theorem ty_3 : tyOf Tryz.prog 3 = some (false, 1) := by kernel_rfl
theorem ty_4 : tyOf Tryz.prog 4 = some (false, 1) := by kernel_rfl
theorem ty_22 : tyOf Tryz.prog 22 = some (false, 1) := by kernel_rfl
theorem ty_24 : tyOf Tryz.prog 24 = some (false, 1) := by kernel_rfl
theorem ty_35 : tyOf Tryz.prog 35 = some (false, 1) := by kernel_rfl
theorem ty_36 : tyOf Tryz.prog 36 = some (true, 16) := by kernel_rfl
theorem ty_38 : tyOf Tryz.prog 38 = some (true, 18) := by kernel_rfl
theorem ty_44 : tyOf Tryz.prog 44 = some (true, 36) := by kernel_rfl
theorem ty_70 : tyOf Tryz.prog 70 = some (false, 1) := by kernel_rfl
theorem ty_76 : tyOf Tryz.prog 76 = some (false, 1) := by kernel_rfl
theorem us_22 : Tryz.prog.underlying 22 = some (.slice 38) := by kernel_rfl
theorem us_24 : Tryz.prog.underlying 24 = some (.slice 38) := by kernel_rfl
theorem us_70 : Tryz.prog.underlying 70 = some (.slice 3) := by kernel_rfl
theorem mq_ : Tryz.prog.underlying 121 = some (.slice 44) := by kernel_rfl
theorem z_3 : dq_ Tryz.prog 3 = some [.int .i64 0] := by kernel_rfl
theorem z_36 : dq_ Tryz.prog 36 = some (uw (List.replicate 16 0)) := by kernel_rfl
theorem z_38 : dq_ Tryz.prog 38 = some zR := by kernel_rfl
theorem z_44 : dq_ Tryz.prog 44 = some (([.bool false] ++ [.bool false] ++ (List.replicate 16 (.int .u32 0))) ++ ([.bool false] ++ [.bool false] ++ (List.replicate 16 (.int .u32 0)))) := by kernel_rfl
theorem z_99 : dq_ Tryz.prog 99 = some (uw (List.replicate 32 0)) := by kernel_rfl
theorem z_130 : dq_ Tryz.prog 130 = some (uw (List.replicate 17 0)) := by kernel_rfl
theorem zp_22 : dq_ Tryz.prog 22 = some (flat [csl none 0 0]) := by kernel_rfl
theorem zp_38 : dq_ Tryz.prog 38 = some (flat [pI I0]) := by kernel_rfl
theorem zp_44 : dq_ Tryz.prog 44 = some (flat [pI I0, pI I0]) := by kernel_rfl
end Go.Proofs.YtjdfogfmeibkgaaGreat

set_option linter.unusedVariables false
set_option linter.unusedSimpArgs false
namespace Go.Num
open Go Go.Kn
def b0_ (a : I) : W :=
  bif (!a.1.good || ((((dl (val a.1.w)).length : Nat) : Int) == 0)) then ((wl 0)) else (bif a.1.neg then ((wl (-1))) else ((wl 1)))
end Go.Num

set_option linter.unusedVariables false
set_option linter.unusedSimpArgs false
namespace Go.Num
open Go Go.Kn
def F_ratio_one  : I :=
  let q0 : I := (E (Z.of 1))
  q0
def f1_  : Rt :=
  let q0 : I := (E Z.bad)
  let q1 : I := F_ratio_one
  (⟨q0, q1⟩ : Rt)
def bI_ (a : I) : Bool :=
  (!a.1.bad && a.1.valid)
def cc_ (a : Rt) : Bool :=
  ((bI_ a.n) && ((bI_ a.d) && (decide (0 < (Z.signW a.d.dec).1) && decide ((E (Z.gcd a.n.dec a.d.dec)) = F_ratio_one))))
def bJ_ (a : I) (b : I) : Rt :=
  bif (!(bI_ a) || (!(bI_ b) || ((Z.signW b.dec).1 == 0))) then (f1_) else (bif decide ((Z.signW b.dec).1 < 0) then ((⟨(E (Z.quo a.dec (Z.neg (Z.gcd a.dec b.dec)))), (E (Z.quo b.dec (Z.neg (Z.gcd a.dec b.dec))))⟩ : Rt)) else ((⟨(E (Z.quo a.dec (Z.gcd a.dec b.dec))), (E (Z.quo b.dec (Z.gcd a.dec b.dec)))⟩ : Rt)))
def dM_ (a : I) : Rt :=
  (bJ_ a F_ratio_one)
def cu_ (a : W) : Rt :=
  (dM_ (E (Z.of a.1)))
def c7_ (a : Rt) : Rt :=
  bif (cc_ a) then ((⟨(E (Z.neg a.n.dec)), a.d⟩ : Rt)) else (f1_)
def c6_ (a : Rt) (b : Rt) : Rt :=
  bif (!(cc_ a) || (!(cc_ b))) then (f1_) else (let r15 : I := (E (Z.add (Z.mul a.n.dec (Z.quo b.d.dec (Z.gcd a.d.dec b.d.dec))) (Z.mul b.n.dec (Z.quo a.d.dec (Z.gcd a.d.dec b.d.dec)))))
  let r16 : Rt := (bJ_ r15 (E (Z.mul (Z.quo a.d.dec (Z.gcd a.d.dec b.d.dec)) b.d.dec)))
  r16)
def bT_ (a : Rt) (b : Rt) : Rt :=
  (c6_ a (c7_ b))
end Go.Num

