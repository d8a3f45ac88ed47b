/- The small logic, second part: a function's own blocks as a list, the judgements of code and of operations. No program stands in it. -/
import Derived.Test.YthbjhbmpfeeilaaKn
import Derived.Laws.CopyRow
import Derived.Laws.Rows
import Derived.KernelRfl
set_option linter.unusedVariables false
set_option linter.unusedSimpArgs false
namespace Go.Kn
open Go.RowKit

structure Blk where
  b : Nat
  T : TypeId
  cs : List Value
/-- The world reads as w0 below its size (but for the blocks X), and holds the blocks M. -/
structure Sat (w0 : World) (X : List Nat) (M : List Blk) (w : World) : Prop where
  os : w.os = w0.os
  tape : w.tape = w0.tape
  output : w.output = w0.output
  size : w0.heap.size ≤ w.heap.size
  old : ∀ k, k < w0.heap.size → k ∉ X → w.heap[k]? = w0.heap[k]?
  nodup : (M.map Blk.b).Nodup
  mem : ∀ x ∈ M, w.heap[x.b]? = some (.cells x.cs.toArray x.T (0, 0))
theorem lt_of_getElem? {α : Type} {a : Array α} {i : Nat} {x : α} (h : a[i]? = some x) : i < a.size := (Array.getElem?_eq_some_iff.1 h).1
theorem Sat.mono (w0 : World) (X : List Nat) (M : List Blk) : Mono (Sat w0 X M) := fun w w' h he => by
  have he' : Below w.heap.size w w' := he
  exact ⟨he'.os.trans h.os, he'.tape.trans h.tape, he'.output.trans h.output, Nat.le_trans h.size he'.size,
    fun k hk hx => (he'.block k (Nat.lt_of_lt_of_le hk h.size)).trans (h.old k hk hx), h.nodup,
    fun x hx => (he'.block x.b (lt_of_getElem? (h.mem x hx))).trans (h.mem x hx)⟩
theorem Sat.start (w : World) (X : List Nat) : Sat w X [] w := ⟨rfl, rfl, rfl, Nat.le_refl _, fun _ _ _ => rfl, List.nodup_nil, fun x hx => (by cases hx)⟩
theorem Sat.ext {w0 w : World} {M : List Blk} (h : Sat w0 [] M w) : Ext w0 w :=
  ⟨h.os, h.tape, h.output, h.size, fun k hk => h.old k hk (by simp)⟩
theorem Sat.sub {w0 : World} {X : List Nat} {M M' : List Blk} (hs : M'.Sublist M) {w : World} (h : Sat w0 X M w) : Sat w0 X M' w :=
  ⟨h.os, h.tape, h.output, h.size, h.old, (hs.map Blk.b).nodup h.nodup, fun x hx => h.mem x (hs.mem hx)⟩
/-- A block that was there before, read only. -/
theorem Sat.know {w0 : World} {X : List Nat} {M : List Blk} {w : World} {x : Blk} (h : Sat w0 X M w) (hx : w0.heap[x.b]? = some (.cells x.cs.toArray x.T (0, 0))) (hX : x.b ∉ X)
    (hn : x.b ∉ M.map Blk.b) : Sat w0 X (x :: M) w :=
  ⟨h.os, h.tape, h.output, h.size, h.old, by simpa using And.intro (by simpa using hn) h.nodup, fun y hy => by
    rcases List.mem_cons.1 hy with rfl | hy
    · rw [h.old _ (lt_of_getElem? hx) hX]; exact hx
    · exact h.mem y hy⟩
theorem Sat.alloc {w0 : World} {X : List Nat} {M : List Blk} {w : World} (h : Sat w0 X M w) (T : TypeId) (cs : List Value) :
    Sat w0 X (⟨w.heap.size, T, cs⟩ :: M) (w.alloc (.cells cs.toArray T)) := by
  refine ⟨h.os, h.tape, h.output, by simp; have := h.size; omega, fun k hk hx => ?_, ?_, fun x hx => ?_⟩
  · rw [Below.heap_alloc _ _ _ (Nat.lt_of_lt_of_le hk h.size)]; exact h.old k hk hx
  · simp only [List.map_cons, List.nodup_cons]
    refine ⟨fun hm => ?_, h.nodup⟩
    obtain ⟨y, hy, he⟩ := List.mem_map.1 hm
    have := lt_of_getElem? (h.mem y hy)
    omega
  · rcases List.mem_cons.1 hx with rfl | hx
    · show (w.heap.push _)[w.heap.size]? = _
      simp
    · rw [Below.heap_alloc _ _ _ (lt_of_getElem? (h.mem x hx))]; exact h.mem x hx

/-- The list M with the block b (cells cs) replaced. -/
inductive Upd (b : Nat) (T : TypeId) (cs cs' : List Value) : List Blk → List Blk → Prop where
  | head (M : List Blk) : Upd b T cs cs' (⟨b, T, cs⟩ :: M) (⟨b, T, cs'⟩ :: M)
  | tail (x : Blk) {M M' : List Blk} (h : Upd b T cs cs' M M') : Upd b T cs cs' (x :: M) (x :: M')
theorem Upd.mem {b : Nat} {T : TypeId} {cs cs' : List Value} {M M' : List Blk} (h : Upd b T cs cs' M M') : (⟨b, T, cs⟩ : Blk) ∈ M := by
  induction h with
  | head => exact List.mem_cons_self
  | tail x _ ih => exact List.mem_cons_of_mem _ ih
theorem Upd.names {b : Nat} {T : TypeId} {cs cs' : List Value} {M M' : List Blk} (h : Upd b T cs cs' M M') : M'.map Blk.b = M.map Blk.b := by
  induction h with
  | head => rfl
  | tail x _ ih => simp [ih]
theorem Upd.new {b : Nat} {T : TypeId} {cs cs' : List Value} {M M' : List Blk} (h : Upd b T cs cs' M M') (hn : (M.map Blk.b).Nodup) :
    ∀ x ∈ M', x = ⟨b, T, cs'⟩ ∨ (x ∈ M ∧ x.b ≠ b) := by
  induction h with
  | head M =>
    intro x hx
    rcases List.mem_cons.1 hx with rfl | hx
    · exact .inl rfl
    · refine .inr ⟨List.mem_cons_of_mem _ hx, fun e => ?_⟩
      simp only [List.map_cons, List.nodup_cons] at hn
      exact hn.1 (e ▸ List.mem_map_of_mem (f := Blk.b) hx)
  | tail y h ih =>
    intro x hx
    simp only [List.map_cons, List.nodup_cons] at hn
    rcases List.mem_cons.1 hx with rfl | hx
    · refine .inr ⟨List.mem_cons_self, fun e => hn.1 ?_⟩
      rw [e]; exact List.mem_map_of_mem (f := Blk.b) h.mem
    · rcases ih hn.2 x hx with h1 | ⟨h1, h2⟩
      · exact .inl h1
      · exact .inr ⟨List.mem_cons_of_mem _ h1, h2⟩
theorem Sat.set {w0 : World} {X : List Nat} {M M' : List Blk} {w : World} {b : Nat} {T : TypeId} {cs cs' : List Value} (h : Sat w0 X M w) (hu : Upd b T cs cs' M M')
    (hb : w0.heap.size ≤ b ∨ b ∈ X) : Sat w0 X M' (w.setRow b cs'.toArray) := by
  have hheap : ∀ k, k ≠ b → (w.setRow b cs'.toArray).heap[k]? = w.heap[k]? := fun k hk => by
    simp only [World.setRow, Array.getElem?_modify]; rw [if_neg (by omega)]
  refine ⟨h.os, h.tape, h.output, ?_, fun k hk hx => ?_, by rw [hu.names]; exact h.nodup, fun x hx => ?_⟩
  · simp only [World.setRow, Array.size_modify]; exact h.size
  · rw [hheap k (fun e => by subst e; rcases hb with hb | hb; omega; exact hx hb)]; exact h.old k hk hx
  · rcases hu.new h.nodup x hx with rfl | ⟨h1, h2⟩
    · exact setRow_heap w b cs.toArray cs'.toArray T _ (h.mem _ hu.mem)
    · rw [hheap _ h2]; exact h.mem x h1

/-! ### Frames: what was put, the last first; N: how many slots -/
abbrev Fr := List (Nat × Value)
def lookO : Fr → Nat → Option Value
  | [], _ => some undef
  | (j, v) :: l, i => bif Nat.beq j i then some v else lookO l i
def look (S : Fr) (i : Nat) : Value := (lookO S i).getD undef
def act (N : Nat) (S : Fr) : Act := ⟨((List.range N).map (look S)).toArray, []⟩
def ev (N : Nat) (S : Fr) : Operand → Value
  | .tmp t => bif Nat.blt t N then look S t else undef
  | .const v => v
  | .global g => .pointer (some ⟨g, 0, none⟩)
  | .func f => .func (.func f) #[] #[]
/-- The operand's value, so that it comes out reduced. -/
def evO (N : Nat) (S : Fr) : Operand → Option Value
  | .tmp t => bif Nat.blt t N then lookO S t else none
  | .const v => some v
  | .global g => some (.pointer (some ⟨g, 0, none⟩))
  | .func f => some (.func (.func f) #[] #[])
theorem evO_spec {N : Nat} {S : Fr} {x : Operand} {v : Value} (h : evO N S x = some v) : ev N S x = v := by
  cases x with
  | tmp t =>
    simp only [evO, ev] at *
    cases hb : Nat.blt t N
    · rw [hb] at h; cases h
    · rw [hb] at h; simp only [cond_true] at *; simp [look, h]
  | _ => simp only [evO, ev] at *; cases h; rfl
def evL (N : Nat) (S : Fr) : List Operand → Option (List Value)
  | [] => some []
  | x :: xs => match evO N S x, evL N S xs with
    | some v, some vs => some (v :: vs)
    | _, _ => none
theorem evL_spec {N : Nat} {S : Fr} : ∀ {xs : List Operand} {vs : List Value}, evL N S xs = some vs → xs.map (ev N S) = vs
  | [], _, h => by simp only [evL] at h; cases h; rfl
  | x :: xs, vs, h => by
    simp only [evL] at h
    split at h
    · rename_i v ws hv hw
      cases h
      simp [evO_spec hv, evL_spec hw]
    · cases h
def putS (S : Fr) : Option Tmp → Value → Fr
  | none, _ => S
  | some d, v => (d, v) :: S
theorem act_eval (N : Nat) (S : Fr) : (act N S).eval = ev N S := by
  funext x
  cases x with
  | tmp t =>
    simp only [Act.eval, act, ev]
    by_cases h : t < N
    · have : Nat.blt t N = true := by simp [Nat.blt_eq, h]
      simp [this, h]
    · have : Nat.blt t N = false := by rw [← Bool.not_eq_true]; simp [Nat.blt_eq, h]
      simp [this, h]
  | _ => rfl
theorem look_cons (d : Nat) (v : Value) (S : Fr) (i : Nat) : look ((d, v) :: S) i = if d = i then v else look S i := by
  simp only [look, lookO]
  by_cases h : d = i
  · subst h; simp
  · have : Nat.beq d i = false := by rw [← Bool.not_eq_true]; simp [Nat.beq_eq, h]
    simp [this, h]
theorem act_congr {N : Nat} {S S' : Fr} (h : ∀ i, look S i = look S' i) : act N S = act N S' := by
  unfold act; rw [List.map_congr_left (fun i _ => h i)]
theorem act_put (N : Nat) (S : Fr) (d : Option Tmp) (v : Value) : (act N S).put d v = act N (putS S d v) := by
  cases d with
  | none => rfl
  | some d =>
    simp only [Act.put, act, putS, List.setIfInBounds_toArray]
    congr 2
    apply List.ext_getElem?
    intro i
    simp only [List.getElem?_set, List.getElem?_map, List.length_map, List.length_range]
    by_cases h : d = i
    · subst h
      by_cases hd : d < N
      · simp [hd, look_cons]
      · simp [hd]
    · rw [if_neg h]
      by_cases hi : i < N
      · simp [hi, look_cons, h]
      · simp [hi]
def yld (N : Nat) (ops : List Oper) (S : Fr) (j : Nat) : Option Bool :=
  match (ops[j]?).bind (·.dst) with
  | some d => bif Nat.blt d N then (match lookO S d with | some (.bool b) => some b | _ => none) else none
  | none => none
theorem lookO_some (S : Fr) (i : Nat) : lookO S i = some (look S i) := by
  induction S with
  | nil => rfl
  | cons p l ih =>
    obtain ⟨j, v⟩ := p
    simp only [lookO, look]
    cases Nat.beq j i
    · simpa [look] using ih
    · rfl
theorem yielded_act (N : Nat) (ops : List Oper) (S : Fr) : yielded ops.toArray (act N S).tmps = yld N ops S := by
  funext j
  simp only [yielded, yld, act, List.getElem?_toArray]
  cases (ops[j]?).bind (·.dst) with
  | none => rfl
  | some d =>
    simp only [Option.bind_some, List.getElem?_map]
    by_cases h : d < N
    · have hb : Nat.blt d N = true := by simp [Nat.blt_eq, h]
      simp only [hb, cond_true, lookO_some]
      simp [h]
      rfl
    · have hb : Nat.blt d N = false := by rw [← Bool.not_eq_true]; simp [Nat.blt_eq, h]
      simp [hb, h]

/-! ### Code -/
abbrev Post := Exit → Fr → List Blk → Prop
def lift (w0 : World) (X : List Nat) (N : Nat) (Q : Post) : Exit → Act → World → Prop :=
  fun e a w => ∃ S M, a = act N S ∧ Sat w0 X M w ∧ Q e S M
def W (P : Program) (w0 : World) (X : List Nat) (N : Nat) (c : Code) (Q : Post) (S : Fr) (M : List Blk) : Prop :=
  ∀ w, Sat w0 X M w → c.wp P (lift w0 X N Q) (act N S) w
def thenK (next : Fr → List Blk → Prop) (Q : Post) : Post
  | .normal, S, M => next S M
  | e, S, M => Q e S M
def blockK (id : Nat) (Q : Post) : Post
  | .exit id', S, M => if id' = id then Q .normal S M else Q (.exit id') S M
  | e, S, M => Q e S M
section
variable {P : Program} {w0 : World} {X : List Nat} {N : Nat} {Q : Post} {S : Fr} {M : List Blk}
theorem W_mono {c : Code} {Q' : Post} (h : W P w0 X N c Q S M) (hq : ∀ e S M, Q e S M → Q' e S M) : W P w0 X N c Q' S M :=
  fun w hw => wp_mono (h w hw) fun _ _ _ ⟨S', M', ha, hs, q⟩ => ⟨S', M', ha, hs, hq _ _ _ q⟩
theorem W_sub {c : Code} {M' : List Blk} (hs : M'.Sublist M) (h : W P w0 X N c Q S M') : W P w0 X N c Q S M := fun w hw => h w (hw.sub hs)
theorem W_seq {x y : Code} (h : ∀ K : Fr → List Blk → Prop, (∀ S M, W P w0 X N y Q S M → K S M) → W P w0 X N x (thenK K Q) S M) : W P w0 X N (.seq x y) Q S M := by
  intro w hw
  refine wp_seq ?_
  refine wp_mono (h _ (fun _ _ h => h) w hw) ?_
  rintro e a w' ⟨S', M', rfl, hs, q⟩
  cases e with
  | normal => exact q w' hs
  | exit id => exact ⟨S', M', rfl, hs, q⟩
  | goto l => exact ⟨S', M', rfl, hs, q⟩
  | ret => exact ⟨S', M', rfl, hs, q⟩
  | panic c => exact ⟨S', M', rfl, hs, q⟩
  | outgrown => exact ⟨S', M', rfl, hs, q⟩
theorem W_block {id : Nat} {c : Code} (h : W P w0 X N c (blockK id Q) S M) : W P w0 X N (.block id c) Q S M := by
  intro w hw
  refine wp_block ?_
  refine wp_mono (h w hw) ?_
  rintro e a w' ⟨S', M', rfl, hs, q⟩
  cases e with
  | exit id' =>
    simp only [blockK] at q
    simp only [Exit.inBlock]
    split
    · rename_i h; rw [if_pos h] at q; exact ⟨S', M', rfl, hs, q⟩
    · rename_i h; rw [if_neg h] at q; exact ⟨S', M', rfl, hs, q⟩
  | normal => exact ⟨S', M', rfl, hs, q⟩
  | goto l => exact ⟨S', M', rfl, hs, q⟩
  | ret => exact ⟨S', M', rfl, hs, q⟩
  | panic c => exact ⟨S', M', rfl, hs, q⟩
  | outgrown => exact ⟨S', M', rfl, hs, q⟩
theorem W_cond {c : Operand} {x y : Code} (t : Bool) (hc : evO N S c = some (.bool t)) (ht : t = true → W P w0 X N x Q S M) (hf : t = false → W P w0 X N y Q S M) : W P w0 X N (.cond c x y) Q S M := by
  intro w hw
  refine wp_cond (t := t) (by rw [act_eval]; exact evO_spec hc) ?_
  cases t
  · exact hf rfl w hw
  · exact ht rfl w hw
theorem W_true {c : Operand} {x y : Code} (hc : evO N S c = some (.bool true)) (h : W P w0 X N x Q S M) : W P w0 X N (.cond c x y) Q S M := W_cond true hc (fun _ => h) (by simp)
theorem W_false {c : Operand} {x y : Code} (hc : evO N S c = some (.bool false)) (h : W P w0 X N y Q S M) : W P w0 X N (.cond c x y) Q S M := W_cond false hc (by simp) (fun _ => h)
theorem W_skip (h : Q .normal S M) : W P w0 X N .skip Q S M := fun _ hw => wp_skip ⟨S, M, rfl, hw, h⟩
theorem W_ret (h : Q .ret S M) : W P w0 X N .ret Q S M := fun _ hw => wp_ret ⟨S, M, rfl, hw, h⟩
theorem W_exit {id : Nat} (h : Q (.exit id) S M) : W P w0 X N (.exit id) Q S M := fun _ hw => wp_exit ⟨S, M, rfl, hw, h⟩
end
theorem wp_loop_idx {P : Program} {c : Code} {Q : Exit → Act → World → Prop} (J : Nat → Act → World → Prop)
    (round : ∀ n a w, J n a w → c.wp P (Exit.then (fun a' w' => ∃ m, m < n ∧ J m a' w') Q) a w) {n : Nat} {a : Act} {w : World} (h0 : J n a w) : (Code.loop c).wp P Q a w := by
  intro b k cs
  have key : ∀ n a w, J n a w → ∃ e a' w', Q e a' w' ∧ Arrives P (lone (b.at a (.code c :: .inLoop c :: k)) cs w) b k cs e a' w' := by
    intro n
    induction n using Nat.strongRecOn with
    | _ n ih =>
      intro a w hI
      obtain ⟨e, a₁, w₁, hq, harr⟩ := round n a w hI b (.inLoop c :: k) cs
      cases e with
      | normal =>
        obtain ⟨m, hlt, hI₁⟩ := hq
        obtain ⟨e₂, a₂, w₂, hq₂, harr₂⟩ := ih m hlt a₁ w₁ hI₁
        exact ⟨e₂, a₂, w₂, hq₂, .of_steps (Steps.trans harr (.one step_inLoop)) harr₂⟩
      | exit id => exact ⟨_, a₁, w₁, hq, .pass (x := .inLoop c) rfl (fun _ _ => .inl (by simp)) harr⟩
      | goto l => exact ⟨_, a₁, w₁, hq, .pass (x := .inLoop c) rfl (fun _ _ => .inl (by simp)) harr⟩
      | ret => exact ⟨_, a₁, w₁, hq, .pass (x := .inLoop c) rfl (fun _ _ => .inl (by simp)) harr⟩
      | panic ch => exact ⟨_, a₁, w₁, hq, .pass (x := .inLoop c) rfl (fun _ _ => .inl (by simp)) harr⟩
      | outgrown => exact ⟨_, a₁, w₁, hq, .pass (x := .inLoop c) rfl (fun _ _ => .inl (by simp)) harr⟩
  obtain ⟨e, a', w', hq, harr⟩ := key n a w h0
  exact ⟨e, a', w', hq, .of_steps (.one step_loop) harr⟩
/-- A loop by a relation on frames and blocks that bears its measure. -/
theorem W_loop {P : Program} {w0 : World} {X : List Nat} {N : Nat} {Q : Post} {S : Fr} {M : List Blk} {c : Code} (I : Nat → Fr → List Blk → Prop) (n : Nat) (h0 : ∃ M', M'.Sublist M ∧ I n S M')
    (round : ∀ n S M, I n S M → W P w0 X N c (thenK (fun S' M' => ∃ M'' m, M''.Sublist M' ∧ m < n ∧ I m S' M'') Q) S M) : W P w0 X N (.loop c) Q S M := by
  intro w hw
  obtain ⟨M', hsub, hI⟩ := h0
  refine wp_loop_idx (fun n a w => ∃ S M, a = act N S ∧ Sat w0 X M w ∧ I n S M) ?_ ⟨S, M', rfl, hw.sub hsub, hI⟩
  rintro n a w ⟨S, M, rfl, hs, hI⟩
  refine wp_mono (round n S M hI w hs) ?_
  rintro e a w' ⟨S', M', rfl, hs', q⟩
  cases e with
  | normal =>
    obtain ⟨M'', m, hsub, hlt, hI'⟩ := q
    exact ⟨m, hlt, S', M'', rfl, hs'.sub hsub, hI'⟩
  | exit id => exact ⟨S', M', rfl, hs', q⟩
  | goto l => exact ⟨S', M', rfl, hs', q⟩
  | ret => exact ⟨S', M', rfl, hs', q⟩
  | panic c => exact ⟨S', M', rfl, hs', q⟩
  | outgrown => exact ⟨S', M', rfl, hs', q⟩
end Go.Kn
