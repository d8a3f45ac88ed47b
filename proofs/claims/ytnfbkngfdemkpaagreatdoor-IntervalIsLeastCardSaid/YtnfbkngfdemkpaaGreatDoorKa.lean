/- Appending to a list of our own, wherever its block stands among those that we hold. No program stands in it. -/
import Derived.Test.YtnfbkngfdemkpaaGreatDoorGD
set_option linter.unusedVariables false
set_option linter.unusedSimpArgs false
namespace Go.Kn
open Go
/-- M is L and R, in some order. -/
def Frq (M L R : List Blk) : Prop := M.Perm (L ++ R)
theorem fq_b {x : Blk} {R : List Blk} : Frq (x :: R) [x] R := List.Perm.refl _
theorem fq_l {L R : List Blk} : Frq (L ++ R) L R := List.Perm.refl _
theorem fq_s {x : Blk} {R L R' : List Blk} (h : Frq R L R') : Frq (x :: R) L (x :: R') := (List.Perm.cons x h).trans List.perm_middle.symm
theorem fq_sl {L2 R L R' : List Blk} (h : Frq R L R') : Frq (L2 ++ R) L (L2 ++ R') := by
  have h1 : (L2 ++ R).Perm (L2 ++ (L ++ R')) := List.Perm.append_left L2 h
  have h2 : (L2 ++ (L ++ R')).Perm (L ++ (L2 ++ R')) := by
    rw [← List.append_assoc, ← List.append_assoc]
    exact List.Perm.append_right R' List.perm_append_comm
  exact h1.trans h2
theorem Sat.perm {w0 w : World} {X : List Nat} {M M' : List Blk} (h : Sat w0 X M w) (p : M.Perm M') : Sat w0 X M' w :=
  ⟨h.os, h.tape, h.output, h.size, h.old, (p.map Blk.b).nodup_iff.1 h.nodup, fun x hx => h.mem x (p.mem_iff.2 hx)⟩
theorem OwnG.lit {α : Type} {e : El α} {w0 : World} {l : List α} {E : TypeId} {b n : Nat} {qs : List Part} (hb : w0.heap.size ≤ b) (hn : l.length = n) (hm : n ≤ maxLen) (hq : qs = l.flatMap e.ps) : OwnG w0 E e (.slice (some ⟨b, 0, none⟩) n n) l [⟨b, E, flat qs⟩] :=
  OwnG.of_mine hb hn hm (by rw [hq]; exact rows_ps l)
theorem r_appendM {α : Type} {e : El α} {P : Program} {w0 : World} {X : List Nat} {N : Nm} {S : Fr} {M : List Blk} {d : Option Tmp} {ty : TypeId} {ps : String} {af : Array Edge} {gd : Option (Nat × Bool)} {v : Value} {l : List α}
    {T E : TypeId} {x y : Operand} {u : Value} {m : List α} {L M1 : List Blk} {K : Value → List Blk → Prop} (bytes : Nat) (hT : P.underlying T = some (.slice E)) (hE : tySz P E e.n bytes = true) (h0 : 0 < e.n) (hx : evO N S x = some v) (hy : evO N S y = some u)
    (hv : OwnG w0 E e v l L) (hu : SLe w0 X M e u m) (hs : Frq M L M1) (hn : (l.length + m.length) * bytes ≤ 140737488355328) (h8 : 0 < bytes) (k : ∀ v' L', OwnG w0 E e v' (l ++ m) L' → K v' (L' ++ M1)) :
    OpR P w0 X N ⟨d, .call { callee := .builtin .append, args := #[x, y], argTypes := #[T, T] }, ty, ps, af, gd⟩ S M K := fun w hw =>
  r_appendG (M := L ++ M1) hT hE h0 hx hy hv (fun w hw => hu w (hw.perm (List.Perm.symm hs))) (List.Sublist.refl _) hn h8 k w (hw.perm hs)
end Go.Kn
