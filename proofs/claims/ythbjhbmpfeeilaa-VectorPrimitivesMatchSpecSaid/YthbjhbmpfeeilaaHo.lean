/- From a reading of an argument (bools, integers, arrays and structs of them) to the value of a plain type. No program stands in it. -/
import Derived.Test.YthbjhbmpfeeilaaTy
import Derived.ProofKit
import Derived.OpenShut
import Derived.ShutString
import Derived.ChangeOld
import Derived.Below
set_option linter.unusedVariables false
set_option linter.unusedSimpArgs false
namespace Go.Num
open Go Go.Kn Go.RowKit Go.ChangeShapes Go.WideShapes
def lwf : Value → Leaf → Prop
  | .bool _, none => True
  | .int k n, some k' => k = k' ∧ (Lit.int k n).wf = true
  | _, _ => False
def LWF : List Value → List Leaf → Prop
  | [], [] => True
  | v :: vs, l :: ls => lwf v l ∧ LWF vs ls
  | _, _ => False
theorem LWF.len : ∀ {vs : List Value} {ls : List Leaf}, LWF vs ls → vs.length = ls.length
  | [], [], _ => rfl
  | v :: vs, l :: ls, h => by simp [LWF.len h.2]
  | [], _ :: _, h => h.elim
  | _ :: _, [], h => h.elim
theorem LWF.append : ∀ {vs us : List Value} {ls ms : List Leaf}, LWF vs ls → LWF us ms → LWF (vs ++ us) (ls ++ ms)
  | [], _, [], _, _, k => k
  | v :: vs, _, l :: ls, _, h, k => ⟨h.1, LWF.append h.2 k⟩
  | [], _, _ :: _, _, h, _ => h.elim
  | _ :: _, _, [], _, h, _ => h.elim
theorem LWF.split : ∀ {ls ms : List Leaf} {vs : List Value}, LWF vs (ls ++ ms) → ∃ a b, vs = a ++ b ∧ LWF a ls ∧ LWF b ms
  | [], _, vs, h => ⟨[], vs, rfl, trivial, h⟩
  | l :: ls, ms, [], h => h.elim
  | l :: ls, ms, v :: vs, h => by
    obtain ⟨a, b, rfl, h1, h2⟩ := LWF.split (ls := ls) (ms := ms) h.2
    exact ⟨v :: a, b, rfl, ⟨h.1, h1⟩, h2⟩
/-- The leaves of a type, with its sizes held against them. -/
def lzGo (P : Program) (f : TypeId → Option (List Leaf)) : List Field → Nat → Option (List Leaf)
  | [], _ => some []
  | x :: fs, off => if x.offset ≠ off then none else (f x.type).bind fun l => if P.cellsOf x.type = l.length then (lzGo P f fs (off + l.length)).map (l ++ ·) else none
def lz (P : Program) : Nat → TypeId → Option (List Leaf)
  | 0, _ => none
  | d + 1, T => match P.underlying T with
    | some .bool => some [none]
    | some (.int k) => some [some k]
    | some (.array n e) => (lz P d e).bind fun l => if P.cellsOf e = l.length ∧ P.cellsOf T = n * l.length then some ((List.replicate n l).flatten) else none
    | some (.struct fs) => (lzGo P (lz P d) fs.toList 0).bind fun l => if P.cellsOf T = l.length then some l else none
    | _ => none
def isAggT (P : Program) (T : TypeId) : Bool := match P.underlying T with | some (.struct _) => true | some (.array _ _) => true | _ => false
section
variable {H : Type} {enc : TypeId × Value → H} {P : Program} {w : World} {base : Nat} {spare : Nat → Bool} {held : Bool}
theorem lwf_chunks {l : List Leaf} : ∀ (n : Nat) (cs : List Value), cs.length = n * l.length → (∀ i, i < n → LWF ((cs.drop (i * l.length)).take l.length) l) → LWF cs ((List.replicate n l).flatten)
  | 0, cs, hl, _ => by
    have : cs = [] := List.eq_nil_of_length_eq_zero (by simpa using hl)
    subst this; exact trivial
  | n + 1, cs, hl, h => by
    rw [List.replicate_succ, List.flatten_cons]
    have h0 := h 0 (by omega)
    rw [Nat.zero_mul, List.drop_zero] at h0
    have := lwf_chunks (l := l) n (cs.drop l.length) (by rw [List.length_drop, hl, Nat.succ_mul, Nat.add_sub_cancel]) (fun i hi => by
      have := h (i + 1) (by omega)
      rw [List.drop_drop, show l.length + i * l.length = (i + 1) * l.length by rw [Nat.succ_mul]; omega]; exact this)
    have e := LWF.append h0 this
    rwa [List.take_append_drop] at e
theorem lwf_go {f : TypeId → Option (List Leaf)} : ∀ (fs : List Field) (off : Nat) (ls : List Leaf) (cs : List Value), lzGo P f fs off = some ls → cs.length = off + ls.length →
    (∀ (i : Nat) (x : Field), fs[i]? = some x → ∀ l, f x.type = some l → LWF ((cs.drop x.offset).take (P.cellsOf x.type)) l) → LWF (cs.drop off) ls
  | [], off, ls, cs, h, hl, _ => by
    cases h
    have : cs.drop off = [] := List.eq_nil_of_length_eq_zero (by rw [List.length_drop]; simp at hl; omega)
    rw [this]; exact trivial
  | x :: fs, off, ls, cs, h, hl, hx => by
    unfold lzGo at h
    split at h
    · cases h
    · rename_i ho
      have ho' : x.offset = off := Classical.byContradiction ho
      cases hf : f x.type with
      | none => simp [hf] at h
      | some l =>
        simp only [hf, Option.bind_some] at h
        split at h
        · rename_i hs
          cases hg : lzGo P f fs (off + l.length) with
          | none => simp [hg] at h
          | some m =>
            simp only [hg, Option.map_some, Option.some.injEq] at h
            subst h
            have h1 := hx 0 x rfl l hf
            rw [ho', hs] at h1
            have h2 := lwf_go fs (off + l.length) m cs hg (by rw [hl, List.length_append]; omega) (fun i y hy => hx (i + 1) y (by simpa using hy))
            have e := LWF.append h1 h2
            rw [← List.drop_drop] at e
            rwa [List.take_append_drop] at e
        · cases h
theorem lwf_of_trod : ∀ (d : Nat) {T : TypeId} {ls : List Leaf} {fuel : Nat} {cs : List Value} {x : DataW H × List MemPlace}, lz P d T = some ls → DataW.trod enc P w base spare held fuel T cs = some x → LWF cs ls
  | 0, _, _, _, _, _, h, _ => by cases h
  | d + 1, T, ls, fuel, cs, x, h, ht => by
    unfold lz at h
    split at h
    · rename_i hu
      cases h
      cases fuel with
      | zero => simp [DataW.trod] at ht
      | succ m =>
        unfold DataW.trod at ht
        rw [hu] at ht
        split at ht <;> simp_all [LWF, lwf]
    · rename_i k hu
      cases h
      obtain ⟨n, h1, _, h3⟩ := DataW.trod_int hu ht
      subst h1; exact ⟨⟨rfl, h3⟩, trivial⟩
    · rename_i n e hu
      cases hl : lz P d e with
      | none => simp [hl] at h
      | some l =>
        simp only [hl, Option.bind_some] at h
        split at h
        · rename_i hs
          cases h
          obtain ⟨xs, m, _, _, hlen, hxl, hall⟩ := DataW.trod_array hu ht
          refine lwf_chunks n cs (by rw [hlen, hs.2]) (fun i hi => ?_)
          have h1 := hall i hi
          rw [hs.1, List.getElem?_eq_getElem (by rw [hxl]; exact hi)] at h1
          exact lwf_of_trod d hl h1
        · cases h
    · rename_i fs hu
      cases hl : lzGo P (lz P d) fs.toList 0 with
      | none => simp [hl] at h
      | some l =>
        simp only [hl, Option.bind_some] at h
        split at h
        · rename_i hs
          cases h
          obtain ⟨xs, m, _, _, hlen, hxl, hall⟩ := DataW.trod_struct hu ht
          have := lwf_go fs.toList 0 ls cs hl (by rw [hlen, hs]; omega) (fun i y hy l' hl' => by
            have hy' : fs[i]? = some y := by simpa using hy
            have h1 := hall i y hy'
            have hi : i < fs.size := (Array.getElem?_eq_some_iff.1 hy').1
            rw [List.getElem?_eq_getElem (by rw [hxl]; exact hi)] at h1
            exact lwf_of_trod d hl' h1)
          rwa [List.drop_zero] at this
        · cases h
    · cases h
theorem wf_Trod {T : TypeId} {ls : List Leaf} {v : Value} {d : DataW H} {p : List MemPlace} (h : lz P 8 T = some ls) (ht : DataW.Trod enc P w base spare held T v d p) : LWF v.cells.toList ls := by
  obtain ⟨fuel, hf⟩ := ht
  exact lwf_of_trod 8 h hf
theorem okWide_agg {r : Reach} {T : TypeId} {v : Value} (h : isAggT P T = true) (hv : Value.okWide P w r base T v) : ∃ cs : List Value, v = .agg cs.toArray := by
  unfold isAggT at h
  unfold Value.okWide at hv
  split at h
  · rename_i fs hu; rw [hu] at hv; obtain ⟨cs, hc, _⟩ := hv; exact ⟨cs.toList, by simpa using hc⟩
  · rename_i n e hu; rw [hu] at hv; obtain ⟨cs, hc, _⟩ := hv; exact ⟨cs.toList, by simpa using hc⟩
  · cases h
end
theorem openW {cs : List Value} (h : LWF cs [some .i64]) : ∃ x : W, cs = [.int .i64 x.1] := by
  match cs, h with
  | [.int k n], h =>
    obtain ⟨⟨rfl, hw⟩, _⟩ := h
    have := bounds_i64 hw
    exact ⟨⟨n, this⟩, rfl⟩
theorem openB {cs : List Value} (h : LWF cs [none]) : ∃ b : Bool, cs = [.bool b] := by
  match cs, h with
  | [.bool b], _ => exact ⟨b, rfl⟩
theorem open_uw : ∀ {n : Nat} {cs : List Value}, LWF cs (List.replicate n (some .u32)) → ∃ l : List Nat, l.length = n ∧ Lim l ∧ cs = uw l
  | 0, [], _ => ⟨[], rfl, (fun _ h => by cases h), rfl⟩
  | 0, _ :: _, h => h.elim
  | n + 1, [], h => h.elim
  | n + 1, v :: vs, h => by
    obtain ⟨l, hl, hlim, rfl⟩ := open_uw (n := n) (cs := vs) h.2
    match v, h.1 with
    | .int k m, hv =>
      obtain ⟨rfl, hw⟩ := hv
      have hb := bounds_u32 hw
      refine ⟨m.toNat :: l, by simp [hl], fun d hd => ?_, ?_⟩
      · rcases List.mem_cons.1 hd with rfl | hd
        · omega
        · exact hlim d hd
      · have : ((m.toNat : Nat) : Int) = m := by omega
        simp [uw, U32, this]
theorem openI {cs : List Value} (h : LWF cs LI) : ∃ x : I, cs = (pI x).l := by
  match cs, h with
  | .bool a :: .bool b :: rest, h =>
    obtain ⟨l, hl, hlim, rfl⟩ := open_uw h.2.2
    exact ⟨⟨⟨a, b, l⟩, ⟨hl, hlim⟩⟩, rfl⟩
end Go.Num
