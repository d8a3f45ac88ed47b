/- A small logic of its own for walking code whose memory is its own: regions in any order, classes of worlds, frames as lists. No program stands in it. -/
import Derived.Still
import Derived.Below
set_option linter.unusedVariables false
set_option linter.unusedSimpArgs false
namespace Go.Kn
open Go.RowKit

/-- What a class of worlds is: a property of worlds. -/
abbrev Cls := World → Prop
def Ext (w w' : World) : Prop := Below w.heap.size w w'
theorem Ext.refl (w : World) : Ext w w := Below.refl _ _
theorem Ext.trans {a b c : World} (h : Ext a b) (k : Ext b c) : Ext a c := Below.trans h (Below.mono k h.size)
def Mono (C : Cls) : Prop := ∀ w w', C w → Ext w w' → C w'

def upon (P : Program) (K : Value → World → Prop) : Result Next → Prop
  | .ok (.value v) w' => K v w'
  | .ok .skip w' => K undef w'
  | .ok (.enter f args) w' => Calls P f args w' fun e w'' => ∃ v, e = .returned v ∧ K v w''
  | _ => False
def opw (P : Program) (o : Oper) (a : Act) (w : World) (K : Value → World → Prop) : Prop := upon P K ((execOp a.eval o).run P w)

theorem upon_mono {P : Program} {K K' : Value → World → Prop} (h : ∀ v w, K v w → K' v w) : ∀ {r : Result Next}, upon P K r → upon P K' r := by
  intro r hr
  cases r with
  | ok n w' =>
    cases n <;> simp only [upon] at hr ⊢
    case value => exact h _ _ hr
    case skip => exact h _ _ hr
    case enter => exact hr.mono fun e w'' ⟨v, he, hk⟩ => ⟨v, he, h _ _ hk⟩
  | halt x w' => simp only [upon] at hr
theorem opw_mono {P : Program} {o : Oper} {a : Act} {w : World} {K K' : Value → World → Prop} (h : ∀ v w, K v w → K' v w) (hh : opw P o a w K) : opw P o a w K' :=
  upon_mono h hh
theorem wp_of_opw {P : Program} {o : Oper} {a : Act} {w : World} {K : Value → World → Prop} {K' : Act → World → Prop} {Q : Exit → Act → World → Prop}
    (h : ∀ v w', K v w' → K' (a.put o.dst v) w') (hh : opw P o a w K) : o.wp P a w K' Q := by
  unfold opw at hh
  unfold Oper.wp
  generalize (execOp a.eval o).run P w = r at *
  cases r with
  | ok n w' =>
    cases n <;> simp only [upon] at hh <;> simp only [Oper.upon]
    case value => exact h _ _ hh
    case skip => exact h _ _ hh
    case enter => exact hh.mono fun e w'' ⟨v, he, hk⟩ => by subst he; exact h _ _ hk
  | halt x w' => simp only [upon] at hh

section any
variable (P : Program) (ops : Array Oper) (nw : List Nat)
/-- Whatever order is picked from here on; 'nw': the operations that only add to memory. -/
def AnyK (D : Cls) (Q : Act → Cls → Prop) : Nat → Array Bool → Act → Cls → Prop
  | 0, listed, a, C => Region.ready .any ops listed = [] ∧ Q a C
  | fuel + 1, listed, a, C => (Region.ready .any ops listed = [] → Q a C) ∧
    ∀ j ∈ Region.ready .any ops listed, ∀ o, ops[j]? = some o →
      if Region.wanted o (yielded ops a.tmps) then
        ∀ w, C w → opw P o a w fun v w' => ∃ C', Mono C' ∧ C' w' ∧ (nw.contains j = true → ∀ x, C' x → C x) ∧ (∀ x, C' x → D x) ∧
          AnyK D Q fuel (listed.setIfInBounds j true) (a.put o.dst v) C'
      else AnyK D Q fuel (listed.setIfInBounds j true) (a.put o.dst undef) C
end any
section any
variable {P : Program} {ops : Array Oper} {nw : List Nat} {D : Cls}
theorem wpAny_of_anyK {Q : Act → Cls → Prop} {Q' : Exit → Act → World → Prop} (hQ : ∀ a C w, C w → Q a C → Q' .normal a w) :
    ∀ (fuel : Nat) (listed : Array Bool) (a : Act) (C : Cls) (w : World), C w → AnyK P ops nw D Q fuel listed a C → wpAny P .any ops Q' fuel listed a w
  | 0, _, _, _, _, hw, h => ⟨h.1, hQ _ _ _ hw h.2⟩
  | fuel + 1, listed, a, C, w, hw, h => by
    refine ⟨fun h0 => hQ _ _ _ hw (h.1 h0), fun i hi => ?_⟩
    have h1 := h.2 i hi
    unfold wpOp
    split
    · rename_i ho
      obtain ⟨_, o, ho', _⟩ := mem_ready.1 hi
      rw [ho'] at ho; cases ho
    · rename_i o ho
      have h2 := h1 o ho
      split
      · rename_i hwt
        rw [if_pos hwt] at h2
        exact .inl (wp_of_opw (fun v w' ⟨C', _, hc', _, _, hk⟩ => wpAny_of_anyK hQ fuel _ _ C' w' hc' hk) (h2 w hw))
      · rename_i hwt
        rw [if_neg hwt] at h2
        exact wpAny_of_anyK hQ fuel _ _ C w hw h2

/-- In state 'a', in every world of the class, 'o' leaves v, and adds to memory at most. -/
def YQ (P : Program) (ops : Array Oper) (C : Cls) (o : Oper) (v : Value) (a : Act) : Prop :=
  (Region.wanted o (yielded ops a.tmps) = true ∧ ∀ w, C w → opw P o a w fun u w' => u = v ∧ Ext w w') ∨
  (Region.wanted o (yielded ops a.tmps) = false ∧ v = undef)
theorem YQ.move {C C' : Cls} {o oj : Oper} {v u : Value} {a : Act} (hy : YQ P ops C o v a) (hs : ∀ cs b, o.op ≠ .select cs b)
    (h3 : ∀ d, oj.dst = some d → d ∉ o.looksAt ops) (hC : ∀ x, C' x → C x) : YQ P ops C' o v (a.put oj.dst u) := by
  rcases hy with ⟨h1, h2⟩ | ⟨h1, h2⟩
  · refine .inl ⟨by rw [wanted_put o a oj.dst u h3]; exact h1, fun w hw => ?_⟩
    have := h2 w (hC w hw)
    unfold opw at *
    rw [execOp_put o hs a oj.dst u h3]; exact this
  · exact .inr ⟨by rw [wanted_put o a oj.dst u h3]; exact h1, h2⟩
theorem YQ.sub {C C' : Cls} {o : Oper} {v : Value} {a : Act} (hy : YQ P ops C o v a) (hC : ∀ x, C' x → C x) : YQ P ops C' o v a := by
  rcases hy with ⟨h1, h2⟩ | h
  · exact .inl ⟨h1, fun w hw => h2 w (hC w hw)⟩
  · exact .inr h
theorem anyK_here {Q : Act → Cls → Prop} {i : Nat} {oi : Oper} {v : Value} {fuel : Nat} {listed : Array Bool} {a : Act} {C : Cls}
    (hi : ops[i]? = some oi) (hm : Mono C) (hCD : ∀ x, C x → D x) (hy : YQ P ops C oi v a) (H : AnyK P ops nw D Q fuel (listed.setIfInBounds i true) (a.put oi.dst v) C) :
    ∀ o, ops[i]? = some o → if Region.wanted o (yielded ops a.tmps) then
        ∀ w, C w → opw P o a w fun v w' => ∃ C', Mono C' ∧ C' w' ∧ (nw.contains i = true → ∀ x, C' x → C x) ∧ (∀ x, C' x → D x) ∧
          AnyK P ops nw D Q fuel (listed.setIfInBounds i true) (a.put o.dst v) C'
      else AnyK P ops nw D Q fuel (listed.setIfInBounds i true) (a.put o.dst undef) C := by
  intro o ho
  rw [hi] at ho; cases ho
  rcases hy with ⟨h1, h2⟩ | ⟨h1, rfl⟩
  · rw [if_pos h1]
    intro w hw
    exact opw_mono (fun u w' ⟨hu, he⟩ => by subst hu; exact ⟨C, hm, hm _ _ hw he, fun _ _ h => h, hCD, H⟩) (h2 w hw)
  · rw [if_neg (by simp [h1])]; exact H
/-- A quiet operation that is ready may be taken first, if whatever may come before it is apart from it and only adds to memory. -/
theorem anyK_first {Q : Act → Cls → Prop} {i : Nat} {oi : Oper} {v : Value} {Ws : List Nat} {E : Cls} (still : Bool) (hDE : still = true → ∀ x, D x → E x) (hi : ops[i]? = some oi)
    (hsel : ∀ (j : Nat) (o : Oper) cs b, ops[j]? = some o → o.op ≠ .select cs b)
    (hWs : ∀ j ∈ Ws, ∃ oj, ops[j]? = some oj ∧ ∃ e ∈ oj.after, Region.binds .any e = true ∧ (e.on = i ∨ e.on ∈ Ws)) :
    ∀ (fuel : Nat) (listed : Array Bool) (a : Act) (C : Cls), Mono C → (∀ x, C x → D x) → (∀ x, C x → E x) →
      (∀ j ∈ Ws, listed.getD j false = false) →
      (∀ j oj, ops[j]? = some oj → j ≠ i → listed.getD j true = false → j ∉ Ws → oi.apart ops oj = true ∧ (nw.contains j = true ∨ still = true)) →
      i ∈ Region.ready .any ops listed → YQ P ops E oi v a →
      AnyK P ops nw D Q fuel (listed.setIfInBounds i true) (a.put oi.dst v) C → AnyK P ops nw D Q (fuel + 1) listed a C := by
  intro fuel
  induction fuel with
  | zero =>
    intro listed a C hm hCD hCE _ _ hr hy H
    refine ⟨fun h => (by rw [h] at hr; cases hr), fun j hj => ?_⟩
    by_cases hji : j = i
    · subst hji; exact anyK_here hi hm hCD (hy.sub hCE) H
    · have := ready_mono hj hji
      rw [H.1] at this
      cases this
  | succ fuel ih =>
    intro listed a C hm hCD hCE hW hfree hr hy H
    refine ⟨fun h => (by rw [h] at hr; cases hr), fun j hj => ?_⟩
    by_cases hji : j = i
    · subst hji; exact anyK_here hi hm hCD (hy.sub hCE) H
    · obtain ⟨hjun, oj, hoj, hall⟩ := mem_ready.1 hj
      have hiun : listed.getD i false = false := by
        have h0 := (mem_ready.1 hr).1
        rcases Nat.lt_or_ge i listed.size with h' | h'
        · simpa [h'] using h0
        · simp [Array.getElem?_eq_none h']
      have hjW : j ∉ Ws := fun hjw => by
        obtain ⟨oj', hoj', e, he, hb, hon⟩ := hWs j hjw
        rw [hoj] at hoj'; cases hoj'
        have h1 := hall e he hb
        rcases hon with hon | hon
        · rw [hon, hiun] at h1; cases h1
        · rw [hW _ hon] at h1; cases h1
      obtain ⟨hap, hnw⟩ := hfree j oj hoj hji hjun hjW
      obtain ⟨h1, h2, h3⟩ := Oper.apart_spec hap
      intro o ho
      rw [hoj] at ho; cases ho
      have hH := H.2 j (ready_mono hj hji) oj hoj
      rw [wanted_put oj a oi.dst v h1] at hH
      have hfree' : ∀ k ok, ops[k]? = some ok → k ≠ i → (listed.setIfInBounds j true).getD k true = false → k ∉ Ws → oi.apart ops ok = true ∧ (nw.contains k = true ∨ still = true) := fun k ok hk hki hun hno => by
        refine hfree k ok hk hki ?_ hno
        by_cases hjk : j = k
        · subst hjk; exact hjun
        · rw [getD_set_ne true hjk] at hun; exact hun
      have hW' : ∀ k ∈ Ws, (listed.setIfInBounds j true).getD k false = false := fun k hk => by
        rw [getD_set_ne false (fun e : j = k => hjW (by rw [e]; exact hk))]; exact hW k hk
      split
      · rename_i hwt
        rw [if_pos hwt] at hH
        intro w hw
        have := hH w hw
        unfold opw at *
        rw [execOp_put oj (fun cs b => hsel j oj cs b hoj) a oi.dst v h1] at this
        refine upon_mono ?_ this
        rintro u w' ⟨C', hm', hc', hsub, hsd, hk⟩
        refine ⟨C', hm', hc', hsub, hsd, ?_⟩
        have hE' : ∀ x, C' x → E x := fun x hx => by
          rcases hnw with h | h
          · exact hCE x (hsub h x hx)
          · exact hDE h x (hsd x hx)
        refine ih _ _ _ hm' hsd hE' hW' hfree' (ready_mono hr (Ne.symm hji)) (hy.move (fun cs b => hsel i oi cs b hi) h3 (fun _ h => h)) ?_
        rw [Array.setIfInBounds_comm _ _ hji, Act.put_comm _ u v (fun d hd he => h2 d he hd)]
        exact hk
      · rename_i hwt
        rw [if_neg hwt] at hH
        refine ih _ _ _ hm hCD hCE hW' hfree' (ready_mono hr (Ne.symm hji)) (hy.move (fun cs b => hsel i oi cs b hi) h3 (fun _ h => h)) ?_
        rw [Array.setIfInBounds_comm _ _ hji, Act.put_comm _ undef v (fun d hd he => h2 d he hd)]
        exact hH
end any

/-! ### A plan for a region: which operation is taken when -/
inductive Plan where
  | fin
  /-- a quiet operation, taken first; 'ws': the operations that wait for it, directly or not -/
  | quiet (i : Nat) (ws : List Nat) (rest : Plan)
  /-- the one operation that is ready -/
  | only (i : Nat) (rest : Plan)
  /-- like 'quiet', and it looks at nothing that the region writes -/
  | still (i : Nat) (ws : List Nat) (rest : Plan)
  | both (i : Nat) (r : Plan) (j : Nat) (s : Plan)
def Plan.run (P : Program) (ops : Array Oper) (nw : List Nat) (D : Cls) (Q : Act → Cls → Prop) : Plan → Act → Cls → Prop
  | .fin, a, C => Q a C
  | .still i _ r, a, C => ∃ o v, ops[i]? = some o ∧ YQ P ops D o v a ∧ Plan.run P ops nw D Q r (a.put o.dst v) C
  | .quiet i _ r, a, C => ∃ o v, ops[i]? = some o ∧ YQ P ops C o v a ∧ Plan.run P ops nw D Q r (a.put o.dst v) C
  | .only i r, a, C => ∀ o, ops[i]? = some o → if Region.wanted o (yielded ops a.tmps) then
        ∀ w, C w → opw P o a w fun v w' => ∃ C', Mono C' ∧ C' w' ∧ (nw.contains i = true → ∀ x, C' x → C x) ∧ (∀ x, C' x → D x) ∧ Plan.run P ops nw D Q r (a.put o.dst v) C'
      else Plan.run P ops nw D Q r (a.put o.dst undef) C
  | .both i r j s, a, C => (∀ o, ops[i]? = some o → if Region.wanted o (yielded ops a.tmps) then
        ∀ w, C w → opw P o a w fun v w' => ∃ C', Mono C' ∧ C' w' ∧ (nw.contains i = true → ∀ x, C' x → C x) ∧ (∀ x, C' x → D x) ∧ Plan.run P ops nw D Q r (a.put o.dst v) C'
      else Plan.run P ops nw D Q r (a.put o.dst undef) C) ∧ (∀ o, ops[j]? = some o → if Region.wanted o (yielded ops a.tmps) then
        ∀ w, C w → opw P o a w fun v w' => ∃ C', Mono C' ∧ C' w' ∧ (nw.contains j = true → ∀ x, C' x → C x) ∧ (∀ x, C' x → D x) ∧ Plan.run P ops nw D Q s (a.put o.dst v) C'
      else Plan.run P ops nw D Q s (a.put o.dst undef) C)
def quietOk (ops : Array Oper) (nw : List Nat) (still : Bool) (listed : Array Bool) (i : Nat) (ws : List Nat) : Bool :=
  match ops[i]? with
  | none => false
  | some oi =>
    (Region.ready .any ops listed).contains i &&
    ws.all (fun j => !listed.getD j false && (match ops[j]? with | some oj => oj.after.any (fun e => Region.binds .any e && (e.on == i || ws.contains e.on)) | none => false)) &&
    (List.range ops.size).all fun j => j == i || listed.getD j true || ws.contains j || ((nw.contains j || still) && (match ops[j]? with | some oj => oi.apart ops oj | none => true))
def Plan.ok (ops : Array Oper) (nw : List Nat) : Nat → Array Bool → Plan → Bool
  | _, listed, .fin => (Region.ready .any ops listed).isEmpty
  | 0, _, _ => false
  | fuel + 1, listed, .still i ws r => quietOk ops nw true listed i ws && Plan.ok ops nw fuel (listed.setIfInBounds i true) r
  | fuel + 1, listed, .quiet i ws r => quietOk ops nw false listed i ws && Plan.ok ops nw fuel (listed.setIfInBounds i true) r
  | fuel + 1, listed, .only i r => (Region.ready .any ops listed) == [i] && Plan.ok ops nw fuel (listed.setIfInBounds i true) r
  | fuel + 1, listed, .both i r j s => (Region.ready .any ops listed) == [i, j] && Plan.ok ops nw fuel (listed.setIfInBounds i true) r && Plan.ok ops nw fuel (listed.setIfInBounds j true) s

theorem anyK_fin {P : Program} {ops : Array Oper} {nw : List Nat} {D : Cls} {Q : Act → Cls → Prop} {fuel : Nat} {listed : Array Bool} {a : Act} {C : Cls}
    (h : Region.ready .any ops listed = []) (hq : Q a C) : AnyK P ops nw D Q fuel listed a C := by
  cases fuel with
  | zero => exact ⟨h, hq⟩
  | succ n => exact ⟨fun _ => hq, fun j hj => by rw [h] at hj; cases hj⟩
theorem Plan.sound {P : Program} {ops : Array Oper} {nw : List Nat} {D : Cls} {Q : Act → Cls → Prop} (hs : Region.noSelect ops = true) :
    ∀ (fuel : Nat) (p : Plan) (listed : Array Bool) (a : Act) (C : Cls), Plan.ok ops nw fuel listed p = true → Mono C → (∀ x, C x → D x) → Plan.run P ops nw D Q p a C → AnyK P ops nw D Q fuel listed a C := by
  intro fuel
  induction fuel with
  | zero =>
    intro p listed a C hok hm hCD hr
    cases p <;> simp only [Plan.ok, Bool.false_eq_true] at hok
    exact anyK_fin (by simpa using hok) hr
  | succ fuel ih =>
    intro p listed a C hok hm hCD hr
    have step : ∀ (i : Nat) (r : Plan), Plan.ok ops nw fuel (listed.setIfInBounds i true) r = true →
        (∀ o, ops[i]? = some o → if Region.wanted o (yielded ops a.tmps) then
        ∀ w, C w → opw P o a w fun v w' => ∃ C', Mono C' ∧ C' w' ∧ (nw.contains i = true → ∀ x, C' x → C x) ∧ (∀ x, C' x → D x) ∧ Plan.run P ops nw D Q r (a.put o.dst v) C'
      else Plan.run P ops nw D Q r (a.put o.dst undef) C) → ∀ o, ops[i]? = some o → if Region.wanted o (yielded ops a.tmps) then
        ∀ w, C w → opw P o a w fun v w' => ∃ C', Mono C' ∧ C' w' ∧ (nw.contains i = true → ∀ x, C' x → C x) ∧ (∀ x, C' x → D x) ∧
          AnyK P ops nw D Q fuel (listed.setIfInBounds i true) (a.put o.dst v) C'
      else AnyK P ops nw D Q fuel (listed.setIfInBounds i true) (a.put o.dst undef) C := by
      intro i r hk h o ho
      have h1 := h o ho
      split
      · rename_i hwt
        rw [if_pos hwt] at h1
        intro w hw
        exact opw_mono (fun v w' ⟨C', hm', hc, hsub, hsd, hrun⟩ => ⟨C', hm', hc, hsub, hsd, ih r _ _ _ hk hm' hsd hrun⟩) (h1 w hw)
      · rename_i hwt
        rw [if_neg hwt] at h1
        exact ih r _ _ _ hk hm hCD h1
    cases p with
    | fin => simp only [Plan.ok] at hok; exact anyK_fin (by simpa using hok) hr
    | quiet i ws r =>
      simp only [Plan.ok, Bool.and_eq_true] at hok
      obtain ⟨hq, hok'⟩ := hok
      obtain ⟨o, v, ho, hy, hrun⟩ := hr
      unfold quietOk at hq
      simp only [ho, Bool.and_eq_true] at hq
      obtain ⟨⟨hready, hws⟩, hrest⟩ := hq
      simp only [List.all_eq_true, Bool.and_eq_true] at hws
      refine anyK_first (Ws := ws) (E := C) false (fun h => by cases h) ho (Region.noSelect_spec hs) (fun j hj => ?_) fuel listed a C hm hCD (fun _ h => h) (fun j hj => ?_) (fun j oj hoj hji hun hno => ?_) (by simpa using hready) hy (ih r _ _ _ hok' hm hCD hrun)
      · have h2 := (hws j hj).2
        cases hoj : ops[j]? with
        | none => simp [hoj] at h2
        | some oj =>
          simp only [hoj, Array.any_eq_true'] at h2
          obtain ⟨e, he, hb⟩ := h2
          simp only [Bool.and_eq_true, Bool.or_eq_true, beq_iff_eq, List.contains_iff_mem] at hb
          exact ⟨oj, rfl, e, he, hb.1, hb.2⟩
      · simpa using (hws j hj).1
      · simp only [List.all_eq_true, List.mem_range] at hrest
        have hlt : j < ops.size := (Array.getElem?_eq_some_iff.1 hoj).1
        have h3 := hrest j hlt
        simp only [Bool.or_eq_true, beq_iff_eq, Bool.and_eq_true, hoj, List.contains_iff_mem] at h3
        rcases h3 with ((h3 | h3) | h3) | h3
        · exact absurd h3 hji
        · rw [hun] at h3; cases h3
        · exact absurd h3 hno
        · exact ⟨h3.2, by simpa using h3.1⟩
    | still i ws r =>
      simp only [Plan.ok, Bool.and_eq_true] at hok
      obtain ⟨hq, hok'⟩ := hok
      obtain ⟨o, v, ho, hy, hrun⟩ := hr
      unfold quietOk at hq
      simp only [ho, Bool.and_eq_true] at hq
      obtain ⟨⟨hready, hws⟩, hrest⟩ := hq
      simp only [List.all_eq_true, Bool.and_eq_true] at hws
      refine anyK_first (Ws := ws) (E := D) true (fun _ _ h => h) ho (Region.noSelect_spec hs) (fun j hj => ?_) fuel listed a C hm hCD hCD (fun j hj => ?_) (fun j oj hoj hji hun hno => ?_) (by simpa using hready) hy (ih r _ _ _ hok' hm hCD hrun)
      · have h2 := (hws j hj).2
        cases hoj : ops[j]? with
        | none => simp [hoj] at h2
        | some oj =>
          simp only [hoj, Array.any_eq_true'] at h2
          obtain ⟨e, he, hb⟩ := h2
          simp only [Bool.and_eq_true, Bool.or_eq_true, beq_iff_eq, List.contains_iff_mem] at hb
          exact ⟨oj, rfl, e, he, hb.1, hb.2⟩
      · simpa using (hws j hj).1
      · simp only [List.all_eq_true, List.mem_range] at hrest
        have hlt : j < ops.size := (Array.getElem?_eq_some_iff.1 hoj).1
        have h3 := hrest j hlt
        simp only [Bool.or_eq_true, beq_iff_eq, Bool.and_eq_true, hoj, List.contains_iff_mem] at h3
        rcases h3 with ((h3 | h3) | h3) | h3
        · exact absurd h3 hji
        · rw [hun] at h3; cases h3
        · exact absurd h3 hno
        · exact ⟨h3.2, .inr rfl⟩
    | only i r =>
      simp only [Plan.ok, Bool.and_eq_true, beq_iff_eq] at hok
      refine ⟨fun h => (by rw [hok.1] at h; cases h), fun j hj => ?_⟩
      rw [hok.1] at hj
      obtain rfl : j = i := by simpa using hj
      exact step j r hok.2 hr
    | both i r j s =>
      simp only [Plan.ok, Bool.and_eq_true, beq_iff_eq] at hok
      refine ⟨fun h => (by rw [hok.1.1] at h; cases h), fun k hk => ?_⟩
      rw [hok.1.1] at hk
      have : k = i ∨ k = j := by simpa using hk
      rcases this with rfl | rfl
      · exact step k r hok.1.2 hr.1
      · exact step k s hok.2 hr.2
end Go.Kn
