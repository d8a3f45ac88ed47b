/- The small logic, third part: regions, and what each operation does. No program stands in it. -/
import Derived.Test.YthbjhbmpfeeilaaKm
set_option linter.unusedVariables false
set_option linter.unusedSimpArgs false
namespace Go.Kn
open Go.RowKit

section judge
variable (P : Program) (w0 : World) (X : List Nat) (N : Nat)
/-- The operation yields a value and blocks for which K holds. -/
def OpR (o : Oper) (S : Fr) (M : List Blk) (K : Value → List Blk → Prop) : Prop :=
  ∀ w, Sat w0 X M w → opw P o (act N S) w fun v w' => ∃ M', Sat w0 X M' w' ∧ K v M'
/-- The operation yields v and adds to memory at most. -/
def OpQ (o : Oper) (S : Fr) (M : List Blk) (v : Value) : Prop :=
  ∀ w, Sat w0 X M w → opw P o (act N S) w fun u w' => u = v ∧ Ext w w'
def WL (ops : List Oper) (Q : Fr → List Blk → Prop) : List Oper → Fr → List Blk → Prop
  | [], S, M => Q S M
  | o :: l, S, M => if Region.wanted o (yld N ops S) then OpR P w0 X N o S M (fun v M' => WL ops Q l (putS S o.dst v) M') else WL ops Q l (putS S o.dst undef) M
def PL (ops : List Oper) (nw : List Nat) (MD : List Blk) (Q : Fr → List Blk → Prop) : Plan → Fr → List Blk → Prop
  | .fin, S, M => Q S M
  | .quiet i _ r, S, M => ∃ o v, ops[i]? = some o ∧ ((Region.wanted o (yld N ops S) = true ∧ OpQ P w0 X N o S M v) ∨ (Region.wanted o (yld N ops S) = false ∧ v = undef)) ∧ PL ops nw MD Q r (putS S o.dst v) M
  | .still i _ r, S, M => ∃ o v, ops[i]? = some o ∧ ((Region.wanted o (yld N ops S) = true ∧ OpQ P w0 X N o S MD v) ∨ (Region.wanted o (yld N ops S) = false ∧ v = undef)) ∧ PL ops nw MD Q r (putS S o.dst v) M
  | .only i r, S, M => ∃ o, ops[i]? = some o ∧ if Region.wanted o (yld N ops S) then OpR P w0 X N o S M (fun v M' => (nw.contains i = true → M.Sublist M') ∧ MD.Sublist M' ∧ PL ops nw MD Q r (putS S o.dst v) M') else PL ops nw MD Q r (putS S o.dst undef) M
  | .both i r j s, S, M => (∃ o, ops[i]? = some o ∧ if Region.wanted o (yld N ops S) then OpR P w0 X N o S M (fun v M' => (nw.contains i = true → M.Sublist M') ∧ MD.Sublist M' ∧ PL ops nw MD Q r (putS S o.dst v) M') else PL ops nw MD Q r (putS S o.dst undef) M) ∧
      (∃ o, ops[j]? = some o ∧ if Region.wanted o (yld N ops S) then OpR P w0 X N o S M (fun v M' => (nw.contains j = true → M.Sublist M') ∧ MD.Sublist M' ∧ PL ops nw MD Q s (putS S o.dst v) M') else PL ops nw MD Q s (putS S o.dst undef) M)
end judge
section
variable {P : Program} {w0 : World} {X : List Nat} {N : Nat} {S : Fr} {M : List Blk}
theorem OpR_of_Q {o : Oper} {v : Value} {K : Value → List Blk → Prop} (h : OpQ P w0 X N o S M v) (k : K v M) : OpR P w0 X N o S M K :=
  fun w hw => opw_mono (fun u w' ⟨hu, he⟩ => ⟨M, Sat.mono w0 X M _ _ hw he, by subst hu; exact k⟩) (h w hw)
theorem wpOps_of_WL {ops : List Oper} {Q : Post} {Q' : Fr → List Blk → Prop} (hQ : ∀ S M, Q' S M → Q .normal S M) : ∀ (l : List Oper) (k : Nat) (S : Fr) (M : List Blk) (w : World),
    (∀ j, l[j]? = ops[k + j]?) → Sat w0 X M w → WL P w0 X N ops Q' l S M → wpOps P ops.toArray (lift w0 X N Q) (List.range' k l.length) (act N S) w
  | [], _, S, M, w, _, hw, h => ⟨S, M, rfl, hw, hQ _ _ h⟩
  | o :: l, k, S, M, w, hl, hw, h => by
    have h0 : ops.toArray[k]? = some o := by simpa using (hl 0).symm
    have hl' : ∀ j, l[j]? = ops[k + 1 + j]? := fun j => by have := hl (j + 1); simpa [Nat.add_assoc, Nat.add_comm 1 j] using this
    rw [List.length_cons, List.range'_succ, wpOps_cons]
    unfold wpOp
    rw [h0]
    simp only [WL] at h
    simp only [yielded_act]
    split
    · rename_i hwt
      rw [if_pos hwt] at h
      refine .inl (wp_of_opw ?_ (h w hw))
      rintro v w' ⟨M', hs, hk⟩
      rw [act_put]
      exact wpOps_of_WL hQ l (k + 1) _ M' w' hl' hs hk
    · rename_i hwt
      rw [if_neg hwt] at h
      rw [act_put]
      exact wpOps_of_WL hQ l (k + 1) _ M w hl' hw h
theorem W_region {id : Nat} {ops : List Oper} {Q : Post} (h : WL P w0 X N ops (fun S M => Q .normal S M) ops S M) : W P w0 X N (.region id ops.toArray false) Q S M := by
  intro w hw
  refine wp_region ?_
  have := wpOps_of_WL (Q := Q) (fun _ _ h => h) ops 0 S M w (fun j => by rw [Nat.zero_add]) hw h
  rw [List.range_eq_range', List.size_toArray]
  exact this
theorem W_region_k {id : Nat} {ops : List Oper} {Q : Post} (h : ∀ K : Fr → List Blk → Prop, (∀ S M, Q .normal S M → K S M) → WL P w0 X N ops K ops S M) : W P w0 X N (.region id ops.toArray false) Q S M :=
  W_region (h _ fun _ _ h => h)
theorem run_of_PL {ops : List Oper} {nw : List Nat} {MD : List Blk} {Q' : Fr → List Blk → Prop} : ∀ (p : Plan) (S : Fr) (M : List Blk), PL P w0 X N ops nw MD Q' p S M →
    Plan.run P ops.toArray nw (Sat w0 X MD) (fun a C => ∃ S M, a = act N S ∧ (∀ w, C w → Sat w0 X M w) ∧ Q' S M) p (act N S) (Sat w0 X M) := by
  have one : ∀ (r : Plan), (∀ (S : Fr) (M : List Blk), PL P w0 X N ops nw MD Q' r S M →
      Plan.run P ops.toArray nw (Sat w0 X MD) (fun a C => ∃ S M, a = act N S ∧ (∀ w, C w → Sat w0 X M w) ∧ Q' S M) r (act N S) (Sat w0 X M)) → ∀ (i : Nat) (S : Fr) (M : List Blk),
      (∃ o, ops[i]? = some o ∧ if Region.wanted o (yld N ops S) then OpR P w0 X N o S M (fun v M' => (nw.contains i = true → M.Sublist M') ∧ MD.Sublist M' ∧ PL P w0 X N ops nw MD Q' r (putS S o.dst v) M') else PL P w0 X N ops nw MD Q' r (putS S o.dst undef) M) →
      (∀ o, ops.toArray[i]? = some o → if Region.wanted o (yielded ops.toArray (act N S).tmps) then
        ∀ w, Sat w0 X M w → opw P o (act N S) w fun v w' => ∃ C', Mono C' ∧ C' w' ∧ (nw.contains i = true → ∀ x, C' x → Sat w0 X M x) ∧ (∀ x, C' x → Sat w0 X MD x) ∧
          Plan.run P ops.toArray nw (Sat w0 X MD) (fun a C => ∃ S M, a = act N S ∧ (∀ w, C w → Sat w0 X M w) ∧ Q' S M) r ((act N S).put o.dst v) C'
      else Plan.run P ops.toArray nw (Sat w0 X MD) (fun a C => ∃ S M, a = act N S ∧ (∀ w, C w → Sat w0 X M w) ∧ Q' S M) r ((act N S).put o.dst undef) (Sat w0 X M)) := by
    rintro r ih i S M ⟨o, ho, h⟩ o' ho'
    rw [List.getElem?_toArray, ho] at ho'; cases ho'
    rw [yielded_act]
    split
    · rename_i hwt
      rw [if_pos hwt] at h
      intro w hw
      refine opw_mono ?_ (h w hw)
      rintro v w' ⟨M', hs, hsub, hsd, hk⟩
      refine ⟨Sat w0 X M', Sat.mono _ _ _, hs, fun hn x hx => hx.sub (hsub hn), fun x hx => hx.sub hsd, ?_⟩
      rw [act_put]
      exact ih _ _ hk
    · rename_i hwt
      rw [if_neg hwt] at h
      rw [act_put]
      exact ih _ _ h
  intro p
  induction p with
  | fin => exact fun S M h => ⟨S, M, rfl, fun _ h => h, h⟩
  | quiet i ws r ih =>
    rintro S M ⟨o, v, ho, hy, hk⟩
    refine ⟨o, v, by rw [List.getElem?_toArray]; exact ho, ?_, by rw [act_put]; exact ih _ _ hk⟩
    unfold YQ
    rw [yielded_act]
    exact hy
  | still i ws r ih =>
    rintro S M ⟨o, v, ho, hy, hk⟩
    refine ⟨o, v, by rw [List.getElem?_toArray]; exact ho, ?_, by rw [act_put]; exact ih _ _ hk⟩
    unfold YQ
    rw [yielded_act]
    exact hy
  | only i r ih => exact fun S M h => one r ih i S M h
  | both i r j s ih1 ih2 => exact fun S M h => ⟨one r ih1 i S M h.1, one s ih2 j S M h.2⟩
/-- A region that draws its order, by a plan. -/
theorem W_draw {id : Nat} {ops : List Oper} {Q : Post} {MD : List Blk} (sub : MD.Sublist M) (p : Plan) (nw : List Nat) (hm : P.follows .mixedOrders = true) (hs : Region.noSelect ops.toArray = true)
    (hok : Plan.ok ops.toArray nw ops.length (Array.replicate ops.length false) p = true)
    (h : ∀ K : Fr → List Blk → Prop, (∀ S M, Q .normal S M → K S M) → PL P w0 X N ops nw MD K p S M) : W P w0 X N (.region id ops.toArray true) Q S M := by
  intro w hw
  refine wp_region_any hm ?_
  have h1 := run_of_PL p S M (h _ fun _ _ h => h)
  have hw' : Sat w0 X M { w with drawn := w.drawn + 1 } := Sat.mono _ _ _ _ _ hw ((Below.refl _ _).drew)
  rw [List.size_toArray]
  exact wpAny_of_anyK (nw := nw) (fun a C w' hc ⟨S', M', ha, hs', hq⟩ => ⟨S', M', ha, hs' w' hc, hq⟩) _ _ _ _ _ hw' (Plan.sound hs _ _ _ _ _ hok (Sat.mono _ _ _) (fun x hx => hx.sub sub) h1)

/-! steps of a list -/
theorem WL_nil {ops : List Oper} {Q : Fr → List Blk → Prop} (h : Q S M) : WL P w0 X N ops Q [] S M := h
theorem WL_q {ops : List Oper} {Q : Fr → List Blk → Prop} {o : Oper} {l : List Oper} {v : Value} (hg : Region.wanted o (yld N ops S) = true) (h : OpQ P w0 X N o S M v) (k : WL P w0 X N ops Q l (putS S o.dst v) M) :
    WL P w0 X N ops Q (o :: l) S M := by
  simp only [WL]; rw [if_pos hg]; exact OpR_of_Q h k
theorem WL_r {ops : List Oper} {Q : Fr → List Blk → Prop} {o : Oper} {l : List Oper} (hg : Region.wanted o (yld N ops S) = true) (h : OpR P w0 X N o S M (fun v M' => WL P w0 X N ops Q l (putS S o.dst v) M')) :
    WL P w0 X N ops Q (o :: l) S M := by
  simp only [WL]; rw [if_pos hg]; exact h
theorem WL_n {ops : List Oper} {Q : Fr → List Blk → Prop} {o : Oper} {l : List Oper} (hg : Region.wanted o (yld N ops S) = false) (k : WL P w0 X N ops Q l (putS S o.dst undef) M) :
    WL P w0 X N ops Q (o :: l) S M := by
  simp only [WL]; rw [if_neg (by simp [hg])]; exact k
theorem PL_fin {ops : List Oper} {nw : List Nat} {MD : List Blk} {Q : Fr → List Blk → Prop} (h : Q S M) : PL P w0 X N ops nw MD Q .fin S M := h
theorem PL_q {ops : List Oper} {nw : List Nat} {MD : List Blk} {Q : Fr → List Blk → Prop} {i : Nat} {ws : List Nat} {r : Plan} {o : Oper} {v : Value} (ho : ops[i]? = some o) (hg : Region.wanted o (yld N ops S) = true)
    (h : OpQ P w0 X N o S M v) (k : PL P w0 X N ops nw MD Q r (putS S o.dst v) M) : PL P w0 X N ops nw MD Q (.quiet i ws r) S M := ⟨o, v, ho, .inl ⟨hg, h⟩, k⟩
theorem PL_n {ops : List Oper} {nw : List Nat} {MD : List Blk} {Q : Fr → List Blk → Prop} {i : Nat} {ws : List Nat} {r : Plan} {o : Oper} (ho : ops[i]? = some o) (hg : Region.wanted o (yld N ops S) = false)
    (k : PL P w0 X N ops nw MD Q r (putS S o.dst undef) M) : PL P w0 X N ops nw MD Q (.quiet i ws r) S M := ⟨o, undef, ho, .inr ⟨hg, rfl⟩, k⟩
theorem PL_s {ops : List Oper} {nw : List Nat} {MD : List Blk} {Q : Fr → List Blk → Prop} {i : Nat} {ws : List Nat} {r : Plan} {o : Oper} {v : Value} (ho : ops[i]? = some o) (hg : Region.wanted o (yld N ops S) = true)
    (h : OpQ P w0 X N o S MD v) (k : PL P w0 X N ops nw MD Q r (putS S o.dst v) M) : PL P w0 X N ops nw MD Q (.still i ws r) S M := ⟨o, v, ho, .inl ⟨hg, h⟩, k⟩
theorem PL_sn {ops : List Oper} {nw : List Nat} {MD : List Blk} {Q : Fr → List Blk → Prop} {i : Nat} {ws : List Nat} {r : Plan} {o : Oper} (ho : ops[i]? = some o) (hg : Region.wanted o (yld N ops S) = false)
    (k : PL P w0 X N ops nw MD Q r (putS S o.dst undef) M) : PL P w0 X N ops nw MD Q (.still i ws r) S M := ⟨o, undef, ho, .inr ⟨hg, rfl⟩, k⟩
theorem PL_o {ops : List Oper} {nw : List Nat} {MD : List Blk} {Q : Fr → List Blk → Prop} {i : Nat} {r : Plan} {o : Oper} (ho : ops[i]? = some o) (hg : Region.wanted o (yld N ops S) = true)
    (h : OpR P w0 X N o S M (fun v M' => (nw.contains i = true → M.Sublist M') ∧ MD.Sublist M' ∧ PL P w0 X N ops nw MD Q r (putS S o.dst v) M')) : PL P w0 X N ops nw MD Q (.only i r) S M := ⟨o, ho, by rw [if_pos hg]; exact h⟩
theorem PL_on {ops : List Oper} {nw : List Nat} {MD : List Blk} {Q : Fr → List Blk → Prop} {i : Nat} {r : Plan} {o : Oper} (ho : ops[i]? = some o) (hg : Region.wanted o (yld N ops S) = false)
    (k : PL P w0 X N ops nw MD Q r (putS S o.dst undef) M) : PL P w0 X N ops nw MD Q (.only i r) S M := ⟨o, ho, by rw [if_neg (by simp [hg])]; exact k⟩
theorem PL_b {ops : List Oper} {nw : List Nat} {MD : List Blk} {Q : Fr → List Blk → Prop} {i j : Nat} {r s : Plan} (h1 : PL P w0 X N ops nw MD Q (.only i r) S M) (h2 : PL P w0 X N ops nw MD Q (.only j s) S M) : PL P w0 X N ops nw MD Q (.both i r j s) S M := ⟨h1, h2⟩
end

/-! ### Types, as closed facts -/
def isAggD : TypeDesc → Bool
  | .struct _ | .array _ _ => true
  | _ => false
/-- Is it an aggregate, and of how many cells. -/
def tyOf (P : Program) (T : TypeId) : Option (Bool × Nat) := match P.underlying T, P.info? T with
  | some d, some i => some (isAggD d, i.size)
  | _, _ => none
def tyInt (P : Program) (T : TypeId) : Option IntKind := match P.underlying T with | some (.int k) => some k | _ => none
def tyArr (P : Program) (T : TypeId) : Option (Nat × Nat) := match P.underlying T with | some (.array n e) => (P.info? e).map fun i => (n, i.size) | _ => none
def tySlice (P : Program) (T : TypeId) : Option Nat := match P.underlying T with | some (.slice e) => (P.info? e).map (·.size) | _ => none
def tyField (P : Program) (T : TypeId) (f : Nat) : Option (Nat × Nat) := match P.underlying T with | some (.struct fs) => (fs[f]?).bind fun x => (P.info? x.type).map fun i => (x.offset, i.size) | _ => none
section
variable {P : Program} {w : World}
theorem add_addr (b o n : Nat) : (⟨b, o, none⟩ : Addr).add n = ⟨b, o + n, none⟩ := by unfold Addr.add; split <;> simp_all
theorem tyOf_spec {T : TypeId} {g : Bool} {n : Nat} (h : tyOf P T = some (g, n)) : (isAgg T).run P w = .ok g w ∧ (sizeOf T).run P w = .ok n w := by
  unfold tyOf at h
  split at h
  · rename_i d i hd hi
    cases h
    refine ⟨?_, ?_⟩
    · unfold isAgg; simp only [Sem.run_bind, run_underlying hd, Result.andThen_ok]; cases d <;> rfl
    · simp [sizeOf, typeInfo, hi]
  · cases h
theorem load_cell {T U : TypeId} {s b off : Nat} {cs : List Value} {v : Value} (hT : tyOf P T = some (false, s)) (hm : w.heap[b]? = some (.cells cs.toArray U (0, 0))) (hc : cs[off]? = some v) :
    (Instr.loadAt T (.pointer (some ⟨b, off, none⟩))).run P w = .ok v w := by
  have hcell : w.cell? ⟨b, off, none⟩ = some v := by simp [World.cell?, hm, hc]
  simp [Instr.loadAt, Instr.sureAddr, loadVar, (tyOf_spec (w := w) hT).1, load, Sem.run, hcell]
theorem load_agg {T U : TypeId} {n b off : Nat} {cs : List Value} {vs : List Value} (hT : tyOf P T = some (true, n)) (hm : w.heap[b]? = some (.cells cs.toArray U (0, 0))) (hv : (cs.drop off).take n = vs) (hl : vs.length = n) :
    (Instr.loadAt T (.pointer (some ⟨b, off, none⟩))).run P w = .ok (.agg vs.toArray) w := by
  have hx := run_loadCells_list (P := P) w ⟨b, off, none⟩ vs (fun j v hj => by
    rw [add_addr]
    have hj' : j < n := by have := (List.getElem?_eq_some_iff.1 hj).1; omega
    rw [← hv, List.getElem?_take_of_lt hj', List.getElem?_drop] at hj
    simp [World.cell?, hm, hj])
  rw [hl] at hx
  simp [Instr.loadAt, Instr.sureAddr, loadVar, (tyOf_spec (w := w) hT).1, (tyOf_spec (w := w) hT).2, hx]
def plain : Value → Bool
  | .agg _ | .tuple _ => false
  | _ => true
theorem plain_one {v : Value} (h : plain v = true) : v.oneCell' = true := by cases v <;> first | rfl | cases h
theorem store_row {T U : TypeId} {n b off : Nat} {g : Bool} {cs vs : List Value} (hT : tyOf P T = some (g, n)) (hm : w.heap[b]? = some (.cells cs.toArray U (0, 0))) {x : Value} (hx : x.cells = vs.toArray) (hl : vs.length = n)
    (hp : ∀ v ∈ vs, plain v = true) (ho : off + n ≤ cs.length) :
    (Instr.storeAt T (.pointer (some ⟨b, off, none⟩)) x).run P w = .ok () (w.setRow b (cs.take off ++ vs ++ cs.drop (off + n)).toArray) := by
  have h := run_storeCells_at (P := P) b off U vs 0 cs.toArray w hm (by simp; omega) (fun v hv => plain_one (hp v hv))
  simp only [Nat.add_zero, hl] at h
  simp [Instr.storeAt, Instr.sureAddr, storeVar, hx, hl, (tyOf_spec (w := w) hT).2, h]
end
end Go.Kn
