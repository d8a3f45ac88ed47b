/- Walks: what these functions return. Polynomials without their content; what is put into a polynomial. No program stands in it. What Compose returns, and its law. No program stands in it. -/
import Derived.Test.YtjdfogfmeibkgaaGreatYGE
import Derived.Test.YtjdfogfmeibkgaaGreatYFp
import Derived.Test.YtjdfogfmeibkgaaGreatYGa
import Derived.Test.YtjdfogfmeibkgaaGreatYL5
import Derived.Test.YtjdfogfmeibkgaaGreatYLa
import Derived.Test.YtjdfogfmeibkgaaGreatYGf
import Derived.Test.YtjdfogfmeibkgaaGreatYYb
import Derived.Test.YtjdfogfmeibkgaaGreatYYc
import Derived.Test.YtjdfogfmeibkgaaGreatYYr
import Derived.Test.YtjdfogfmeibkgaaGreatYYs
import Derived.Test.YtjdfogfmeibkgaaGreatYPV
import Derived.KernelRfl
import Derived.Test.YtjdfogfmeibkgaaGreatYKc
namespace Go.Proofs.YtjdfogfmeibkgaaGreat
open Go.Kn Go.Num
set_option linter.unusedVariables false
set_option linter.unusedSimpArgs false
set_option maxRecDepth 20000
set_option maxHeartbeats 8000000
theorem hB_ (vp : Value) (p : (List I)) (a : Rt) (b : Rt) (t : Rt) (w : World) (hp : Slr w elI vp p) :
    Calls Tryz.prog 12 [vp, AV [pI a.n, pI a.d], AV [pI b.n, pI b.d], AV [pI t.n, pI t.d]].toArray w (fun e w' => e = .returned (.bool (bV_ p a b t)) ∧ Ext w w') := by
 obtain ⟨p_p, c_p, rfl⟩ := hp.form
 refine aN_ (N := 75) Tryz.func12 rfl rfl (by simp) ?_
 obtain ⟨w0, rfl⟩ : ∃ w0, w0 = w := ⟨_, rfl⟩
 have Hp := hp.old
 have hm_p := hp.max
 simp only [initF, Nat.reduceAdd]
 refine Rs fun K J => WL_r rfl (ci_ rfl rfl (fun b1 hb1 => WL_r rfl (ci_ rfl rfl (fun b2 hb2 => WL_r rfl (ci_ rfl rfl (fun b3 hb3 => sE rfl (nl J (Sq fun K1 J1 => ?_))))))))
 refine bH_ [14, 15, 16, 17, 18, 19, 20, 21, 22, 23, 24, 25, 26, 27, 28, 29, 30, 31, 32, 33, 34, 35] (fun g M => (g 35 = .bool (!(ag_ p 6 30) || ((ad_ p) || (!(au_ a 16) || (!(au_ b 16) || (!(au_ t 16))))))) ∧ M = [⟨b3, 44, flat [pI t.n, pI t.d]⟩, ⟨b2, 44, flat [pI b.n, pI b.d]⟩, ⟨b1, 44, flat [pI a.n, pI a.d]⟩]) (fun K2 J2 => ?_) ?_
 ·skip
  refine Rk fun K J => sE rfl (sQ (q_as (v' := .bool (ag_ p 6 30)) (aB_ en_22 rfl (fun w hw => b1_ _ p 6 30 w (SLe.ap hw (SLe.sub Hp sn)) (by first | omega | (simp only [List.length_cons, List.length_nil, and_true, true_and] <;> omega) | simp))) rfl) rfl ?_)
  refine sE rfl ?_
  rcases bt (ag_ p 6 30) with h8 | h8
  ·skip
   refine sB (not_f h8) rfl (sE rfl (sQ (q_as (v' := .bool (ad_ p)) (aB_ en_18 rfl (fun w hw => aY_ _ p w (SLe.ap hw (SLe.sub Hp sn)))) rfl) rfl (sE rfl ?_)))
   rcases bt (ad_ p) with h9 | h9
   ·skip
    refine sB h9 rfl (WL_n rfl (WL_n rfl (WL_n rfl (sE rfl (sE rfl (WL_n rfl (WL_n rfl (WL_n rfl (sE rfl (sE rfl (WL_n rfl (WL_n rfl (WL_n rfl (sE rfl (nl J ?_)))))))))))))))
    refine J2 _ _ (by repeat first | exact .refl | refine .cons rfl ?_) ⟨_, s0, ?s35, rfl⟩
    case s35 => exact congrArg Value.bool (nor_t h8 (or_t h9))
   ·skip
    refine sB h9 rfl (sQ (qL ty_44 rfl m2 rfl) rfl (sQ (q_as (v' := .bool (au_ a 16)) (aB_ en_52 rfl (fun w hw => cJ_ a 16 w)) rfl) rfl (sE rfl (sE rfl ?_))))
    rcases bt (au_ a 16) with h10 | h10
    ·skip
     refine sB (not_f h10) rfl (sQ (qL ty_44 rfl m1 rfl) rfl (sQ (q_as (v' := .bool (au_ b 16)) (aB_ en_52 rfl (fun w hw => cJ_ b 16 w)) rfl) rfl (sE rfl (sE rfl ?_))))
     rcases bt (au_ b 16) with h11 | h11
     ·skip
      refine sB (not_f h11) rfl (sQ (qL ty_44 rfl m0 rfl) rfl (sQ (q_as (v' := .bool (au_ t 16)) (aB_ en_52 rfl (fun w hw => cJ_ t 16 w)) rfl) rfl (sE rfl (sE rfl (nl J ?_)))))
      refine J2 _ _ (by repeat first | exact .refl | refine .cons rfl ?_) ⟨_, s0, ?s35, rfl⟩
      case s35 => exact congrArg Value.bool (nor_t h8 (or_f h9 (nor_t h10 (nor_t h11 rfl))))
     ·skip
      refine sB (not_t h11) rfl (WL_n rfl (WL_n rfl (WL_n rfl (sE rfl (nl J ?_)))))
      refine J2 _ _ (by repeat first | exact .refl | refine .cons rfl ?_) ⟨_, s0, ?s35, rfl⟩
      case s35 => exact congrArg Value.bool (nor_t h8 (or_f h9 (nor_t h10 (nor_f h11))))
    ·skip
     refine sB (not_t h10) rfl (WL_n rfl (WL_n rfl (WL_n rfl (sE rfl (sE rfl (WL_n rfl (WL_n rfl (WL_n rfl (sE rfl (nl J ?_))))))))))
     refine J2 _ _ (by repeat first | exact .refl | refine .cons rfl ?_) ⟨_, s0, ?s35, rfl⟩
     case s35 => exact congrArg Value.bool (nor_t h8 (or_f h9 (nor_f h10)))
  ·skip
   refine sB (not_t h8) rfl (WL_n rfl (WL_n rfl (sE rfl (sE rfl (WL_n rfl (WL_n rfl (WL_n rfl (sE rfl (sE rfl (WL_n rfl (WL_n rfl (WL_n rfl (sE rfl (sE rfl (WL_n rfl (WL_n rfl (WL_n rfl (sE rfl (nl J ?_)))))))))))))))))))
   refine J2 _ _ (by repeat first | exact .refl | refine .cons rfl ?_) ⟨_, s0, ?s35, rfl⟩
   case s35 => exact congrArg Value.bool (nor_f h8)
 ·skip
  rintro g12 M ⟨hg35, rfl⟩
  simp only [setG, hg35]
  clear hg35
  rcases bt (!(ag_ p 6 30) || ((ad_ p) || (!(au_ a 16) || (!(au_ b 16) || (!(au_ t 16)))))) with h13 | h13
  ·skip
   refine W_t h13 rfl (Rs fun K J => sQ (q_ret en_14 bY_  rfl) rfl (sE rfl (nl J (W_ret (ai_ (ret1 rfl (.inr rfl) rfl ?_))))))
   exact (by exact congrArg (fun r : Bool => (.bool r : Value)) (show _ = (bV_ p a b t) from bif_t h13 rfl))
  ·skip
   refine W_f h13 rfl (an_ (J1 _ _ ?_))
   obtain ⟨hRp, hLp⟩ := few_f (Bool.or_eq_false_iff.1 h13).1
   refine Rs fun K J => sE rfl (sQ (qL ty_44 rfl m2 rfl) rfl (sQ (qL ty_44 rfl m1 rfl) rfl (WL_r rfl (at_ (E := 38) (e := elI) (l := (ar_ p a b)) (fun v => v) en_55 rfl (fun w hw => cV_ _ p a b w (SLe.ap hw (SLe.sub Hp sn)) (by first | omega | (simp only [List.length_cons, List.length_nil, and_true, true_and] <;> omega) | simp)) (fun p14 c15 L16 hF17 => ?_)))))
   have hb18 := (cX_ p a b)
   refine sE rfl (nl J (Rs fun K J => sE rfl (sQ (qL ty_44 rfl (List.mem_append_right _ (List.mem_cons_self)) rfl) rfl (sQ (q_as (v' := .tuple #[.int .i64 (((bI_ (ar_ p a b) t).1).1), .bool ((bI_ (ar_ p a b) t).2)]) (aB_ en_38 rfl (fun w hw => g8_ _ (ar_ p a b) t w (SLe.ap hw (SLfe.sle (OwnG.slfe hF17 (List.sublist_append_left _ _)))) (by first | omega | (simp only [List.length_cons, List.length_nil, and_true, true_and] <;> omega) | simp))) rfl) rfl ?_))))
   refine sE rfl (sE rfl (sE rfl (sE rfl (sE rfl (nl J (ds s0 [0,4,8,12,16,20,24,28,32,36,40,44] [] mix (by kernel_rfl) (fun K J => pE rfl (pQ rfl (qL ty_44 rfl (List.mem_append_right _ (List.mem_cons_of_mem _ (List.mem_cons_of_mem _ (List.mem_cons_self)))) rfl) (pQ rfl (qL ty_44 rfl (List.mem_append_right _ (List.mem_cons_of_mem _ (List.mem_cons_self))) rfl) (pQ rfl (qL ty_44 rfl (List.mem_append_right _ (List.mem_cons_self)) rfl) (pQ rfl (q_ret en_53 (gR_ b t) rfl) (pQ rfl (q_ret en_54 (fA_ a (aO_ b t)) rfl) (pQ rfl (q_as (v' := .tuple #[.int .i64 (((bI_ p (a6_ a (aO_ b t))).1).1), .bool ((bI_ p (a6_ a (aO_ b t))).2)]) (aB_ en_38 rfl (fun w hw => g8_ _ p (a6_ a (aO_ b t)) w (SLe.ap hw (SLe.sub Hp sn)) (by first | omega | (simp only [List.length_cons, List.length_nil, and_true, true_and] <;> omega) | simp))) rfl) ?_)))))))))))))
   refine pE rfl (pE rfl (pE rfl (pE rfl (pE rfl (fl J ?_)))))
   refine bH_ [8, 57, 58, 59, 60, 61, 62, 63, 64, 65, 66, 67, 68, 69, 70, 71, 72, 73, 74] (fun g M => (g 8 = .bool (aJ_ && ((bI_ (ar_ p a b) t).2 && ((bI_ p (a6_ a (aO_ b t))).2 && ((((bI_ (ar_ p a b) t).1).1 == ((bI_ p (a6_ a (aO_ b t))).1).1) && (ae_ (aa_ (ar_ p a b)) (ar_ p a b))))))) ∧ M = (L16 ++ (⟨b3, 44, flat [pI t.n, pI t.d]⟩ :: (⟨b2, 44, flat [pI b.n, pI b.d]⟩ :: (⟨b1, 44, flat [pI a.n, pI a.d]⟩ :: []))))) (fun K3 J3 => ?_) ?_
   ·skip
    refine Rk fun K J => sQ (q_ret en_14 bY_  rfl) rfl ?_
    rcases bt aJ_ with h28 | h28
    ·skip
     refine sB h28 rfl (sE rfl (sE rfl ?_))
     rcases bt ((bI_ (ar_ p a b) t).2) with h29 | h29
     ·skip
      refine sB h29 rfl (sE rfl (sE rfl ?_))
      rcases bt ((bI_ p (a6_ a (aO_ b t))).2) with h30 | h30
      ·skip
       refine sB h30 rfl (sE rfl (sE rfl (sE rfl (sE rfl ?_))))
       rcases bt (((bI_ (ar_ p a b) t).1).1 == ((bI_ p (a6_ a (aO_ b t))).1).1) with h31 | h31
       ·skip
        refine sB h31 rfl (sE rfl (WL_r rfl (at_ (E := 38) (e := elI) (l := (aa_ (ar_ p a b))) (fun v => v) en_25 rfl (fun w hw => cl_ _ (ar_ p a b) w (SLe.ap hw (SLfe.sle (OwnG.slfe hF17 (List.sublist_append_left _ _)))) (by first | omega | (simp only [List.length_cons, List.length_nil, and_true, true_and] <;> omega) | simp)) (fun p32 c33 L34 hF35 => ?_))))
        have hb36 := (aR_ (ar_ p a b))
        refine sE rfl (sQ (q_as (v' := .bool (ae_ (aa_ (ar_ p a b)) (ar_ p a b))) (aB_ en_17 rfl (fun w hw => aA_ _ (aa_ (ar_ p a b)) _ (ar_ p a b) w (SLe.ap hw (SLfe.sle (OwnG.slfe hF35 (List.sublist_append_left _ _)))) (SLe.ap hw (SLfe.sle (OwnG.slfe hF17 (sR (List.sublist_append_left _ _))))))) rfl) rfl (sE rfl (sE rfl (nl J ?_))))
        refine J3 _ _ (by repeat first | exact .refl | refine .cons rfl ?_) ⟨_, (sR (s0)), ?s8, rfl⟩
        case s8 => exact congrArg Value.bool (and_t h28 (and_t h29 (and_t h30 (and_t h31 rfl))))
       ·skip
        refine sB h31 rfl (WL_n rfl (WL_n rfl (WL_n rfl (WL_n rfl (sE rfl (sE rfl (nl J ?_)))))))
        refine J3 _ _ (by repeat first | exact .refl | refine .cons rfl ?_) ⟨_, s0, ?s8, rfl⟩
        case s8 => exact congrArg Value.bool (and_t h28 (and_t h29 (and_t h30 (and_f h31))))
      ·skip
       refine sB h30 rfl (WL_n rfl (WL_n rfl (WL_n rfl (sE rfl (sE rfl (WL_n rfl (WL_n rfl (WL_n rfl (WL_n rfl (sE rfl (sE rfl (nl J ?_))))))))))))
       refine J3 _ _ (by repeat first | exact .refl | refine .cons rfl ?_) ⟨_, s0, ?s8, rfl⟩
       case s8 => exact congrArg Value.bool (and_t h28 (and_t h29 (and_f h30)))
     ·skip
      refine sB h29 rfl (WL_n rfl (sE rfl (sE rfl (WL_n rfl (WL_n rfl (WL_n rfl (sE rfl (sE rfl (WL_n rfl (WL_n rfl (WL_n rfl (WL_n rfl (sE rfl (sE rfl (nl J ?_)))))))))))))))
      refine J3 _ _ (by repeat first | exact .refl | refine .cons rfl ?_) ⟨_, s0, ?s8, rfl⟩
      case s8 => exact congrArg Value.bool (and_t h28 (and_f h29))
    ·skip
     refine sB h28 rfl (WL_n rfl (sE rfl (sE rfl (WL_n rfl (sE rfl (sE rfl (WL_n rfl (WL_n rfl (WL_n rfl (sE rfl (sE rfl (WL_n rfl (WL_n rfl (WL_n rfl (WL_n rfl (sE rfl (sE rfl (nl J ?_))))))))))))))))))
     refine J3 _ _ (by repeat first | exact .refl | refine .cons rfl ?_) ⟨_, s0, ?s8, rfl⟩
     case s8 => exact congrArg Value.bool (and_f h28)
   ·skip
    rintro g37 M ⟨hg8, rfl⟩
    simp only [setG, hg8]
    clear hg8
    refine W_ret (ret1 rfl (.inr rfl) rfl ?_)
    exact (by exact congrArg (fun r : Bool => (.bool r : Value)) (show _ = (bV_ p a b t) from bif_f h13 rfl))
end Go.Proofs.YtjdfogfmeibkgaaGreat


set_option linter.unusedVariables false
set_option linter.unusedSimpArgs false
namespace Go.Num
open Go Go.Kn
theorem rY_ (p q : Rat) : (p * q).num.sign = p.num.sign * q.num.sign := by
  have h1 := @in_ p
  have h2 := @in_ q
  have e := l4_ (q := p * q) (n := p.num * q.num) (d := (p.den : Int) * (q.den : Int)) (by
    rw [Rat.intCast_mul, Rat.intCast_mul, ← h1, ← h2]; grind)
  have e2 := congrArg Int.sign e
  rw [Int.sign_mul, Int.sign_mul, Int.sign_mul, Int.sign_mul, Int.sign_eq_one_of_pos (@e3_ p), Int.sign_eq_one_of_pos (@e3_ q), Int.sign_eq_one_of_pos (@e3_ (p * q)), Int.mul_one, Int.mul_one, Int.mul_one] at e2
  exact e2
theorem r7_ (n : Int) : ((n : Rat)).num.sign = n.sign := rfl
theorem iW_ {u : Int} : ∀ (l : List I) (g : Nat), u ∣ (g : Int) → (∀ x ∈ l, u ∣ vI x) → u ∣ ((l.foldl fg g : Nat) : Int)
  | [], g, h, _ => h
  | y :: l, g, h, hx => iW_ l (fg g y) (Int.dvd_coe_gcd h (hx y List.mem_cons_self)) fun x hm => hx x (List.mem_cons_of_mem _ hm)
/-- No number but 1 and -1 divides all. -/
def Prm (c : Nat → Int) : Prop := ∀ u : Int, (∀ k, u ∣ c k) → u ∣ 1
theorem nT_ {u : Int} {g : Nat} (h : 0 < g) (hd : (g : Int) ∣ u) : (u.fdiv g).natAbs ≤ u.natAbs := by
  obtain ⟨x, rfl⟩ := hd
  rw [Int.mul_fdiv_cancel_left _ (by omega), Int.natAbs_mul, Int.natAbs_natCast]
  exact Nat.le_mul_of_pos_left _ h
section
variable {p q : List I} {c d : Nat → Int}
theorem Po.mem (h : Po p c) {x : I} (hx : x ∈ p) : ∃ k, vI x = c k := by
  obtain ⟨k, hk, rfl⟩ := List.getElem_of_mem hx
  refine ⟨k, ?_⟩
  rw [← h.c k]
  simp [List.getD, hk]
theorem Po.dvd (h : Po p c) (k : Nat) : ((cN p : Nat) : Int) ∣ c k := by
  by_cases hk : k < p.length
  · rw [← h.c k, show p.getD k I0 = p[k] by simp [List.getD, hk]]
    exact lt_ (List.getElem_mem hk)
  · rw [h.zero (by omega)]; exact Int.dvd_zero _
theorem Po.cpos (h : Po p c) (h0 : p ≠ []) : 0 < cN p := by
  obtain ⟨n, hn⟩ : ∃ n, p.length = n + 1 := ⟨p.length - 1, by have := List.length_pos_iff.2 h0; omega⟩
  rcases Nat.eq_zero_or_pos (cN p) with e | e
  · have h1 := h.dvd n
    rw [e] at h1
    exact absurd (Int.zero_dvd.1 h1) (h.last hn)
  · exact e
theorem jH_ (h : Po p c) : Po (aa_ p) (fun k => (c k).fdiv (cN p)) := by
  have e := lX_ h.g h.s h.l
  have hB : ∀ x ∈ p, B512 ((vI x).fdiv (cN p)) := fun x hx => by
    obtain ⟨k, hk⟩ := h.mem hx
    rw [hk]
    exact Nat.lt_of_le_of_lt (nT_ (h.cpos (List.ne_nil_of_mem hx)) (h.dvd k)) (h.B k)
  have hg : (aa_ p).all gdI = true := by
    rw [e]
    refine List.all_eq_true.2 fun y hy => ?_
    obtain ⟨x, hx, rfl⟩ := List.mem_map.1 hy
    exact gd_E (hB x hx)
  refine (pw_ (g0_ p h.l3) hg).cast fun k => ?_
  rw [e]
  by_cases hk : k < p.length
  · have e2 : (p.map fun x => E (Z.of ((vI x).fdiv (cN p)))).getD k I0 = E (Z.of ((vI p[k]).fdiv (cN p))) := by simp [List.getD, hk]
    rw [e2, vI_E (hB _ (List.getElem_mem hk)), ← h.c k, show p.getD k I0 = p[k] by simp [List.getD, hk]]
  · rw [ed_ (by rw [List.length_map]; omega), vI0, h.zero (by omega), Int.zero_fdiv]
theorem jz_ (h : Po p c) (k : Nat) : ((cN p : Nat) : Int) * (c k).fdiv (cN p) = c k := by
  by_cases h0 : p = []
  · subst h0; rw [h.zero (Nat.zero_le k), Int.zero_fdiv, Int.mul_zero]
  · have hp := h.cpos h0
    obtain ⟨x, hx⟩ := h.dvd k
    rw [hx, Int.mul_fdiv_cancel_left _ (by omega)]
theorem oX_ (h : Po p c) (h0 : p ≠ []) : Prm (fun k => (c k).fdiv (cN p)) := fun u hu => by
  have hp := h.cpos h0
  have h1 : ((cN p : Nat) : Int) * u ∣ ((cN p : Nat) : Int) := iW_ p 0 (Int.dvd_zero _) fun x hx => by
    obtain ⟨k, hk⟩ := h.mem hx
    rw [hk, ← jz_ h k]
    exact Int.mul_dvd_mul_left _ (hu k)
  obtain ⟨y, hy⟩ := h1
  refine ⟨y, ?_⟩
  have : ((cN p : Nat) : Int) * 1 = ((cN p : Nat) : Int) * (u * y) := by rw [Int.mul_one, ← Int.mul_assoc]; exact hy
  exact Int.eq_of_mul_eq_mul_left (by omega) this
theorem qP_ (h : Po p c) (hc : Prm c) : aa_ p = p := by
  have h1 := hc _ h.dvd
  have h2 : cN p = 1 := by
    have := Int.le_of_dvd (by decide) h1
    rcases Nat.eq_zero_or_pos (cN p) with e | e
    · rw [e] at h1; exact absurd (Int.zero_dvd.1 h1) (by decide)
    · omega
  refine ((jH_ h).cast fun k => ?_).eq h
  have := jz_ h k
  rw [h2] at this ⊢
  show (c k).fdiv ((1 : Nat) : Int) = c k
  simp
theorem nX_ (h : Po p c) : aa_ (aa_ p) = aa_ p := by
  by_cases h0 : p = []
  · subst h0
    have e : aa_ ([] : List I) = [] := (jH_ h).nil fun k => by rw [h.zero (Nat.zero_le k), Int.zero_fdiv]
    rw [e, e]
  · exact qP_ (jH_ h) (oX_ h h0)
theorem qR_ {n b : Nat} (h : Po p c) (hb : Bd c n b) : Bd (fun k => (c k).fdiv (cN p)) n b :=
  ⟨fun k hk => by show (c k).fdiv _ = 0; rw [hb.z k hk, Int.zero_fdiv], fun k => by
    by_cases h0 : p = []
    · subst h0; show ((c k).fdiv _).natAbs < _; rw [h.zero (Nat.zero_le k), Int.zero_fdiv]; exact Nat.pow_pos (by decide)
    · exact Nat.lt_of_le_of_lt (nT_ (h.cpos h0) (h.dvd k)) (hb.b k)⟩
def lin (u v : Int) (k : Nat) : Int := if k = 0 then u else if k = 1 then v else 0
theorem ry_ {u v : Int} (hu : B512 u) (hv : B512 v) : Po (ap_ [E (Z.of u), E (Z.of v)]) (lin u v) := by
  rw [jC_]
  refine lL_ (fun k => ?_) (fun k => ?_) fun k hk => ?_
  · match k with
    | 0 => rfl
    | 1 => rfl
    | k + 2 => rw [ed_ (by simp)]; unfold lin; rw [if_neg (by omega), if_neg (by omega)]; rfl
  · unfold lin; split
    · exact hu
    · split
      · exact hv
      · exact B0
  · unfold lin; rw [if_neg (by omega), if_neg (by omega)]
theorem rH_ {u : Int} (hu : B512 u) : Po (ap_ [E (Z.of u)]) (lin u 0) := by
  rw [jC_]
  refine lL_ (fun k => ?_) (fun k => ?_) fun k hk => ?_
  · match k with
    | 0 => rfl
    | k + 1 => rw [ed_ (by simp)]; unfold lin; rw [if_neg (by omega), ite_self]; rfl
  · unfold lin; split
    · exact hu
    · rw [ite_self]; exact B0
  · unfold lin; rw [if_neg (by omega), ite_self]
theorem nF_ {u v : Int} {b : Nat} (hu : u.natAbs < 2 ^ b) (hv : v.natAbs < 2 ^ b) : Bd (lin u v) 2 b :=
  ⟨fun k hk => by unfold lin; rw [if_neg (by omega), if_neg (by omega)], fun k => by
    unfold lin; split
    · exact hu
    · split
      · exact hv
      · exact Nat.pow_pos (by decide)⟩
def sb (c : Nat → Int) (u v W : Int) (L : Nat) : Nat → Nat → Int
  | 0 => fun _ => 0
  | t + 1 => fun k => conv (sb c u v W L t) (lin u v) k + lin (c (L - 1 - t) * W ^ t) 0 k
variable {u v W : Int} {L : Nat}
theorem sb_Bd {b l e w n : Nat} (hc : ∀ k, (c k).natAbs < 2 ^ b) (hu : u.natAbs < 2 ^ l) (hv : v.natAbs < 2 ^ l) (hW : W.natAbs < 2 ^ l) (hn : n ≤ 2 ^ e) (h1 : l + e + 1 ≤ w) (h2 : b + 1 ≤ w) : ∀ t : Nat, t ≤ n → Bd (sb c u v W L t) t (w * t)
  | 0, _ => ⟨fun _ _ => rfl, fun _ => Nat.pow_pos (by decide)⟩
  | t + 1, ht => by
    have ih := sb_Bd hc hu hv hW hn h1 h2 t (by omega)
    have k1 := (ih.conv (nF_ hu hv) (e := e) (by omega)).mono (n' := t + 1) (b1 := w * t + w - 1) (by omega) (by omega)
    have k2 : (c (L - 1 - t) * W ^ t).natAbs < 2 ^ (w * t + w - 1) := by
      rw [Int.natAbs_mul, Int.natAbs_pow]
      have a1 : W.natAbs ^ t ≤ 2 ^ (l * t) := by rw [Nat.pow_mul]; exact Nat.pow_le_pow_left (Nat.le_of_lt hW) t
      have a2 : l * t ≤ w * t := Nat.mul_le_mul_right t (by omega)
      have a3 : (c (L - 1 - t)).natAbs * W.natAbs ^ t < 2 ^ b * 2 ^ (l * t) := by
        have := Nat.mul_le_mul_left (c (L - 1 - t)).natAbs a1
        have := Nat.mul_lt_mul_of_pos_right (hc (L - 1 - t)) (Nat.pow_pos (n := l * t) (show 0 < 2 by decide))
        omega
      rw [← Nat.pow_add] at a3
      exact Nat.lt_of_lt_of_le a3 (Nat.pow_le_pow_right (by decide) (by omega))
    have k3 : Bd (lin (c (L - 1 - t) * W ^ t) 0) 1 (w * t + w - 1) := ⟨fun k hk => by unfold lin; rw [if_neg (by omega), ite_self], (nF_ k2 (Nat.pow_pos (by decide))).b⟩
    refine (k1.add k3).mono (by omega) ?_
    rw [Nat.mul_succ]; omega
theorem pA_ (u v : Int) (y : Rat) {K : Nat} (hK : 2 ≤ K) : vl (cR (lin u v)) y K = (u : Rat) + (v : Rat) * y := by
  rw [hr_ (n := 2) (fun i hi => by unfold cR lin; rw [if_neg (by omega), if_neg (by omega)]; rfl) hK]
  show (0 + ((u : Int) : Rat) * y ^ 0) + ((v : Int) : Rat) * y ^ 1 = _
  rw [Rat.pow_zero, Rat.pow_one, Rat.zero_add, Rat.mul_one]
theorem pT_ {y z : Rat} (hz : (u : Rat) + (v : Rat) * y = (W : Rat) * z) (hs : ∀ t, t ≤ L → ∀ k, t ≤ k → sb c u v W L t k = 0) (hL : L ≤ 24) : ∀ t : Nat, t ≤ L → vl (cR (sb c u v W L t)) y 26 * (W : Rat) = (W : Rat) ^ t * vl (fun j => cR c (L - t + j)) z t
  | 0, _ => by
    show sumN _ _ * _ = _ * (0 : Rat)
    rw [dz_ fun i _ => by show ((0 : Int) : Rat) * _ = 0; exact Rat.zero_mul _, Rat.mul_zero, Rat.zero_mul]
  | t + 1, ht => by
    have ih := pT_ hz hs hL t (by omega)
    have e1 : cR (sb c u v W L (t + 1)) = fun k => conv (cR (sb c u v W L t)) (cR (lin u v)) k + cR (lin (c (L - 1 - t) * W ^ t) 0) k := by
      rw [← jT_]; funext k; exact Rat.intCast_add ..
    rw [e1, pV_, nu_ (n := t) (m := 2) (fun i hi => by unfold cR; rw [hs t (by omega) i hi]; rfl) (fun i hi => by unfold cR lin; rw [if_neg (by omega), if_neg (by omega)]; rfl) (by omega), pA_ _ _ _ (Nat.le_refl _), pA_ _ _ _ (by decide), hz,
      ← hr_ (n := t) (m := 26) (fun i hi => by unfold cR; rw [hs t (by omega) i hi]; rfl) (by omega)]
    generalize vl (cR (sb c u v W L t)) y 26 = H at *
    rw [mb_, Rat.pow_succ, Rat.intCast_mul, Rat.intCast_pow]
    rw [show (fun i => (fun j => cR c (L - (t + 1) + j)) (i + 1)) = fun j => cR c (L - t + j) from funext fun j => by show cR c _ = cR c _; congr 1; omega]
    rw [show L - (t + 1) + 0 = L - 1 - t by omega]
    show _ = _ * (((c (L - 1 - t) : Int) : Rat) + _)
    generalize vl (fun j => cR c (L - t + j)) z t = S at *
    rw [show ((0 : Int) : Rat) = 0 from rfl]
    grind
theorem sl_ {y z : Rat} (hz : (u : Rat) + (v : Rat) * y = (W : Rat) * z) (hW : 0 < W) (hs : ∀ t, t ≤ L → ∀ k, t ≤ k → sb c u v W L t k = 0) (hL : L ≤ 24) : vl (cR (sb c u v W L L)) y 26 = (W : Rat) ^ (L - 1) * vl (cR c) z L := by
  have hd : (W : Rat) ≠ 0 := fun h => by have := Rat.intCast_eq_zero_iff.1 h; omega
  have h := pT_ (c := c) hz hs hL L (Nat.le_refl _)
  rw [show (fun j => cR c (L - L + j)) = cR c from funext fun j => by congr 1; omega] at h
  cases L with
  | zero =>
    show _ = _ * (0 : Rat)
    rw [Rat.mul_zero]
    exact dz_ fun i _ => by show ((0 : Int) : Rat) * _ = 0; exact Rat.zero_mul _
  | succ n =>
    rw [Rat.pow_succ] at h
    rw [Nat.add_sub_cancel]
    have : (vl (cR (sb c u v W (n + 1) (n + 1))) y 26 - (W : Rat) ^ n * vl (cR c) z (n + 1)) * W = 0 := by grind
    rcases Rat.mul_eq_zero.1 this with h | h
    · grind
    · exact absurd h hd
end
end Go.Num


set_option linter.unusedVariables false
set_option linter.unusedSimpArgs false
namespace Go.Num
open Go Go.Kn
theorem fine2 (x y : Rt) : b4_ [x, y] = (aL_ x && aL_ y) := by
  unfold b4_ dx_ dC_
  have e : cq_ [x, y] (fun y => cn_ y) ([x, y].length + 1) 0 = bif aL_ x then (bif aL_ y then .inl 2 else .inr (W.cv 1)) else .inr (W.cv 0) := by
    show (bif cn_ x then _ else (bif cn_ y then _ else _)) = _
    unfold cn_
    cases aL_ x <;> cases aL_ y <;> rfl
  rw [e]
  cases aL_ x <;> cases aL_ y <;> rfl
theorem qm_ {c : Nat → Int} {W : Int} {b l t : Nat} {v : Int} (hc : v.natAbs < 2 ^ b) (hW : W.natAbs < 2 ^ l) : (v * W ^ t).natAbs < 2 ^ (b + l * t) := by
  rw [Int.natAbs_mul, Int.natAbs_pow, Nat.pow_add]
  have a1 : W.natAbs ^ t ≤ 2 ^ (l * t) := by rw [Nat.pow_mul]; exact Nat.pow_le_pow_left (Nat.le_of_lt hW) t
  have := Nat.mul_le_mul_left v.natAbs a1
  have := Nat.mul_lt_mul_of_pos_right hc (Nat.pow_pos (n := l * t) (show 0 < 2 by decide))
  omega
section
variable {p : List I} {c : Nat → Int} {a b : Rt} {N D M F : Int}
theorem pg_ {bc l e w n : Nat} (h : Po p c) (hb : Bd c n bc) (ia : a.Is N D) (ib : b.Is M F) (hu : (N * F).natAbs < 2 ^ l) (hv : (M * D).natAbs < 2 ^ l) (hW : (D * F).natAbs < 2 ^ l) (hn : n ≤ 2 ^ e) (h24 : n ≤ 24) (h1 : l + e + 1 ≤ w) (h2 : bc + 1 ≤ w) (hw : w * n ≤ 512) :
    ∀ (f t : Nat) (i : Int) (r : List I), t ≤ p.length → i = ((p.length : Nat) : Int) - 1 - t → p.length - t < f → Po r (sb c (N * F) (M * D) (D * F) p.length t) →
    Po (bt_ p a b f r i).1 (sb c (N * F) (M * D) (D * F) p.length p.length)
  | 0, t, i, r, _, _, hf, _ => absurd hf (Nat.not_lt_zero _)
  | f + 1, t, i, r, ht, hi, hf, hr => by
    have hl := h.len hb
    unfold bt_
    by_cases h0 : 0 ≤ i
    · rw [decide_eq_true h0, cond_true]
      have htl : t < p.length := by omega
      have e1 : i.toNat = p.length - 1 - t := by omega
      have e2 : p.length - 1 - i.toNat = t := by omega
      have wt : w * t + w ≤ w * n := by have := Nat.mul_le_mul_left w (show t + 1 ≤ n by omega); rw [Nat.mul_succ] at this; exact this
      have lt : l * t ≤ w * t := Nat.mul_le_mul_right t (by omega)
      have hp : ∀ j, j ≤ t → B512 ((D * F) ^ j) := fun j hj => by
        refine ec_ (k := l * j + 1) ?_ ?_
        · rw [Int.natAbs_pow]
          have a1 : (D * F).natAbs ^ j ≤ 2 ^ (l * j) := by rw [Nat.pow_mul]; exact Nat.pow_le_pow_left (Nat.le_of_lt hW) j
          have a2 : (2 : Nat) ^ (l * j) < 2 ^ (l * j + 1) := Nat.pow_lt_pow_right (by decide) (by omega)
          omega
        · have := Nat.mul_le_mul_left l hj
          omega
      have hc := qm_ (c := c) (t := t) (hb.b (p.length - 1 - t)) hW
      have bc' : B512 (c (p.length - 1 - t) * (D * F) ^ t) := ec_ hc (by omega)
      have bu : B512 (N * F) := ec_ hu (by omega)
      have bv : B512 (M * D) := ec_ hv (by omega)
      have bW : B512 (D * F) := ec_ hW (by omega)
      have bt := sb_Bd (L := p.length) hb.b hu hv hW hn h1 h2 t (by omega)
      have bt1 := sb_Bd (L := p.length) hb.b hu hv hW hn h1 h2 (t + 1) (by omega)
      simp only
      rw [e2, hf_ _ _ (show t < max (((p.length : Nat) : Int)).toNat 1 by omega), ia.ed, ia.en, ib.ed, ib.en, E_dec, E_dec, E_dec, E_dec, ee_ ia.hd ib.hd, ee_ ia.hn ib.hd, ee_ ib.hn ia.hd, lz_ hp, e1, h.get, E_dec, E_dec, ee_ (h.B _) (hp t (Nat.le_refl _))]
      refine pg_ h hb ia ib hu hv hW hn h24 h1 h2 hw f (t + 1) _ _ (by omega) (by omega) (by omega) ?_
      have m1 := fM_ hr (ry_ bu bv) bt (nF_ hu hv) (e := e) (by omega) (by omega) (by omega)
      exact pL_ m1 (rH_ bc') fun k => bt1.B (by rw [Nat.mul_succ]; omega) k
    · rw [decide_eq_false h0, cond_false]
      have : t = p.length := by omega
      rw [← this]; rw [← this] at hr; exact hr
end
theorem my_ {p : List I} {c : Nat → Int} {a b : Rt} {qa qb : Rat} {bc s e w n : Nat} (h : Po p c) (hb : Bd c n bc) (ha : a.At qa) (hq : b.At qb) (sa : Sz qa s) (sq : Sz qb s) (hn : n ≤ 2 ^ e) (h24 : n ≤ 24) (h1 : s + s + e + 1 ≤ w) (h2 : bc + 1 ≤ w) (hw : w * n ≤ 512) :
    ∃ (g : Int) (γ : Nat → Int) (W : Int), 0 < g ∧ 0 < W ∧ Po (ar_ p a b) γ ∧ Bd γ n (w * n) ∧ aa_ (ar_ p a b) = ar_ p a b ∧ (∀ k, p.length ≤ k → γ k = 0) ∧
      ∀ y : Rat, (g : Rat) * vl (cR γ) y 26 = ((W ^ (p.length - 1) : Int) : Rat) * vl (cR c) (qa + qb * y) n := by
  have ia := At.is ha
  have ib := At.is hq
  have hl := h.len hb
  have da : ((qa.den : Int)).natAbs < 2 ^ s := by rw [Int.natAbs_natCast]; exact sa.d
  have db : ((qb.den : Int)).natAbs < 2 ^ s := by rw [Int.natAbs_natCast]; exact sq.d
  have hu := fa_ sa.n db
  have hv := fa_ sq.n da
  have hW := fa_ da db
  have hs : ∀ t, t ≤ p.length → ∀ k, t ≤ k → sb c (qa.num * qb.den) (qb.num * qa.den) (qa.den * qb.den) p.length t k = 0 := fun t ht => (sb_Bd (L := p.length) hb.b hu hv hW hn h1 h2 t (by omega)).z
  have hS : Po (a1_ p a b) (sb c (qa.num * qb.den) (qb.num * qa.den) (qa.den * qb.den) p.length p.length) := by
    unfold a1_
    rw [h.nb, fine2, gy_, gy_, hd_ ha, hd_ hq]
    exact pg_ h hb ia ib hu hv hW hn h24 h1 h2 hw (p.length + 1) 0 _ [] (Nat.zero_le _) (by omega) (by omega) nx_
  have hP := jH_ hS
  have bS := sb_Bd (L := p.length) hb.b hu hv hW hn h1 h2 p.length hl
  have hWp : (0 : Int) < qa.den * qb.den := Int.mul_pos e3_ e3_
  have hval : ∀ y : Rat, vl (cR (sb c (qa.num * qb.den) (qb.num * qa.den) (qa.den * qb.den) p.length p.length)) y 26 = (((((qa.den : Int) * (qb.den : Int)) ^ (p.length - 1) : Int)) : Rat) * vl (cR c) (qa + qb * y) n := fun y => by
    have hz : (((qa.num * qb.den : Int)) : Rat) + ((qb.num * qa.den : Int) : Rat) * y = ((qa.den * qb.den : Int) : Rat) * (qa + qb * y) := by
      have k1 := @in_ qa
      have k2 := @in_ qb
      rw [Rat.intCast_mul, Rat.intCast_mul, Rat.intCast_mul, ← k1, ← k2]; grind
    have e1 := sl_ (c := c) hz hWp hs (by omega)
    rw [Rat.intCast_pow, e1, hr_ (n := p.length) (fun i hi => by unfold cR; rw [h.zero hi]; rfl) hl]
  have e0 : ∀ k, ((cN (a1_ p a b) : Nat) : Int) * ((sb c (qa.num * qb.den) (qb.num * qa.den) (qa.den * qb.den) p.length p.length) k).fdiv (cN (a1_ p a b)) = sb c (qa.num * qb.den) (qb.num * qa.den) (qa.den * qb.den) p.length p.length k := jz_ hS
  have id : aa_ (ar_ p a b) = ar_ p a b := by unfold ar_; exact nX_ hS
  have hbd := (qR_ hS bS).mono hl (Nat.mul_le_mul_left w hl)
  have hz : ∀ k, p.length ≤ k → (sb c (qa.num * qb.den) (qb.num * qa.den) (qa.den * qb.den) p.length p.length k).fdiv (cN (a1_ p a b)) = 0 := fun k hk => by rw [bS.z k hk, Int.zero_fdiv]
  by_cases he : a1_ p a b = []
  · refine ⟨1, _, _, by decide, hWp, hP, hbd, id, hz, fun y => ?_⟩
    rw [← hval y, show (((1 : Int)) : Rat) = 1 from rfl, Rat.one_mul]
    congr 1
    funext k
    have z0 := hS.zero (k := k) (by rw [he]; exact Nat.zero_le k)
    show (((sb c _ _ _ _ _ k).fdiv _ : Int) : Rat) = ((sb c _ _ _ _ _ k : Int) : Rat)
    rw [z0, Int.zero_fdiv]
  · refine ⟨((cN (a1_ p a b) : Nat) : Int), _, _, by have := hS.cpos he; omega, hWp, hP, hbd, id, hz, fun y => ?_⟩
    rw [← hval y, ← r2_]
    congr 1
    funext k
    show _ * _ = ((_ : Int) : Rat)
    rw [← e0 k, Rat.intCast_mul]; rfl
theorem oS_ {u v : Rat} {g W : Int} (hg : 0 < g) (hW : 0 < W) (h : (g : Rat) * u = (W : Rat) * v) : u.num.sign = v.num.sign := by
  have := congrArg (fun r : Rat => r.num.sign) h
  simp only [rY_, r7_] at this
  rwa [Int.sign_eq_one_of_pos hg, Int.sign_eq_one_of_pos hW, Int.one_mul, Int.one_mul] at this
theorem mr_ (p : List I) (a b t : Rt) : bV_ p a b t = true := by
  unfold bV_
  cases hc : (!(ag_ p 6 30) || ((ad_ p) || (!(au_ a 16) || (!(au_ b 16) || (!(au_ t 16))))))
  case true => rw [cond_true]; exact go_
  simp only [Bool.or_eq_false_iff, Bool.not_eq_false'] at hc
  obtain ⟨fp, bp, h1, h2, h3⟩ := hc
  have rp := (few_f (p := p) (d := 6) (b := 30) (by rw [fp]; rfl)).1
  obtain ⟨c, hp, hb⟩ := cS_ fp (jp_ (h1_ rp) bp)
  obtain ⟨qa, ha, sa⟩ := hO_ h1
  obtain ⟨qb, hq, sq⟩ := hO_ h2
  obtain ⟨y, hy, sy⟩ := hO_ h3
  obtain ⟨g, γ, W, hg, hW, hC, bC, id, _, hv⟩ := my_ (e := 3) (w := 36) hp hb ha hq sa sq (by decide) (by decide) (by decide) (by decide) (by decide)
  have hz := ph_ ha (rb_ hq hy sq sy (by decide)) sa (sq.mul sy) (by decide)
  have sz := sa.add (sq.mul sy)
  rw [← nl_, ← mN_] at hz
  have u := lJ_ (e := 3) hC bC hy sy (by decide) (by decide)
  have v := lJ_ (e := 3) hp hb hz sz (by decide) (by decide)
  have e := oS_ hg (Int.pow_pos hW (m := p.length - 1)) (hv y)
  rw [hr_ (n := Int.toNat (6 + 1)) bC.cz (by decide)] at e
  rw [cond_false, go_, id, gJ_, u.1, v.1, u.2, v.2, e]
  simp
end Go.Num

