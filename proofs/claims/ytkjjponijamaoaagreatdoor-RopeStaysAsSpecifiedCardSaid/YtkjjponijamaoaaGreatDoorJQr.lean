/- Lemmas: what they ask stands in their statements. -/
import Derived.Test.YtkjjponijamaoaaGreatDoorJGa
set_option linter.unusedSimpArgs false
set_option linter.unusedVariables false
set_option maxHeartbeats 8000000
set_option maxRecDepth 20000
namespace Go.Proofs.YtkjjponijamaoaaGreatDoor
open Go.Kn Go.Num Tryz
attribute [local irreducible] Go.Kn.W WL PL OpQ OpR OpS
theorem pL (a:W) (b:W) :
    Ret prog 275 [.int .i64 a.1,.int .i64 b.1] (.int .i64 ((aA a b).1)):=by
 refine bG (N:=17) func275 O O zz_ (fun w0=>?_);refine giI ?_;refine go3 ?_;refine wN (rg [0,1] 5 8) (fun g M=>∃ (p:W) (q:W),(gL a b (b.1.natAbs+1) a b)=(p,q)∧(g 0 = .int .i64 p.1∧g 1 = .int .i64 q.1)∧M=[]) (fun K_u1 hK_u1=>?_) ?_
 ·refine go_ ?_;refine bX (rg [0,1] 5 8) (fun g nn M=>∃ (p:W) (q:W),(gL a b nn p q)=(gL a b (b.1.natAbs+1) a b)∧q.1.natAbs<nn∧(True)∧(g 0 = .int .i64 p.1∧g 1 = .int .i64 q.1)∧M=[]) (b.1.natAbs+1) ?start ?round
  case start=>exact ⟨_,s0,a,b,rfl,Nat.lt_succ_self _,trivial,⟨rfl,rfl⟩,rfl⟩
  case round =>
   rintro nn g M ⟨p,q,hT0,hq0,hinv0,⟨hg0,hg1⟩,rfl⟩;obtain ⟨k0,rfl⟩:∃ m,nn=m+1:=⟨nn - 1,by omega⟩;refine gS2 hg0 hg1 ?_;clear hg0 hg1;refine go5 ?_;refine aH _ O (fun h3=>?_) (fun h3=>?_)
   ·refine go5 ?_;refine sQ (aY (v':=.int .i64 ((W.rem p q).1)) (qU O O (BH h3)) O) O (j0 ?_);refine ⟨pp_,_,_,s0,(Nat.lt_succ_self _),q,(W.rem p q),(by exact (hT0.symm.trans (Eq.symm (aX h3 O))).symm),(Nat.lt_of_lt_of_le (W.rem_lt p h3) (Nat.le_of_lt_succ hq0)),trivial,⟨rfl,rfl⟩,rfl⟩
   refine go_ ?_;refine hK_u1 _ _ pp_ ⟨_,s0,p,q,(by exact hT0.symm.trans (Eq.symm (aJ h3 O))),⟨rfl,rfl⟩,rfl⟩
 rintro g M ⟨p,q,hCu1,⟨hg0,hg1⟩,rfl⟩;refine gS2 hg0 hg1 ?_;clear hg0 hg1;refine go3 ?_;refine sV (.int .i64 ((W.neg p).1)) O O (sQ (aY (v':=.int .i64 ((W.max p (W.neg p)).1)) (rV O O) (congrArg (Value.int .i64) (W.max_1 p (W.neg p)))) O (go3 ?_));refine rt1 ?_;exact congrArg vS9 (show _=(aA a b) from (by unfold aA;exact trs (Eq.symm (apS hCu1)) O))
theorem BY (a:(A4 W)) :
    Ret prog 248 [AV [cw a.x.1,cw a.y.1,cw a.z.1,cw a.t.1]] (.bool (fQ a)):=by
 refine bG (N:=18) func248 O O zz_ (fun w0=>?_);refine giI ?_;refine go2 ?_;intro b1 hb1;refine go7 ?_;refine rA 6 (go4 ?_);refine sV (.bool true) O O (go5 ?_);refine gJv (rg [] 8 10) [(17,.bool (decide (64<a.x.1)||decide (a.x.1<(-64))))] (fun K5 J5=>?_) ?_
 ·refine go5 ?_;refine sBB O (fun h3=>?_) (fun h3=>?_)
  ·refine go6 ?_;refine J5 _ _ pp_ s0 (bH (mJ h3))
  refine go6 ?_;refine J5 _ _ pp_ s0 (bH (kC h3 O))
 intro g4;refine aH _ O (fun h5=>?_) (fun h5=>?_)
 ·refine go4 ?_;refine rt1 ?_;exact congrArg vS2 (show _=(fQ a) from aX h5 O)
 refine go3 ?_;refine sV (.int .i64 1) O O (go6 ?_);refine sV (.bool true) O O (go5 ?_);refine gJv (rg [] 8 10) [(17,.bool (decide (64<a.y.1)||decide (a.y.1<(-64))))] (fun K9 J9=>?_) ?_
 ·refine go5 ?_;refine sBB O (fun h7=>?_) (fun h7=>?_)
  ·refine go6 ?_;refine J9 _ _ pp_ s0 (bH (mJ h7))
  refine go6 ?_;refine J9 _ _ pp_ s0 (bH (kC h7 O))
 intro g8;refine aH _ O (fun h9=>?_) (fun h9=>?_)
 ·refine go4 ?_;refine rt1 ?_;exact congrArg vS2 (show _=(fQ a) from aJ h5 (aX h9 O))
 refine go3 ?_;refine sV (.int .i64 2) O O (go6 ?_);refine sV (.bool true) O O (go5 ?_);refine gJv (rg [] 8 10) [(17,.bool (decide (64<a.z.1)||decide (a.z.1<(-64))))] (fun K13 J13=>?_) ?_
 ·refine go5 ?_;refine sBB O (fun h11=>?_) (fun h11=>?_)
  ·refine go6 ?_;refine J13 _ _ pp_ s0 (bH (mJ h11))
  refine go6 ?_;refine J13 _ _ pp_ s0 (bH (kC h11 O))
 intro g12;refine aH _ O (fun h13=>?_) (fun h13=>?_)
 ·refine go4 ?_;refine rt1 ?_;exact congrArg vS2 (show _=(fQ a) from aJ h5 (aJ h9 (aX h13 O)))
 refine go3 ?_;refine sV (.int .i64 3) O O (go6 ?_);refine sV (.bool true) O O (go5 ?_);refine gJv (rg [] 8 10) [(17,.bool (decide (64<a.t.1)||decide (a.t.1<(-64))))] (fun K17 J17=>?_) ?_
 ·refine go5 ?_;refine sBB O (fun h15=>?_) (fun h15=>?_)
  ·refine go6 ?_;refine J17 _ _ pp_ s0 (bH (mJ h15))
  refine go6 ?_;refine J17 _ _ pp_ s0 (bH (kC h15 O))
 intro g16;refine aH _ O (fun h17=>?_) (fun h17=>?_)
 ·refine go4 ?_;refine rt1 ?_;exact congrArg vS2 (show _=(fQ a) from aJ h5 (aJ h9 (aJ h13 (aX h17 O))))
 refine go3 ?_;refine sV (.int .i64 4) O O (go6 ?_);refine sV (.bool false) O O (go7 ?_);refine rt1 ?_;exact congrArg vS2 (show _=(fQ a) from aJ h5 (aJ h9 (aJ h13 (aJ h17 O))))
theorem oX (a:W) :
   Ret prog 276 [.int .i64 a.1] (.int .i64 ((aQ a).1)):=by
 refine bG (N:=7) func276 O O zz_ (fun w0=>?_);refine giI ?_;refine go8 ?_;refine aH _ O (fun h1=>?_) (fun h1=>?_)
 ·refine go4 ?_;refine rt1 ?_;exact congrArg vS9 (show _=(aQ a) from aX h1 O)
 refine go3 ?_;refine sQ (aY (v':=.int .i64 ((W.min a (wl 1)).1)) (XM O O) (congrArg (Value.int .i64) (W.min_1 a (wl 1)))) O ?_;refine go3 ?_;refine rt1 ?_;exact congrArg vS9 (show _=(aQ a) from aJ h1 O)
theorem w4 (a:(A4 W)) :
    Ret prog 249 [AV [cw a.x.1,cw a.y.1,cw a.z.1,cw a.t.1]] (.tuple #[AV [cw ((((cV a).1).x).1),cw ((((cV a).1).y).1),cw ((((cV a).1).z).1),cw ((((cV a).1).t).1)],.bool ((cV a).2)]):=by
 refine bG (N:=50) func249 O O zz_ (fun w0=>?_);refine giI ?_;refine go2 ?_;intro b1 hb1;refine go_ ?_;intro b2 hb2;refine ZK ?_;refine rA 6 (go4 ?_);refine sV (.bool true) O O (go3 ?_);obtain ⟨r4,hr4⟩:=nm ((bif (a.t.1 != 0) then (aQ a.t) else (wl 0)):W);refine gJv (rg [4,5] 11 13) [(4,.int .i64 ((aA (wl 0) a.t).1)),(5,.int .i64 r4.1)] (fun K4 J4=>?_) ?_
 ·refine go6 ?_;refine sQ (bE aB (pL (wl 0) a.t) O) O ?_;refine go8 ?_;refine aH _ O (fun h5=>?_) (fun h5=>?_)
  ·refine go4 ?_;refine sQ (bE aB (oX a.t) O) O (go2 ?_);refine J4 _ _ pp_ s0 ⟨rfl,(show (.int .i64 ((aQ a.t).1):Value) = .int .i64 r4.1 by rw [hr4];first|done|rfl|simp only [h5,cond_true,cond_false,Bool.true_and,Bool.false_and,Bool.and_true,Bool.and_false,Bool.true_or,Bool.false_or,Bool.or_true,Bool.or_false,Bool.not_true,Bool.not_false]|(simp only [h5,cond_true,cond_false,Bool.true_and,Bool.false_and,Bool.and_true,Bool.and_false,Bool.true_or,Bool.false_or,Bool.or_true,Bool.or_false,Bool.not_true,Bool.not_false];rfl))⟩
  refine go_ ?_;refine J4 _ _ pp_ s0 ⟨rfl,(show (.int .i64 0:Value) = .int .i64 r4.1 by rw [hr4];first|done|rfl|simp only [h5,cond_true,cond_false,Bool.true_and,Bool.false_and,Bool.and_true,Bool.and_false,Bool.true_or,Bool.false_or,Bool.or_true,Bool.or_false,Bool.not_true,Bool.not_false]|(simp only [h5,cond_true,cond_false,Bool.true_and,Bool.false_and,Bool.and_true,Bool.and_false,Bool.true_or,Bool.false_or,Bool.or_true,Bool.or_false,Bool.not_true,Bool.not_false];rfl))⟩
 intro g6;refine go2 ?_;refine sV (.int .i64 2) O O (go6 ?_);refine sV (.bool true) O O (go3 ?_);refine gJv (rg [4,5] 11 13) [(4,.int .i64 ((aA (aA (wl 0) a.t) a.z).1)),(5,.int .i64 ((bif (a.z.1 != 0) then (aQ a.z) else r4).1))] (fun K7 J7=>?_) ?_
 ·refine go6 ?_;refine sQ (bE aB (pL (aA (wl 0) a.t) a.z) O) O ?_;refine go8 ?_;refine aH _ O (fun h8=>?_) (fun h8=>?_)
  ·refine go4 ?_;refine sQ (bE aB (oX a.z) O) O (go2 ?_);refine J7 _ _ pp_ s0 ⟨rfl,(show (.int .i64 ((aQ a.z).1):Value) = .int .i64 ((bif (a.z.1 != 0) then (aQ a.z) else r4).1) by first|done|rfl|simp [h8]|(simp [h8];rfl))⟩
  refine go_ ?_;refine J7 _ _ pp_ s0 ⟨rfl,(show (.int .i64 r4.1:Value) = .int .i64 ((bif (a.z.1 != 0) then (aQ a.z) else r4).1) by first|done|rfl|simp [h8]|(simp [h8];rfl))⟩
 intro g9;refine go2 ?_;refine sV (.int .i64 1) O O (go6 ?_);refine sV (.bool true) O O (go3 ?_);obtain ⟨r11,hr11⟩:=nm ((bif (a.y.1 != 0) then (aQ a.y) else (bif (a.z.1 != 0) then (aQ a.z) else r4)):W);refine gJv (rg [4,5] 11 13) [(4,.int .i64 ((aA (aA (aA (wl 0) a.t) a.z) a.y).1)),(5,.int .i64 r11.1)] (fun K10 J10=>?_) ?_
 ·refine go6 ?_;refine sQ (bE aB (pL (aA (aA (wl 0) a.t) a.z) a.y) O) O ?_;refine go8 ?_;refine aH _ O (fun h12=>?_) (fun h12=>?_)
  ·refine go4 ?_;refine sQ (bE aB (oX a.y) O) O (go2 ?_);refine J10 _ _ pp_ s0 ⟨rfl,(show (.int .i64 ((aQ a.y).1):Value) = .int .i64 r11.1 by rw [hr11];first|done|rfl|simp only [h12,cond_true,cond_false,Bool.true_and,Bool.false_and,Bool.and_true,Bool.and_false,Bool.true_or,Bool.false_or,Bool.or_true,Bool.or_false,Bool.not_true,Bool.not_false]|(simp only [h12,cond_true,cond_false,Bool.true_and,Bool.false_and,Bool.and_true,Bool.and_false,Bool.true_or,Bool.false_or,Bool.or_true,Bool.or_false,Bool.not_true,Bool.not_false];rfl))⟩
  refine go_ ?_;refine J10 _ _ pp_ s0 ⟨rfl,(show (.int .i64 ((bif (a.z.1 != 0) then (aQ a.z) else r4).1):Value) = .int .i64 r11.1 by rw [hr11];first|done|rfl|simp only [h12,cond_true,cond_false,Bool.true_and,Bool.false_and,Bool.and_true,Bool.and_false,Bool.true_or,Bool.false_or,Bool.or_true,Bool.or_false,Bool.not_true,Bool.not_false]|(simp only [h12,cond_true,cond_false,Bool.true_and,Bool.false_and,Bool.and_true,Bool.and_false,Bool.true_or,Bool.false_or,Bool.or_true,Bool.or_false,Bool.not_true,Bool.not_false];rfl))⟩
 intro g13;refine go2 ?_;refine sV (.int .i64 0) O O (go6 ?_);refine sV (.bool true) O O (go3 ?_);refine gJv (rg [4,5] 11 13) [(4,.int .i64 ((aA (aA (aA (aA (wl 0) a.t) a.z) a.y) a.x).1)),(5,.int .i64 ((bif (a.x.1 != 0) then (aQ a.x) else r11).1))] (fun K13 J13=>?_) ?_
 ·refine go6 ?_;refine sQ (bE aB (pL (aA (aA (aA (wl 0) a.t) a.z) a.y) a.x) O) O ?_;refine go8 ?_;refine aH _ O (fun h15=>?_) (fun h15=>?_)
  ·refine go4 ?_;refine sQ (bE aB (oX a.x) O) O (go2 ?_);refine J13 _ _ pp_ s0 ⟨rfl,(show (.int .i64 ((aQ a.x).1):Value) = .int .i64 ((bif (a.x.1 != 0) then (aQ a.x) else r11).1) by first|done|rfl|simp [h15]|(simp [h15];rfl))⟩
  refine go_ ?_;refine J13 _ _ pp_ s0 ⟨rfl,(show (.int .i64 r11.1:Value) = .int .i64 ((bif (a.x.1 != 0) then (aQ a.x) else r11).1) by first|done|rfl|simp [h15]|(simp [h15];rfl))⟩
 intro g16;refine go2 ?_;refine sV (.int .i64 (-1)) O O (go6 ?_);refine sV (.bool false) O O (go7 ?_);refine sV (.int .i64 ((W.neg (aA (aA (aA (aA (wl 0) a.t) a.z) a.y) a.x)).1)) O O ?_;refine sQ (aY (v':=.int .i64 ((W.max (aA (aA (aA (aA (wl 0) a.t) a.z) a.y) a.x) (W.neg (aA (aA (aA (aA (wl 0) a.t) a.z) a.y) a.x))).1)) (rV O O) (congrArg (Value.int .i64) (W.max_1 (aA (aA (aA (aA (wl 0) a.t) a.z) a.y) a.x) (W.neg (aA (aA (aA (aA (wl 0) a.t) a.z) a.y) a.x))))) O ?_;refine sV (.int .i64 ((W.mul (bif (a.x.1 != 0) then (aQ a.x) else r11) (W.max (aA (aA (aA (aA (wl 0) a.t) a.z) a.y) a.x) (W.neg (aA (aA (aA (aA (wl 0) a.t) a.z) a.y) a.x)))).1)) O O ?_;refine go7 ?_;refine aH _ O (fun h17=>?_) (fun h17=>?_)
 ·refine go6 ?_;refine qE O (.inr O) (dP O m0 tyT O) O ?_
  subst_vars;exact congrArg vS1 (show _=(cV a) from aX h17 O)
 refine go_ ?_;refine gds (sd (sk s0)) [0,4,8,12,16,20,24,28,32,36,40,44,48,52,56,60,64,69,72] [17] mix (by kernel_rfl) (go3 ?_);refine pQ O (aY (v':=.int .i64 ((W.quo a.x (W.mul (bif (a.x.1 != 0) then (aQ a.x) else r11) (W.max (aA (aA (aA (aA (wl 0) a.t) a.z) a.y) a.x) (W.neg (aA (aA (aA (aA (wl 0) a.t) a.z) a.y) a.x))))).1)) (lC O O (vS h17)) O) ?_;refine go3 ?_;refine pQ O (aY (v':=.int .i64 ((W.quo a.y (W.mul (bif (a.x.1 != 0) then (aQ a.x) else r11) (W.max (aA (aA (aA (aA (wl 0) a.t) a.z) a.y) a.x) (W.neg (aA (aA (aA (aA (wl 0) a.t) a.z) a.y) a.x))))).1)) (lC O O (vS h17)) O) ?_;refine go3 ?_;refine pQ O (aY (v':=.int .i64 ((W.quo a.z (W.mul (bif (a.x.1 != 0) then (aQ a.x) else r11) (W.max (aA (aA (aA (aA (wl 0) a.t) a.z) a.y) a.x) (W.neg (aA (aA (aA (aA (wl 0) a.t) a.z) a.y) a.x))))).1)) (lC O O (vS h17)) O) ?_;refine go3 ?_;refine pQ O (aY (v':=.int .i64 ((W.quo a.t (W.mul (bif (a.x.1 != 0) then (aQ a.x) else r11) (W.max (aA (aA (aA (aA (wl 0) a.t) a.z) a.y) a.x) (W.neg (aA (aA (aA (aA (wl 0) a.t) a.z) a.y) a.x))))).1)) (lC O O (vS h17)) O) ?_;refine pQ O (nN zpT arT O (.cons [cw ((W.quo a.x (W.mul (bif (a.x.1 != 0) then (aQ a.x) else r11) (W.max (aA (aA (aA (aA (wl 0) a.t) a.z) a.y) a.x) (W.neg (aA (aA (aA (aA (wl 0) a.t) a.z) a.y) a.x))))).1)] [cw ((W.quo a.x (W.mul (bif (a.x.1 != 0) then (aQ a.x) else r11) (W.max (aA (aA (aA (aA (wl 0) a.t) a.z) a.y) a.x) (W.neg (aA (aA (aA (aA (wl 0) a.t) a.z) a.y) a.x))))).1),cw 0,cw 0,cw 0] O O O O (.cons [cw ((W.quo a.y (W.mul (bif (a.x.1 != 0) then (aQ a.x) else r11) (W.max (aA (aA (aA (aA (wl 0) a.t) a.z) a.y) a.x) (W.neg (aA (aA (aA (aA (wl 0) a.t) a.z) a.y) a.x))))).1)] [cw ((W.quo a.x (W.mul (bif (a.x.1 != 0) then (aQ a.x) else r11) (W.max (aA (aA (aA (aA (wl 0) a.t) a.z) a.y) a.x) (W.neg (aA (aA (aA (aA (wl 0) a.t) a.z) a.y) a.x))))).1),cw ((W.quo a.y (W.mul (bif (a.x.1 != 0) then (aQ a.x) else r11) (W.max (aA (aA (aA (aA (wl 0) a.t) a.z) a.y) a.x) (W.neg (aA (aA (aA (aA (wl 0) a.t) a.z) a.y) a.x))))).1),cw 0,cw 0] O O O O (.cons [cw ((W.quo a.z (W.mul (bif (a.x.1 != 0) then (aQ a.x) else r11) (W.max (aA (aA (aA (aA (wl 0) a.t) a.z) a.y) a.x) (W.neg (aA (aA (aA (aA (wl 0) a.t) a.z) a.y) a.x))))).1)] [cw ((W.quo a.x (W.mul (bif (a.x.1 != 0) then (aQ a.x) else r11) (W.max (aA (aA (aA (aA (wl 0) a.t) a.z) a.y) a.x) (W.neg (aA (aA (aA (aA (wl 0) a.t) a.z) a.y) a.x))))).1),cw ((W.quo a.y (W.mul (bif (a.x.1 != 0) then (aQ a.x) else r11) (W.max (aA (aA (aA (aA (wl 0) a.t) a.z) a.y) a.x) (W.neg (aA (aA (aA (aA (wl 0) a.t) a.z) a.y) a.x))))).1),cw ((W.quo a.z (W.mul (bif (a.x.1 != 0) then (aQ a.x) else r11) (W.max (aA (aA (aA (aA (wl 0) a.t) a.z) a.y) a.x) (W.neg (aA (aA (aA (aA (wl 0) a.t) a.z) a.y) a.x))))).1),cw 0] O O O O (.cons [cw ((W.quo a.t (W.mul (bif (a.x.1 != 0) then (aQ a.x) else r11) (W.max (aA (aA (aA (aA (wl 0) a.t) a.z) a.y) a.x) (W.neg (aA (aA (aA (aA (wl 0) a.t) a.z) a.y) a.x))))).1)] [cw ((W.quo a.x (W.mul (bif (a.x.1 != 0) then (aQ a.x) else r11) (W.max (aA (aA (aA (aA (wl 0) a.t) a.z) a.y) a.x) (W.neg (aA (aA (aA (aA (wl 0) a.t) a.z) a.y) a.x))))).1),cw ((W.quo a.y (W.mul (bif (a.x.1 != 0) then (aQ a.x) else r11) (W.max (aA (aA (aA (aA (wl 0) a.t) a.z) a.y) a.x) (W.neg (aA (aA (aA (aA (wl 0) a.t) a.z) a.y) a.x))))).1),cw ((W.quo a.z (W.mul (bif (a.x.1 != 0) then (aQ a.x) else r11) (W.max (aA (aA (aA (aA (wl 0) a.t) a.z) a.y) a.x) (W.neg (aA (aA (aA (aA (wl 0) a.t) a.z) a.y) a.x))))).1),cw ((W.quo a.t (W.mul (bif (a.x.1 != 0) then (aQ a.x) else r11) (W.max (aA (aA (aA (aA (wl 0) a.t) a.z) a.y) a.x) (W.neg (aA (aA (aA (aA (wl 0) a.t) a.z) a.y) a.x))))).1)] O O O O (.nil _)))))) ?_;refine go4 ?_;refine qE O (.inr O) (dP O m0 tyT O) O ?_
 subst_vars;exact congrArg vS1 (show _=(cV a) from aJ h17 O)
theorem z1 (a:(A4 W)) :
    Ret prog 202 [AV [cw a.x.1,cw a.y.1,cw a.z.1,cw a.t.1]] (.bool (fA a)):=by
 refine bG (N:=19) func202 O O zz_ (fun w0=>?_);refine giI ?_;refine go2 ?_;intro b1 hb1;refine go5 ?_;refine sQ (bE aB (BY a) O) O (go2 ?_);rcases bt (fQ a) with h2|h2
 ·refine W_f (fZ h2) O (go3 ?_);obtain ⟨r3,hr3⟩:=nm ((cV a).1:(A4 W));refine sC (.tuple #[AV [cw r3.x.1,cw r3.y.1,cw r3.z.1,cw r3.t.1],.bool ((cV a).2)]) aB (w4 a) O O (by rw [hr3]) (go4 ?_);intro b4 hb4;refine go3 ?_;refine gJv [2,13,14,15,16,17,18] [(2,.bool ((cV a).2&&(decide (r3.x.1=a.x.1)&&(decide (r3.y.1=a.y.1)&&(decide (r3.z.1=a.z.1)&&decide (r3.t.1=a.t.1))))))] (fun K2 J2=>?_) ?_
  ·refine go2 ?_;refine sBB O (fun h6=>?_) (fun h6=>?_)
   ·refine go2 ?_;refine sQ (tM (r:=(decide (r3.x.1=a.x.1)&&(decide (r3.y.1=a.y.1)&&(decide (r3.z.1=a.z.1)&&decide (r3.t.1=a.t.1))))) O O (mS 8 dd_ aB_ aK_ (bZ rF (bZ rF (bZ rF (lH rF)))) (bZ rF (bZ rF (bZ rF (lH rF)))) (eT O zK (eT O zK (eT O zK (pX zK)))))) O (go3 ?_);refine J2 _ _ pp_ s0 (bH (mW h6 O))
   refine go6 ?_;refine J2 _ _ pp_ s0 (bH (pU h6))
  intro g7;refine go_ ?_;refine rt1 ?_;exact (by subst hr3;exact congrArg vS2 (show _=(fA a) from aX h2 O))
 refine W_t (iX h2) O (go4 ?_);refine rt1 ?_;exact congrArg vS2 (show _=(fA a) from aJ h2 O)
theorem zZ (a:(A4 W)) (b:(A4 W)) :
  Ret prog 274 [AV [cw a.x.1,cw a.y.1,cw a.z.1,cw a.t.1],AV [cw b.x.1,cw b.y.1,cw b.z.1,cw b.t.1]] (.int .i64 ((gP a b).1)):=by
 refine bG (N:=28) func274 O O zz_ (fun w0=>?_);refine giI ?_;refine go2 ?_;intro b1 hb1;refine go_ ?_;intro b2 hb2;refine go7 ?_;refine sV (.int .i64 ((W.mul a.x b.x).1)) O O (go4 ?_);refine sV (.int .i64 ((W.mul a.y b.y).1)) O O (sV (.int .i64 ((W.add (W.mul a.x b.x) (W.mul a.y b.y)).1)) O O (go4 ?_));refine sV (.int .i64 ((W.mul a.z b.z).1)) O O (sV (.int .i64 ((W.add (W.add (W.mul a.x b.x) (W.mul a.y b.y)) (W.mul a.z b.z)).1)) O O (go4 ?_));refine sV (.int .i64 ((W.mul a.t b.t).1)) O O (sV (.int .i64 ((W.add (W.add (W.add (W.mul a.x b.x) (W.mul a.y b.y)) (W.mul a.z b.z)) (W.mul a.t b.t)).1)) O O (go3 ?_));refine rt1 ?_;exact (by rfl)
theorem CH (a:(A3 W)) :
  Ret prog 85 [AV [cw a.x.1,cw a.y.1,cw a.z.1]] (AV [pI (((lA a).x).n),pI (((lA a).x).d),pI (((lA a).y).n),pI (((lA a).y).d),pI (((lA a).z).n),pI (((lA a).z).d)]):=by
 refine bG (N:=13) func85 O O zz_ (fun w0=>?_);refine giI ?_;refine go2 ?_;intro b1 hb1;refine go_ ?_;intro b2 hb2;refine go_ ?_;refine qM (sd (sk s0)) 11 [10] [10] (go2 ?_);refine pQ O (bE aB (fV a.x) O) (go2 ?_);refine pQ O (bE aB (fV a.y) O) (go2 ?_);refine pQ O (bE aB (fV a.z) O) (pQ O (nN zpT arT O (.cons [pI ((aI a.x).n),pI ((aI a.x).d)] [pI ((aI a.x).n),pI ((aI a.x).d),pI I0,pI I0,pI I0,pI I0] O O O O (.cons [pI ((aI a.y).n),pI ((aI a.y).d)] [pI ((aI a.x).n),pI ((aI a.x).d),pI ((aI a.y).n),pI ((aI a.y).d),pI I0,pI I0] O O O O (.cons [pI ((aI a.z).n),pI ((aI a.z).d)] [pI ((aI a.x).n),pI ((aI a.x).d),pI ((aI a.y).n),pI ((aI a.y).d),pI ((aI a.z).n),pI ((aI a.z).d)] O O O O (.nil _))))) (go3 ?_));refine rtX O (dP O m0 tyT O) ?_;exact (by rfl)
end Go.Proofs.YtkjjponijamaoaaGreatDoor
