/- Lemmas: what they ask stands in their statements. -/
import Derived.Test.YtbjlhfochebmiaaGreatDoorNPb
set_option linter.unusedSimpArgs false
set_option linter.unusedVariables false
set_option maxHeartbeats 8000000
set_option maxRecDepth 20000
namespace Go.Proofs.YtbjlhfochebmiaaGreatDoor
open Go.Kn Go.Num Tryz
attribute [local irreducible] Go.Kn.W WL PL OpQ OpR OpS
theorem oR (a:W) (b:W) :
    Ret prog 208 [.int .i64 a.1,.int .i64 b.1] (.int .i64 ((aB a b).1)):=by
 refine bJ (N:=17) func208 O O zz_ (fun w0=>?_);refine giI ?_;refine go3 ?_;refine pH (rg [0,1] 5 8) (fun g M=>∃ (p:W) (q:W),(kR a b (b.1.natAbs+1) a b)=(p,q)∧(g 0 = .int .i64 p.1∧g 1 = .int .i64 q.1)∧M=[]) (fun K_u1 hK_u1=>?_) ?_
 ·refine go_ ?_;refine cI (rg [0,1] 5 8) (fun g nn M=>∃ (p:W) (q:W),(kR a b nn p q)=(kR a b (b.1.natAbs+1) a b)∧q.1.natAbs<nn∧(True)∧(g 0 = .int .i64 p.1∧g 1 = .int .i64 q.1)∧M=[]) (b.1.natAbs+1) ?start ?round
  case start=>exact ⟨_,s0,a,b,rfl,Nat.lt_succ_self _,trivial,⟨rfl,rfl⟩,rfl⟩
  case round =>
   rintro nn g M ⟨p,q,hT0,hq0,hinv0,⟨hg0,hg1⟩,rfl⟩;obtain ⟨k0,rfl⟩:∃ m,nn=m+1:=⟨nn - 1,by omega⟩;refine gS2 hg0 hg1 ?_;clear hg0 hg1;refine go5 ?_;refine aN _ O (fun h3=>?_) (fun h3=>?_)
   ·refine go5 ?_;refine sQ (aS (v':=.int .i64 ((W.rem p q).1)) (sF O O (BO h3)) O) O (iK ?_);refine ⟨pp_,_,_,s0,(Nat.lt_succ_self _),q,(W.rem p q),(by exact (hT0.symm.trans (Eq.symm (aC h3 O))).symm),(Nat.lt_of_lt_of_le (W.rem_lt p h3) (Nat.le_of_lt_succ hq0)),trivial,⟨rfl,rfl⟩,rfl⟩
   refine go_ ?_;refine hK_u1 _ _ pp_ ⟨_,s0,p,q,(by exact hT0.symm.trans (Eq.symm (aH h3 O))),⟨rfl,rfl⟩,rfl⟩
 rintro g M ⟨p,q,hCu1,⟨hg0,hg1⟩,rfl⟩;refine gS2 hg0 hg1 ?_;clear hg0 hg1;refine go3 ?_;refine sV (.int .i64 ((W.neg p).1)) O O (sQ (aS (v':=.int .i64 ((W.max p (W.neg p)).1)) (nV O O) (congrArg (Value.int .i64) (W.max_1 p (W.neg p)))) O (go3 ?_));refine rt1 ?_;exact congrArg vS6 (show _=(aB a b) from (by unfold aB;exact trs (Eq.symm (apS hCu1)) O))
theorem B4 (a:(A4 W)) :
    Ret prog 173 [AV [cw a.x.1,cw a.y.1,cw a.z.1,cw a.t.1]] (.bool (gR a)):=by
 refine bJ (N:=18) func173 O O zz_ (fun w0=>?_);refine giI ?_;refine go2 ?_;intro b1 hb1;refine go7 ?_;refine rM 6 (go4 ?_);refine sV (.bool true) O O (go5 ?_);refine gJv (rg [] 8 10) [(17,.bool (decide (64<a.x.1)||decide (a.x.1<(-64))))] (fun K5 J5=>?_) ?_
 ·refine go5 ?_;refine sBB O (fun h3=>?_) (fun h3=>?_)
  ·refine go6 ?_;refine J5 _ _ pp_ s0 (bS (oH h3))
  refine go6 ?_;refine J5 _ _ pp_ s0 (bS (mO h3 O))
 intro g4;refine aN _ O (fun h5=>?_) (fun h5=>?_)
 ·refine go4 ?_;refine rt1 ?_;exact congrArg vS1 (show _=(gR a) from aC h5 O)
 refine go3 ?_;refine sV (.int .i64 1) O O (go6 ?_);refine sV (.bool true) O O (go5 ?_);refine gJv (rg [] 8 10) [(17,.bool (decide (64<a.y.1)||decide (a.y.1<(-64))))] (fun K9 J9=>?_) ?_
 ·refine go5 ?_;refine sBB O (fun h7=>?_) (fun h7=>?_)
  ·refine go6 ?_;refine J9 _ _ pp_ s0 (bS (oH h7))
  refine go6 ?_;refine J9 _ _ pp_ s0 (bS (mO h7 O))
 intro g8;refine aN _ O (fun h9=>?_) (fun h9=>?_)
 ·refine go4 ?_;refine rt1 ?_;exact congrArg vS1 (show _=(gR a) from aH h5 (aC h9 O))
 refine go3 ?_;refine sV (.int .i64 2) O O (go6 ?_);refine sV (.bool true) O O (go5 ?_);refine gJv (rg [] 8 10) [(17,.bool (decide (64<a.z.1)||decide (a.z.1<(-64))))] (fun K13 J13=>?_) ?_
 ·refine go5 ?_;refine sBB O (fun h11=>?_) (fun h11=>?_)
  ·refine go6 ?_;refine J13 _ _ pp_ s0 (bS (oH h11))
  refine go6 ?_;refine J13 _ _ pp_ s0 (bS (mO h11 O))
 intro g12;refine aN _ O (fun h13=>?_) (fun h13=>?_)
 ·refine go4 ?_;refine rt1 ?_;exact congrArg vS1 (show _=(gR a) from aH h5 (aH h9 (aC h13 O)))
 refine go3 ?_;refine sV (.int .i64 3) O O (go6 ?_);refine sV (.bool true) O O (go5 ?_);refine gJv (rg [] 8 10) [(17,.bool (decide (64<a.t.1)||decide (a.t.1<(-64))))] (fun K17 J17=>?_) ?_
 ·refine go5 ?_;refine sBB O (fun h15=>?_) (fun h15=>?_)
  ·refine go6 ?_;refine J17 _ _ pp_ s0 (bS (oH h15))
  refine go6 ?_;refine J17 _ _ pp_ s0 (bS (mO h15 O))
 intro g16;refine aN _ O (fun h17=>?_) (fun h17=>?_)
 ·refine go4 ?_;refine rt1 ?_;exact congrArg vS1 (show _=(gR a) from aH h5 (aH h9 (aH h13 (aC h17 O))))
 refine go3 ?_;refine sV (.int .i64 4) O O (go6 ?_);refine sV (.bool false) O O (go7 ?_);refine rt1 ?_;exact congrArg vS1 (show _=(gR a) from aH h5 (aH h9 (aH h13 (aH h17 O))))
theorem n9 (a:W) :
   Ret prog 209 [.int .i64 a.1] (.int .i64 ((aY a).1)):=by
 refine bJ (N:=7) func209 O O zz_ (fun w0=>?_);refine giI ?_;refine go8 ?_;refine aN _ O (fun h1=>?_) (fun h1=>?_)
 ·refine go4 ?_;refine rt1 ?_;exact congrArg vS6 (show _=(aY a) from aC h1 O)
 refine go3 ?_;refine sQ (aS (v':=.int .i64 ((W.min a (wl 1)).1)) (CH O O) (congrArg (Value.int .i64) (W.min_1 a (wl 1)))) O ?_;refine go3 ?_;refine rt1 ?_;exact congrArg vS6 (show _=(aY a) from aH h1 O)
theorem w6 (a:(A4 W)) :
    Ret prog 174 [AV [cw a.x.1,cw a.y.1,cw a.z.1,cw a.t.1]] (.tuple #[AV [cw ((((eE a).1).x).1),cw ((((eE a).1).y).1),cw ((((eE a).1).z).1),cw ((((eE a).1).t).1)],.bool ((eE a).2)]):=by
 refine bJ (N:=50) func174 O O zz_ (fun w0=>?_);refine giI ?_;refine go2 ?_;intro b1 hb1;refine go_ ?_;intro b2 hb2;refine H1 ?_;refine rM 6 (go4 ?_);refine sV (.bool true) O O (go3 ?_);obtain ⟨r4,hr4⟩:=nm ((bif (a.t.1 != 0) then (aY a.t) else (wl 0)):W);refine gJv (rg [4,5] 11 13) [(4,.int .i64 ((aB (wl 0) a.t).1)),(5,.int .i64 r4.1)] (fun K4 J4=>?_) ?_
 ·refine go6 ?_;refine sQ (aX aE (oR (wl 0) a.t) O) O ?_;refine go8 ?_;refine aN _ O (fun h5=>?_) (fun h5=>?_)
  ·refine go4 ?_;refine sQ (aX aE (n9 a.t) O) O (go2 ?_);refine J4 _ _ pp_ s0 ⟨rfl,(show (.int .i64 ((aY a.t).1):Value) = .int .i64 r4.1 by rw [hr4];first|done|rfl|simp only [h5,cond_true,cond_false,Bool.true_and,Bool.false_and,Bool.and_true,Bool.and_false,Bool.true_or,Bool.false_or,Bool.or_true,Bool.or_false,Bool.not_true,Bool.not_false]|(simp only [h5,cond_true,cond_false,Bool.true_and,Bool.false_and,Bool.and_true,Bool.and_false,Bool.true_or,Bool.false_or,Bool.or_true,Bool.or_false,Bool.not_true,Bool.not_false];rfl))⟩
  refine go_ ?_;refine J4 _ _ pp_ s0 ⟨rfl,(show (.int .i64 0:Value) = .int .i64 r4.1 by rw [hr4];first|done|rfl|simp only [h5,cond_true,cond_false,Bool.true_and,Bool.false_and,Bool.and_true,Bool.and_false,Bool.true_or,Bool.false_or,Bool.or_true,Bool.or_false,Bool.not_true,Bool.not_false]|(simp only [h5,cond_true,cond_false,Bool.true_and,Bool.false_and,Bool.and_true,Bool.and_false,Bool.true_or,Bool.false_or,Bool.or_true,Bool.or_false,Bool.not_true,Bool.not_false];rfl))⟩
 intro g6;refine go2 ?_;refine sV (.int .i64 2) O O (go6 ?_);refine sV (.bool true) O O (go3 ?_);refine gJv (rg [4,5] 11 13) [(4,.int .i64 ((aB (aB (wl 0) a.t) a.z).1)),(5,.int .i64 ((bif (a.z.1 != 0) then (aY a.z) else r4).1))] (fun K7 J7=>?_) ?_
 ·refine go6 ?_;refine sQ (aX aE (oR (aB (wl 0) a.t) a.z) O) O ?_;refine go8 ?_;refine aN _ O (fun h8=>?_) (fun h8=>?_)
  ·refine go4 ?_;refine sQ (aX aE (n9 a.z) O) O (go2 ?_);refine J7 _ _ pp_ s0 ⟨rfl,(show (.int .i64 ((aY a.z).1):Value) = .int .i64 ((bif (a.z.1 != 0) then (aY a.z) else r4).1) by first|done|rfl|simp [h8]|(simp [h8];rfl))⟩
  refine go_ ?_;refine J7 _ _ pp_ s0 ⟨rfl,(show (.int .i64 r4.1:Value) = .int .i64 ((bif (a.z.1 != 0) then (aY a.z) else r4).1) by first|done|rfl|simp [h8]|(simp [h8];rfl))⟩
 intro g9;refine go2 ?_;refine sV (.int .i64 1) O O (go6 ?_);refine sV (.bool true) O O (go3 ?_);obtain ⟨r11,hr11⟩:=nm ((bif (a.y.1 != 0) then (aY a.y) else (bif (a.z.1 != 0) then (aY a.z) else r4)):W);refine gJv (rg [4,5] 11 13) [(4,.int .i64 ((aB (aB (aB (wl 0) a.t) a.z) a.y).1)),(5,.int .i64 r11.1)] (fun K10 J10=>?_) ?_
 ·refine go6 ?_;refine sQ (aX aE (oR (aB (aB (wl 0) a.t) a.z) a.y) O) O ?_;refine go8 ?_;refine aN _ O (fun h12=>?_) (fun h12=>?_)
  ·refine go4 ?_;refine sQ (aX aE (n9 a.y) O) O (go2 ?_);refine J10 _ _ pp_ s0 ⟨rfl,(show (.int .i64 ((aY a.y).1):Value) = .int .i64 r11.1 by rw [hr11];first|done|rfl|simp only [h12,cond_true,cond_false,Bool.true_and,Bool.false_and,Bool.and_true,Bool.and_false,Bool.true_or,Bool.false_or,Bool.or_true,Bool.or_false,Bool.not_true,Bool.not_false]|(simp only [h12,cond_true,cond_false,Bool.true_and,Bool.false_and,Bool.and_true,Bool.and_false,Bool.true_or,Bool.false_or,Bool.or_true,Bool.or_false,Bool.not_true,Bool.not_false];rfl))⟩
  refine go_ ?_;refine J10 _ _ pp_ s0 ⟨rfl,(show (.int .i64 ((bif (a.z.1 != 0) then (aY a.z) else r4).1):Value) = .int .i64 r11.1 by rw [hr11];first|done|rfl|simp only [h12,cond_true,cond_false,Bool.true_and,Bool.false_and,Bool.and_true,Bool.and_false,Bool.true_or,Bool.false_or,Bool.or_true,Bool.or_false,Bool.not_true,Bool.not_false]|(simp only [h12,cond_true,cond_false,Bool.true_and,Bool.false_and,Bool.and_true,Bool.and_false,Bool.true_or,Bool.false_or,Bool.or_true,Bool.or_false,Bool.not_true,Bool.not_false];rfl))⟩
 intro g13;refine go2 ?_;refine sV (.int .i64 0) O O (go6 ?_);refine sV (.bool true) O O (go3 ?_);refine gJv (rg [4,5] 11 13) [(4,.int .i64 ((aB (aB (aB (aB (wl 0) a.t) a.z) a.y) a.x).1)),(5,.int .i64 ((bif (a.x.1 != 0) then (aY a.x) else r11).1))] (fun K13 J13=>?_) ?_
 ·refine go6 ?_;refine sQ (aX aE (oR (aB (aB (aB (wl 0) a.t) a.z) a.y) a.x) O) O ?_;refine go8 ?_;refine aN _ O (fun h15=>?_) (fun h15=>?_)
  ·refine go4 ?_;refine sQ (aX aE (n9 a.x) O) O (go2 ?_);refine J13 _ _ pp_ s0 ⟨rfl,(show (.int .i64 ((aY a.x).1):Value) = .int .i64 ((bif (a.x.1 != 0) then (aY a.x) else r11).1) by first|done|rfl|simp [h15]|(simp [h15];rfl))⟩
  refine go_ ?_;refine J13 _ _ pp_ s0 ⟨rfl,(show (.int .i64 r11.1:Value) = .int .i64 ((bif (a.x.1 != 0) then (aY a.x) else r11).1) by first|done|rfl|simp [h15]|(simp [h15];rfl))⟩
 intro g16;refine go2 ?_;refine sV (.int .i64 (-1)) O O (go6 ?_);refine sV (.bool false) O O (go7 ?_);refine sV (.int .i64 ((W.neg (aB (aB (aB (aB (wl 0) a.t) a.z) a.y) a.x)).1)) O O ?_;refine sQ (aS (v':=.int .i64 ((W.max (aB (aB (aB (aB (wl 0) a.t) a.z) a.y) a.x) (W.neg (aB (aB (aB (aB (wl 0) a.t) a.z) a.y) a.x))).1)) (nV O O) (congrArg (Value.int .i64) (W.max_1 (aB (aB (aB (aB (wl 0) a.t) a.z) a.y) a.x) (W.neg (aB (aB (aB (aB (wl 0) a.t) a.z) a.y) a.x))))) O ?_;refine sV (.int .i64 ((W.mul (bif (a.x.1 != 0) then (aY a.x) else r11) (W.max (aB (aB (aB (aB (wl 0) a.t) a.z) a.y) a.x) (W.neg (aB (aB (aB (aB (wl 0) a.t) a.z) a.y) a.x)))).1)) O O ?_;refine go7 ?_;refine aN _ O (fun h17=>?_) (fun h17=>?_)
 ·refine go6 ?_;refine vE O (.inr O) (fF O m0 tyT O) O ?_
  subst_vars;exact congrArg vS0 (show _=(eE a) from aC h17 O)
 refine go_ ?_;refine gds (sd (sk s0)) [0,4,8,12,16,20,24,28,32,36,40,44,48,52,56,60,64,69,72] [17] mix (by kernel_rfl) (go3 ?_);refine pQ O (aS (v':=.int .i64 ((W.quo a.x (W.mul (bif (a.x.1 != 0) then (aY a.x) else r11) (W.max (aB (aB (aB (aB (wl 0) a.t) a.z) a.y) a.x) (W.neg (aB (aB (aB (aB (wl 0) a.t) a.z) a.y) a.x))))).1)) (kJ O O (wX h17)) O) ?_;refine go3 ?_;refine pQ O (aS (v':=.int .i64 ((W.quo a.y (W.mul (bif (a.x.1 != 0) then (aY a.x) else r11) (W.max (aB (aB (aB (aB (wl 0) a.t) a.z) a.y) a.x) (W.neg (aB (aB (aB (aB (wl 0) a.t) a.z) a.y) a.x))))).1)) (kJ O O (wX h17)) O) ?_;refine go3 ?_;refine pQ O (aS (v':=.int .i64 ((W.quo a.z (W.mul (bif (a.x.1 != 0) then (aY a.x) else r11) (W.max (aB (aB (aB (aB (wl 0) a.t) a.z) a.y) a.x) (W.neg (aB (aB (aB (aB (wl 0) a.t) a.z) a.y) a.x))))).1)) (kJ O O (wX h17)) O) ?_;refine go3 ?_;refine pQ O (aS (v':=.int .i64 ((W.quo a.t (W.mul (bif (a.x.1 != 0) then (aY a.x) else r11) (W.max (aB (aB (aB (aB (wl 0) a.t) a.z) a.y) a.x) (W.neg (aB (aB (aB (aB (wl 0) a.t) a.z) a.y) a.x))))).1)) (kJ O O (wX h17)) O) ?_;refine pQ O (dN zpT arT O (.cons [cw ((W.quo a.x (W.mul (bif (a.x.1 != 0) then (aY a.x) else r11) (W.max (aB (aB (aB (aB (wl 0) a.t) a.z) a.y) a.x) (W.neg (aB (aB (aB (aB (wl 0) a.t) a.z) a.y) a.x))))).1)] [cw ((W.quo a.x (W.mul (bif (a.x.1 != 0) then (aY a.x) else r11) (W.max (aB (aB (aB (aB (wl 0) a.t) a.z) a.y) a.x) (W.neg (aB (aB (aB (aB (wl 0) a.t) a.z) a.y) a.x))))).1),cw 0,cw 0,cw 0] O O O O (.cons [cw ((W.quo a.y (W.mul (bif (a.x.1 != 0) then (aY a.x) else r11) (W.max (aB (aB (aB (aB (wl 0) a.t) a.z) a.y) a.x) (W.neg (aB (aB (aB (aB (wl 0) a.t) a.z) a.y) a.x))))).1)] [cw ((W.quo a.x (W.mul (bif (a.x.1 != 0) then (aY a.x) else r11) (W.max (aB (aB (aB (aB (wl 0) a.t) a.z) a.y) a.x) (W.neg (aB (aB (aB (aB (wl 0) a.t) a.z) a.y) a.x))))).1),cw ((W.quo a.y (W.mul (bif (a.x.1 != 0) then (aY a.x) else r11) (W.max (aB (aB (aB (aB (wl 0) a.t) a.z) a.y) a.x) (W.neg (aB (aB (aB (aB (wl 0) a.t) a.z) a.y) a.x))))).1),cw 0,cw 0] O O O O (.cons [cw ((W.quo a.z (W.mul (bif (a.x.1 != 0) then (aY a.x) else r11) (W.max (aB (aB (aB (aB (wl 0) a.t) a.z) a.y) a.x) (W.neg (aB (aB (aB (aB (wl 0) a.t) a.z) a.y) a.x))))).1)] [cw ((W.quo a.x (W.mul (bif (a.x.1 != 0) then (aY a.x) else r11) (W.max (aB (aB (aB (aB (wl 0) a.t) a.z) a.y) a.x) (W.neg (aB (aB (aB (aB (wl 0) a.t) a.z) a.y) a.x))))).1),cw ((W.quo a.y (W.mul (bif (a.x.1 != 0) then (aY a.x) else r11) (W.max (aB (aB (aB (aB (wl 0) a.t) a.z) a.y) a.x) (W.neg (aB (aB (aB (aB (wl 0) a.t) a.z) a.y) a.x))))).1),cw ((W.quo a.z (W.mul (bif (a.x.1 != 0) then (aY a.x) else r11) (W.max (aB (aB (aB (aB (wl 0) a.t) a.z) a.y) a.x) (W.neg (aB (aB (aB (aB (wl 0) a.t) a.z) a.y) a.x))))).1),cw 0] O O O O (.cons [cw ((W.quo a.t (W.mul (bif (a.x.1 != 0) then (aY a.x) else r11) (W.max (aB (aB (aB (aB (wl 0) a.t) a.z) a.y) a.x) (W.neg (aB (aB (aB (aB (wl 0) a.t) a.z) a.y) a.x))))).1)] [cw ((W.quo a.x (W.mul (bif (a.x.1 != 0) then (aY a.x) else r11) (W.max (aB (aB (aB (aB (wl 0) a.t) a.z) a.y) a.x) (W.neg (aB (aB (aB (aB (wl 0) a.t) a.z) a.y) a.x))))).1),cw ((W.quo a.y (W.mul (bif (a.x.1 != 0) then (aY a.x) else r11) (W.max (aB (aB (aB (aB (wl 0) a.t) a.z) a.y) a.x) (W.neg (aB (aB (aB (aB (wl 0) a.t) a.z) a.y) a.x))))).1),cw ((W.quo a.z (W.mul (bif (a.x.1 != 0) then (aY a.x) else r11) (W.max (aB (aB (aB (aB (wl 0) a.t) a.z) a.y) a.x) (W.neg (aB (aB (aB (aB (wl 0) a.t) a.z) a.y) a.x))))).1),cw ((W.quo a.t (W.mul (bif (a.x.1 != 0) then (aY a.x) else r11) (W.max (aB (aB (aB (aB (wl 0) a.t) a.z) a.y) a.x) (W.neg (aB (aB (aB (aB (wl 0) a.t) a.z) a.y) a.x))))).1)] O O O O (.nil _)))))) ?_;refine go4 ?_;refine vE O (.inr O) (fF O m0 tyT O) O ?_
 subst_vars;exact congrArg vS0 (show _=(eE a) from aH h17 O)
theorem zW (a:(A4 W)) :
    Ret prog 104 [AV [cw a.x.1,cw a.y.1,cw a.z.1,cw a.t.1]] (.bool (fD a)):=by
 refine bJ (N:=19) func104 O O zz_ (fun w0=>?_);refine giI ?_;refine go2 ?_;intro b1 hb1;refine go5 ?_;refine sQ (aX aE (B4 a) O) O (go2 ?_);rcases bt (gR a) with h2|h2
 ·refine W_f (fZ h2) O (go3 ?_);obtain ⟨r3,hr3⟩:=nm ((eE a).1:(A4 W));refine sC (.tuple #[AV [cw r3.x.1,cw r3.y.1,cw r3.z.1,cw r3.t.1],.bool ((eE a).2)]) aE (w6 a) O O (by rw [hr3]) (go4 ?_);intro b4 hb4;refine go3 ?_;refine gJv [2,13,14,15,16,17,18] [(2,.bool ((eE a).2&&(decide (r3.x.1=a.x.1)&&(decide (r3.y.1=a.y.1)&&(decide (r3.z.1=a.z.1)&&decide (r3.t.1=a.t.1))))))] (fun K2 J2=>?_) ?_
  ·refine go2 ?_;refine sBB O (fun h6=>?_) (fun h6=>?_)
   ·refine go2 ?_;refine sQ (gI (r:=(decide (r3.x.1=a.x.1)&&(decide (r3.y.1=a.y.1)&&(decide (r3.z.1=a.z.1)&&decide (r3.t.1=a.t.1))))) O O (dR 8 dd_ bR_ bX_ (aD bU (aD bU (aD bU (cM bU)))) (aD bU (aD bU (aD bU (cM bU)))) (aQ O eB (aQ O eB (aQ O eB (eJ eB)))))) O (go3 ?_);refine J2 _ _ pp_ s0 (bS (k6 h6 O))
   refine go6 ?_;refine J2 _ _ pp_ s0 (bS (oB h6))
  intro g7;refine go_ ?_;refine rt1 ?_;exact (by subst hr3;exact congrArg vS1 (show _=(fD a) from aC h2 O))
 refine W_t (gA h2) O (go4 ?_);refine rt1 ?_;exact congrArg vS1 (show _=(fD a) from aH h2 O)
theorem qN (a:Pose) :
    Ret prog 42 [AV [cw a.x.x.1,cw a.x.y.1,cw a.x.z.1,cw a.q.x.1,cw a.q.y.1,cw a.q.z.1,cw a.q.t.1]] (.int .i64 ((cZ a).1)):=by
 refine bJ (N:=26) func42 O O zz_ (fun w0=>?_);refine giI ?_;refine go2 ?_;intro b1 hb1;refine go7 ?_;refine rM 5 (go4 ?_);refine sV (.bool true) O O (go5 ?_);refine gJv (rg [] 9 12) [(20,.bool (decide (140737488355328≤a.x.x.1)||decide (a.x.x.1≤(-140737488355328))))] (fun K5 J5=>?_) ?_
 ·refine go6 ?_;refine sBB O (fun h3=>?_) (fun h3=>?_)
  ·have ph3:=of_decide_eq_true h3;refine go7 ?_;refine J5 _ _ pp_ s0 (bS (oH h3))
  have ph3:=of_decide_eq_false h3;refine go7 ?_;refine J5 _ _ pp_ s0 (bS (mO h3 O))
 intro g4;refine aN _ O (fun h5=>?_) (fun h5=>?_)
 ·refine go4 ?_;refine rt1 ?_;exact congrArg vS6 (show _=(cZ a) from aC h5 O)
 refine go3 ?_;refine sV (.int .i64 1) O O (go6 ?_);refine sV (.bool true) O O (go5 ?_);refine gJv (rg [] 9 12) [(20,.bool (decide (140737488355328≤a.x.y.1)||decide (a.x.y.1≤(-140737488355328))))] (fun K9 J9=>?_) ?_
 ·refine go6 ?_;refine sBB O (fun h7=>?_) (fun h7=>?_)
  ·have ph7:=of_decide_eq_true h7;refine go7 ?_;refine J9 _ _ pp_ s0 (bS (oH h7))
  have ph7:=of_decide_eq_false h7;refine go7 ?_;refine J9 _ _ pp_ s0 (bS (mO h7 O))
 intro g8;refine aN _ O (fun h9=>?_) (fun h9=>?_)
 ·refine go4 ?_;refine rt1 ?_;exact congrArg vS6 (show _=(cZ a) from aH h5 (aC h9 O))
 refine go3 ?_;refine sV (.int .i64 2) O O (go6 ?_);refine sV (.bool true) O O (go5 ?_);refine gJv (rg [] 9 12) [(20,.bool (decide (140737488355328≤a.x.z.1)||decide (a.x.z.1≤(-140737488355328))))] (fun K13 J13=>?_) ?_
 ·refine go6 ?_;refine sBB O (fun h11=>?_) (fun h11=>?_)
  ·have ph11:=of_decide_eq_true h11;refine go7 ?_;refine J13 _ _ pp_ s0 (bS (oH h11))
  have ph11:=of_decide_eq_false h11;refine go7 ?_;refine J13 _ _ pp_ s0 (bS (mO h11 O))
 intro g12;refine aN _ O (fun h13=>?_) (fun h13=>?_)
 ·refine go4 ?_;refine rt1 ?_;exact congrArg vS6 (show _=(cZ a) from aH h5 (aH h9 (aC h13 O)))
 refine go3 ?_;refine sV (.int .i64 3) O O (go6 ?_);refine sV (.bool false) O O (go6 ?_);refine sQ (aX aE (zW a.q) O) O (go7 ?_);rcases bt (fD a.q) with h14|h14
 ·refine W_f (fZ h14) O (go5 ?_);refine rt1 ?_;exact congrArg vS6 (show _=(cZ a) from aH h5 (aH h9 (aH h13 (aC h14 O))))
 refine W_t (gA h14) O (go4 ?_);refine rt1 ?_;exact congrArg vS6 (show _=(cZ a) from aH h5 (aH h9 (aH h13 (aH h14 O))))
end Go.Proofs.YtbjlhfochebmiaaGreatDoor
namespace Go.Num
open Go Go.Kn
theorem Q6 (a:I):lC [a]=a.1.good:=by
 unfold lC kY kY R.good
 cases a.1.bad<;>cases a.1.valid<;>rfl
def B5 (a m:I):Prop:=∃ v r:Nat,a.dec=Z.of (v:Int)∧0<v∧v<4294967296 ^ 16∧m=E (Z.of (r:Int))∧oD v≤r∧0<r∧r≤2 ^ 256
theorem aW_ {m k:Nat} (hm:4294967296 ^ 16=2 ^ m) (hk:m=k+k):(4294967296:Nat) ^ 16=2 ^ k*2 ^ k:=by rw [hm,hk,Nat.pow_add]
theorem eX_:(4294967296:Nat) ^ 16=2 ^ 256*2 ^ 256:=aW_ DA O
theorem PU {v:Nat} (h:0<v) (hv:v<4294967296 ^ 16):0<oD v:=by
 have:=(rW hv).2;rcases Nat.eq_zero_or_pos (oD v) with h0|h0
 ·rw [h0] at this;omega
 exact h0
theorem ZC {v:Nat} (hv:v<4294967296 ^ 16):oD v<2 ^ 256:=by
 have:=(rW hv).1;rw [eX_] at hv;generalize 2 ^ 256=q at *;rcases Nat.lt_or_ge (oD v) q with h|h
 ·exact h
 have:=Nat.mul_le_mul h h;omega
theorem de_ {v r s:Nat} (h1:s*s≤v) (h2:v<(s+1)*(s+1)) (hs:0<s) (hr:s≤r):s≤(r+v / r) / 2∧v / r≤s+2∧(r≤(r+v / r) / 2→r=s):=by
 have r0:0<r:=by omega
 have q1:r*(v / r)≤v:=Nat.mul_div_le v r
 have q2:v<r*(v / r+1):=by rw [Nat.mul_add,Nat.mul_one];exact Nat.lt_mul_div_succ v r0
 generalize v / r=q at *
 have e1:(s+1)*(s+1)=s*s+2*s+1:=by rw [Nat.add_mul,Nat.mul_add];omega
 refine ⟨?_,?_,?_⟩
 ·rw [Nat.le_div_iff_mul_le dd_]
  rcases Nat.lt_or_ge (r+q) (s*2) with h|h
  ·exfalso
   obtain ⟨d,rfl⟩:∃ d,r=s+d:=⟨r - s,by omega⟩
   have hq:q+1≤s - d:=by omega
   have hd:d≤s:=by omega
   have h3:=Nat.mul_le_mul_left (s+d) hq
   have h4:(s+d)*(s - d)≤s*s:=by
    obtain ⟨t,rfl⟩:∃ t,s=d+t:=⟨s - d,by omega⟩;rw [Nat.add_sub_cancel_left]
    have:(d+t)*(d+t)=(d+t+d)*t+d*d:=by grind
    omega
   omega
  omega
 ·rcases Nat.lt_or_ge (s+2) q with h|h
  ·exfalso
   have h3:=Nat.mul_le_mul hr (show s+3≤q by omega)
   have:s*(s+3)=s*s+3*s:=by grind
   omega
  exact h
 intro h
 have h3:r≤q:=by rw [Nat.le_div_iff_mul_le dd_] at h;omega
 have h4:=Nat.mul_le_mul_left r h3;rcases Nat.lt_or_ge s r with h5|h5
 ·have:=NQ h5;omega
 omega
theorem nB {n:Nat} (h:n<4294967296 ^ 16):(n:Int).natAbs<4294967296 ^ 16:=by rwa [Int.natAbs_natCast]
theorem I4:(2:Nat) ^ 256+2 ^ 256+2<4294967296 ^ 16:=by decide +kernel
theorem HC {a m:I} (h:B5 a m):∃ v r:Nat,a.dec=Z.of (v:Int)∧0<v∧v<4294967296 ^ 16∧m.dec=Z.of (r:Int)∧oD v≤r∧0<r∧r≤2 ^ 256∧r<4294967296 ^ 16∧m=E (Z.of (r:Int)) ∧
  Z.add m.dec (Z.quo a.dec m.dec)=Z.of ((r+v / r:Nat):Int)∧r+v / r<4294967296 ^ 16∧Z.half (Z.add m.dec (Z.quo a.dec m.dec))=Z.of (((r+v / r) / 2:Nat):Int)∧oD v≤(r+v / r) / 2∧(r+v / r) / 2≤2 ^ 256∧(r≤(r+v / r) / 2→r=oD v):=by
 obtain ⟨v,r,ha,hv,hv2,rfl,h1,h2,h3⟩:=h;have s0:=PU hv hv2;have s1:=ZC hv2;obtain ⟨n1,n2,n3⟩:=de_ (rW hv2).1 (rW hv2).2 s0 h1;have hb:=I4
 have r1:r<4294967296 ^ 16:=by omega
 have q1:v / r<4294967296 ^ 16:=by omega
 have t1:r+v / r<4294967296 ^ 16:=by omega
 have e1:Z.quo (Z.of (v:Int)) (Z.of (r:Int))=Z.of ((v / r:Nat):Int):=by
  unfold Z.quo;rw [dH (Z.of_some (nB hv2)) (Z.of_some (nB r1)),if_neg oo_]
  congr 1
  rw [Int.fdiv_eq_ediv_of_nonneg _ oo_];rfl
 have e2:Z.add (Z.of (r:Int)) (Z.of ((v / r:Nat):Int))=Z.of ((r+v / r:Nat):Int):=by
  unfold Z.add;rw [dH (Z.of_some (nB r1)) (Z.of_some (nB q1))]
  congr 1
 have e3:Z.half (Z.of ((r+v / r:Nat):Int))=Z.of (((r+v / r) / 2:Nat):Int):=by
  unfold Z.half;rw [jL (Z.of_some (nB t1))]
  congr 1
 refine ⟨v,r,ha,hv,hv2,by rw [dQ],h1,h2,h3,r1,rfl,?_,t1,?_,n1,?_,n3⟩
 ·rw [ha,dQ,e1,e2]
 ·rw [ha,dQ,e1,e2,e3]
 generalize 2 ^ 256=q at *;omega
theorem RE {n:Nat} (h:n<4294967296 ^ 16):(E (Z.of (n:Int))).1.neg=false:=by
 show (Z.of (n:Int)).enc.neg=false
 unfold Z.enc;rw [Z.of_some (nB h)];exact decide_eq_false (show ¬ ((n:Int)<0) by omega)
theorem bn_ {a m:I} (h:B5 a m):(E (Z.add m.dec (Z.quo a.dec m.dec))).1.neg=false:=by
 obtain ⟨v,r,_,_,_,_,_,_,_,_,_,e,t,_⟩:=HC h;rw [e];exact RE t
theorem LA {a m:I} (h:B5 a m):B5 a (E (Z.half (Z.add m.dec (Z.quo a.dec m.dec)))):=by
 obtain ⟨v,r,ha,hv,hv2,_,_,_,_,_,_,_,_,e,n1,n2,_⟩:=HC h;have:=PU hv hv2;exact ⟨v,(r+v / r) / 2,ha,hv,hv2,by rw [e],n1,by omega,n2⟩
theorem YL {n:Nat} (h:n<4294967296 ^ 16):Z.nat (Z.of (n:Int))=n:=by
 unfold Z.nat;rw [Z.of_some (nB h)];exact Int.natAbs_natCast n
theorem OH {m n:Nat} (hm:m<4294967296 ^ 16) (hn:n<4294967296 ^ 16):decide (0≤(Z.cmpW (Z.of (m:Int)) (Z.of (n:Int))).1)=decide (n≤m):=by
 congr 1
 show (0≤Z.cmp (Z.of (m:Int)) (Z.of (n:Int)))=_
 unfold Z.cmp;rw [Z.of_some (nB hm),Z.of_some (nB hn)];simp only;unfold uN
 apply propext
 constructor
 ·intro h
  split at h
  ·omega
  split at h<;>omega
 intro h
 split
 ·omega
 split<;>omega
theorem PT {a m:I} (h:B5 a m) (hc:decide (0≤(Z.cmpW (Z.half (Z.add m.dec (Z.quo a.dec m.dec))) m.dec).1)=false):Z.nat (E (Z.half (Z.add m.dec (Z.quo a.dec m.dec)))).dec<Z.nat m.dec:=by
 obtain ⟨v,r,ha,hv,hv2,hm,_,_,_,r1,_,_,t,e,n1,n2,_⟩:=HC h;have hb:=I4
 have t1:(r+v / r) / 2<4294967296 ^ 16:=by omega
 rw [e,hm,OH t1 r1] at hc;have:=of_decide_eq_false hc;rw [e,hm,dQ,YL t1,YL r1];omega
theorem ZD (a:I):(W.quo (W.add (Z.bitsW a.dec) (wl 1)) (wl 2)).1=(((a.dec.bits+1) / 2:Nat):Int):=by
 have h:=Z.bits_le a.dec
 have e1:(W.add (Z.bitsW a.dec) (wl 1)).1=((a.dec.bits+1:Nat):Int):=by
  show IntKind.i64.wrap (((Z.bits a.dec:Nat):Int)+1)=_
  rw [wi oo_];rfl
 show IntKind.i64.wrap ((W.add (Z.bitsW a.dec) (wl 1)).1.tdiv 2)=_
 rw [e1,Int.tdiv_eq_ediv_of_nonneg oo_];rw [wi oo_];rfl
theorem bo_ (a:I):0≤(W.quo (W.add (Z.bitsW a.dec) (wl 1)) (wl 2)).1:=by rw [ZD];omega
theorem IX {a:I} (h1:(!(lC [a])||a.1.neg)=false) (h2:((Z.signW a.dec).1==0)=false):B5 a (E (Z.shl (Z.of 1) (W.quo (W.add (Z.bitsW a.dec) (wl 1)) (wl 2)).1)):=by
 rw [Q6,Bool.or_eq_false_iff,Bool.not_eq_false'] at h1;obtain ⟨ga,hn⟩:=h1;have hv:=Z8 a.2
 have ea:a.dec=Z.of ((val a.1.w:Nat):Int):=by
  show a.1.dec=_
  unfold R.dec;rw [if_pos ga,hn];rfl
 have v0:0<val a.1.w:=by
  rcases Nat.eq_zero_or_pos (val a.1.w) with h|h
  ·exfalso
   rw [ea,h] at h2
   revert h2;decide +kernel
  exact h
 have eb:a.dec.bits=bl (val a.1.w):=zA a.2 ga;have hbl:=Z.bits_le a.dec
 have hk:(a.dec.bits+1) / 2≤256:=by omega
 have hlt:val a.1.w<2 ^ ((a.dec.bits+1) / 2)*2 ^ ((a.dec.bits+1) / 2):=by
  rw [← Nat.pow_add];refine Nat.lt_of_lt_of_le (FS _) (Nat.pow_le_pow_right dd_ ?_);rw [← eb];omega
 have hle:2 ^ ((a.dec.bits+1) / 2)≤2 ^ 256:=Nat.pow_le_pow_right dd_ hk;have hp:0<2 ^ ((a.dec.bits+1) / 2):=Nat.pow_pos dd_;refine ⟨val a.1.w,2 ^ ((a.dec.bits+1) / 2),ea,v0,hv,?_,?_,hp,hle⟩
 ·rw [ZD]
  congr 1
  unfold Z.shl;rw [jL (Z.of_some dd_),Int.toNat_natCast,Int.one_mul]
  congr 1
 have:=(rW hv).1;generalize 2 ^ ((a.dec.bits+1) / 2)=q at *;rcases Nat.lt_or_ge q (oD (val a.1.w)) with h|h
 ·have:=Nat.mul_le_mul (Nat.le_of_lt h) (Nat.le_of_lt h);omega
 exact h
theorem LG (a:I):∀ (k:Nat) (m:I),B5 a m→Z.nat m.dec<k→mV a k m = .inr (E (Z.sqrt a.dec))
 | 0,m,_,h=>absurd h (Nat.not_lt_zero _)
 | k+1,m,h,hk=>by
  unfold mV
  cases hc:decide (0≤(Z.cmpW (Z.half (Z.add m.dec (Z.quo a.dec m.dec))) m.dec).1) with
  | false=>rw [cond_false];exact LG a k _ (LA h) (by have:=PT h hc;omega)
  | true =>
   obtain ⟨v,r,ha,hv,hv2,hm,_,_,_,r1,hm2,_,t,e,n1,n2,n3⟩:=HC h;have hb:=I4
   have t1:(r+v / r) / 2<4294967296 ^ 16:=by omega
   rw [e,hm,OH t1 r1] at hc;have hr:=n3 (of_decide_eq_true hc);rw [cond_true,hm2,ha];unfold Z.sqrt;rw [jL (Z.of_some (nB hv2)),decide_eq_false oo_,cond_false,Int.toNat_natCast,← hr]
theorem al_ (a:I):hJ a=E (Z.sqrt a.dec):=by
 unfold hJ
 cases h1:(!(lC [a])||a.1.neg) with
 | true =>
  rw [cond_true];rw [Q6,Bool.or_eq_true,Bool.not_eq_true'] at h1
  cases ga:a.1.good with
  | false=>exact congrArg E (ZQ ga).symm
  | true =>
   rw [ga] at h1;exact congrArg E (ZR a.2 ga (by simpa using h1)).symm
 | false =>
  rw [cond_false]
  cases h2:((Z.signW a.dec).1==0) with
  | true =>
   rw [cond_true];have h1':=h1;rw [Q6,Bool.or_eq_false_iff,Bool.not_eq_false'] at h1';obtain ⟨ga,hn⟩:=h1';have hz:a.1.dec.sign=0:=beq_iff_eq.1 h2
   have hv:val a.1.w=0:=by
    rcases Nat.eq_zero_or_pos (val a.1.w) with h|h
    ·exact h
    ·exact absurd hz (fun hz=>by
      unfold Z.sign at hz;rw [cJ a.2 ga,hn] at hz;have:=Int.sign_eq_zero_iff_zero.1 hz;have e:sgn false (val a.1.w)=((val a.1.w:Nat):Int):=rfl
      omega)
   have:=VY (r:=0) a.2 ga hn oo_ oo_
   have e2:a=E (Z.of 0):=by
    have h3:=G1 a.2 ga
    have h4:a.1.dec=Z.of 0:=by
     unfold R.dec;rw [if_pos ga,hn,hv];rfl
    rw [h4] at h3;exact (Subtype.ext h3).symm
   conv=>lhs;rw [e2]
   exact congrArg E this
  | false =>
   rw [cond_false,LG a _ _ (IX h1 h2) (Nat.lt_succ_self _)];rfl
end Go.Num
namespace Go.Proofs.YtbjlhfochebmiaaGreatDoor
open Go.Kn Go.Num Tryz
attribute [local irreducible] Go.Kn.W WL PL OpQ OpR OpS
theorem GR (a:R) (ha:a.Ok) (m:Nat) (hm:(m:Int)≤9223372036854775807) :
    Ret prog 161 [RV a,.int .i64 (m:Int)] (RV (Z.shl a.dec (m:Int)).enc):=by
 refine bJ (N:=75) func161 O O zz_ (fun w0=>?_);refine giI ?_;refine go_ ?_;refine bI O (jS O O (fun b2 hb2=>bI O (dU lU (fun b4 hb4=>go4 ?_))));refine sQ (bZ tyT O mm_ (cE ha)) O ?_;refine bI O (jB tJ lU rL O dd_ O (xJ ha) (fun b9 hb9=>sQ (dJ aE O (fun w hw=>gZ [a] (ok1 ha) b9 33 w (hw.mem _ m0) zz_)) O ?_));refine go3 ?_;refine aN _ O (fun hg=>?_) (fun hg=>?_)
 ·replace hg:=cB_ hg
  refine go_ ?_;refine sQ (aX aE fS O) O (bI O (bT tyT O O uu_ (aI _) O (bO _) (.inl eL) ?_));refine go2 ?_;refine rtX O ⟨_,_,_,_,_,_,rfl,mm_,tyT,_,(dE (aI _)),(aI _),rfl⟩ ?_
  (rw [Z.shl,zK (by unfold R.dec;rw [if_neg (by simpa using hg)];rfl)];rfl)
 replace hg:=cB_ hg
 refine go_ ?_;refine sQ (bZ tyT O mm_ (cE ha)) O ?_;refine sQ (aX aE (iR a ha) O) O (go3 ?_);refine aN _ O (fun hs=>?_) (fun hs=>?_)
 ·replace hs:=cB_ hs
  refine go_ ?_;refine sQ (bZ tyT O mm_ (cE ha)) O ?_;refine bI O (bT tyT O O uu_ (cE ha) O (bO _) (.inl eL) ?_);refine go2 ?_;refine rtX O ⟨_,_,_,_,_,_,rfl,mm_,tyT,_,(dE (cE ha)),(cE ha),rfl⟩ ?_;exact congrArg RV (bt_ ha (by simpa using hg) hs m)
 replace hs:=cB_ hs
 refine go4 ?_
 cases h5:decide ((m:Int) ≥ 512)
 ·refine go3 ?_
  cases h6:decide ((m:Int) > 0)
  ·refine xK ?_;refine aN _ O (fun h33=>?_) (fun h33=>?_)
   ·replace h33:=cB_ h33
    exact absurd h33 oo_ --done
   replace h33:=cB_ h33
   refine go2 ?_
   have hm5:m<512:=by have:=of_decide_eq_false h5;omega
   have hfar:m / 32≤15:=by omega
   refine bI O (dU qQ (fun b5 hb5=>go3 ?_));refine sQ (aS (kJ O O dd_) (congrArg (Value.int .i64) (shq 32 dd_ hm))) O (go7 ?_);refine aN _ O (fun h42=>?_) (fun h42=>?_)
   ·replace h42:=cB_ h42
    refine go_ ?_;refine mB (sd (sk (sk (sk s0)))) 5 [4] [4] (go_ ?_);refine pQ O (wP arT O O O oo_ oo_ oo_ oo_) (pQ O (cA fdT dd_ O) (pQ O (wP arT O O O dd_ dd_ dd_ dd_) ?_));refine dF O O (NF NP O O mm_ uu_ (fun v hv=>bO a v (List.mem_of_mem_drop (List.mem_of_mem_take hv))) (by rw [cE ha];omega) (by simp [uw];omega) (OJ ha hfar) (.inl eL) ⟨nf,ss_,?_⟩);refine go2 ?_;refine sQ (bZ tyT O mm_ (by simp [uw,C7 ha.len (show m / 32≤16 by omega)])) O ?_;refine go_ ?_;refine sQ (aS (sF O O dd_) (congrArg (Value.int .i64) (shr 32 m))) O (sQ (aX aE (xA (shw a.w (m / 32)) (C7 ha.len oo_) (TV ha.lim) (m % 32) (Nat.mod_lt _ dd_)) O) O (go3 ?_));refine bI O (bT tyT O O uu_ (by simp [uw,cP]) (by simp [uw,C7 ha.len (show m / 32≤16 by omega)]) (iD _) (.inl eL) ?_);refine go2 ?_;refine sQ (cA fdT dd_ O) O (sQ (dI (v:=.bool a.neg) tyT O mm_ O) O ?_);refine sQ (bZ tyT O mm_ (by simp [uw,cP])) O ?_;refine sQ (aX aE (eP a.neg (toL 16 (val (shw a.w (m / 32))*2 ^ (m % 32))) (by simp [cP]) (mG _ _)) O) O ?_;refine bI O (bT tyT O O uu_ (iQ (by simp [cP])) O (bO _) (.inl eL) ?_);refine go2 ?_;refine rtX O ⟨_,_,_,_,_,_,rfl,mm_,tyT,_,(dE (iQ (by simp [cP]))),(iQ (by simp [cP])),rfl⟩ ?_;exact congrArg RV (ZJ ha (by simpa using hg) (by have:=Z.bits_le a.dec;have:=of_decide_eq_false h6;omega) hm5)
   replace h42:=cB_ h42
   exact absurd h42 oo_ --done
  refine sQ (bZ tyT O mm_ (cE ha)) O ?_;refine sQ (aX aE (xX a ha) O) O (go_ ?_);refine sQ (aS (i4 O O) (congrArg (Value.int .i64) (show _=((a.dec.bits+m:Nat):Int) from (wi (by have:=Z.bits_le a.dec;have:=of_decide_eq_false h5;omega)).trans (Int.natCast_add _ _).symm))) O (go5 ?_);refine aN _ O (fun h18=>?_) (fun h18=>?_)
  ·replace h18:=cB_ h18
   refine go_ ?_;refine sQ (aX aE fS O) O (bI O (bT tyT O O uu_ (aI _) O (bO _) (.inl eL) ?_));refine go2 ?_;refine rtX O ⟨_,_,_,_,_,_,rfl,mm_,tyT,_,(dE (aI _)),(aI _),rfl⟩ ?_;exact congrArg RV (ZI ha (by simpa using hg) hs (.inl oo_))
  replace h18:=cB_ h18
  refine go5 ?_;refine aN _ O (fun h33=>?_) (fun h33=>?_)
  ·replace h33:=cB_ h33
   exact absurd h33 oo_ --done
  replace h33:=cB_ h33
  refine go2 ?_
  have hm5:m<512:=by have:=of_decide_eq_false h5;omega
  have hfar:m / 32≤15:=by omega
  refine bI O (dU qQ (fun b5 hb5=>go3 ?_));refine sQ (aS (kJ O O dd_) (congrArg (Value.int .i64) (shq 32 dd_ hm))) O (go7 ?_);refine aN _ O (fun h42=>?_) (fun h42=>?_)
  ·replace h42:=cB_ h42
   refine go_ ?_;refine mB (sd (sk (sk (sk s0)))) 5 [4] [4] (go_ ?_);refine pQ O (wP arT O O O oo_ oo_ oo_ oo_) (pQ O (cA fdT dd_ O) (pQ O (wP arT O O O dd_ dd_ dd_ dd_) ?_));refine dF O O (NF NP O O mm_ uu_ (fun v hv=>bO a v (List.mem_of_mem_drop (List.mem_of_mem_take hv))) (by rw [cE ha];omega) (by simp [uw];omega) (OJ ha hfar) (.inl eL) ⟨nf,ss_,?_⟩);refine go2 ?_;refine sQ (bZ tyT O mm_ (by simp [uw,C7 ha.len (show m / 32≤16 by omega)])) O ?_;refine go_ ?_;refine sQ (aS (sF O O dd_) (congrArg (Value.int .i64) (shr 32 m))) O (sQ (aX aE (xA (shw a.w (m / 32)) (C7 ha.len oo_) (TV ha.lim) (m % 32) (Nat.mod_lt _ dd_)) O) O (go3 ?_));refine bI O (bT tyT O O uu_ (by simp [uw,cP]) (by simp [uw,C7 ha.len (show m / 32≤16 by omega)]) (iD _) (.inl eL) ?_);refine go2 ?_;refine sQ (cA fdT dd_ O) O (sQ (dI (v:=.bool a.neg) tyT O mm_ O) O ?_);refine sQ (bZ tyT O mm_ (by simp [uw,cP])) O ?_;refine sQ (aX aE (eP a.neg (toL 16 (val (shw a.w (m / 32))*2 ^ (m % 32))) (by simp [cP]) (mG _ _)) O) O ?_;refine bI O (bT tyT O O uu_ (iQ (by simp [cP])) O (bO _) (.inl eL) ?_);refine go2 ?_;refine rtX O ⟨_,_,_,_,_,_,rfl,mm_,tyT,_,(dE (iQ (by simp [cP]))),(iQ (by simp [cP])),rfl⟩ ?_;exact congrArg RV (ZJ ha (by simpa using hg) oo_ hm5)
  replace h42:=cB_ h42
  exact absurd h42 oo_ --done
 refine BN ?_;refine sQ (aX aE fS O) O (bI O (bT tyT O O uu_ (aI _) O (bO _) (.inl eL) ?_));refine go2 ?_;refine rtX O ⟨_,_,_,_,_,_,rfl,mm_,tyT,_,(dE (aI _)),(aI _),rfl⟩ ?_;exact congrArg RV (ZI ha (by simpa using hg) hs (.inr (by have:=of_decide_eq_true h5;omega)))
theorem GS (a:R) (ha:a.Ok) (n:W) (h0:0≤n.1):Ret prog 161 [RV a,.int .i64 n.1] (RV (Z.shl a.dec n.1).enc):=by
 obtain ⟨n,hn⟩:=n;obtain ⟨m,rfl⟩:∃ m:Nat,n=(m:Int):=⟨n.toNat,by simp only at h0;omega⟩;exact GR a ha m (by unfold I64 at hn;omega)
theorem JO (a:R) (ha:a.Ok) (hn:a.neg=false) (w:List Nat) (hw:w.length=16) (hlim:Lim w) (vs:Value) :
  Ret prog 204 [RV a,UV w,vs] (RV ⟨false,false,w⟩):=by
 refine bJ (N:=32) func204 O O zz_ (fun w0=>?_);refine giI ?_;obtain ⟨bd,ng,l⟩:=a;simp only at hn;subst hn;refine go_ ?_;refine bI O (jS O O (fun b3 hb3=>bI O (jS O O (fun b4 hb4=>bI O (dU lU (fun b6 hb6=>go2 ?_))))));refine sQ (cA fdT dd_ O) O (sQ (dI (v:=.bool false) tyT O mm_ O) O ?_);refine sQ (bZ tyT O mm_ (by simp [uw,hw])) O ?_;refine sQ (aX aE (eP false w hw hlim) O) O (bI O (dU lU (fun b7 hb7=>bI O (bT tyT O O uu_ (iQ hw) O (bO _) (.inl eL) ?_))));refine go3 ?_;refine mB (sk (sk (sk (sk s0)))) 16 [] [] (pQ O (cA fdT dd_ O) (pQ O (dI (v:=.bool false) tyT O mm_ O) ?_));refine Q4 ?_;refine sQ (bZ tyT O mm_ (iQ hw)) O ?_;refine bI O (bT tyT O O uu_ (iQ hw) O (bO _) (.inl eL) ?_);refine go2 ?_;refine rtX O ⟨_,_,_,_,_,_,rfl,mm_,tyT,_,(dE (iQ hw)),(iQ hw),rfl⟩ ?_;exact rfl
theorem JL (a:R) (ha:a.Ok) (hn:a.neg=false) :
   Ret prog 161 [RV a,.int .i64 (-1)] (RV (Z.half a.dec).enc):=by
 refine bJ (N:=75) func161 O O zz_ (fun w0=>?_);refine giI ?_;refine go_ ?_;refine bI O (jS O O (fun b2 hb2=>bI O (dU lU (fun b4 hb4=>go4 ?_))));refine sQ (bZ tyT O mm_ (cE ha)) O ?_;refine bI O (jB tJ lU rL O dd_ O (xJ ha) (fun b9 hb9=>sQ (dJ aE O (fun w hw=>gZ [a] (ok1 ha) b9 33 w (hw.mem _ m0) zz_)) O ?_));refine go3 ?_;refine aN _ O (fun hg=>?_) (fun hg=>?_)
 ·replace hg:=cB_ hg
  refine go_ ?_;refine sQ (aX aE fS O) O (bI O (bT tyT O O uu_ (aI _) O (bO _) (.inl eL) ?_));refine go2 ?_;refine rtX O ⟨_,_,_,_,_,_,rfl,mm_,tyT,_,(dE (aI _)),(aI _),rfl⟩ ?_
  (rw [XZ (by simpa using hg)];rfl)
 replace hg:=cB_ hg
 refine go_ ?_;refine sQ (bZ tyT O mm_ (cE ha)) O ?_;refine sQ (aX aE (iR a ha) O) O (go3 ?_);refine aN _ O (fun hs=>?_) (fun hs=>?_)
 ·replace hs:=cB_ hs
  refine go_ ?_;refine sQ (bZ tyT O mm_ (cE ha)) O ?_;refine bI O (bT tyT O O uu_ (cE ha) O (bO _) (.inl eL) ?_);refine go2 ?_;refine rtX O ⟨_,_,_,_,_,_,rfl,mm_,tyT,_,(dE (cE ha)),(cE ha),rfl⟩ ?_;exact congrArg RV (U1 ha (by simpa using hg) hn hs)
 replace hs:=cB_ hs
 refine fI_ ?_;refine bI O (dU qQ (fun b5 hb5=>go3 ?_));refine sQ (kJ O O dd_) O (iK ?_);refine mB (sd (sk (sk (sk s0)))) 6 [5] [5] (pQ O (wP arT O O O dd_ dd_ dd_ dd_) (pQ O (cA fdT dd_ O) (go2 ?_)));refine pQ O (wP arT O O O dd_ dd_ dd_ dd_) ?_;refine dF O O (NF NP O O mm_ uu_ (fun v hv=>bO a v (List.mem_of_mem_drop (List.mem_of_mem_take hv))) (by rw [cE ha];decide) (by simp [uw]) (UZ ha) (.inl eL) ⟨nf,ss_,?_⟩);refine go2 ?_;refine mB (sk (sk (sd (sk s0)))) 11 [8,10] [10] (pQ O (bZ tyT O mm_ (cE ha)) ?_);refine pQ O (bZ tyT O mm_ (by simp [uw,ha.len])) ?_;refine go2 ?_;refine pQ O (sF O O dd_) (pQ O (aX aE (CT a.w ha.len ha.lim 1 dd_) O) (go2 ?_));refine dF O O (jB j4 z_3 pR O dd_ O (B8 1) (fun b73 hb73=>⟨(fun _=>by first|exact sd s0|exact s0),ss_,?_⟩));refine pQ O (aX aE (JO a ha hn (toL 16 (val a.w / 2 ^ 1)) (cP _ _) (mG _ _) _) O) ?_;refine dF O O (bT tyT O O uu_ (iQ (cP _ _)) O (bO _) (.inl eL) ⟨nf,ss_,?_⟩);refine go2 ?_;refine rtX O ⟨_,_,_,_,_,_,rfl,mm_,tyT,_,(dE (iQ (cP _ _))),(iQ (cP _ _)),rfl⟩ ?_;exact congrArg RV (U0 ha (by simpa using hg) hn)
theorem GT (vl:Value) (l:(List I)) (w:World) (hl:Slr w elI vl l) :
    Calls prog 158 [vl].toArray w (fun e w'=>e = .returned (.bool (lC l))∧Ext w w'):=by
 refine dB (N:=19) func158 O O zz_ ?_;obtain ⟨w0,rfl⟩:=nm w;have Hl:=hl.old;have hm_l:=hl.max;refine giI ?_;refine go6 ?_;refine sQ (eK vK O (SLe.sub Hl sn)) O (go2 ?_);refine gJ3 (rg [2,4] 7 12) (fun g M=>(kY l l) = .inl ()∧(True)∧M=[]) (fun K_u1 hK_u1=>?_) ?_
 ·refine go_ ?_;have hmx0:(l).length≤9223372036854775807:=hm_l;refine cI (rg [2,4] 7 12) (fun g nn M=>∃ (i0:Nat) (l0:List I),(kY l l0)=(kY l l)∧(l).drop i0=l0∧l0.length=nn∧g 7 = .int .i64 (i0:Int)∧(True)∧M=[]) l.length ?start ?round
  case start=>exact ⟨_,s0,0,l,rfl,rfl,rfl,rfl,trivial,rfl⟩
  case round =>
   rintro nn g M ⟨i0,l0,hT0,hr0,rfl,hgi,-,rfl⟩;refine gS1 hgi ?_;clear hgi;refine go4 ?_;rcases l0 with _|⟨x0,l0⟩
   ·have h18:=yD hr0;refine W_f h18 O (go_ ?_);refine hK_u1 _ _ pp_ ⟨_,s0,(by exact hT0.symm.trans (Eq.symm rfl)),trivial,rfl⟩
   have h19:=wH hr0;have g20:=sK hr0;refine W_t h19 O (go4 ?_);refine sQ (aS (v':=.pointer (some (slb vl (i0*18+0)))) (eY (e:=elI) (l:=l) (k:=i0) vK O O (SLe.sub Hl sn) g20.2.1) O) O (sQ (iS (e:=elI) (l:=l) (k:=i0) (o:=0) tyT O (SLe.sub Hl sn) g20.1 O) O (go_ ?_));intro b21 hb21;refine go2 ?_;refine gJv [11,12,13,14,15,16,17] [(17,.bool (x0.1.bad||(!x0.1.valid)))] (fun K10 J10=>?_) ?_
   ·refine go3 ?_;refine sBB O (fun h23=>?_) (fun h23=>?_)
    ·refine go5 ?_;refine J10 _ _ pp_ s0 (bS (oH h23))
    refine go_ ?_;refine sC (.bool x0.1.valid) aE (tO x0.1 x0.2) O O O (go3 ?_);refine J10 _ _ pp_ s0 (bS (mO h23 O))
   intro g24;refine aN _ O (fun h25=>?_) (fun h25=>?_)
   ·refine go4 ?_;refine rt1 ?_;exact congrArg vS1 (show _=(lC l) from (wQ O (hT0.symm.trans (Eq.symm (aC h25 O)))))
   refine go2 ?_;refine sV (.int .i64 ((i0+1:Nat):Int)) O (congrArg (Value.int .i64) (nxt g20.2.1 hmx0)) (go2 ?_);refine ⟨pp_,_,_,(sd s0),(Nat.lt_succ_self _),i0+1,l0,(by exact (hT0.symm.trans (Eq.symm (aH h25 O))).symm),g20.2.2,rfl,rfl,trivial,rfl⟩
 rintro g M ⟨hCu1,-,rfl⟩;refine gS0 ?_;refine go4 ?_;refine rt1 ?_;exact congrArg vS1 (show _=(lC l) from trs (Eq.symm (smS hCu1)) O)
theorem JM (a:I) :
    Ret prog 85 [AV [pI a]] (AV [pI (hJ a)]):=by
 refine bJ (N:=36) func85 O O zz_ (fun w0=>?_);refine giI ?_;refine go2 ?_;intro b1 hb1;refine go_ ?_;intro b2 hb2;refine go2 ?_;refine gJv (rg [] 5 8) [(12,.bool (!(lC [a])||a.1.neg))] (fun K2 J2=>?_) ?_
 ·refine go2 ?_;refine bI O (cO [[pI a]] [pI a] tJ lU rL O dd_ O O ⟨rfl,rfl,rfl,trivial⟩ O (fun b6 hb6=>sFc (.bool (lC [a])) O (fun w hw=>GT _ ([a]) w (SLe.ap hw (SLe.lit (e:=elI) (l:=[a]) m0 O (Nat.le_of_ble_eq_true O) O))) O O (go_ ?_)));rcases bt (lC [a]) with h7|h7
  ·refine sB (fZ h7) O (go4 ?_);refine J2 _ _ pp_ (sd s0) (bS (o8 h7 O))
  refine sB (gA h7) O (go4 ?_);refine J2 _ _ pp_ (sd s0) (bS (tH h7))
 intro g8;refine aN _ O (fun h9=>?_) (fun h9=>?_)
 ·refine go_ ?_;refine sC (AV [pI (E Z.bad)]) aE fS O O O (go3 ?_);refine rtX O (fF O m0 tyT O) ?_;exact congrArg vS3 (show _=(hJ a) from aC h9 O)
 refine go4 ?_;refine sC (.int .i64 ((Z.signW a.dec).1)) aE (iR a.1 a.2) O O O (go2 ?_);refine aN _ O (fun h10=>?_) (fun h10=>?_)
 ·refine go5 ?_;refine rtX O (fF O m0 tyT O) ?_;exact congrArg vS3 (show _=(hJ a) from aH h9 (aC h10 O))
 refine go_ ?_;refine nK (sk (sk s0)) 8 [6,7] [7] (pC (AV [pI (E (Z.of 1))]) aE (eG (wl 1).1 (wl 1).2) O O O ?_);refine go_ ?_;refine pC (.int .i64 ((Z.bitsW a.dec).1)) aE (xX a.1 a.2) O O O (pV (.int .i64 ((W.add (Z.bitsW a.dec) (wl 1)).1)) O O ?_);refine pQ O (aS (v':=.int .i64 ((W.quo (W.add (Z.bitsW a.dec) (wl 1)) (wl 2)).1)) (kJ O O dd_) O) ?_;have hsh:0≤(W.quo (W.add (Z.bitsW a.dec) (wl 1)) (wl 2)).1:=bo_ a;refine pC (AV [pI (E (Z.shl (Z.of 1) (W.quo (W.add (Z.bitsW a.dec) (wl 1)) (wl 2)).1))]) aE (GS (E (Z.of 1)).1 (E (Z.of 1)).2 (W.quo (W.add (Z.bitsW a.dec) (wl 1)) (wl 2)) (by first|assumption|exact (Int.not_lt.1 (of_decide_eq_false (by first|assumption|exact eC_ eL))))) O O (cg1 (fun p=>AV [pI (E (Z.shl p (W.quo (W.add (Z.bitsW a.dec) (wl 1)) (wl 2)).1))]) (dQ _)) ?_;refine dF O O (eQ zpT (fun b11 hb11=>⟨(fun _=>sd s0),(sd s0),?_⟩));refine go3 ?_;refine cI (rg [4] 24 12) (fun g nn M=>∃ (mb11:I),(mV a nn mb11)=(mV a (Z.nat (E (Z.shl (Z.of 1) (W.quo (W.add (Z.bitsW a.dec) (wl 1)) (wl 2)).1)).dec+1) (E (Z.shl (Z.of 1) (W.quo (W.add (Z.bitsW a.dec) (wl 1)) (wl 2)).1)))∧Z.nat mb11.dec<nn∧(B5 a mb11)∧(True)∧M=[⟨b11,33,aU [pI mb11]⟩,⟨b2,33,aU [pI I0]⟩,⟨b1,33,aU [pI a]⟩]) (Z.nat (E (Z.shl (Z.of 1) (W.quo (W.add (Z.bitsW a.dec) (wl 1)) (wl 2)).1)).dec+1) ?start ?round
 case start=>exact ⟨_,s0,(E (Z.shl (Z.of 1) (W.quo (W.add (Z.bitsW a.dec) (wl 1)) (wl 2)).1)),rfl,Nat.lt_succ_self _,(IX h9 h10),trivial,rfl⟩
 case round =>
  rintro nn g M ⟨mb11,hT0,hq0,hinv0,-,rfl⟩;obtain ⟨k0,rfl⟩:∃ m,nn=m+1:=⟨nn - 1,by omega⟩;refine gS0 ?_;refine go_ ?_;refine nK (sk (sk (sk s0))) 8 [6,7] [7] (go3 ?_);refine pC (AV [pI (E (Z.quo a.dec mb11.dec))]) aE (lW a.1 mb11.1 a.2 mb11.2) O O O (pC (AV [pI (E (Z.add mb11.dec (Z.quo a.dec mb11.dec)))]) aE (pM mb11.1 (E (Z.quo a.dec mb11.dec)).1 mb11.2 (E (Z.quo a.dec mb11.dec)).2) O O (cg2 (fun p q=>AV [pI (E (Z.add p q))]) O (dQ _)) ?_);have hhf:=bn_ hinv0;refine pC (AV [pI (E (Z.half (Z.add mb11.dec (Z.quo a.dec mb11.dec))))]) aE (JL (E (Z.add mb11.dec (Z.quo a.dec mb11.dec))).1 (E (Z.add mb11.dec (Z.quo a.dec mb11.dec))).2 eL) O O (cg1 (fun p=>AV [pI (E (Z.half p))]) (dQ _)) (dF O O (eQ zpT (fun b20 hb20=>⟨(fun _=>sd s0),(sd s0),?_⟩)));refine go6 ?_;refine sC (.int .i64 ((Z.cmpW (Z.half (Z.add mb11.dec (Z.quo a.dec mb11.dec))) mb11.dec).1)) aE (DO (E (Z.half (Z.add mb11.dec (Z.quo a.dec mb11.dec)))).1 mb11.1 (E (Z.half (Z.add mb11.dec (Z.quo a.dec mb11.dec)))).2 mb11.2) O O (cg2 (fun p q=>Value.int .i64 (Z.cmpW p q).1) (dQ _) O) (go2 ?_);refine aN _ O (fun h21=>?_) (fun h21=>?_)
  ·refine go5 ?_;refine rtX O (fF O m2 tyT O) ?_;exact congrArg vS3 (show _=(hJ a) from aH h9 (aH h10 (wQ O (hT0.symm.trans (Eq.symm (aC h21 O))))))
  refine go5 ?_;refine ⟨pp_,_,_,(sd s0),(Nat.lt_succ_self _),(E (Z.half (Z.add mb11.dec (Z.quo a.dec mb11.dec)))),(by exact (hT0.symm.trans (Eq.symm (aH h21 O))).symm),(Nat.lt_of_lt_of_le (PT hinv0 h21) (Nat.le_of_lt_succ hq0)),(LA hinv0),trivial,rfl⟩
theorem yU (p:Pose) :
  Ret prog 16 [AV [cw p.x.x.1,cw p.x.y.1,cw p.x.z.1,cw p.q.x.1,cw p.q.y.1,cw p.q.z.1,cw p.q.t.1]] (AV [cw (((((aW p).from_).x).x).1),cw (((((aW p).from_).x).y).1),cw (((((aW p).from_).x).z).1),cw (((((aW p).from_).q).x).1),cw (((((aW p).from_).q).y).1),cw (((((aW p).from_).q).z).1),cw (((((aW p).from_).q).t).1),cw (((((aW p).to_).x).x).1),cw (((((aW p).to_).x).y).1),cw (((((aW p).to_).x).z).1),cw (((((aW p).to_).q).x).1),cw (((((aW p).to_).q).y).1),cw (((((aW p).to_).q).z).1),cw (((((aW p).to_).q).t).1)]):=by
 refine bJ (N:=6) func16 O O zz_ (fun w0=>?_);refine giI ?_;refine go2 ?_;intro b1 hb1;refine go_ ?_;intro b2 hb2;refine go8 ?_;refine rtX O (fF O m0 tyT O) ?_;exact (by rfl)
theorem uV (h:Path) :
  Ret prog 53 [AV [cw h.from_.x.x.1,cw h.from_.x.y.1,cw h.from_.x.z.1,cw h.from_.q.x.1,cw h.from_.q.y.1,cw h.from_.q.z.1,cw h.from_.q.t.1,cw h.to_.x.x.1,cw h.to_.x.y.1,cw h.to_.x.z.1,cw h.to_.q.x.1,cw h.to_.q.y.1,cw h.to_.q.z.1,cw h.to_.q.t.1]] (.bool (uK h)):=by
 refine bJ (N:=8) func53 O O zz_ (fun w0=>?_);refine giI ?_;refine go2 ?_;intro b1 hb1;refine go7 ?_;refine sQ (gI (r:=(decide (h.from_.x.x.1=h.to_.x.x.1)&&(decide (h.from_.x.y.1=h.to_.x.y.1)&&(decide (h.from_.x.z.1=h.to_.x.z.1)&&(decide (h.from_.q.x.1=h.to_.q.x.1)&&(decide (h.from_.q.y.1=h.to_.q.y.1)&&(decide (h.from_.q.z.1=h.to_.q.z.1)&&decide (h.from_.q.t.1=h.to_.q.t.1)))))))) O O (dR 8 dd_ ek_ er_ (aD bU (aD bU (aD bU (aD bU (aD bU (aD bU (cM bU))))))) (aD bU (aD bU (aD bU (aD bU (aD bU (aD bU (cM bU))))))) (aQ O eB (aQ O eB (aQ O eB (aQ O eB (aQ O eB (aQ O eB (eJ eB))))))))) O (go3 ?_);refine rt1 ?_;exact (by rfl)
theorem IJ (p_c:Option Addr) (c_c:Nat) (c:(List (A3 W))) (w:World) (hc:Slr w elV (.slice p_c c.length c_c) c) :
    Calls prog 28 [AV [csl p_c c.length c_c]].toArray w (fun e w'=>e = .returned (.int .i64 ((dC c).1))∧Ext w w'):=by
 refine dB (N:=50) func28 O O zz_ ?_;obtain ⟨w0,rfl⟩:=nm w;have Hc:=hc.old;have hm_c:=hc.max;refine giI ?_;refine go2 ?_;intro b1 hb1;refine go9 ?_;refine sQ (eK iY O (SLe.sub Hc sn)) O (go2 ?_);refine gJ3 (rg [3,5] 11 24) (fun g M=>∃ (k:W),(gX c c (wl 0))=k∧(g 3 = .int .i64 k.1)∧M=[⟨b1,52,aU [csl p_c c.length c_c]⟩]) (fun K_u2 hK_u2=>?_) ?_
 ·refine go_ ?_;have hmx0:(c).length≤9223372036854775807:=hm_c;refine cI (rg [3,5] 11 24) (fun g nn M=>∃ (i0:Nat) (l0:List (A3 W)) (k:W),(gX c l0 k)=(gX c c (wl 0))∧(c).drop i0=l0∧l0.length=nn∧g 11 = .int .i64 (i0:Int)∧(g 3 = .int .i64 k.1)∧M=[⟨b1,52,aU [csl p_c c.length c_c]⟩]) c.length ?start ?round
  case start=>exact ⟨_,s0,0,c,(wl 0),rfl,rfl,rfl,rfl,rfl,rfl⟩
  case round =>
   rintro nn g M ⟨i0,l0,k,hT0,hr0,rfl,hgi,hg3,rfl⟩;refine gS2 hgi hg3 ?_;clear hgi hg3;refine go4 ?_;rcases l0 with _|⟨x0,l0⟩
   ·have h7:=yD hr0;refine W_f h7 O (go_ ?_);refine hK_u2 _ _ pp_ ⟨_,s0,k,(by exact hT0.symm.trans (Eq.symm rfl)),rfl,rfl⟩
   have h8:=wH hr0;have g9:=sK hr0;refine W_t h8 O (go4 ?_);refine sQ (aS (v':=.pointer (some (slb (.slice p_c c.length c_c) (i0*3+0)))) (eY (e:=elV) (l:=c) (k:=i0) iY O O (SLe.sub Hc sn) g9.2.1) O) O (sQ (iS (e:=elV) (l:=c) (k:=i0) (o:=0) tyT O (SLe.sub Hc sn) g9.1 O) O (go_ ?_));intro b10 hb10;refine go8 ?_;refine sV (.int .i64 ((W.mul x0.x x0.x).1)) O O (go4 ?_);refine sV (.int .i64 ((W.mul x0.y x0.y).1)) O O (sV (.int .i64 ((W.add (W.mul x0.x x0.x) (W.mul x0.y x0.y)).1)) O O (go4 ?_));refine sV (.int .i64 ((W.mul x0.z x0.z).1)) O O (sV (.int .i64 ((W.add (W.add (W.mul x0.x x0.x) (W.mul x0.y x0.y)) (W.mul x0.z x0.z)).1)) O O (sQ (aS (v':=.int .i64 ((W.max k (W.add (W.add (W.mul x0.x x0.x) (W.mul x0.y x0.y)) (W.mul x0.z x0.z))).1)) (nV O O) (congrArg (Value.int .i64) (W.max_1 k (W.add (W.add (W.mul x0.x x0.x) (W.mul x0.y x0.y)) (W.mul x0.z x0.z))))) O (go3 ?_)));refine sV (.int .i64 ((i0+1:Nat):Int)) O (congrArg (Value.int .i64) (nxt g9.2.1 hmx0)) (go2 ?_);refine ⟨pp_,_,_,(sd s0),(Nat.lt_succ_self _),i0+1,l0,(W.max k (W.add (W.add (W.mul x0.x x0.x) (W.mul x0.y x0.y)) (W.mul x0.z x0.z))),(by exact (hT0.symm.trans (Eq.symm rfl)).symm),g9.2.2,rfl,rfl,rfl,rfl⟩
 rintro g M ⟨k,hCu2,hg3,rfl⟩;refine gS1 hg3 ?_;clear hg3;refine go2 ?_;refine sC (AV [pI (E (Z.of k.1))]) aE (eG k.1 k.2) O O O (sQ (aX aE (JM (E (Z.of k.1))) O) O (sC (.tuple #[.int .i64 ((Z.smallW (hJ (E (Z.of k.1))).dec).1),.bool ((hJ (E (Z.of k.1))).dec.small.2)]) aE (lI (hJ (E (Z.of k.1))).1 (hJ (E (Z.of k.1))).2) O O O (iK ?_)));refine sV (.int .i64 ((W.mul (Z.smallW (hJ (E (Z.of k.1))).dec) (Z.smallW (hJ (E (Z.of k.1))).dec)).1)) O O (go3 ?_);refine aN _ O (fun h11=>?_) (fun h11=>?_)
 ·have ph11:=of_decide_eq_true h11;refine go2 ?_;refine sV (.int .i64 ((W.add (Z.smallW (hJ (E (Z.of k.1))).dec) (wl 1)).1)) O O ?_;refine go7 ?_;refine rt1 ?_;exact congrArg vS6 (show _=(dC c) from (by unfold dC;exact trs (Eq.symm (apS hCu2)) (aC h11 O)))
 have ph11:=of_decide_eq_false h11;refine go6 ?_;refine rt1 ?_;exact congrArg vS6 (show _=(dC c) from (by unfold dC;exact trs (Eq.symm (apS hCu2)) (aH h11 O)))
theorem AJ (h:Path) (p_c:Option Addr) (c_c:Nat) (c:(List (A3 W))) (w:World) (hc:Slr w elV (.slice p_c c.length c_c) c) :
   Calls prog 34 [AV [cw h.from_.x.x.1,cw h.from_.x.y.1,cw h.from_.x.z.1,cw h.from_.q.x.1,cw h.from_.q.y.1,cw h.from_.q.z.1,cw h.from_.q.t.1,cw h.to_.x.x.1,cw h.to_.x.y.1,cw h.to_.x.z.1,cw h.to_.q.x.1,cw h.to_.q.y.1,cw h.to_.q.z.1,cw h.to_.q.t.1],AV [csl p_c c.length c_c]].toArray w (fun e w'=>e = .returned (.tuple #[AV [cw ((((aP h c).1).x).1),cw ((((aP h c).1).y).1),cw ((((aP h c).1).z).1)],AV [cw ((((aP h c).2).x).1),cw ((((aP h c).2).y).1),cw ((((aP h c).2).z).1)]])∧Ext w w'):=by
 refine dB (N:=43) func34 O O zz_ ?_;obtain ⟨w0,rfl⟩:=nm w;have Hc:=hc.old;have hm_c:=hc.max;refine giI ?_;refine go2 ?_;intro b1 hb1;refine go_ ?_;intro b2 hb2;refine go_ ?_;intro b3 hb3;refine go_ ?_;intro b4 hb4;refine go3 ?_;refine sFc (.int .i64 ((dC c).1)) O (c1_ (IJ _ _ c) Hc sn) O O (iK ?_);refine rM 5 (go2 ?_);refine sV (.bool true) O O (yP ?_);refine gdr (sd (sd s0)) [0,8,12,16,20,24,28,32,36,40,80,6,46,50,54,58,62,66,70,74,78,85,88,93] [21,23] mix (by kernel_rfl) (go7 ?_);refine pQ O (aS (v':=.int .i64 ((W.min h.from_.x.x h.to_.x.x).1)) (CH O O) (congrArg (Value.int .i64) (W.min_1 h.from_.x.x h.to_.x.x))) (go_ ?_);refine pV (.int .i64 ((W.sub (W.min h.from_.x.x h.to_.x.x) (dC c)).1)) O O (go4 ?_);refine tC O O (qZ (off':=7) (cA fdT dd_ O) O) (tC O O (qZ (off':=7) (cA fdT dd_ O) O) (tC O O (qZ (off':=7) (eF arT O O dd_ dd_) O) (tC O O (wY (v:=.int .i64 h.to_.x.x.1) tyT O m1 O) (tC O O (aS (v':=.int .i64 ((W.max h.from_.x.x h.to_.x.x).1)) (nV O O) (congrArg (Value.int .i64) (W.max_1 h.from_.x.x h.to_.x.x))) (go_ ?_)))));refine tV (.int .i64 ((W.add (W.max h.from_.x.x h.to_.x.x) (dC c)).1)) O O (go5 ?_);refine sV (.int .i64 1) O O (go4 ?_);refine sV (.bool true) O O (yP ?_);refine gdr (sd (sd s0)) [0,8,12,16,20,24,28,32,36,40,80,6,46,50,54,58,62,66,70,74,78,85,88,93] [21,23] mix (by kernel_rfl) (go7 ?_);refine pQ O (aS (v':=.int .i64 ((W.min h.from_.x.y h.to_.x.y).1)) (CH O O) (congrArg (Value.int .i64) (W.min_1 h.from_.x.y h.to_.x.y))) (go_ ?_);refine pV (.int .i64 ((W.sub (W.min h.from_.x.y h.to_.x.y) (dC c)).1)) O O (go4 ?_);refine tC O O (qZ (off':=7) (cA fdT dd_ O) O) (tC O O (qZ (off':=7) (cA fdT dd_ O) O) (tC O O (qZ (off':=8) (eF arT O O dd_ dd_) O) (tC O O (wY (v:=.int .i64 h.to_.x.y.1) tyT O m1 O) (tC O O (aS (v':=.int .i64 ((W.max h.from_.x.y h.to_.x.y).1)) (nV O O) (congrArg (Value.int .i64) (W.max_1 h.from_.x.y h.to_.x.y))) (go_ ?_)))));refine tV (.int .i64 ((W.add (W.max h.from_.x.y h.to_.x.y) (dC c)).1)) O O (go5 ?_);refine sV (.int .i64 2) O O (go4 ?_);refine sV (.bool true) O O (yP ?_);refine gdr (sd (sd s0)) [0,8,12,16,20,24,28,32,36,40,80,6,46,50,54,58,62,66,70,74,78,85,88,93] [21,23] mix (by kernel_rfl) (go7 ?_);refine pQ O (aS (v':=.int .i64 ((W.min h.from_.x.z h.to_.x.z).1)) (CH O O) (congrArg (Value.int .i64) (W.min_1 h.from_.x.z h.to_.x.z))) (go_ ?_);refine pV (.int .i64 ((W.sub (W.min h.from_.x.z h.to_.x.z) (dC c)).1)) O O (go4 ?_);refine tC O O (qZ (off':=7) (cA fdT dd_ O) O) (tC O O (qZ (off':=7) (cA fdT dd_ O) O) (tC O O (qZ (off':=9) (eF arT O O dd_ dd_) O) (tC O O (wY (v:=.int .i64 h.to_.x.z.1) tyT O m1 O) (tC O O (aS (v':=.int .i64 ((W.max h.from_.x.z h.to_.x.z).1)) (nV O O) (congrArg (Value.int .i64) (W.max_1 h.from_.x.z h.to_.x.z))) (go_ ?_)))));refine tV (.int .i64 ((W.add (W.max h.from_.x.z h.to_.x.z) (dC c)).1)) O O (go5 ?_);refine sV (.int .i64 3) O O (go4 ?_);refine sV (.bool false) O O (go4 ?_);refine oA (sk (sk (sd (sd s0)))) ?_;refine gDs sn (.quiet 0 [2,3] (.both 1 (.only 2 (.only 3 (.fin))) 2 (.quiet 1 [3] (.only 3 (.fin))))) [0,1] mix (by kernel_rfl) (by kernel_rfl) (go_ ?_);refine AF ?_ ?_
 ·refine dF O O (wG (G9 tyT O m0 O) ⟨fun _=>s0,sn,go4 ?_⟩);refine vE O (.inr O) (fF O m1 tyT O) (fF O m0 tyT O) ?_;exact (by rfl)
 refine go5 ?_;refine vE O (.inr O) (fF O m1 tyT O) (fF O m0 tyT O) ?_;exact (by rfl)
end Go.Proofs.YtbjlhfochebmiaaGreatDoor
