/- What these functions compute, as plain functions. No program stands in it. -/
import Derived.Test.YtapbefpeopaecaaGreatDoorUGE
set_option linter.unusedVariables false
set_option linter.unusedSimpArgs false
namespace Go.Num
open Go Go.Kn
def cc_ (a : Rt) (b : Rt) : W :=
  bif (!(aV_ a) && (!(aV_ b))) then ((wl 0)) else (bif (aV_ a) then (bif (aV_ b) then ((cf (cfN a.d) (wl 1) a.n a.d b.n b.d)) else ((wl 1))) else ((wl (-1))))
def cL_ (a : Rt) (b : Rt) : W :=
  bif (!(ai_ a) || (!(ai_ b))) then (let r7 : W := (Z.cmpW (dk_ a (ai_ a)).dec (dk_ b (ai_ b)).dec)
  r7) else ((cf (cfN a.d) (wl 1) a.n a.d b.n b.d))
end Go.Num

set_option linter.unusedVariables false
set_option linter.unusedSimpArgs false
namespace Go.Num
open Go Go.Kn
def cs_ (l : (List I)) : List I → (Unit) ⊕ (Bool)
  | [] => .inl ()
  | x0 :: l0 => bif (x0.1.bad || (!x0.1.valid)) then (.inr (false)) else ((cs_ l l0))
def cq_ (l : (List I)) : Bool :=
  sm (fun (s : Unit) => true) (fun r => r) (cs_ l l)
end Go.Num

set_option linter.unusedVariables false
set_option linter.unusedSimpArgs false
namespace Go.Num
open Go Go.Kn
def cR_ (a : I) : Nat → I → (I) ⊕ (I)
  | 0, mb11 => .inl mb11
  | k0 + 1, mb11 => bif decide (0 ≤ (Z.cmpW (Z.half (Z.add mb11.dec (Z.quo a.dec mb11.dec))) mb11.dec).1) then (.inr (mb11)) else ((cR_ a k0 (E (Z.half (Z.add mb11.dec (Z.quo a.dec mb11.dec))))))
def cv_ (a : I) : I :=
  bif (!(cq_ [a]) || a.1.neg) then ((E Z.bad)) else (bif ((Z.signW a.dec).1 == 0) then (a) else (sm (fun (s : I) => let mb11 : I := s
  I0) (fun r => r) (cR_ a ((Z.nat (E (Z.shl (Z.of 1) (W.quo (W.add (Z.bitsW a.dec) (wl 1)) (wl 2)).1)).dec + 1)) (E (Z.shl (Z.of 1) (W.quo (W.add (Z.bitsW a.dec) (wl 1)) (wl 2)).1)))))
end Go.Num

set_option linter.unusedVariables false
set_option linter.unusedSimpArgs false
namespace Go.Num
open Go Go.Kn
def aC_ (a : Rt) : W :=
  bif (aV_ a) then ((Z.signW a.n.dec)) else ((wl 0))
def cD_ (a : Rt) : Rt :=
  bif decide ((aC_ a).1 < 0) then ((bK_ a)) else ((bK_ (bK_ a)))
def ab_ (a : Rt) (b : Rt) : Rt :=
  bif (aV_ b) then (let r5 : Rt := (az_ a (ao_ b.d b.n))
  r5) else (d7_)
def aX_ (a : Rt) : W :=
  bif (ai_ a) then ((Z.signW a.n.dec)) else ((wl 0))
def bV_ (a : Rt) : Rt :=
  bif (ai_ a) then ((⟨(E (Z.abs a.n.dec)), a.d⟩ : Rt)) else (bh_)
def bW_ (a : Rt) (b : Rt) : Rt :=
  bif (ai_ b) then (let r5 : Rt := (ag_ a (ae_ b.d b.n))
  r5) else (bh_)
end Go.Num

set_option linter.unusedVariables false
set_option linter.unusedSimpArgs false
namespace Go.Num
open Go Go.Kn
def bO_ (a : (A3 W)) (b : W) : Bool :=
  bif (decide (536870912 ≤ a.x.1) || decide (a.x.1 ≤ (-536870912))) then (false) else (bif (decide (536870912 ≤ a.y.1) || decide (a.y.1 ≤ (-536870912))) then (false) else (bif (decide (536870912 ≤ a.z.1) || decide (a.z.1 ≤ (-536870912))) then (false) else ((!(decide (a.x.1 = 0) && (decide (a.y.1 = 0) && decide (a.z.1 = 0))) && (decide (0 ≤ b.1) && decide (b.1 ≤ 4000))))))
def bJ_ (a : (A3 W)) (b : W) : (A2 (A3 W)) × (A2 Rt) :=
  let r5 : I := (E (Z.mul (Z.of 1000000) (a7_ ((al_ a).1) ((al_ a).1)).dec))
  let r6 : I := (E (Z.quo (Z.shl (Z.mul (Z.of (W.mul b b).1) (a7_ a a).dec) 16) r5.dec))
  let r8 : Rt := (ao_ (cv_ r6) (E (Z.of 256)))
  let r9 : I := (E (Z.mul (Z.of 1000000) (a7_ ((al_ a).2) ((al_ a).2)).dec))
  let r10 : I := (E (Z.quo (Z.shl (Z.mul (Z.of (W.mul b b).1) (a7_ a a).dec) 16) r9.dec))
  let r12 : Rt := (ao_ (cv_ r10) (E (Z.of 256)))
  ((⟨((al_ a).1), ((al_ a).2)⟩ : (A2 (A3 W))), (⟨r8, r12⟩ : (A2 Rt)))
def an_ (a : (A3 W)) (b : W) : (List (A3 Rt)) × W :=
  bif (bO_ a b) then (let r3 : (A3 Rt) := (bT_ a)
  bif (b.1 == 0) then (([r3], (wl 0))) else (let r7 : (A2 (A3 W)) := (bJ_ a b).1
  let r8 : (A2 Rt) := (bJ_ a b).2
  let r11 : (A3 Rt) := (bT_ r7.x)
  let r12 : (A3 Rt) := (bL_ r8.x r11)
  let r14 : (A3 Rt) := (b8_ r3 r12)
  let r15 : (A3 Rt) := (cg_ r3 r12)
  let r21 : (A3 Rt) := (bT_ r7.y)
  let r22 : (A3 Rt) := (bL_ r8.y r21)
  let r24 : (A3 Rt) := (b8_ r3 r22)
  let r25 : (A3 Rt) := (cg_ r3 r22)
  (((([] : List (A3 Rt)) ++ [r14, r15]) ++ [r24, r25]), (wl 0)))) else ((([] : List (A3 Rt)), (wl 1)))
def dU_ (a : (A3 Rt)) : Rt :=
  (cz_ a a)
def a4_ (a : (A3 W)) (b : W) (c : (A3 Rt)) : Bool :=
  bif (!(bO_ a b) || decide ((aC_ (bf_ a c)).1 < 0)) then (false) else (let r8 : (A3 Rt) := (bT_ a)
  let r9 : (A3 Rt) := (cB_ c r8)
  let r10 : Rt := (az_ (aa_ (wl 1000000)) (dU_ r9))
  let r12 : Rt := (az_ (bf_ a c) (bf_ a c))
  let r13 : Rt := (az_ (aa_ (W.mul b b)) r12)
  (decide ((cc_ r10 r13).1 ≤ 0)))
def ap_ (a : (A3 W)) (f : (A3 Rt)) : Rt :=
  let r3 : Rt := (ao_ (a7_ a a) (E (Z.of 1)))
  (ab_ (bf_ a f) r3)
def aD_ (a : (A3 W)) (b : W) (c : (A3 Rt)) : (List Rt) × Bool :=
  bif (bO_ a b) then (let r6 : (A2 (A3 W)) := (bJ_ a b).1
  let r7 : (A2 Rt) := (bJ_ a b).2
  bif ((aC_ (ap_ r6.x c)).1 != 0) then (bif ((aC_ r7.x).1 == 0) then ((([] : List Rt), false)) else (let r14 : Rt := (cD_ (ap_ r6.x c))
  let r15 : Rt := (ad_ (ap_ a c) (ab_ r14 r7.x))
  bif decide (0 ≤ (aC_ (ap_ r6.x c)).1) then (bif ((aC_ (ap_ r6.y c)).1 != 0) then (bif ((aC_ r7.y).1 == 0) then ((([] : List Rt), false)) else (let r26 : Rt := (cD_ (ap_ r6.y c))
  bif decide (0 ≤ (aC_ (ap_ r6.y c)).1) then (bif decide ((aC_ (ad_ r15 (ab_ r26 r7.y))).1 < 0) then ((([] : List Rt), false)) else (bif (b.1 == 0) then (([(ad_ r15 (ab_ r26 r7.y))], true)) else (let r36 : Rt := (ab_ (ad_ r15 (ab_ r26 r7.y)) (aa_ (wl 2)))
  let r38 : Rt := (aw_ (((([] : List Rt) ++ [(ab_ r14 r7.x), (aa_ (wl 0))]) ++ [(ab_ r26 r7.y), (aa_ (wl 0))]).getD 0 Rt0) r36)
  let r39 : Rt := (aw_ (((([] : List Rt) ++ [(ab_ r14 r7.x), (aa_ (wl 0))]) ++ [(ab_ r26 r7.y), (aa_ (wl 0))]).getD 1 Rt0) r36)
  (((((([] : List Rt) ++ [(ab_ r14 r7.x), (aa_ (wl 0))]) ++ [(ab_ r26 r7.y), (aa_ (wl 0))]).set 0 r38).set 1 r39), true)))) else (bif decide ((aC_ (ad_ r15 (ab_ r26 r7.y))).1 < 0) then ((([] : List Rt), false)) else (bif (b.1 == 0) then (([(ad_ r15 (ab_ r26 r7.y))], true)) else (let r52 : Rt := (ab_ (ad_ r15 (ab_ r26 r7.y)) (aa_ (wl 2)))
  let r54 : Rt := (aw_ (((([] : List Rt) ++ [(ab_ r14 r7.x), (aa_ (wl 0))]) ++ [(aa_ (wl 0)), (ab_ r26 r7.y)]).getD 0 Rt0) r52)
  let r55 : Rt := (aw_ (((([] : List Rt) ++ [(ab_ r14 r7.x), (aa_ (wl 0))]) ++ [(aa_ (wl 0)), (ab_ r26 r7.y)]).getD 1 Rt0) r52)
  (((((([] : List Rt) ++ [(ab_ r14 r7.x), (aa_ (wl 0))]) ++ [(aa_ (wl 0)), (ab_ r26 r7.y)]).set 0 r54).set 1 r55), true)))))) else (bif decide ((aC_ (ad_ r15 (aa_ (wl 0)))).1 < 0) then ((([] : List Rt), false)) else (bif (b.1 == 0) then (([(ad_ r15 (aa_ (wl 0)))], true)) else (let r68 : Rt := (ab_ (ad_ r15 (aa_ (wl 0))) (aa_ (wl 2)))
  let r70 : Rt := (aw_ (((([] : List Rt) ++ [(ab_ r14 r7.x), (aa_ (wl 0))]) ++ [(aa_ (wl 0)), (aa_ (wl 0))]).getD 0 Rt0) r68)
  let r71 : Rt := (aw_ (((([] : List Rt) ++ [(ab_ r14 r7.x), (aa_ (wl 0))]) ++ [(aa_ (wl 0)), (aa_ (wl 0))]).getD 1 Rt0) r68)
  (((((([] : List Rt) ++ [(ab_ r14 r7.x), (aa_ (wl 0))]) ++ [(aa_ (wl 0)), (aa_ (wl 0))]).set 0 r70).set 1 r71), true))))) else (bif ((aC_ (ap_ r6.y c)).1 != 0) then (bif ((aC_ r7.y).1 == 0) then ((([] : List Rt), false)) else (let r85 : Rt := (cD_ (ap_ r6.y c))
  bif decide (0 ≤ (aC_ (ap_ r6.y c)).1) then (bif decide ((aC_ (ad_ r15 (ab_ r85 r7.y))).1 < 0) then ((([] : List Rt), false)) else (bif (b.1 == 0) then (([(ad_ r15 (ab_ r85 r7.y))], true)) else (let r95 : Rt := (ab_ (ad_ r15 (ab_ r85 r7.y)) (aa_ (wl 2)))
  let r97 : Rt := (aw_ (((([] : List Rt) ++ [(aa_ (wl 0)), (ab_ r14 r7.x)]) ++ [(ab_ r85 r7.y), (aa_ (wl 0))]).getD 0 Rt0) r95)
  let r98 : Rt := (aw_ (((([] : List Rt) ++ [(aa_ (wl 0)), (ab_ r14 r7.x)]) ++ [(ab_ r85 r7.y), (aa_ (wl 0))]).getD 1 Rt0) r95)
  (((((([] : List Rt) ++ [(aa_ (wl 0)), (ab_ r14 r7.x)]) ++ [(ab_ r85 r7.y), (aa_ (wl 0))]).set 0 r97).set 1 r98), true)))) else (bif decide ((aC_ (ad_ r15 (ab_ r85 r7.y))).1 < 0) then ((([] : List Rt), false)) else (bif (b.1 == 0) then (([(ad_ r15 (ab_ r85 r7.y))], true)) else (let r111 : Rt := (ab_ (ad_ r15 (ab_ r85 r7.y)) (aa_ (wl 2)))
  let r113 : Rt := (aw_ (((([] : List Rt) ++ [(aa_ (wl 0)), (ab_ r14 r7.x)]) ++ [(aa_ (wl 0)), (ab_ r85 r7.y)]).getD 0 Rt0) r111)
  let r114 : Rt := (aw_ (((([] : List Rt) ++ [(aa_ (wl 0)), (ab_ r14 r7.x)]) ++ [(aa_ (wl 0)), (ab_ r85 r7.y)]).getD 1 Rt0) r111)
  (((((([] : List Rt) ++ [(aa_ (wl 0)), (ab_ r14 r7.x)]) ++ [(aa_ (wl 0)), (ab_ r85 r7.y)]).set 0 r113).set 1 r114), true)))))) else (bif decide ((aC_ (ad_ r15 (aa_ (wl 0)))).1 < 0) then ((([] : List Rt), false)) else (bif (b.1 == 0) then (([(ad_ r15 (aa_ (wl 0)))], true)) else (let r127 : Rt := (ab_ (ad_ r15 (aa_ (wl 0))) (aa_ (wl 2)))
  let r129 : Rt := (aw_ (((([] : List Rt) ++ [(aa_ (wl 0)), (ab_ r14 r7.x)]) ++ [(aa_ (wl 0)), (aa_ (wl 0))]).getD 0 Rt0) r127)
  let r130 : Rt := (aw_ (((([] : List Rt) ++ [(aa_ (wl 0)), (ab_ r14 r7.x)]) ++ [(aa_ (wl 0)), (aa_ (wl 0))]).getD 1 Rt0) r127)
  (((((([] : List Rt) ++ [(aa_ (wl 0)), (ab_ r14 r7.x)]) ++ [(aa_ (wl 0)), (aa_ (wl 0))]).set 0 r129).set 1 r130), true))))))) else (let r135 : Rt := (ad_ (ap_ a c) (aa_ (wl 0)))
  bif ((aC_ (ap_ r6.y c)).1 != 0) then (bif ((aC_ r7.y).1 == 0) then ((([] : List Rt), false)) else (let r145 : Rt := (cD_ (ap_ r6.y c))
  bif decide (0 ≤ (aC_ (ap_ r6.y c)).1) then (bif decide ((aC_ (ad_ r135 (ab_ r145 r7.y))).1 < 0) then ((([] : List Rt), false)) else (bif (b.1 == 0) then (([(ad_ r135 (ab_ r145 r7.y))], true)) else (let r155 : Rt := (ab_ (ad_ r135 (ab_ r145 r7.y)) (aa_ (wl 2)))
  let r157 : Rt := (aw_ (((([] : List Rt) ++ [(aa_ (wl 0)), (aa_ (wl 0))]) ++ [(ab_ r145 r7.y), (aa_ (wl 0))]).getD 0 Rt0) r155)
  let r158 : Rt := (aw_ (((([] : List Rt) ++ [(aa_ (wl 0)), (aa_ (wl 0))]) ++ [(ab_ r145 r7.y), (aa_ (wl 0))]).getD 1 Rt0) r155)
  (((((([] : List Rt) ++ [(aa_ (wl 0)), (aa_ (wl 0))]) ++ [(ab_ r145 r7.y), (aa_ (wl 0))]).set 0 r157).set 1 r158), true)))) else (bif decide ((aC_ (ad_ r135 (ab_ r145 r7.y))).1 < 0) then ((([] : List Rt), false)) else (bif (b.1 == 0) then (([(ad_ r135 (ab_ r145 r7.y))], true)) else (let r171 : Rt := (ab_ (ad_ r135 (ab_ r145 r7.y)) (aa_ (wl 2)))
  let r173 : Rt := (aw_ (((([] : List Rt) ++ [(aa_ (wl 0)), (aa_ (wl 0))]) ++ [(aa_ (wl 0)), (ab_ r145 r7.y)]).getD 0 Rt0) r171)
  let r174 : Rt := (aw_ (((([] : List Rt) ++ [(aa_ (wl 0)), (aa_ (wl 0))]) ++ [(aa_ (wl 0)), (ab_ r145 r7.y)]).getD 1 Rt0) r171)
  (((((([] : List Rt) ++ [(aa_ (wl 0)), (aa_ (wl 0))]) ++ [(aa_ (wl 0)), (ab_ r145 r7.y)]).set 0 r173).set 1 r174), true)))))) else (bif decide ((aC_ (ad_ r135 (aa_ (wl 0)))).1 < 0) then ((([] : List Rt), false)) else (bif (b.1 == 0) then (([(ad_ r135 (aa_ (wl 0)))], true)) else (let r187 : Rt := (ab_ (ad_ r135 (aa_ (wl 0))) (aa_ (wl 2)))
  let r189 : Rt := (aw_ (((([] : List Rt) ++ [(aa_ (wl 0)), (aa_ (wl 0))]) ++ [(aa_ (wl 0)), (aa_ (wl 0))]).getD 0 Rt0) r187)
  let r190 : Rt := (aw_ (((([] : List Rt) ++ [(aa_ (wl 0)), (aa_ (wl 0))]) ++ [(aa_ (wl 0)), (aa_ (wl 0))]).getD 1 Rt0) r187)
  (((((([] : List Rt) ++ [(aa_ (wl 0)), (aa_ (wl 0))]) ++ [(aa_ (wl 0)), (aa_ (wl 0))]).set 0 r189).set 1 r190), true)))))) else ((([] : List Rt), false))
def bn_ (a : (A3 W)) (b : W) (c : (A3 Rt)) : Bool :=
  ((aD_ a b c).2)
def cT_ (l : (List (A3 Rt))) (k : (List Rt)) (r2 : (A3 Rt)) : Nat → Nat → (A3 Rt) → Nat × (A3 Rt)
  | 0, i, mb3 => (i, mb3)
  | k0 + 1, i, mb3 => bif decide (((i : Nat) : Int) < (((min ((l).length) ((k).length)) : Nat) : Int)) then (let r9 : (A3 Rt) := (bL_ (k.getD i Rt0) (l.getD i V0))
  let r10 : (A3 Rt) := (b8_ mb3 r9)
  (cT_ l k r2 k0 (i + 1) r10)) else ((i, mb3))
def cA_ (l : (List (A3 Rt))) (k : (List Rt)) : (A3 Rt) :=
  let r2 : (A3 Rt) := (bT_ (⟨(wl 0), (wl 0), (wl 0)⟩ : (A3 W)))
  ap (fun (s : Nat × (A3 Rt)) => let i : Nat := s.1
  let mb3 : (A3 Rt) := s.2
  mb3) (cT_ l k r2 ((min l.length k.length + 1)) 0 r2)
def au_ (a : (A3 W)) (b : W) : Bool :=
  bif (decide (536870912 ≤ a.x.1) || decide (a.x.1 ≤ (-536870912))) then (false) else (bif (decide (536870912 ≤ a.y.1) || decide (a.y.1 ≤ (-536870912))) then (false) else (bif (decide (536870912 ≤ a.z.1) || decide (a.z.1 ≤ (-536870912))) then (false) else ((!(decide (a.x.1 = 0) && (decide (a.y.1 = 0) && decide (a.z.1 = 0))) && (decide (0 ≤ b.1) && decide (b.1 ≤ 4000))))))
def aF_ (a : (A3 W)) (b : W) (c : (A3 W)) : Rt :=
  let r5 : I := (E (Z.mul (Z.mul (Z.of (W.mul b b).1) (c1_ a a).dec) (Z.of 65536)))
  let r7 : I := (E (Z.sqrt (Z.quo r5.dec (Z.mul (Z.of 1000000) (c1_ c c).dec))))
  let r8 : Rt := (ae_ r7 (E (Z.of 256)))
  r8
def bU_ (a : (A3 W)) (b : W) : Edg :=
  bif (au_ a b) then (let r4 : (A3 Rt) := (aj_ a)
  bif (b.1 == 0) then ((⟨[r4], (wl 0)⟩ : Edg)) else (let r8 : (A3 W) := (aU_ a).1
  let r9 : (A3 W) := (aU_ a).2
  let r12 : (A3 Rt) := (aj_ r8)
  let r13 : (A3 Rt) := (aG_ (aF_ a b r8) r12)
  let r15 : (A3 Rt) := (aj_ r9)
  let r16 : (A3 Rt) := (aG_ (aF_ a b r9) r15)
  let r18 : (A3 Rt) := (aQ_ r4 r13)
  let r19 : (A3 Rt) := (aP_ r4 r13)
  let r20 : (A3 Rt) := (aQ_ r4 r16)
  let r21 : (A3 Rt) := (aP_ r4 r16)
  (⟨[r18, r19, r20, r21], (wl 0)⟩ : Edg))) else ((⟨([] : List (A3 Rt)), (wl 1)⟩ : Edg))
def c7_ (a : (A3 W)) (b : W) (c : (A3 Rt)) : Bool :=
  bif (!(au_ a b) || decide ((aX_ (cE_ a c)).1 < 0)) then (false) else (let r8 : (A3 Rt) := (aj_ a)
  let r9 : (A3 Rt) := (ct_ c r8)
  let r11 : Rt := (ag_ (af_ (wl 1000000)) (by_ r9 r9))
  let r13 : Rt := (ag_ (cE_ a c) (cE_ a c))
  let r14 : Rt := (ag_ (af_ (W.mul b b)) r13)
  (decide ((cL_ r11 r14).1 ≤ 0)))
def aW_ (a : (A3 W)) (b : (A3 Rt)) : Rt :=
  let r4 : Rt := (db_ (c1_ a a))
  let r5 : Rt := (bW_ (cE_ a b) r4)
  r5
def bQ_ (a : Rt) (b : Rt) : Rt × Bool :=
  bif ((aX_ a).1 == 0) then (((af_ (wl 0)), true)) else (bif ((aX_ b).1 == 0) then (((af_ (wl 0)), false)) else (let r6 : Rt := (bW_ (bV_ a) b)
  (r6, true)))
def cw_ (a : (A3 W)) (b : W) (c : (A3 Rt)) : Pts :=
  bif (au_ a b) then (let r5 : (A3 W) := (aU_ a).1
  let r6 : (A3 W) := (aU_ a).2
  let r11 : Rt := (bQ_ (aW_ r5 c) (aF_ a b r5)).1
  let r13 : Rt := (bQ_ (aW_ r6 c) (aF_ a b r6)).1
  let r15 : Rt := (aq_ (aW_ a c) r11)
  bif (!((bQ_ (aW_ r5 c) (aF_ a b r5)).2) || (!((bQ_ (aW_ r6 c) (aF_ a b r6)).2) || decide ((aX_ (aq_ r15 r13)).1 < 0))) then ((⟨([] : List Rt), false⟩ : Pts)) else (bif (b.1 == 0) then ((⟨[(aq_ r15 r13)], true⟩ : Pts)) else (let r25 : Rt := (ar_ (wl 1) (wl 2))
  let r26 : Rt := (ag_ (aq_ r15 r13) r25)
  bif decide ((aX_ (aW_ r5 c)).1 < 0) then (bif decide ((aX_ (aW_ r6 c)).1 < 0) then ((⟨[r26, (ak_ r11 r26), (af_ (wl 0)), r13], true⟩ : Pts)) else ((⟨[r26, (ak_ r11 r26), r13, (af_ (wl 0))], true⟩ : Pts))) else (bif decide ((aX_ (aW_ r6 c)).1 < 0) then ((⟨[(ak_ r11 r26), r26, (af_ (wl 0)), r13], true⟩ : Pts)) else ((⟨[(ak_ r11 r26), r26, r13, (af_ (wl 0))], true⟩ : Pts)))))) else ((⟨([] : List Rt), false⟩ : Pts))
def bS_ (a : (List (A3 Rt))) (b : (List (A3 Rt))) : Nat → Nat → (Nat) ⊕ (Bool)
  | 0, i => .inl i
  | k0 + 1, i => bif decide (((i : Nat) : Int) < (((a).length : Nat) : Int)) then (bif (decide ((((a.getD i V0).x).n) = (((b.getD i V0).x).n)) && (decide ((((a.getD i V0).x).d) = (((b.getD i V0).x).d)) && (decide ((((a.getD i V0).y).n) = (((b.getD i V0).y).n)) && (decide ((((a.getD i V0).y).d) = (((b.getD i V0).y).d)) && (decide ((((a.getD i V0).z).n) = (((b.getD i V0).z).n)) && decide ((((a.getD i V0).z).d) = (((b.getD i V0).z).d))))))) then ((bS_ a b k0 (i + 1))) else (.inr (false))) else (.inl i)
def ca_ (a : (List (A3 Rt))) (b : (List (A3 Rt))) : Bool :=
  bif ((((a).length : Nat) : Int) != (((b).length : Nat) : Int)) then (false) else (sm (fun (s : Nat) => let i : Nat := s
  true) (fun r => r) (bS_ a b ((a.length + 1)) 0))
def aI_ (a : W) (b : W) (c : W) (d : W) : (A3 Rt) :=
  (⟨(ar_ a d), (ar_ b d), (ar_ c d)⟩ : (A3 Rt))
def bR_ (a : (List Rt)) (b : (List Rt)) : Nat → Nat → (Nat) ⊕ (Bool)
  | 0, i => .inl i
  | k0 + 1, i => bif decide (((i : Nat) : Int) < (((a).length : Nat) : Int)) then (bif (decide (((a.getD i Rt0).n) = ((b.getD i Rt0).n)) && decide (((a.getD i Rt0).d) = ((b.getD i Rt0).d))) then ((bR_ a b k0 (i + 1))) else (.inr (false))) else (.inl i)
def bw_ (a : (List Rt)) (b : (List Rt)) : Bool :=
  bif ((((a).length : Nat) : Int) != (((b).length : Nat) : Int)) then (false) else (sm (fun (s : Nat) => let i : Nat := s
  true) (fun r => r) (bR_ a b ((a.length + 1)) 0))
def ck_ (l : (List W)) : List W → (List Rt) → List Rt
  | [], out => out
  | x0 :: l0, out => (ck_ l l0 (out ++ [(af_ x0)]))
def cl_ (l : (List W)) : (List Rt) :=
  ap (fun (s : List Rt) => let out : List Rt := s
  out) (ck_ l l ([] : List Rt))
def cn_  : Bool :=
  let q0 : (List (A3 Rt)) := (an_ (⟨(wl 0), (wl 0), (wl 1)⟩ : (A3 W)) (wl 500)).1
  let q1 : W := (an_ (⟨(wl 0), (wl 0), (wl 1)⟩ : (A3 W)) (wl 500)).2
  let q2 : (List (A3 Rt)) := (an_ (⟨(wl 0), (wl 0), (wl 0)⟩ : (A3 W)) (wl 500)).1
  let q3 : W := (an_ (⟨(wl 0), (wl 0), (wl 0)⟩ : (A3 W)) (wl 500)).2
  let q4 : (List (A3 Rt)) := (an_ (⟨(wl 0), (wl 0), (wl 1)⟩ : (A3 W)) (wl 4001)).1
  let q5 : W := (an_ (⟨(wl 0), (wl 0), (wl 1)⟩ : (A3 W)) (wl 4001)).2
  let q6 : (A3 Rt) := (aI_ (wl 1) (wl 0) (wl 2) (wl 2))
  let q7 : (A3 Rt) := (aI_ (wl (-1)) (wl 0) (wl 2) (wl 2))
  let q8 : (A3 Rt) := (aI_ (wl 0) (wl 1) (wl 2) (wl 2))
  let q9 : (A3 Rt) := (aI_ (wl 0) (wl (-1)) (wl 2) (wl 2))
  let q10 : Bool := (ca_ q0 [q6, q7, q8, q9])
  let q11 : (A3 Rt) := (aI_ (wl 1) (wl 0) (wl 2) (wl 1))
  let q12 : (A3 Rt) := (aI_ (wl 3) (wl 4) (wl 10) (wl 5))
  let q13 : (A3 Rt) := (aI_ (wl 1) (wl 1) (wl 2) (wl 1))
  let q14 : Bool := (a4_ (⟨(wl 0), (wl 0), (wl 1)⟩ : (A3 W)) (wl 500) q11)
  let q15 : Bool := (bn_ (⟨(wl 0), (wl 0), (wl 1)⟩ : (A3 W)) (wl 500) q11)
  let q16 : Bool := (a4_ (⟨(wl 0), (wl 0), (wl 1)⟩ : (A3 W)) (wl 500) q12)
  let q17 : Bool := (bn_ (⟨(wl 0), (wl 0), (wl 1)⟩ : (A3 W)) (wl 500) q12)
  let q18 : Bool := (a4_ (⟨(wl 0), (wl 0), (wl 1)⟩ : (A3 W)) (wl 500) q13)
  let q19 : Bool := (bn_ (⟨(wl 0), (wl 0), (wl 1)⟩ : (A3 W)) (wl 500) q13)
  let q20 : (A3 Rt) := (aI_ (wl 1) (wl 0) (wl 4) (wl 1))
  let q21 : (List Rt) := (aD_ (⟨(wl 0), (wl 0), (wl 1)⟩ : (A3 W)) (wl 500) q20).1
  let q22 : Bool := (aD_ (⟨(wl 0), (wl 0), (wl 1)⟩ : (A3 W)) (wl 500) q20).2
  let q23 : (A3 Rt) := (aI_ (wl 0) (wl (-1)) (wl 2) (wl 1))
  let q24 : (List Rt) := (aD_ (⟨(wl 0), (wl 0), (wl 1)⟩ : (A3 W)) (wl 500) q23).1
  let q25 : Bool := (aD_ (⟨(wl 0), (wl 0), (wl 1)⟩ : (A3 W)) (wl 500) q23).2
  let q26 : (A3 Rt) := (aI_ (wl 0) (wl 0) (wl (-1)) (wl 1))
  let q27 : (List Rt) := (aD_ (⟨(wl 0), (wl 0), (wl 1)⟩ : (A3 W)) (wl 500) q26).1
  let q28 : Bool := (aD_ (⟨(wl 0), (wl 0), (wl 1)⟩ : (A3 W)) (wl 500) q26).2
  let q29 : (List Rt) := (cl_ [(wl 3), (wl 1), (wl 0), (wl 0)])
  let q30 : Bool := (bw_ q21 q29)
  let q31 : (List Rt) := (cl_ [(wl 0), (wl 0), (wl 0), (wl 2)])
  let q32 : Bool := (bw_ q24 q31)
  let q33 : (A3 Rt) := (cA_ q0 q21)
  (((q1.1 == 0) && ((q3.1 == 1) && ((q5.1 == 1) && q10))) && ((q14 && (q15 && (q16 && (!q17 && (!q18 && (!q19)))))) && (q22 && (q25 && (!q28 && (q30 && (q32 && (decide (q33.x.n = q20.x.n) && (decide (q33.x.d = q20.x.d) && (decide (q33.y.n = q20.y.n) && (decide (q33.y.d = q20.y.d) && (decide (q33.z.n = q20.z.n) && decide (q33.z.d = q20.z.d)))))))))))))
end Go.Num

