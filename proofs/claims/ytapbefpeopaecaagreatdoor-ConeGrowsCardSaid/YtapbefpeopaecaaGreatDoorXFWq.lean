/- What these functions compute, as plain functions. No program stands in it. Walks: what these functions return. -/
import Derived.Test.YtapbefpeopaecaaGreatDoorXGE
set_option linter.unusedVariables false
set_option linter.unusedSimpArgs false
namespace Go.Num
open Go Go.Kn
def cG_ (a : I) : Nat → I → (I) ⊕ (I)
  | 0, mb11 => .inl mb11
  | k0 + 1, mb11 => bif decide (0 ≤ (Z.cmpW (Z.half (Z.add mb11.dec (Z.quo a.dec mb11.dec))) mb11.dec).1) then (.inr (mb11)) else ((cG_ a k0 (E (Z.half (Z.add mb11.dec (Z.quo a.dec mb11.dec))))))
def cl_ (a : I) : I :=
  bif (!(ch_ [a]) || a.1.neg) then ((E Z.bad)) else (bif ((Z.signW a.dec).1 == 0) then (a) else (sm (fun (s : I) => let mb11 : I := s
  I0) (fun r => r) (cG_ a ((Z.nat (E (Z.shl (Z.of 1) (W.quo (W.add (Z.bitsW a.dec) (wl 1)) (wl 2)).1)).dec + 1)) (E (Z.shl (Z.of 1) (W.quo (W.add (Z.bitsW a.dec) (wl 1)) (wl 2)).1)))))
end Go.Num

set_option linter.unusedVariables false
set_option linter.unusedSimpArgs false
namespace Go.Num
open Go Go.Kn
def ax_ (a : Rt) : W :=
  bif (aK_ a) then ((Z.signW a.n.dec)) else ((wl 0))
def ct_ (a : Rt) : Rt :=
  bif decide ((ax_ a).1 < 0) then ((bE_ a)) else ((bE_ (bE_ a)))
def ab_ (a : Rt) (b : Rt) : Rt :=
  bif (aK_ b) then (let r5 : Rt := (at_ a (ai_ b.d b.n))
  r5) else (dO_)
def aM_ (a : Rt) : W :=
  bif (ae_ a) then ((Z.signW a.n.dec)) else ((wl 0))
def bJ_ (a : Rt) : Rt :=
  bif (ae_ a) then ((⟨(E (Z.abs a.n.dec)), a.d⟩ : Rt)) else (a7_)
def bK_ (a : Rt) (b : Rt) : Rt :=
  bif (ae_ b) then (let r5 : Rt := (aA_ a (ak_ b.d b.n))
  r5) else (a7_)
end Go.Num

set_option linter.unusedVariables false
set_option linter.unusedSimpArgs false
namespace Go.Num
open Go Go.Kn
def bF_ (a : (A3 W)) (b : W) : Bool :=
  bif (decide (536870912 ≤ a.x.1) || decide (a.x.1 ≤ (-536870912))) then (false) else (bif (decide (536870912 ≤ a.y.1) || decide (a.y.1 ≤ (-536870912))) then (false) else (bif (decide (536870912 ≤ a.z.1) || decide (a.z.1 ≤ (-536870912))) then (false) else ((!(decide (a.x.1 = 0) && (decide (a.y.1 = 0) && decide (a.z.1 = 0))) && (decide (0 ≤ b.1) && decide (b.1 ≤ 4000))))))
def bD_ (a : (A3 W)) (b : W) : (A2 (A3 W)) × (A2 Rt) :=
  let r5 : I := (E (Z.mul (Z.of 1000000) (aU_ ((ag_ a).1) ((ag_ a).1)).dec))
  let r6 : I := (E (Z.quo (Z.shl (Z.mul (Z.of (W.mul b b).1) (aU_ a a).dec) 16) r5.dec))
  let r8 : Rt := (ai_ (cl_ r6) (E (Z.of 256)))
  let r9 : I := (E (Z.mul (Z.of 1000000) (aU_ ((ag_ a).2) ((ag_ a).2)).dec))
  let r10 : I := (E (Z.quo (Z.shl (Z.mul (Z.of (W.mul b b).1) (aU_ a a).dec) 16) r9.dec))
  let r12 : Rt := (ai_ (cl_ r10) (E (Z.of 256)))
  ((⟨((ag_ a).1), ((ag_ a).2)⟩ : (A2 (A3 W))), (⟨r8, r12⟩ : (A2 Rt)))
def bc_ (a : (A3 W)) (b : W) : (List (A3 Rt)) × W :=
  bif (bF_ a b) then (let r3 : (A3 Rt) := (bL_ a)
  bif (b.1 == 0) then (([r3], (wl 0))) else (let r7 : (A2 (A3 W)) := (bD_ a b).1
  let r8 : (A2 Rt) := (bD_ a b).2
  let r11 : (A3 Rt) := (bL_ r7.x)
  let r12 : (A3 Rt) := (b2_ r8.x r11)
  let r14 : (A3 Rt) := (ci_ r3 r12)
  let r15 : (A3 Rt) := (cs_ r3 r12)
  let r21 : (A3 Rt) := (bL_ r7.y)
  let r22 : (A3 Rt) := (b2_ r8.y r21)
  let r24 : (A3 Rt) := (ci_ r3 r22)
  let r25 : (A3 Rt) := (cs_ r3 r22)
  (((([] : List (A3 Rt)) ++ [r14, r15]) ++ [r24, r25]), (wl 0)))) else ((([] : List (A3 Rt)), (wl 1)))
def dG_ (a : (A3 Rt)) : Rt :=
  (cq_ a a)
def bv_ (a : (A3 W)) (b : W) (c : (A3 Rt)) : Bool :=
  bif (!(bF_ a b) || decide ((ax_ (a5_ a c)).1 < 0)) then (false) else (let r8 : (A3 Rt) := (bL_ a)
  let r9 : (A3 Rt) := (cr_ c r8)
  let r10 : Rt := (at_ (aa_ (wl 1000000)) (dG_ r9))
  let r12 : Rt := (at_ (a5_ a c) (a5_ a c))
  let r13 : Rt := (at_ (aa_ (W.mul b b)) r12)
  (decide ((b0_ r10 r13).1 ≤ 0)))
def aj_ (a : (A3 W)) (f : (A3 Rt)) : Rt :=
  let r3 : Rt := (ai_ (aU_ a a) (E (Z.of 1)))
  (ab_ (a5_ a f) r3)
def ay_ (a : (A3 W)) (b : W) (c : (A3 Rt)) : (List Rt) × Bool :=
  bif (bF_ a b) then (let r6 : (A2 (A3 W)) := (bD_ a b).1
  let r7 : (A2 Rt) := (bD_ a b).2
  bif ((ax_ (aj_ r6.x c)).1 != 0) then (bif ((ax_ r7.x).1 == 0) then ((([] : List Rt), false)) else (let r14 : Rt := (ct_ (aj_ r6.x c))
  let r15 : Rt := (ad_ (aj_ a c) (ab_ r14 r7.x))
  bif decide (0 ≤ (ax_ (aj_ r6.x c)).1) then (bif ((ax_ (aj_ r6.y c)).1 != 0) then (bif ((ax_ r7.y).1 == 0) then ((([] : List Rt), false)) else (let r26 : Rt := (ct_ (aj_ r6.y c))
  bif decide (0 ≤ (ax_ (aj_ r6.y c)).1) then (bif decide ((ax_ (ad_ r15 (ab_ r26 r7.y))).1 < 0) then ((([] : List Rt), false)) else (bif (b.1 == 0) then (([(ad_ r15 (ab_ r26 r7.y))], true)) else (let r36 : Rt := (ab_ (ad_ r15 (ab_ r26 r7.y)) (aa_ (wl 2)))
  let r38 : Rt := (ar_ (((([] : List Rt) ++ [(ab_ r14 r7.x), (aa_ (wl 0))]) ++ [(ab_ r26 r7.y), (aa_ (wl 0))]).getD 0 Rt0) r36)
  let r39 : Rt := (ar_ (((([] : List Rt) ++ [(ab_ r14 r7.x), (aa_ (wl 0))]) ++ [(ab_ r26 r7.y), (aa_ (wl 0))]).getD 1 Rt0) r36)
  (((((([] : List Rt) ++ [(ab_ r14 r7.x), (aa_ (wl 0))]) ++ [(ab_ r26 r7.y), (aa_ (wl 0))]).set 0 r38).set 1 r39), true)))) else (bif decide ((ax_ (ad_ r15 (ab_ r26 r7.y))).1 < 0) then ((([] : List Rt), false)) else (bif (b.1 == 0) then (([(ad_ r15 (ab_ r26 r7.y))], true)) else (let r52 : Rt := (ab_ (ad_ r15 (ab_ r26 r7.y)) (aa_ (wl 2)))
  let r54 : Rt := (ar_ (((([] : List Rt) ++ [(ab_ r14 r7.x), (aa_ (wl 0))]) ++ [(aa_ (wl 0)), (ab_ r26 r7.y)]).getD 0 Rt0) r52)
  let r55 : Rt := (ar_ (((([] : List Rt) ++ [(ab_ r14 r7.x), (aa_ (wl 0))]) ++ [(aa_ (wl 0)), (ab_ r26 r7.y)]).getD 1 Rt0) r52)
  (((((([] : List Rt) ++ [(ab_ r14 r7.x), (aa_ (wl 0))]) ++ [(aa_ (wl 0)), (ab_ r26 r7.y)]).set 0 r54).set 1 r55), true)))))) else (bif decide ((ax_ (ad_ r15 (aa_ (wl 0)))).1 < 0) then ((([] : List Rt), false)) else (bif (b.1 == 0) then (([(ad_ r15 (aa_ (wl 0)))], true)) else (let r68 : Rt := (ab_ (ad_ r15 (aa_ (wl 0))) (aa_ (wl 2)))
  let r70 : Rt := (ar_ (((([] : List Rt) ++ [(ab_ r14 r7.x), (aa_ (wl 0))]) ++ [(aa_ (wl 0)), (aa_ (wl 0))]).getD 0 Rt0) r68)
  let r71 : Rt := (ar_ (((([] : List Rt) ++ [(ab_ r14 r7.x), (aa_ (wl 0))]) ++ [(aa_ (wl 0)), (aa_ (wl 0))]).getD 1 Rt0) r68)
  (((((([] : List Rt) ++ [(ab_ r14 r7.x), (aa_ (wl 0))]) ++ [(aa_ (wl 0)), (aa_ (wl 0))]).set 0 r70).set 1 r71), true))))) else (bif ((ax_ (aj_ r6.y c)).1 != 0) then (bif ((ax_ r7.y).1 == 0) then ((([] : List Rt), false)) else (let r85 : Rt := (ct_ (aj_ r6.y c))
  bif decide (0 ≤ (ax_ (aj_ r6.y c)).1) then (bif decide ((ax_ (ad_ r15 (ab_ r85 r7.y))).1 < 0) then ((([] : List Rt), false)) else (bif (b.1 == 0) then (([(ad_ r15 (ab_ r85 r7.y))], true)) else (let r95 : Rt := (ab_ (ad_ r15 (ab_ r85 r7.y)) (aa_ (wl 2)))
  let r97 : Rt := (ar_ (((([] : List Rt) ++ [(aa_ (wl 0)), (ab_ r14 r7.x)]) ++ [(ab_ r85 r7.y), (aa_ (wl 0))]).getD 0 Rt0) r95)
  let r98 : Rt := (ar_ (((([] : List Rt) ++ [(aa_ (wl 0)), (ab_ r14 r7.x)]) ++ [(ab_ r85 r7.y), (aa_ (wl 0))]).getD 1 Rt0) r95)
  (((((([] : List Rt) ++ [(aa_ (wl 0)), (ab_ r14 r7.x)]) ++ [(ab_ r85 r7.y), (aa_ (wl 0))]).set 0 r97).set 1 r98), true)))) else (bif decide ((ax_ (ad_ r15 (ab_ r85 r7.y))).1 < 0) then ((([] : List Rt), false)) else (bif (b.1 == 0) then (([(ad_ r15 (ab_ r85 r7.y))], true)) else (let r111 : Rt := (ab_ (ad_ r15 (ab_ r85 r7.y)) (aa_ (wl 2)))
  let r113 : Rt := (ar_ (((([] : List Rt) ++ [(aa_ (wl 0)), (ab_ r14 r7.x)]) ++ [(aa_ (wl 0)), (ab_ r85 r7.y)]).getD 0 Rt0) r111)
  let r114 : Rt := (ar_ (((([] : List Rt) ++ [(aa_ (wl 0)), (ab_ r14 r7.x)]) ++ [(aa_ (wl 0)), (ab_ r85 r7.y)]).getD 1 Rt0) r111)
  (((((([] : List Rt) ++ [(aa_ (wl 0)), (ab_ r14 r7.x)]) ++ [(aa_ (wl 0)), (ab_ r85 r7.y)]).set 0 r113).set 1 r114), true)))))) else (bif decide ((ax_ (ad_ r15 (aa_ (wl 0)))).1 < 0) then ((([] : List Rt), false)) else (bif (b.1 == 0) then (([(ad_ r15 (aa_ (wl 0)))], true)) else (let r127 : Rt := (ab_ (ad_ r15 (aa_ (wl 0))) (aa_ (wl 2)))
  let r129 : Rt := (ar_ (((([] : List Rt) ++ [(aa_ (wl 0)), (ab_ r14 r7.x)]) ++ [(aa_ (wl 0)), (aa_ (wl 0))]).getD 0 Rt0) r127)
  let r130 : Rt := (ar_ (((([] : List Rt) ++ [(aa_ (wl 0)), (ab_ r14 r7.x)]) ++ [(aa_ (wl 0)), (aa_ (wl 0))]).getD 1 Rt0) r127)
  (((((([] : List Rt) ++ [(aa_ (wl 0)), (ab_ r14 r7.x)]) ++ [(aa_ (wl 0)), (aa_ (wl 0))]).set 0 r129).set 1 r130), true))))))) else (let r135 : Rt := (ad_ (aj_ a c) (aa_ (wl 0)))
  bif ((ax_ (aj_ r6.y c)).1 != 0) then (bif ((ax_ r7.y).1 == 0) then ((([] : List Rt), false)) else (let r145 : Rt := (ct_ (aj_ r6.y c))
  bif decide (0 ≤ (ax_ (aj_ r6.y c)).1) then (bif decide ((ax_ (ad_ r135 (ab_ r145 r7.y))).1 < 0) then ((([] : List Rt), false)) else (bif (b.1 == 0) then (([(ad_ r135 (ab_ r145 r7.y))], true)) else (let r155 : Rt := (ab_ (ad_ r135 (ab_ r145 r7.y)) (aa_ (wl 2)))
  let r157 : Rt := (ar_ (((([] : List Rt) ++ [(aa_ (wl 0)), (aa_ (wl 0))]) ++ [(ab_ r145 r7.y), (aa_ (wl 0))]).getD 0 Rt0) r155)
  let r158 : Rt := (ar_ (((([] : List Rt) ++ [(aa_ (wl 0)), (aa_ (wl 0))]) ++ [(ab_ r145 r7.y), (aa_ (wl 0))]).getD 1 Rt0) r155)
  (((((([] : List Rt) ++ [(aa_ (wl 0)), (aa_ (wl 0))]) ++ [(ab_ r145 r7.y), (aa_ (wl 0))]).set 0 r157).set 1 r158), true)))) else (bif decide ((ax_ (ad_ r135 (ab_ r145 r7.y))).1 < 0) then ((([] : List Rt), false)) else (bif (b.1 == 0) then (([(ad_ r135 (ab_ r145 r7.y))], true)) else (let r171 : Rt := (ab_ (ad_ r135 (ab_ r145 r7.y)) (aa_ (wl 2)))
  let r173 : Rt := (ar_ (((([] : List Rt) ++ [(aa_ (wl 0)), (aa_ (wl 0))]) ++ [(aa_ (wl 0)), (ab_ r145 r7.y)]).getD 0 Rt0) r171)
  let r174 : Rt := (ar_ (((([] : List Rt) ++ [(aa_ (wl 0)), (aa_ (wl 0))]) ++ [(aa_ (wl 0)), (ab_ r145 r7.y)]).getD 1 Rt0) r171)
  (((((([] : List Rt) ++ [(aa_ (wl 0)), (aa_ (wl 0))]) ++ [(aa_ (wl 0)), (ab_ r145 r7.y)]).set 0 r173).set 1 r174), true)))))) else (bif decide ((ax_ (ad_ r135 (aa_ (wl 0)))).1 < 0) then ((([] : List Rt), false)) else (bif (b.1 == 0) then (([(ad_ r135 (aa_ (wl 0)))], true)) else (let r187 : Rt := (ab_ (ad_ r135 (aa_ (wl 0))) (aa_ (wl 2)))
  let r189 : Rt := (ar_ (((([] : List Rt) ++ [(aa_ (wl 0)), (aa_ (wl 0))]) ++ [(aa_ (wl 0)), (aa_ (wl 0))]).getD 0 Rt0) r187)
  let r190 : Rt := (ar_ (((([] : List Rt) ++ [(aa_ (wl 0)), (aa_ (wl 0))]) ++ [(aa_ (wl 0)), (aa_ (wl 0))]).getD 1 Rt0) r187)
  (((((([] : List Rt) ++ [(aa_ (wl 0)), (aa_ (wl 0))]) ++ [(aa_ (wl 0)), (aa_ (wl 0))]).set 0 r189).set 1 r190), true)))))) else ((([] : List Rt), false))
def b5_ (a : (A3 W)) (b : W) (c : (A3 Rt)) : Bool :=
  ((ay_ a b c).2)
def cK_ (l : (List (A3 Rt))) (k : (List Rt)) (r2 : (A3 Rt)) : Nat → Nat → (A3 Rt) → Nat × (A3 Rt)
  | 0, i, mb3 => (i, mb3)
  | k0 + 1, i, mb3 => bif decide (((i : Nat) : Int) < (((min ((l).length) ((k).length)) : Nat) : Int)) then (let r9 : (A3 Rt) := (b2_ (k.getD i Rt0) (l.getD i V0))
  let r10 : (A3 Rt) := (ci_ mb3 r9)
  (cK_ l k r2 k0 (i + 1) r10)) else ((i, mb3))
def cp_ (l : (List (A3 Rt))) (k : (List Rt)) : (A3 Rt) :=
  let r2 : (A3 Rt) := (bL_ (⟨(wl 0), (wl 0), (wl 0)⟩ : (A3 W)))
  ap (fun (s : Nat × (A3 Rt)) => let i : Nat := s.1
  let mb3 : (A3 Rt) := s.2
  mb3) (cK_ l k r2 ((min l.length k.length + 1)) 0 r2)
def as_ (a : (A3 W)) (b : W) : Bool :=
  bif (decide (536870912 ≤ a.x.1) || decide (a.x.1 ≤ (-536870912))) then (false) else (bif (decide (536870912 ≤ a.y.1) || decide (a.y.1 ≤ (-536870912))) then (false) else (bif (decide (536870912 ≤ a.z.1) || decide (a.z.1 ≤ (-536870912))) then (false) else ((!(decide (a.x.1 = 0) && (decide (a.y.1 = 0) && decide (a.z.1 = 0))) && (decide (0 ≤ b.1) && decide (b.1 ≤ 4000))))))
def a1_ (a : (A3 Rt)) : Bool :=
  bif (!(ae_ a.x) || (decide (48 < (Z.bitsW a.x.n.dec).1) || decide (17 < (Z.bitsW a.x.d.dec).1))) then (false) else (bif (!(ae_ a.y) || (decide (48 < (Z.bitsW a.y.n.dec).1) || decide (17 < (Z.bitsW a.y.d.dec).1))) then (false) else (bif (!(ae_ a.z) || (decide (48 < (Z.bitsW a.z.n.dec).1) || decide (17 < (Z.bitsW a.z.d.dec).1))) then (false) else (true)))
def aZ_ (a : (A3 W)) (b : W) (c : (A3 W)) : Rt :=
  let r5 : I := (E (Z.mul (Z.mul (Z.of (W.mul b b).1) (cO_ a a).dec) (Z.of 65536)))
  let r7 : I := (E (Z.sqrt (Z.quo r5.dec (Z.mul (Z.of 1000000) (cO_ c c).dec))))
  let r8 : Rt := (ak_ r7 (E (Z.of 256)))
  r8
def bB_ (a : (A3 W)) (b : W) (c : (A3 Rt)) : Bool :=
  bif (!(as_ a b) || decide ((aM_ (cv_ a c)).1 < 0)) then (false) else (let r8 : (A3 Rt) := (bW_ a)
  let r9 : (A3 Rt) := (cn_ c r8)
  let r11 : Rt := (aA_ (ap_ (wl 1000000)) (bt_ r9 r9))
  let r13 : Rt := (aA_ (cv_ a c) (cv_ a c))
  let r14 : Rt := (aA_ (ap_ (W.mul b b)) r13)
  (decide ((cB_ r11 r14).1 ≤ 0)))
def aL_ (a : (A3 W)) (b : (A3 Rt)) : Rt :=
  let r4 : Rt := (c0_ (cO_ a a))
  let r5 : Rt := (bK_ (cv_ a b) r4)
  r5
def bI_ (a : Rt) (b : Rt) : Rt × Bool :=
  bif ((aM_ a).1 == 0) then (((ap_ (wl 0)), true)) else (bif ((aM_ b).1 == 0) then (((ap_ (wl 0)), false)) else (let r6 : Rt := (bK_ (bJ_ a) b)
  (r6, true)))
def bj_ (a : (A3 W)) (b : W) (c : (A3 Rt)) : Pts :=
  bif (as_ a b) then (let r5 : (A3 W) := (aS_ a).1
  let r6 : (A3 W) := (aS_ a).2
  let r11 : Rt := (bI_ (aL_ r5 c) (aZ_ a b r5)).1
  let r13 : Rt := (bI_ (aL_ r6 c) (aZ_ a b r6)).1
  let r15 : Rt := (bn_ (aL_ a c) r11)
  bif (!((bI_ (aL_ r5 c) (aZ_ a b r5)).2) || (!((bI_ (aL_ r6 c) (aZ_ a b r6)).2) || decide ((aM_ (bn_ r15 r13)).1 < 0))) then ((⟨([] : List Rt), false⟩ : Pts)) else (bif (b.1 == 0) then ((⟨[(bn_ r15 r13)], true⟩ : Pts)) else (let r25 : Rt := (al_ (wl 1) (wl 2))
  let r26 : Rt := (aA_ (bn_ r15 r13) r25)
  bif decide ((aM_ (aL_ r5 c)).1 < 0) then (bif decide ((aM_ (aL_ r6 c)).1 < 0) then ((⟨[r26, (aX_ r11 r26), (ap_ (wl 0)), r13], true⟩ : Pts)) else ((⟨[r26, (aX_ r11 r26), r13, (ap_ (wl 0))], true⟩ : Pts))) else (bif decide ((aM_ (aL_ r6 c)).1 < 0) then ((⟨[(aX_ r11 r26), r26, (ap_ (wl 0)), r13], true⟩ : Pts)) else ((⟨[(aX_ r11 r26), r26, r13, (ap_ (wl 0))], true⟩ : Pts)))))) else ((⟨([] : List Rt), false⟩ : Pts))
def bG_ (a : (List (A3 Rt))) (b : (List (A3 Rt))) : Nat → Nat → (Nat) ⊕ (Bool)
  | 0, i => .inl i
  | k0 + 1, i => bif decide (((i : Nat) : Int) < (((a).length : Nat) : Int)) then (bif (decide ((((a.getD i V0).x).n) = (((b.getD i V0).x).n)) && (decide ((((a.getD i V0).x).d) = (((b.getD i V0).x).d)) && (decide ((((a.getD i V0).y).n) = (((b.getD i V0).y).n)) && (decide ((((a.getD i V0).y).d) = (((b.getD i V0).y).d)) && (decide ((((a.getD i V0).z).n) = (((b.getD i V0).z).n)) && decide ((((a.getD i V0).z).d) = (((b.getD i V0).z).d))))))) then ((bG_ a b k0 (i + 1))) else (.inr (false))) else (.inl i)
def bY_ (a : (List (A3 Rt))) (b : (List (A3 Rt))) : Bool :=
  bif ((((a).length : Nat) : Int) != (((b).length : Nat) : Int)) then (false) else (sm (fun (s : Nat) => let i : Nat := s
  true) (fun r => r) (bG_ a b ((a.length + 1)) 0))
def aD_ (a : W) (b : W) (c : W) (d : W) : (A3 Rt) :=
  (⟨(al_ a d), (al_ b d), (al_ c d)⟩ : (A3 Rt))
def bH_ (a : (List Rt)) (b : (List Rt)) : Nat → Nat → (Nat) ⊕ (Bool)
  | 0, i => .inl i
  | k0 + 1, i => bif decide (((i : Nat) : Int) < (((a).length : Nat) : Int)) then (bif (decide (((a.getD i Rt0).n) = ((b.getD i Rt0).n)) && decide (((a.getD i Rt0).d) = ((b.getD i Rt0).d))) then ((bH_ a b k0 (i + 1))) else (.inr (false))) else (.inl i)
def bp_ (a : (List Rt)) (b : (List Rt)) : Bool :=
  bif ((((a).length : Nat) : Int) != (((b).length : Nat) : Int)) then (false) else (sm (fun (s : Nat) => let i : Nat := s
  true) (fun r => r) (bH_ a b ((a.length + 1)) 0))
def b8_ (l : (List W)) : List W → (List Rt) → List Rt
  | [], out => out
  | x0 :: l0, out => (b8_ l l0 (out ++ [(ap_ x0)]))
def ca_ (l : (List W)) : (List Rt) :=
  ap (fun (s : List Rt) => let out : List Rt := s
  out) (b8_ l l ([] : List Rt))
def ce_  : Bool :=
  let q0 : (List (A3 Rt)) := (bc_ (⟨(wl 0), (wl 0), (wl 1)⟩ : (A3 W)) (wl 500)).1
  let q1 : W := (bc_ (⟨(wl 0), (wl 0), (wl 1)⟩ : (A3 W)) (wl 500)).2
  let q2 : (List (A3 Rt)) := (bc_ (⟨(wl 0), (wl 0), (wl 0)⟩ : (A3 W)) (wl 500)).1
  let q3 : W := (bc_ (⟨(wl 0), (wl 0), (wl 0)⟩ : (A3 W)) (wl 500)).2
  let q4 : (List (A3 Rt)) := (bc_ (⟨(wl 0), (wl 0), (wl 1)⟩ : (A3 W)) (wl 4001)).1
  let q5 : W := (bc_ (⟨(wl 0), (wl 0), (wl 1)⟩ : (A3 W)) (wl 4001)).2
  let q6 : (A3 Rt) := (aD_ (wl 1) (wl 0) (wl 2) (wl 2))
  let q7 : (A3 Rt) := (aD_ (wl (-1)) (wl 0) (wl 2) (wl 2))
  let q8 : (A3 Rt) := (aD_ (wl 0) (wl 1) (wl 2) (wl 2))
  let q9 : (A3 Rt) := (aD_ (wl 0) (wl (-1)) (wl 2) (wl 2))
  let q10 : Bool := (bY_ q0 [q6, q7, q8, q9])
  let q11 : (A3 Rt) := (aD_ (wl 1) (wl 0) (wl 2) (wl 1))
  let q12 : (A3 Rt) := (aD_ (wl 3) (wl 4) (wl 10) (wl 5))
  let q13 : (A3 Rt) := (aD_ (wl 1) (wl 1) (wl 2) (wl 1))
  let q14 : Bool := (bv_ (⟨(wl 0), (wl 0), (wl 1)⟩ : (A3 W)) (wl 500) q11)
  let q15 : Bool := (b5_ (⟨(wl 0), (wl 0), (wl 1)⟩ : (A3 W)) (wl 500) q11)
  let q16 : Bool := (bv_ (⟨(wl 0), (wl 0), (wl 1)⟩ : (A3 W)) (wl 500) q12)
  let q17 : Bool := (b5_ (⟨(wl 0), (wl 0), (wl 1)⟩ : (A3 W)) (wl 500) q12)
  let q18 : Bool := (bv_ (⟨(wl 0), (wl 0), (wl 1)⟩ : (A3 W)) (wl 500) q13)
  let q19 : Bool := (b5_ (⟨(wl 0), (wl 0), (wl 1)⟩ : (A3 W)) (wl 500) q13)
  let q20 : (A3 Rt) := (aD_ (wl 1) (wl 0) (wl 4) (wl 1))
  let q21 : (List Rt) := (ay_ (⟨(wl 0), (wl 0), (wl 1)⟩ : (A3 W)) (wl 500) q20).1
  let q22 : Bool := (ay_ (⟨(wl 0), (wl 0), (wl 1)⟩ : (A3 W)) (wl 500) q20).2
  let q23 : (A3 Rt) := (aD_ (wl 0) (wl (-1)) (wl 2) (wl 1))
  let q24 : (List Rt) := (ay_ (⟨(wl 0), (wl 0), (wl 1)⟩ : (A3 W)) (wl 500) q23).1
  let q25 : Bool := (ay_ (⟨(wl 0), (wl 0), (wl 1)⟩ : (A3 W)) (wl 500) q23).2
  let q26 : (A3 Rt) := (aD_ (wl 0) (wl 0) (wl (-1)) (wl 1))
  let q27 : (List Rt) := (ay_ (⟨(wl 0), (wl 0), (wl 1)⟩ : (A3 W)) (wl 500) q26).1
  let q28 : Bool := (ay_ (⟨(wl 0), (wl 0), (wl 1)⟩ : (A3 W)) (wl 500) q26).2
  let q29 : (List Rt) := (ca_ [(wl 3), (wl 1), (wl 0), (wl 0)])
  let q30 : Bool := (bp_ q21 q29)
  let q31 : (List Rt) := (ca_ [(wl 0), (wl 0), (wl 0), (wl 2)])
  let q32 : Bool := (bp_ q24 q31)
  let q33 : (A3 Rt) := (cp_ q0 q21)
  (((q1.1 == 0) && ((q3.1 == 1) && ((q5.1 == 1) && q10))) && ((q14 && (q15 && (q16 && (!q17 && (!q18 && (!q19)))))) && (q22 && (q25 && (!q28 && (q30 && (q32 && (decide (q33.x.n = q20.x.n) && (decide (q33.x.d = q20.x.d) && (decide (q33.y.n = q20.y.n) && (decide (q33.y.d = q20.y.d) && (decide (q33.z.n = q20.z.n) && decide (q33.z.d = q20.z.d)))))))))))))
end Go.Num

namespace Go.Proofs.YtapbefpeopaecaaGreatDoor
open Go.Kn Go.Num
set_option linter.unusedVariables false
set_option linter.unusedSimpArgs false
set_option maxRecDepth 20000
set_option maxHeartbeats 8000000
theorem bg_ (va : Value) (l : List Nat) (k : Nat) (w : World) (hva : Sl w va l) :
    Calls Tryz.prog 132 [va, .int .i64 (k : Int)].toArray w (fun e w' => e = .returned (.int .i64 ((l.getD k 0 : Nat) : Int)) ∧ Ext w w') := by
 refine cI_ (N := 13) Tryz.func132 rfl rfl (by simp) ?_
 obtain ⟨w0, rfl⟩ : ∃ w0, w0 = w := ⟨_, rfl⟩
 simp only [initF, Nat.reduceAdd]
 refine Sq fun K1 J1 => Rk fun K J => sE rfl (nl J (J1 _ _ (Sq fun K2 J2 => Sq fun K3 J3 => Rk fun K J => sE rfl (sE rfl (sQ (dB_ sl_81 rfl hva.old) rfl (sE rfl (nl J (J3 _ _ ?_))))))))
 refine aN_ _ rfl (fun hk => ?_) (fun hk => ?_)
 ·(try simp only [decide_eq_true_eq, decide_eq_false_iff_not, beq_iff_eq, bne_iff_ne, beq_eq_false_iff_ne, bne_eq_false_iff_eq, Bool.not_eq_true', Bool.not_eq_false'] at hk)
  refine Sq fun K4 J4 => Rk fun K J => sE rfl (sE rfl (sQ (gr_ sl_81 rfl rfl hva.old (by omega)) rfl (sQ (e5_ ty_3 rfl hva.old (by omega)) rfl (sE rfl (nl J (J4 _ _ (W_ret (af_ (ret1 rfl (.inr rfl) rfl ?_)))))))))
  exact rfl
 ·(try simp only [decide_eq_true_eq, decide_eq_false_iff_not, beq_iff_eq, bne_iff_ne, beq_eq_false_iff_ne, bne_eq_false_iff_eq, Bool.not_eq_true', Bool.not_eq_false'] at hk)
  refine ah_ (J2 _ _ (Sq fun K5 J5 => Rk fun K J => sE rfl (nl J (J5 _ _ (W_ret (ret1 rfl (.inr rfl) rfl ?_))))))
  exact congrArg (fun n : Nat => Value.int .i64 (n : Int)) (show 0 = l.getD k 0 by simp [List.getD, List.getElem?_eq_none (show l.length ≤ k by omega)])

theorem bR_ (va : Value) (l : List Nat) (hD : DL l) (hn : l.length ≤ 1000) (w : World) (hva : Sl w va l) :
    Calls Tryz.prog 130 [va].toArray w (fun e w' => e = .returned (sls va (dl (dv l)).length) ∧ Ext w w') := by
 refine cI_ (N := 21) Tryz.func130 rfl rfl (by simp) ?_
 obtain ⟨w0, rfl⟩ : ∃ w0, w0 = w := ⟨_, rfl⟩
 simp only [initF, Nat.reduceAdd]
 refine Sq fun K1 J1 => Rk fun K J => sE rfl (nl J (J1 _ _ (Sq fun K2 J2 => Rk fun K J => sE rfl (sQ (dB_ sl_81 rfl hva.old) rfl (sE rfl (nl J (J2 _ _ (Sq fun K3 J3 => am_ ?_))))))))
 refine bi_ [3, 6, 7, 8, 9, 10, 11, 12, 13, 14, 15, 16, 17] (fun g nn M => ∃ (k : Nat), (g 3 = .int .i64 (k : Int)) ∧ M = [] ∧ nn = k + 0 ∧ (k ≤ l.length ∧ ∀ j, k ≤ j → l.getD j 0 = 0)) (l.length) ?start ?round
 case start =>
  refine ⟨_, (List.Sublist.refl _), l.length, ?a3, ?mem0, rfl, ⟨Nat.le_refl _, fun j hj => by simp [List.getD, List.getElem?_eq_none (show l.length ≤ j by omega)]⟩⟩
  case mem0 => rfl
  case a3 => rfl
 case round =>
  rintro nn g M ⟨k, hg3, rfl, hmeas, ⟨hk, hhi⟩⟩
  subst nn
  simp only [setG, hg3]
  clear hg3
  refine Sq fun K4 J4 => Sq fun K5 J5 => Rk fun K J => sE rfl (sE rfl (sE rfl ?_))
  cases hz : decide ((0 : Int) < (k : Int))
  ·skip
   refine WL_n rfl (WL_n rfl (WL_n rfl (WL_n rfl (WL_n rfl (WL_n rfl (sE rfl (nl J (J5 _ _ (bh_ rfl (bd_ (aq_ (aq_ (aw_ (J3 _ _ (Sq fun K6 J6 => Rk fun K J => sE rfl (sE rfl (sQ (o9_ sl_81 rfl rfl hva.old (by omega)) rfl (sE rfl (nl J (J6 _ _ ?_))))))))))))))))))))
   refine W_ret (ret1 rfl (.inr rfl) rfl ?_)
   rw [iw_ hD, j7_ hhi (.inl (by have := of_decide_eq_false hz; omega))]
  ·skip
   have hz' := of_decide_eq_true hz
   obtain ⟨m, rfl⟩ : ∃ m, k = m + 1 := ⟨k - 1, by omega⟩
   refine sE rfl (sE rfl (sQ (q_as (q_sub rfl rfl) (congrArg (Value.int .i64) (fR_ (by omega)))) rfl (sQ (gr_ sl_81 rfl rfl hva.old (by omega)) rfl (sQ (e5_ ty_3 rfl hva.old (by omega)) rfl (sE rfl (sE rfl (nl J (J5 _ _ ?_))))))))
   refine aN_ _ rfl (fun h0 => ?_) (fun h0 => ?_)
   ·(try simp only [decide_eq_true_eq, decide_eq_false_iff_not, beq_iff_eq, bne_iff_ne, beq_eq_false_iff_ne, bne_eq_false_iff_eq, Bool.not_eq_true', Bool.not_eq_false'] at h0)
    refine ah_ (J4 _ _ (am_ (Rk fun K J => sE rfl (sQ (q_as (q_sub rfl rfl) (congrArg (Value.int .i64) (fR_ (by omega)))) rfl (sE rfl (nl J ?_))))))
    refine ⟨(by repeat first | exact .refl | refine .cons rfl ?_), _, _, (List.Sublist.refl _), (by omega), m, ?s3, ?mem, rfl, ⟨by omega, fun j hj => by rcases Nat.eq_or_lt_of_le hj with rfl | hj; omega; exact hhi j hj⟩⟩
    case mem => rfl
    case s3 => rfl
   ·(try simp only [decide_eq_true_eq, decide_eq_false_iff_not, beq_iff_eq, bne_iff_ne, beq_eq_false_iff_ne, bne_eq_false_iff_eq, Bool.not_eq_true', Bool.not_eq_false'] at h0)
    refine bd_ (aq_ (aq_ (aw_ (J3 _ _ (Sq fun K7 J7 => Rk fun K J => sE rfl (sE rfl (sQ (o9_ sl_81 rfl rfl hva.old (by omega)) rfl (sE rfl (nl J (J7 _ _ (W_ret (ret1 rfl (.inr rfl) rfl ?_))))))))))))
    rw [iw_ hD, j7_ hhi (.inr (by simp only [Nat.add_sub_cancel]; omega))]

theorem a0_ (a : R) (ha : a.Ok) (w : World)  :
    Calls Tryz.prog 87 [RV a].toArray w (fun e w' => ∃ v, e = .returned v ∧ Ext w w' ∧ Slf w.heap.size w' v (dl (val a.w))) := by
 refine eQ_ (N := 26) Tryz.func87 rfl rfl (by simp) ?_
 obtain ⟨w0, rfl⟩ : ∃ w0, w0 = w := ⟨_, rfl⟩
 simp only [initF, Nat.reduceAdd]
 refine Sq fun K1 J1 => Rk fun K J => WL_r rfl (r_box rfl rfl (fun b1 hb1 => sE rfl (nl J (J1 _ _ (Sq fun K2 J2 => Rk fun K J => sE rfl (nl J (J2 _ _ (Sq fun K3 J3 => Sq fun K4 J4 => Rk fun K J => sE rfl (nl J (J4 _ _ (am_ ?_)))))))))))
 refine bi_ [3, 4, 5, 6, 7, 8, 9, 10, 11, 12, 13, 14, 15, 16, 17, 18, 19, 20, 21, 22, 23] (fun g nn M => ∃ (k : Nat) (v : Value) (l : List Nat) (L : List Blk), (g 3 = v ∧ g 4 = .int .i64 (k : Int)) ∧ M = L ++ [⟨b1, 37, a.cells⟩] ∧ nn = 16 - k ∧ (k ≤ 16 ∧ OwnL w0 3 v l L ∧ DL l ∧ l.length = 2 * k ∧ dv l = val a.w % 4294967296 ^ k)) (16) ?start ?round
 case start =>
  refine ⟨_, (List.Sublist.refl _), 0, _, [], [], ⟨?a3, ?a4⟩, ?mem0, rfl, ⟨Nat.zero_le _, .nil, DL.nil, rfl, by simp [dv, Nat.mod_one]⟩⟩
  case mem0 => rfl
  case a3 => rfl
  case a4 => rfl
 case round =>
  rintro nn g M ⟨k, v, l, L, ⟨hg3, hg4⟩, rfl, hmeas, ⟨hk, hO, hD, hlen, hdv⟩⟩
  subst nn
  simp only [setG, hg3, hg4]
  clear hg3 hg4
  refine Sq fun K5 J5 => Sq fun K6 J6 => Rk fun K J => sE rfl (sE rfl (nl J (J6 _ _ ?_)))
  refine aN_ _ rfl (fun hc => ?_) (fun hc => ?_)
  ·(try simp only [decide_eq_true_eq, decide_eq_false_iff_not, beq_iff_eq, bne_iff_ne, beq_eq_false_iff_ne, bne_eq_false_iff_eq, Bool.not_eq_true', Bool.not_eq_false'] at hc)
   have hc : k < 16 := by omega
   refine ah_ (J5 _ _ (Sq fun K7 J7 => am_ (dr sn [0,4,8,12,16,20,24,28,32,36,40,44,48,53,57,60] [14] mix (by kernel_rfl) (fun K J => pE rfl (pE rfl (pQ rfl (aG_ a9_ (by decide) rfl) (pQ rfl (bk_ ar_35 rfl rfl (by omega) (by omega)) (pQ rfl (aY_ ty_34 rfl (by repeat (first | exact .head _ | apply List.mem_append_right | apply List.Mem.tail)) (dn_ (r := a) (k := k) (by rw [ha.len]; omega))) ?_))))))))
   refine pQ rfl (q_rem rfl rfl (by decide)) (pQ rfl (q_as (ba_ in_34 in_3 rfl) (rem16 (a2_ ha.lim k))) (pE rfl (pQ rfl (aG_ a9_ (by decide) rfl) (pQ rfl (bk_ ar_35 rfl rfl (by omega) (by omega)) (pQ rfl (aY_ ty_34 rfl (by repeat (first | exact .head _ | apply List.mem_append_right | apply List.Mem.tail)) (dn_ (r := a) (k := k) (by rw [ha.len]; omega))) ?_)))))
   refine pQ rfl (q_quo rfl rfl (by decide)) (pQ rfl (q_as (ba_ in_34 in_3 rfl) (quo16 (a2_ ha.lim k))) ?_)
   refine PL_o rfl rfl (b6_ us_81 z_3 sz_3 rfl (by decide) rfl (qI_ _ _) (fun b22 hb22 => ⟨(fun _ => by first | exact sd s0 | exact s0), (by repeat (first | exact s0 | exact sn | refine sk ?_ | refine sd ?_ | refine sA ?_ | refine sR ?_)), ?_⟩))
   refine PL_o rfl rfl (gt_ us_81 on_3 rfl rfl hO (SL.mine (l := [a.w.getD k 0 % 65536, a.w.getD k 0 / 65536]) (.head _) (Nat.le_refl _)) (List.sublist_cons_self _ _) (by simp; omega) (fun v' L' hO' => ⟨nf, (by repeat (first | exact s0 | exact sn | refine sk ?_ | refine sd ?_ | refine sA ?_ | refine sR ?_)), ?_⟩))
   refine pE rfl (fl J (J7 _ _ (Rk fun K J => sE rfl (sQ (q_as (q_add rfl rfl) (congrArg (Value.int .i64) (cu_ (by omega)))) rfl (sE rfl (nl J ?_))))))
   refine ⟨(by repeat first | exact .refl | refine .cons rfl ?_), _, _, (List.Sublist.refl _), (by omega), k + 1, _, _, _, ⟨?s3, ?s4⟩, ?mem, rfl, ⟨by omega, hO', hD.append (DL.two (a2_ ha.lim k)), by simp [hlen]; omega, jM_ ha.lim hlen hdv⟩⟩
   case mem => rfl
   case s3 => rfl
   case s4 => rfl
  ·(try simp only [decide_eq_true_eq, decide_eq_false_iff_not, beq_iff_eq, bne_iff_ne, beq_eq_false_iff_ne, bne_eq_false_iff_eq, Bool.not_eq_true', Bool.not_eq_false'] at hc)
   obtain rfl : k = 16 := by omega
   refine bd_ (aq_ (aq_ (aw_ (J3 _ _ (Sq fun K8 J8 => Rk fun K J => sE rfl (sQ (bM_ hA_ rfl (fun w hw => bR_ v l hD (by omega) w (SL.sl (hO.sl (List.sublist_append_left _ _)) hw))) rfl (sE rfl (nl J (J8 _ _ (W_ret (ret1 rfl (.inr rfl) rfl ?_)))))))))))
   exact eY_ hD (by rw [hdv, lc_ ha]) (hO.slf (List.sublist_append_left _ _))

theorem bw_  :
    Ret Tryz.prog 90 [] (RV Z.bad.enc) := by
 refine az_ (N := 2) Tryz.func90 rfl rfl (by simp) (fun w0 => ?_)
 simp only [initF, Nat.reduceAdd]
 refine Sq fun K1 J1 => Rk fun K J => WL_r rfl (a4_ z_37 (fun b0 hb0 => nl J (J1 _ _ (Sq fun K2 J2 => Rk fun K J => sQ (e7_ z_37 pl_37 rfl (.cons rfl (vs := [.bool true]) rfl rfl (by simp [zR]) (z' := Z.bad.enc.cells) rfl (.nil _))) rfl ?_))))
 refine WL_r rfl (av_ ty_37 rfl rfl (by repeat (first | exact .head _ | apply Upd.left | apply Upd.tail)) rfl rfl (an_ Z.bad.enc) (.inl (by assumption)) ?_)
 refine nl J (J2 _ _ (W_ret (ret1 rfl (.inr rfl) ⟨_, _, _, _, _, _, rfl, (by repeat (first | exact .head _ | apply List.mem_append_right | apply List.Mem.tail)), ty_37, _, (aT_ rfl), rfl, rfl⟩ ?_)))
 exact rfl

theorem fe_ (r : R) (h : r.Ok) :
    Ret Tryz.prog 129 [RV r] (.bool r.valid) := by
 refine az_ (N := 32) Tryz.func129 rfl rfl (by simp) (fun w0 => ?_)
 simp only [initF, Nat.reduceAdd]
 refine Sq fun K1 J1 => Rk fun K J => WL_r rfl (r_box rfl rfl (fun b1 hb1 => sE rfl (nl J (J1 _ _ (Sq fun K2 J2 => Rk fun K J => sE rfl (nl J (J2 _ _ (Sq fun K3 J3 => Sq fun K4 J4 => Rk fun K J => sE rfl (nl J (J4 _ _ (am_ ?_)))))))))))
 refine bi_ [3, 4, 5, 6, 7, 8, 9, 10, 11, 12, 13, 14, 15, 16] (fun g nn M => ∃ (k : Nat) (z : Bool), (g 3 = .bool z ∧ g 4 = .int .i64 (k : Int)) ∧ M = [⟨b1, 37, r.cells⟩] ∧ nn = 16 - k ∧ (k ≤ 16 ∧ (z = true ↔ ∀ j, j < k → r.w.getD j 0 = 0))) (16) ?start ?round
 case start =>
  refine ⟨_, (List.Sublist.refl _), 0, true, ⟨?a3, ?a4⟩, ?mem0, rfl, ⟨Nat.zero_le _, ⟨fun _ j hj => by omega, fun _ => rfl⟩⟩⟩
  case mem0 => rfl
  case a3 => rfl
  case a4 => rfl
 case round =>
  rintro nn g M ⟨k, z, ⟨hg3, hg4⟩, rfl, hmeas, ⟨hk, hz⟩⟩
  subst nn
  simp only [setG, hg3, hg4]
  clear hg3 hg4
  refine Sq fun K5 J5 => Sq fun K6 J6 => Rk fun K J => sE rfl (sE rfl (nl J (J6 _ _ ?_)))
  refine aN_ _ rfl (fun hc => ?_) (fun hc => ?_)
  ·(try simp only [decide_eq_true_eq, decide_eq_false_iff_not, beq_iff_eq, bne_iff_ne, beq_eq_false_iff_ne, bne_eq_false_iff_eq, Bool.not_eq_true', Bool.not_eq_false'] at hc)
   have hc : k < 16 := by omega
   refine ah_ (J5 _ _ (Sq fun K7 J7 => am_ (Rk fun K J => sE rfl (sE rfl ?_))))
   cases z
   ·skip
    refine WL_n rfl (WL_n rfl (WL_n rfl (WL_n rfl (WL_n rfl (sE rfl (sE rfl (nl J (J7 _ _ (Rk fun K J => sE rfl (sQ (q_as (q_add rfl rfl) (congrArg (Value.int .i64) (cu_ (by omega)))) rfl (sE rfl (nl J ?_))))))))))))
    refine ⟨(by repeat first | exact .refl | refine .cons rfl ?_), _, _, (List.Sublist.refl _), (by omega), k + 1, ?zz_1, ⟨?s3, ?s4⟩, ?mem, rfl, ⟨by omega, ?inv_1⟩⟩
    case mem => rfl
    case s3 => rfl
    case s4 => rfl
    first | exact k2_ hz | exact m4_ hz
   ·skip
    refine sE rfl (sQ (aG_ a9_ (by decide) rfl) rfl (sQ (bk_ ar_35 rfl rfl (by omega) (by omega)) rfl (sQ (aY_ ty_34 rfl (by repeat (first | exact .head _ | apply List.mem_append_right | apply List.Mem.tail)) (dn_ (r := r) (k := k) (by rw [h.len]; omega))) rfl ?_)))
    refine sE rfl (sE rfl (sE rfl (nl J (J7 _ _ (Rk fun K J => sE rfl (sQ (q_as (q_add rfl rfl) (congrArg (Value.int .i64) (cu_ (by omega)))) rfl (sE rfl (nl J ?_))))))))
    refine ⟨(by repeat first | exact .refl | refine .cons rfl ?_), _, _, (List.Sublist.refl _), (by omega), k + 1, ?zz_2, ⟨?s3, ?s4⟩, ?mem, rfl, ⟨by omega, ?inv_2⟩⟩
    case mem => rfl
    case s3 => rfl
    case s4 => rfl
    first | exact k2_ hz | exact m4_ hz
  ·(try simp only [decide_eq_true_eq, decide_eq_false_iff_not, beq_iff_eq, bne_iff_ne, beq_eq_false_iff_ne, bne_eq_false_iff_eq, Bool.not_eq_true', Bool.not_eq_false'] at hc)
   obtain rfl : k = 16 := by omega
   obtain rfl : z = r.zero := pJ_ h hz
   refine bd_ (aq_ (aq_ (aw_ (J3 _ _ (Sq fun K8 J8 => Sq fun K9 J9 => Rk fun K J => sQ (aG_ dN_ (by decide) rfl) rfl (sQ (aY_ ty_4 rfl (by repeat (first | exact .head _ | apply List.mem_append_right | apply List.Mem.tail)) rfl) rfl ?_))))))
   refine nl J (J9 _ _ ?_)
   refine aN_ _ rfl (fun hb => ?_) (fun hb => ?_)
   ·(try simp only [decide_eq_true_eq, decide_eq_false_iff_not, beq_iff_eq, bne_iff_ne, beq_eq_false_iff_ne, bne_eq_false_iff_eq, Bool.not_eq_true', Bool.not_eq_false'] at hb)
    refine Sq fun K10 J10 => Rk fun K J => sE rfl (sE rfl ?_)
    cases hz0 : r.zero
    ·skip
     refine WL_n rfl (WL_n rfl (WL_n rfl (sE rfl (sE rfl (nl J (J10 _ _ (W_ret (af_ (ret1 rfl (.inr rfl) rfl ?_)))))))))
     simp [R.valid, *]
    ·skip
     refine sQ (aG_ bz_ (by decide) rfl) rfl (sQ (aY_ ty_4 rfl (by repeat (first | exact .head _ | apply List.mem_append_right | apply List.Mem.tail)) rfl) rfl ?_)
     refine sE rfl (sE rfl (sE rfl (nl J (J10 _ _ (W_ret (af_ (ret1 rfl (.inr rfl) rfl ?_)))))))
     simp [R.valid, *]
   ·(try simp only [decide_eq_true_eq, decide_eq_false_iff_not, beq_iff_eq, bne_iff_ne, beq_eq_false_iff_ne, bne_eq_false_iff_eq, Bool.not_eq_true', Bool.not_eq_false'] at hb)
    refine ah_ (J8 _ _ (Sq fun K11 J11 => Rk fun K J => sE rfl (sE rfl (sE rfl ?_))))
    cases hz0 : r.zero
    ·skip
     refine WL_n rfl (WL_n rfl (WL_n rfl (sE rfl (sE rfl (nl J (J11 _ _ (W_ret (ret1 rfl (.inr rfl) rfl ?_))))))))
     simp [R.valid, *]
    ·skip
     refine sQ (aG_ bz_ (by decide) rfl) rfl (sQ (aY_ ty_4 rfl (by repeat (first | exact .head _ | apply List.mem_append_right | apply List.Mem.tail)) rfl) rfl ?_)
     refine sE rfl (sE rfl (sE rfl (nl J (J11 _ _ (W_ret (ret1 rfl (.inr rfl) rfl ?_))))))
     simp [R.valid, *]

theorem aQ_ (r : R) (h : r.Ok) :
    Ret Tryz.prog 86 [RV r] (.bool r.good) := by
 refine az_ (N := 12) Tryz.func86 rfl rfl (by simp) (fun w0 => ?_)
 simp only [initF, Nat.reduceAdd]
 refine Sq fun K1 J1 => Rk fun K J => WL_r rfl (r_box rfl rfl (fun b1 hb1 => sE rfl (nl J (J1 _ _ (Sq fun K2 J2 => Rk fun K J => sQ (aE_ ty_37 rfl (by repeat (first | exact .head _ | apply List.mem_append_right | apply List.Mem.tail)) (aC_ h)) rfl ?_)))))
 refine sQ (q_ret q3_ (fe_ r h) rfl) rfl (sE rfl (nl J (J2 _ _ (Sq fun K3 J3 => Rk fun K J => sE rfl (sE rfl ?_)))))
 cases hv : r.valid
 ·skip
  refine WL_n rfl (WL_n rfl (WL_n rfl (sE rfl (sE rfl (nl J (J3 _ _ (W_ret (ret1 rfl (.inr rfl) rfl ?_))))))))
  simp [R.good, *]
 ·skip
  refine sQ (aG_ dN_ (by decide) rfl) rfl (sQ (aY_ ty_4 rfl (by repeat (first | exact .head _ | apply List.mem_append_right | apply List.Mem.tail)) rfl) rfl ?_)
  refine sE rfl (sE rfl (sE rfl (nl J (J3 _ _ (W_ret (ret1 rfl (.inr rfl) rfl ?_))))))
  simp [R.good, *]

theorem bo_ (neg : Bool) (va : Value) (l : List Nat) (hD : DL l) (hn : l.length ≤ 1000) (w : World) (hva : Sl w va l) :
    Calls Tryz.prog 93 [.bool neg, va].toArray w (fun e w' => e = .returned (RV (Z.of (sgn neg (dv l))).enc) ∧ Ext w w') := by
 refine cI_ (N := 62) Tryz.func93 rfl rfl (by simp) ?_
 obtain ⟨w0, rfl⟩ : ∃ w0, w0 = w := ⟨_, rfl⟩
 simp only [initF, Nat.reduceAdd]
 have hu0 : ∀ M, SL w0 [] M (sls va (dl (dv l)).length) (dl (dv l)) := fun M => nF_ hD hva.old
 refine Sq fun K1 J1 => Rk fun K J => WL_r rfl (a4_ z_37 (fun b4 hb4 => nl J (J1 _ _ (Sq fun K2 J2 => Rk fun K J => sE rfl (sQ (bM_ hA_ rfl (fun w hw => bR_ va l hD hn w (SL.sl (M := _) hva.old hw))) rfl (sE rfl (nl J (J2 _ _ (Sq fun K3 J3 => Sq fun K4 J4 => Rk fun K J => sE rfl (sQ (dB_ sl_81 rfl (hu0 _)) rfl (sE rfl (nl J (J4 _ _ ?_)))))))))))))
 refine aN_ _ rfl (fun hbig => ?_) (fun hbig => ?_)
 ·(try simp only [decide_eq_true_eq, decide_eq_false_iff_not, beq_iff_eq, bne_iff_ne, beq_eq_false_iff_ne, bne_eq_false_iff_eq, Bool.not_eq_true', Bool.not_eq_false'] at hbig)
  refine Sq fun K5 J5 => Rk fun K J => sQ (q_ret en_90 (bw_) rfl) rfl (WL_r rfl (av_ ty_37 rfl rfl (by repeat (first | exact .head _ | apply Upd.left | apply Upd.tail)) (ac_ _) rfl (an_ _) (.inl (by assumption)) ?_))
  refine nl J (J5 _ _ (W_ret (af_ (ret1 rfl (.inr rfl) ⟨_, _, _, _, _, _, rfl, (by repeat (first | exact .head _ | apply List.mem_append_right | apply List.Mem.tail)), ty_37, _, (aT_ (ac_ _)), (ac_ _), rfl⟩ ?_))))
  exact ll_ (by omega)
 ·(try simp only [decide_eq_true_eq, decide_eq_false_iff_not, beq_iff_eq, bne_iff_ne, beq_eq_false_iff_ne, bne_eq_false_iff_eq, Bool.not_eq_true', Bool.not_eq_false'] at hbig)
  have hlen : (dl (dv l)).length ≤ 32 := by omega
  refine ah_ (J3 _ _ ?_)
  refine b3_ [6, 14, 15, 16, 17, 18, 19, 20] (fun g M => ∃ (b6 : Nat), (g 6 = .pointer (some ⟨b6, 0, none⟩)) ∧ M = ⟨b6, 37, R.cells (R.mk false (neg && decide ((0 : Int) < ((dl (dv l)).length : Int))) (List.replicate 16 0))⟩ :: [⟨b4, 37, zR⟩] ∧ (w0.heap.size ≤ b6)) (fun K6 J6 => ?_) ?_
  ·skip
   refine Rk fun K J => sE rfl (sE rfl ?_)
   cases neg
   ·skip
    refine WL_n rfl (WL_n rfl (WL_n rfl (sE rfl (sQ (e7_ z_37 pl_37 rfl (on_ _)) rfl (WL_r rfl (a4_ z_37 (fun b6 hb6 => WL_r rfl (av_ ty_37 rfl rfl (by repeat (first | exact .head _ | apply Upd.left | apply Upd.tail)) (by simp [R.cells, bS_]) rfl (an_ _) (.inl (by assumption)) ?_))))))))
    refine nl J ?_
    refine J6 _ _ (by repeat first | exact .refl | refine .cons rfl ?_) ⟨_, (List.Sublist.refl _), _, ?s6, ?mem, hb6⟩
    case mem => rfl
    case s6 => rfl
   ·skip
    refine sE rfl (sQ (dB_ sl_81 rfl (hu0 _)) rfl (sE rfl (sE rfl (sQ (e7_ z_37 pl_37 rfl (on_ _)) rfl (WL_r rfl (a4_ z_37 (fun b6 hb6 => WL_r rfl (av_ ty_37 rfl rfl (by repeat (first | exact .head _ | apply Upd.left | apply Upd.tail)) (by simp [R.cells, bS_]) rfl (an_ _) (.inl (by assumption)) ?_))))))))
    refine nl J ?_
    refine J6 _ _ (by repeat first | exact .refl | refine .cons rfl ?_) ⟨_, (List.Sublist.refl _), _, ?s6, ?mem, hb6⟩
    case mem => rfl
    case s6 => rfl
  ·skip
   rintro g M ⟨b6, hg6, rfl, hb6⟩
   simp only [setG, hg6]
   clear hg6
   refine Sq fun K7 J7 => Sq fun K8 J8 => Rk fun K J => sE rfl (nl J (J8 _ _ (am_ ?_)))
   refine bi_ [7, 21, 22, 23, 24, 25, 26, 27, 28, 29, 30, 31, 32, 33, 34, 35, 36, 37, 38, 39, 40, 41, 42, 43, 44, 45, 46, 47, 48, 49, 50, 51, 52, 53, 54, 55, 56, 57, 58, 59, 60] (fun g nn M => ∃ (k : Nat) (ws : List Nat), (g 7 = .int .i64 (k : Int)) ∧ M = ⟨b6, 37, R.cells (R.mk false (neg && decide ((0 : Int) < ((dl (dv l)).length : Int))) ws)⟩ :: [⟨b4, 37, zR⟩] ∧ nn = (dl (dv l)).length - k ∧ (k ≤ (dl (dv l)).length ∧ NumIn (dv l) k ws)) ((dl (dv l)).length - 0) ?start ?round
   case start =>
    refine ⟨_, (List.Sublist.refl _), 0, _, ?a7, ?mem0, rfl, ⟨Nat.zero_le _, NumIn.start _⟩⟩
    case mem0 => rfl
    case a7 => rfl
   case round =>
    rintro nn g M ⟨k, ws, hg7, rfl, hmeas, ⟨hk, hI⟩⟩
    subst nn
    simp only [setG, hg7]
    clear hg7
    refine Sq fun K9 J9 => Sq fun K10 J10 => Rk fun K J => sE rfl (sE rfl (sQ (dB_ sl_81 rfl (hu0 _)) rfl (sE rfl (nl J (J10 _ _ ?_)))))
    refine aN_ _ rfl (fun hc => ?_) (fun hc => ?_)
    ·(try simp only [decide_eq_true_eq, decide_eq_false_iff_not, beq_iff_eq, bne_iff_ne, beq_eq_false_iff_ne, bne_eq_false_iff_eq, Bool.not_eq_true', Bool.not_eq_false'] at hc)
     have hk32 : k < 32 := by omega
     refine ah_ (J9 _ _ (Sq fun K11 J11 => am_ (Sq fun K12 J12 => Rk fun K J => sE rfl (sQ (q_as (q_rem rfl rfl (by decide)) (congrArg (Value.int .i64) (rem2 k))) rfl (sE rfl (nl J (J12 _ _ ?_)))))))
     refine aN_ _ rfl (fun hpar => ?_) (fun hpar => ?_)
     ·(try simp only [decide_eq_true_eq, decide_eq_false_iff_not, beq_iff_eq, bne_iff_ne, beq_eq_false_iff_ne, bne_eq_false_iff_eq, Bool.not_eq_true', Bool.not_eq_false'] at hpar)
      have hpar : k % 2 = 0 := by omega
      have hz := (hI.even hpar hk32).2
      refine dr (sd (sk (s0))) [0,4,8,12,16,20,24,28,32,36,40,44,48,52,56,61] [15] mix (by kernel_rfl) (fun K J => pE rfl (pQ rfl (q_as (q_quo rfl rfl (by decide)) (congrArg (Value.int .i64) (quo2 k (by omega)))) (pE rfl (pQ rfl (q_as (q_quo rfl rfl (by decide)) (congrArg (Value.int .i64) (quo2 k (by omega)))) (pQ rfl (aG_ a9_ (by decide) rfl) (pQ rfl (bk_ ar_35 rfl rfl (by omega) (by omega)) (pQ rfl (aY_ ty_34 rfl (by repeat (first | exact .head _ | apply List.mem_append_right | apply List.Mem.tail)) (dn_ (r := R.mk false (neg && decide ((0 : Int) < ((dl (dv l)).length : Int))) ws) (k := k / 2) (by simp only [hI.len]; omega))) ?_)))))))
      refine pE rfl (pE rfl (pQ rfl (gr_ sl_81 rfl rfl (hu0 _) (by omega)) (pQ rfl (e5_ ty_3 rfl (hu0 _) (by omega)) (pQ rfl (ba_ in_3 in_34 rfl) (pQ rfl (q_as (q_add rfl rfl) (show _ = U32 (dg (dv l) k) by rw [(hI.even hpar hk32).1, gI_]; exact nt_ (dg_lt _ _))) (pQ rfl (aG_ a9_ (by decide) rfl) (pQ rfl (bk_ ar_35 rfl rfl (by omega) (by omega)) ?_)))))))
      refine PL_o rfl rfl (kc_ (k := k / 2) ty_34 rfl rfl (by repeat (first | exact .head _ | apply Upd.left | apply Upd.tail)) (by rw [hI.len]; omega) (.inl (by assumption)) ⟨nf, (by repeat (first | exact s0 | exact sn | refine sk ?_ | refine sd ?_ | refine sA ?_ | refine sR ?_)), ?_⟩)
      refine fl J (J11 _ _ (Rk fun K J => sE rfl (sQ (q_as (q_add rfl rfl) (congrArg (Value.int .i64) (cu_ (by omega)))) rfl (sE rfl (nl J ?_)))))
      refine ⟨(by repeat first | exact .refl | refine .cons rfl ?_), _, _, (List.Sublist.refl _), (by omega), k + 1, _, ?s7, ?mem, rfl, ⟨by omega, hz⟩⟩
      case mem => rfl
      case s7 => rfl
     ·(try simp only [decide_eq_true_eq, decide_eq_false_iff_not, beq_iff_eq, bne_iff_ne, beq_eq_false_iff_ne, bne_eq_false_iff_eq, Bool.not_eq_true', Bool.not_eq_false'] at hpar)
      have hpar : ¬ k % 2 = 0 := by omega
      have hz := (hI.odd hpar hk32).2
      refine dr (sd (sk (s0))) [0,4,8,12,16,20,24,28,32,36,40,44,48,52,56,60,65] [16] mix (by kernel_rfl) (fun K J => pE rfl (pQ rfl (q_as (q_quo rfl rfl (by decide)) (congrArg (Value.int .i64) (quo2 k (by omega)))) (pE rfl (pQ rfl (q_as (q_quo rfl rfl (by decide)) (congrArg (Value.int .i64) (quo2 k (by omega)))) (pQ rfl (aG_ a9_ (by decide) rfl) (pQ rfl (bk_ ar_35 rfl rfl (by omega) (by omega)) (pQ rfl (aY_ ty_34 rfl (by repeat (first | exact .head _ | apply List.mem_append_right | apply List.Mem.tail)) (dn_ (r := R.mk false (neg && decide ((0 : Int) < ((dl (dv l)).length : Int))) ws) (k := k / 2) (by simp only [hI.len]; omega))) ?_)))))))
      refine pE rfl (pE rfl (pQ rfl (gr_ sl_81 rfl rfl (hu0 _) (by omega)) (pQ rfl (e5_ ty_3 rfl (hu0 _) (by omega)) (pQ rfl (ba_ in_3 in_34 rfl) (pE rfl (pQ rfl (q_as (q_add rfl rfl) (show _ = U32 (ws.getD (k / 2) 0 + dg (dv l) k * 65536) by rw [gI_]; exact pz_ (hI.odd hpar hk32).1 (dg_lt _ _))) (pQ rfl (aG_ a9_ (by decide) rfl) (pQ rfl (bk_ ar_35 rfl rfl (by omega) (by omega)) ?_))))))))
      refine PL_o rfl rfl (kc_ (k := k / 2) ty_34 rfl rfl (by repeat (first | exact .head _ | apply Upd.left | apply Upd.tail)) (by rw [hI.len]; omega) (.inl (by assumption)) ⟨nf, (by repeat (first | exact s0 | exact sn | refine sk ?_ | refine sd ?_ | refine sA ?_ | refine sR ?_)), ?_⟩)
      refine fl J (J11 _ _ (Rk fun K J => sE rfl (sQ (q_as (q_add rfl rfl) (congrArg (Value.int .i64) (cu_ (by omega)))) rfl (sE rfl (nl J ?_)))))
      refine ⟨(by repeat first | exact .refl | refine .cons rfl ?_), _, _, (List.Sublist.refl _), (by omega), k + 1, _, ?s7, ?mem, rfl, ⟨by omega, hz⟩⟩
      case mem => rfl
      case s7 => rfl
    ·(try simp only [decide_eq_true_eq, decide_eq_false_iff_not, beq_iff_eq, bne_iff_ne, beq_eq_false_iff_ne, bne_eq_false_iff_eq, Bool.not_eq_true', Bool.not_eq_false'] at hc)
     obtain rfl : k = (dl (dv l)).length := by omega
     refine bd_ (aq_ (aq_ (aw_ (J7 _ _ (Sq fun K13 J13 => Rk fun K J => sQ (aE_ ty_37 rfl (by repeat (first | exact .head _ | apply List.mem_append_right | apply List.Mem.tail)) (by simp [R.cells, bS_, hI.len])) rfl ?_)))))
     refine WL_r rfl (av_ ty_37 rfl rfl (by repeat (first | exact .head _ | apply Upd.left | apply Upd.tail)) (by simp [R.cells, bS_, hI.len]) rfl (an_ _) (.inl (by assumption)) ?_)
     refine nl J (J13 _ _ (W_ret (ret1 rfl (.inr rfl) ⟨_, _, _, _, _, _, rfl, (by repeat (first | exact .head _ | apply List.mem_append_right | apply List.Mem.tail)), ty_37, _, (aT_ (by simp [R.cells, bS_, hI.len])), (by simp [R.cells, bS_, hI.len]), rfl⟩ ?_)))
     exact le_ hI
end Go.Proofs.YtapbefpeopaecaaGreatDoor

