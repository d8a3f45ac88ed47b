/- What these functions compute, as plain functions. No program stands in it. -/
import Derived.Test.YtapbefpeopaecaaGreatDoorZGE
import Derived.Test.YtapbefpeopaecaaGreatDoorZFGc
import Derived.Test.YtapbefpeopaecaaGreatDoorZFSg
import Derived.Test.YtapbefpeopaecaaGreatDoorZFWq
import Derived.Test.YtapbefpeopaecaaGreatDoorZFi
import Derived.Test.YtapbefpeopaecaaGreatDoorZFn
set_option linter.unusedVariables false
set_option linter.unusedSimpArgs false
namespace Go.Num
open Go Go.Kn
def cp_ (a : (A3 W)) (b : W) : Bool :=
  bif (decide (536870912 ≤ a.x.1) || decide (a.x.1 ≤ (-536870912))) then (false) else (bif (decide (536870912 ≤ a.y.1) || decide (a.y.1 ≤ (-536870912))) then (false) else (bif (decide (536870912 ≤ a.z.1) || decide (a.z.1 ≤ (-536870912))) then (false) else ((!(decide (a.x.1 = 0) && (decide (a.y.1 = 0) && decide (a.z.1 = 0))) && (decide (0 ≤ b.1) && decide (b.1 ≤ 4000))))))
def cn_ (a : (A3 W)) (b : W) : (A2 (A3 W)) × (A2 Rt) :=
  let r5 : I := (E (Z.mul (Z.of 1000000) (bi_ ((am_ a).1) ((am_ a).1)).dec))
  let r6 : I := (E (Z.quo (Z.shl (Z.mul (Z.of (W.mul b b).1) (bi_ a a).dec) 16) r5.dec))
  let r8 : Rt := (ap_ (c0_ r6) (E (Z.of 256)))
  let r9 : I := (E (Z.mul (Z.of 1000000) (bi_ ((am_ a).2) ((am_ a).2)).dec))
  let r10 : I := (E (Z.quo (Z.shl (Z.mul (Z.of (W.mul b b).1) (bi_ a a).dec) 16) r9.dec))
  let r12 : Rt := (ap_ (c0_ r10) (E (Z.of 256)))
  ((⟨((am_ a).1), ((am_ a).2)⟩ : (A2 (A3 W))), (⟨r8, r12⟩ : (A2 Rt)))
def a8_ (a : (A3 W)) (b : W) : (List (A3 Rt)) × W :=
  bif (cp_ a b) then (let r3 : (A3 Rt) := (cu_ a)
  bif (b.1 == 0) then (([r3], (wl 0))) else (let r7 : (A2 (A3 W)) := (cn_ a b).1
  let r8 : (A2 Rt) := (cn_ a b).2
  let r11 : (A3 Rt) := (cu_ r7.x)
  let r12 : (A3 Rt) := (cq_ r8.x r11)
  let r14 : (A3 Rt) := (cG_ r3 r12)
  let r15 : (A3 Rt) := (cL_ r3 r12)
  let r21 : (A3 Rt) := (cu_ r7.y)
  let r22 : (A3 Rt) := (cq_ r8.y r21)
  let r24 : (A3 Rt) := (cG_ r3 r22)
  let r25 : (A3 Rt) := (cL_ r3 r22)
  (((([] : List (A3 Rt)) ++ [r14, r15]) ++ [r24, r25]), (wl 0)))) else ((([] : List (A3 Rt)), (wl 1)))
def en_ (a : (A3 Rt)) : Rt :=
  (c6_ a a)
def ct_ (a : (A3 W)) (b : W) (c : (A3 Rt)) : Bool :=
  bif (!(cp_ a b) || decide ((aI_ (bO_ a c)).1 < 0)) then (false) else (let r8 : (A3 Rt) := (cu_ a)
  let r9 : (A3 Rt) := (c5_ c r8)
  let r10 : Rt := (aG_ (aa_ (wl 1000000)) (en_ r9))
  let r12 : Rt := (aG_ (bO_ a c) (bO_ a c))
  let r13 : Rt := (aG_ (aa_ (W.mul b b)) r12)
  (decide ((dN_ r10 r13).1 ≤ 0)))
def aq_ (a : (A3 W)) (f : (A3 Rt)) : Rt :=
  let r3 : Rt := (ap_ (bi_ a a) (E (Z.of 1)))
  let r4 : Rt := (ab_ (bO_ a f) r3)
  r4
def ay_ (a : (A3 W)) (b : W) (c : (A3 Rt)) : (List Rt) × Bool :=
  bif (cp_ a b) then (let r6 : (A2 (A3 W)) := (cn_ a b).1
  let r7 : (A2 Rt) := (cn_ a b).2
  bif ((aI_ (aq_ r6.x c)).1 != 0) then (bif ((aI_ r7.x).1 == 0) then ((([] : List Rt), false)) else (let r14 : Rt := (c9_ (aq_ r6.x c))
  let r15 : Rt := (a6_ (aq_ a c) (ab_ r14 r7.x))
  bif decide (0 ≤ (aI_ (aq_ r6.x c)).1) then (bif ((aI_ (aq_ r6.y c)).1 != 0) then (bif ((aI_ r7.y).1 == 0) then ((([] : List Rt), false)) else (let r26 : Rt := (c9_ (aq_ r6.y c))
  let r27 : Rt := (a6_ r15 (ab_ r26 r7.y))
  bif decide (0 ≤ (aI_ (aq_ r6.y c)).1) then (bif decide ((aI_ r27).1 < 0) then ((([] : List Rt), false)) else (bif (b.1 == 0) then (([r27], true)) else (let r37 : Rt := (ab_ r27 (aa_ (wl 2)))
  let r39 : Rt := (aB_ (((([] : List Rt) ++ [(ab_ r14 r7.x), (aa_ (wl 0))]) ++ [(ab_ r26 r7.y), (aa_ (wl 0))]).getD 0 Rt0) r37)
  let r40 : Rt := (aB_ (((([] : List Rt) ++ [(ab_ r14 r7.x), (aa_ (wl 0))]) ++ [(ab_ r26 r7.y), (aa_ (wl 0))]).getD 1 Rt0) r37)
  (((((([] : List Rt) ++ [(ab_ r14 r7.x), (aa_ (wl 0))]) ++ [(ab_ r26 r7.y), (aa_ (wl 0))]).set 0 r39).set 1 r40), true)))) else (bif decide ((aI_ r27).1 < 0) then ((([] : List Rt), false)) else (bif (b.1 == 0) then (([r27], true)) else (let r53 : Rt := (ab_ r27 (aa_ (wl 2)))
  let r55 : Rt := (aB_ (((([] : List Rt) ++ [(ab_ r14 r7.x), (aa_ (wl 0))]) ++ [(aa_ (wl 0)), (ab_ r26 r7.y)]).getD 0 Rt0) r53)
  let r56 : Rt := (aB_ (((([] : List Rt) ++ [(ab_ r14 r7.x), (aa_ (wl 0))]) ++ [(aa_ (wl 0)), (ab_ r26 r7.y)]).getD 1 Rt0) r53)
  (((((([] : List Rt) ++ [(ab_ r14 r7.x), (aa_ (wl 0))]) ++ [(aa_ (wl 0)), (ab_ r26 r7.y)]).set 0 r55).set 1 r56), true)))))) else (let r61 : Rt := (a6_ r15 (aa_ (wl 0)))
  bif decide ((aI_ r61).1 < 0) then ((([] : List Rt), false)) else (bif (b.1 == 0) then (([r61], true)) else (let r70 : Rt := (ab_ r61 (aa_ (wl 2)))
  let r72 : Rt := (aB_ (((([] : List Rt) ++ [(ab_ r14 r7.x), (aa_ (wl 0))]) ++ [(aa_ (wl 0)), (aa_ (wl 0))]).getD 0 Rt0) r70)
  let r73 : Rt := (aB_ (((([] : List Rt) ++ [(ab_ r14 r7.x), (aa_ (wl 0))]) ++ [(aa_ (wl 0)), (aa_ (wl 0))]).getD 1 Rt0) r70)
  (((((([] : List Rt) ++ [(ab_ r14 r7.x), (aa_ (wl 0))]) ++ [(aa_ (wl 0)), (aa_ (wl 0))]).set 0 r72).set 1 r73), true))))) else (bif ((aI_ (aq_ r6.y c)).1 != 0) then (bif ((aI_ r7.y).1 == 0) then ((([] : List Rt), false)) else (let r87 : Rt := (c9_ (aq_ r6.y c))
  let r88 : Rt := (a6_ r15 (ab_ r87 r7.y))
  bif decide (0 ≤ (aI_ (aq_ r6.y c)).1) then (bif decide ((aI_ r88).1 < 0) then ((([] : List Rt), false)) else (bif (b.1 == 0) then (([r88], true)) else (let r98 : Rt := (ab_ r88 (aa_ (wl 2)))
  let r100 : Rt := (aB_ (((([] : List Rt) ++ [(aa_ (wl 0)), (ab_ r14 r7.x)]) ++ [(ab_ r87 r7.y), (aa_ (wl 0))]).getD 0 Rt0) r98)
  let r101 : Rt := (aB_ (((([] : List Rt) ++ [(aa_ (wl 0)), (ab_ r14 r7.x)]) ++ [(ab_ r87 r7.y), (aa_ (wl 0))]).getD 1 Rt0) r98)
  (((((([] : List Rt) ++ [(aa_ (wl 0)), (ab_ r14 r7.x)]) ++ [(ab_ r87 r7.y), (aa_ (wl 0))]).set 0 r100).set 1 r101), true)))) else (bif decide ((aI_ r88).1 < 0) then ((([] : List Rt), false)) else (bif (b.1 == 0) then (([r88], true)) else (let r114 : Rt := (ab_ r88 (aa_ (wl 2)))
  let r116 : Rt := (aB_ (((([] : List Rt) ++ [(aa_ (wl 0)), (ab_ r14 r7.x)]) ++ [(aa_ (wl 0)), (ab_ r87 r7.y)]).getD 0 Rt0) r114)
  let r117 : Rt := (aB_ (((([] : List Rt) ++ [(aa_ (wl 0)), (ab_ r14 r7.x)]) ++ [(aa_ (wl 0)), (ab_ r87 r7.y)]).getD 1 Rt0) r114)
  (((((([] : List Rt) ++ [(aa_ (wl 0)), (ab_ r14 r7.x)]) ++ [(aa_ (wl 0)), (ab_ r87 r7.y)]).set 0 r116).set 1 r117), true)))))) else (let r122 : Rt := (a6_ r15 (aa_ (wl 0)))
  bif decide ((aI_ r122).1 < 0) then ((([] : List Rt), false)) else (bif (b.1 == 0) then (([r122], true)) else (let r131 : Rt := (ab_ r122 (aa_ (wl 2)))
  let r133 : Rt := (aB_ (((([] : List Rt) ++ [(aa_ (wl 0)), (ab_ r14 r7.x)]) ++ [(aa_ (wl 0)), (aa_ (wl 0))]).getD 0 Rt0) r131)
  let r134 : Rt := (aB_ (((([] : List Rt) ++ [(aa_ (wl 0)), (ab_ r14 r7.x)]) ++ [(aa_ (wl 0)), (aa_ (wl 0))]).getD 1 Rt0) r131)
  (((((([] : List Rt) ++ [(aa_ (wl 0)), (ab_ r14 r7.x)]) ++ [(aa_ (wl 0)), (aa_ (wl 0))]).set 0 r133).set 1 r134), true))))))) else (let r139 : Rt := (a6_ (aq_ a c) (aa_ (wl 0)))
  bif ((aI_ (aq_ r6.y c)).1 != 0) then (bif ((aI_ r7.y).1 == 0) then ((([] : List Rt), false)) else (let r149 : Rt := (c9_ (aq_ r6.y c))
  let r150 : Rt := (a6_ r139 (ab_ r149 r7.y))
  bif decide (0 ≤ (aI_ (aq_ r6.y c)).1) then (bif decide ((aI_ r150).1 < 0) then ((([] : List Rt), false)) else (bif (b.1 == 0) then (([r150], true)) else (let r160 : Rt := (ab_ r150 (aa_ (wl 2)))
  let r162 : Rt := (aB_ (((([] : List Rt) ++ [(aa_ (wl 0)), (aa_ (wl 0))]) ++ [(ab_ r149 r7.y), (aa_ (wl 0))]).getD 0 Rt0) r160)
  let r163 : Rt := (aB_ (((([] : List Rt) ++ [(aa_ (wl 0)), (aa_ (wl 0))]) ++ [(ab_ r149 r7.y), (aa_ (wl 0))]).getD 1 Rt0) r160)
  (((((([] : List Rt) ++ [(aa_ (wl 0)), (aa_ (wl 0))]) ++ [(ab_ r149 r7.y), (aa_ (wl 0))]).set 0 r162).set 1 r163), true)))) else (bif decide ((aI_ r150).1 < 0) then ((([] : List Rt), false)) else (bif (b.1 == 0) then (([r150], true)) else (let r176 : Rt := (ab_ r150 (aa_ (wl 2)))
  let r178 : Rt := (aB_ (((([] : List Rt) ++ [(aa_ (wl 0)), (aa_ (wl 0))]) ++ [(aa_ (wl 0)), (ab_ r149 r7.y)]).getD 0 Rt0) r176)
  let r179 : Rt := (aB_ (((([] : List Rt) ++ [(aa_ (wl 0)), (aa_ (wl 0))]) ++ [(aa_ (wl 0)), (ab_ r149 r7.y)]).getD 1 Rt0) r176)
  (((((([] : List Rt) ++ [(aa_ (wl 0)), (aa_ (wl 0))]) ++ [(aa_ (wl 0)), (ab_ r149 r7.y)]).set 0 r178).set 1 r179), true)))))) else (let r184 : Rt := (a6_ r139 (aa_ (wl 0)))
  bif decide ((aI_ r184).1 < 0) then ((([] : List Rt), false)) else (bif (b.1 == 0) then (([r184], true)) else (let r193 : Rt := (ab_ r184 (aa_ (wl 2)))
  let r195 : Rt := (aB_ (((([] : List Rt) ++ [(aa_ (wl 0)), (aa_ (wl 0))]) ++ [(aa_ (wl 0)), (aa_ (wl 0))]).getD 0 Rt0) r193)
  let r196 : Rt := (aB_ (((([] : List Rt) ++ [(aa_ (wl 0)), (aa_ (wl 0))]) ++ [(aa_ (wl 0)), (aa_ (wl 0))]).getD 1 Rt0) r193)
  (((((([] : List Rt) ++ [(aa_ (wl 0)), (aa_ (wl 0))]) ++ [(aa_ (wl 0)), (aa_ (wl 0))]).set 0 r195).set 1 r196), true)))))) else ((([] : List Rt), false))
def dE_ (a : (A3 W)) (b : W) (c : (A3 Rt)) : Bool :=
  ((ay_ a b c).2)
def cP_ (l : (List (A3 Rt))) (k : (List Rt)) (r2 : (A3 Rt)) : Nat → Nat → (A3 Rt) → Nat × (A3 Rt)
  | 0, i, mb3 => (i, mb3)
  | k0 + 1, i, mb3 => bif decide (((i : Nat) : Int) < (((min ((l).length) ((k).length)) : Nat) : Int)) then (let r9 : (A3 Rt) := (cq_ (k.getD i Rt0) (l.getD i V0))
  let r10 : (A3 Rt) := (cG_ mb3 r9)
  (cP_ l k r2 k0 (i + 1) r10)) else ((i, mb3))
def aO_ (l : (List (A3 Rt))) (k : (List Rt)) : (A3 Rt) :=
  let r2 : (A3 Rt) := (cu_ (⟨(wl 0), (wl 0), (wl 0)⟩ : (A3 W)))
  ap (fun (s : Nat × (A3 Rt)) => let i : Nat := s.1
  let mb3 : (A3 Rt) := s.2
  mb3) (cP_ l k r2 ((min l.length k.length + 1)) 0 r2)
def a3_ (a : (A3 W)) (b : W) : Bool :=
  bif (decide (536870912 ≤ a.x.1) || decide (a.x.1 ≤ (-536870912))) then (false) else (bif (decide (536870912 ≤ a.y.1) || decide (a.y.1 ≤ (-536870912))) then (false) else (bif (decide (536870912 ≤ a.z.1) || decide (a.z.1 ≤ (-536870912))) then (false) else ((!(decide (a.x.1 = 0) && (decide (a.y.1 = 0) && decide (a.z.1 = 0))) && (decide (0 ≤ b.1) && decide (b.1 ≤ 4000))))))
def bm_ (a : (A3 Rt)) : Bool :=
  bif (!(ae_ a.x) || (decide (48 < (Z.bitsW a.x.n.dec).1) || decide (17 < (Z.bitsW a.x.d.dec).1))) then (false) else (bif (!(ae_ a.y) || (decide (48 < (Z.bitsW a.y.n.dec).1) || decide (17 < (Z.bitsW a.y.d.dec).1))) then (false) else (bif (!(ae_ a.z) || (decide (48 < (Z.bitsW a.z.n.dec).1) || decide (17 < (Z.bitsW a.z.d.dec).1))) then (false) else (true)))
def aA_ (a : (A3 W)) (b : W) (c : (A3 W)) : Rt :=
  let r5 : I := (E (Z.mul (Z.mul (Z.of (W.mul b b).1) (a0_ a a).dec) (Z.of 65536)))
  let r7 : I := (E (Z.quo r5.dec (Z.mul (Z.of 1000000) (a0_ c c).dec)))
  let r8 : Rt := (ai_ (E (Z.sqrt r7.dec)) (E (Z.of 256)))
  r8
def aJ_ (a : (A3 W)) (b : W) : Edg :=
  bif (a3_ a b) then (let r4 : (A3 Rt) := (bf_ a)
  bif (b.1 == 0) then ((⟨[r4], (wl 0)⟩ : Edg)) else (let r8 : (A3 W) := (av_ a).1
  let r9 : (A3 W) := (av_ a).2
  let r12 : (A3 Rt) := (bf_ r8)
  let r13 : (A3 Rt) := (bl_ (aA_ a b r8) r12)
  let r15 : (A3 Rt) := (bf_ r9)
  let r16 : (A3 Rt) := (bl_ (aA_ a b r9) r15)
  let r18 : (A3 Rt) := (bs_ r4 r13)
  let r19 : (A3 Rt) := (bC_ r4 r13)
  let r20 : (A3 Rt) := (bs_ r4 r16)
  let r21 : (A3 Rt) := (bC_ r4 r16)
  (⟨[r18, r19, r20, r21], (wl 0)⟩ : Edg))) else ((⟨([] : List (A3 Rt)), (wl 1)⟩ : Edg))
def b8_ (a : (A3 W)) (b : W) (c : (A3 Rt)) : Bool :=
  bif (!(a3_ a b) || decide ((aL_ (aV_ a c)).1 < 0)) then (false) else (let r8 : (A3 Rt) := (bf_ a)
  let r9 : (A3 Rt) := (b6_ c r8)
  let r11 : Rt := (ah_ (ac_ (wl 1000000)) (b5_ r9 r9))
  let r13 : Rt := (ah_ (aV_ a c) (aV_ a c))
  let r14 : Rt := (ah_ (ac_ (W.mul b b)) r13)
  (decide ((cW_ r11 r14).1 ≤ 0)))
def al_ (a : (A3 W)) (b : (A3 Rt)) : Rt :=
  let r4 : Rt := (dh_ (a0_ a a))
  let r5 : Rt := (bL_ (aV_ a b) r4)
  r5
def aR_ (a : Rt) (b : Rt) : Rt × Bool :=
  bif ((aL_ a).1 == 0) then (((ac_ (wl 0)), true)) else (bif ((aL_ b).1 == 0) then (((ac_ (wl 0)), false)) else (let r6 : Rt := (bL_ (bz_ a) b)
  (r6, true)))
def ax_ (a : (A3 W)) (b : W) (c : (A3 Rt)) : Pts :=
  bif (a3_ a b) then (let r5 : (A3 W) := (av_ a).1
  let r6 : (A3 W) := (av_ a).2
  let r11 : Rt := (aR_ (al_ r5 c) (aA_ a b r5)).1
  let r13 : Rt := (aR_ (al_ r6 c) (aA_ a b r6)).1
  let r15 : Rt := (ak_ (al_ a c) r11)
  bif (!((aR_ (al_ r5 c) (aA_ a b r5)).2) || (!((aR_ (al_ r6 c) (aA_ a b r6)).2) || decide ((aL_ (ak_ r15 r13)).1 < 0))) then ((⟨([] : List Rt), false⟩ : Pts)) else (bif (b.1 == 0) then ((⟨[(ak_ r15 r13)], true⟩ : Pts)) else (let r25 : Rt := (au_ (wl 1) (wl 2))
  let r26 : Rt := (ah_ (ak_ r15 r13) r25)
  bif decide ((aL_ (al_ r5 c)).1 < 0) then (bif decide ((aL_ (al_ r6 c)).1 < 0) then ((⟨[r26, (ag_ r11 r26), (ac_ (wl 0)), r13], true⟩ : Pts)) else ((⟨[r26, (ag_ r11 r26), r13, (ac_ (wl 0))], true⟩ : Pts))) else (bif decide ((aL_ (al_ r6 c)).1 < 0) then ((⟨[(ag_ r11 r26), r26, (ac_ (wl 0)), r13], true⟩ : Pts)) else ((⟨[(ag_ r11 r26), r26, r13, (ac_ (wl 0))], true⟩ : Pts)))))) else ((⟨([] : List Rt), false⟩ : Pts))
def bX_ (l : (List (A3 Rt))) (k : (List Rt)) (r2 : (A3 Rt)) : Nat → Nat → (A3 Rt) → Nat × (A3 Rt)
  | 0, i, mb3 => (i, mb3)
  | k0 + 1, i, mb3 => bif (decide (((i : Nat) : Int) < (((l).length : Nat) : Int)) && decide (((i : Nat) : Int) < (((k).length : Nat) : Int))) then (let r15 : (A3 Rt) := (bl_ (k.getD i Rt0) (l.getD i V0))
  let r16 : (A3 Rt) := (bs_ mb3 r15)
  (bX_ l k r2 k0 (i + 1) r16)) else ((i, mb3))
def an_ (l : (List (A3 Rt))) (k : (List Rt)) : (A3 Rt) :=
  let r2 : (A3 Rt) := (bf_ (⟨(wl 0), (wl 0), (wl 0)⟩ : (A3 W)))
  ap (fun (s : Nat × (A3 Rt)) => let i : Nat := s.1
  let mb3 : (A3 Rt) := s.2
  mb3) (bX_ l k r2 ((min l.length k.length + 1)) 0 r2)
def bR_ (a : (List (A3 Rt))) (b : (List (A3 Rt))) : Nat → Nat → (Nat) ⊕ (Bool)
  | 0, i => .inl i
  | k0 + 1, i => bif decide (((i : Nat) : Int) < (((a).length : Nat) : Int)) then (bif (decide ((((a.getD i V0).x).n) = (((b.getD i V0).x).n)) && (decide ((((a.getD i V0).x).d) = (((b.getD i V0).x).d)) && (decide ((((a.getD i V0).y).n) = (((b.getD i V0).y).n)) && (decide ((((a.getD i V0).y).d) = (((b.getD i V0).y).d)) && (decide ((((a.getD i V0).z).n) = (((b.getD i V0).z).n)) && decide ((((a.getD i V0).z).d) = (((b.getD i V0).z).d))))))) then ((bR_ a b k0 (i + 1))) else (.inr (false))) else (.inl i)
def bu_ (a : (List (A3 Rt))) (b : (List (A3 Rt))) : Bool :=
  bif ((((a).length : Nat) : Int) != (((b).length : Nat) : Int)) then (false) else (sm (fun (s : Nat) => let i : Nat := s
  true) (fun r => r) (bR_ a b ((a.length + 1)) 0))
def aP_ (a : W) (b : W) (c : W) (d : W) : (A3 Rt) :=
  (⟨(au_ a d), (au_ b d), (au_ c d)⟩ : (A3 Rt))
def bS_ (a : (List Rt)) (b : (List Rt)) : Nat → Nat → (Nat) ⊕ (Bool)
  | 0, i => .inl i
  | k0 + 1, i => bif decide (((i : Nat) : Int) < (((a).length : Nat) : Int)) then (bif (decide (((a.getD i Rt0).n) = ((b.getD i Rt0).n)) && decide (((a.getD i Rt0).d) = ((b.getD i Rt0).d))) then ((bS_ a b k0 (i + 1))) else (.inr (false))) else (.inl i)
def bg_ (a : (List Rt)) (b : (List Rt)) : Bool :=
  bif ((((a).length : Nat) : Int) != (((b).length : Nat) : Int)) then (false) else (sm (fun (s : Nat) => let i : Nat := s
  true) (fun r => r) (bS_ a b ((a.length + 1)) 0))
def cO_ (l : (List W)) : List W → (List Rt) → List Rt
  | [], out => out
  | x0 :: l0, out => (cO_ l l0 (out ++ [(ac_ x0)]))
def cR_ (l : (List W)) : (List Rt) :=
  ap (fun (s : List Rt) => let out : List Rt := s
  out) (cO_ l l ([] : List Rt))
def bd_  : Bool :=
  let q0 : (List (A3 Rt)) := (a8_ (⟨(wl 0), (wl 0), (wl 1)⟩ : (A3 W)) (wl 500)).1
  let q1 : W := (a8_ (⟨(wl 0), (wl 0), (wl 1)⟩ : (A3 W)) (wl 500)).2
  let q2 : (List (A3 Rt)) := (a8_ (⟨(wl 0), (wl 0), (wl 0)⟩ : (A3 W)) (wl 500)).1
  let q3 : W := (a8_ (⟨(wl 0), (wl 0), (wl 0)⟩ : (A3 W)) (wl 500)).2
  let q4 : (List (A3 Rt)) := (a8_ (⟨(wl 0), (wl 0), (wl 1)⟩ : (A3 W)) (wl 4001)).1
  let q5 : W := (a8_ (⟨(wl 0), (wl 0), (wl 1)⟩ : (A3 W)) (wl 4001)).2
  let q6 : (A3 Rt) := (aP_ (wl 1) (wl 0) (wl 2) (wl 2))
  let q7 : (A3 Rt) := (aP_ (wl (-1)) (wl 0) (wl 2) (wl 2))
  let q8 : (A3 Rt) := (aP_ (wl 0) (wl 1) (wl 2) (wl 2))
  let q9 : (A3 Rt) := (aP_ (wl 0) (wl (-1)) (wl 2) (wl 2))
  let q10 : Bool := (bu_ q0 [q6, q7, q8, q9])
  let q11 : (A3 Rt) := (aP_ (wl 1) (wl 0) (wl 2) (wl 1))
  let q12 : (A3 Rt) := (aP_ (wl 3) (wl 4) (wl 10) (wl 5))
  let q13 : (A3 Rt) := (aP_ (wl 1) (wl 1) (wl 2) (wl 1))
  let q14 : Bool := (ct_ (⟨(wl 0), (wl 0), (wl 1)⟩ : (A3 W)) (wl 500) q11)
  let q15 : Bool := (dE_ (⟨(wl 0), (wl 0), (wl 1)⟩ : (A3 W)) (wl 500) q11)
  let q16 : Bool := (ct_ (⟨(wl 0), (wl 0), (wl 1)⟩ : (A3 W)) (wl 500) q12)
  let q17 : Bool := (dE_ (⟨(wl 0), (wl 0), (wl 1)⟩ : (A3 W)) (wl 500) q12)
  let q18 : Bool := (ct_ (⟨(wl 0), (wl 0), (wl 1)⟩ : (A3 W)) (wl 500) q13)
  let q19 : Bool := (dE_ (⟨(wl 0), (wl 0), (wl 1)⟩ : (A3 W)) (wl 500) q13)
  let q20 : (A3 Rt) := (aP_ (wl 1) (wl 0) (wl 4) (wl 1))
  let q21 : (List Rt) := (ay_ (⟨(wl 0), (wl 0), (wl 1)⟩ : (A3 W)) (wl 500) q20).1
  let q22 : Bool := (ay_ (⟨(wl 0), (wl 0), (wl 1)⟩ : (A3 W)) (wl 500) q20).2
  let q23 : (A3 Rt) := (aP_ (wl 0) (wl (-1)) (wl 2) (wl 1))
  let q24 : (List Rt) := (ay_ (⟨(wl 0), (wl 0), (wl 1)⟩ : (A3 W)) (wl 500) q23).1
  let q25 : Bool := (ay_ (⟨(wl 0), (wl 0), (wl 1)⟩ : (A3 W)) (wl 500) q23).2
  let q26 : (A3 Rt) := (aP_ (wl 0) (wl 0) (wl (-1)) (wl 1))
  let q27 : (List Rt) := (ay_ (⟨(wl 0), (wl 0), (wl 1)⟩ : (A3 W)) (wl 500) q26).1
  let q28 : Bool := (ay_ (⟨(wl 0), (wl 0), (wl 1)⟩ : (A3 W)) (wl 500) q26).2
  let q29 : (List Rt) := (cR_ [(wl 3), (wl 1), (wl 0), (wl 0)])
  let q30 : Bool := (bg_ q21 q29)
  let q31 : (List Rt) := (cR_ [(wl 0), (wl 0), (wl 0), (wl 2)])
  let q32 : Bool := (bg_ q24 q31)
  let q33 : (A3 Rt) := (aO_ q0 q21)
  (((q1.1 == 0) && ((q3.1 == 1) && ((q5.1 == 1) && q10))) && ((q14 && (q15 && (q16 && (!q17 && (!q18 && (!q19)))))) && (q22 && (q25 && (!q28 && (q30 && (q32 && (decide (q33.x.n = q20.x.n) && (decide (q33.x.d = q20.x.d) && (decide (q33.y.n = q20.y.n) && (decide (q33.y.d = q20.y.d) && (decide (q33.z.n = q20.z.n) && decide (q33.z.d = q20.z.d)))))))))))))
end Go.Num

