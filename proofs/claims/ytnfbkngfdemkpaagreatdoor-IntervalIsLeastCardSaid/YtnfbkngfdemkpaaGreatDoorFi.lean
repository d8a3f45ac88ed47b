/- What these functions compute, as plain functions. No program stands in it. -/
import Derived.Test.YtnfbkngfdemkpaaGreatDoorGD
import Derived.Test.YtnfbkngfdemkpaaGreatDoorFGc
import Derived.Test.YtnfbkngfdemkpaaGreatDoorFSg
import Derived.Test.YtnfbkngfdemkpaaGreatDoorFSl
import Derived.Test.YtnfbkngfdemkpaaGreatDoorFn
set_option linter.unusedVariables false
set_option linter.unusedSimpArgs false
namespace Go.Num
open Go Go.Kn
def F_ratio_Frac (a : W) (b : W) : Rt :=
  let r2 : Rt := (F_ratio_Make (E (Z.of a.1)) (E (Z.of b.1)))
  r2
def F_ratio_Sign (a : Rt) : W :=
  bif (F_ratio_Good a) then ((Z.signW a.n.dec)) else ((wl 0))
def F_ratio_Abs (a : Rt) : Rt :=
  bif decide ((F_ratio_Sign a).1 < 0) then ((F_ratio_Neg a)) else ((F_ratio_Neg (F_ratio_Neg a)))
def F_ratio_Div (a : Rt) (b : Rt) : Rt :=
  bif (F_ratio_Good b) then (let r5 : Rt := (F_ratio_Mul a (F_ratio_Make b.d b.n))
  r5) else (F_ratio_Bad)
def F_ratio_Mid (a : Rt) (b : Rt) : Rt :=
  let r4 : Rt := (F_ratio_Mul (F_ratio_Add a b) (F_ratio_Frac (wl 1) (wl 2)))
  r4
def F_ratio_Min (a : Rt) (b : Rt) : Rt :=
  bif (!(F_ratio_Good a) || (!(F_ratio_Good b))) then (F_ratio_Bad) else (bif decide (0 < (F_ratio_Cmp a b).1) then (b) else (a))
def F_ratio_Max (a : Rt) (b : Rt) : Rt :=
  bif (!(F_ratio_Good a) || (!(F_ratio_Good b))) then (F_ratio_Bad) else (bif decide ((F_ratio_Cmp a b).1 < 0) then (b) else (a))
def F_ratio_Dyadic (a : Rt) (b : W) : Rt × Rt :=
  bif (!(F_ratio_Good a) || (decide (b.1 < 0) || decide (256 < b.1))) then ((F_ratio_Bad, F_ratio_Bad)) else (let r12 : Rt := (F_ratio_Make (E (Z.quo (Z.shl a.n.dec b.1) a.d.dec)) (E (Z.shl F_ratio_one.dec b.1)))
  let r13 : Rt := (F_ratio_Make (E (Z.neg (Z.quo (Z.neg (Z.shl a.n.dec b.1)) a.d.dec))) (E (Z.shl F_ratio_one.dec b.1)))
  bif (!(F_ratio_Good r12) || (!(F_ratio_Good r13))) then ((F_ratio_Bad, F_ratio_Bad)) else ((r12, r13)))
def F_skewbackref04_Sign (a : Rt) : W :=
  bif (F_skewbackref04_Good a) then ((Z.signW a.n.dec)) else ((wl 0))
def F_skewbackref04_Div (a : Rt) (b : Rt) : Rt :=
  bif (F_skewbackref04_Good b) then (let r5 : Rt := (F_skewbackref04_Mul a (F_skewbackref04_Make b.d b.n))
  r5) else (F_skewbackref04_Bad)
def F_skewbackref04_Mid (a : Rt) (b : Rt) : Rt :=
  let r4 : Rt := (F_skewbackref04_Frac (wl 1) (wl 2))
  let r5 : Rt := (F_skewbackref04_Mul (F_skewbackref04_Add a b) r4)
  r5
def F_skewbackref04_Min (a : Rt) (b : Rt) : Rt :=
  bif (!(F_skewbackref04_Good a) || (!(F_skewbackref04_Good b))) then (F_skewbackref04_Bad) else (bif decide ((F_skewbackref04_Cmp a b).1 ≤ 0) then (a) else (b))
def F_skewbackref04_Max (a : Rt) (b : Rt) : Rt :=
  let r4 : Rt := (F_skewbackref04_Min (F_skewbackref04_Neg a) (F_skewbackref04_Neg b))
  (F_skewbackref04_Neg r4)
def F_skewbackref04_Dyadic (a : Rt) (b : W) : Iv :=
  bif (!(F_skewbackref04_Good a) || (decide (b.1 < 0) || decide (256 < b.1))) then ((⟨F_skewbackref04_Bad, F_skewbackref04_Bad⟩ : Iv)) else (let r13 : Rt := (F_skewbackref04_Make (E (Z.quo (F_skewbackref03_Shift a.n b).dec a.d.dec)) (F_skewbackref03_Shift F_skewbackref04_one b))
  let r14 : Rt := (F_skewbackref04_Make (E (Z.neg (Z.quo (Z.neg (F_skewbackref03_Shift a.n b).dec) a.d.dec))) (F_skewbackref03_Shift F_skewbackref04_one b))
  bif (!(F_skewbackref04_Good r13) || (!(F_skewbackref04_Good r14))) then ((⟨F_skewbackref04_Bad, F_skewbackref04_Bad⟩ : Iv)) else ((⟨r13, r14⟩ : Iv)))
def F_interval_Bad  : Iv :=
  let q0 : Rt := F_ratio_Bad
  (⟨q0, q0⟩ : Iv)
def F_interval_IsBad (a : Iv) : Bool :=
  ((decide (a.lo.n = F_interval_Bad.lo.n) && (decide (a.lo.d = F_interval_Bad.lo.d) && (decide (a.hi.n = F_interval_Bad.hi.n) && decide (a.hi.d = F_interval_Bad.hi.d)))) || (!(F_ratio_Good a.lo) || (!(F_ratio_Good a.hi) || decide (0 < (F_ratio_Cmp a.lo a.hi).1))))
def F_interval_Make (a : Rt) (b : Rt) : Iv :=
  bif (F_interval_IsBad (⟨a, b⟩ : Iv)) then (F_interval_Bad) else ((⟨a, b⟩ : Iv))
def F_interval_Of (a : Rt) : Iv :=
  let r3 : Iv := (F_interval_Make a a)
  r3
def F_interval_right_loop0 (l : (List Iv)) : List Iv → (Unit) ⊕ (Bool)
  | [] => .inl ()
  | x0 :: l0 => bif (F_interval_IsBad x0) then (.inr (false)) else ((F_interval_right_loop0 l l0))
def F_interval_right (l : (List Iv)) : Bool :=
  sm (fun (s : Unit) => true) (fun r => r) (F_interval_right_loop0 l l)
def F_interval_Add (a : Iv) (b : Iv) : Iv :=
  bif (F_interval_right [a, b]) then (let r6 : Iv := (F_interval_Make (F_ratio_Add a.lo b.lo) (F_ratio_Add a.hi b.hi))
  r6) else (F_interval_Bad)
def F_interval_Neg (a : Iv) : Iv :=
  bif (F_interval_right [a]) then (let r5 : Iv := (F_interval_Make (F_ratio_Neg a.hi) (F_ratio_Neg a.lo))
  r5) else (F_interval_Bad)
def F_interval_Sub (a : Iv) (b : Iv) : Iv :=
  let r4 : Iv := (F_interval_Neg b)
  let r5 : Iv := (F_interval_Add a r4)
  r5
def F_interval_Hull_loop0 (l : (List Iv)) : List Iv → Iv → Iv
  | [], mb6 => mb6
  | x0 :: l0, mb6 => (F_interval_Hull_loop0 l l0 (⟨(F_ratio_Min mb6.lo x0.lo), (F_ratio_Max mb6.hi x0.hi)⟩ : Iv))
def F_interval_Hull (l : (List Iv)) : Iv :=
  bif (((((l).length : Nat) : Int) == 0) || (!(F_interval_right l))) then (F_interval_Bad) else (ap (fun (s : Iv) => let mb6 : Iv := s
  mb6) (F_interval_Hull_loop0 l (l.drop 1) (l.getD 0 Iv0)))
def F_interval_Has (a : Iv) (b : Rt) : Bool :=
  ((F_interval_right [a]) && ((F_ratio_Good b) && (decide ((F_ratio_Cmp a.lo b).1 ≤ 0) && decide ((F_ratio_Cmp b a.hi).1 ≤ 0))))
def F_interval_Cmp (a : Iv) (b : Iv) : W :=
  bif (F_interval_right [a, b]) then (bif decide ((F_ratio_Cmp a.hi b.lo).1 < 0) then ((wl (-1))) else (bif decide (0 < (F_ratio_Cmp a.lo b.hi).1) then ((wl 1)) else ((wl 0)))) else ((wl 0))
def F_interval_Meet (a : Iv) (b : Iv) : Iv × Bool :=
  bif (!(F_interval_right [a, b]) || ((F_interval_Cmp a b).1 != 0)) then ((F_interval_Bad, false)) else (let r11 : Iv := (F_interval_Make (F_ratio_Max a.lo b.lo) (F_ratio_Min a.hi b.hi))
  (r11, true))
def F_interval_Inside (a : Iv) (b : Iv) : Bool :=
  ((F_interval_right [a]) && ((F_interval_Has b a.lo) && (F_interval_Has b a.hi)))
def F_interval_Mul (a : Iv) (b : Iv) : Iv :=
  bif (F_interval_right [a, b]) then (let r16 : Iv := (F_interval_Of (F_ratio_Mul a.lo b.lo))
  let r17 : Iv := (F_interval_Of (F_ratio_Mul a.lo b.lo))
  let r19 : Iv := (F_interval_Hull [r16, r17])
  let r21 : Iv := (F_interval_Of (F_ratio_Mul a.lo b.hi))
  let r23 : Iv := (F_interval_Hull [r19, r21])
  let r25 : Iv := (F_interval_Of (F_ratio_Mul a.hi b.lo))
  let r27 : Iv := (F_interval_Hull [r23, r25])
  let r29 : Iv := (F_interval_Of (F_ratio_Mul a.hi b.hi))
  let r31 : Iv := (F_interval_Hull [r27, r29])
  r31) else (F_interval_Bad)
def F_interval_Div (a : Iv) (b : Iv) : Iv :=
  bif (F_interval_Has b (F_ratio_Of (wl 0))) then (F_interval_Bad) else (bif (F_interval_right [a, b]) then (let r17 : Iv := (F_interval_Of (F_ratio_Div a.lo b.lo))
  let r18 : Iv := (F_interval_Of (F_ratio_Div a.lo b.lo))
  let r20 : Iv := (F_interval_Hull [r17, r18])
  let r22 : Iv := (F_interval_Of (F_ratio_Div a.lo b.hi))
  let r24 : Iv := (F_interval_Hull [r20, r22])
  let r26 : Iv := (F_interval_Of (F_ratio_Div a.hi b.lo))
  let r28 : Iv := (F_interval_Hull [r24, r26])
  let r30 : Iv := (F_interval_Of (F_ratio_Div a.hi b.hi))
  let r32 : Iv := (F_interval_Hull [r28, r30])
  r32) else (F_interval_Bad))
def F_interval_Abs (a : Iv) : Iv :=
  bif (F_interval_right [a]) then (bif decide (0 ≤ (F_ratio_Sign a.lo).1) then (a) else (bif decide ((F_ratio_Sign a.hi).1 ≤ 0) then (let r7 : Iv := (F_interval_Neg a)
  r7) else (let r8 : Rt := (F_ratio_Max (F_ratio_Neg a.lo) a.hi)
  let r9 : Iv := (F_interval_Make (F_ratio_Of (wl 0)) r8)
  r9))) else (a)
def F_interval_Power_loop0 (a : Iv) (b : W) (r13 : Iv) (r16 : Iv) : Nat → W → Iv → W × Iv
  | 0, i, mb17 => (i, mb17)
  | k0 + 1, i, mb17 => bif decide (i.1 < b.1) then ((F_interval_Power_loop0 a b r13 r16 k0 (W.add i (wl 1)) (⟨(F_ratio_Mul mb17.lo r13.lo), (F_ratio_Mul mb17.hi r13.hi)⟩ : Iv))) else ((i, mb17))
def F_interval_Power (a : Iv) (b : W) : Iv :=
  bif (!(F_interval_right [a]) || (decide (b.1 < 0) || decide (32 < b.1))) then (F_interval_Bad) else (let r13 : Iv := (⟨(⟨(bif ((W.rem b (wl 2)).1 == 0) then (((F_interval_Abs a).lo).n) else a.lo.n), (bif ((W.rem b (wl 2)).1 == 0) then (((F_interval_Abs a).lo).d) else a.lo.d)⟩ : Rt), (⟨(bif ((W.rem b (wl 2)).1 == 0) then (((F_interval_Abs a).hi).n) else a.hi.n), (bif ((W.rem b (wl 2)).1 == 0) then (((F_interval_Abs a).hi).d) else a.hi.d)⟩ : Rt)⟩ : Iv)
  let r16 : Iv := (F_interval_Of (F_ratio_Of (wl 1)))
  ap (fun (s : W × Iv) => let i : W := s.1
  let mb17 : Iv := s.2
  let r22 : Iv := (F_interval_Make mb17.lo mb17.hi)
  r22) (F_interval_Power_loop0 a b r13 r16 (b.1.toNat + 1) (wl 0) r16))
def F_interval_Width (a : Iv) : Rt :=
  bif (F_interval_right [a]) then ((F_ratio_Sub a.hi a.lo)) else (F_ratio_Bad)
def F_interval_Split (a : Iv) : Iv × Iv :=
  bif (F_interval_right [a]) then (let r7 : Iv := (F_interval_Make a.lo (F_ratio_Mid a.lo a.hi))
  let r8 : Iv := (F_interval_Make (F_ratio_Mid a.lo a.hi) a.hi)
  (r7, r8)) else ((F_interval_Bad, F_interval_Bad))
def F_interval_Widen (a : Iv) (b : W) : Iv :=
  bif (F_interval_right [a]) then (let r9 : Iv := (F_interval_Make ((F_ratio_Dyadic a.lo b).1) ((F_ratio_Dyadic a.hi b).2))
  r9) else (F_interval_Bad)
def F_skewbackref05_Bad  : Iv :=
  let q0 : Rt := F_skewbackref04_Bad
  (⟨q0, q0⟩ : Iv)
def F_skewbackref05_IsBad (a : Iv) : Bool :=
  bif (!(F_skewbackref04_Good a.lo) || (!(F_skewbackref04_Good a.hi))) then (true) else ((decide (0 < (F_skewbackref04_Cmp a.lo a.hi).1)))
def F_skewbackref05_Make (a : Rt) (b : Rt) : Iv :=
  bif (F_skewbackref05_IsBad (⟨a, b⟩ : Iv)) then (let r6 : Iv := F_skewbackref05_Bad
  r6) else ((⟨a, b⟩ : Iv))
def F_skewbackref05_Add (a : Iv) (b : Iv) : Iv :=
  bif ((F_skewbackref05_IsBad a) || (F_skewbackref05_IsBad b)) then (let r8 : Iv := F_skewbackref05_Bad
  r8) else (let r9 : Iv := (F_skewbackref05_Make (F_skewbackref04_Add a.lo b.lo) (F_skewbackref04_Add a.hi b.hi))
  r9)
def F_skewbackref05_Sub (a : Iv) (b : Iv) : Iv :=
  bif ((F_skewbackref05_IsBad a) || (F_skewbackref05_IsBad b)) then (let r8 : Iv := F_skewbackref05_Bad
  r8) else (let r9 : Iv := (F_skewbackref05_Make (F_skewbackref04_Sub a.lo b.hi) (F_skewbackref04_Sub a.hi b.lo))
  r9)
def F_skewbackref05_Neg (a : Iv) : Iv :=
  bif (F_skewbackref05_IsBad a) then (let r4 : Iv := F_skewbackref05_Bad
  r4) else (let r5 : Iv := (F_skewbackref05_Make (F_skewbackref04_Neg a.hi) (F_skewbackref04_Neg a.lo))
  r5)
def F_skewbackref05_around_loop0 (l : (List Rt)) : List Rt → Rt → Rt → (Rt × Rt) ⊕ (Iv)
  | [], mb3, mb2 => .inl (mb3, mb2)
  | x0 :: l0, mb3, mb2 => bif (F_skewbackref04_Good x0) then ((F_skewbackref05_around_loop0 l l0 (F_skewbackref04_Max mb3 x0) (F_skewbackref04_Min mb2 x0))) else (let r16 : Iv := F_skewbackref05_Bad
  .inr (r16))
def F_skewbackref05_around (l : (List Rt)) : Iv :=
  sm (fun (s : Rt × Rt) => let mb3 : Rt := s.1
  let mb2 : Rt := s.2
  let r22 : Iv := (F_skewbackref05_Make mb2 mb3)
  r22) (fun r => r) (F_skewbackref05_around_loop0 l l (l.getD 0 Rt0) (l.getD 0 Rt0))
def F_skewbackref05_Has (a : Iv) (b : Rt) : Bool :=
  bif ((F_skewbackref05_IsBad a) || (!(F_skewbackref04_Good b))) then (false) else ((decide ((F_skewbackref04_Cmp a.lo b).1 ≤ 0) && decide ((F_skewbackref04_Cmp b a.hi).1 ≤ 0)))
def F_skewbackref05_Mul (a : Iv) (b : Iv) : Iv :=
  bif ((F_skewbackref05_IsBad a) || (F_skewbackref05_IsBad b)) then (let r8 : Iv := F_skewbackref05_Bad
  r8) else (let r10 : Iv := (F_skewbackref05_around [(F_skewbackref04_Mul a.lo b.lo), (F_skewbackref04_Mul a.lo b.hi), (F_skewbackref04_Mul a.hi b.lo), (F_skewbackref04_Mul a.hi b.hi)])
  r10)
def F_skewbackref05_Div (a : Iv) (b : Iv) : Iv :=
  bif ((F_skewbackref05_IsBad a) || ((F_skewbackref05_IsBad b) || (F_skewbackref05_Has b (F_skewbackref04_Of (wl 0))))) then (let r10 : Iv := F_skewbackref05_Bad
  r10) else (let r12 : Iv := (F_skewbackref05_around [(F_skewbackref04_Div a.lo b.lo), (F_skewbackref04_Div a.lo b.hi), (F_skewbackref04_Div a.hi b.lo), (F_skewbackref04_Div a.hi b.hi)])
  r12)
def F_skewbackref05_Abs (a : Iv) : Iv :=
  bif (F_skewbackref05_IsBad a) then (let r4 : Iv := F_skewbackref05_Bad
  r4) else (bif decide (0 ≤ (F_skewbackref04_Sign a.lo).1) then (a) else (bif decide ((F_skewbackref04_Sign a.hi).1 ≤ 0) then (let r7 : Iv := (F_skewbackref05_Neg a)
  r7) else (let r8 : Rt := (F_skewbackref04_Max (F_skewbackref04_Neg a.lo) a.hi)
  let r9 : Iv := (F_skewbackref05_Make (F_skewbackref04_Of (wl 0)) r8)
  r9)))
def F_skewbackref05_power_loop0 (a : Rt) (b : W) : Nat → W → Rt → W × Rt
  | 0, i, mb3 => (i, mb3)
  | k0 + 1, i, mb3 => bif decide (i.1 < b.1) then ((F_skewbackref05_power_loop0 a b k0 (W.add i (wl 1)) (F_skewbackref04_Mul mb3 a))) else ((i, mb3))
def F_skewbackref05_power (a : Rt) (b : W) : Rt :=
  ap (fun (s : W × Rt) => let i : W := s.1
  let mb3 : Rt := s.2
  mb3) (F_skewbackref05_power_loop0 a b (b.1.toNat + 1) (wl 0) (F_skewbackref04_Of (wl 1)))
def F_skewbackref05_Power (a : Iv) (b : W) : Iv :=
  bif ((F_skewbackref05_IsBad a) || (decide (b.1 < 0) || decide (32 < b.1))) then (let r9 : Iv := F_skewbackref05_Bad
  r9) else (bif ((W.rem b (wl 2)).1 == 0) then (let r12 : Iv := (F_skewbackref05_Abs a)
  let r13 : Iv := (F_skewbackref05_Make (F_skewbackref05_power r12.lo b) (F_skewbackref05_power r12.hi b))
  r13) else (let r14 : Iv := (F_skewbackref05_Make (F_skewbackref05_power a.lo b) (F_skewbackref05_power a.hi b))
  r14))
def F_skewbackref05_Hull_loop0 (l : (List Iv)) : List Iv → Iv → (Iv) ⊕ (Iv)
  | [], mb4 => .inl mb4
  | x0 :: l0, mb4 => bif (F_skewbackref05_IsBad x0) then (let r18 : Iv := F_skewbackref05_Bad
  .inr (r18)) else (let r19 : Iv := (F_skewbackref05_Make (F_skewbackref04_Min mb4.lo x0.lo) (F_skewbackref04_Max mb4.hi x0.hi))
  (F_skewbackref05_Hull_loop0 l l0 r19))
def F_skewbackref05_Hull (l : (List Iv)) : Iv :=
  bif ((((l).length : Nat) : Int) == 0) then (let r3 : Iv := F_skewbackref05_Bad
  r3) else (sm (fun (s : Iv) => let mb4 : Iv := s
  mb4) (fun r => r) (F_skewbackref05_Hull_loop0 l l (l.getD 0 Iv0)))
def F_skewbackref05_Meet (a : Iv) (b : Iv) : Met :=
  bif ((F_skewbackref05_IsBad a) || (F_skewbackref05_IsBad b)) then (let r8 : Iv := F_skewbackref05_Bad
  (⟨r8, false⟩ : Met)) else (let r9 : Iv := (F_skewbackref05_Make (F_skewbackref04_Max a.lo b.lo) (F_skewbackref04_Min a.hi b.hi))
  (⟨r9, (!(F_skewbackref05_IsBad r9))⟩ : Met))
def F_skewbackref05_Inside (a : Iv) (b : Iv) : Bool :=
  bif ((F_skewbackref05_IsBad a) || (F_skewbackref05_IsBad b)) then (false) else (((F_skewbackref05_Has b a.lo) && (F_skewbackref05_Has b a.hi)))
def F_skewbackref05_Cmp (a : Iv) (b : Iv) : W :=
  bif ((F_skewbackref05_IsBad a) || (F_skewbackref05_IsBad b)) then ((wl 0)) else (bif decide ((F_skewbackref04_Cmp a.hi b.lo).1 < 0) then ((wl (-1))) else (bif decide (0 < (F_skewbackref04_Cmp a.lo b.hi).1) then ((wl 1)) else ((wl 0))))
def F_skewbackref05_Width (a : Iv) : Rt :=
  bif (F_skewbackref05_IsBad a) then (F_skewbackref04_Bad) else ((F_skewbackref04_Sub a.hi a.lo))
def F_skewbackref05_Split (a : Iv) : (A2 Iv) :=
  bif (F_skewbackref05_IsBad a) then (let r4 : Iv := F_skewbackref05_Bad
  let r5 : Iv := F_skewbackref05_Bad
  (⟨r4, r5⟩ : (A2 Iv))) else (let r7 : Iv := (F_skewbackref05_Make a.lo (F_skewbackref04_Mid a.lo a.hi))
  let r8 : Iv := (F_skewbackref05_Make (F_skewbackref04_Mid a.lo a.hi) a.hi)
  (⟨r7, r8⟩ : (A2 Iv)))
def F_skewbackref05_Widen (a : Iv) (b : W) : Iv :=
  bif (F_skewbackref05_IsBad a) then (let r4 : Iv := F_skewbackref05_Bad
  r4) else (let r5 : Iv := (F_skewbackref04_Dyadic a.lo b)
  let r7 : Iv := (F_skewbackref04_Dyadic a.hi b)
  let r9 : Iv := (F_skewbackref05_Make r5.lo r7.hi)
  r9)
def F_skewbackref05_Right (a : Iv) : Bool :=
  (!(F_skewbackref05_IsBad a) || (decide (a.lo.n = F_skewbackref05_Bad.lo.n) && (decide (a.lo.d = F_skewbackref05_Bad.lo.d) && (decide (a.hi.n = F_skewbackref05_Bad.hi.n) && decide (a.hi.d = F_skewbackref05_Bad.hi.d)))))
def F_skewbacklaw05_of (a : W) (b : W) : Iv :=
  let r2 : Iv := (F_interval_Make (F_ratio_Of a) (F_ratio_Of b))
  r2
def F_skewbacklaw05_between (a : W) (b : W) (c : W) (d : W) : Iv :=
  (⟨(F_skewbackref04_Frac a b), (F_skewbackref04_Frac c d)⟩ : Iv)
def F_skewbacklaw05_sanity  : Bool :=
  let q0 : Iv := (F_skewbacklaw05_of (wl 1) (wl 2))
  let q1 : Iv := (F_skewbacklaw05_of (wl (-1)) (wl 3))
  let q2 : Iv := (F_interval_Add q0 q1)
  let q3 : Iv := (F_skewbacklaw05_between (wl 0) (wl 1) (wl 5) (wl 1))
  let q4 : Iv := (F_interval_Sub q0 q1)
  let q5 : Iv := (F_skewbacklaw05_between (wl (-2)) (wl 1) (wl 3) (wl 1))
  let q6 : Iv := (F_skewbacklaw05_of (wl (-1)) (wl 2))
  let q7 : Iv := (F_skewbacklaw05_of (wl (-3)) (wl 1))
  let q8 : Iv := (F_interval_Mul q6 q7)
  let q9 : Iv := (F_skewbacklaw05_between (wl (-6)) (wl 1) (wl 3) (wl 1))
  let q10 : Iv := (F_skewbacklaw05_of (wl 4) (wl 8))
  let q11 : Iv := (F_interval_Div q0 q10)
  let q12 : Iv := (F_skewbacklaw05_between (wl 1) (wl 8) (wl 1) (wl 2))
  let q13 : Iv := (F_skewbacklaw05_of (wl (-1)) (wl 1))
  let q14 : Iv := (F_interval_Div q0 q13)
  let q15 : Bool := (F_interval_IsBad q14)
  let q16 : Iv := (F_skewbacklaw05_of (wl (-3)) (wl 2))
  let q17 : Iv := (F_interval_Abs q16)
  let q18 : Iv := (F_skewbacklaw05_between (wl 0) (wl 1) (wl 3) (wl 1))
  let q19 : Iv := (F_interval_Power q16 (wl 2))
  let q20 : Iv := (F_skewbacklaw05_between (wl 0) (wl 1) (wl 9) (wl 1))
  let q21 : Iv := (F_interval_Power q16 (wl 3))
  let q22 : Iv := (F_skewbacklaw05_between (wl (-27)) (wl 1) (wl 8) (wl 1))
  let q23 : Iv := (F_skewbacklaw05_of (wl 0) (wl 3))
  let q24 : Iv := (F_skewbacklaw05_of (wl 2) (wl 5))
  let q25 : Iv := (F_interval_Meet q23 q24).1
  let q26 : Bool := (F_interval_Meet q23 q24).2
  let q27 : Iv := (F_skewbacklaw05_of (wl 0) (wl 1))
  let q28 : Iv := (F_skewbacklaw05_of (wl 2) (wl 3))
  let q29 : Iv := (F_interval_Meet q27 q28).1
  let q30 : Bool := (F_interval_Meet q27 q28).2
  let q31 : Iv := (F_skewbacklaw05_of (wl 3) (wl 4))
  let q32 : Iv := (F_interval_Hull [q27, q31])
  let q33 : Iv := (F_skewbacklaw05_between (wl 0) (wl 1) (wl 4) (wl 1))
  let q34 : Iv := (F_skewbacklaw05_between (wl 2) (wl 1) (wl 3) (wl 1))
  let q35 : Iv := (F_interval_Split q27).1
  let q36 : Iv := (F_interval_Split q27).2
  let q37 : Rt := (F_ratio_Frac (wl 1) (wl 3))
  let q38 : Rt := (F_ratio_Frac (wl 2) (wl 5))
  let q39 : Iv := (F_interval_Make q37 q38)
  let q40 : Iv := (F_interval_Widen q39 (wl 2))
  let q41 : Iv := (F_skewbacklaw05_between (wl 1) (wl 4) (wl 1) (wl 2))
  let q42 : Iv := (F_skewbacklaw05_between (wl 0) (wl 1) (wl 1) (wl 2))
  let q43 : Iv := (F_skewbacklaw05_between (wl 1) (wl 2) (wl 1) (wl 1))
  let q44 : Iv := F_interval_Bad
  let q45 : Iv := F_skewbackref05_Bad
  (((decide (q2.lo.n = q3.lo.n) && (decide (q2.lo.d = q3.lo.d) && (decide (q2.hi.n = q3.hi.n) && decide (q2.hi.d = q3.hi.d)))) && (decide (q4.lo.n = q5.lo.n) && (decide (q4.lo.d = q5.lo.d) && (decide (q4.hi.n = q5.hi.n) && decide (q4.hi.d = q5.hi.d))))) && (((decide (q8.lo.n = q9.lo.n) && (decide (q8.lo.d = q9.lo.d) && (decide (q8.hi.n = q9.hi.n) && decide (q8.hi.d = q9.hi.d)))) && ((decide (q11.lo.n = q12.lo.n) && (decide (q11.lo.d = q12.lo.d) && (decide (q11.hi.n = q12.hi.n) && decide (q11.hi.d = q12.hi.d)))) && q15)) && (((decide (q17.lo.n = q18.lo.n) && (decide (q17.lo.d = q18.lo.d) && (decide (q17.hi.n = q18.hi.n) && decide (q17.hi.d = q18.hi.d)))) && ((decide (q19.lo.n = q20.lo.n) && (decide (q19.lo.d = q20.lo.d) && (decide (q19.hi.n = q20.hi.n) && decide (q19.hi.d = q20.hi.d)))) && (decide (q21.lo.n = q22.lo.n) && (decide (q21.lo.d = q22.lo.d) && (decide (q21.hi.n = q22.hi.n) && decide (q21.hi.d = q22.hi.d)))))) && (((decide (q32.lo.n = q33.lo.n) && (decide (q32.lo.d = q33.lo.d) && (decide (q32.hi.n = q33.hi.n) && decide (q32.hi.d = q33.hi.d)))) && ((decide (q25.lo.n = q34.lo.n) && (decide (q25.lo.d = q34.lo.d) && (decide (q25.hi.n = q34.hi.n) && decide (q25.hi.d = q34.hi.d)))) && (q26 && (!q30)))) && (((decide (q40.lo.n = q41.lo.n) && (decide (q40.lo.d = q41.lo.d) && (decide (q40.hi.n = q41.hi.n) && decide (q40.hi.d = q41.hi.d)))) && ((decide (q35.lo.n = q42.lo.n) && (decide (q35.lo.d = q42.lo.d) && (decide (q35.hi.n = q42.hi.n) && decide (q35.hi.d = q42.hi.d)))) && (decide (q36.lo.n = q43.lo.n) && (decide (q36.lo.d = q43.lo.d) && (decide (q36.hi.n = q43.hi.n) && decide (q36.hi.d = q43.hi.d)))))) && (decide (q44.lo.n = q45.lo.n) && (decide (q44.lo.d = q45.lo.d) && (decide (q44.hi.n = q45.hi.n) && decide (q44.hi.d = q45.hi.d)))))))))
def F_skewbacklaw05_few (a : Rt) (b : W) : Bool :=
  ((F_skewbackref04_Good a) && (decide ((Z.bitsW a.n.dec).1 ≤ b.1) && decide ((Z.bitsW a.d.dec).1 ≤ b.1)))
def F_skewbacklaw05_short (a : Iv) (b : W) : Bool :=
  (!(F_skewbackref05_IsBad a) && ((F_skewbacklaw05_few a.lo b) && (F_skewbacklaw05_few a.hi b)))
def F_skewbacklaw05_clamp (a : Iv) (b : Rt) : Rt :=
  let r4 : Rt := (F_ratio_Max a.lo (F_ratio_Min a.hi b))
  r4
def F_skewbacklaw05_attained_loop0 (a : Iv) (l : (List Rt)) : List Rt → Bool → Bool → Bool × Bool
  | [], lo, hi => (lo, hi)
  | x0 :: l0, lo, hi => (F_skewbacklaw05_attained_loop0 a l l0 (lo || (decide (a.lo.n = x0.n) && decide (a.lo.d = x0.d))) (hi || (decide (a.hi.n = x0.n) && decide (a.hi.d = x0.d))))
def F_skewbacklaw05_attained (a : Iv) (l : (List Rt)) : Bool :=
  ap (fun (s : Bool × Bool) => let lo : Bool := s.1
  let hi : Bool := s.2
  (lo && hi)) (F_skewbacklaw05_attained_loop0 a l l false false)
end Go.Num
