/- Lemmas: what they ask stands in their statements. -/
import Derived.Test.YtkjjponijamaoaaGreatDoorYLa
set_option linter.unusedSimpArgs false
set_option linter.unusedVariables false

namespace Go.Num
open Go Go.Kn
structure Iv.Is (a:Iv) (n d m e:Int):Prop where
  lo:a.lo.Is n d
  hi:a.hi.Is m e
  le:n * e≤m * d
def Rt.At (a:Rt) (q:Rat):Prop:=a.Is q.num (q.den:Int)
structure Iv.At (a:Iv) (p q:Rat):Prop where
  lo:a.lo.At p
  hi:a.hi.At q
  le:p≤q
structure Sz (q:Rat) (k:Nat):Prop where
  n:q.num.natAbs<2 ^ k
  d:q.den<2 ^ k
theorem EE {a b:Nat} (h:a≤b):(2:Nat) ^ a≤2 ^ b:=Nat.pow_le_pow_right dd_ h
theorem nZ_ {v:Int} {k:Nat} (m:Nat) (hm:4294967296 ^ 16=2 ^ m) (h:v.natAbs<2 ^ k) (hk:k≤m):gR v:=by
  unfold gR;rw [hm];exact Nat.lt_of_lt_of_le h (EE hk)
theorem vF {v:Int} {k:Nat} (h:v.natAbs<2 ^ k) (hk:k≤512):gR v:=nZ_ 512 OU h hk
theorem Sz.mono {q:Rat} {j k:Nat} (h:Sz q j) (hk:j≤k):Sz q k:=⟨Nat.lt_of_lt_of_le h.n (EE hk),Nat.lt_of_lt_of_le h.d (EE hk)⟩
theorem Sz.bd {q:Rat} {k:Nat} (h:Sz q k) (hk:k≤512):gR (q.den:Int):=vF (by simpa using h.d) hk
theorem xX {a b j k:Nat} (h:a<2 ^ j) (g:b<2 ^ k):a * b<2 ^ (j+k):=by
  rw [Nat.pow_add];exact Nat.mul_lt_mul_of_lt_of_le h (Nat.le_of_lt g) (Nat.pow_pos dd_)
theorem Sz.mul {p q:Rat} {j k:Nat} (h:Sz p j) (g:Sz q k):Sz (p * q) (j+k):=by
  constructor
  · rw [Rat.num_mul]
    refine Nat.lt_of_le_of_lt (Int.natAbs_ediv_le_natAbs _ _) ?_;rw [Int.natAbs_mul];exact xX h.n g.n
  rw [Rat.den_mul];exact Nat.lt_of_le_of_lt (Nat.div_le_self _ _) (xX h.d g.d)
theorem Sz.neg {p:Rat} {k:Nat} (h:Sz p k):Sz (-p) k:=⟨by rw [Rat.neg_num,Int.natAbs_neg];exact h.n,h.d⟩
theorem dB_ {n m:Int} {d e j k:Nat} (h1:n.natAbs<2 ^ j) (h2:e<2 ^ k) (h3:m.natAbs<2 ^ k) (h4:d<2 ^ j):(n * e+m * d).natAbs<2 ^ (j+k+1):=by
  have a:=xX h1 h2;have b:=xX h4 h3;have c:=Int.natAbs_add_le (n * e) (m * d);rw [Int.natAbs_mul,Int.natAbs_mul,Int.natAbs_natCast,Int.natAbs_natCast] at c;rw [Nat.pow_succ];rw [Nat.mul_comm d] at b;omega
theorem Sz.add {p q:Rat} {j k:Nat} (h:Sz p j) (g:Sz q k):Sz (p+q) (j+k+1):=by
  constructor
  · rw [Rat.num_add]
    exact Nat.lt_of_le_of_lt (Int.natAbs_ediv_le_natAbs _ _) (dB_ h.n g.d g.n h.d)
  rw [Rat.den_add];exact Nat.lt_of_le_of_lt (Nat.div_le_self _ _) (Nat.lt_of_lt_of_le (xX h.d g.d) (EE oo_))
theorem Sz.int {n:Int} {k:Nat} (h:n.natAbs<2 ^ k) (hk:0<k):Sz (n:Rat) k:=⟨h,Nat.one_lt_two_pow oo_⟩
theorem At.is {a:Rt} {q:Rat} (h:a.At q):a.Is q.num (q.den:Int):=h
theorem sB {v:Int} (h:v.natAbs<2 ^ 64):gR v:=Nat.lt_of_lt_of_le h dd_
def W.b (a:W):BitVec 64:=BitVec.ofInt 64 a.1
theorem WZ:F_skewbacklaw26_sanity=true:=by kernel_rfl
end Go.Num

