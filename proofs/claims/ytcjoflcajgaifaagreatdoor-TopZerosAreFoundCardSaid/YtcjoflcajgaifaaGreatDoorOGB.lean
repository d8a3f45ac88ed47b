/- Lemmas: what they ask stands in their statements. -/
import GoSem.Core.Value
import Derived.Test.YtcjoflcajgaifaaGreatDoorOGA
set_option linter.unusedSimpArgs false
set_option linter.unusedVariables false
namespace Go.Num
open Go
def val:List Nat→Nat
 | []=>0
 | d::l=>d+4294967296*val l
def Lim (l:List Nat):Prop:=∀ d∈l,d<4294967296
def toL:Nat→Nat→List Nat
 | 0,_=>[]
 | k+1,n=>n % 4294967296::toL k (n / 4294967296)
theorem cM:∀ k n,(toL k n).length=k
 | 0,_=>rfl
 | k+1,n=>by simp [toL,cM k]
theorem kE:∀ k n,Lim (toL k n)
 | 0,_=>by intro d h;cases h
 | k+1,n=>by
  intro d h;simp only [toL,List.mem_cons] at h;rcases h with rfl|h
  ·omega
  exact kE k _ d h
theorem oO:∀ k n,val (toL k n)=n % 4294967296 ^ k
 | 0,n=>by simp [toL,val,Nat.mod_one]
 | k+1,n=>by
  simp only [toL,val,oO k];rw [Nat.pow_succ,Nat.mul_comm (4294967296 ^ k),Nat.mod_mul]
theorem Lim.tail {d:Nat} {l:List Nat} (h:Lim (d::l)):Lim l:=fun x hx=>h x (List.mem_cons_of_mem _ hx)
theorem Lim.head {d:Nat} {l:List Nat} (h:Lim (d::l)):d<4294967296:=h d List.mem_cons_self
theorem v7:∀ l,Lim l→toL l.length (val l)=l
 | [],_=>rfl
 | d::l,h=>by
  have h0:=h.head;simp only [List.length_cons,toL,val];rw [show (d+4294967296*val l) % 4294967296=d by omega,show (d+4294967296*val l) / 4294967296=val l by omega,v7 l h.tail]
theorem uJ:∀ l,Lim l→val l<4294967296 ^ l.length
 | [],_=>by simp [val]
 | d::l,h=>by
  have h0:=h.head;have h1:=uJ l h.tail;simp only [val,List.length_cons,Nat.pow_succ]
  have:4294967296*val l+4294967296≤4294967296*4294967296 ^ l.length:=by
   rw [← Nat.mul_succ];exact Nat.mul_le_mul_left _ h1
  omega
theorem tC:∀ a b,val (a++b)=val a+4294967296 ^ a.length*val b
 | [],b=>by simp [val]
 | d::a,b=>by
  simp only [List.cons_append,val,tC a b,List.length_cons,Nat.pow_succ];rw [Nat.mul_add,← Nat.mul_assoc,Nat.mul_comm 4294967296 (4294967296 ^ a.length)];omega
theorem UJ {a b:List Nat} (ha:Lim a) (hb:Lim b) (hl:a.length=b.length) (h:val a=val b):a=b:=by
 rw [← v7 a ha,← v7 b hb,hl,h]
theorem mI:∀ n,val (List.replicate n 0)=0
 | 0=>rfl
 | n+1=>by simp [List.replicate_succ,val,mI n]
theorem qH (n:Nat):Lim (List.replicate n 0):=fun d h=>by rw [List.eq_of_mem_replicate h];decide
theorem aA_ (k:Nat):toL k 0=List.replicate k 0:=by
 refine UJ (kE _ _) (qH _) (by simp [cM]) (by rw [oO,mI];simp)
theorem yH {l:List Nat} (h:Lim l):val l=0 ↔ l=List.replicate l.length 0:=by
 constructor
 ·intro e;exact UJ h (qH _) (by simp) (by rw [e,mI])
 intro e;rw [e,mI]
def dig (n k:Nat):Nat:=n / 4294967296 ^ k % 4294967296
theorem nA (n k:Nat):dig n k<4294967296:=Nat.mod_lt _ (by decide)
theorem PR:∀ k n,toL (k+1) n=toL k n++[dig n k]
 | 0,n=>by simp [toL,dig]
 | k+1,n=>by
  rw [toL,PR k (n / 4294967296)];simp only [toL,List.cons_append]
  congr 3
  simp only [dig,Nat.div_div_eq_div_mul,Nat.pow_succ,Nat.mul_comm]
theorem dU:∀ (l:List Nat) (k:Nat),Lim l→l.getD k 0=dig (val l) k
 | [],k,_=>by simp [val,dig]
 | d::l,0,h=>by
  have:=h.head;simp only [val,dig,List.getD_cons_zero,Nat.pow_zero,Nat.div_one];omega
 | d::l,k+1,h=>by
  have h0:=h.head;simp only [val,List.getD_cons_succ];rw [dU l k h.tail];simp only [dig]
  congr 1
  rw [Nat.pow_succ,Nat.mul_comm (4294967296 ^ k),← Nat.div_div_eq_div_mul]
  congr 1
  omega
theorem oA (n k:Nat):n % 4294967296 ^ (k+1)=n % 4294967296 ^ k+4294967296 ^ k*dig n k:=by
 rw [Nat.pow_succ,Nat.mod_mul];rfl
def uP (k n r:Nat):List Nat:=toL k n++List.replicate (r - k) 0
theorem gL {k r:Nat} (n:Nat) (h:k≤r):(uP k n r).length=r:=by simp [uP,cM];omega
theorem vL (n r:Nat):uP 0 n r=List.replicate r 0:=by simp [uP,toL]
theorem yQ (n r:Nat):uP r n r=toL r n:=by simp [uP]
theorem uQ {k r:Nat} (n:Nat) (h:k<r):(uP k n r).set k (dig n k)=uP (k+1) n r:=by
 unfold uP;rw [List.set_append_right _ _ (by simp [cM]),cM,Nat.sub_self,PR];obtain ⟨m,hm⟩:∃ m,r - k=m+1:=⟨r - k - 1,by omega⟩;rw [hm,show r - (k+1)=m by omega,List.replicate_succ,List.set_cons_zero]
 simp
@[ext] structure Z where
 o:Option Int
 h:∀ v,o=some v→v.natAbs<4294967296 ^ 16
def Z.bad:Z:=⟨none,fun _ h=>by cases h⟩
def Z.of (v:Int):Z:=if h:v.natAbs<4294967296 ^ 16 then ⟨some v,fun u hu=>by cases hu;exact h⟩ else Z.bad
theorem Z.of_o (v:Int):(Z.of v).o=if v.natAbs<4294967296 ^ 16 then some v else none:=by
 unfold Z.of;split<;>rfl
theorem Z.of_some {v:Int} (h:v.natAbs<4294967296 ^ 16):(Z.of v).o=some v:=by rw [Z.of_o,if_pos h]
theorem Z.eq_of {z:Z} {v:Int} (h:z.o=some v):z=Z.of v:=by
 ext1;rw [h,Z.of_some (z.h v h)]
theorem Z.eq_bad {z:Z} (h:z.o=none):z=Z.bad:=by ext1;rw [h];rfl
structure R where
 bad:Bool
 neg:Bool
 w:List Nat
structure R.Ok (r:R):Prop where
 len:r.w.length=16
 lim:Lim r.w
def R.zero (r:R):Bool:=val r.w==0
def R.valid (r:R):Bool:=if r.bad then r.zero && !r.neg else !r.zero || !r.neg
def R.good (r:R):Bool:=!r.bad&&r.valid
def sgn (neg:Bool) (n:Nat):Int:=if neg then -(n:Int) else n
theorem kY (neg:Bool) (n:Nat):(sgn neg n).natAbs=n:=by cases neg<;>simp [sgn]
def R.dec (r:R):Z:=if r.good then Z.of (sgn r.neg (val r.w)) else Z.bad
def Z.enc (z:Z):R:=match z.o with
 | none=>⟨true,false,List.replicate 16 0⟩
 | some v=>⟨false,decide (v<0),toL 16 v.natAbs⟩
theorem Z.enc_ok (z:Z):z.enc.Ok:=by
 unfold Z.enc
 cases z.o with
 | none=>exact ⟨by simp,qH _⟩
 | some v=>exact ⟨cM _ _,kE _ _⟩
theorem Z.enc_good (z:Z):z.enc.good=z.o.isSome:=by
 unfold Z.enc
 cases hz:z.o with
 | none=>rfl
 | some v =>
  have hv:=z.h v hz;simp only [R.good,R.valid,R.zero,oO,Nat.mod_eq_of_lt hv,Bool.not_false,Bool.true_and,Bool.false_eq_true,if_false,Option.isSome_some]
  by_cases h:v<0
  ·have:(v.natAbs==0)=false:=by simp;omega
   simp [this]
  simp [h]
theorem vJ (z:Z):z.enc.dec=z:=by
 unfold R.dec;rw [Z.enc_good]
 cases hz:z.o with
 | none=>simp only [Option.isSome_none,Bool.false_eq_true,if_false];exact (Z.eq_bad hz).symm
 | some v =>
  have hv:=z.h v hz;simp only [Option.isSome_some,if_true];rw [Z.eq_of hz]
  congr 1
  have:(Z.of v).enc=⟨false,decide (v<0),toL 16 v.natAbs⟩:=by unfold Z.enc;rw [Z.of_some hv]
  rw [this];simp only [oO,Nat.mod_eq_of_lt hv,sgn]
  by_cases h:v<0
  ·simp [h];omega
  simp [h];omega
theorem bs_ {r:R} (h:r.Ok) (hv:r.good=true):r.dec.enc=r:=by
 obtain ⟨bad,neg,w⟩:=r;have hl:=uJ w h.lim;have hlen:w.length=16:=h.len;rw [hlen] at hl;unfold R.dec;rw [if_pos hv];have ho:(Z.of (sgn neg (val w))).o=some (sgn neg (val w)):=Z.of_some (by rw [kY];exact hl);unfold Z.enc;rw [ho];simp only [kY]
 have hw:toL 16 (val w)=w:=by rw [← hlen];exact v7 w h.lim
 rw [hw];simp only [R.good,R.valid,R.zero,Bool.and_eq_true,Bool.not_eq_true'] at hv;obtain ⟨hb,hv⟩:=hv;subst hb;simp only [Bool.false_eq_true,if_false,Bool.or_eq_true,Bool.not_eq_true',beq_eq_false_iff_ne] at hv
 congr 1
 cases neg
 ·simp [sgn]
 have h0:val w≠0:=by rcases hv with hv|hv;exact hv;cases hv
 have h1:(0:Int)<(val w:Int):=by omega
 simp only [sgn,if_true];exact decide_eq_true (by omega)
theorem qR {r:R} (h:r.good=false):r.dec=Z.bad:=by unfold R.dec;rw [h];rfl
theorem dQ {r:R} (h:r.Ok) (hg:r.good=true):r.dec.o=some (sgn r.neg (val r.w)):=by
 unfold R.dec;rw [if_pos hg];have hl:=uJ r.w h.lim;rw [h.len] at hl;exact Z.of_some (by rw [kY];exact hl)
theorem kS (neg:Bool) {w:List Nat} (hl:w.length=16) (hw:Lim w):(Z.of (sgn neg (val w))).enc=⟨false,neg && !(val w==0),w⟩:=by
 have h1:=uJ w hw;rw [hl] at h1;have ho:(Z.of (sgn neg (val w))).o=some (sgn neg (val w)):=Z.of_some (by rw [kY];exact h1);unfold Z.enc;rw [ho];simp only [kY];rw [show toL 16 (val w)=w by rw [← hl];exact v7 w hw]
 congr 1
 cases neg
 ·simp [sgn]
 by_cases h0:val w=0
 ·simp [sgn,h0]
 have h2:(val w==0)=false:=by simpa using h0
 have h3:(0:Int)<(val w:Int):=by omega
 simp only [sgn,if_true,h2,Bool.not_false,Bool.and_true];exact decide_eq_true (by omega)
def xE (f:Int→Int→Z) (a b:Z):Z:=match a.o,b.o with
 | some x,some y=>f x y
 | _,_=>Z.bad
def DE (f:Int→Z) (a:Z):Z:=match a.o with
 | some x=>f x
 | none=>Z.bad
def Z.add:Z→Z→Z:=xE fun x y=>Z.of (x+y)
def Z.neg:Z→Z:=DE fun x=>Z.of (-x)
def Z.abs:Z→Z:=DE fun x=>Z.of x.natAbs
def Z.sub (a b:Z):Z:=a.add b.neg
def Z.mul:Z→Z→Z:=xE fun x y=>Z.of (x*y)
def Z.quo:Z→Z→Z:=xE fun x y=>if y=0 then Z.bad else Z.of (x.fdiv y)
def Z.rem:Z→Z→Z:=xE fun x y=>if y=0 then Z.bad else Z.of (x.fmod y)
def Z.gcd:Z→Z→Z:=xE fun x y=>Z.of (Int.gcd x y)
def Z.sign (a:Z):Int:=match a.o with|some x=>x.sign|none=>0
def tH (x y:Int):Int:=if x<y then -1 else if x=y then 0 else 1
def Z.cmp (a b:Z):Int:=match a.o,b.o with
 | none,none=>0
 | none,some _=>-1
 | some _,none=>1
 | some x,some y=>tH x y
def Z.small (a:Z):Int×Bool:=match a.o with
 | some x=>if -9223372036854775808≤x∧x≤9223372036854775807 then (x,true) else (0,false)
 | none=>(0,false)
def U32 (n:Nat):Value:=.int .u32 n
def uw (l:List Nat):List Value:=l.map U32
def R.cells (r:R):List Value:=.bool r.bad::.bool r.neg::uw r.w
def UV (l:List Nat):Value:=.agg (uw l).toArray
def RV (r:R):Value:=.agg r.cells.toArray
theorem e8 (l:List Nat):(uw l).length=l.length:=by simp [uw]
theorem cJ {r:R} (h:r.Ok):r.cells.length=18:=by simp [R.cells,uw,h.len]
theorem aE_ {l:List Nat} {k:Nat} (h:k<l.length):(uw l)[k]? = some (U32 (l.getD k 0)):=by simp [uw,h]
theorem aF_ (l:List Nat) (k n:Nat):(uw l).set k (U32 n)=uw (l.set k n):=by simp [uw,List.map_set]
theorem aW_ {a b:Nat} (h:U32 a=U32 b):a=b:=by simp only [U32,Value.int.injEq,true_and] at h;omega
theorem HH:∀ {a b:List Nat},uw a=uw b→a=b
 | [],[],_=>rfl
 | x::a,y::b,h=>by
  simp only [uw,List.map_cons,List.cons.injEq] at h;rw [aW_ h.1,HH (a:=a) (b:=b) h.2]
 | [],_::_,h=>by cases h
 | _::_,[],h=>by cases h
open Go Go.Kn
theorem iU {r:R} (h:r.w.length=16):(r.cells.drop (0+2)).take 16=uw r.w:=by
 simp only [R.cells,Nat.zero_add,List.drop_succ_cons,List.drop_zero];exact List.take_of_length_le (by simp [uw,h])
theorem kA {l:List Nat} {n:Nat} (h:l.length=n):eY (uw l) (List.replicate n (some IntKind.u32))=true:=by
 subst h
 induction l with
 | nil=>rfl
 | cons d l ih=>simp only [uw,List.map_cons,List.length_cons,List.replicate_succ,eY,Bool.and_eq_true];exact ⟨rfl,ih⟩
theorem R.Ok.zero_iff {r:R} (h:r.Ok):r.zero=true ↔ uw r.w=uw (List.replicate 16 0):=by
 unfold R.zero;rw [beq_iff_eq,yH h.lim,h.len];exact ⟨fun e=>by rw [e],fun e=>HH e⟩
def zR:List Value:=.bool false::.bool false::uw (List.replicate 16 0)
theorem fL (l:List Nat):∀ v∈uw l,plain v=true:=fun v h=>by
 obtain ⟨n,_,rfl⟩:=List.mem_map.1 h;rfl
theorem bC (r:R):∀ v∈r.cells,plain v=true:=fun v h=>by
 simp only [R.cells,List.mem_cons] at h;rcases h with rfl|rfl|h
 ·rfl
 ·rfl
 exact fL _ v h
theorem YA {x:Bool} {w:List Nat} (hw:w.length=16):FillR (fun i=>([(0,1),(1,1),(2,16)]:List (Nat×Nat))[i]?) zR [(1,.bool x),(2,.agg (uw w).toArray)] (R.cells ⟨false,x,w⟩) :=
 .cons O (vs:=[.bool x]) O O (by simp [zR]) O (.cons O (vs:=uw w) O (by simp [uw,hw]) (by simp [zR,uw]) (by simp [zR,uw,R.cells]) (.nil _))
theorem X7 {a b:Int} {m n:Nat} (ha:a=m) (hb:b=n):FillR (fun i=>some (i*1,1)) (uw (List.replicate 16 0)) [(0,.int .u32 a),(1,.int .u32 b)] (uw (m::n::List.replicate 14 0)):=by
 subst ha;subst hb;exact .cons O (vs:=[U32 m]) O O (by simp [uw]) O (.cons O (vs:=[U32 n]) O O (by simp [uw]) O (.nil _))
theorem tG (n:Int):IntKind.u32.wrap n=n % 4294967296:=by simp [IntKind.wrap,IntKind.bits,IntKind.signed]
theorem kK (n:Int):IntKind.u64.wrap n=n % 18446744073709551616:=by simp [IntKind.wrap,IntKind.bits,IntKind.signed]
theorem HQ (n:Int):IntKind.i64.wrap n=if n % 18446744073709551616 ≥ 9223372036854775808 then n % 18446744073709551616 - 18446744073709551616 else n % 18446744073709551616:=by simp [IntKind.wrap,IntKind.bits,IntKind.signed]
def I64 (n:Int):Prop:=-9223372036854775808≤n∧n≤9223372036854775807
theorem bR {n:Int} (h:I64 n):IntKind.i64.wrap n=n:=by unfold I64 at h;rw [HQ];split<;>omega
theorem gg_ (a b:Nat) (n:Nat):val (a::b::List.replicate n 0)=a+4294967296*b:=by simp [val,mI]
theorem Y2 {a b:Nat} (ha:a<4294967296) (hb:b<4294967296) (n:Nat):Lim (a::b::List.replicate n 0):=fun d h=>by
 simp only [List.mem_cons] at h;rcases h with rfl|rfl|h
 ·exact ha
 ·exact hb
 exact qH _ _ h
theorem ZM {n:Int} {a b:Nat} (h:I64 n) (ha:a=n.natAbs % 4294967296) (hb:b=n.natAbs / 4294967296):R.mk false (decide (n<0) && !(val (a::b::List.replicate 14 0)==0)) (a::b::List.replicate 14 0)=(Z.of n).enc:=by
 unfold I64 at h
 have hn:n.natAbs≤9223372036854775808:=by omega
 have hv:val (a::b::List.replicate 14 0)=n.natAbs:=by rw [gg_];omega
 have hs:sgn (decide (n<0)) n.natAbs=n:=by by_cases h0:n<0<;>simp [sgn,h0]<;>omega
 have:=kS (decide (n<0)) (w:=a::b::List.replicate 14 0) (by simp) (Y2 (by omega) (by omega) 14);rw [← this,hv,hs]
theorem y7 {w:List Nat} (hw:w.length=16) (hl:Lim w):(val w==0)=true ↔ uw w=uw (List.replicate 16 0):=by
 rw [beq_iff_eq,yH hl,hw];exact ⟨fun e=>by rw [e],fun e=>HH e⟩
theorem H5 {rs:List R} {k:Nat} {r:R} (_:k<rs.length) (hr:rs[k]? = some r):rs.take (k+1)=rs.take k++[r]:=by
 rw [List.take_add_one,hr];rfl
theorem AJ {rs:List R} {k:Nat} {r:R} (hr:rs[k]? = some r) (hg:r.good=false):false=rs.all R.good:=by
 symm;rw [List.all_eq_false];exact ⟨r,List.mem_of_getElem? hr,by simp [hg]⟩
theorem U7 (k:Nat):0+(k:Int).toNat*1=k:=by omega
theorem pU {l:List Nat} {k:Nat} (h:k<l.length):(uw l)[0+(k:Int).toNat*1]? = some (U32 (l.getD k 0)):=by rw [U7];exact aE_ h
theorem lO (n:Nat):Value.int .u32 (IntKind.u32.wrap (n:Int))=U32 (n % 4294967296):=by
 rw [tG,U32];congr 1
section
variable {P:Program} {w0:World} {X:List Nat} {N:Nm} {S:Fr} {M:List Blk} {d:Option Tmp} {ty:TypeId} {ps:String} {af:Array Edge} {gd:Option (Nat×Bool)}
theorem kV {T U:TypeId} {x y:Operand} {b k e:Nat} {l:List Nat} {M':List Blk} {K:Value→List Blk→Prop} (hT:gY P T=some (false,1)) (hx:evO N S x=some (.pointer (some ⟨b,0+(k:Int).toNat*1,none⟩)))
  (hy:evO N S y=some (U32 e)) (hu:Upd b U (uw l) (uw (l.set k e)) M M') (ho:k<l.length) (hb:w0.heap.size≤b∨b∈X) (kk:K undef M') :
  OpR P w0 X N ⟨d,.store T x y,ty,ps,af,gd⟩ S M K:=by
 have hu':Upd b U (uw l) ((uw l).set (0+(k:Int).toNat*1) (U32 e)) M M':=by rw [U7,aF_];exact hu
 exact GO hT hx hy O hu' (by rw [U7,e8];exact ho) hb kk
end
theorem ef_ {c x y:Nat} (hc:c≤1) (hx:x<4294967296) (hy:y<4294967296):IntKind.u64.wrap ((c:Int)+IntKind.u64.wrap (IntKind.u64.wrap (x:Int)+IntKind.u64.wrap (y:Int)))=((c+x+y:Nat):Int):=by
 simp only [kK];omega
def cy (a b k:Nat):Nat:=(a % 4294967296 ^ k+b % 4294967296 ^ k) / 4294967296 ^ k
theorem fe_ (a b k:Nat):cy a b k≤1:=by
 unfold cy;have h1:=Nat.mod_lt a (show 0<4294967296 ^ k from Nat.pow_pos (by decide));have h2:=Nat.mod_lt b (show 0<4294967296 ^ k from Nat.pow_pos (by decide))
 have:(a % 4294967296 ^ k+b % 4294967296 ^ k) / 4294967296 ^ k<2:=by
  rw [Nat.div_lt_iff_lt_mul (Nat.pow_pos (by decide))];omega
 omega
theorem bl_ (a b:Nat):cy a b 0=0:=by simp [cy,Nat.mod_one]
theorem RN (a b k:Nat):(cy a b k+dig a k+dig b k) % 4294967296=dig (a+b) k:=by
 unfold cy dig;generalize hp:4294967296 ^ k=p
 have hp0:0<p:=by rw [← hp];exact Nat.pow_pos (by decide)
 have h:(a+b) / p=a / p+b / p+(a % p+b % p) / p:=by
  have e1:=Nat.div_add_mod a p;have e2:=Nat.div_add_mod b p
  have:a+b=p*(a / p+b / p)+(a % p+b % p):=by rw [Nat.mul_add];omega
  rw [this,Nat.mul_add_div hp0]
 rw [h];omega
theorem RM (a b k:Nat):(cy a b k+dig a k+dig b k) / 4294967296=cy a b (k+1):=by
 unfold cy;rw [oA a k,oA b k,Nat.pow_succ];generalize hp:4294967296 ^ k=p
 have hp0:0<p:=by rw [← hp];exact Nat.pow_pos (by decide)
 rw [← Nat.div_div_eq_div_mul]
 congr 1
 rw [show a % p+p*dig a k+(b % p+p*dig b k)=p*(dig a k+dig b k)+(a % p+b % p) by rw [Nat.mul_add];omega,Nat.mul_add_div hp0];omega
theorem nQ (n k:Nat):(n:Int).fdiv (2 ^ k)=((n / 2 ^ k:Nat):Int):=by
 rw [Int.fdiv_eq_ediv_of_nonneg _ (Int.pow_nonneg (by decide))];simp
def bw (a b k:Nat):Nat:=if a % 4294967296 ^ k<b % 4294967296 ^ k then 1 else 0
theorem TC {c x y:Nat} (hc:c≤1) (hx:x<4294967296) (hy:y<4294967296):IntKind.u64.wrap (IntKind.u64.wrap (IntKind.u64.wrap (x:Int) - IntKind.u64.wrap (y:Int)) - (c:Int))=(((x+18446744073709551616 - y - c) % 18446744073709551616:Nat):Int):=by
 simp only [kK];omega
theorem be_ (a b:Nat):bw a b 0=0:=by simp [bw,Nat.mod_one]
theorem dA {l:List Nat} (h:Lim l) (k:Nat):l.getD k 0<4294967296:=by rw [dU l k h];exact nA _ _
theorem fa_ (a b k:Nat):bw a b k≤1:=by unfold bw;split<;>omega
theorem OM {a b:Nat} (k:Nat) (h:b≤a):(dig a k+18446744073709551616 - dig b k - bw a b k) % 18446744073709551616 % 4294967296=dig (a - b) k:=by
 have hx:=nA a k;have hy:=nA b k;unfold bw dig at *;generalize hp:4294967296 ^ k=p at *
 have hp0:0<p:=by rw [← hp];exact Nat.pow_pos (by decide)
 have e1:=Nat.div_add_mod a p;have e2:=Nat.div_add_mod b p;have m1:=Nat.mod_lt a hp0;have m2:=Nat.mod_lt b hp0;have hdiv:b / p≤a / p:=Nat.div_le_div_right h
 split
 ·rename_i hlt
  have hlt2:b / p<a / p:=by
   rcases Nat.lt_or_ge (b / p) (a / p) with h'|h'
   ·exact h'
   have:a / p=b / p:=Nat.le_antisymm h' hdiv;rw [this] at e1;omega
  have:(a - b) / p=a / p - b / p - 1:=by
   have:a - b=p*(a / p - b / p - 1)+(p+a % p - b % p):=by
    have h1:p*(a / p)=p*(a / p - b / p - 1)+p*(b / p)+p:=by
     rw [← Nat.mul_add,← Nat.mul_succ];congr 1;omega
    omega
   have hz:(p+a % p - b % p) / p=0:=Nat.div_eq_of_lt (by omega);rw [this,Nat.mul_add_div hp0,hz,Nat.add_zero]
  rw [this];omega
 rename_i hge
 have:(a - b) / p=a / p - b / p:=by
  have:a - b=p*(a / p - b / p)+(a % p - b % p):=by
   have h1:p*(a / p)=p*(a / p - b / p)+p*(b / p):=by rw [← Nat.mul_add];congr 1;omega
   omega
  have hz:(a % p - b % p) / p=0:=Nat.div_eq_of_lt (by omega);rw [this,Nat.mul_add_div hp0,hz,Nat.add_zero]
 rw [this];omega
theorem LP (a b k:Nat):(dig a k+18446744073709551616 - dig b k - bw a b k) % 18446744073709551616 / 2 ^ 63=bw a b (k+1):=by
 have hx:=nA a k;have hy:=nA b k;unfold bw;rw [oA a k,oA b k];generalize hp:4294967296 ^ k=p at *
 have hp0:0<p:=by rw [← hp];exact Nat.pow_pos (by decide)
 have m1:=Nat.mod_lt a hp0;have m2:=Nat.mod_lt b hp0;generalize dig a k=x at *;generalize dig b k=y at *
 have key:(a % p+p*x<b % p+p*y) ↔ (x<y∨(x=y∧a % p<b % p)):=by
  constructor
  ·intro h
   rcases Nat.lt_trichotomy x y with h'|h'|h'
   ·exact .inl h'
   ·subst h';exact .inr ⟨rfl,by omega⟩
   exfalso
   have:p*y+p≤p*x:=by rw [← Nat.mul_succ];exact Nat.mul_le_mul_left _ h'
   omega
  rintro (h'|⟨rfl,h'⟩)
  ·have:p*x+p≤p*y:=by rw [← Nat.mul_succ];exact Nat.mul_le_mul_left _ h'
   omega
  omega
 simp only [key]
 split<;>split<;>omega
open Go Go.Kn
theorem tD:∀ {a b:List Nat} {k:Nat},Lim a→Lim b→a.length=b.length→a.drop (k+1)=b.drop (k+1)→a.getD k 0<b.getD k 0→val a<val b
 | [],[],k,_,_,_,_,h=>by simp at h
 | [],_::_,_,_,_,hl,_,_=>by simp at hl
 | _::_,[],_,_,_,hl,_,_=>by simp at hl
 | x::a,y::b,0,ha,hb,hl,hd,h=>by
  simp only [Nat.zero_add,List.drop_succ_cons,List.drop_zero] at hd;subst hd;simp only [List.getD_cons_zero] at h;simp only [val];omega
 | x::a,y::b,k+1,ha,hb,hl,hd,h=>by
  simp only [List.drop_succ_cons] at hd;simp only [List.getD_cons_succ] at h;have ih:=tD ha.tail hb.tail (by simpa using hl) hd h;have h1:=ha.head;simp only [val];omega
theorem KW {a b:List Nat} {k:Nat} (hl:a.length=b.length) (hd:a.drop (k+1)=b.drop (k+1)) (h:a.getD k 0=b.getD k 0) (hk:k<a.length):a.drop k=b.drop k:=by
 have hk':k<b.length:=by omega
 rw [List.drop_eq_getElem_cons hk,List.drop_eq_getElem_cons hk',hd]
 congr 1
 simpa [List.getD,hk,hk'] using h
theorem AO {x y:Int} (h:x<y):tH x y = -1:=by simp [tH,h]
theorem AN {x y:Int} (h:y<x):tH x y=1:=by
 unfold tH;rw [if_neg (by omega),if_neg (by omega)]
theorem KN (x:Int):tH x x=0:=by simp [tH]
theorem RJ {a b:List Nat} {k:Nat} (ha:Lim a) (hb:Lim b) (hl:a.length=b.length) (hd:a.drop (k+1)=b.drop (k+1)) (hne:a.getD k 0≠b.getD k 0) :
  tH (a.getD k 0:Nat) (b.getD k 0:Nat)=tH (val a:Nat) (val b:Nat):=by
 rcases Nat.lt_or_gt_of_ne hne with h|h
 ·rw [AO (by omega),AO (by have:=tD ha hb hl hd h;omega)]
 rw [AN (by omega),AN (by have:=tD hb ha hl.symm hd.symm h;omega)]
theorem uZ {m:Nat} (h:m≤1000000):IntKind.i64.wrap (((m+1:Nat):Int) - 1)=(m:Int):=by
 rw [bR (by unfold I64;omega)];omega
theorem gX {m:Nat} (h:m≤1000000):IntKind.i64.wrap ((m:Int)+1)=((m+1:Nat):Int):=by
 rw [bR (by unfold I64;omega)];omega
theorem SF {a b:Nat} (h:0≤tH (a:Int) (b:Int)):b≤a:=by
 rcases Nat.lt_or_ge a b with h1|h1
 ·rw [AO (by omega)] at h;omega
 exact h1
theorem W7 {a b:Nat} (h:¬ 0≤tH (a:Int) (b:Int)):a≤b:=by
 rcases Nat.lt_or_ge b a with h1|h1
 ·rw [AN (by omega)] at h;omega
 exact h1
def szL:List Nat→Nat
 | []=>0
 | d::l=>if szL l=0 then (if d=0 then 0 else 1) else szL l+1
theorem rN:∀ l,szL l≤l.length
 | []=>Nat.le_refl _
 | d::l=>by
  have:=rN l;simp only [szL,List.length_cons];split
  ·split<;>omega
  omega
theorem BT:∀ (l:List Nat) (j:Nat),szL l≤j→l.getD j 0=0
 | [],j,_=>by simp
 | d::l,0,h=>by
  simp only [szL] at h
  split at h
  ·split at h
   ·assumption
   omega
  omega
 | d::l,j+1,h=>by
  rw [List.getD_cons_succ];refine BT l j ?_;simp only [szL] at h
  split at h<;>omega
theorem rX:∀ (l:List Nat) (n:Nat),szL l=n+1→l.getD n 0≠0
 | [],n,h=>by simp [szL] at h
 | d::l,n,h=>by
  simp only [szL] at h
  split at h
  ·split at h
   ·omega
   rename_i h1;obtain rfl:n=0:=by omega
   simpa using h1
  obtain ⟨m,rfl⟩:∃ m,n=m+1:=⟨n - 1,by omega⟩;rw [List.getD_cons_succ];exact rX l m (by omega)
theorem MS {l:List Nat} {n:Nat} (h:∀ j,n≤j→l.getD j 0=0) (hn:n=0∨l.getD (n - 1) 0≠0):szL l=n:=by
 rcases Nat.lt_trichotomy (szL l) n with h1|h1|h1
 ·rcases hn with rfl|hn
  ·omega
  exact absurd (BT l (n - 1) (by omega)) hn
 ·exact h1
 obtain ⟨m,hm⟩:∃ m,szL l=m+1:=⟨szL l - 1,by omega⟩;exact absurd (h m (by omega)) (rX l m hm)
theorem yI (l:List Nat) (n:Nat) (h:szL l≤n):val (l.take n)=val l:=by
 conv=>rhs;rw [← List.take_append_drop n l]
 rw [tC]
 have:val (l.drop n)=0:=by
  have hz:l.drop n=List.replicate (l.drop n).length 0:=by
   apply List.eq_replicate_iff.2
   refine ⟨rfl,fun d hd=>?_⟩;obtain ⟨i,hi,rfl⟩:=List.mem_iff_getElem.1 hd;have:=BT l (n+i) (by omega);rw [List.getElem_drop];simp only [List.length_drop] at hi
   simpa [List.getD,show n+i<l.length by omega] using this
  rw [hz,mI]
 simp [this]
theorem qO {l:List Nat} (h:Lim l):val l<4294967296 ^ szL l:=by
 rw [← yI l (szL l) (Nat.le_refl _)];have:=uJ (l.take (szL l)) (fun d hd=>h d (List.mem_of_mem_take hd));rw [List.length_take,Nat.min_eq_left (rN l)] at this;exact this
theorem fd_ {a b:Nat} (ha:a<4294967296 ^ 16) (hb:b<4294967296 ^ 16):cy a b 16=(a+b) / 4294967296 ^ 16:=by
 unfold cy;rw [Nat.mod_eq_of_lt ha,Nat.mod_eq_of_lt hb]
theorem R.Ok.vlt {r:R} (h:r.Ok):val r.w<4294967296 ^ 16:=by have:=uJ r.w h.lim;rw [h.len] at this;exact this
theorem all2 {a b:R}:[a,b].all R.good=true ↔ a.good=true∧b.good=true:=by simp
theorem BD {a b:R} (h:[a,b].all R.good=false):a.dec.o=none∨b.dec.o=none:=by
 by_cases ha:a.good=true
 ·have hb:b.good=false:=by simpa [ha] using h
  right;rw [qR hb];rfl
 left;rw [qR (by simpa using ha)];rfl
theorem jH {f:Int→Int→Z} {a b:Z} (h:a.o=none∨b.o=none):xE f a b=Z.bad:=by
 unfold xE;rcases h with h|h
 ·rw [h]
 rw [h];cases a.o<;>rfl
theorem eG {f:Int→Int→Z} {a b:Z} {x y:Int} (ha:a.o=some x) (hb:b.o=some y):xE f a b=f x y:=by unfold xE;rw [ha,hb]
theorem qG {f:Int→Z} {a:Z} (h:a.o=none):DE f a=Z.bad:=by unfold DE;rw [h]
theorem kG {f:Int→Z} {a:Z} {x:Int} (ha:a.o=some x):DE f a=f x:=by unfold DE;rw [ha]
theorem lY (neg:Bool) {n:Nat} (h:n<4294967296 ^ 16):R.mk false (neg && !(val (toL 16 n)==0)) (toL 16 n)=(Z.of (sgn neg n)).enc:=by
 have h1:=kS neg (w:=toL 16 n) (cM _ _) (kE _ _);rw [← h1,oO,Nat.mod_eq_of_lt h]
theorem TY (neg:Bool) (a b:Nat):sgn neg a+sgn neg b=sgn neg (a+b):=by cases neg<;>simp [sgn]<;>omega
theorem PH {n m:Bool} (h:n≠m) {a b:Nat} (hab:b≤a):sgn n a+sgn m b=sgn n (a - b):=by
 cases n<;>cases m<;>first|exact absurd O h|(simp [sgn];omega)
theorem cb_ (n:Bool) (a:Nat):sgn (!n) a = - sgn n a:=by cases n<;>simp [sgn]
theorem Z.of_big {v:Int} (h:¬ v.natAbs<4294967296 ^ 16):Z.of v=Z.bad:=by unfold Z.of;rw [dif_neg h]
theorem WS {a b:R} (ha:a.Ok) (hb:b.Ok) (ga:a.good=true) (gb:b.good=true) (hn:a.neg=b.neg) (hc:cy (val a.w) (val b.w) 16=0) :
  R.mk false (a.neg && !(val (toL 16 (val a.w+val b.w))==0)) (toL 16 (val a.w+val b.w))=(Z.add a.dec b.dec).enc:=by
 rw [fd_ ha.vlt hb.vlt,Nat.div_eq_zero_iff] at hc
 have hlt:val a.w+val b.w<4294967296 ^ 16:=by rcases hc with hc|hc;exact absurd hc (by decide);exact hc
 rw [lY _ hlt,Z.add,eG (dQ ha ga) (dQ hb gb),← hn,TY]
theorem WR {a b:R} (ha:a.Ok) (hb:b.Ok) (ga:a.good=true) (gb:b.good=true) (hn:a.neg=b.neg) (hc:cy (val a.w) (val b.w) 16≠0):Z.bad.enc=(Z.add a.dec b.dec).enc:=by
 rw [fd_ ha.vlt hb.vlt] at hc;rw [Z.add,eG (dQ ha ga) (dQ hb gb),← hn,TY,Z.of_big];rw [kY];intro h;exact hc (Nat.div_eq_of_lt h)
theorem WT {a b:R} (ha:a.Ok) (hb:b.Ok) (ga:a.good=true) (gb:b.good=true) (hn:a.neg≠b.neg) (hle:val b.w≤val a.w) :
  R.mk false (a.neg && !(val (toL 16 (val a.w - val b.w))==0)) (toL 16 (val a.w - val b.w))=(Z.add a.dec b.dec).enc:=by
 rw [lY _ (Nat.lt_of_le_of_lt (Nat.sub_le _ _) ha.vlt),Z.add,eG (dQ ha ga) (dQ hb gb),PH hn hle]
theorem WU {a b:R} (ha:a.Ok) (hb:b.Ok) (ga:a.good=true) (gb:b.good=true) (hn:a.neg≠b.neg) (hle:val a.w≤val b.w) :
  R.mk false (b.neg && !(val (toL 16 (val b.w - val a.w))==0)) (toL 16 (val b.w - val a.w))=(Z.add a.dec b.dec).enc:=by
 rw [lY _ (Nat.lt_of_le_of_lt (Nat.sub_le _ _) hb.vlt),Z.add,eG (dQ ha ga) (dQ hb gb),Int.add_comm,PH (Ne.symm hn) hle]
theorem d6_ {a:R} (ha:a.Ok) (ga:a.good=true):R.mk false (!a.neg && !(val a.w==0)) a.w=(Z.neg a.dec).enc:=by
 rw [Z.neg,kG (dQ ha ga),← cb_,kS _ ha.len ha.lim]
theorem dv_ {a:R} (ha:a.Ok) (ga:a.good=true):R.mk false (false && !(val a.w==0)) a.w=(Z.abs a.dec).enc:=by
 rw [Z.abs,kG (dQ ha ga),kY];have:=kS false ha.len ha.lim;rw [← this];rfl
theorem LB {a b:R} (ha:a.Ok) (hb:b.Ok):FillR (fun i=>some (i*18,18)) (List.replicate 2 zR).flatten [(0,.agg a.cells.toArray),(1,.agg b.cells.toArray)] ([a,b].flatMap R.cells):=by
 have h1:=cJ ha;have h2:=cJ hb;have hz:zR.length=18:=rfl;refine .cons O (vs:=a.cells) O h1 (by simp [hz]) O (.cons O (vs:=b.cells) O h2 (by simp [hz,h1]) ?_ (.nil _))
 simp [List.flatMap_cons,h1,h2,hz]
theorem uA {a:R} (ha:a.Ok):FillR (fun i=>some (i*18,18)) (List.replicate 1 zR).flatten [(0,.agg a.cells.toArray)] ([a].flatMap R.cells):=by
 have h1:=cJ ha;have hz:zR.length=18:=rfl;refine .cons O (vs:=a.cells) O h1 (by simp [hz]) ?_ (.nil _)
 simp [List.flatMap_cons,hz]
theorem ok2 {a b:R} (ha:a.Ok) (hb:b.Ok):∀ r∈[a,b],r.Ok:=by
 intro r hr;simp only [List.mem_cons,List.not_mem_nil,or_false] at hr;rcases hr with rfl|rfl<;>assumption
theorem ok1 {a:R} (ha:a.Ok):∀ r∈[a],r.Ok:=by
 intro r hr;simp only [List.mem_cons,List.not_mem_nil,or_false] at hr;subst hr;assumption
theorem ON {a:R} (h:[a].all R.good=false):a.dec.o=none:=by rw [qR (by simpa using h)];rfl
theorem y5 {a:R} (_:a.Ok) (h:a.good=false∨a.zero=true):(0:Int)=a.dec.sign:=by
 unfold Z.sign R.dec
 by_cases hg:a.good=true
 ·have hz:a.zero=true:=by rcases h with h|h;rw [hg] at h;cases h;exact h
  have:val a.w=0:=by simpa [R.zero] using hz
  rw [if_pos hg,this];cases a.neg<;>simp [sgn,Z.of_o]
 rw [if_neg hg];rfl
theorem PJ {a:R} (ha:a.Ok) (hg:a.good=true) (hz:a.zero=false) (hn:a.neg=true):(-1:Int)=a.dec.sign:=by
 have h0:val a.w≠0:=by simpa [R.zero] using hz
 unfold Z.sign;rw [dQ ha hg,hn];simp only [sgn,if_true];rw [Int.sign_eq_neg_one_of_neg (by omega)]
theorem PK {a:R} (ha:a.Ok) (hg:a.good=true) (hz:a.zero=false) (hn:a.neg=false):(1:Int)=a.dec.sign:=by
 have h0:val a.w≠0:=by simpa [R.zero] using hz
 unfold Z.sign;rw [dQ ha hg,hn];simp only [sgn,Bool.false_eq_true,if_false];rw [Int.sign_eq_one_of_pos (by omega)]
theorem aG (z:Z):z.enc.cells.length=18:=cJ z.enc_ok
theorem i8 {x:Bool} {w:List Nat} (h:w.length=16):(R.cells ⟨false,x,w⟩).length=18:=by simp [R.cells,uw,h]
theorem d8_ {n:Int} (h:I64 n) (h0:n<0):IntKind.u64.wrap (0 - IntKind.u64.wrap n)=(n.natAbs:Int):=by
 unfold I64 at h;simp only [kK];omega
theorem LQ {n:Int} (h:I64 n) (h0:¬ n<0):IntKind.u64.wrap n=(n.natAbs:Int):=by
 unfold I64 at h;simp only [kK];omega
theorem ZO (n:Nat):IntKind.u32.wrap (n:Int)=((n % 4294967296:Nat):Int):=by rw [tG];omega
theorem ZN {n:Nat} (h:n<18446744073709551616):IntKind.u32.wrap ((n / 2 ^ 32:Nat):Int)=((n / 4294967296:Nat):Int):=by rw [tG];omega
theorem jB (k:Nat):0<4294967296 ^ k:=Nat.pow_pos (by decide)
def mc (a m k:Nat):Nat:=a % 4294967296 ^ k*m / 4294967296 ^ k
theorem bM_ (a m:Nat):mc a m 0=0:=by simp [mc,Nat.mod_one]
theorem cP_ {m:Nat} (a k:Nat) (hm:0<m):mc a m k<m:=by
 unfold mc;rw [Nat.div_lt_iff_lt_mul (jB k),Nat.mul_comm m];exact Nat.mul_lt_mul_of_pos_right (Nat.mod_lt _ (jB k)) hm
theorem ZB (a m k:Nat):(mc a m k+dig a k*m) / 4294967296=mc a m (k+1):=by
 unfold mc;rw [oA a k,Nat.pow_succ];generalize hp:4294967296 ^ k=p
 have hp0:0<p:=by rw [← hp];exact jB k
 rw [← Nat.div_div_eq_div_mul]
 congr 1
 rw [Nat.add_mul,Nat.mul_assoc,Nat.add_comm (a % p*m),Nat.mul_add_div hp0];omega
theorem ZC (a m k:Nat):(mc a m k+dig a k*m) % 4294967296=dig (a*m) k:=by
 unfold mc dig;generalize hp:4294967296 ^ k=p
 have hp0:0<p:=by rw [← hp];exact jB k
 have h:a*m / p=a / p*m+a % p*m / p:=by
  have e1:=Nat.div_add_mod a p
  have:a*m=p*(a / p*m)+a % p*m:=by
   rw [← Nat.mul_assoc,← Nat.add_mul,e1]
  rw [this,Nat.mul_add_div hp0]
 rw [h];have e2:=Nat.div_add_mod (a / p) 4294967296
 have:a / p*m=4294967296*(a / p / 4294967296*m)+a / p % 4294967296*m:=by
  rw [← Nat.mul_assoc,← Nat.add_mul,e2]
 omega
theorem ZR {a b:Nat} (h:a+b<18446744073709551616) (hd:(a ||| b)=a+b):IntKind.u64.wrap ((BitVec.ofInt IntKind.u64.bits (a:Int) ||| BitVec.ofInt IntKind.u64.bits (b:Int)).toNat:Int)=((a+b:Nat):Int):=by
 rw [kK]
 change ((BitVec.ofInt 64 (a:Int) ||| BitVec.ofInt 64 (b:Int)).toNat:Int) % 18446744073709551616=_
 rw [BitVec.toNat_or,BitVec.toNat_ofInt,BitVec.toNat_ofInt]
 have e1:((a:Int) % ((2 ^ 64:Nat):Int)).toNat=a:=by omega
 have e2:((b:Int) % ((2 ^ 64:Nat):Int)).toNat=b:=by omega
 rw [e1,e2,hd];omega
theorem RI {a x n:Nat} (h:a<2 ^ n):(a ||| x*2 ^ n)=a+x*2 ^ n:=by
 rw [Nat.or_comm,← Nat.shiftLeft_eq,← Nat.shiftLeft_add_eq_or_of_lt h];omega
theorem OR {a x n:Nat} (h:a<2 ^ n):(x*2 ^ n ||| a)=x*2 ^ n+a:=by
 rw [← Nat.shiftLeft_eq,← Nat.shiftLeft_add_eq_or_of_lt h]
theorem cc_ {x n:Nat} (hx:x<4294967296) (hn:n<33):IntKind.u64.wrap (IntKind.u64.wrap (x:Int)*2 ^ (min (n:Int).toNat IntKind.u64.bits))=((x*2 ^ n:Nat):Int):=by
 have h1:min (n:Int).toNat IntKind.u64.bits=n:=by simp [IntKind.bits];omega
 have h2:x*2 ^ n<18446744073709551616:=by
  have:2 ^ n≤2 ^ 32:=Nat.pow_le_pow_right (by decide) (by omega)
  calc x*2 ^ n≤x*2 ^ 32:=Nat.mul_le_mul_left _ this
   _<18446744073709551616:=by omega
 have h3:IntKind.u64.wrap (x:Int)=(x:Int):=by rw [kK];omega
 rw [h1,h3,kK]
 have h4:((x:Int)*2 ^ n)=((x*2 ^ n:Nat):Int):=by simp
 rw [h4];omega
theorem iS {x:Nat} (hx:x<4294967296):IntKind.u64.wrap (x:Int)=(x:Int):=by rw [kK];omega
theorem tW {r:Nat} (hr:r<4294967296):IntKind.u64.wrap ((r:Int)*2 ^ (min (32:Int).toNat IntKind.u64.bits))=((r*2 ^ 32:Nat):Int):=by
 rw [kK];have:min (32:Int).toNat IntKind.u64.bits=32:=rfl;rw [this];omega
theorem FG {a n:Nat} (k:Nat) (hn:n<33):(dig a (k+1)*2 ^ 32+dig a k) / 2 ^ n % 4294967296=dig (a / 2 ^ n) k:=by
 unfold dig;rw [Nat.div_div_eq_div_mul a (2 ^ n),Nat.mul_comm (2 ^ n),← Nat.div_div_eq_div_mul a,Nat.pow_succ,← Nat.div_div_eq_div_mul a];generalize a / 4294967296 ^ k=x;obtain ⟨m,hm⟩:∃ m,n+m=32:=⟨32 - n,by omega⟩
 have hpq:2 ^ n*2 ^ m=4294967296:=by rw [← Nat.pow_add,hm]
 generalize 2 ^ n=p at *;generalize 2 ^ m=q at *;have hp0:0<p:=Nat.pos_of_ne_zero (fun h=>by subst h;omega);have e1:=Nat.div_add_mod x 4294967296;have e2:=Nat.div_add_mod (x / 4294967296) 4294967296
 have hx:x=p*(q*(4294967296*(x / 4294967296 / 4294967296)))+(x / 4294967296 % 4294967296*2 ^ 32+x % 4294967296):=by
  rw [← Nat.mul_assoc,hpq];omega
 have h2:x / p=q*(4294967296*(x / 4294967296 / 4294967296))+(x / 4294967296 % 4294967296*2 ^ 32+x % 4294967296) / p:=by
  conv=>lhs;rw [hx]
  rw [Nat.mul_add_div hp0]
 rw [h2,← Nat.mul_assoc,Nat.mul_comm q,Nat.mul_assoc,Nat.mul_add_mod]
theorem DN {a b:Nat} (k:Nat) (hb:0<b):(a / 4294967296 ^ (k+1) % b*2 ^ 32+dig a k) / b=dig (a / b) k∧(a / 4294967296 ^ (k+1) % b*2 ^ 32+dig a k) % b=a / 4294967296 ^ k % b:=by
 unfold dig;rw [Nat.div_div_eq_div_mul a b,Nat.mul_comm b,← Nat.div_div_eq_div_mul a,Nat.pow_succ,← Nat.div_div_eq_div_mul a];generalize a / 4294967296 ^ k=x;have e1:=Nat.div_add_mod x 4294967296;have e2:=Nat.div_add_mod (x / 4294967296) b;have hr:=Nat.mod_lt (x / 4294967296) hb
 have hx:x=b*(x / 4294967296 / b*4294967296)+(x / 4294967296 % b*2 ^ 32+x % 4294967296):=by
  rw [← Nat.mul_assoc];omega
 have hlt:(x / 4294967296 % b*2 ^ 32+x % 4294967296) / b<4294967296:=by
  rw [Nat.div_lt_iff_lt_mul hb];have h1:x % 4294967296<4294967296:=Nat.mod_lt _ (by decide)
  have:x / 4294967296 % b*2 ^ 32+2 ^ 32≤b*2 ^ 32:=by rw [← Nat.succ_mul];exact Nat.mul_le_mul_right _ hr
  omega
 constructor
 ·conv=>rhs;rw [hx]
  rw [Nat.mul_add_div hb,Nat.mul_comm (x / 4294967296 / b),Nat.mul_add_mod,Nat.mod_eq_of_lt hlt]
 conv=>rhs;rw [hx]
 rw [Nat.mul_add_mod]
def tL (k n:Nat):List Nat:=List.replicate k 0++(toL 16 n).drop k
theorem kT {k:Nat} (n:Nat) (h:k≤16):(tL k n).length=16:=by simp [tL,cM];omega
theorem U5 (n:Nat):tL 16 n=List.replicate 16 0:=by
 unfold tL;rw [List.drop_eq_nil_of_le (by rw [cM];exact Nat.le_refl _),List.append_nil]
theorem I2 (n:Nat):tL 0 n=toL 16 n:=by simp [tL]
theorem UF {k n j:Nat} (h:j<k):(toL k n)[j]? = some (dig n j):=by
 have:=dU (toL k n) j (kE _ _);rw [oO] at this
 have hl:j<(toL k n).length:=by rw [cM];exact h
 rw [List.getElem?_eq_getElem hl];simp only [List.getD,List.getElem?_eq_getElem hl,Option.getD_some] at this;rw [this]
 congr 1
 unfold dig;obtain ⟨m,rfl⟩:∃ m,k=j+1+m:=⟨k - (j+1),by omega⟩;rw [Nat.pow_add,Nat.mod_mul,Nat.pow_succ];generalize 4294967296 ^ j=p;rw [Nat.mul_assoc,Nat.mod_mul];rcases Nat.eq_zero_or_pos p with h0|h0
 ·subst h0;simp
 rw [Nat.add_assoc,← Nat.mul_add,Nat.add_comm,Nat.mul_add_div h0,Nat.div_eq_of_lt (Nat.mod_lt _ h0),Nat.add_zero,Nat.add_mul_mod_self_left,Nat.mod_mod]
theorem CC {k n:Nat} (h:k<16):(tL (k+1) n).set k (dig n k)=tL k n:=by
 unfold tL
 have hk:k<(toL 16 n).length:=by rw [cM];exact h
 have hg:(toL 16 n)[k]=dig n k:=by
  have:=UF (n:=n) h;rw [List.getElem?_eq_getElem hk] at this;exact Option.some.inj this
 rw [List.drop_eq_getElem_cons hk,hg,List.replicate_succ',List.append_assoc,List.set_append_right _ _ (by simp)]
 simp
def bl (n:Nat):Nat:=if n=0 then 0 else n.log2+1
theorem E8 (n:Nat):n<2 ^ bl n:=by
 unfold bl;split
 ·rename_i h;subst h;decide
 exact Nat.lt_log2_self
theorem SC {n:Nat} (h:n≠0):2 ^ (bl n - 1)≤n:=by
 unfold bl;rw [if_neg h,Nat.add_sub_cancel];exact Nat.log2_self_le h
theorem cA_ {n k:Nat} (h1:n<2 ^ k) (h2:k=0∨2 ^ (k - 1)≤n):bl n=k:=by
 by_cases h0:n=0
 ·subst h0
  rcases h2 with rfl|h2
  ·rfl
  have:=Nat.pow_pos (n:=k - 1) (show 0<2 by decide);omega
 have a1:=E8 n;have a2:=SC h0
 have hb:bl n≠0:=by unfold bl;rw [if_neg h0];omega
 rcases Nat.lt_trichotomy (bl n) k with h|h|h
 ·rcases h2 with rfl|h2
  ·omega
  have:2 ^ bl n≤2 ^ (k - 1):=Nat.pow_le_pow_right (by decide) (by omega);omega
 ·exact h
 have:2 ^ k≤2 ^ (bl n - 1):=Nat.pow_le_pow_right (by decide) (by omega);omega
theorem w7 {n k:Nat} (h:2 ^ k≤n):bl n=k+bl (n / 2 ^ k):=by
 have hp:0<2 ^ k:=Nat.pow_pos (by decide)
 have hq:n / 2 ^ k≠0:=by
  intro h0;rw [Nat.div_eq_zero_iff] at h0;omega
 have a1:=E8 (n / 2 ^ k);have a2:=SC hq
 have hb:bl (n / 2 ^ k)≠0:=by unfold bl;rw [if_neg hq];omega
 refine cA_ ?_ (.inr ?_)
 ·rw [Nat.pow_add,Nat.mul_comm,← Nat.div_lt_iff_lt_mul hp];exact a1
 rw [show k+bl (n / 2 ^ k) - 1=k+(bl (n / 2 ^ k) - 1) by omega,Nat.pow_add]
 calc 2 ^ k*2 ^ (bl (n / 2 ^ k) - 1)≤2 ^ k*(n / 2 ^ k):=Nat.mul_le_mul_left _ a2
  _≤n:=Nat.mul_div_le _ _
theorem sH {n k:Nat} (h:n<2 ^ k):bl n≤k:=by
 by_cases h0:n=0
 ·subst h0;exact Nat.zero_le _
 rcases Nat.lt_or_ge k (bl n) with h1|h1
 ·have a2:=SC h0
  have:2 ^ k≤2 ^ (bl n - 1):=Nat.pow_le_pow_right (by decide) (by omega);omega
 exact h1
theorem MH (n k:Nat):Value.int .u32 ((n:Int).fdiv (2 ^ k))=U32 (n / 2 ^ k):=by rw [nQ];rfl
theorem UG {y:Nat} (h:y<256):Value.int .u8 (IntKind.u8.wrap (y:Int)) = .int .u8 (y:Int):=by
 congr 1;simp [IntKind.wrap,IntKind.bits,IntKind.signed];omega
theorem EA {y:Nat} (h:y<256):Value.int .i64 (IntKind.i64.wrap ((bl y:Nat):Int)) = .int .i64 ((bl y:Nat):Int):=by
 have:=sH (k:=8) h
 congr 1;exact bR (by unfold I64;omega)
theorem EK {x y c:Nat} {n0:Int} (e:n0=c) (hc:c≤24) (hy:y<256) (hx:bl x=c+bl y):Value.int .i64 (IntKind.i64.wrap (n0+((bl y:Nat):Int))) = .int .i64 ((bl x:Nat):Int):=by
 have:=sH (k:=8) hy;rw [e,bR (by unfold I64;omega),hx];congr 1
theorem d2_ {x:Nat} (h:x<4294967296):IntKind.i64.wrap (32 - ((bl x:Nat):Int))=((32 - bl x:Nat):Int):=by
 have:=sH (k:=32) h;rw [bR (by unfold I64;omega)];omega
theorem gc_ {c x n:Nat} (hc:c<2 ^ n) (hx:x<4294967296) (hn:n<32):IntKind.u64.wrap ((BitVec.ofInt IntKind.u64.bits (c:Int) ||| BitVec.ofInt IntKind.u64.bits ((x*2 ^ n:Nat):Int)).toNat:Int)=((c+x*2 ^ n:Nat):Int):=by
 refine ZR ?_ (RI hc);have h1:2 ^ n≤2 ^ 31:=Nat.pow_le_pow_right (by decide) (by omega);have h2:x*2 ^ n≤x*2 ^ 31:=Nat.mul_le_mul_left _ h1;omega
theorem EC {r x:Nat} (hr:r<4294967296) (hx:x<4294967296):IntKind.u64.wrap ((BitVec.ofInt IntKind.u64.bits ((r*2 ^ 32:Nat):Int) ||| BitVec.ofInt IntKind.u64.bits (x:Int)).toNat:Int)=((r*2 ^ 32+x:Nat):Int) :=
 ZR (by omega) (OR hx)
theorem c4_ {x n:Nat} (hn:n<32):(x:Int).fdiv (2 ^ (min (n:Int).toNat IntKind.u64.bits))=((x / 2 ^ n:Nat):Int):=by
 have h1:min (n:Int).toNat IntKind.u64.bits=n:=by simp [IntKind.bits];omega
 rw [h1,nQ]
theorem TP (a b:Nat):IntKind.u64.wrap ((a:Int).tdiv (b:Int))=((a / b % 18446744073709551616:Nat):Int):=by
 rw [kK,Int.tdiv_eq_ediv_of_nonneg (by omega)];rw [← Int.natCast_ediv];omega
theorem yZ (a b:Nat):(a:Int).tmod (b:Int)=((a % b:Nat):Int):=by
 rw [Int.tmod_eq_emod_of_nonneg (by omega)];omega
theorem fu_ {xs:List Nat} (hx:xs.length=16) (lx:Lim xs) {m:Nat}:mc (val xs) m 16=val xs*m / 4294967296 ^ 16:=by
 have h:=uJ xs lx;rw [hx] at h;unfold mc;rw [Nat.mod_eq_of_lt h]
theorem UH {xs:List Nat} (hx:xs.length=16) (lx:Lim xs) {n:Nat} (hn:n<32):val xs*2 ^ n / 4294967296 ^ 16<4294967296:=by
 rw [← fu_ hx lx];have h1:2 ^ n≤2 ^ 31:=Nat.pow_le_pow_right (by decide) (by omega);have:=cP_ (m:=2 ^ n) (val xs) 16 (Nat.pow_pos (by decide));omega
theorem NS {xs:List Nat} (hx:xs.length=16) (lx:Lim xs) {k:Nat} (h:16≤k):dig (val xs) k=0:=by
 rw [← dU xs k lx];simp [List.getD,List.getElem?_eq_none (show xs.length≤k by omega)]
theorem fg_ {xs:List Nat} (hx:xs.length=16) (lx:Lim xs) {d:Nat}:val xs / 4294967296 ^ 16 % d=0:=by
 have h:=uJ xs lx;rw [hx] at h;rw [Nat.div_eq_of_lt h,Nat.zero_mod]
theorem RW {a d:Nat} (m:Nat) (h0:0<d):(a / 4294967296 ^ (m+1) % d*2 ^ 32+dig a m) / d % 18446744073709551616 % 4294967296=dig (a / d) m:=by
 rw [(DN m h0).1];have:=nA (a / d) m;omega
theorem q6:∀ (l:List Nat) (j d:Nat),j<l.length→val (l.set j d)+4294967296 ^ j*l.getD j 0=val l+4294967296 ^ j*d
 | [],j,d,h=>by simp at h
 | x::l,0,d,_=>by simp [val];omega
 | x::l,j+1,d,h=>by
  have ih:=q6 l j d (by simpa using h);simp only [List.set_cons_succ,val,List.getD_cons_succ,Nat.pow_succ];rw [Nat.mul_comm (4294967296 ^ j) 4294967296,Nat.mul_assoc,Nat.mul_assoc];omega
theorem rV {l:List Nat} (h:Lim l) {j d:Nat} (hd:d<4294967296):Lim (l.set j d):=fun x hx=>by
 rcases List.mem_or_eq_of_mem_set hx with hx|rfl
 ·exact h x hx
 exact hd
theorem nN {l:List Nat} {i j d:Nat} (h:i≠j):(l.set i d).getD j 0=l.getD j 0:=by simp [List.getD,List.getElem?_set,h]
structure MulIn (A Bv m i k:Nat) (l:List Nat) (c:Nat):Prop where
 len:l.length=32
 lim:Lim l
 clt:c<4294967296
 high:∀ j,i+m≤j→l.getD j 0=0
 eq:val l+c*4294967296 ^ (i+k)=(A % 4294967296 ^ i)*Bv+dig A i*(Bv % 4294967296 ^ k)*4294967296 ^ i
structure MulOut (A Bv m i:Nat) (l:List Nat):Prop where
 len:l.length=32
 lim:Lim l
 high:∀ j,i+m≤j→l.getD j 0=0
 eq:val l=(A % 4294967296 ^ i)*Bv
theorem FQ (n j:Nat):(List.replicate n 0).getD j 0=0:=by
 simp only [List.getD,List.getElem?_replicate];split<;>rfl
theorem MulOut.start (A Bv m:Nat):MulOut A Bv m 0 (List.replicate 32 0) :=
 ⟨by simp,qH _,fun j _=>FQ 32 j,by rw [mI];simp [Nat.mod_one]⟩
theorem MulOut.row {A Bv m i:Nat} {l:List Nat} (h:MulOut A Bv m i l):MulIn A Bv m i 0 l 0 :=
 ⟨h.len,h.lim,by decide,h.high,by rw [h.eq];simp [Nat.mod_one]⟩
theorem F5 {x y l c:Nat} (hx:x<4294967296) (hy:y<4294967296) (hl:l<4294967296) (hc:c<4294967296):c+(x*y+l)<18446744073709551616:=by
 have:x*y≤4294967295*4294967295:=Nat.mul_le_mul (by omega) (by omega);omega
theorem MulIn.step {A Bv m i k:Nat} {l:List Nat} {c:Nat} (h:MulIn A Bv m i k l c) (hik:i+k<32) (hkm:k<m) :
  MulIn A Bv m i (k+1) (l.set (i+k) ((c+(dig A i*dig Bv k+l.getD (i+k) 0)) % 4294967296)) ((c+(dig A i*dig Bv k+l.getD (i+k) 0)) / 4294967296):=by
 have hs:=F5 (nA A i) (nA Bv k) (dA h.lim (i+k)) h.clt;have hv:=q6 l (i+k) ((c+(dig A i*dig Bv k+l.getD (i+k) 0)) % 4294967296) (by rw [h.len];exact hik);have heq:=h.eq;generalize hsd:c+(dig A i*dig Bv k+l.getD (i+k) 0)=s at *;refine ⟨by simp [h.len],rV h.lim (Nat.mod_lt _ (by decide)),by omega,fun j hj=>by rw [nN (by omega)];exact h.high j hj,?_⟩;rw [oA Bv k,Nat.mul_add,Nat.add_mul (dig A i*(Bv % 4294967296 ^ k)),← Nat.add_assoc (A % 4294967296 ^ i*Bv),← heq,show i+(k+1)=(i+k)+1 by omega,Nat.pow_succ];have e1:=Nat.div_add_mod s 4294967296
 have e2:dig A i*(4294967296 ^ k*dig Bv k)*4294967296 ^ i=4294967296 ^ (i+k)*(dig A i*dig Bv k):=by
  rw [Nat.pow_add];ac_rfl
 rw [e2];generalize 4294967296 ^ (i+k)=p at *;generalize dig A i*dig Bv k=xy at *;generalize l.getD (i+k) 0=g at *
 have e3:s / 4294967296*(p*4294967296)=p*(4294967296*(s / 4294967296)):=by ac_rfl
 have e4:p*s=p*(4294967296*(s / 4294967296))+p*(s % 4294967296):=by rw [← Nat.mul_add,e1]
 have e5:p*s=p*c+(p*xy+p*g):=by rw [← hsd,Nat.mul_add,Nat.mul_add]
 rw [e3,Nat.mul_comm c p];omega
theorem MulIn.done {A Bv m i:Nat} {l:List Nat} {c:Nat} (h:MulIn A Bv m i m l c) (him:i+m<32) (hB:Bv<4294967296 ^ m):MulOut A Bv m (i+1) (l.set (i+m) c):=by
 have hv:=q6 l (i+m) c (by rw [h.len];exact him);have h0:=h.high (i+m) (Nat.le_refl _);have heq:=h.eq;rw [h0,Nat.mul_zero,Nat.add_zero] at hv;refine ⟨by simp [h.len],rV h.lim h.clt,fun j hj=>by rw [nN (by omega)];exact h.high j (by omega),?_⟩;rw [hv,Nat.mul_comm (4294967296 ^ (i+m)),heq,Nat.mod_eq_of_lt hB,oA A i,Nat.add_mul]
 congr 1
 ac_rfl
theorem fy_ {x y l c:Nat} (hx:x<4294967296) (hy:y<4294967296) (hl:l<4294967296) (hc:c<4294967296) :
  IntKind.u64.wrap ((c:Int)+IntKind.u64.wrap (IntKind.u64.wrap (IntKind.u64.wrap (x:Int)*IntKind.u64.wrap (y:Int))+IntKind.u64.wrap (l:Int)))=((c+(x*y+l):Nat):Int):=by
 have h:=F5 hx hy hl hc;rw [iS hx,iS hy,iS hl]
 have e1:((x:Int)*(y:Int))=((x*y:Nat):Int):=by simp
 rw [e1];generalize x*y=p at *;simp only [kK];omega
theorem JS {l:List Nat} (h:l.length=32):val l=val (l.take 16)+4294967296 ^ 16*val (l.drop 16):=by
 conv=>lhs;rw [← List.take_append_drop 16 l]
 rw [tC];congr 2;simp [h]
theorem Lim.take {l:List Nat} (h:Lim l) (n:Nat):Lim (l.take n):=fun d hd=>h d (List.mem_of_mem_take hd)
theorem Lim.drop {l:List Nat} (h:Lim l) (n:Nat):Lim (l.drop n):=fun d hd=>h d (List.mem_of_mem_drop hd)
theorem TZ (n m:Bool) (a b:Nat):sgn n a*sgn m b=sgn (n != m) (a*b):=by
 cases n<;>cases m<;>simp [sgn,Int.neg_mul,Int.mul_neg]
theorem bP_ {a b:R} (ha:a.Ok) (hb:b.Ok) (ga:a.good=true) (gb:b.good=true) {l:List Nat} (h:l.length=32) (hl:Lim l) (hv:val l=val a.w*val b.w) (h0:l.drop 16=List.replicate 16 0) :
  R.mk false ((a.neg != b.neg) && !(val (l.take 16)==0)) (l.take 16)=(Z.mul a.dec b.dec).enc:=by
 have hs:=JS h;rw [h0,mI,Nat.mul_zero,Nat.add_zero] at hs;rw [Z.mul,eG (dQ ha ga) (dQ hb gb),TZ,← hv,hs];rw [kS _ (by simp [h]) (hl.take 16)]
theorem bO_ {a b:R} (ha:a.Ok) (hb:b.Ok) (ga:a.good=true) (gb:b.good=true) {l:List Nat} (h:l.length=32) (hl:Lim l) (hv:val l=val a.w*val b.w) (h0:l.drop 16≠List.replicate 16 0) :
  Z.bad.enc=(Z.mul a.dec b.dec).enc:=by
 have hs:=JS h;have hd:val (l.drop 16)≠0:=fun e=>h0 (by have:=(yH (hl.drop 16)).1 e;rw [this];simp [h]);rw [Z.mul,eG (dQ ha ga) (dQ hb gb),TZ,← hv,Z.of_big];rw [kY];have:4294967296 ^ 16*1≤4294967296 ^ 16*val (l.drop 16):=Nat.mul_le_mul_left _ (Nat.pos_of_ne_zero hd);omega
theorem F6 {a b:R} {l:List Nat} (h:MulOut (val a.w) (val b.w) (szL b.w) (szL a.w) l) (ha:a.Ok):val l=val a.w*val b.w:=by
 rw [h.eq,Nat.mod_eq_of_lt (qO ha.lim)]
theorem lE {i k:Nat} (h:i+k≤1000000):IntKind.i64.wrap ((i:Int)+(k:Int))=((i+k:Nat):Int):=by
 rw [bR (by unfold I64;omega)];omega
theorem kX {r:R} {k:Nat} (h:k<r.w.length):r.cells[0+2+(k:Int).toNat*1]? = some (U32 (r.w.getD k 0)):=by
 rw [show 0+2+(k:Int).toNat*1=k+2 by omega];simp only [R.cells,List.getElem?_cons_succ];exact aE_ h
theorem eK_ {n:Nat} (h:n<4294967296):Value.int .u32 (IntKind.u32.wrap (n:Int))=U32 n:=by rw [lO,Nat.mod_eq_of_lt h]
theorem ge_ {l:List Nat} (h:l.length=32):((uw l).drop (0+(16:Int).toNat*1)).take 16=uw (l.drop 16):=by
 rw [show 0+(16:Int).toNat*1=16 from rfl,uw,← List.map_drop];exact List.take_of_length_le (by simp [h])
theorem gf_ {l:List Nat} (_:l.length=32):((uw l).drop (0+(0:Int).toNat*1)).take 16=uw (l.take 16):=by
 rw [show 0+(0:Int).toNat*1=0 from rfl,List.drop_zero,uw,← List.map_take];rfl
theorem dG_ (a b:List Nat):decide (a=b)=true ↔ uw a=uw b:=by
 rw [decide_eq_true_eq];exact ⟨fun h=>by rw [h],HH⟩
theorem VE {x y:List Nat} {m i k:Nat} {l:List Nat} {c:Nat} (h:MulIn (val x) (val y) m i k l c) (hx:Lim x) (hy:Lim y) (hik:i+k<32) (hkm:k<m) :
  MulIn (val x) (val y) m i (k+1) (l.set (i+k) ((c+(x.getD i 0*y.getD k 0+l.getD (i+k) 0)) % 4294967296)) ((c+(x.getD i 0*y.getD k 0+l.getD (i+k) 0)) / 2 ^ 32):=by
 rw [dU x i hx,dU y k hy];exact h.step hik hkm
theorem NI {w:List Nat} (hw:Lim w) {n:Nat} (h:szL w=n+1):bl (val w)=32*n+bl (w.getD n 0):=by
 have h0:=rX w n h
 have hn:n<w.length:=by have:=rN w;omega
 have hv:=yI w (n+1) (by omega);rw [List.take_add_one,tC] at hv
 have hg:w[n]?.toList=[w.getD n 0]:=by simp [List.getD,hn]
 have hlt:=uJ (w.take n) (hw.take n)
 have hl:(w.take n).length=n:=by simp;omega
 rw [hg,hl] at hv;rw [hl] at hlt
 have hv':val (w.take n)+4294967296 ^ n*w.getD n 0=val w:=by rw [← hv];simp only [val,Nat.mul_zero,Nat.add_zero]
 clear hv;have hv:=hv';clear hv'
 have hp:(2:Nat) ^ (32*n)=4294967296 ^ n:=by rw [Nat.pow_mul]
 have hge:2 ^ (32*n)≤val w:=by
  rw [hp,← hv];have:4294967296 ^ n*1≤4294967296 ^ n*w.getD n 0:=Nat.mul_le_mul_left _ (Nat.pos_of_ne_zero h0);omega
 rw [w7 hge,hp,← hv,Nat.add_mul_div_left _ _ (jB n),Nat.div_eq_of_lt hlt,Nat.zero_add]
theorem MU {w:List Nat} (h:szL w=0):val w=0:=by rw [← yI w 0 (by omega)];rfl
structure GH (first v2 top u2 q:Nat):Prop where
 f0:2147483648≤first
 f1:first<4294967296
 v2lt:v2<4294967296
 u2lt:u2<4294967296
 qW:q*(first*4294967296+v2)≤top*4294967296+u2
 qB:q<4294967296
 topLt:top<first*4294967296+4294967296
structure GI (first top q d rest:Nat):Prop where
 eq:d*first+rest=top
 le:q≤d
 rlt:rest<8589934592
theorem GI.dlt {first v2 top u2 q d rest:Nat} (h:GH first v2 top u2 q) (g:GI first top q d rest):d≤4294967297:=by
 have:=g.eq;have:=h.topLt;have:=h.f0;rcases Nat.lt_or_ge 4294967297 d with h1|h1
 ·have:4294967298*first≤d*first:=Nat.mul_le_mul_right _ h1
  omega
 exact h1
theorem GI.start {first v2 top u2 q:Nat} (h:GH first v2 top u2 q):GI first top q (top / first) (top % first):=by
 have hf:0<first:=by have:=h.f0;omega
 refine ⟨by rw [Nat.mul_comm];exact Nat.div_add_mod _ _,?_,by have:=Nat.mod_lt top hf;have:=h.f1;omega⟩;rw [Nat.le_div_iff_mul_le hf];have:=h.qW;rw [Nat.mul_add,← Nat.mul_assoc] at this;have:=h.u2lt;omega
theorem GI.more {first v2 top u2 q d rest:Nat} (h:GH first v2 top u2 q) (g:GI first top q d rest) (hr:rest<4294967296) (hc:4294967296≤d∨rest*4294967296+u2<d*v2) :
  1≤d∧GI first top q (d - 1) (rest+first):=by
 have hq:q<d:=by
  rcases hc with hc|hc
  ·have:=h.qB;omega
  rcases Nat.lt_or_ge q d with h1|h1
  ·exact h1
  exfalso
  have h2:d*(first*4294967296+v2)≤q*(first*4294967296+v2):=Nat.mul_le_mul_right _ h1;have h3:=h.qW;have h4:=g.eq;rw [Nat.mul_add,← Nat.mul_assoc] at h2;omega
 have hf:=h.f1;refine ⟨by omega,?_,by omega,by omega⟩;have h4:=g.eq;obtain ⟨e,rfl⟩:∃ e,d=e+1:=⟨d - 1,by omega⟩;rw [Nat.add_sub_cancel];rw [Nat.succ_mul] at h4;omega
theorem GI.done {first v2 top u2 q d rest:Nat} (h:GH first v2 top u2 q) (g:GI first top q d rest) (hc:4294967296≤rest∨(d<4294967296∧d*v2≤rest*4294967296+u2)) :
  d<4294967296∧d*(first*4294967296+v2)≤top*4294967296+u2:=by
 have h4:=g.eq;have h5:=h.topLt
 have hd:d<4294967296:=by
  rcases hc with hc|hc
  ·rcases Nat.lt_or_ge d 4294967296 with h1|h1
   ·exact h1
   have:4294967296*first≤d*first:=Nat.mul_le_mul_right _ h1
   omega
  exact hc.1
 refine ⟨hd,?_⟩;rw [Nat.mul_add,← Nat.mul_assoc];rcases hc with hc|hc
 ·have h6:d*v2≤4294967295*4294967295:=Nat.mul_le_mul (by omega) (by have:=h.v2lt;omega)
  omega
 have:=hc.2;omega
structure QH (u v:List Nat) (n j:Nat):Prop where
 ulen:u.length=17
 ulim:Lim u
 vlen:v.length=16
 vlim:Lim v
 n2:2≤n
 jn:j+n≤16
 sz:val v<4294967296 ^ n
 top:2147483648≤v.getD (n - 1) 0
 lt:val u<val v*4294967296 ^ (j+1)
theorem oW (x k:Nat):x / 4294967296 ^ k=dig x k+4294967296*(x / 4294967296 ^ (k+1)):=by
 unfold dig;rw [Nat.pow_succ,← Nat.div_div_eq_div_mul];omega
theorem QH.vtop {u v:List Nat} {n j:Nat} (h:QH u v n j):val v / 4294967296 ^ (n - 2)=v.getD (n - 1) 0*4294967296+v.getD (n - 2) 0:=by
 have h2:=h.n2;have h1:=oW (val v) (n - 2);have h3:=oW (val v) (n - 1);rw [show n - 2+1=n - 1 by omega] at h1;rw [show n - 1+1=n by omega,Nat.div_eq_of_lt h.sz] at h3;rw [dU v _ h.vlim,dU v _ h.vlim];omega
theorem QH.ult {u v:List Nat} {n j:Nat} (h:QH u v n j):val u<4294967296 ^ (j+n+1):=by
 refine Nat.lt_of_lt_of_le h.lt ?_;rw [show j+n+1=n+(j+1) by omega,Nat.pow_add 4294967296 n (j+1)];exact Nat.mul_le_mul_right _ (Nat.le_of_lt h.sz)
theorem QH.utop {u v:List Nat} {n j:Nat} (h:QH u v n j):val u / 4294967296 ^ (j+n - 2)=(u.getD (j+n) 0*4294967296+u.getD (j+n - 1) 0)*4294967296+u.getD (j+n - 2) 0:=by
 have h2:=h.n2;have h1:=oW (val u) (j+n - 2);have h3:=oW (val u) (j+n - 1);have h4:=oW (val u) (j+n);rw [show j+n - 2+1=j+n - 1 by omega] at h1;rw [show j+n - 1+1=j+n by omega] at h3;rw [Nat.div_eq_of_lt h.ult] at h4;rw [dU u _ h.ulim,dU u _ h.ulim,dU u _ h.ulim];omega
theorem QH.vpos {u v:List Nat} {n j:Nat} (h:QH u v n j):0<val v:=by
 rcases Nat.eq_zero_or_pos (val v) with h0|h0
 ·have:=h.lt;rw [h0] at this;omega
 exact h0
theorem QH.gh {u v:List Nat} {n j:Nat} (h:QH u v n j) :
  GH (v.getD (n - 1) 0) (v.getD (n - 2) 0) (u.getD (j+n) 0*4294967296+u.getD (j+n - 1) 0) (u.getD (j+n - 2) 0) (val u / (val v*4294967296 ^ j)):=by
 have hn:=h.n2;have hpos:0<val v*4294967296 ^ j:=Nat.mul_pos h.vpos (jB j);have hp:=jB (n - 2)
 have hpj:4294967296 ^ (j+n - 2)=4294967296 ^ (n - 2)*4294967296 ^ j:=by rw [← Nat.pow_add];congr 1;omega
 have ht:=h.utop;have hv:=h.vtop;have hqm:=Nat.div_mul_le_self (val u) (val v*4294967296 ^ j);refine ⟨h.top,dA h.vlim _,dA h.vlim _,dA h.ulim _,?_,?_,?_⟩
 ·-- q W <= X
  rw [← hv,← ht,Nat.le_div_iff_mul_le (by rw [hpj];exact Nat.mul_pos hp (jB j)),hpj];refine Nat.le_trans ?_ hqm
  calc val u / (val v*4294967296 ^ j)*(val v / 4294967296 ^ (n - 2))*(4294967296 ^ (n - 2)*4294967296 ^ j)
    = val u / (val v*4294967296 ^ j)*(val v / 4294967296 ^ (n - 2)*4294967296 ^ (n - 2)*4294967296 ^ j):=by ac_rfl
   _≤val u / (val v*4294967296 ^ j)*(val v*4294967296 ^ j):=Nat.mul_le_mul_left _ (Nat.mul_le_mul_right _ (Nat.div_mul_le_self _ _))
 ·rw [Nat.div_lt_iff_lt_mul hpos,Nat.mul_comm 4294967296,Nat.mul_assoc,← Nat.pow_succ];exact h.lt
 -- the top two digits
 have e1:val u / 4294967296 ^ (j+n - 1)=u.getD (j+n) 0*4294967296+u.getD (j+n - 1) 0:=by
  have h3:=oW (val u) (j+n - 1);have h4:=oW (val u) (j+n);rw [show j+n - 1+1=j+n by omega] at h3;rw [Nat.div_eq_of_lt h.ult] at h4;rw [dU u _ h.ulim,dU u _ h.ulim];omega
 have e2:val v / 4294967296 ^ (n - 1)=v.getD (n - 1) 0:=by
  have h3:=oW (val v) (n - 1);rw [show n - 1+1=n by omega,Nat.div_eq_of_lt h.sz] at h3;rw [dU v _ h.vlim];omega
 rw [← e1,← e2,Nat.div_lt_iff_lt_mul (jB _),← Nat.succ_mul];refine Nat.lt_of_lt_of_le h.lt ?_
 have e3:val v≤(val v / 4294967296 ^ (n - 1)+1)*4294967296 ^ (n - 1):=by
  have:=Nat.div_add_mod (val v) (4294967296 ^ (n - 1));have:=Nat.mod_lt (val v) (jB (n - 1));rw [Nat.succ_mul,Nat.mul_comm (val v / 4294967296 ^ (n - 1))];omega
 calc val v*4294967296 ^ (j+1)≤(val v / 4294967296 ^ (n - 1)+1)*4294967296 ^ (n - 1)*4294967296 ^ (j+1):=Nat.mul_le_mul_right _ e3
  _=(val v / 4294967296 ^ (n - 1)+1)*4294967296*4294967296 ^ (j+n - 1):=by
   have q1:4294967296 ^ (j+1)=4294967296 ^ j*4294967296:=Nat.pow_succ ..
   have q2:4294967296 ^ (j+n - 1)=4294967296 ^ (n - 1)*4294967296 ^ j:=by rw [← Nat.pow_add];congr 1;omega
   rw [q1,q2];ac_rfl
theorem QH.up {u v:List Nat} {n j d:Nat} (h:QH u v n j) (hd:d<4294967296)
  (hw:d*(v.getD (n - 1) 0*4294967296+v.getD (n - 2) 0)≤(u.getD (j+n) 0*4294967296+u.getD (j+n - 1) 0)*4294967296+u.getD (j+n - 2) 0):d≤val u / (val v*4294967296 ^ j)+1:=by
 have hn:=h.n2;have hpos:0<val v*4294967296 ^ j:=Nat.mul_pos h.vpos (jB j)
 have hpj:4294967296 ^ (j+n - 2)=4294967296 ^ (n - 2)*4294967296 ^ j:=by rw [← Nat.pow_add];congr 1;omega
 rcases Nat.eq_zero_or_pos d with h0|h0
 ·subst h0;exact Nat.zero_le _
 obtain ⟨e,rfl⟩:∃ e,d=e+1:=⟨d - 1,by omega⟩;refine Nat.succ_le_succ ?_;rw [Nat.le_div_iff_mul_le hpos];have ht:=h.utop;have hv:=h.vtop;have htop:=h.top;rw [← hv,← ht] at hw
 have hV:val v≤(val v / 4294967296 ^ (n - 2)+1)*4294967296 ^ (n - 2):=by
  have:=Nat.div_add_mod (val v) (4294967296 ^ (n - 2));have:=Nat.mod_lt (val v) (jB (n - 2));rw [Nat.succ_mul,Nat.mul_comm (val v / 4294967296 ^ (n - 2))];omega
 have hW:e≤val v / 4294967296 ^ (n - 2):=by rw [hv];omega
 calc e*(val v*4294967296 ^ j)≤e*((val v / 4294967296 ^ (n - 2)+1)*4294967296 ^ (n - 2)*4294967296 ^ j):=Nat.mul_le_mul_left _ (Nat.mul_le_mul_right _ hV)
  _=(e*(val v / 4294967296 ^ (n - 2))+e)*(4294967296 ^ (n - 2)*4294967296 ^ j):=by rw [Nat.mul_assoc,← Nat.mul_assoc e,Nat.mul_succ]
  _≤((e+1)*(val v / 4294967296 ^ (n - 2)))*(4294967296 ^ (n - 2)*4294967296 ^ j):=by
   refine Nat.mul_le_mul_right _ ?_;rw [Nat.succ_mul];omega
  _≤val u / 4294967296 ^ (j+n - 2)*4294967296 ^ (j+n - 2):=by rw [hpj];exact Nat.mul_le_mul_right _ (by rw [← hpj];exact hw)
  _≤val u:=Nat.div_mul_le_self _ _
structure TakeIn (u0:List Nat) (V d j i:Nat) (u:List Nat) (c bo:Nat):Prop where
 len:u.length=17
 lim:Lim u
 clt:c<4294967296
 ble:bo≤1
 high:∀ t,j+i≤t→u.getD t 0=u0.getD t 0
 eq:val u+d*(V % 4294967296 ^ i)*4294967296 ^ j=val u0+(c+bo)*4294967296 ^ (j+i)
theorem TakeIn.start {u0:List Nat} (hl:u0.length=17) (hm:Lim u0) (V d j:Nat):TakeIn u0 V d j 0 u0 0 0 :=
 ⟨hl,hm,by decide,by decide,fun _ _=>rfl,by simp [Nat.mod_one]⟩
def sdw (g lo bo:Nat):Nat:=(g+18446744073709551616 - lo - bo) % 18446744073709551616
theorem c2_ {g lo bo:Nat} (hg:g<4294967296) (hl:lo<4294967296) (hb:bo≤1):sdw g lo bo % 4294967296+lo+bo=g+4294967296*(sdw g lo bo / 2 ^ 63)∧sdw g lo bo / 2 ^ 63≤1:=by
 unfold sdw;constructor<;>omega
theorem TakeIn.step {u0:List Nat} {V d j i:Nat} {u:List Nat} {c bo:Nat} (h:TakeIn u0 V d j i u c bo) (hji:j+i<17) (hd:d<4294967296) :
  TakeIn u0 V d j (i+1) (u.set (j+i) (sdw (u.getD (j+i) 0) ((c+d*dig V i) % 4294967296) bo % 4294967296)) ((c+d*dig V i) / 4294967296) (sdw (u.getD (j+i) 0) ((c+d*dig V i) % 4294967296) bo / 2 ^ 63):=by
 have hs:c+d*dig V i<18446744073709551616:=by
  have:=F5 hd (nA V i) (show 0<4294967296 by decide) h.clt;omega
 obtain ⟨e1,e2⟩:=c2_ (dA h.lim (j+i)) (Nat.mod_lt (c+d*dig V i) (show 0<4294967296 by decide)) h.ble;have hv:=q6 u (j+i) (sdw (u.getD (j+i) 0) ((c+d*dig V i) % 4294967296) bo % 4294967296) (by rw [h.len];exact hji);have heq:=h.eq;generalize hsd:sdw (u.getD (j+i) 0) ((c+d*dig V i) % 4294967296) bo=s at *;refine ⟨by simp [h.len],rV h.lim (Nat.mod_lt _ (by decide)),by omega,e2,fun t ht=>by rw [nN (by omega)];exact h.high t (by omega),?_⟩;rw [oA V i,Nat.mul_add,Nat.add_mul,show j+(i+1)=(j+i)+1 by omega,show 4294967296 ^ (j+i+1)=4294967296 ^ (j+i)*4294967296 from Nat.pow_succ ..]
 have e3:d*(4294967296 ^ i*dig V i)*4294967296 ^ j=4294967296 ^ (j+i)*(d*dig V i):=by rw [Nat.pow_add];ac_rfl
 rw [e3];have e4:=Nat.div_add_mod (c+d*dig V i) 4294967296;generalize 4294967296 ^ (j+i)=p at *;generalize d*dig V i=xy at *;generalize u.getD (j+i) 0=g at *;generalize d*(V % 4294967296 ^ i)*4294967296 ^ j=low at *
 have f1:p*(s % 4294967296)+p*((c+xy) % 4294967296)+p*bo=p*g+p*(4294967296*(s / 2 ^ 63)):=by rw [← Nat.mul_add,← Nat.mul_add,← Nat.mul_add,e1]
 have f2:p*(4294967296*((c+xy) / 4294967296))+p*((c+xy) % 4294967296)=p*c+p*xy:=by rw [← Nat.mul_add,← Nat.mul_add,e4]
 have f3:((c+xy) / 4294967296+s / 2 ^ 63)*(p*4294967296)=p*(4294967296*((c+xy) / 4294967296))+p*(4294967296*(s / 2 ^ 63)):=by rw [← Nat.mul_add,← Nat.mul_add];ac_rfl
 have f4:(c+bo)*p=p*c+p*bo:=by rw [Nat.mul_comm,Nat.mul_add]
 rw [f3];rw [f4] at heq;omega
theorem TakeIn.done {u0:List Nat} {V d j n:Nat} {u:List Nat} {c bo:Nat} (h:TakeIn u0 V d j n u c bo) (hjn:j+n<17) (hV:V<4294967296 ^ n) :
  (u.set (j+n) (sdw (u.getD (j+n) 0) c bo % 4294967296)).length=17∧Lim (u.set (j+n) (sdw (u.getD (j+n) 0) c bo % 4294967296))∧sdw (u.getD (j+n) 0) c bo / 2 ^ 63≤1 ∧
  val (u.set (j+n) (sdw (u.getD (j+n) 0) c bo % 4294967296))+d*V*4294967296 ^ j=val u0+sdw (u.getD (j+n) 0) c bo / 2 ^ 63*4294967296 ^ (j+n+1):=by
 obtain ⟨e1,e2⟩:=c2_ (dA h.lim (j+n)) h.clt h.ble;have hv:=q6 u (j+n) (sdw (u.getD (j+n) 0) c bo % 4294967296) (by rw [h.len];exact hjn);have heq:=h.eq;rw [Nat.mod_eq_of_lt hV] at heq;refine ⟨by simp [h.len],rV h.lim (Nat.mod_lt _ (by decide)),e2,?_⟩;generalize sdw (u.getD (j+n) 0) c bo=s at *;rw [show 4294967296 ^ (j+n+1)=4294967296 ^ (j+n)*4294967296 from Nat.pow_succ ..];generalize 4294967296 ^ (j+n)=p at *;generalize u.getD (j+n) 0=g at *;generalize d*V*4294967296 ^ j=low at *
 have f1:p*(s % 4294967296)+p*c+p*bo=p*g+p*(4294967296*(s / 2 ^ 63)):=by rw [← Nat.mul_add,← Nat.mul_add,← Nat.mul_add,e1]
 have f3:s / 2 ^ 63*(p*4294967296)=p*(4294967296*(s / 2 ^ 63)):=by ac_rfl
 have f4:(c+bo)*p=p*c+p*bo:=by rw [Nat.mul_comm,Nat.mul_add]
 rw [f3];rw [f4] at heq;omega
structure GiveIn (u0:List Nat) (V j i:Nat) (u:List Nat) (c:Nat):Prop where
 len:u.length=17
 lim:Lim u
 cle:c≤1
 high:∀ t,j+i≤t→u.getD t 0=u0.getD t 0
 eq:val u+c*4294967296 ^ (j+i)=val u0+V % 4294967296 ^ i*4294967296 ^ j
theorem GiveIn.start {u0:List Nat} (hl:u0.length=17) (hm:Lim u0) (V j:Nat):GiveIn u0 V j 0 u0 0 :=
 ⟨hl,hm,by decide,fun _ _=>rfl,by simp [Nat.mod_one]⟩
theorem GiveIn.step {u0:List Nat} {V j i:Nat} {u:List Nat} {c:Nat} (h:GiveIn u0 V j i u c) (hji:j+i<17) :
  GiveIn u0 V j (i+1) (u.set (j+i) ((c+(u.getD (j+i) 0+dig V i)) % 4294967296)) ((c+(u.getD (j+i) 0+dig V i)) / 4294967296):=by
 have h1:=dA h.lim (j+i);have h2:=nA V i;have h3:=h.cle;have hv:=q6 u (j+i) ((c+(u.getD (j+i) 0+dig V i)) % 4294967296) (by rw [h.len];exact hji);have heq:=h.eq;refine ⟨by simp [h.len],rV h.lim (Nat.mod_lt _ (by decide)),by omega,fun t ht=>by rw [nN (by omega)];exact h.high t (by omega),?_⟩;rw [oA V i,Nat.add_mul,show j+(i+1)=(j+i)+1 by omega,show 4294967296 ^ (j+i+1)=4294967296 ^ (j+i)*4294967296 from Nat.pow_succ ..]
 have e3:4294967296 ^ i*dig V i*4294967296 ^ j=4294967296 ^ (j+i)*dig V i:=by rw [Nat.pow_add];ac_rfl
 rw [e3];generalize hs:c+(u.getD (j+i) 0+dig V i)=s at *;have e4:=Nat.div_add_mod s 4294967296;generalize 4294967296 ^ (j+i)=p at *;generalize dig V i=y at *;generalize u.getD (j+i) 0=g at *;generalize V % 4294967296 ^ i*4294967296 ^ j=low at *
 have f1:p*(4294967296*(s / 4294967296))+p*(s % 4294967296)=p*c+(p*g+p*y):=by rw [← Nat.mul_add,e4,← hs,Nat.mul_add,Nat.mul_add]
 have f3:s / 4294967296*(p*4294967296)=p*(4294967296*(s / 4294967296)):=by ac_rfl
 rw [f3];rw [Nat.mul_comm c p] at heq;omega
theorem GiveIn.done {u0:List Nat} {V j n:Nat} {u:List Nat} {c:Nat} (h:GiveIn u0 V j n u c) (hjn:j+n<17) (hV:V<4294967296 ^ n) :
  (u.set (j+n) ((u.getD (j+n) 0+c) % 4294967296)).length=17∧Lim (u.set (j+n) ((u.getD (j+n) 0+c) % 4294967296)) ∧
  val (u.set (j+n) ((u.getD (j+n) 0+c) % 4294967296))+(u.getD (j+n) 0+c) / 4294967296*4294967296 ^ (j+n+1)=val u0+V*4294967296 ^ j:=by
 have hv:=q6 u (j+n) ((u.getD (j+n) 0+c) % 4294967296) (by rw [h.len];exact hjn);have heq:=h.eq;rw [Nat.mod_eq_of_lt hV] at heq;refine ⟨by simp [h.len],rV h.lim (Nat.mod_lt _ (by decide)),?_⟩;rw [show 4294967296 ^ (j+n+1)=4294967296 ^ (j+n)*4294967296 from Nat.pow_succ ..];have e4:=Nat.div_add_mod (u.getD (j+n) 0+c) 4294967296;generalize 4294967296 ^ (j+n)=p at *;generalize u.getD (j+n) 0=g at *
 have f1:p*(4294967296*((g+c) / 4294967296))+p*((g+c) % 4294967296)=p*g+p*c:=by rw [← Nat.mul_add,e4,Nat.mul_add]
 have f3:(g+c) / 4294967296*(p*4294967296)=p*(4294967296*((g+c) / 4294967296)):=by ac_rfl
 rw [f3];rw [Nat.mul_comm c p] at heq;omega
theorem T7 {a b:Nat} (h:b≤a) (h1:a≤1000000):IntKind.i64.wrap ((a:Int) - (b:Int))=((a - b:Nat):Int):=by
 rw [bR (by unfold I64;omega)];omega
theorem pP {a b:Nat} {c:Int} (hc:c=b) (h:b≤a) (h1:a≤1000000):IntKind.i64.wrap ((a:Int) - c)=((a - b:Nat):Int):=by
 rw [hc];exact T7 h h1
theorem OS {r x:Nat} (hr:r<4294967296) (hx:x<4294967296):IntKind.u64.wrap ((BitVec.ofInt IntKind.u64.bits ((r*2 ^ 32:Nat):Int) ||| BitVec.ofInt IntKind.u64.bits (x:Int)).toNat:Int)=((r*4294967296+x:Nat):Int):=EC hr hx
theorem b2_ {a b:Nat} (h:a<18446744073709551616):IntKind.u64.wrap ((a:Int).tdiv (b:Int))=((a / b:Nat):Int):=by
 rw [TP,Nat.mod_eq_of_lt (Nat.lt_of_le_of_lt (Nat.div_le_self a b) h)]
theorem TE {a b:Nat} (h:a*b<18446744073709551616):IntKind.u64.wrap ((a:Int)*(b:Int))=((a*b:Nat):Int):=by
 rw [kK,← Int.natCast_mul];omega
theorem G7 {a:Nat} {c:Int} (hc:c=1) (h:1≤a) (h1:a<18446744073709551616):IntKind.u64.wrap ((a:Int) - c)=((a - 1:Nat):Int):=by
 rw [kK];omega
theorem KJ {a b:Nat} (h:a+b<18446744073709551616):IntKind.u64.wrap ((a:Int)+(b:Int))=((a+b:Nat):Int):=by
 rw [kK];omega
theorem tB {x:Nat} (hx:x<4294967296):Value.int .u64 (IntKind.u64.wrap (x:Int)) = .int .u64 (x:Int):=by rw [iS hx]
theorem TA {a b:Nat} (ha:a<4294967296) (hb:b<4294967296):a*b<18446744073709551616:=by
 have:=F5 ha hb (show 0<4294967296 by decide) (show 0<4294967296 by decide);omega
theorem eE_ {c d y:Nat} (hc:c<4294967296) (hd:d<4294967296) (hy:y<4294967296):IntKind.u64.wrap ((c:Int)+IntKind.u64.wrap ((d:Int)*IntKind.u64.wrap (y:Int)))=((c+d*y:Nat):Int):=by
 rw [iS hy,TE (TA hd hy),KJ];have:=F5 hd hy (show 0<4294967296 by decide) hc;omega
theorem c6_ {x l b:Nat} (hb:b≤1) (hx:x<4294967296) (hl:l<4294967296):IntKind.u64.wrap (IntKind.u64.wrap (IntKind.u64.wrap (x:Int) - IntKind.u64.wrap (l:Int)) - (b:Int))=((sdw x l b:Nat):Int):=TC hb hx hl
theorem eC_ {x l b:Nat} (hb:b≤1) (hx:x<4294967296) (hl:l<4294967296):IntKind.u64.wrap (IntKind.u64.wrap (IntKind.u64.wrap (x:Int) - (l:Int)) - (b:Int))=((sdw x l b:Nat):Int):=by
 rw [← c6_ hb hx hl,iS hl]
theorem dS_ {c x y:Nat} (hc:c≤1) (hx:x<4294967296) (hy:y<4294967296):IntKind.u64.wrap ((c:Int)+IntKind.u64.wrap (IntKind.u64.wrap (x:Int)+IntKind.u64.wrap (y:Int)))=((c+(x+y):Nat):Int):=by
 simp only [kK];omega
theorem dR_ {x c:Nat} (hx:x<4294967296) (hc:c≤1):Value.int .u32 (IntKind.u32.wrap ((x:Int)+IntKind.u32.wrap (c:Int)))=U32 ((x+c) % 4294967296):=by
 simp only [tG,U32];congr 1;omega
theorem C1 {l:List Nat} {k:Nat} (h:∀ j,k≤j→l.getD j 0=0):szL l≤k:=by
 rcases Nat.lt_or_ge k (szL l) with h1|h1
 ·obtain ⟨n,hn⟩:∃ n,szL l=n+1:=⟨szL l - 1,by omega⟩
  exact absurd (h n (by omega)) (rX l n hn)
 exact h1
theorem JR {l:List Nat} {k:Nat} (hl:Lim l) (h:∀ j,k≤j→l.getD j 0=0):val l<4294967296 ^ k :=
 Nat.lt_of_lt_of_le (qO hl) (Nat.pow_le_pow_right (by decide) (C1 h))
theorem EI {l:List Nat} {k j:Nat} (hl:Lim l) (h:val l<4294967296 ^ k) (hj:k≤j):l.getD j 0=0:=by
 rw [dU l j hl,dig,Nat.div_eq_of_lt (Nat.lt_of_lt_of_le h (Nat.pow_le_pow_right (by decide) hj))]
structure Took (u0:List Nat) (V d j n:Nat) (x:List Nat×Nat):Prop where
 len:x.1.length=17
 lim:Lim x.1
 small:val x.1<4294967296 ^ (j+n+1)
 ble:x.2≤1
 eq:val x.1+d*V*4294967296 ^ j=val u0+x.2*4294967296 ^ (j+n+1)
theorem R0 {u0 v:List Nat} {d j i:Nat} {u:List Nat} {c bo:Nat} (h:TakeIn u0 (val v) d j i u c bo) (lv:Lim v) (hji:j+i<17) (hd:d<4294967296) :
  TakeIn u0 (val v) d j (i+1) (u.set (j+i) (sdw (u.getD (j+i) 0) ((c+d*v.getD i 0) % 4294967296) bo % 4294967296)) ((c+d*v.getD i 0) / 2 ^ 32) (sdw (u.getD (j+i) 0) ((c+d*v.getD i 0) % 4294967296) bo / 2 ^ 63):=by
 rw [dU v i lv];exact h.step hji hd
theorem TakeIn.took {u0:List Nat} {V d j n:Nat} {u:List Nat} {c bo:Nat} (h:TakeIn u0 V d j n u c bo) (hjn:j+n<17) (hV:V<4294967296 ^ n) (l0:Lim u0) (h0:val u0<4294967296 ^ (j+n+1)) :
  Took u0 V d j n (u.set (j+n) (sdw (u.getD (j+n) 0) c bo % 4294967296),sdw (u.getD (j+n) 0) c bo / 2 ^ 63):=by
 obtain ⟨h1,h2,h3,h4⟩:=h.done hjn hV;exact ⟨h1,h2,JR h2 (fun t ht=>by rw [nN (by omega),h.high t (by omega)];exact EI l0 h0 ht),h3,h4⟩
structure Gave (u0:List Nat) (V j n:Nat) (x:List Nat):Prop where
 len:x.length=17
 lim:Lim x
 small:val x<4294967296 ^ (j+n+1)
 eq:∃ c,val x+c*4294967296 ^ (j+n+1)=val u0+V*4294967296 ^ j
theorem QV {u0 v:List Nat} {j i:Nat} {u:List Nat} {c:Nat} (h:GiveIn u0 (val v) j i u c) (lv:Lim v) (hji:j+i<17) :
  GiveIn u0 (val v) j (i+1) (u.set (j+i) ((c+(u.getD (j+i) 0+v.getD i 0)) % 4294967296)) ((c+(u.getD (j+i) 0+v.getD i 0)) / 2 ^ 32):=by
 rw [dU v i lv];exact h.step hji
theorem GiveIn.gave {u0:List Nat} {V j n:Nat} {u:List Nat} {c:Nat} (h:GiveIn u0 V j n u c) (hjn:j+n<17) (hV:V<4294967296 ^ n) (l0:Lim u0) (h0:val u0<4294967296 ^ (j+n+1)) :
  Gave u0 V j n (u.set (j+n) ((u.getD (j+n) 0+c) % 4294967296)):=by
 obtain ⟨h1,h2,h3⟩:=h.done hjn hV;exact ⟨h1,h2,JR h2 (fun t ht=>by rw [nN (by omega),h.high t (by omega)];exact EI l0 h0 ht),_,h3⟩
structure DV (xs ys:List Nat) (n s:Nat):Prop where
 hx:xs.length=16
 hy:ys.length=16
 lx:Lim xs
 ly:Lim ys
 hn:szL ys=n
 n2:2≤n
 hs:s=32 - bl (ys.getD (n - 1) 0)
 le:val ys≤val xs
section
variable {xs ys:List Nat} {n s:Nat} (h:DV xs ys n s)
include h
theorem DV.n16:n≤16:=by have:=rN ys;rw [h.hn,h.hy] at this;exact this
theorem DV.bl1:1≤bl (ys.getD (n - 1) 0):=by
 have h2:=h.n2;have h1:=rX ys (n - 1) (by rw [h.hn];omega);unfold bl;rw [if_neg h1];omega
theorem DV.s32:s<32:=by have:=h.bl1;have:=h.hs;omega
theorem DV.bl32:bl (ys.getD (n - 1) 0)≤32:=sH (dA h.ly _)
theorem DV.blv:bl (val ys)+s=32*n:=by
 have h2:=h.n2;have h1:=NI h.ly (n:=n - 1) (by rw [h.hn];omega);have:=h.bl32;have:=h.hs;omega
theorem DV.ypos:0<val ys:=by
 have h2:=h.n2;rcases Nat.eq_zero_or_pos (val ys) with h0|h0
 ·exfalso
  have h3:=rX ys (n - 1) (by rw [h.hn];omega);rw [dU ys _ h.ly,h0] at h3;simp [dig] at h3
 exact h0
omit h in
theorem LV (k:Nat):4294967296 ^ k=2 ^ (32*k):=by rw [show 4294967296=2 ^ 32 from rfl,← Nat.pow_mul]
theorem DV.vlt:val ys*2 ^ s<4294967296 ^ n:=by
 rw [LV n,← h.blv,Nat.pow_add];exact Nat.mul_lt_mul_of_pos_right (E8 _) (Nat.pow_pos (by decide))
theorem DV.v16:val (toL 16 (val ys*2 ^ s))=val ys*2 ^ s:=by
 rw [oO];exact Nat.mod_eq_of_lt (Nat.lt_of_lt_of_le h.vlt (Nat.pow_le_pow_right (by decide) h.n16))
theorem DV.vlow:2 ^ (32*n - 1)≤val ys*2 ^ s:=by
 have h1:=SC (n:=val ys) (by have:=h.ypos;omega);have h2:=h.blv
 have h3:1≤bl (val ys):=by unfold bl;rw [if_neg (by have:=h.ypos;omega)];omega
 rw [show 32*n - 1=(bl (val ys) - 1)+s by omega,Nat.pow_add];exact Nat.mul_le_mul_right _ h1
theorem DV.vtop:2147483648≤(toL 16 (val ys*2 ^ s)).getD (n - 1) 0:=by
 have h2:=h.n2;rw [dU _ _ (kE _ _),h.v16,dig]
 have h4:val ys*2 ^ s / 4294967296 ^ (n - 1)<4294967296:=by
  rw [Nat.div_lt_iff_lt_mul (jB _),Nat.mul_comm 4294967296,← Nat.pow_succ,show (n - 1).succ=n by omega];exact h.vlt
 rw [Nat.mod_eq_of_lt h4,Nat.le_div_iff_mul_le (jB _),LV (n - 1),show 2147483648=2 ^ 31 from rfl,← Nat.pow_add,show 31+32*(n - 1)=32*n - 1 by omega];exact h.vlow
theorem DV.vpos:0<val ys*2 ^ s:=Nat.mul_pos h.ypos (Nat.pow_pos (by decide))
theorem DV.nm:n≤szL xs:=by
 have h2:=h.n2;rcases Nat.lt_or_ge (szL xs) n with h1|h1
 ·exfalso
  have h3:=qO h.lx;have h4:4294967296 ^ szL xs≤4294967296 ^ (n - 1):=Nat.pow_le_pow_right (by decide) (by omega);have h5:=EI h.ly (Nat.lt_of_le_of_lt h.le (Nat.lt_of_lt_of_le h3 h4)) (Nat.le_refl _);exact rX ys (n - 1) (by rw [h.hn];omega) h5
 exact h1
theorem DV.m16:szL xs≤16:=by have:=rN xs;rw [h.hx] at this;exact this
theorem DV.start_lt:val xs*2 ^ s<val ys*2 ^ s*4294967296 ^ (szL xs - n+1):=by
 have h2:=h.n2;have h3:=h.nm;refine Nat.lt_of_lt_of_le (Nat.mul_lt_mul_of_pos_right (qO h.lx) (Nat.pow_pos (by decide))) ?_;refine Nat.le_trans ?_ (Nat.mul_le_mul_right _ h.vlow);rw [LV (szL xs),LV (szL xs - n+1),← Nat.pow_add,← Nat.pow_add];refine Nat.pow_le_pow_right (by decide) ?_;have:=h.s32;omega
end
structure QI (xs ys:List Nat) (s k:Nat) (l:List Nat):Prop where
 len:l.length=17
 lim:Lim l
 eq:val l=val xs*2 ^ s % (val ys*2 ^ s*4294967296 ^ k)
theorem OC {k n:Nat} (hk:k≤16) (h:n<4294967296 ^ k):List.replicate 16 0=tL k n:=by
 refine List.ext_getElem? fun j=>?_;unfold tL;rcases Nat.lt_or_ge j k with h1|h1
 ·rw [List.getElem?_append_left (by simpa using h1)];rw [List.getElem?_replicate,List.getElem?_replicate,if_pos h1,if_pos (by omega)]
 rw [List.getElem?_append_right (by simpa using h1)];simp only [List.length_replicate,List.getElem?_drop];rw [show k+(j - k)=j by omega];rcases Nat.lt_or_ge j 16 with h2|h2
 ·rw [UF h2,List.getElem?_replicate,if_pos h2,dig,Nat.div_eq_of_lt (Nat.lt_of_lt_of_le h (Nat.pow_le_pow_right (by decide) h1))]
 rw [List.getElem?_eq_none (by simpa using h2),List.getElem?_eq_none (by rw [cM];exact h2)]
theorem QI.qh {xs ys:List Nat} {n s j:Nat} {l:List Nat} (d:DV xs ys n s) (q:QI xs ys s (j+1) l) (hj:j+n≤16):QH l (toL 16 (val ys*2 ^ s)) n j :=
 ⟨q.len,q.lim,cM _ _,kE _ _,d.n2,hj,by rw [d.v16];exact d.vlt,d.vtop,by rw [q.eq,d.v16];exact Nat.mod_lt _ (Nat.mul_pos d.vpos (jB _))⟩
theorem QI.small {xs ys:List Nat} {n s j:Nat} {l:List Nat} (d:DV xs ys n s) (q:QI xs ys s (j+1) l):val l<4294967296 ^ (j+n+1):=by
 refine Nat.lt_of_lt_of_le (by rw [q.eq];exact Nat.mod_lt _ (Nat.mul_pos d.vpos (jB _))) ?_;rw [show j+n+1=n+(j+1) by omega,Nat.pow_add 4294967296 n (j+1)];exact Nat.mul_le_mul_right _ (Nat.le_of_lt d.vlt)
theorem QI.digit {xs ys:List Nat} {n s j:Nat} {l:List Nat} (d:DV xs ys n s) (q:QI xs ys s (j+1) l):val l / (val ys*2 ^ s*4294967296 ^ j)=dig (val xs / val ys) j:=by
 have e:val ys*2 ^ s*4294967296 ^ (j+1)=val ys*2 ^ s*4294967296 ^ j*4294967296:=by rw [show 4294967296 ^ (j+1)=4294967296 ^ j*4294967296 from Nat.pow_succ ..,Nat.mul_assoc (val ys*2 ^ s)]
 rw [q.eq,e,Nat.mod_mul_right_div_self,← Nat.div_div_eq_div_mul,Nat.mul_div_mul_right _ _ (Nat.pow_pos (by decide))];rfl
theorem QI.low {xs ys:List Nat} {n s j:Nat} {l:List Nat} (_:DV xs ys n s) (q:QI xs ys s (j+1) l):val l % (val ys*2 ^ s*4294967296 ^ j)=val xs*2 ^ s % (val ys*2 ^ s*4294967296 ^ j):=by
 have e:val ys*2 ^ s*4294967296 ^ (j+1)=val ys*2 ^ s*4294967296 ^ j*4294967296:=by rw [show 4294967296 ^ (j+1)=4294967296 ^ j*4294967296 from Nat.pow_succ ..,Nat.mul_assoc (val ys*2 ^ s)]
 rw [q.eq,e,Nat.mod_mul_right_mod]
def M7 (u v:List Nat) (j d:Nat):Prop:=d<4294967296∧val u / (val v*4294967296 ^ j)≤d∧d≤val u / (val v*4294967296 ^ j)+1
theorem I1 {u v:List Nat} {n j d rest:Nat} (H:QH u v n j) (g:GI (v.getD (n - 1) 0) (u.getD (j+n) 0*4294967296+u.getD (j+n - 1) 0) (val u / (val v*4294967296 ^ j)) d rest)
  (hc:4294967296≤rest∨(d<4294967296∧d*v.getD (n - 2) 0≤rest*4294967296+u.getD (j+n - 2) 0)):M7 u v j d:=by
 obtain ⟨h1,h2⟩:=GI.done H.gh g hc;exact ⟨h1,g.le,H.up h1 h2⟩
theorem QI.took0 {xs ys:List Nat} {n s j:Nat} {l:List Nat} (d:DV xs ys n s) (q:QI xs ys s (j+1) l) {g:Nat} (hg:M7 l (toL 16 (val ys*2 ^ s)) j g) {x:List Nat×Nat} (t:Took l (val (toL 16 (val ys*2 ^ s))) g j n x) (h0:¬ x.2=1) :
  QI xs ys s j x.1∧g % 4294967296=dig (val xs / val ys) j:=by
 obtain ⟨g1,g2,g3⟩:=hg;have e:=t.eq;have hb:=t.ble;have hd:=q.digit d;have hl:=q.low d;have hdm:=Nat.div_add_mod (val l) (val ys*2 ^ s*4294967296 ^ j);have hp:0<val ys*2 ^ s*4294967296 ^ j:=Nat.mul_pos d.vpos (jB _);have hm:=Nat.mod_lt (val l) hp;rw [d.v16] at g2 g3 e;rw [show x.2=0 by omega,Nat.zero_mul,Nat.add_zero,Nat.mul_assoc] at e;generalize hD:val ys*2 ^ s*4294967296 ^ j=D at *
 have hgq:g=val l / D:=by
  refine Nat.le_antisymm ?_ g2;rw [Nat.le_div_iff_mul_le hp];omega
 refine ⟨⟨t.len,t.lim,?_⟩,by rw [Nat.mod_eq_of_lt g1,hgq,hd]⟩;rw [hD,← hl];rw [hgq,Nat.mul_comm] at e;omega
theorem QI.took1 {xs ys:List Nat} {n s j:Nat} {l:List Nat} (d:DV xs ys n s) (q:QI xs ys s (j+1) l) {g:Nat} (hg:M7 l (toL 16 (val ys*2 ^ s)) j g) {x:List Nat×Nat} (t:Took l (val (toL 16 (val ys*2 ^ s))) g j n x) (h0:x.2=1)
  {y:List Nat} (gv:Gave x.1 (val (toL 16 (val ys*2 ^ s))) j n y):QI xs ys s j y∧(g - 1) % 4294967296=dig (val xs / val ys) j∧1≤g:=by
 obtain ⟨g1,g2,g3⟩:=hg;have e:=t.eq;obtain ⟨c,ey⟩:=gv.eq;have hd:=q.digit d;have hl:=q.low d;have hdm:=Nat.div_add_mod (val l) (val ys*2 ^ s*4294967296 ^ j);have hp:0<val ys*2 ^ s*4294967296 ^ j:=Nat.mul_pos d.vpos (jB _);have hm:=Nat.mod_lt (val l) hp;have hs:=t.small;have hys:=gv.small
 have hDB:val ys*2 ^ s*4294967296 ^ j≤4294967296 ^ (j+n+1):=by
  rw [show j+n+1=(n+j)+1 by omega,show 4294967296 ^ (n+j+1)=4294967296 ^ (n+j)*4294967296 from Nat.pow_succ ..,Nat.pow_add 4294967296 n j];refine Nat.le_trans (Nat.mul_le_mul_right _ (Nat.le_of_lt d.vlt)) (Nat.le_mul_of_pos_right _ (by decide))
 rw [d.v16] at g2 g3 e ey;rw [h0,Nat.one_mul,Nat.mul_assoc] at e;generalize 4294967296 ^ (j+n+1)=Bg at *;generalize hD:val ys*2 ^ s*4294967296 ^ j=D at *;generalize hQ:val l / D=Q at *
 have hgq:g=Q+1:=by
  rcases Nat.lt_or_ge Q g with h1|h1
  ·omega
  exfalso
  have:g*D≤Q*D:=Nat.mul_le_mul_right _ h1;rw [Nat.mul_comm Q] at this;omega
 subst hgq;rw [Nat.succ_mul,Nat.mul_comm Q] at e
 have hc:c=1:=by
  rcases Nat.lt_trichotomy c 1 with h1|h1|h1
  ·have:c=0:=by omega
   subst this;omega
  ·exact h1
  have:2*Bg≤c*Bg:=Nat.mul_le_mul_right _ h1;omega
 subst hc;refine ⟨⟨gv.len,gv.lim,?_⟩,by rw [Nat.add_sub_cancel,Nat.mod_eq_of_lt (by omega),hd],by omega⟩;rw [hD,← hl];omega
theorem QI.start {xs ys:List Nat} {n s:Nat} (d:DV xs ys n s):QI xs ys s (szL xs - n+1) ((toL 16 (val xs*2 ^ s)++[0]).set 16 (val xs*2 ^ s / 4294967296 ^ 16)):=by
 have ho:=UH d.hx d.lx d.s32
 have hl:(toL 16 (val xs*2 ^ s)++[0]).length=17:=by simp [cM]
 have hm:Lim (toL 16 (val xs*2 ^ s)++[0]):=fun x hx=>by
  rcases List.mem_append.1 hx with h1|h1
  ·exact kE _ _ x h1
  have:x=0:=by simpa using h1
  omega
 refine ⟨by simp [cM],rV hm ho,?_⟩;rw [Nat.mod_eq_of_lt d.start_lt];have hv:=q6 (toL 16 (val xs*2 ^ s)++[0]) 16 (val xs*2 ^ s / 4294967296 ^ 16) (by omega)
 have h16:(toL 16 (val xs*2 ^ s)++[0]).getD 16 0=0:=by simp [List.getD,cM]
 have hva:val (toL 16 (val xs*2 ^ s)++[0])=val xs*2 ^ s % 4294967296 ^ 16:=by rw [tC,oO];simp [val]
 rw [h16,hva,Nat.mul_zero,Nat.add_zero] at hv;rw [hv,Nat.mod_add_div]
theorem QI.fin {xs ys:List Nat} {n s:Nat} {l:List Nat} (d:DV xs ys n s) (q:QI xs ys s 0 l):toL 16 (val (l.take 16) / 2 ^ s)=toL 16 (val xs % val ys):=by
 have hp:0<2 ^ s:=Nat.pow_pos (by decide);have e:=q.eq;rw [Nat.pow_zero,Nat.mul_one] at e
 have hlt:val l<4294967296 ^ 16:=by
  rw [e];exact Nat.lt_of_lt_of_le (Nat.mod_lt _ d.vpos) (Nat.le_trans (Nat.le_of_lt d.vlt) (Nat.pow_le_pow_right (by decide) d.n16))
 rw [yI l 16 (C1 fun j hj=>EI q.lim hlt hj),e,Nat.mul_mod_mul_right,Nat.mul_div_cancel _ hp]
theorem DV.qstart {xs ys:List Nat} {n s:Nat} (d:DV xs ys n s):List.replicate 16 0=tL (szL xs - n+1) (val xs / val ys):=by
 have h1:=d.n2;have h2:=d.m16;have h3:=d.nm;refine OC (by omega) ?_;rw [Nat.div_lt_iff_lt_mul d.ypos];have h:=d.start_lt;rw [Nat.mul_right_comm,Nat.mul_comm (val ys)] at h;exact Nat.lt_of_mul_lt_mul_right h
theorem W6 {a b:Nat} (h:tH (a:Int) (b:Int)<0):a<b:=by
 rcases Nat.lt_or_ge a b with h1|h1
 ·exact h1
 exfalso;unfold tH at h;rw [if_neg (by omega)] at h;split at h<;>omega
theorem eD_ {l:List Nat} (h:0<val l):1≤szL l:=by
 rcases Nat.eq_zero_or_pos (szL l) with h1|h1
 ·have:=MU h1;omega
 exact h1
theorem VF {l:List Nat} (hl:Lim l) (h:szL l=1):l.getD 0 0=val l:=by
 have h1:=qO hl;rw [h,Nat.pow_one] at h1;rw [dU l 0 hl,dig,Nat.pow_zero,Nat.div_one,Nat.mod_eq_of_lt h1]
theorem TJ {l:List Nat} (h:szL l=1):0<l.getD 0 0:=Nat.pos_of_ne_zero (rX l 0 h)
theorem fk_ (m:Nat):FillR (fun i=>some (i*1,1)) (uw (List.replicate 16 0)) [(0,U32 m)] (uw (m::List.replicate 15 0)):=by
 refine .cons O O ?_ ?_ O (.nil _)<;>simp [uw,U32]
theorem ci_ {m:Nat} (h:m<4294967296):toL 16 m=m::List.replicate 15 0:=by
 have h1:Lim (m::List.replicate 15 0):=fun d hd=>by
  rcases List.mem_cons.1 hd with rfl|h2
  ·exact h
  rw [List.eq_of_mem_replicate h2];decide
 have h2:=v7 _ h1;rw [show val (m::List.replicate 15 0)=m by simp [val,mI]] at h2;exact h2
theorem bk_ {a:List Nat} (h:a.length=16):(uw (List.replicate 17 0)).take (0+(0:Int).toNat*1)++((uw a).drop (0+(0:Int).toNat*1)).take (min (((16:Nat):Int).toNat - (0:Int).toNat) (((17:Nat):Int).toNat - (0:Int).toNat)*1) ++
  (uw (List.replicate 17 0)).drop (0+(0:Int).toNat*1+min (((16:Nat):Int).toNat - (0:Int).toNat) (((17:Nat):Int).toNat - (0:Int).toNat)*1)=uw (a++[0]):=by
 have e:(uw a).take 16=uw a:=List.take_of_length_le (by rw [e8,h];exact Nat.le_refl _)
 show []++(uw a).take 16++[U32 0]=_
 rw [e];simp [uw]
theorem Took.pos {u0:List Nat} {V d j n:Nat} {x:List Nat×Nat} (t:Took u0 V d j n x) (h:x.2=1):1≤d:=by
 rcases Nat.eq_zero_or_pos d with h0|h0
 ·have h1:=t.eq;have h2:=t.small
  rw [h,h0,Nat.zero_mul,Nat.zero_mul,Nat.one_mul] at h1;omega
 exact h0
theorem ck_ {l:List Nat}:((uw l).drop (0+(0:Int).toNat*1)).take 16=uw (l.take 16):=by
 show (uw l).take 16=_
 simp [uw]
theorem Z6 {xs ys:List Nat} (hx:xs.length=16) (lx:Lim xs) (h:val xs<val ys):Value.tuple #[UV (List.replicate 16 0),UV xs] = .tuple #[UV (toL 16 (val xs / val ys)),UV (toL 16 (val xs % val ys))]:=by
 rw [Nat.div_eq_of_lt h,Nat.mod_eq_of_lt h,aA_,← hx,v7 xs lx]
theorem b1_ {xs ys:List Nat} (ly:Lim ys) (h:szL ys=1):Value.tuple #[UV (toL 16 (val xs / ys.getD 0 0)),UV (val xs % ys.getD 0 0::List.replicate 15 0)] = .tuple #[UV (toL 16 (val xs / val ys)),UV (toL 16 (val xs % val ys))]:=by
 rw [← VF ly h,ci_ (Nat.lt_trans (Nat.mod_lt _ (TJ h)) (dA ly 0))]
open Go Go.Kn
def Z.bits (a:Z):Nat:=match a.o with|some x=>bl x.natAbs|none=>0
theorem WY {a:R} (h:a.good=false):(0:Nat)=a.dec.bits:=by rw [qR h];rfl
theorem D9 {a:R} (ha:a.Ok) (hg:a.good=true):a.dec.bits=bl (val a.w):=by
 unfold Z.bits;rw [dQ ha hg];simp only [kY]
theorem UR {a:R} (ha:a.Ok) (hg:a.good=true) (h:szL a.w=0):(0:Nat)=a.dec.bits:=by
 rw [D9 ha hg,MU h];rfl
theorem W0 {a:R} (ha:a.Ok) (hg:a.good=true) (h:1≤szL a.w):32*(szL a.w - 1)+bl (a.w.getD (szL a.w - 1) 0)=a.dec.bits:=by
 rw [D9 ha hg,NI ha.lim (n:=szL a.w - 1) (by omega)]
theorem fx_ {n:Nat} {c:Int} (hc:c=32) (h:n≤1000):IntKind.i64.wrap (c*(n:Int))=((32*n:Nat):Int):=by
 subst hc;rw [bR (by unfold I64;omega)];omega
theorem AD {a:R} (ha:a.Ok) (h:val a.w<18446744073709551616):a.w.getD 1 0*4294967296+a.w.getD 0 0=val a.w:=by
 rw [dU _ _ ha.lim,dU _ _ ha.lim,dig,dig,Nat.pow_one,Nat.pow_zero];omega
theorem dz_ {a:R} (ha:a.Ok) (hg:a.good=true) (h:¬ 64<(a.dec.bits:Int)):val a.w<18446744073709551616:=by
 rw [D9 ha hg] at h;have:=E8 (val a.w);have h2:2 ^ bl (val a.w)≤2 ^ 64:=Nat.pow_le_pow_right (by decide) (by omega);omega
theorem VW {a:R} (h:a.good=false):Value.tuple #[.int .i64 0,.bool false] = .tuple #[.int .i64 a.dec.small.1,.bool a.dec.small.2]:=by rw [qR h];rfl
theorem CY {a:R} (ha:a.Ok) (hg:a.good=true) (h:¬ (-9223372036854775808≤sgn a.neg (val a.w)∧sgn a.neg (val a.w)≤9223372036854775807)):Value.tuple #[.int .i64 0,.bool false] = .tuple #[.int .i64 a.dec.small.1,.bool a.dec.small.2]:=by
 unfold Z.small;rw [dQ ha hg];simp only;rw [if_neg h]
theorem PM {a:R} (ha:a.Ok) (hg:a.good=true) {v:Int} (e:v=sgn a.neg (val a.w)) (h:-9223372036854775808≤sgn a.neg (val a.w)∧sgn a.neg (val a.w)≤9223372036854775807):Value.tuple #[.int .i64 v,.bool true] = .tuple #[.int .i64 a.dec.small.1,.bool a.dec.small.2]:=by
 unfold Z.small;rw [dQ ha hg];simp only;rw [if_pos h,e]
theorem RX {a:R} (ha:a.Ok) (hg:a.good=true) (h:64<(a.dec.bits:Int)):Value.tuple #[.int .i64 0,.bool false] = .tuple #[.int .i64 a.dec.small.1,.bool a.dec.small.2]:=by
 refine CY ha hg fun hr=>?_;rw [D9 ha hg] at h
 have h1:val a.w≤9223372036854775808:=by cases hn:a.neg<;>simp only [hn,sgn,if_true,if_false,Bool.false_eq_true] at hr<;>omega
 have:=sH (n:=val a.w) (k:=64) (by omega);omega
theorem VX {v:Nat} (h:v≤9223372036854775808):IntKind.i64.wrap (IntKind.u64.wrap (0 - (v:Int))) = -(v:Int):=by
 rw [kK,HQ];split<;>omega
theorem VY {v:Nat} (h:v<9223372036854775808):IntKind.i64.wrap (v:Int)=(v:Int):=bR (by unfold I64;omega)
theorem x9 (n:Nat):sgn true n = -(n:Int):=rfl
theorem u4 (n:Nat):sgn false n=(n:Int):=rfl
theorem ED {x y q r:Int} (h:r+y*q=x) (hr:(0≤r∧r<y)∨(y<r∧r≤0)):x.fdiv y=q∧x.fmod y=r:=by
 rcases hr with hr|hr
 ·exact (Int.fdiv_fmod_unique (by omega)).2 ⟨h,hr.1,hr.2⟩
 exact (Int.fdiv_fmod_unique' (by omega)).2 ⟨h,hr.1,hr.2⟩
theorem G2 {z:Z} (h:z.small.2=true):z.o=some z.small.1∧I64 z.small.1:=by
 unfold Z.small at *
 cases hz:z.o with
 | none=>simp [hz] at h
 | some x =>
  simp only [hz] at h ⊢
  split at h
  ·rename_i hr;rw [if_pos hr];exact ⟨rfl,hr⟩
  ·cases h
theorem sZ {x y:Int} (hy:y≠0):(x.tmod y).natAbs<y.natAbs∧x.tmod y+y*x.tdiv y=x:=by
 refine ⟨?_,Int.tmod_add_mul_tdiv x y⟩;rw [Int.natAbs_tmod];exact Nat.mod_lt _ (by omega)
theorem cY_ {x y:Int} (hx:I64 x) (hm:x ≠ -9223372036854775808):(x.tdiv y).natAbs≤9223372036854775807:=by
 have:=Int.natAbs_tdiv_le_natAbs x y;unfold I64 at hx;omega
theorem Z5 {x y:Int} (hx:I64 x) (hm:x ≠ -9223372036854775808):I64 (x.tdiv y):=by have:=cY_ (y:=y) hx hm;unfold I64;omega
theorem em_ {x y:Int} (hx:I64 x) (hm:x ≠ -9223372036854775808):I64 (x.tdiv y - 1):=by have:=cY_ (y:=y) hx hm;unfold I64;omega
theorem er_ {x y:Int} (hy:y≠0) (hy2:I64 y):I64 (x.tmod y):=by have:=(sZ (x:=x) hy).1;unfold I64 at *;omega
theorem es_ {x y:Int} (hy:y≠0) (hy2:I64 y) (h:(decide (x.tmod y<0) != decide (y<0))=true):I64 (x.tmod y+y):=by
 have:=(sZ (x:=x) hy).1
 have h':¬ (x.tmod y<0 ↔ y<0):=by simpa using h
 unfold I64 at *;omega
theorem dP_ {x y:Int} (hy:y≠0) (h0:x.tmod y≠0) (h:(decide (x.tmod y<0) != decide (y<0))=true):x.fdiv y=x.tdiv y - 1∧x.fmod y=x.tmod y+y:=by
 obtain ⟨h1,h2⟩:=sZ (x:=x) hy
 have h':¬ (x.tmod y<0 ↔ y<0):=by simpa using h
 refine ED ?_ (by omega);rw [Int.mul_sub,Int.mul_one];omega
theorem SP {x y:Int} (hy:y≠0) (h:x.tmod y=0∨(decide (x.tmod y<0) != decide (y<0))=false):x.fdiv y=x.tdiv y∧x.fmod y=x.tmod y:=by
 obtain ⟨h1,h2⟩:=sZ (x:=x) hy;refine ED h2 ?_;rcases h with h|h
 ·omega
 have h':x.tmod y<0 ↔ y<0:=by simpa using h
 omega
theorem MJ {z:Z} {y:Int} (h:z.o=some y) (hs:z.sign≠0):y≠0:=by
 unfold Z.sign at hs;rw [h] at hs;simp only at hs;rintro rfl;exact hs O
theorem CX {a b:Z} {x y q r:Int} (ha:a.o=some x) (hb:b.o=some y) (hs:b.sign≠0) (h:x.fdiv y=q∧x.fmod y=r):Value.tuple #[RV (Z.of q).enc,RV (Z.of r).enc] = .tuple #[RV (Z.quo a b).enc,RV (Z.rem a b).enc]:=by
 have hy:=MJ hb hs;rw [Z.quo,Z.rem,eG ha hb,eG ha hb,if_neg hy,if_neg hy,h.1,h.2]
theorem b0_ {a b:Z} (h:a.o=none∨b.o=none):Value.tuple #[RV Z.bad.enc,RV Z.bad.enc] = .tuple #[RV (Z.quo a b).enc,RV (Z.rem a b).enc]:=by
 rw [Z.quo,Z.rem,jH h,jH h]
theorem Z8 {a b:R} (ha:a.Ok) (hb:b.Ok) (ga:a.good=true) (gb:b.good=true) (h:b.dec.sign=0):Value.tuple #[RV Z.bad.enc,RV Z.bad.enc] = .tuple #[RV (Z.quo a.dec b.dec).enc,RV (Z.rem a.dec b.dec).enc]:=by
 rw [Z.quo,Z.rem,eG (dQ ha ga) (dQ hb gb),eG (dQ ha ga) (dQ hb gb)];unfold Z.sign at h;rw [dQ hb gb] at h;have:sgn b.neg (val b.w)=0:=Int.sign_eq_zero_iff_zero.1 h;rw [if_pos this,if_pos this]
theorem aj_ {n:Bool} {a:Nat} (h:0<a):sgn n a≠0:=by cases n<;>simp only [x9,u4]<;>omega
theorem D7 {b:R} (hb:b.Ok) (gb:b.good=true) (h:b.dec.sign≠0):0<val b.w:=by
 rcases Nat.eq_zero_or_pos (val b.w) with h0|h0
 ·exfalso;have:=MJ (dQ hb gb) h
  rw [h0] at this;cases hn:b.neg<;>simp [hn,sgn] at this
 exact h0
theorem Z7 {a b:R} (ha:a.Ok):val a.w / val b.w<4294967296 ^ 16:=Nat.lt_of_le_of_lt (Nat.div_le_self _ _) ha.vlt
theorem pG {a b:R} (ha:a.Ok):val a.w % val b.w<4294967296 ^ 16:=Nat.lt_of_le_of_lt (Nat.mod_le _ _) ha.vlt
theorem XY (a b:Nat):((a % b:Nat):Int)+(b:Int)*((a / b:Nat):Int)=(a:Int):=by
 rw [← Int.natCast_mul,← Int.natCast_add,Nat.mod_add_div]
theorem NU {a b:R} (ha:a.Ok) (hb:b.Ok) (ga:a.good=true) (gb:b.good=true) (hp:0<val b.w) (h:val a.w % val b.w=0∨a.neg=b.neg) :
  (toL 16 (val a.w % val b.w)).length=16∧Lim (toL 16 (val a.w % val b.w))∧Z.of (sgn (a.neg != b.neg) (val a.w / val b.w))=Z.quo a.dec b.dec∧R.mk false (b.neg && !(val (toL 16 (val a.w % val b.w))==0)) (toL 16 (val a.w % val b.w))=(Z.rem a.dec b.dec).enc:=by
 have hb0:=aj_ (n:=b.neg) hp;have hm:=Nat.mod_lt (val a.w) hp;have hd:=XY (val a.w) (val b.w)
 obtain ⟨e1,e2⟩:(sgn a.neg (val a.w)).fdiv (sgn b.neg (val b.w))=sgn (a.neg != b.neg) (val a.w / val b.w)∧(sgn a.neg (val a.w)).fmod (sgn b.neg (val b.w))=sgn b.neg (val a.w % val b.w):=by
  refine ED ?_ ?_
  ·cases h1:a.neg<;>cases h2:b.neg<;>simp only [h1,h2,x9,u4,Bool.bne_false,Bool.bne_true,Bool.not_true,Bool.not_false,Bool.false_eq_true,Bool.true_eq_false,or_false,reduceCtorEq,Int.neg_mul,Int.mul_neg,bne_self_eq_false,Bool.false_bne,Bool.true_bne] at h ⊢ <;> omega
  ·cases h2:b.neg<;>simp only [x9,u4]<;>omega
 refine ⟨cM _ _,kE _ _,?_,?_⟩
 ·rw [Z.quo,eG (dQ ha ga) (dQ hb gb),if_neg hb0,e1]
 rw [lY b.neg (pG ha),Z.rem,eG (dQ ha ga) (dQ hb gb),if_neg hb0,e2]
theorem bo_ {a b:R} (ha:a.Ok) (hb:b.Ok) (ga:a.good=true) (gb:b.good=true) (hp:0<val b.w) (h0:¬ val a.w % val b.w=0) (h:a.neg≠b.neg) :
  (toL 16 (val b.w - val (toL 16 (val a.w % val b.w)))).length=16∧Lim (toL 16 (val b.w - val (toL 16 (val a.w % val b.w))))∧Z.sub (Z.of (sgn (a.neg != b.neg) (val a.w / val b.w))).enc.dec (Z.of 1).enc.dec=Z.quo a.dec b.dec ∧
  R.mk false (b.neg && !(val (toL 16 (val b.w - val (toL 16 (val a.w % val b.w))))==0)) (toL 16 (val b.w - val (toL 16 (val a.w % val b.w))))=(Z.rem a.dec b.dec).enc:=by
 have hb0:=aj_ (n:=b.neg) hp;have hm:=Nat.mod_lt (val a.w) hp;have hd:=XY (val a.w) (val b.w)
 have hv:val (toL 16 (val a.w % val b.w))=val a.w % val b.w:=by rw [oO,Nat.mod_eq_of_lt (pG ha)]
 have hx:(a.neg != b.neg)=true:=by simpa using h
 obtain ⟨e1,e2⟩:(sgn a.neg (val a.w)).fdiv (sgn b.neg (val b.w)) = -((val a.w / val b.w:Nat):Int) + -1∧(sgn a.neg (val a.w)).fmod (sgn b.neg (val b.w))=sgn b.neg (val b.w - val a.w % val b.w):=by
  refine ED ?_ ?_
  ·cases h1:a.neg<;>cases h2:b.neg<;>simp only [h1,h2,x9,u4,ne_eq,not_true,reduceCtorEq,not_false_eq_true,Int.neg_mul,Int.mul_neg,Int.mul_add,Int.mul_one] at h ⊢ <;> omega
  ·cases h2:b.neg<;>simp only [x9,u4]<;>omega
 have hq:=Z7 (b:=b) ha;refine ⟨cM _ _,kE _ _,?_,?_⟩
 ·rw [Z.quo,eG (dQ ha ga) (dQ hb gb),if_neg hb0,e1,vJ,vJ,Z.sub,Z.add,Z.neg,kG (Z.of_some (v:=1) (by decide)),hx,x9,eG (Z.of_some (by rw [Int.natAbs_neg,Int.natAbs_natCast];exact hq)) (Z.of_some (by decide))]
 rw [hv,lY b.neg (Nat.lt_of_le_of_lt (Nat.sub_le _ _) hb.vlt),Z.rem,eG (dQ ha ga) (dQ hb gb),if_neg hb0,e2]
theorem ac_ {a b:R} (ha:a.Ok):(val a.w % val b.w==0)=true ↔ uw (toL 16 (val a.w % val b.w))=uw (List.replicate 16 0):=by
 rw [← y7 (cM _ _) (kE _ _),oO,Nat.mod_eq_of_lt (pG ha)]
theorem et_ {a b:R} (ha:a.Ok) (hp:0<val b.w):val (toL 16 (val a.w % val b.w))≤val b.w:=by
 rw [oO,Nat.mod_eq_of_lt (pG ha)];exact Nat.le_of_lt (Nat.mod_lt _ hp)
theorem bx_ {a b:R} (h:[a,b].all R.good=false):Z.bad.enc=(Z.gcd a.dec b.dec).enc:=by rw [Z.gcd,jH (BD h)]
theorem EG {a b:R} (ha:a.Ok) (hb:b.Ok) (ga:a.good=true) (gb:b.good=true):Z.gcd a.dec b.dec=Z.of ((Nat.gcd (val a.w) (val b.w):Nat):Int):=by
 rw [Z.gcd,eG (dQ ha ga) (dQ hb gb),Int.gcd,kY,kY]
theorem sz2 {a:R} (ha:a.Ok) (h:szL a.w≤2):val a.w<18446744073709551616:=by
 have:=qO ha.lim;have h2:4294967296 ^ szL a.w≤4294967296 ^ 2:=Nat.pow_le_pow_right (by decide) h;omega
theorem bz_ {x y a b:Nat} (hx:x<18446744073709551616) (e:Nat.gcd x y=Nat.gcd a b) (h0:y=0):x=Nat.gcd a b:=by rw [← e,h0,Nat.gcd_zero_right]
theorem by_ {a b:R} (ha:a.Ok) (hb:b.Ok) (ga:a.good=true) (gb:b.good=true) {x:Nat} (hx:x<18446744073709551616) (e:x=Nat.gcd (val a.w) (val b.w)) :
  RV ⟨false,false && !(val (x % 4294967296::x / 4294967296::List.replicate 14 0)==0),x % 4294967296::x / 4294967296::List.replicate 14 0⟩ = RV (Z.gcd a.dec b.dec).enc:=by
 have hv:val (x % 4294967296::x / 4294967296::List.replicate 14 0)=x:=by rw [gg_];omega
 have hl:Lim (x % 4294967296::x / 4294967296::List.replicate 14 0):=Y2 (Nat.mod_lt _ (by decide)) (by omega) 14;rw [EG ha hb ga gb,← e];have h:=kS false (w:=x % 4294967296::x / 4294967296::List.replicate 14 0) (by simp) hl;rw [hv,u4] at h;rw [h,hv]
theorem N8 {a b:R} (ha:a.Ok) (hb:b.Ok) (ga:a.good=true) (gb:b.good=true) :
  RV (Z.gcd (Z.of (sgn false (val b.w))).enc.dec (Z.of (sgn false (val a.w % val b.w))).enc.dec).enc=RV (Z.gcd a.dec b.dec).enc:=by
 rw [EG ha hb ga gb,vJ,vJ,Z.gcd,eG (Z.of_some (by rw [kY];exact hb.vlt)) (Z.of_some (by rw [kY];exact pG ha)),Int.gcd,kY,kY,Nat.gcd_comm,← Nat.gcd_rec,Nat.gcd_comm]
theorem N9 {a b:R} (ha:a.Ok) (hb:b.Ok) (ga:a.good=true) (gb:b.good=true) (h:val b.w=0):RV (Z.abs a.dec).enc=RV (Z.gcd a.dec b.dec).enc:=by
 rw [EG ha hb ga gb,h,Nat.gcd_zero_right,Z.abs,kG (dQ ha ga),kY]
theorem SM {n:Nat} (h:n<4294967296 ^ 16):val (Z.of (sgn false n)).enc.w=n:=by
 rw [← lY false h];simp only;rw [oO,Nat.mod_eq_of_lt h]
theorem dO_ {x:Nat} (hx:x<18446744073709551616):FillR (fun i=>some (i*1,1)) (uw (List.replicate 16 0)) [(0,.int .u32 (IntKind.u32.wrap (x:Int))),(1,.int .u32 (IntKind.u32.wrap ((x / 2 ^ 32:Nat):Int)))] (uw (x % 4294967296::x / 4294967296::List.replicate 14 0)) :=
 X7 (ZO _) (ZN hx)
theorem C9 {w:List Nat} (hw:w.length=16) (hl:Lim w) (neg:Bool):RV ⟨false,neg && !(val w==0),w⟩ = RV (Z.of (sgn neg (val w))).enc:=by rw [kS neg hw hl]
end Go.Num
