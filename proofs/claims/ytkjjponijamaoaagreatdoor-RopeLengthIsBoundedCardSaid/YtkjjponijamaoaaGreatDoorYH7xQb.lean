/- Lemmas: what they ask stands in their statements. -/
import Derived.Test.YtkjjponijamaoaaGreatDoorYH7xPe
set_option linter.unusedSimpArgs false
set_option linter.unusedVariables false
set_option maxHeartbeats 8000000
set_option maxRecDepth 20000

namespace Go.Num
class Rg (α:Type) [Add α] [Mul α] [OfNat α 0]:Prop where
  aa:∀ a b c:α,a+b+c=a+(b+c)
  ac:∀ a b:α,a+b=b+a
  a0:∀ a:α,a+0=a
  ma:∀ a b c:α,a * b * c=a * (b * c)
  mc:∀ a b:α,a * b=b * a
  md:∀ a b c:α,a * (b+c)=a * b+a * c
  m0:∀ a:α,a * 0=0
instance:Rg Int:=⟨Int.add_assoc,Int.add_comm,Int.add_zero,Int.mul_assoc,Int.mul_comm,Int.mul_add,Int.mul_zero⟩
instance:Rg Rat:=⟨Rat.add_assoc,Rat.add_comm,Rat.add_zero,Rat.mul_assoc,Rat.mul_comm,Rat.mul_add,Rat.mul_zero⟩
theorem Rg.zm {α:Type} [Add α] [Mul α] [OfNat α 0] [Rg α] (a:α):0 * a=0:=by rw [Rg.mc,Rg.m0]
def rD {α:Type} [Add α] [OfNat α 0] (f:Nat→α):Nat→α
  | 0=>0
  | n+1=>rD f n+f n
theorem xP {α:Type} [Add α] [Mul α] [OfNat α 0] [Rg α] {f:Nat→α}:∀ {n:Nat},(∀ i,i<n→f i=0)→rD f n=0
  | 0,_=>rfl
  | n+1,h=>by simp only [rD];rw [xP fun i hi=>h i (by omega),h n (by omega),Rg.a0]
theorem EM {α:Type} [Add α] [Mul α] [OfNat α 0] [Rg α] {f:Nat→α} {n:Nat} (h:∀ i,n≤i→f i=0):∀ m:Nat,n≤m→rD f m=rD f n
  | 0,hm=>by rw [show n=0 by omega]
  | m+1,hm=>by
    rcases Nat.lt_or_ge n (m+1) with g | g
    · rw [rD,h m (by omega),Rg.a0,EM h m (by omega)]
    rw [show n=m+1 by omega]
def conv {α:Type} [Add α] [Mul α] [OfNat α 0] (c d:Nat→α) (k:Nat):α:=rD (fun i=>c i * d (k - i)) (k+1)
theorem OB {α:Type} [Add α] [Mul α] [OfNat α 0] [Rg α] {c d:Nat→α} {n m:Nat} (hc:∀ i,n≤i→c i=0) (hd:∀ i,m≤i→d i=0) (k:Nat) (hk:n+m≤k+1):conv c d k=0:=by
  refine xP fun i hi=>?_;rcases Nat.lt_or_ge i n with h | h
  · rw [hd _ (by omega),Rg.m0]
  rw [hc _ h,Rg.zm]
open Go Go.Kn
theorem vI0:vI I0=0:=hs_ B0
theorem bk_ {u v:Int} (hu:gR u) (hv:gR v):Z.sub (Z.of u) (Z.of v)=Z.of (u - v):=by
  rw [Z.sub,eo_ hv,E8 hu (show (-v).natAbs<_ by rw [Int.natAbs_neg];exact hv),Int.sub_eq_add_neg]
structure Po (p:List I) (c:Nat→Int):Prop where
  g:p.all gdI=true
  s:tM p=p
  l:p.length≤25
  c:∀ k,vI (p.getD k I0)=c k
section
variable {p q:List I} {c d:Nat→Int}
theorem fu_ (h:p.all gdI=true) (k:Nat):gdI (p.getD k I0)=true:=by
  by_cases hk:k<p.length
  · rw [show p.getD k I0=p[k] by simp [List.getD,hk]]
    exact List.all_eq_true.1 h _ (List.getElem_mem hk)
  rw [C3 oo_];exact cs_ B0
theorem Po.get (h:Po p c) (k:Nat):p.getD k I0=E (Z.of (c k)):=by rw [← h.c k];exact (SX (fu_ h.g k)).1
theorem Po.B (h:Po p c) (k:Nat):gR (c k):=by rw [← h.c k];exact (SX (fu_ h.g k)).2
theorem Po.zero (h:Po p c) {k:Nat} (hk:p.length≤k):c k=0:=by rw [← h.c k,C3 hk,vI0]
theorem Po.last (h:Po p c) {n:Nat} (hn:p.length=n+1):c n≠0:=by
  rcases BZ p with rfl | ⟨m,x,rfl⟩
  · cases hn
  have h1:=P5 h.s
  have h2:n=m.length:=by simp at hn;omega
  have h3:=h.get n;rw [show (m ++ [x]).getD n I0=x by simp [h2]] at h3;rw [h3,mZ_ (h.B n)] at h1;exact of_decide_eq_false h1
theorem Po.short (h:Po p c) {n:Nat} (hz:∀ k,n≤k→c k=0):p.length≤n:=by
  rcases Nat.lt_or_ge n p.length with g | g
  · exact absurd (hz (p.length - 1) oo_) (h.last oo_)
  exact g
theorem Po.eq (h:Po p c) (g:Po q c):p=q:=by
  have e:p.length=q.length:=Nat.le_antisymm (h.short fun k hk=>g.zero hk) (g.short fun k hk=>h.zero hk);refine List.ext_getElem e fun k h1 h2=>?_;have a:=h.get k;rw [← g.get k] at a
  simpa [List.getD,h1,h2] using a
theorem Po.cast (h:Po p c) (e:∀ k,c k=d k):Po p d:=⟨h.g,h.s,h.l,fun k=>(h.c k).trans (e k)⟩
theorem Z5:Po [] (fun _=>0):=⟨rfl,rfl,by decide,fun k=>by rw [show ([]:List I).getD k I0=I0 by simp];exact vI0⟩
theorem Po.nil (h:Po p c) (hz:∀ k,c k=0):p=[]:=(h.cast hz).eq Z5
theorem Po.l3 (h:Po p c):p.length≤1000:=Nat.le_trans h.l dd_
theorem lk_ {v:Int} {k:Nat} (m:Nat) (hm:4294967296 ^ 16=2 ^ m) (h:v.natAbs<2 ^ k) (hk:k≤m):gR v:=by
  unfold gR;rw [hm];exact Nat.lt_of_lt_of_le h (Nat.pow_le_pow_right dd_ hk)
theorem xM {v:Int} {k:Nat} (h:v.natAbs<2 ^ k) (hk:k≤512):gR v:=lk_ 512 OU h hk
structure Bd (c:Nat→Int) (n b:Nat):Prop where
  z:∀ k,n≤k→c k=0
  b:∀ k,(c k).natAbs<2 ^ b
variable {n m b b':Nat}
theorem Bd.mono (h:Bd c n b) {n' b1:Nat} (hn:n≤n') (hb:b≤b1):Bd c n' b1:=⟨fun k hk=>h.z k oo_,fun k=>Nat.lt_of_lt_of_le (h.b k) (Nat.pow_le_pow_right dd_ hb)⟩
theorem Bd.B (h:Bd c n b) (hb:b≤512) (k:Nat):gR (c k):=xM (h.b k) hb
theorem Bd.add (h:Bd c n b) (g:Bd d m b):Bd (fun k=>c k+d k) (max n m) (b+1) :=
  ⟨fun k hk=>by show c k+d k=0;rw [h.z k oo_,g.z k oo_];rfl,fun k=>by
    show (c k+d k).natAbs<_
    have h1:=h.b k;have h2:=g.b k;have h3:=Int.natAbs_add_le (c k) (d k)
    rw [Nat.pow_succ];omega⟩
theorem pG {u v:Int} (h:u.natAbs<2 ^ b) (g:v.natAbs<2 ^ b'):(u * v).natAbs<2 ^ (b+b'):=by
  rw [Int.natAbs_mul,Nat.pow_add];exact Nat.mul_lt_mul_of_lt_of_le h (Nat.le_of_lt g) (Nat.pow_pos dd_)
theorem kT_ {f:Nat→Int} {A:Nat} (h:∀ i,(f i).natAbs≤A):∀ t:Nat,(rD f t).natAbs≤t * A
  | 0=>by simp [rD]
  | t+1=>by
    have h1:=kT_ h t;have h2:=h t;have h3:=Int.natAbs_add_le (rD f t) (f t);rw [Nat.succ_mul];show (rD f t+f t).natAbs≤_;omega
theorem kS_ {f:Nat→Int} {e:Nat} (h:∀ i,(f i).natAbs<2 ^ b) (hz:∀ i,n≤i→f i=0) (hn:n≤2 ^ e) (t:Nat):(rD f t).natAbs<2 ^ (b+e):=by
  have hb:0<2 ^ b:=Nat.pow_pos dd_
  have k1:∀ t,t≤n→(rD f t).natAbs<2 ^ (b+e):=fun t ht=>by
    have h1:=kT_ (f:=f) (A:=2 ^ b - 1) (fun i=>by have:=h i;omega) t;have h2:t * (2 ^ b - 1)≤2 ^ e * (2 ^ b - 1):=Nat.mul_le_mul_right _ oo_;have h3:2 ^ e * (2 ^ b - 1)<2 ^ e * 2 ^ b:=Nat.mul_lt_mul_of_pos_left oo_ (Nat.pow_pos dd_);rw [Nat.pow_add,Nat.mul_comm (2 ^ b)];omega
  rcases Nat.lt_or_ge n t with g | g
  · rw [EM hz t oo_];exact k1 n (Nat.le_refl _)
  exact k1 t g
theorem YK (h:Bd c n b) (g:Bd d m b') {e:Nat} (hn:n≤2 ^ e) (k t:Nat):(rD (fun i=>c i * d (k - i)) t).natAbs<2 ^ (b+b'+e) :=
  kS_ (n:=n) (fun i=>pG (h.b _) (g.b _)) (fun i hi=>by rw [h.z i hi,Int.zero_mul]) hn t
theorem Bd.conv (h:Bd c n b) (g:Bd d m b') {e:Nat} (hn:n≤2 ^ e):Bd (conv c d) (n+m - 1) (b+b'+e) :=
  ⟨fun k hk=>OB h.z g.z k oo_,fun k=>YK h g hn k (k+1)⟩
theorem Po.len (h:Po p c) (hb:Bd c n b):p.length≤n:=h.short hb.z
theorem e3_ {v:Int} (hv:gR v) {b:Int} (h:(Z.bitsW (Z.of v)).1≤b):v.natAbs<2 ^ b.toNat:=by
  have h1:((Z.of v).bits:Int)≤b:=h;unfold Z.bits at h1;rw [Z.of_some hv] at h1;simp only at h1;exact Nat.lt_of_lt_of_le (SQ _) (Nat.pow_le_pow_right dd_ oo_)
end
end Go.Num

namespace Go.Proofs.YtkjjponijamaoaaGreatDoor
open Go.Kn Go.Num
theorem OT (p:Pull) :
    Ret Tryz.prog 9 [AV [ci .i64 p.a.1,ci .i64 p.b.1,pI p.p.x.n,pI p.p.x.d,pI p.p.y.n,pI p.p.y.d,pI p.p.z.n,pI p.p.z.d,pI p.q.x.n,pI p.q.x.d,pI p.q.y.n,pI p.q.y.d,pI p.q.z.n,pI p.q.z.d]] (.bool (n4 p)):=by
 refine cM (N:=75) Tryz.func9 rfl rfl (by simp) (fun w0=>?_);simp only [cS,Nat.reduceAdd];refine Rs fun K J=>bA rfl (cH rfl rfl (fun b1 hb1=>sE rfl (nl J (Sq fun K1 J1=>?_))));refine dH [9,10,11,12,13,14,15,16,17,18] (fun g M=>(g 18 = .bool (!(dY p.p (wl 40))||(!(dY p.q (wl 40)))))∧M=[⟨b1,37,aW [ci .i64 p.a.1,ci .i64 p.b.1,pI p.p.x.n,pI p.p.x.d,pI p.p.y.n,pI p.p.y.d,pI p.p.z.n,pI p.p.z.d,pI p.q.x.n,pI p.q.x.d,pI p.q.y.n,pI p.q.y.d,pI p.q.z.n,pI p.q.z.d]⟩]) (fun K2 J2=>?_) ?_
 ·refine Rk fun K J=>sQ (qF xE rfl rfl) rfl (sQ (qL gG rfl m0 rfl) rfl (sQ (bZ YR (tA p.p (wl 40)) rfl) rfl ?_));refine sE rfl ?_;rcases bt (dY p.p (wl 40)) with h3 | h3
  ·refine sB (iS h3) rfl (sQ (qF AY rfl rfl) rfl (sQ (qL gG rfl m0 rfl) rfl (sQ (bZ YR (tA p.q (wl 40)) rfl) rfl ?_)));refine sE rfl (sE rfl (nl J ?_));refine J2 _ _ pp_ ⟨_,s0,?s18,rfl⟩
   case s18=>exact congrArg Value.bool (j3 h3 rfl)
  refine sB (iT h3) rfl (aI rfl (aI rfl (aI rfl (aI rfl (sE rfl (nl J ?_))))));refine J2 _ _ pp_ ⟨_,s0,?s18,rfl⟩
  case s18=>exact congrArg Value.bool (oJ h3)
 rintro g4 M ⟨hg18,rfl⟩;simp only [dQ,hg18];clear hg18;rcases bt (!(dY p.p (wl 40))||(!(dY p.q (wl 40)))) with h5 | h5
 ·refine W_t h5 rfl (Rs fun K J=>sQ (bZ BA eS  rfl) rfl (sE rfl (nl J (aL (aB (cC rfl (.inr rfl) rfl ?_))))));exact (by exact congrArg vS2 (show _=(n4 p) from bI h5 rfl))
 refine W_f h5 rfl (aG (J1 _ _ (Rs fun K J=>sQ (qL sZ rfl m0 rfl) rfl (sQ (bZ fg_ (BT p) rfl) rfl (sN oR rfl fun b6 hb6=>sS [pI ((cF p).n),pI ((cF p).d)] bD rfl rfl rfl rfl rfl uH rfl hb6 (nl J (Rs fun K J=>sQ (qL sZ rfl m1 rfl) rfl (sQ (bZ iH_ (FA p) rfl) rfl (sE rfl (sE rfl (sE rfl (sN gT rfl fun b7 hb7=>sN gT rfl fun b8 hb8=>sS [pI ((bK p).1)] aD rfl rfl rfl rfl rfl (uT uH) rfl hb7 (sS [pI ((bK p).2)] aD rfl rfl rfl rfl rfl uH rfl hb8 (nl J ?_))))))))))))));refine Rs fun K J=>sQ (qL aD rfl m1 rfl) rfl (sQ (qL aD rfl m1 rfl) rfl (sC (AV [pI (E (Z.mul ((bK p).1).dec ((bK p).1).dec))]) wX (iF ((bK p).1).1 ((bK p).1).1 ((bK p).1).2 ((bK p).1).2) rfl rfl rfl ?_));obtain ⟨r9,hr9⟩:=nm ((oN (E (Z.mul ((bK p).1).dec ((bK p).1).dec))):Rt);refine sC (AV [pI r9.n,pI r9.d]) fl_ (BS (E (Z.mul ((bK p).1).dec ((bK p).1).dec))) rfl rfl (by rw [hr9];first | done | rfl) (sN oR rfl fun b10 hb10=>sS [pI r9.n,pI r9.d] bD rfl rfl rfl rfl rfl uH rfl hb10 (nl J (Rs fun K J=>sQ (qL aD rfl m1 rfl) rfl (sQ (qL aD rfl m1 rfl) rfl (sC (AV [pI (E (Z.mul ((bK p).2).dec ((bK p).2).dec))]) wX (iF ((bK p).2).1 ((bK p).2).1 ((bK p).2).2 ((bK p).2).2) rfl rfl rfl ?_)))));obtain ⟨r11,hr11⟩:=nm ((oN (E (Z.mul ((bK p).2).dec ((bK p).2).dec))):Rt);refine sC (AV [pI r11.n,pI r11.d]) fl_ (BS (E (Z.mul ((bK p).2).dec ((bK p).2).dec))) rfl rfl (by rw [hr11];first | done | rfl) (sN oR rfl fun b12 hb12=>sS [pI r11.n,pI r11.d] bD rfl rfl rfl rfl rfl uH rfl hb12 (nl J (Rs fun K J=>sQ (qL aD rfl m2 rfl) rfl (sQ (qL aD rfl m3 rfl) rfl (sC (AV [pI (E (Z.sub ((bK p).2).dec ((bK p).1).dec))]) fj_ (EX ((bK p).2).1 ((bK p).1).1 ((bK p).2).2 ((bK p).1).2) rfl rfl rfl (sN gT rfl fun b13 hb13=>sS [pI (E (Z.sub ((bK p).2).dec ((bK p).1).dec))] aD rfl rfl rfl rfl rfl uH rfl hb13 (nl J ?_)))))));refine dH [2,38,39,40,41,42,43,44,45,46,47,48,49,50,51,52,53,54,55,56,57,58,59,60,61,62,63,64,65,66,67,68,69,70,71,72,73,74] (fun g M=>(g 2 = .bool (F_skewbacklaw26_sanity&&(decide ((j1 r9 (cF p)).1≤0)&&(decide ((j1 (cF p) r11).1≤0)&&(bif decide ((E (Z.sub ((bK p).2).dec ((bK p).1).dec))=(E (Z.of 0))) then (bif (decide (r9.n=((cF p).n))&&decide (r9.d=((cF p).d))) then (decide (((bK p).1)=((bK p).2))==(decide (((cF p).n)=r11.n)&&decide (((cF p).d)=r11.d))) else (decide (((bK p).1)=((bK p).2))==false)) else (decide ((E (Z.sub ((bK p).2).dec ((bK p).1).dec))=(E (Z.of 1)))&&(bif (decide (r9.n=((cF p).n))&&decide (r9.d=((cF p).d))) then (decide (((bK p).1)=((bK p).2))==(decide (((cF p).n)=r11.n)&&decide (((cF p).d)=r11.d))) else (decide (((bK p).1)=((bK p).2))==false))))))))∧M=[⟨b13,31,aW [pI (E (Z.sub ((bK p).2).dec ((bK p).1).dec))]⟩,⟨b12,33,aW [pI r11.n,pI r11.d]⟩,⟨b10,33,aW [pI r9.n,pI r9.d]⟩,⟨b8,31,aW [pI ((bK p).2)]⟩,⟨b7,31,aW [pI ((bK p).1)]⟩,⟨b6,33,aW [pI ((cF p).n),pI ((cF p).d)]⟩,⟨b1,37,aW [ci .i64 p.a.1,ci .i64 p.b.1,pI p.p.x.n,pI p.p.x.d,pI p.p.y.n,pI p.p.y.d,pI p.p.z.n,pI p.p.z.d,pI p.q.x.n,pI p.q.x.d,pI p.q.y.n,pI p.q.y.d,pI p.q.z.n,pI p.q.z.d]⟩]) (fun K3 J3=>?_) ?_
 ·refine dr s0 [0,4,8,12,16,20,24,28,32,36,40,44,48,52,56,60,64,68,72,76,80,84,88,92,96,100,104,108,112,116,120,124,128,132,136,140,144,148] [] mix (by kernel_rfl) (fun K J=>pQ rfl (bZ BA eS  rfl) ?_);rcases bt F_skewbacklaw26_sanity with h21 | h21
  ·refine pB h21 rfl (pQ rfl (qL bD rfl m2 rfl) (pQ rfl (qL bD rfl m5 rfl) (pQ rfl (bZ cb_ (BN r9 (cF p)) rfl) (pE rfl (pE rfl ?_)))));rcases bt (decide ((j1 r9 (cF p)).1≤0)) with h22 | h22
   ·have ph22:=of_decide_eq_true h22;refine pB h22 rfl (pQ rfl (qL bD rfl m5 rfl) (pQ rfl (qL bD rfl m1 rfl) (pQ rfl (bZ cb_ (BN (cF p) r11) rfl) (pE rfl (pE rfl ?_)))));rcases bt (decide ((j1 (cF p) r11).1≤0)) with h23 | h23
    ·have ph23:=of_decide_eq_true h23;refine pB h23 rfl (pQ rfl (qL aD rfl m0 rfl) (pC (AV [pI (E (Z.of 0))]) sY (fK (wl 0).1 (wl 0).2) rfl rfl rfl ?_));refine pQ rfl (rG (r:=decide ((E (Z.sub ((bK p).2).dec ((bK p).1).dec))=(E (Z.of 0)))) rfl rfl (kR 8 dd_ IL IS (iN cX) (iN cX) (mU fU))) ?_;rcases bt (decide ((E (Z.sub ((bK p).2).dec ((bK p).1).dec))=(E (Z.of 0)))) with h24 | h24
     ·have ph24:=of_decide_eq_true h24;refine pB h24 rfl (aP rfl rfl (aP rfl rfl (aP rfl rfl (pE rfl (pE rfl (pE rfl (pQ rfl (qL aD rfl m4 rfl) (pQ rfl (qL aD rfl m3 rfl) ?_))))))));refine pQ rfl (rG (r:=decide (((bK p).1)=((bK p).2))) rfl rfl (kR 8 dd_ IL IS (iN cX) (iN cX) (mU fU))) (pQ rfl (qL bD rfl m2 rfl) (pQ rfl (qL bD rfl m5 rfl) ?_));refine pQ rfl (rG (r:=(decide (r9.n=((cF p).n))&&decide (r9.d=((cF p).d)))) rfl rfl (kR 8 dd_ LO LS (bB cX (iN cX)) (bB cX (iN cX)) (dB rfl fU (mU fU)))) ?_;rcases bt (decide (r9.n=((cF p).n))&&decide (r9.d=((cF p).d))) with h25 | h25
      ·refine pB h25 rfl (pQ rfl (qL bD rfl m5 rfl) (pQ rfl (qL bD rfl m1 rfl) ?_));refine pQ rfl (rG (r:=(decide (((cF p).n)=r11.n)&&decide (((cF p).d)=r11.d))) rfl rfl (kR 8 dd_ LO LS (bB cX (iN cX)) (bB cX (iN cX)) (dB rfl fU (mU fU)))) (pE rfl (pQ rfl (aZ (v':=.bool (decide (((bK p).1)=((bK p).2))==(decide (((cF p).n)=r11.n)&&decide (((cF p).d)=r11.d)))) (KT GS rfl rfl) rfl) (pE rfl (pE rfl (fl J ?_)))));refine J3 _ _ pp_ ⟨_,s0,?s2,rfl⟩
       case s2=>exact congrArg Value.bool (eB h21 (eB h22 (eB h23 (bI h24 (bI h25 rfl)))))
      refine pB h25 rfl (aP rfl rfl (aP rfl rfl (aP rfl rfl (pE rfl (pQ rfl (aZ (v':=.bool (decide (((bK p).1)=((bK p).2))==false)) (KT GS rfl rfl) rfl) (pE rfl (pE rfl (fl J ?_))))))));refine J3 _ _ pp_ ⟨_,s0,?s2,rfl⟩
      case s2=>exact congrArg Value.bool (eB h21 (eB h22 (eB h23 (bI h24 (aM h25 rfl)))))
     have ph24:=of_decide_eq_false h24;refine pB h24 rfl (pQ rfl (qL aD rfl m0 rfl) (pC (AV [pI (E (Z.of 1))]) sY (fK (wl 1).1 (wl 1).2) rfl rfl rfl ?_));refine pQ rfl (rG (r:=decide ((E (Z.sub ((bK p).2).dec ((bK p).1).dec))=(E (Z.of 1)))) rfl rfl (kR 8 dd_ IL IS (iN cX) (iN cX) (mU fU))) (pE rfl (pE rfl ?_));rcases bt (decide ((E (Z.sub ((bK p).2).dec ((bK p).1).dec))=(E (Z.of 1)))) with h26 | h26
     ·have ph26:=of_decide_eq_true h26;refine pB h26 rfl (pQ rfl (qL aD rfl m4 rfl) (pQ rfl (qL aD rfl m3 rfl) ?_));refine pQ rfl (rG (r:=decide (((bK p).1)=((bK p).2))) rfl rfl (kR 8 dd_ IL IS (iN cX) (iN cX) (mU fU))) (pQ rfl (qL bD rfl m2 rfl) (pQ rfl (qL bD rfl m5 rfl) ?_));refine pQ rfl (rG (r:=(decide (r9.n=((cF p).n))&&decide (r9.d=((cF p).d)))) rfl rfl (kR 8 dd_ LO LS (bB cX (iN cX)) (bB cX (iN cX)) (dB rfl fU (mU fU)))) ?_;rcases bt (decide (r9.n=((cF p).n))&&decide (r9.d=((cF p).d))) with h27 | h27
      ·refine pB h27 rfl (pQ rfl (qL bD rfl m5 rfl) (pQ rfl (qL bD rfl m1 rfl) ?_));refine pQ rfl (rG (r:=(decide (((cF p).n)=r11.n)&&decide (((cF p).d)=r11.d))) rfl rfl (kR 8 dd_ LO LS (bB cX (iN cX)) (bB cX (iN cX)) (dB rfl fU (mU fU)))) (pE rfl (pQ rfl (aZ (v':=.bool (decide (((bK p).1)=((bK p).2))==(decide (((cF p).n)=r11.n)&&decide (((cF p).d)=r11.d)))) (KT GS rfl rfl) rfl) (pE rfl (pE rfl (fl J ?_)))));refine J3 _ _ pp_ ⟨_,s0,?s2,rfl⟩
       case s2=>exact congrArg Value.bool (eB h21 (eB h22 (eB h23 (aM h24 (eB h26 (bI h27 rfl))))))
      refine pB h27 rfl (aP rfl rfl (aP rfl rfl (aP rfl rfl (pE rfl (pQ rfl (aZ (v':=.bool (decide (((bK p).1)=((bK p).2))==false)) (KT GS rfl rfl) rfl) (pE rfl (pE rfl (fl J ?_))))))));refine J3 _ _ pp_ ⟨_,s0,?s2,rfl⟩
      case s2=>exact congrArg Value.bool (eB h21 (eB h22 (eB h23 (aM h24 (eB h26 (aM h27 rfl))))))
     have ph26:=of_decide_eq_false h26;refine pB h26 rfl (aP rfl rfl (aP rfl rfl (aP rfl rfl (aP rfl rfl (aP rfl rfl (aP rfl rfl (aP rfl rfl (aP rfl rfl (aP rfl rfl (aP rfl rfl (aP rfl rfl (aP rfl rfl (pE rfl (pE rfl (fl J ?_)))))))))))))));refine J3 _ _ pp_ ⟨_,s0,?s2,rfl⟩
     case s2=>exact congrArg Value.bool (eB h21 (eB h22 (eB h23 (aM h24 (kU h26)))))
    have ph23:=of_decide_eq_false h23;refine pB h23 rfl (aP rfl rfl (aP rfl rfl (aP rfl rfl (aP rfl rfl (aP rfl rfl (aP rfl rfl (aP rfl rfl (aP rfl rfl (pE rfl (pE rfl (aP rfl rfl (aP rfl rfl (aP rfl rfl (aP rfl rfl (aP rfl rfl (aP rfl rfl (aP rfl rfl (aP rfl rfl (aP rfl rfl ?_)))))))))))))))))));refine aP rfl rfl (aP rfl rfl (aP rfl rfl (pE rfl (pE rfl (fl J ?_)))));refine J3 _ _ pp_ ⟨_,s0,?s2,rfl⟩
    case s2=>exact congrArg Value.bool (eB h21 (eB h22 (kU h23)))
   have ph22:=of_decide_eq_false h22;refine pB h22 rfl (aP rfl rfl (aP rfl rfl (aP rfl rfl (aP rfl rfl (pE rfl (pE rfl (aP rfl rfl (aP rfl rfl (aP rfl rfl (aP rfl rfl (aP rfl rfl (aP rfl rfl (aP rfl rfl (aP rfl rfl (pE rfl (pE rfl (aP rfl rfl (aP rfl rfl (aP rfl rfl ?_)))))))))))))))))));refine aP rfl rfl (aP rfl rfl (aP rfl rfl (aP rfl rfl (aP rfl rfl (aP rfl rfl (aP rfl rfl (aP rfl rfl (aP rfl rfl (pE rfl (pE rfl (fl J ?_)))))))))));refine J3 _ _ pp_ ⟨_,s0,?s2,rfl⟩
   case s2=>exact congrArg Value.bool (eB h21 (kU h22))
  refine pB h21 rfl (aP rfl rfl (aP rfl rfl (aP rfl rfl (aP rfl rfl (pE rfl (pE rfl (aP rfl rfl (aP rfl rfl (aP rfl rfl (aP rfl rfl (pE rfl (pE rfl (aP rfl rfl (aP rfl rfl (aP rfl rfl (aP rfl rfl (aP rfl rfl (aP rfl rfl (aP rfl rfl ?_)))))))))))))))))));refine aP rfl rfl (pE rfl (pE rfl (aP rfl rfl (aP rfl rfl (aP rfl rfl (aP rfl rfl (aP rfl rfl (aP rfl rfl (aP rfl rfl (aP rfl rfl (aP rfl rfl (aP rfl rfl (aP rfl rfl (aP rfl rfl (pE rfl (pE rfl (fl J ?_)))))))))))))))));refine J3 _ _ pp_ ⟨_,s0,?s2,rfl⟩
  case s2=>exact congrArg Value.bool (kU h21)
 rintro g28 M ⟨hg2,rfl⟩;simp only [dQ,hg2];clear hg2;refine aL (cC rfl (.inr rfl) rfl ?_);exact (by obtain rfl:=hr11.symm;obtain rfl:=hr9.symm;exact congrArg vS2 (show _=(n4 p) from aM h5 rfl))
end Go.Proofs.YtkjjponijamaoaaGreatDoor


namespace Go.Num
open Go Go.Kn
structure Tg (n t u:A3 W):Prop where
  o1:n.x.1 * t.x.1+n.y.1 * t.y.1+n.z.1 * t.z.1=0
  o2:n.x.1 * u.x.1+n.y.1 * u.y.1+n.z.1 * u.z.1=0
  o3:t.x.1 * u.x.1+t.y.1 * u.y.1+t.z.1 * u.z.1=0
  t0:¬ (t.x.1=0∧t.y.1=0∧t.z.1=0)
  u0:¬ (u.x.1=0∧u.y.1=0∧u.z.1=0)
  tb:∀ A:Nat,1≤A→n.x.1.natAbs<2 ^ A→n.y.1.natAbs<2 ^ A→n.z.1.natAbs<2 ^ A→t.x.1.natAbs<2 ^ A∧t.y.1.natAbs<2 ^ A∧t.z.1.natAbs<2 ^ A
  ub:∀ A:Nat,1≤A→n.x.1.natAbs<2 ^ A→n.y.1.natAbs<2 ^ A→n.z.1.natAbs<2 ^ A→u.x.1.natAbs<2 ^ (2 * A+1)∧u.y.1.natAbs<2 ^ (2 * A+1)∧u.z.1.natAbs<2 ^ (2 * A+1)
  full:∀ f g h:Rat,let nn:Rat:=(n.x.1:Rat) * n.x.1+n.y.1 * n.y.1+n.z.1 * n.z.1
    let tt:Rat:=(t.x.1:Rat) * t.x.1+t.y.1 * t.y.1+t.z.1 * t.z.1
    let uu:Rat:=(u.x.1:Rat) * u.x.1+u.y.1 * u.y.1+u.z.1 * u.z.1
    let fn:Rat:=(n.x.1:Rat) * f+n.y.1 * g+n.z.1 * h
    let ft:Rat:=(t.x.1:Rat) * f+t.y.1 * g+t.z.1 * h
    let fu:Rat:=(u.x.1:Rat) * f+u.y.1 * g+u.z.1 * h
    f * (nn * tt * uu)=fn * n.x.1 * (tt * uu)+ft * t.x.1 * (nn * uu)+fu * u.x.1 * (nn * tt) ∧
    g * (nn * tt * uu)=fn * n.y.1 * (tt * uu)+ft * t.y.1 * (nn * uu)+fu * u.y.1 * (nn * tt) ∧
    h * (nn * tt * uu)=fn * n.z.1 * (tt * uu)+ft * t.z.1 * (nn * uu)+fu * u.z.1 * (nn * tt)
section
variable {n t:A3 W} {b c:Int}
end
structure V3 (a:A3 Rt) (x y z:Rat) (A B:Nat):Prop where
  hx:a.x.At x
  hy:a.y.At y
  hz:a.z.At z
  sx:Az x A B
  sy:Az y A B
  sz:Az z A B
section
variable {a b:A3 Rt} {x y z u v w:Rat} {A B C D:Nat}
theorem V3.mono (h:V3 a x y z A B) {A' B':Nat} (h1:A≤A') (h2:B≤B'):V3 a x y z A' B':=⟨h.hx,h.hy,h.hz,h.sx.mono h1 h2,h.sy.mono h1 h2,h.sz.mono h1 h2⟩
theorem jx_ (ha:V3 a x y z A B) (hb:V3 b u v w C D) (h1:A+C+2 * (B+D)+2≤512) (h2:3 * (B+D)≤512):(nE a b).At (x * u+y * v+z * w)∧Az (x * u+y * v+z * w) (A+C+2 * (B+D)+2) (3 * (B+D)):=by
  have m1:=E7 ha.hx hb.hx ha.sx hb.sx oo_ oo_;have m2:=E7 ha.hy hb.hy ha.sy hb.sy oo_ oo_;have m3:=E7 ha.hz hb.hz ha.sz hb.sz oo_ oo_;have s1:=ha.sx.mul hb.sx;have s2:=ha.sy.mul hb.sy;have s3:=ha.sz.mul hb.sz;have p1:=CN m1 m2 s1 s2 oo_ oo_ oo_;have q1:=s1.add (c:=A+C+(B+D)+1) s2 oo_ oo_;have p2:=CN p1 m3 q1 s3 oo_ oo_ oo_;have q2:=q1.add (c:=A+C+2 * (B+D)+2) s3 oo_ oo_;exact ⟨p2,q2.mono (Nat.le_refl _) oo_⟩
theorem aN_ {E:Nat} (ha:V3 a x y z A B) (hb:V3 b u v w C D) (h1:A+D<E) (h2:C+B<E) (hE:E≤512) (h3:B+D≤512):V3 (jD a b) (x - u) (y - v) (z - w) E (B+D) :=
  ⟨Z6 ha.hx hb.hx ha.sx hb.sx oo_ oo_ h3,Z6 ha.hy hb.hy ha.sy hb.sy oo_ oo_ h3,Z6 ha.hz hb.hz ha.sz hb.sz oo_ oo_ h3,ha.sx.sub hb.sx h1 h2,ha.sy.sub hb.sy h1 h2,ha.sz.sub hb.sz h1 h2⟩
end
end Go.Num


namespace Go.Num
open Go Go.Kn
theorem GG {x:Rt} {b:W} (h:fH x b=true):∃ q,x.At q∧Sz q b.1.toNat:=by
  unfold fH at h;simp only [Bool.and_eq_true,decide_eq_true_eq] at h;obtain ⟨g,h1,h2⟩:=h;obtain ⟨q,hq⟩:=fv_ g;have i:=At.is hq;rw [i.en,eD] at h1;rw [i.ed,eD] at h2;refine ⟨q,hq,e3_ i.hn h1,?_⟩;have:=e3_ i.hd h2
  rwa [Int.natAbs_natCast] at this
theorem cl_ {v:A3 Rt} {b:W} (h:dY v b=true):∃ x y z,V3 v x y z b.1.toNat b.1.toNat:=by
  unfold dY at h
  cases h1:fH v.x b
  · rw [h1] at h;cases h
  cases h2:fH v.y b
  · rw [h1,h2] at h;cases h
  cases h3:fH v.z b
  · rw [h1,h2,h3] at h;cases h
  obtain ⟨x,hx,sx⟩:=GG h1;obtain ⟨y,hy,sy⟩:=GG h2;obtain ⟨z,hz,sz⟩:=GG h3;exact ⟨x,y,z,hx,hy,hz,sx.az,sy.az,sz.az⟩
theorem UM {a b:Rt} {p q:Rat} (ha:a.At p) (hb:b.At q):(decide (a.n=b.n)&&decide (a.d=b.d))=decide (p=q):=by
  by_cases h:p=q
  · subst h
    rw [PH ha hb];simp
  rw [decide_eq_false h]
  cases hc:(decide (a.n=b.n)&&decide (a.d=b.d))
  · rfl
  simp only [Bool.and_eq_true,decide_eq_true_eq] at hc;have e:a=b:=Rt.ext hc.1 hc.2;subst e;exact absurd (UU ha hb) h
theorem SC (x:Rat):0≤x * x:=by
  rcases Rat.le_total (a:=0) (b:=x) with h | h
  · exact Rat.mul_nonneg h h
  have:=Rat.mul_nonneg (a:=-x) (b:=-x) (by grind) (by grind)
  grind
theorem dE_ {L:Rt} {q:Rat} {a:Nat} (h:L.At q) (h0:0≤q) (hq:Az q a 480) (ha:a+2≤512) :
    ∃ r:Nat,E (Z.sqrt (dG L).dec)=E (Z.of (r:Int))∧(((r * r:Nat):Int):Rat)≤q∧q<((((r+1) * (r+1):Nat):Int):Rat)∧gR ((r:Int) * r)∧gR (((r:Int)+1) * (r+1))∧gR (r:Int)∧gR ((r:Int)+1):=by
  have i:=At.is h;have hn:0≤q.num:=Rat.num_nonneg.2 h0
  have hd:0<(q.den:Int):=by have:=q.den_pos;omega
  have hf:(dG L).dec=Z.of (q.num / q.den):=by
    unfold dG;rw [nR h,cond_true,eD,i.en,i.ed,eD,eD,DD i.hn i.hd hd]
  have hf0:0≤q.num / (q.den:Int):=Int.ediv_nonneg hn oo_;have hfle:q.num / (q.den:Int)≤q.num:=Int.ediv_le_self _ hn;have hnb:q.num.natAbs<2 ^ a:=hq.n
  have hv:(q.num / (q.den:Int)).toNat<2 ^ a:=by omega
  have hvB:(q.num / (q.den:Int)).toNat<4294967296 ^ 16:=by
    have:=vF (v:=q.num) hnb oo_;unfold gR at this;omega
  have hs:=AO hvB;refine ⟨C4 (q.num / (q.den:Int)).toNat,?_,?_,?_,?_⟩
  · rw [hf]
    congr 1
    unfold Z.sqrt;rw [rB (Z.of_some oo_),decide_eq_false oo_,cond_false]
  · generalize C4 (q.num / (q.den:Int)).toNat=r at *
    have h1:((r * r:Nat):Int)≤q.num / (q.den:Int):=by omega
    have h2:((r * r:Nat):Int) * q.den≤q.num:=Int.le_trans (Int.mul_le_mul_of_nonneg_right h1 oo_) (Int.ediv_mul_le _ oo_);rw [Rat.le_iff]
    show ((r * r:Nat):Int) * q.den≤q.num * ((1:Nat):Int)
    omega
  · generalize C4 (q.num / (q.den:Int)).toNat=r at *
    have h1:q.num / (q.den:Int)+1≤(((r+1) * (r+1):Nat):Int):=by omega
    have h2:q.num<(q.num / (q.den:Int)+1) * q.den:=Int.lt_ediv_add_one_mul_self _ hd;have h3:=Int.mul_le_mul_of_nonneg_right h1 (show (0:Int)≤q.den by omega);rw [Rat.lt_iff]
    show q.num * ((1:Nat):Int)<(((r+1) * (r+1):Nat):Int) * q.den
    omega
  generalize C4 (q.num / (q.den:Int)).toNat=r at *
  have h1:r * r<2 ^ a:=by omega
  have h4:(2:Nat) ^ (a+2)=4 * 2 ^ a:=by rw [Nat.pow_add];omega
  have hp:0<(2:Nat) ^ a:=Nat.pow_pos dd_
  have h5:(r+1) * (r+1)≤4 * (r * r)+1:=by
    rcases Nat.eq_zero_or_pos r with e | e
    · subst e;decide
    have:r≤r * r:=Nat.le_mul_of_pos_left r e
    have e2:(r+1) * (r+1)=r * r+2 * r+1:=by rw [Nat.add_mul,Nat.mul_add];omega
    omega
  have h6:r≤r * r:=by
    rcases Nat.eq_zero_or_pos r with e | e
    · subst e;decide
    exact Nat.le_mul_of_pos_left r e
  have c:∀ n:Nat,n<2 ^ (a+2)→gR (n:Int):=fun n hn=>vF (by rw [Int.natAbs_natCast];exact hn) ha;refine ⟨?_,?_,c r oo_,?_⟩
  · have:=c (r * r) oo_;rwa [Int.natCast_mul] at this
  · have:=c ((r+1) * (r+1)) oo_;rwa [Int.natCast_mul,Int.natCast_add] at this
  have:=c (r+1) oo_;rwa [Int.natCast_add] at this
theorem bL_ {v:Int} (h:gR v):(lN (E (Z.of v))).At (v:Rat):=by
  unfold lN;rw [j3_];exact CP h B1 dd_ (by simp)
def jC_ (x y z u v w:Rat):Rat:=(u - x) * (u - x)+(v - y) * (v - y)+(w - z) * (w - z)
theorem l9_ (x y z u v w:Rat):0≤jC_ x y z u v w:=by
  have h1:=SC (u - x);have h2:=SC (v - y);have h3:=SC (w - z);unfold jC_
  grind
theorem gr_ {p:Pull} {x y z u v w:Rat} {A:Nat} (hA:A≤40) (hp:V3 p.p x y z A A) (hq:V3 p.q u v w A A):(bT p).At (jC_ x y z u v w)∧Az (jC_ x y z u v w) 484 480:=by
  have d:=aN_ (E:=81) (hq.mono hA hA) (hp.mono hA hA) oo_ oo_ oo_ oo_;obtain ⟨h1,h2⟩:=jx_ d d oo_ oo_;exact ⟨h1,h2⟩
theorem hz_ (p:Pull) (hs:F_skewbacklaw26_sanity=true):n4 p=true:=by
  unfold n4;rw [hs]
  cases hc:(!(dY p.p (wl 40)) || !(dY p.q (wl 40)))
  · simp only [Bool.or_eq_false_iff,Bool.not_eq_false'] at hc
    obtain ⟨x,y,z,hp⟩:=cl_ hc.1;obtain ⟨u,v,w,hq⟩:=cl_ hc.2;obtain ⟨hL,sL⟩:=gr_ (A:=40) (Nat.le_refl _) hp hq;have h0:=l9_ x y z u v w;generalize jC_ x y z u v w=q at *;obtain ⟨r,e1,l1,l2,b1,b2,b3,b4⟩:=dE_ hL h0 sL oo_;have w1:=bL_ b1;have w2:=bL_ b2;rw [YD,PK]
    have hB:∀ X,gO p=X→X=(bif decide ((((r:Int) * r:Int):Rat)=q) then ⟨E (Z.of r),E (Z.of r)⟩ else ⟨E (Z.of r),E (Z.of ((r:Int)+1))⟩:A2 I):=fun X hX=>by
      rw [← hX];unfold gO
      have e2:Z.sqrt (dG (bT p)).dec=Z.of (r:Int):=by
        have:=congrArg I.dec e1
        rwa [eD,eD] at this
      rw [nR hL,cond_true];simp only [e2];rw [qV b3 b3,UM w1 hL,E8 b3 (sB dd_)]
    rw [hB _ rfl];simp only [cond_false];simp only [bM_]
    have el:(((r * r:Nat):Int):Rat)=(((r:Int) * r:Int):Rat):=by rw [Int.natCast_mul]
    have el2:((((r+1) * (r+1):Nat):Int):Rat)=((((r:Int)+1) * (r+1):Int):Rat):=by rw [Int.natCast_mul,Int.natCast_add];rfl
    rw [el] at l1;rw [el2] at l2
    by_cases hqq:(((r:Int) * r:Int):Rat)=q
    · rw [decide_eq_true hqq]
      simp only [cond_true,eD];rw [qV b3 b3,bk_ b3 b3,Int.sub_self,UM w1 hL,UM hL w1,decide_eq_true ((Z2 w1 hL).2 l1),decide_eq_true ((Z2 hL w1).2 (by rw [hqq];exact Rat.le_refl)),decide_eq_true hqq,decide_eq_true hqq.symm]
      simp
    rw [decide_eq_false hqq];simp only [cond_false,eD]
    have n1:E (Z.of ((r:Int)+1 - r))≠E (Z.of 0):=fun h=>by
      have:=WK (by rw [show (r:Int)+1 - r=1 by omega];exact sB dd_) (sB dd_) (bz_ h);omega
    have n2:E (Z.of (r:Int))≠E (Z.of ((r:Int)+1)):=fun h=>by
      have:=WK b3 b4 (bz_ h);omega
    rw [qV b3 b3,qV b4 b4,bk_ b4 b3,UM w1 hL,decide_eq_true ((Z2 w1 hL).2 l1),decide_eq_true ((Z2 hL w2).2 (Rat.le_of_lt l2)),decide_eq_false hqq,decide_eq_false n1,decide_eq_false n2,decide_eq_true (show E (Z.of ((r:Int)+1 - r))=E (Z.of 1) by rw [show (r:Int)+1 - r=1 by omega])]
    simp
  rfl
end Go.Num

