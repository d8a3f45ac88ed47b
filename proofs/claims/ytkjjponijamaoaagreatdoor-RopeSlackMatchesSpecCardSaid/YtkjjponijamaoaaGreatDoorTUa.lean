/- Lemmas: what they ask stands in their statements. -/
import Derived.Test.YtkjjponijamaoaaGreatDoorTLa
set_option linter.unusedSimpArgs false
set_option linter.unusedVariables false
set_option maxRecDepth 20000
namespace Go.Num
open Go Go.Kn
theorem sB {v:Int} (h:v.natAbs<2 ^ 64):fE v:=Nat.lt_of_lt_of_le h dd_
def W.b (a:W):BitVec 64:=BitVec.ofInt 64 a.1
theorem W.b_inj {a b:W} (h:a.b=b.b):a=b:=by
  have h1:=congrArg BitVec.toInt h;unfold W.b at h1;rw [BitVec.toInt_ofInt,BitVec.toInt_ofInt] at h1;have ha:=a.2;have hb:=b.2;unfold I64 at ha hb
  have e:a.1=b.1:=by
    rw [Int.bmod_eq_of_le (by simp;omega) (by simp;omega),Int.bmod_eq_of_le (by simp;omega) (by simp;omega)] at h1;exact h1
  exact Subtype.ext e
theorem cS_ (x:Int):BitVec.ofInt 64 (IntKind.i64.wrap x)=BitVec.ofInt 64 x:=by
  apply BitVec.eq_of_toInt_eq
  rw [BitVec.toInt_ofInt,BitVec.toInt_ofInt]
  have h:∃ k:Int,IntKind.i64.wrap x=x+k * (2 ^ 64:Nat):=by
    refine ⟨-((x+9223372036854775808) / 18446744073709551616),?_⟩;unfold IntKind.wrap;simp only [IntKind.bits,IntKind.signed]
    simp
    omega
  obtain ⟨k,hk⟩:=h;rw [hk,Int.add_mul_bmod_self_right]
theorem W.b_add (a b:W):(W.add a b).b=a.b+b.b:=by
  show BitVec.ofInt 64 (IntKind.i64.wrap (a.1+b.1))=_
  rw [cS_,BitVec.ofInt_add];rfl
theorem W.b_mul (a b:W):(W.mul a b).b=a.b * b.b:=by
  show BitVec.ofInt 64 (IntKind.i64.wrap (a.1 * b.1))=_
  rw [cS_,BitVec.ofInt_mul];rfl
theorem W.b_0:(wl 0).b=0:=rfl
theorem iz_ (a b c d e f g h:W):fS [a,b,c,d,e,f,g,h]=W.add (W.add (W.add (W.add (wl 0) (W.mul a b)) (W.mul c d)) (W.mul e f)) (W.mul g h):=rfl
theorem IA (a b:A4 W):qR a b=gJ a b:=by
  unfold qR gJ;rw [iz_]
  apply W.b_inj
  simp only [W.b_add,W.b_mul,W.b_0]
  grind
theorem dG_ (x:W):(decide (64<(W.max x (W.neg x)).1)||((x.1==(W.neg x).1)&&(x.1 != 0)))=(decide (64<x.1)||decide (x.1 < -64)):=by
  by_cases h:x.1 = -9223372036854775808
  · have e:(W.neg x).1 = -9223372036854775808:=by show IntKind.i64.wrap (0 - x.1)=_;rw [h];rfl
    rw [e,h];simp
  have e:=TC h
  have m:(W.max x (W.neg x)).1=max x.1 (-x.1):=by
    unfold W.max;rw [← e]
    by_cases k:x.1<(W.neg x).1
    · rw [decide_eq_true k,cond_true];omega
    rw [decide_eq_false k,cond_false];omega
  rw [m,e,Bool.eq_iff_iff]
  simp
  omega
theorem cX_ (a:A4 W):sM a=gW a:=by
  unfold sM gW;rw [dG_,dG_,dG_,dG_]
def Z4.Lw (v:Z4) (n:Nat):Prop:=v.x.natAbs<n∧v.y.natAbs<n∧v.z.natAbs<n∧v.t.natAbs<n
theorem XG {a:A4 W} (h:gW a=true):a.i.Lw 65:=by
  unfold gW at h
  have g:∀ {c:Bool} {y:Bool},(bif c then false else y)=true→c=false∧y=true:=fun {c y} h=>by cases c <;> simp_all
  obtain ⟨h1,h⟩:=g h;obtain ⟨h2,h⟩:=g h;obtain ⟨h3,h⟩:=g h;obtain ⟨h4,h⟩:=g h;simp only [Bool.or_eq_false_iff,decide_eq_false_iff_not] at h1 h2 h3 h4;refine ⟨?_,?_,?_,?_⟩
  · show a.x.1.natAbs<65;omega
  · show a.y.1.natAbs<65;omega
  · show a.z.1.natAbs<65;omega
  show a.t.1.natAbs<65;omega
theorem bz_ {a:A4 W} (h:a.i.Lw 65):a.Fine:=by
  obtain ⟨h1,h2,h3,h4⟩:=h;have g1:a.x.1.natAbs<65:=h1;have g2:a.y.1.natAbs<65:=h2;have g3:a.z.1.natAbs<65:=h3;have g4:a.t.1.natAbs<65:=h4;refine ⟨?_,?_,?_,?_⟩ <;> omega
theorem YT {a:A4 W} (h:a.i.zero):a=⟨wl 0,wl 0,wl 0,wl 0⟩:=A4.i_inj (Z4.ext h.1 h.2.1 h.2.2.1 h.2.2.2)
theorem YX (a:A4 W):tP a=gD a:=by
  by_cases hz:a.i.zero
  · rw [YT hz];kernel_rfl
  unfold tP gD;rw [cX_]
  cases hl:gW a
  · rfl
  have hf:=bz_ (XG hl);obtain ⟨p1,p2⟩:=ir_ hf hz;obtain ⟨r1,r2⟩:=is_ hf hz;have e:(fT a).1=(dQ a).1:=A4.i_inj (p1.trans r1.symm);simp only [cond_true,p2,r2,e]
theorem PO {a:A4 W} (h:gD a=true):a.i.Lw 65∧¬ a.i.zero:=by
  unfold gD at h
  cases hl:gW a
  · rw [hl] at h;cases h
  refine ⟨XG hl,fun hz=>?_⟩;rw [YT hz] at h
  have:gD ⟨wl 0,wl 0,wl 0,wl 0⟩ = false:=by kernel_rfl
  unfold gD at this;rw [this] at h;cases h
theorem OE (a:Pose):kC a=eJ a:=by unfold kC eJ;rw [YX]
theorem H8 (a:Pose):eJ a=wl 0∨eJ a=wl 1:=by
  unfold eJ
  repeat' (rename_i x;revert x)
  generalize (decide (140737488355328≤a.x.x.1)||decide (a.x.x.1≤(-140737488355328)))=c1;generalize (decide (140737488355328≤a.x.y.1)||decide (a.x.y.1≤(-140737488355328)))=c2;generalize (decide (140737488355328≤a.x.z.1)||decide (a.x.z.1≤(-140737488355328)))=c3;generalize gD a.q=c4
  cases c1 <;> cases c2 <;> cases c3 <;> cases c4 <;> first | exact .inl rfl | exact .inr rfl
theorem BD (a:Path):nW a=cM a:=by
  unfold nW cM;rw [OE,OE];rcases H8 a.from_ with h | h <;> rcases H8 a.to_ with k | k <;> rw [h,k] <;> rfl
theorem IK (v:A3 W) (m:W):gA v m=eA v m:=rfl
theorem HK (a b c:I):iF [a,b,c]=j3 a b c:=by
  show E (Z.mul (E (Z.mul a.dec b.dec)).dec c.dec)=_
  rw [dB];rfl
class Rg (α:Type) [Add α] [Mul α] [OfNat α 0]:Prop where
  aa:∀ a b c:α,a+b+c=a+(b+c)
  ac:∀ a b:α,a+b=b+a
  a0:∀ a:α,a+0=a
  ma:∀ a b c:α,a * b * c=a * (b * c)
  mc:∀ a b:α,a * b=b * a
  md:∀ a b c:α,a * (b+c)=a * b+a * c
  m0:∀ a:α,a * 0=0
instance:Rg Int:=⟨Int.add_assoc,Int.add_comm,Int.add_zero,Int.mul_assoc,Int.mul_comm,Int.mul_add,Int.mul_zero⟩
instance:Rg Rat:=⟨Rat.add_assoc,Rat.add_comm,Rat.add_zero,Rat.mul_assoc,Rat.mul_comm,Rat.mul_add,Rat.mul_zero⟩
theorem Rg.zm {α:Type} [Add α] [Mul α] [OfNat α 0] [Rg α] (a:α):0 * a=0:=by rw [Rg.mc,Rg.m0]
def mD {α:Type} [Add α] [OfNat α 0] (f:Nat→α):Nat→α
  | 0=>0
  | n+1=>mD f n+f n
theorem qM {α:Type} [Add α] [OfNat α 0] {f g:Nat→α}:∀ {n:Nat},(∀ i,i<n→f i=g i)→mD f n=mD g n
  | 0,_=>rfl
  | n+1,h=>by simp only [mD];rw [qM fun i hi=>h i (by omega),h n (by omega)]
theorem rV {α:Type} [Add α] [Mul α] [OfNat α 0] [Rg α] {f:Nat→α}:∀ {n:Nat},(∀ i,i<n→f i=0)→mD f n=0
  | 0,_=>rfl
  | n+1,h=>by simp only [mD];rw [rV fun i hi=>h i (by omega),h n (by omega),Rg.a0]
theorem CR {α:Type} [Add α] [Mul α] [OfNat α 0] [Rg α] (c:α) (f:Nat→α):∀ n:Nat,mD (fun i=>c * f i) n=c * mD f n
  | 0=>(Rg.m0 _).symm
  | n+1=>by simp only [mD];rw [CR c f n,Rg.md]
theorem yL {α:Type} [Add α] [Mul α] [OfNat α 0] [Rg α] {f:Nat→α} {n:Nat} (h:∀ i,n≤i→f i=0):∀ m:Nat,n≤m→mD f m=mD f n
  | 0,hm=>by rw [show n=0 by omega]
  | m+1,hm=>by
    rcases Nat.lt_or_ge n (m+1) with g | g
    · rw [mD,h m (by omega),Rg.a0,yL h m (by omega)]
    rw [show n=m+1 by omega]
def conv {α:Type} [Add α] [Mul α] [OfNat α 0] (c d:Nat→α) (k:Nat):α:=mD (fun i=>c i * d (k - i)) (k+1)
theorem a0_ {α:Type} [Add α] [Mul α] [OfNat α 0] [Rg α] (a:α) (c d:Nat→α):conv (fun i=>a * c i) d=fun k=>a * conv c d k:=by
  funext k
  unfold conv;rw [← CR];exact qM fun i _=>Rg.ma _ _ _
theorem FK {α:Type} [Add α] [Mul α] [OfNat α 0] [Rg α] {c d:Nat→α} {n m:Nat} (hc:∀ i,n≤i→c i=0) (hd:∀ i,m≤i→d i=0) (k:Nat) (hk:n+m≤k+1):conv c d k=0:=by
  refine rV fun i hi=>?_;rcases Nat.lt_or_ge i n with h | h
  · rw [hd _ (by omega),Rg.m0]
  rw [hc _ h,Rg.zm]
theorem vI0:vI I0=0:=aa_ B0
theorem gA_ {u v:Int} (hu:fE u) (hv:fE v):Z.sub (Z.of u) (Z.of v)=Z.of (u - v):=by
  rw [Z.sub,VO hv,EP hu (show (-v).natAbs<_ by rw [Int.natAbs_neg];exact hv),Int.sub_eq_add_neg]
structure Po (p:List I) (c:Nat→Int):Prop where
  g:p.all gdI=true
  s:nV p=p
  l:p.length≤25
  c:∀ k,vI (p.getD k I0)=c k
section
variable {p q:List I} {c d:Nat→Int}
theorem W9 (h:p.all gdI=true) (k:Nat):gdI (p.getD k I0)=true:=by
  by_cases hk:k<p.length
  · rw [show p.getD k I0=p[k] by simp [List.getD,hk]]
    exact List.all_eq_true.1 h _ (List.getElem_mem hk)
  rw [wZ oo_];exact SU B0
theorem Po.get (h:Po p c) (k:Nat):p.getD k I0=E (Z.of (c k)):=by rw [← h.c k];exact (I8 (W9 h.g k)).1
theorem Po.B (h:Po p c) (k:Nat):fE (c k):=by rw [← h.c k];exact (I8 (W9 h.g k)).2
theorem Po.zero (h:Po p c) {k:Nat} (hk:p.length≤k):c k=0:=by rw [← h.c k,wZ hk,vI0]
theorem Po.last (h:Po p c) {n:Nat} (hn:p.length=n+1):c n≠0:=by
  rcases vU p with rfl | ⟨m,x,rfl⟩
  · cases hn
  have h1:=GW h.s
  have h2:n=m.length:=by simp at hn;omega
  have h3:=h.get n;rw [show (m ++ [x]).getD n I0=x by simp [h2]] at h3;rw [h3,eo_ (h.B n)] at h1;exact of_decide_eq_false h1
theorem Po.short (h:Po p c) {n:Nat} (hz:∀ k,n≤k→c k=0):p.length≤n:=by
  rcases Nat.lt_or_ge n p.length with g | g
  · exact absurd (hz (p.length - 1) oo_) (h.last oo_)
  exact g
theorem Po.eq (h:Po p c) (g:Po q c):p=q:=by
  have e:p.length=q.length:=Nat.le_antisymm (h.short fun k hk=>g.zero hk) (g.short fun k hk=>h.zero hk);refine List.ext_getElem e fun k h1 h2=>?_;have a:=h.get k;rw [← g.get k] at a
  simpa [List.getD,h1,h2] using a
theorem Po.cast (h:Po p c) (e:∀ k,c k=d k):Po p d:=⟨h.g,h.s,h.l,fun k=>(h.c k).trans (e k)⟩
theorem PY:Po [] (fun _=>0):=⟨rfl,rfl,by decide,fun k=>by rw [show ([]:List I).getD k I0=I0 by simp];exact vI0⟩
theorem Po.nil (h:Po p c) (hz:∀ k,c k=0):p=[]:=(h.cast hz).eq PY
theorem H0:∀ (n:Nat) (l:List I),l.length≤n→∀ k,(nV l).length≤k→zrI (l.getD k I0)=true
  | 0,l,h,k,_=>by
    rw [wZ oo_];exact zr0
  | n+1,l,h,k,hk=>by
    rcases vU l with rfl | ⟨m,x,rfl⟩
    · rw [show ([]:List I).getD k I0=I0 by simp];exact zr0
    rw [vV] at hk
    cases hx:zrI x
    · rw [hx,cond_false] at hk
      rw [wZ hk];exact zr0
    rw [hx,cond_true] at hk;rcases Nat.lt_trichotomy k m.length with g | g | g
    · rw [show (m ++ [x]).getD k I0=m.getD k I0 by simp [List.getD,List.getElem?_append_left g]]
      exact H0 n m (by simp at h;omega) k hk
    · rw [show (m ++ [x]).getD k I0=x by simp [g]];exact hx
    rw [wZ (by simp;omega)];exact zr0
theorem VN {l:List I} (h:∀ k,l.getD k I0=E (Z.of (c k))) (hB:∀ k,fE (c k)) (hz:∀ k,25≤k→c k=0):Po (mkP l) c:=by
  have hg:l.all gdI=true:=List.all_eq_true.2 fun x hx=>by
    obtain ⟨k,hk,rfl⟩:=List.getElem_of_mem hx;have e:=h k;rw [show l.getD k I0=l[k] by simp [List.getD,hk]] at e;rw [e];exact SU (hB k)
  have hl:(nV l).length≤25:=JJ _ l (Nat.le_refl _) fun j hj=>by rw [h j,hz j hj];exact zr0
  have e:mkP l=nV l:=by unfold mkP;rw [hg,cond_true,if_pos hl]
  rw [e];refine ⟨PE hg,NG l,hl,fun k=>?_⟩
  by_cases hk:k<(nV l).length
  · have e2:(nV l).getD k I0=l.getD k I0:=by
      rw [zJ l];simp only [List.getD,List.getElem?_take,hk,if_true]
    rw [e2,h k,aa_ (hB k)]
  have:=H0 _ l (Nat.le_refl _) k oo_;rw [h k,eo_ (hB k)] at this;rw [wZ oo_,vI0,of_decide_eq_true this]
theorem FC (f:Nat→I) (n k:Nat):((List.range n).map f).getD k I0=if k<n then f k else I0:=by
  by_cases h:k<n <;> simp [List.getD,h]
theorem WF {f:Nat→I} {n:Nat} (h:∀ k,k<n→f k=E (Z.of (c k))) (h0:∀ k,n≤k→c k=0) (hB:∀ k,fE (c k)) (hz:∀ k,25≤k→c k=0):Po (mkP ((List.range n).map f)) c:=by
  refine VN (fun k=>?_) hB hz;rw [FC]
  split
  · exact h k ‹_›
  rw [h0 k oo_];rfl
theorem Po.l3 (h:Po p c):p.length≤1000:=Nat.le_trans h.l dd_
theorem Po.nb (h:Po p c):dR p=false:=by rw [vA h.l3,h.g];rfl
theorem P9 {e:Nat→Int} {f:I→I→I} (h:Po p c) (g:Po q d) (hf:∀ k,f (E (Z.of (c k))) (E (Z.of (d k)))=E (Z.of (e k))) (hB:∀ k,fE (e k)) (h0:∀ k,c k=0→d k=0→e k=0):Po (kE p q f) e:=by
  rw [wV f h.l3 g.l3,h.g,g.g,Bool.and_true,cond_true];have hl:=h.l;have gl:=g.l;refine WF (fun k _=>?_) (fun k hk=>?_) hB (fun k hk=>?_)
  · rw [h.get,g.get,hf]
  · exact h0 k (h.zero oo_) (g.zero oo_)
  exact h0 k (h.zero oo_) (g.zero oo_)
theorem ah_ (h:Po p c) (g:Po q d) (hB:∀ k,fE (c k+d k)):Po (bJ p q) (fun k=>c k+d k) :=
  P9 h g (fun k=>by rw [dB,dB,EP (h.B k) (g.B k)]) hB (fun k h1 h2=>by rw [h1,h2];rfl)
theorem fj_ (h:Po p c) (g:Po q d) (hB:∀ k,fE (c k - d k)):Po (kJ p q) (fun k=>c k - d k) :=
  P9 h g (fun k=>by rw [dB,dB,gA_ (h.B k) (g.B k)]) hB (fun k h1 h2=>by rw [h1,h2];rfl)
theorem ax_ {a:Int} (h:Po p c) (ha:fE a) (hB:∀ k,fE (c k * a)):Po (bZ p (E (Z.of a))) (fun k=>c k * a):=by
  unfold bZ;rw [show rZ (E (Z.of a))=true from SU ha,cond_true];exact P9 h PY (fun k=>by unfold tC;rw [dB,dB,o4 (h.B k) ha]) hB (fun k h1 _=>by rw [h1,Int.zero_mul])
theorem bL_ (h:Po p c) (g:Po q d) (k:Nat) (hs:∀ t,fE (mD (fun i=>c i * d (k - i)) t)) (hm:∀ i j,fE (c i * d j)) :
    ∀ (t i:Nat),k+1 - i<t→i≤k+1→(gT k q p t i (E (Z.of (mD (fun i=>c i * d (k - i)) i)))).2=E (Z.of (conv c d k))
  | 0,i,ht,_=>absurd ht (Nat.not_lt_zero _)
  | t+1,i,ht,hi=>by
    unfold gT;have e:∀ a b,a≤b→p.length≤a→mD (fun i=>c i * d (k - i)) b=mD (fun i=>c i * d (k - i)) a:=fun a b hab hpa =>
      yL (fun j hj=>by rw [h.zero oo_,Int.zero_mul]) b hab
    by_cases hk:((i:Nat):Int)≤min ((k:Nat):Int) (((p.length:Nat):Int) - 1)
    · rw [decide_eq_true hk,cond_true,h.get,g.get,dB,dB,dB,o4 (h.B _) (g.B _),EP (hs _) (hm _ _)]
      exact bL_ h g k hs hm t (i+1) oo_ oo_
    rw [decide_eq_false hk,cond_false]
    show E (Z.of _)=E (Z.of (mD _ (k+1)))
    rcases Nat.lt_or_ge i (k+1) with h1 | h1
    · rw [← e i (k+1) oo_ oo_]
    rw [show i=k+1 by omega]
theorem fe_ (h:Po p c) (g:Po q d) (hs:∀ k t,fE (mD (fun i=>c i * d (k - i)) t)) (hm:∀ i j,fE (c i * d j)) (hl:p.length+q.length≤26):Po (aW p q) (conv c d):=by
  unfold aW;rw [h.nb,g.nb,Bool.or_false,cond_false]
  by_cases h0:p=[]
  · subst h0
    rw [show ((((([]:List I).length:Nat):Int)==0)||(((q.length:Nat):Int)==0))=true by simp,cond_true];exact PY.cast fun k=>Eq.symm (rV fun i _=>by rw [h.zero (Nat.zero_le _),Int.zero_mul])
  by_cases g0:q=[]
  · subst g0
    rw [show ((((p.length:Nat):Int)==0)||(((([]:List I).length:Nat):Int)==0))=true by simp,cond_true];refine PY.cast fun k=>Eq.symm (rV fun i _=>?_);rw [g.zero (Nat.zero_le _),Int.mul_zero]
  have h1:0<p.length:=List.length_pos_iff.2 h0;have h2:0<q.length:=List.length_pos_iff.2 g0
  rw [show ((((p.length:Nat):Int)==0)||(((q.length:Nat):Int)==0))=false by
    rw [Bool.or_eq_false_iff];exact ⟨beq_eq_false_iff_ne.2 oo_,beq_eq_false_iff_ne.2 oo_⟩,cond_false,wR]
  have hz:∀ k,p.length+q.length≤k+1→conv c d k=0:=fun k hk=>FK (fun i hi=>h.zero hi) (fun i hi=>g.zero hi) k hk;refine WF (fun k _=>?_) (fun k hk=>hz k oo_) (fun k=>hs k (k+1)) (fun k hk=>hz k oo_);unfold nR
  show (gT _ _ _ _ _ _).2=_
  rw [show I0=E (Z.of (mD (fun i=>c i * d (k - i)) (((k:Nat):Int) - ((q.length:Nat):Int)+1).toNat)) by
    rw [rV fun i hi=>by rw [g.zero oo_,Int.mul_zero]];rfl]
  exact bL_ h g k (hs k) hm _ _ oo_ oo_
theorem cV_ {v:Int} {k:Nat} (m:Nat) (hm:4294967296 ^ 16=2 ^ m) (h:v.natAbs<2 ^ k) (hk:k≤m):fE v:=by
  unfold fE;rw [hm];exact Nat.lt_of_lt_of_le h (Nat.pow_le_pow_right dd_ hk)
theorem rS {v:Int} {k:Nat} (h:v.natAbs<2 ^ k) (hk:k≤512):fE v:=cV_ 512 FZ h hk
structure Bd (c:Nat→Int) (n b:Nat):Prop where
  z:∀ k,n≤k→c k=0
  b:∀ k,(c k).natAbs<2 ^ b
variable {n m b b':Nat}
theorem Bd.mono (h:Bd c n b) {n' b1:Nat} (hn:n≤n') (hb:b≤b1):Bd c n' b1:=⟨fun k hk=>h.z k oo_,fun k=>Nat.lt_of_lt_of_le (h.b k) (Nat.pow_le_pow_right dd_ hb)⟩
theorem Bd.B (h:Bd c n b) (hb:b≤512) (k:Nat):fE (c k):=rS (h.b k) hb
theorem Bd.add (h:Bd c n b) (g:Bd d m b):Bd (fun k=>c k+d k) (max n m) (b+1) :=
  ⟨fun k hk=>by show c k+d k=0;rw [h.z k oo_,g.z k oo_];rfl,fun k=>by
    show (c k+d k).natAbs<_
    have h1:=h.b k;have h2:=g.b k;have h3:=Int.natAbs_add_le (c k) (d k)
    rw [Nat.pow_succ];omega⟩
theorem k6 {u v:Int} (h:u.natAbs<2 ^ b) (g:v.natAbs<2 ^ b'):(u * v).natAbs<2 ^ (b+b'):=by
  rw [Int.natAbs_mul,Nat.pow_add];exact Nat.mul_lt_mul_of_lt_of_le h (Nat.le_of_lt g) (Nat.pow_pos dd_)
theorem cz_ {f:Nat→Int} {A:Nat} (h:∀ i,(f i).natAbs≤A):∀ t:Nat,(mD f t).natAbs≤t * A
  | 0=>by simp [mD]
  | t+1=>by
    have h1:=cz_ h t;have h2:=h t;have h3:=Int.natAbs_add_le (mD f t) (f t);rw [Nat.succ_mul];show (mD f t+f t).natAbs≤_;omega
theorem cy_ {f:Nat→Int} {e:Nat} (h:∀ i,(f i).natAbs<2 ^ b) (hz:∀ i,n≤i→f i=0) (hn:n≤2 ^ e) (t:Nat):(mD f t).natAbs<2 ^ (b+e):=by
  have hb:0<2 ^ b:=Nat.pow_pos dd_
  have k1:∀ t,t≤n→(mD f t).natAbs<2 ^ (b+e):=fun t ht=>by
    have h1:=cz_ (f:=f) (A:=2 ^ b - 1) (fun i=>by have:=h i;omega) t;have h2:t * (2 ^ b - 1)≤2 ^ e * (2 ^ b - 1):=Nat.mul_le_mul_right _ oo_;have h3:2 ^ e * (2 ^ b - 1)<2 ^ e * 2 ^ b:=Nat.mul_lt_mul_of_pos_left oo_ (Nat.pow_pos dd_);rw [Nat.pow_add,Nat.mul_comm (2 ^ b)];omega
  rcases Nat.lt_or_ge n t with g | g
  · rw [yL hz t oo_];exact k1 n (Nat.le_refl _)
  exact k1 t g
theorem OK (h:Bd c n b) (g:Bd d m b') {e:Nat} (hn:n≤2 ^ e) (k t:Nat):(mD (fun i=>c i * d (k - i)) t).natAbs<2 ^ (b+b'+e) :=
  cy_ (n:=n) (fun i=>k6 (h.b _) (g.b _)) (fun i hi=>by rw [h.z i hi,Int.zero_mul]) hn t
theorem Bd.conv (h:Bd c n b) (g:Bd d m b') {e:Nat} (hn:n≤2 ^ e):Bd (conv c d) (n+m - 1) (b+b'+e) :=
  ⟨fun k hk=>FK h.z g.z k oo_,fun k=>OK h g hn k (k+1)⟩
theorem Po.len (h:Po p c) (hb:Bd c n b):p.length≤n:=h.short hb.z
theorem ap_ (h:Po p c) (g:Po q d) (hb:Bd c n b) (gb:Bd d m b') {e:Nat} (hn:n≤2 ^ e) (hl:n+m≤26) (hk:b+b'+e≤512):Po (aW p q) (conv c d) :=
  fe_ h g (fun k t=>rS (OK hb gb hn k t) hk) (fun i j=>rS (k6 (hb.b i) (gb.b j)) oo_) (by have:=h.len hb;have:=g.len gb;omega)
theorem e4_ (h:Po p c) (g:Po q d) (hb:Bd c n b) (gb:Bd d m b) (hk:b+1≤512):Po (bJ p q) (fun k=>c k+d k) :=
  ah_ h g fun k=>rS ((hb.add gb).b k) hk
end
open Go Go.Kn
theorem LA (l:List I):gO l=bM l:=by rw [AZ,z7]
def vl (c:Nat→Rat) (x:Rat) (n:Nat):Rat:=mD (fun i=>c i * x ^ i) n
def hv (c:Nat→Int) (N D:Int) (L:Nat):Nat→Int
  | 0=>0
  | t+1=>hv c N D L t * N+c (L - 1 - t) * D ^ t
section
variable {c:Nat→Int} {N D:Int} {L:Nat}
structure Room (c:Nat→Int) (N D:Int) (L:Nat):Prop where
  h:∀ t,t≤L→fE (hv c N D L t)
  m:∀ t,t<L→fE (hv c N D L t * N)
  p:∀ t,t<L→fE (D ^ t)
  q:∀ t,t<L→fE (c (L - 1 - t) * D ^ t)
variable {p:List I} {x:Rt}
end
open Go Go.Kn
section
variable {p q:List I} {c d:Nat→Int}
theorem Po.mem (h:Po p c) {x:I} (hx:x∈p):∃ k,vI x=c k:=by
  obtain ⟨k,hk,rfl⟩:=List.getElem_of_mem hx;refine ⟨k,?_⟩;rw [← h.c k]
  simp [List.getD,hk]
def lin (u v:Int) (k:Nat):Int:=if k=0 then u else if k=1 then v else 0
theorem VJ {u v:Int} (hu:fE u) (hv:fE v):Po (gO [E (Z.of u),E (Z.of v)]) (lin u v):=by
  rw [AZ];refine VN (fun k=>?_) (fun k=>?_) fun k hk=>?_
  · match k with
    | 0=>rfl
    | 1=>rfl
    | k+2=>rw [wZ (by simp)];unfold lin;rw [if_neg oo_,if_neg oo_];rfl
  · unfold lin;split
    · exact hu
    split
    · exact hv
    exact B0
  unfold lin;rw [if_neg oo_,if_neg oo_]
theorem MH {u v:Int} {b:Nat} (hu:u.natAbs<2 ^ b) (hv:v.natAbs<2 ^ b):Bd (lin u v) 2 b :=
  ⟨fun k hk=>by unfold lin;rw [if_neg oo_,if_neg oo_],fun k=>by
    unfold lin;split
    · exact hu
    split
    · exact hv
    exact Nat.pow_pos dd_⟩
variable {u v W:Int} {L:Nat}
end
open Go Go.Kn
structure PB (p:List I) (c:Nat→Int) (n b:Nat):Prop where
  po:Po p c
  bd:Bd c n b
section
variable {p q:List I} {c d:Nat→Int} {n m b b':Nat}
theorem PB.mono (h:PB p c n b) {n' b1:Nat} (hn:n≤n') (hb:b≤b1):PB p c n' b1:=⟨h.po,h.bd.mono hn hb⟩
theorem PB.cast (h:PB p c n b) (e:∀ k,c k=d k):PB p d n b:=by
  have:c=d:=funext e;subst this;exact h
theorem PB.mul (h:PB p c n b) (g:PB q d m b') {e:Nat} (hn:n≤2 ^ e) (hl:n+m≤26) (hk:b+b'+e≤512):PB (aW p q) (conv c d) (n+m - 1) (b+b'+e):=⟨ap_ h.po g.po h.bd g.bd hn hl hk,h.bd.conv g.bd hn⟩
theorem PB.add (h:PB p c n b) (g:PB q d n b) (hk:b+1≤512):PB (bJ p q) (fun k=>c k+d k) n (b+1):=⟨e4_ h.po g.po h.bd g.bd hk,by have:=h.bd.add g.bd;rwa [Nat.max_self] at this⟩
theorem Bd.sub (h:Bd c n b) (g:Bd d n b):Bd (fun k=>c k - d k) n (b+1) :=
  ⟨fun k hk=>by show c k - d k=0;rw [h.z k hk,g.z k hk];rfl,fun k=>by
    have h1:=h.b k;have h2:=g.b k
    show (c k - d k).natAbs<2 ^ (b+1)
    rw [Nat.pow_succ];omega⟩
theorem PB.sub (h:PB p c n b) (g:PB q d n b) (hk:b+1≤512):PB (kJ p q) (fun k=>c k - d k) n (b+1):=⟨fj_ h.po g.po fun k=>(h.bd.sub g.bd).B hk k,h.bd.sub g.bd⟩
theorem PB.scale (h:PB p c n b) {v:Int} {s:Nat} (hv:v.natAbs<2 ^ s) (hk:b+s≤512):PB (bZ p (E (Z.of v))) (fun k=>c k * v) n (b+s):=by
  have hb:Bd (fun k=>c k * v) n (b+s):=⟨fun k hk=>by show c k * v=0;rw [h.bd.z k hk,Int.zero_mul],fun k=>k6 (h.bd.b k) hv⟩;exact ⟨ax_ h.po (rS hv oo_) fun k=>hb.B hk k,hb⟩
theorem PB.nil (n b:Nat):PB [] (fun _=>0) n b:=⟨PY,⟨fun _ _=>rfl,fun _=>Nat.pow_pos dd_⟩⟩
theorem eO_ (u w:W):dS [u,w]=gO [E (Z.of u.1),E (Z.of w.1)]:=by
  unfold dS;rw [IE,AZ];rfl
theorem Q5 (u w:W):cA [u,w]=dS [u,w]:=by
  rw [eO_,LA];rfl
theorem PB.of2 {u w:W} {s:Nat} (hu:u.1.natAbs<2 ^ s) (hw:w.1.natAbs<2 ^ s) (hs:s≤512):PB (dS [u,w]) (lin u.1 w.1) 2 s:=by
  rw [eO_];exact ⟨VJ (rS hu hs) (rS hw hs),MH hu hw⟩
theorem PB.rmul (h:PB p c n b) (g:PB q d m b'):aX p q=aW p q:=(FI h.po.l3 g.po.l3).symm
theorem PB.radd (h:PB p c n b) (g:PB q d m b'):aK p q=bJ p q:=(G2 h.po.l3 g.po.l3).symm
theorem PB.rsub (h:PB p c n b) (g:PB q d m b'):eD p q=kJ p q:=(PX h.po.l3 g.po.l3).symm
theorem PB.rscale (h:PB p c n b) (v:I):aM p v=bZ p v:=(BW v h.po.l3).symm
end
theorem dk_ (s:Int) (c d:Nat→Int) (k:Nat):conv (fun i=>c i * s) d k=conv c d k * s:=by
  have:=congrFun (a0_ s c d) k;rw [Int.mul_comm,← this]
  congr 1
  funext i
  exact Int.mul_comm _ _
def scC (A B C D:Nat→Int) (k:Nat):Int:=conv A A k+conv B B k+(conv C C k+conv D D k)
def dgC (A B C D:Nat→Int) (k:Nat):Int:=conv A A k+conv B B k - (conv C C k+conv D D k)
def twC (A B C D:Nat→Int) (s:Int) (k:Nat):Int:=(conv A B k+conv C D k * s) * 2
def nuC (S X m0 m1 m2:Nat→Int) (v:A3 W) (k:Nat):Int:=conv S X k+m0 k * v.x.1+m1 k * v.y.1+m2 k * v.z.1
section
variable {a b c d:List I} {A B C D:Nat→Int}
theorem A0 (ha:PB a A 2 8) (hb:PB b B 2 8):PB (aW a b) (conv A B) 3 17:=ha.mul hb (e:=1) dd_ dd_ dd_
theorem eg_ (ha:PB a A 2 8) (hb:PB b B 2 8) (hc:PB c C 2 8) (hd:PB d D 2 8):PB (qQ (wl 1) a a b b c c d d) (scC A B C D) 3 22:=by
  unfold qQ;have h1:=(PB.nil 3 17).add (A0 ha ha) dd_;have h2:=h1.add ((A0 hb hb).mono (b1:=18) (Nat.le_refl _) dd_) dd_;have h3:=h2.add ((A0 hc hc).mono (b1:=19) (Nat.le_refl _) dd_) dd_;have h4:=h3.add ((A0 hd hd).mono (b1:=20) (Nat.le_refl _) dd_) dd_;refine (h4.scale (v:=1) (s:=1) dd_ dd_).cast fun k=>?_;unfold scC;omega
theorem KX (ha:PB a A 2 9) (hb:PB b B 2 8) (hc:PB c C 2 9) (hd:PB d D 2 8) (n:W) (hn:n.1.natAbs<2 ^ 2):PB (dM n a b c d) (fun k=>(conv A B k+conv C D k) * n.1) 3 22:=by
  unfold dM;have m1:=ha.mul hb (e:=1) dd_ dd_ dd_;have m2:=hc.mul hd (e:=1) dd_ dd_ dd_;have h1:=(PB.nil 3 18).add m1 dd_;have h2:=h1.add (m2.mono (b1:=19) (Nat.le_refl _) dd_) dd_;refine (h2.scale hn dd_).cast fun k=>?_;rw [Int.zero_add]
theorem LD (ha:PB a A 2 8) (hb:PB b B 2 8) (hc:PB c C 2 8) (hd:PB d D 2 8):PB (i4 a b c d) (dgC A B C D) 3 23:=by
  unfold i4;have u:∀ {p:List I} {P:Nat→Int},PB p P 2 8→PB p P 2 9:=fun h=>h.mono (Nat.le_refl _) dd_;refine ((KX (u ha) ha (u hb) hb (wl 1) dd_).sub (KX (u hc) hc (u hd) hd (wl 1) dd_) dd_).cast fun k=>?_
  show (conv A A k+conv B B k) * 1 - (conv C C k+conv D D k) * 1=_
  unfold dgC;omega
theorem NN (ha:PB a A 2 8) (hb:PB b B 2 8) (hc:PB c C 2 8) (hd:PB d D 2 8):PB (dM (wl 2) a b c d) (twC A B C D 1) 3 23∧PB (dM (wl 2) a b (bZ c (E (Z.of (-1)))) d) (twC A B C D (-1)) 3 23:=by
  have u:∀ {p:List I} {P:Nat→Int},PB p P 2 8→PB p P 2 9:=fun h=>h.mono (Nat.le_refl _) dd_
  constructor
  · refine ((KX (u ha) hb (u hc) hd (wl 2) dd_).mono (b1:=23) (Nat.le_refl _) dd_).cast fun k=>?_
    show (_+_) * 2=_
    unfold twC;omega
  have hm:=hc.scale (v:=-1) (s:=1) dd_ dd_;refine ((KX (u ha) hb hm hd (wl 2) dd_).mono (b1:=23) (Nat.le_refl _) dd_).cast fun k=>?_
  show (_+_) * 2=_
  rw [dk_];rfl
def nuP (S X m0 m1 m2:List I) (v:A3 W):List I:=bJ (bJ (bJ (aW S X) (bZ m0 (E (Z.of v.x.1)))) (bZ m1 (E (Z.of v.y.1)))) (bZ m2 (E (Z.of v.z.1)))
def nuR (S X m0 m1 m2:List I) (v:A3 W):List I:=aK (aK (aK (aX S X) (aM m0 (E (Z.of v.x.1)))) (aM m1 (E (Z.of v.y.1)))) (aM m2 (E (Z.of v.z.1)))
def Vin (v:A3 W):Prop:=v.x.1.natAbs<2 ^ 19∧v.y.1.natAbs<2 ^ 19∧v.z.1.natAbs<2 ^ 19
theorem bQ_ {s x m0 m1 m2:List I} {S X M0 M1 M2:Nat→Int} {v:A3 W} (hv:Vin v) (hs:PB s S 3 22) (hx:PB x X 2 49) (h0:PB m0 M0 3 23) (h1:PB m1 M1 3 23) (h2:PB m2 M2 3 23):PB (nuP s x m0 m1 m2 v) (nuC S X M0 M1 M2 v) 4 76∧nuR s x m0 m1 m2 v=nuP s x m0 m1 m2 v:=by
  have k0:=hs.mul hx (e:=2) dd_ dd_ dd_;have k1:=(h0.scale hv.1 dd_).mono (n':=4) (b1:=73) dd_ dd_;have k2:=(h1.scale hv.2.1 dd_).mono (n':=4) (b1:=74) dd_ dd_;have k3:=(h2.scale hv.2.2 dd_).mono (n':=4) (b1:=75) dd_ dd_;have e1:=k0.add k1 dd_;have e2:=e1.add k2 dd_;have e3:=e2.add k3 dd_;refine ⟨e3,?_⟩;unfold nuR nuP;rw [hs.rmul hx,h0.rscale,h1.rscale,h2.rscale,k0.radd k1,e1.radd k2,e2.radd k3]
end
theorem gE_ {a b:W} (ha:a.1.natAbs<65) (hb:b.1.natAbs<65):(W.sub (W.mul (wl 1) b) a).1=b.1 - a.1∧(W.sub (W.mul (wl (-1)) b) a).1 = -b.1 - a.1:=by
  have e1:(W.mul (wl 1) b).1=b.1:=by
    show IntKind.i64.wrap (1 * b.1)=_
    rw [Int.one_mul];exact wi oo_
  have e2:(W.mul (wl (-1)) b).1 = -b.1:=by
    show IntKind.i64.wrap (-1 * b.1)=_
    rw [show (-1:Int) * b.1 = -b.1 by omega];exact wi oo_
  constructor
  · show IntKind.i64.wrap ((W.mul (wl 1) b).1 - a.1)=_
    rw [e1];exact wi oo_
  show IntKind.i64.wrap ((W.mul (wl (-1)) b).1 - a.1)=_
  rw [e2];exact wi oo_
theorem KY {a b:W} (ha:a.1.natAbs<65) (hb:b.1.natAbs<65):PB (dS [a,W.sub (W.mul (wl 1) b) a]) (lin a.1 (1 * b.1 - a.1)) 2 8∧PB (dS [a,W.sub (W.mul (wl (-1)) b) a]) (lin a.1 (-1 * b.1 - a.1)) 2 8:=by
  obtain ⟨e1,e2⟩:=gE_ ha hb;have h1:=PB.of2 (u:=a) (w:=W.sub (W.mul (wl 1) b) a) (s:=8) oo_ (by rw [e1];omega) dd_;have h2:=PB.of2 (u:=a) (w:=W.sub (W.mul (wl (-1)) b) a) (s:=8) oo_ (by rw [e2];omega) dd_;rw [e1] at h1;rw [e2] at h2;exact ⟨by rw [show (1:Int) * b.1 - a.1=b.1 - a.1 by omega];exact h1,by rw [show (-1:Int) * b.1 - a.1 = -b.1 - a.1 by omega];exact h2⟩
structure Tq (h:Path) (s:Int):Prop where
  sg:s=1∨s = -1
  x:PB (aP h).x (lin h.from_.q.x.1 (s * h.to_.q.x.1 - h.from_.q.x.1)) 2 8
  y:PB (aP h).y (lin h.from_.q.y.1 (s * h.to_.q.y.1 - h.from_.q.y.1)) 2 8
  z:PB (aP h).z (lin h.from_.q.z.1 (s * h.to_.q.z.1 - h.from_.q.z.1)) 2 8
  t:PB (aP h).t (lin h.from_.q.t.1 (s * h.to_.q.t.1 - h.from_.q.t.1)) 2 8
theorem RY {h:Path} (hf:h.from_.q.i.Lw 65) (ht:h.to_.q.i.Lw 65):Tq h (if (gJ h.from_.q h.to_.q).1<0 then -1 else 1)∧aC h=aP h:=by
  obtain ⟨a1,a2,a3,a4⟩:=hf;obtain ⟨b1,b2,b3,b4⟩:=ht;have k1:=KY (a:=h.from_.q.x) (b:=h.to_.q.x) a1 b1;have k2:=KY (a:=h.from_.q.y) (b:=h.to_.q.y) a2 b2;have k3:=KY (a:=h.from_.q.z) (b:=h.to_.q.z) a3 b3;have k4:=KY (a:=h.from_.q.t) (b:=h.to_.q.t) a4 b4
  constructor
  · by_cases hc:(gJ h.from_.q h.to_.q).1<0
    · rw [if_pos hc]
      have e:aP h=⟨dS [h.from_.q.x,W.sub (W.mul (wl (-1)) h.to_.q.x) h.from_.q.x],dS [h.from_.q.y,W.sub (W.mul (wl (-1)) h.to_.q.y) h.from_.q.y],dS [h.from_.q.z,W.sub (W.mul (wl (-1)) h.to_.q.z) h.from_.q.z],dS [h.from_.q.t,W.sub (W.mul (wl (-1)) h.to_.q.t) h.from_.q.t]⟩:=by
        unfold aP;rw [IA,decide_eq_true hc];rfl
      exact ⟨.inr rfl,by rw [e];exact k1.2,by rw [e];exact k2.2,by rw [e];exact k3.2,by rw [e];exact k4.2⟩
    rw [if_neg hc]
    have e:aP h=⟨dS [h.from_.q.x,W.sub (W.mul (wl 1) h.to_.q.x) h.from_.q.x],dS [h.from_.q.y,W.sub (W.mul (wl 1) h.to_.q.y) h.from_.q.y],dS [h.from_.q.z,W.sub (W.mul (wl 1) h.to_.q.z) h.from_.q.z],dS [h.from_.q.t,W.sub (W.mul (wl 1) h.to_.q.t) h.from_.q.t]⟩:=by
      unfold aP;rw [IA,decide_eq_false hc];rfl
    exact ⟨.inl rfl,by rw [e];exact k1.1,by rw [e];exact k2.1,by rw [e];exact k3.1,by rw [e];exact k4.1⟩
  unfold aC aP;simp only [IA,Q5]
structure Hv (h:Path):Prop where
  fq:h.from_.q.i.Lw 65∧¬ h.from_.q.i.zero
  tq:h.to_.q.i.Lw 65∧¬ h.to_.q.i.zero
  fx:h.from_.x.x.1.natAbs<2 ^ 47∧h.from_.x.y.1.natAbs<2 ^ 47∧h.from_.x.z.1.natAbs<2 ^ 47
  tx:h.to_.x.x.1.natAbs<2 ^ 47∧h.to_.x.y.1.natAbs<2 ^ 47∧h.to_.x.z.1.natAbs<2 ^ 47
theorem XS {a:Pose} (h:(eJ a).1=0):gD a.q=true∧a.x.x.1.natAbs<2 ^ 47∧a.x.y.1.natAbs<2 ^ 47∧a.x.z.1.natAbs<2 ^ 47:=by
  unfold eJ at h
  cases h1:(decide (140737488355328≤a.x.x.1)||decide (a.x.x.1≤(-140737488355328)))
  · cases h2:(decide (140737488355328≤a.x.y.1)||decide (a.x.y.1≤(-140737488355328)))
    · cases h3:(decide (140737488355328≤a.x.z.1)||decide (a.x.z.1≤(-140737488355328)))
      · cases h4:gD a.q
        · rw [h1,h2,h3,h4] at h;exact absurd h (show ¬ (1:Int)=0 by decide)
        simp only [Bool.or_eq_false_iff,decide_eq_false_iff_not] at h1 h2 h3;exact ⟨rfl,by omega,by omega,by omega⟩
      rw [h1,h2,h3] at h;exact absurd h (show ¬ (1:Int)=0 by decide)
    rw [h1,h2] at h;exact absurd h (show ¬ (1:Int)=0 by decide)
  rw [h1] at h;exact absurd h (show ¬ (1:Int)=0 by decide)
theorem bq_ {h:Path} (hc:(cM h).1=0):Hv h:=by
  unfold cM at hc;rcases H8 h.from_ with k | k
  · rw [k] at hc
    have hc':(eJ h.to_).1=0:=hc;obtain ⟨v1,x1⟩:=XS (a:=h.from_) (by rw [k]);obtain ⟨v2,x2⟩:=XS hc';exact ⟨PO v1,PO v2,x1,x2⟩
  rw [k] at hc;exact absurd hc (show ¬ (1:Int)=0 by decide)
structure Vx (h:Path) (v:A3 W) (A B C D:Nat→Int):Prop where
  s:PB (k9 h) (scC A B C D) 3 22
  s2:(bB h v).2=k9 h
  x:PB (bB h v).1.x (nuC (scC A B C D) (lin h.from_.x.x.1 (h.to_.x.x.1 - h.from_.x.x.1)) (dgC A B C D) (twC B C A D (-1)) (twC B D A C 1) v) 4 76
  y:PB (bB h v).1.y (nuC (scC A B C D) (lin h.from_.x.y.1 (h.to_.x.y.1 - h.from_.x.y.1)) (twC B C A D 1) (dgC A C B D) (twC C D A B (-1)) v) 4 76
  z:PB (bB h v).1.z (nuC (scC A B C D) (lin h.from_.x.z.1 (h.to_.x.z.1 - h.from_.x.z.1)) (twC B D A C (-1)) (twC C D A B 1) (dgC A D B C) v) 4 76
  r:cY h v=⟨(bB h v).1,k9 h⟩
theorem AD (h:Path) (v:A3 W):bB h v =
    (⟨nuP (k9 h) (dS [h.from_.x.x,W.sub h.to_.x.x h.from_.x.x]) (i4 (aP h).x (aP h).y (aP h).z (aP h).t) (dM (wl 2) (aP h).y (aP h).z (bZ (aP h).x (E (Z.of (-1)))) (aP h).t) (dM (wl 2) (aP h).y (aP h).t (aP h).x (aP h).z) v,
      nuP (k9 h) (dS [h.from_.x.y,W.sub h.to_.x.y h.from_.x.y]) (dM (wl 2) (aP h).y (aP h).z (aP h).x (aP h).t) (i4 (aP h).x (aP h).z (aP h).y (aP h).t) (dM (wl 2) (aP h).z (aP h).t (bZ (aP h).x (E (Z.of (-1)))) (aP h).y) v,
      nuP (k9 h) (dS [h.from_.x.z,W.sub h.to_.x.z h.from_.x.z]) (dM (wl 2) (aP h).y (aP h).t (bZ (aP h).x (E (Z.of (-1)))) (aP h).z) (dM (wl 2) (aP h).z (aP h).t (aP h).x (aP h).y) (i4 (aP h).x (aP h).t (aP h).y (aP h).z) v⟩,k9 h):=rfl
theorem T6 (h:Path) (v:A3 W):cY h v =
    ⟨⟨nuR (iA h) (cA [h.from_.x.x,W.sub h.to_.x.x h.from_.x.x]) (eE (aC h).x (aC h).y (aC h).z (aC h).t) (cL (aC h).y (aC h).z (aC h).x (aC h).t (wl (-1))) (cL (aC h).y (aC h).t (aC h).x (aC h).z (wl 1)) v,
      nuR (iA h) (cA [h.from_.x.y,W.sub h.to_.x.y h.from_.x.y]) (cL (aC h).y (aC h).z (aC h).x (aC h).t (wl 1)) (eE (aC h).x (aC h).z (aC h).y (aC h).t) (cL (aC h).z (aC h).t (aC h).x (aC h).y (wl (-1))) v,
      nuR (iA h) (cA [h.from_.x.z,W.sub h.to_.x.z h.from_.x.z]) (cL (aC h).y (aC h).t (aC h).x (aC h).z (wl (-1))) (cL (aC h).z (aC h).t (aC h).x (aC h).y (wl 1)) (eE (aC h).x (aC h).t (aC h).y (aC h).z) v⟩,iA h⟩:=rfl
section
variable {a b c d:List I} {A B C D:Nat→Int}
theorem V4 (ha:PB a A 2 8) (hb:PB b B 2 8) (hc:PB c C 2 8) (hd:PB d D 2 8):eE a b c d=i4 a b c d:=by
  have k1:=A0 ha ha;have k2:=A0 hb hb;have k3:=A0 hc hc;have k4:=A0 hd hd;have s1:=k1.add k2 dd_;have s2:=k3.add k4 dd_;unfold eE aE;rw [ha.rmul ha,hb.rmul hb,hc.rmul hc,hd.rmul hd,k1.radd k2,k3.radd k4,s1.rsub s2];exact (s1.sub s2 dd_).po.eq (LD ha hb hc hd).po
theorem WA (ha:PB a A 2 8) (hb:PB b B 2 8) (hc:PB c C 2 8) (hd:PB d D 2 8):cL a b c d (wl 1)=dM (wl 2) a b c d∧cL a b c d (wl (-1))=dM (wl 2) a b (bZ c (E (Z.of (-1)))) d:=by
  have k1:=A0 ha hb;have k2:=A0 hc hd;obtain ⟨t1,t2⟩:=NN ha hb hc hd
  constructor
  · have k3:=k2.scale (v:=1) (s:=1) dd_ dd_
    have k4:=(k1.mono (b1:=18) (Nat.le_refl _) dd_).add k3 dd_;unfold cL;rw [ha.rmul hb,hc.rmul hd,k2.rscale,k1.radd k3,k4.rscale];exact (k4.scale (v:=2) (s:=2) dd_ dd_).po.eq t1.po
  have k3:=k2.scale (v:=-1) (s:=1) dd_ dd_;have k4:=(k1.mono (b1:=18) (Nat.le_refl _) dd_).add k3 dd_;unfold cL;rw [ha.rmul hb,hc.rmul hd,k2.rscale,show (wl (-1)).1 = -1 from rfl,k1.radd k3,k4.rscale];exact (k4.scale (v:=2) (s:=2) dd_ dd_).po.eq t2.po
end
theorem gz_ {α β:Type} {p:α×β} {a:α} {b:β} (h:p=(a,b)):p.2=b:=by rw [h]
theorem GL {h:Path} (hh:Hv h) {v:A3 W} (hv:Vin v):∃ s A B C D,(s=1∨s=(-1:Int))∧A=lin h.from_.q.x.1 (s * h.to_.q.x.1 - h.from_.q.x.1)∧B=lin h.from_.q.y.1 (s * h.to_.q.y.1 - h.from_.q.y.1)∧C=lin h.from_.q.z.1 (s * h.to_.q.z.1 - h.from_.q.z.1)∧D=lin h.from_.q.t.1 (s * h.to_.q.t.1 - h.from_.q.t.1)∧s=(if (gJ h.from_.q h.to_.q).1<0 then -1 else 1)∧Vx h v A B C D:=by
  obtain ⟨tq,te⟩:=RY hh.fq.1 hh.tq.1;refine ⟨_,_,_,_,_,tq.sg,rfl,rfl,rfl,rfl,rfl,?_⟩;have hx:=tq.x;have hy:=tq.y;have hz:=tq.z;have ht:=tq.t;generalize lin h.from_.q.x.1 _=A at *;generalize lin h.from_.q.y.1 _=B at *;generalize lin h.from_.q.z.1 _=C at *;generalize lin h.from_.q.t.1 _=D at *;have sc:PB (k9 h) (scC A B C D) 3 22:=eg_ hx hy hz ht
  have rs:iA h=k9 h:=by
    have k1:=A0 hx hx;have k2:=A0 hy hy;have k3:=A0 hz hz;have k4:=A0 ht ht;have s1:=k1.add k2 dd_;have s2:=k3.add k4 dd_;unfold iA aE;rw [te,hx.rmul hx,hy.rmul hy,hz.rmul hz,ht.rmul ht,k1.radd k2,k3.radd k4,s1.radd s2];exact (s1.add s2 dd_).po.eq sc.po
  have pos:∀ {a b:W},a.1.natAbs<2 ^ 47→b.1.natAbs<2 ^ 47→PB (dS [a,W.sub b a]) (lin a.1 (b.1 - a.1)) 2 49:=fun {a b} ha hb=>by
    have e:(W.sub b a).1=b.1 - a.1:=wi ⟨by show _≤b.1 - a.1;omega,by show b.1 - a.1≤_;omega⟩;have:=PB.of2 (u:=a) (w:=W.sub b a) (s:=49) oo_ (by rw [e];omega) dd_
    rwa [e] at this
  have px:=pos hh.fx.1 hh.tx.1;have py:=pos hh.fx.2.1 hh.tx.2.1;have pz:=pos hh.fx.2.2 hh.tx.2.2;have d1:=LD hx hy hz ht;have d2:=LD hx hz hy ht;have d3:=LD hx ht hy hz;obtain ⟨t1,t2⟩:=NN hy hz hx ht;obtain ⟨t3,t4⟩:=NN hy ht hx hz;obtain ⟨t5,t6⟩:=NN hz ht hx hy;obtain ⟨n1,r1⟩:=bQ_ hv sc px d1 t2 t3;obtain ⟨n2,r2⟩:=bQ_ hv sc py t1 d2 t6;obtain ⟨n3,r3⟩:=bQ_ hv sc pz t4 t5 d3;have e1:=V4 hx hy hz ht;have e2:=V4 hx hz hy ht;have e3:=V4 hx ht hy hz;obtain ⟨e4,e5⟩:=WA hy hz hx ht;obtain ⟨e6,e7⟩:=WA hy ht hx hz;obtain ⟨e8,e9⟩:=WA hz ht hx hy;have q1:=congrArg (fun t=>t.1.x) (AD h v);have q2:=congrArg (fun t=>t.1.y) (AD h v);have q3:=congrArg (fun t=>t.1.z) (AD h v)
  dsimp only at q1 q2 q3
  rw [← q1] at n1;rw [← q2] at n2;rw [← q3] at n3;refine ⟨sc,gz_ (AD h v),n1,n2,n3,?_⟩;have R:=T6 h v;rw [rs,te,Q5,Q5,Q5,e1,e2,e3,e4,e5,e6,e7,e8,e9,r1,r2,r3] at R;rw [R];exact (congrArg (fun t=>(⟨t.1,k9 h⟩:Moving)) (AD h v)).symm
open Go Go.Kn
theorem hP_:F_skewbacklaw26_sanity=true:=by kernel_rfl
def Qd (b:A3 Rt):I:=iF [b.x.d,b.y.d,b.z.d]
def JO (V S:List I) (r:Rt) (q:I):List I:=kJ (bZ V q) (bZ S (E (Z.quo (E (Z.mul r.n.dec q.dec)).dec r.d.dec)))
def HY (V:A3 (List I)) (S:List I) (b:A3 Rt) (m:Rt):List I :=
  d7 (kJ (bZ (aW S S) (iF [m.n,Qd b,Qd b])) (bZ (bJ (bJ (bJ [] (aW (JO V.x S b.x (Qd b)) (JO V.x S b.x (Qd b)))) (aW (JO V.y S b.y (Qd b)) (JO V.y S b.y (Qd b)))) (aW (JO V.z S b.z (Qd b)) (JO V.z S b.z (Qd b)))) m.d))
theorem IW (h:Path) (v:A3 W) (b:A3 Rt) (m:Rt):cE h v b m =
    bif (((nW h).1 != 0)||(!gA v (wl 262144)||(iU m||lU [b.x,b.y,b.z] (fun (y:Rt)=>iU y)))) then (([]:List I),wl 1)
    else bif dR (HY (bB h v).1 (bB h v).2 b m) then (([]:List I),wl 30) else (HY (bB h v).1 (bB h v).2 b m,wl 0):=rfl
theorem gU_ (x y z:Rt):lU [x,y,z] (fun (y:Rt)=>iU y) = !(aT x&&(aT y&&aT z)):=by
  unfold lU rY
  have e:mM [x,y,z] (fun y=>iU y) ([x,y,z].length+1) 0=bif aT x then (bif aT y then (bif aT z then .inl 3 else .inr (W.cv 2)) else .inr (W.cv 1)) else .inr (W.cv 0):=by
    show (bif iU x then _ else (bif iU y then _ else (bif iU z then _ else _)))=_
    unfold iU
    cases aT x <;> cases aT y <;> cases aT z <;> rfl
  rw [e]
  cases aT x <;> cases aT y <;> cases aT z <;> rfl
end Go.Num
