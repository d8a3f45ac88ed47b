/- Lemmas: what they ask stands in their statements. -/
import Derived.Test.YtbjlhfochebmiaaGreatDoorNH2xGc
import Derived.Test.YtbjlhfochebmiaaGreatDoorNZc
set_option linter.unusedSimpArgs false
set_option linter.unusedVariables false
set_option maxRecDepth 20000
namespace Go.Num
theorem oK {α:Type} [Add α] [OfNat α 0] {f g:Nat→α}:∀ {n:Nat},(∀ i,i<n→f i=g i)→mS f n=mS g n
 | 0,_=>rfl
 | n+1,h=>by simp only [mS];rw [oK fun i hi=>h i (by omega),h n (by omega)]
theorem JB {α:Type} [Add α] [Mul α] [OfNat α 0] [Rg α] (f g:Nat→α):∀ n:Nat,mS (fun i=>f i+g i) n=mS f n+mS g n
 | 0=>(Rg.a0 _).symm
 | n+1=>by
  simp only [mS];rw [JB f g n,Rg.aa,Rg.aa,← Rg.aa (mS g n),Rg.ac (mS g n) (f n),Rg.aa]
theorem z0 {α:Type} [Add α] [Mul α] [OfNat α 0] [Rg α] (c:α) (f:Nat→α):∀ n:Nat,mS (fun i=>c*f i) n=c*mS f n
 | 0=>(Rg.m0 _).symm
 | n+1=>by simp only [mS];rw [z0 c f n,Rg.md]
theorem LJ {α:Type} [Add α] [Mul α] [OfNat α 0] [Rg α] (c:α) (f:Nat→α) (n:Nat):mS (fun i=>f i*c) n=mS f n*c:=by
 rw [Rg.mc _ c,← z0];exact oK fun i _=>Rg.mc _ _
theorem JC {α:Type} [Add α] [Mul α] [OfNat α 0] [Rg α] (f:Nat→α):∀ n:Nat,mS f (n+1)=f 0+mS (fun i=>f (i+1)) n
 | 0=>by simp only [mS];rw [Rg.ac]
 | n+1=>by rw [mS,JC f n,Rg.aa];rfl
theorem P5 {α:Type} [Add α] [Mul α] [OfNat α 0] [Rg α] (f:Nat→Nat→α):∀ n:Nat,mS (fun k=>mS (fun i=>f i (k - i)) (k+1)) n=mS (fun i=>mS (fun j=>f i j) (n - i)) n
 | 0=>rfl
 | n+1=>by
  rw [mS,P5 f n]
  rw [oK (f:=fun i=>mS (fun j=>f i j) (n+1 - i)) (g:=fun i=>mS (fun j=>f i j) (n - i)+f i (n - i)) (fun i hi=>by
   rw [show n+1 - i=n - i+1 by omega];rfl)]
  rw [JB]
  congr 1
  rw [mS,Nat.sub_self,mS,Rg.a0]
theorem XB {α:Type} [Add α] [Mul α] [OfNat α 0] [Rg α] (a:α) (c d:Nat→α):conv (fun i=>a*c i) d=fun k=>a*conv c d k:=by
 funext k
 unfold conv;rw [← z0];exact oK fun i _=>Rg.ma _ _ _
theorem P6 (f:Nat→Int):∀ n:Nat,((mS f n:Int):Rat)=mS (fun i=>(f i:Rat)) n
 | 0=>rfl
 | n+1=>by simp only [mS];rw [Rat.intCast_add,P6 f n]
theorem UO (c d:Nat→Int):cR (conv c d)=conv (cR c) (cR d):=by
 funext k
 unfold cR conv;rw [P6];exact oK fun i _=>Rat.intCast_mul ..
theorem TC (q:Rat):q*((q.den:Int):Rat)=((q.num:Int):Rat):=by
 have h:=Rat.num_divInt_den q;rw [Rat.divInt_eq_div,Rat.div_def] at h;have h0:((q.den:Int):Rat)≠0:=fun h=>q.den_nz (by have:=Rat.intCast_eq_zero_iff.1 h;omega)
 have e:(((q.num:Int):Rat)*((q.den:Int):Rat)⁻¹)*((q.den:Int):Rat)=((q.num:Int):Rat):=by rw [Rat.mul_assoc,Rat.inv_mul_cancel _ h0,Rat.mul_one]
 rw [h] at e;exact e
open Go Go.Kn
theorem fz_:I0=E (Z.of 0):=rfl
section
variable {p q:List I} {c d:Nat→Int}
theorem WJ {a:Int} (h:Po p c) (ha:e9 a) (hB:∀ k,e9 (c k*a)):Po (cS p (E (Z.of a))) (fun k=>c k*a):=by
 unfold cS;rw [show o4 (E (Z.of a))=true from cY_ ha,cond_true];exact MN h QM (fun k=>by unfold pW;rw [dQ,dQ,qE (h.B k) ha]) hB (fun k h1 _=>by rw [h1,Int.zero_mul])
variable {n m b b':Nat}
theorem az_ {v:Int} (hv:e9 v) {b:Int} (h:(Z.bitsW (Z.of v)).1≤b):v.natAbs<2 ^ b.toNat:=by
 have h1:((Z.of v).bits:Int)≤b:=h;unfold Z.bits at h1;rw [Z.of_some hv] at h1;simp only at h1;exact Nat.lt_of_lt_of_le (FS _) (Nat.pow_le_pow_right dd_ oo_)
end
open Go Go.Kn
def pw (d:I):Nat→I
 | 0=>E (Z.of 1)
 | k+1=>E (Z.mul (pw d k).dec d.dec)
theorem R0 (n:Nat) (f:Nat→I):(List.range (n+1)).map f=(List.range n).map f++[f n]:=by rw [List.range_succ,List.map_append];rfl
theorem KY (d:I) (n:Int):∀ (k m:Nat),n.toNat - (m+1)<k→i5 d n k ((List.range (m+1)).map (pw d))=(List.range (max n.toNat (m+1))).map (pw d)
 | 0,m,h=>absurd h (Nat.not_lt_zero _)
 | k+1,m,h=>by
  unfold i5
  have hl:((List.range (m+1)).map (pw d)).length=m+1:=by simp
  by_cases hc:((m+1:Nat):Int)<n
  ·rw [hl,decide_eq_true hc,cond_true]
   have e1:((List.range (m+1)).map (pw d)).getD (m+1 - 1) I0=pw d m:=by simp [List.getD]
   rw [e1,show E (Z.mul (pw d m).dec d.dec)=pw d (m+1) from rfl,← R0,KY d n k (m+1) oo_];rw [show max n.toNat (m+1+1)=max n.toNat (m+1) by omega]
  rw [hl,decide_eq_false hc,cond_false,show max n.toNat (m+1)=m+1 by omega]
theorem VF (d:I) (n:Int):fQ d n=(List.range (max n.toNat 1)).map (pw d):=KY d n _ 0 oo_
theorem PJ (d:I) (k:Int):∀ (f i:Nat),k.toNat - i<f→i≤k.toNat→(gT d k f i (pw d i)).2=pw d k.toNat
 | 0,i,h,_=>absurd h (Nat.not_lt_zero _)
 | f+1,i,h,hi=>by
  unfold gT
  by_cases hc:(i:Int)<k
  ·rw [decide_eq_true hc,cond_true]
   exact PJ d k f (i+1) oo_ oo_
  rw [decide_eq_false hc,cond_false,show k.toNat=i by omega]
theorem N3 (d:I) (k:Int):fU d k=pw d k.toNat:=PJ d k _ 0 oo_ (Nat.zero_le _)
theorem AK (d:I) (n:Int) {k:Nat} (h:k<max n.toNat 1):(fQ d n).getD k I0=pw d k:=by
 rw [VF];simp [List.getD,h]
theorem JJ (p:List I) (x:Rt):∀ (f:Nat) (i:Int) (m:I),i<(p.length:Int)→(iT p x f i m).2=(gU p x f i m).2
 | 0,i,m,h=>rfl
 | f+1,i,m,h=>by
  unfold iT gU
  by_cases hi:0≤i
  ·rw [decide_eq_true hi]
   simp only [cond_true];rw [AK _ _ (show p.length - 1 - i.toNat<max (p.length:Int).toNat 1 by omega),N3,show ((p.length:Int) - 1 - i).toNat=p.length - 1 - i.toNat by omega];exact JJ p x f (i - 1) _ oo_
  rw [decide_eq_false hi];rfl
theorem XQ (x:Rt):tU [x]=cQ x:=by
 unfold tU tK sG
 have e:mT [x] (fun y=>pF y) ([x].length+1) 0=bif cQ x then .inl 1 else .inr (W.cv 0):=by
  show (bif pF x then _ else _)=_
  unfold pF
  cases cQ x<;>rfl
 rw [e]
 cases cQ x<;>rfl
theorem b9_ (x:Rt):kB x=cQ x:=by
 unfold kB cQ
 show (bif (!gdI x.n||(!gdI x.d||_)) then _ else _)=(gdI x.n&&(gdI x.d&&_))
 cases gdI x.n
 ·rfl
 ·cases gdI x.d
  ·rfl
  by_cases h:(Z.signW x.d.dec).1≤0
  ·rw [decide_eq_true h,decide_eq_false (show ¬ 0<(Z.signW x.d.dec).1 by omega)];rfl
  rw [decide_eq_false h,decide_eq_true (show 0<(Z.signW x.d.dec).1 by omega)];simp only [Bool.not_true,Bool.or_self,cond_false,Bool.true_and];rfl
theorem UH {p:List I} (x:Rt) (hp:p.length≤1000):(iG p x).1=gM p x:=by
 unfold iG gM;rw [EA hp,SK,XQ,b9_]
 cases (!p.all gdI || !cQ x)
 ·simp only [cond_false,ap]
  exact JJ p x _ _ _ oo_
 rfl
theorem WG {p:List I} (x:Rt) (hp:p.length≤1000):fG p x=jE p x:=by
 unfold fG jE;rw [UH x hp];simp only;rw [CV,N3,Int.toNat_natCast];unfold iG gM;rw [EA hp,SK,XQ,b9_]
 cases (!p.all gdI || !cQ x)
 ·simp only [cond_false,ap]
  rw [AK _ _ oo_]
 simp only [cond_true];rw [C3,C3]
theorem PW (x:Rat) (m:Nat):∀ n:Nat,x ^ (m+n)=x ^ m*x ^ n
 | 0=>by rw [Rat.pow_zero,Rat.mul_one];rfl
 | n+1=>by rw [← Nat.add_assoc,Rat.pow_succ,PW x m n,Rat.pow_succ,Rat.mul_assoc]
theorem NX {c:Nat→Rat} {x:Rat} {n:Nat} (h:∀ i,n≤i→c i=0) {m:Nat} (hm:n≤m):vl c x m=vl c x n :=
 xD (fun i hi=>by rw [h i hi,Rat.zero_mul]) m hm
theorem dX_ (c d:Nat→Rat) (x:Rat) (n:Nat):vl (fun i=>c i+d i) x n=vl c x n+vl d x n:=by
 unfold vl;rw [← JB];exact oK fun i _=>Rat.add_mul _ _ _
theorem dZ_ (a:Rat) (c:Nat→Rat) (x:Rat) (n:Nat):vl (fun i=>a*c i) x n=a*vl c x n:=by
 unfold vl;rw [← z0];exact oK fun i _=>Rat.mul_assoc _ _ _
theorem aa_ (c:Nat→Rat) (x:Rat) (n:Nat):vl c x (n+1)=c 0+x*vl (fun i=>c (i+1)) x n:=by
 unfold vl;rw [JC,Rat.pow_zero,Rat.mul_one,← z0]
 congr 1
 refine oK fun i _=>?_;rw [Rat.pow_succ];grind
theorem bH_ {c d:Nat→Rat} {x:Rat} {n m:Nat} (hc:∀ i,n≤i→c i=0) (hd:∀ i,m≤i→d i=0) {K:Nat} (hK:n+m≤K):vl (conv c d) x K=vl c x n*vl d x m:=by
 have h:=P5 (fun i j=>c i*x ^ i*(d j*x ^ j)) K
 have e1:vl (conv c d) x K=mS (fun k=>mS (fun i=>c i*x ^ i*(d (k - i)*x ^ (k - i))) (k+1)) K:=by
  refine oK fun k _=>?_
  show mS _ _*_=_
  rw [← LJ];refine oK fun i hi=>?_
  have:x ^ k=x ^ i*x ^ (k - i):=by rw [← PW];congr 1;omega
  rw [this];grind
 rw [e1,h];unfold vl;rw [← LJ];rw [xD (n:=n) (fun i hi=>by rw [hc i hi];exact xE fun j _=>by rw [Rat.zero_mul,Rat.zero_mul]) K oo_];refine oK fun i hi=>?_;rw [z0]
 congr 1
 exact xD (fun j hj=>by rw [hd j hj,Rat.zero_mul]) _ oo_
section
variable {c:Nat→Int} {N D:Int} {L:Nat}
theorem X0 {x:Rat} (hx:(D:Rat)*x=N):∀ t:Nat,t≤L→((hv c N D L t:Int):Rat)*D=(D:Rat) ^ t*vl (fun j=>cR c (L - t+j)) x t
 | 0,_=>by show ((0:Int):Rat)*D=_*(0:Rat);rw [Rat.mul_zero];exact Rat.zero_mul _
 | t+1,ht=>by
  rw [aa_,hv,Rat.intCast_add,Rat.intCast_mul,Rat.intCast_mul,Rat.intCast_pow,Rat.pow_succ];have ih:=X0 hx t oo_;rw [show (fun i=>(fun j=>cR c (L - (t+1)+j)) (i+1))=fun j=>cR c (L - t+j) from funext fun j=>by show cR c _=cR c _;congr 1;omega];rw [show L - (t+1)+0=L - 1 - t by omega]
  show _=_*(((c (L - 1 - t):Int):Rat)+_)
  generalize vl (fun j=>cR c (L - t+j)) x t=S at *;generalize ((hv c N D L t:Int):Rat)=H at *;rw [← hx]
  grind
theorem Q7 {x:Rat} (hx:(D:Rat)*x=N) (hD:0<D):((hv c N D L L:Int):Rat)=(D:Rat) ^ (L - 1)*vl (cR c) x L:=by
 have hd:(D:Rat)≠0:=fun h=>by have:=Rat.intCast_eq_zero_iff.1 h;omega
 cases L with
 | zero=>show ((0:Int):Rat)=_*(0:Rat);rw [Rat.mul_zero];rfl
 | succ n =>
  have h:=X0 (c:=c) (L:=n+1) hx (n+1) (Nat.le_refl _);rw [show (fun j=>cR c (n+1 - (n+1)+j))=cR c from funext fun j=>by congr 1;omega,Rat.pow_succ] at h;rw [Nat.add_sub_cancel]
  have:(((hv c N D (n+1) (n+1):Int):Rat) - (D:Rat) ^ n*vl (cR c) x (n+1))*D=0:=by grind
  rcases Rat.mul_eq_zero.1 this with h|h
  ·grind
  exact absurd h hd
theorem RT {D:Int}:∀ {k:Nat},(∀ j,j≤k→e9 (D ^ j))→pw (E (Z.of D)) k=E (Z.of (D ^ k))
 | 0,_=>by rw [Int.pow_zero];rfl
 | k+1,h=>by
  rw [pw,RT fun j hj=>h j oo_,dQ,dQ,qE (h k oo_) (by have:=h 1 oo_;rwa [Int.pow_one] at this:e9 D),Int.pow_succ]
variable {p:List I} {x:Rt}
theorem Z9 (h:Po p c) (hx:x.Is N D) (r:Room c N D p.length):∀ (f t:Nat) (i:Int),t≤p.length→i=(p.length:Int) - 1 - t→p.length - t<f →
  (iT p x f i (E (Z.of (hv c N D p.length t)))).2=E (Z.of (hv c N D p.length p.length))
 | 0,t,i,_,_,hf=>absurd hf (Nat.not_lt_zero _)
 | f+1,t,i,ht,hi,hf=>by
  unfold iT
  by_cases h0:0≤i
  ·rw [decide_eq_true h0,cond_true]
   have hl:t<p.length:=by omega
   have e1:i.toNat=p.length - 1 - t:=by omega
   have e2:p.length - 1 - i.toNat=t:=by omega
   simp only
   rw [e2,AK _ _ (show t<max (p.length:Int).toNat 1 by omega),hx.ed,RT fun j hj=>r.p j oo_,e1,h.get,hx.en,dQ,dQ,dQ,dQ,dQ,
    qE (h.B _) (r.p t hl),qE (r.h t ht) hx.hn,DS (r.m t hl) (r.q t hl)]
   exact Z9 h hx r f (t+1) _ oo_ oo_ oo_
  rw [decide_eq_false h0,cond_false,show t=p.length by omega]
theorem V5 (h:Po p c) (hx:x.Is N D) (r:Room c N D p.length):iG p x=(E (Z.of (hv c N D p.length p.length)),E (Z.of (D ^ (p.length - 1)))):=by
 unfold iG;rw [h.nb,XQ,sH,D9 hx]
 show ((iT p x (p.length+1) ((p.length:Int) - 1) I0).2,_)=_
 congr 1
 ·have e:=Z9 h hx r (p.length+1) 0 ((p.length:Int) - 1) (Nat.zero_le _) oo_ oo_
  rw [show hv c N D p.length 0=0 from rfl,← fz_] at e;exact e
 rw [show ((p.length:Int) - 1).toNat=p.length - 1 by omega,AK _ _ oo_,hx.ed]
 cases hl:p.length with
 | zero=>show pw _ 0=E (Z.of (D ^ 0));rw [Int.pow_zero];rfl
 | succ n=>exact RT fun j hj=>r.p j oo_
theorem dg_ {q:Rat} {n d:Int} (h:(n:Rat)=(d:Rat)*q):q.num*d=n*q.den:=by
 have h1:=TC q
 have h2:((n*q.den:Int):Rat)=((q.num*d:Int):Rat):=by
  rw [Rat.intCast_mul,Rat.intCast_mul,h,← h1];grind
 exact (Rat.intCast_inj.1 h2).symm
theorem QU {q:Rat}:((q.den:Int):Rat)*q=((q.num:Int):Rat):=by
 rw [Rat.mul_comm];exact TC q
theorem LY {q:Rat} {n b s e:Nat} (h:Po p c) (hb:Bd c n b) (hx:x.At q) (hs:Sz q s) (hn:n≤2 ^ e) (hk:b+s*n+e+1≤512):(fG p x).At (vl (cR c) q n):=by
 have ix:=At.is hx;have hl:=h.len hb;have r:=eS_ (L:=p.length) hb.b hs.n (show (q.den:Int).natAbs<2 ^ s by rw [Int.natAbs_natCast];exact hs.d) hl hn hk;unfold fG;rw [V5 h ix r,CV];have hp:=@uT q;have hv:=Q7 (c:=c) (L:=p.length) (N:=q.num) (D:=(q.den:Int)) QU hp;rw [NX (n:=p.length) (fun i hi=>by unfold cR;rw [h.zero hi];rfl) hl];refine x9 (r.h _ (Nat.le_refl _)) ?_ (Int.pow_pos hp) (dg_ ?_)
 ·cases hp:p.length with
  | zero=>exact B1
  | succ m=>exact r.p _ oo_
 rw [hv,Rat.intCast_pow]
end
open Go Go.Kn
section
variable {p q:List I} {c d:Nat→Int}
theorem c7_ {u v:Int} (hu:e9 u) (hv:e9 v):Po (xZ [E (Z.of u),E (Z.of v)]) (lin u v):=by
 rw [S7];refine YJ (fun k=>?_) (fun k=>?_) fun k hk=>?_
 ·match k with
  | 0=>rfl
  | 1=>rfl
  | k+2=>rw [wV (by simp)];unfold lin;rw [if_neg oo_,if_neg oo_];rfl
 ·unfold lin;split
  ·exact hu
  split
  ·exact hv
  exact B0
 unfold lin;rw [if_neg oo_,if_neg oo_]
theorem X8 {u v:Int} {b:Nat} (hu:u.natAbs<2 ^ b) (hv:v.natAbs<2 ^ b):Bd (lin u v) 2 b :=
 ⟨fun k hk=>by unfold lin;rw [if_neg oo_,if_neg oo_],fun k=>by
  unfold lin;split
  ·exact hu
  split
  ·exact hv
  exact Nat.pow_pos dd_⟩
variable {u v W:Int} {L:Nat}
theorem dY_ (u v:Int) (y:Rat) {K:Nat} (hK:2≤K):vl (cR (lin u v)) y K=(u:Rat)+(v:Rat)*y:=by
 rw [NX (n:=2) (fun i hi=>by unfold cR lin;rw [if_neg oo_,if_neg oo_];rfl) hK]
 show (0+((u:Int):Rat)*y ^ 0)+((v:Int):Rat)*y ^ 1=_
 rw [Rat.pow_zero,Rat.pow_one,Rat.zero_add,Rat.mul_one]
end
open Go Go.Kn
section
variable {p q:List I} {c d:Nat→Int} {n m b b':Nat}
theorem PB.scale (h:PB p c n b) {v:Int} {s:Nat} (hv:v.natAbs<2 ^ s) (hk:b+s≤512):PB (cS p (E (Z.of v))) (fun k=>c k*v) n (b+s):=by
 have hb:Bd (fun k=>c k*v) n (b+s):=⟨fun k hk=>by show c k*v=0;rw [h.bd.z k hk,Int.zero_mul],fun k=>o7 (h.bd.b k) hv⟩;exact ⟨WJ h.po (xG hv oo_) fun k=>hb.B hk k,hb⟩
theorem ez_ (u w:W):dA [u,w]=xZ [E (Z.of u.1),E (Z.of w.1)]:=by
 unfold dA;rw [FB,S7];rfl
theorem PB.of2 {u w:W} {s:Nat} (hu:u.1.natAbs<2 ^ s) (hw:w.1.natAbs<2 ^ s) (hs:s≤512):PB (dA [u,w]) (lin u.1 w.1) 2 s:=by
 rw [ez_];exact ⟨c7_ (xG hu hs) (xG hw hs),X8 hu hw⟩
end
theorem aG_ (s:Int) (c d:Nat→Int) (k:Nat):conv (fun i=>c i*s) d k=conv c d k*s:=by
 have:=congrFun (XB s c d) k;rw [Int.mul_comm,← this]
 congr 1
 funext i
 exact Int.mul_comm _ _
section
variable {a b c d:List I} {A B C D:Nat→Int}
theorem TB (ha:PB a A 2 8) (hb:PB b B 2 8):PB (bE a b) (conv A B) 3 17:=ha.mul hb (e:=1) dd_ dd_ dd_
theorem bz_ (ha:PB a A 2 8) (hb:PB b B 2 8) (hc:PB c C 2 8) (hd:PB d D 2 8):PB (nY (wl 1) a a b b c c d d) (scC A B C D) 3 22:=by
 unfold nY;have h1:=(PB.nil 3 17).add (TB ha ha) dd_;have h2:=h1.add ((TB hb hb).mono (b1:=18) (Nat.le_refl _) dd_) dd_;have h3:=h2.add ((TB hc hc).mono (b1:=19) (Nat.le_refl _) dd_) dd_;have h4:=h3.add ((TB hd hd).mono (b1:=20) (Nat.le_refl _) dd_) dd_;refine (h4.scale (v:=1) (s:=1) dd_ dd_).cast fun k=>?_;unfold scC;omega
theorem HD (ha:PB a A 2 9) (hb:PB b B 2 8) (hc:PB c C 2 9) (hd:PB d D 2 8) (n:W) (hn:n.1.natAbs<2 ^ 2):PB (cX n a b c d) (fun k=>(conv A B k+conv C D k)*n.1) 3 22:=by
 unfold cX;have m1:=ha.mul hb (e:=1) dd_ dd_ dd_;have m2:=hc.mul hd (e:=1) dd_ dd_ dd_;have h1:=(PB.nil 3 18).add m1 dd_;have h2:=h1.add (m2.mono (b1:=19) (Nat.le_refl _) dd_) dd_;refine (h2.scale hn dd_).cast fun k=>?_;rw [Int.zero_add]
theorem WM (ha:PB a A 2 8) (hb:PB b B 2 8) (hc:PB c C 2 8) (hd:PB d D 2 8):PB (gP a b c d) (dgC A B C D) 3 23:=by
 unfold gP;have u:∀ {p:List I} {P:Nat→Int},PB p P 2 8→PB p P 2 9:=fun h=>h.mono (Nat.le_refl _) dd_;refine ((HD (u ha) ha (u hb) hb (wl 1) dd_).sub (HD (u hc) hc (u hd) hd (wl 1) dd_) dd_).cast fun k=>?_
 show (conv A A k+conv B B k)*1 - (conv C C k+conv D D k)*1=_
 unfold dgC;omega
theorem Z3 (ha:PB a A 2 8) (hb:PB b B 2 8) (hc:PB c C 2 8) (hd:PB d D 2 8):PB (cX (wl 2) a b c d) (twC A B C D 1) 3 23∧PB (cX (wl 2) a b (cS c (E (Z.of (-1)))) d) (twC A B C D (-1)) 3 23:=by
 have u:∀ {p:List I} {P:Nat→Int},PB p P 2 8→PB p P 2 9:=fun h=>h.mono (Nat.le_refl _) dd_
 constructor
 ·refine ((HD (u ha) hb (u hc) hd (wl 2) dd_).mono (b1:=23) (Nat.le_refl _) dd_).cast fun k=>?_
  show (_+_)*2=_
  unfold twC;omega
 have hm:=hc.scale (v:=-1) (s:=1) dd_ dd_;refine ((HD (u ha) hb hm hd (wl 2) dd_).mono (b1:=23) (Nat.le_refl _) dd_).cast fun k=>?_
 show (_+_)*2=_
 rw [aG_];rfl
def nuP (S X m0 m1 m2:List I) (v:A3 W):List I:=bP (bP (bP (bE S X) (cS m0 (E (Z.of v.x.1)))) (cS m1 (E (Z.of v.y.1)))) (cS m2 (E (Z.of v.z.1)))
end
theorem dL_ {a b:W} (ha:a.1.natAbs<65) (hb:b.1.natAbs<65):(W.sub (W.mul (wl 1) b) a).1=b.1 - a.1∧(W.sub (W.mul (wl (-1)) b) a).1 = -b.1 - a.1:=by
 have e1:(W.mul (wl 1) b).1=b.1:=by
  show IntKind.i64.wrap (1*b.1)=_
  rw [Int.one_mul];exact wi oo_
 have e2:(W.mul (wl (-1)) b).1 = -b.1:=by
  show IntKind.i64.wrap (-1*b.1)=_
  rw [show (-1:Int)*b.1 = -b.1 by omega];exact wi oo_
 constructor
 ·show IntKind.i64.wrap ((W.mul (wl 1) b).1 - a.1)=_
  rw [e1];exact wi oo_
 show IntKind.i64.wrap ((W.mul (wl (-1)) b).1 - a.1)=_
 rw [e2];exact wi oo_
theorem HE {a b:W} (ha:a.1.natAbs<65) (hb:b.1.natAbs<65):PB (dA [a,W.sub (W.mul (wl 1) b) a]) (lin a.1 (1*b.1 - a.1)) 2 8∧PB (dA [a,W.sub (W.mul (wl (-1)) b) a]) (lin a.1 (-1*b.1 - a.1)) 2 8:=by
 obtain ⟨e1,e2⟩:=dL_ ha hb;have h1:=PB.of2 (u:=a) (w:=W.sub (W.mul (wl 1) b) a) (s:=8) oo_ (by rw [e1];omega) dd_;have h2:=PB.of2 (u:=a) (w:=W.sub (W.mul (wl (-1)) b) a) (s:=8) oo_ (by rw [e2];omega) dd_;rw [e1] at h1;rw [e2] at h2;exact ⟨by rw [show (1:Int)*b.1 - a.1=b.1 - a.1 by omega];exact h1,by rw [show (-1:Int)*b.1 - a.1 = -b.1 - a.1 by omega];exact h2⟩
theorem ep_ {h:Path} (hc:(fT h).1=0):Hv h:=by
 unfold fT at hc;rcases UF h.from_ with k|k
 ·rw [k] at hc
  have hc':(cZ h.to_).1=0:=hc;obtain ⟨v1,x1⟩:=M7 (a:=h.from_) (by rw [k]);obtain ⟨v2,x2⟩:=M7 hc';exact ⟨FO v1,FO v2,x1,x2⟩
 rw [k] at hc;exact absurd hc (show ¬ (1:Int)=0 by decide)
theorem BD (h:Path) (v:A3 W):bL h v =
 (⟨nuP (eT h) (dA [h.from_.x.x,W.sub h.to_.x.x h.from_.x.x]) (gP (aM h).x (aM h).y (aM h).z (aM h).t) (cX (wl 2) (aM h).y (aM h).z (cS (aM h).x (E (Z.of (-1)))) (aM h).t) (cX (wl 2) (aM h).y (aM h).t (aM h).x (aM h).z) v,
  nuP (eT h) (dA [h.from_.x.y,W.sub h.to_.x.y h.from_.x.y]) (cX (wl 2) (aM h).y (aM h).z (aM h).x (aM h).t) (gP (aM h).x (aM h).z (aM h).y (aM h).t) (cX (wl 2) (aM h).z (aM h).t (cS (aM h).x (E (Z.of (-1)))) (aM h).y) v,
  nuP (eT h) (dA [h.from_.x.z,W.sub h.to_.x.z h.from_.x.z]) (cX (wl 2) (aM h).y (aM h).t (cS (aM h).x (E (Z.of (-1)))) (aM h).z) (cX (wl 2) (aM h).z (aM h).t (aM h).x (aM h).y) (gP (aM h).x (aM h).t (aM h).y (aM h).z) v⟩,eT h):=rfl
section
variable {a b c d:List I} {A B C D:Nat→Int}
end
theorem dF_ {α β:Type} {p:α×β} {a:α} {b:β} (h:p=(a,b)):p.2=b:=by rw [h]
open Go Go.Kn
def GP (h:Path):Int:=if h.from_.q.x.1*h.to_.q.x.1+h.from_.q.y.1*h.to_.q.y.1+h.from_.q.z.1*h.to_.q.z.1+h.from_.q.t.1*h.to_.q.t.1<0 then -1 else 1
theorem UG {h:Path} (hf:h.from_.q.i.Lw 65) (ht:h.to_.q.i.Lw 65):Tq h (GP h):=by
 have hin:=IF hf ht;obtain ⟨a1,a2,a3,a4⟩:=hf;obtain ⟨b1,b2,b3,b4⟩:=ht;have k1:=HE (a:=h.from_.q.x) (b:=h.to_.q.x) a1 b1;have k2:=HE (a:=h.from_.q.y) (b:=h.to_.q.y) a2 b2;have k3:=HE (a:=h.from_.q.z) (b:=h.to_.q.z) a3 b3;have k4:=HE (a:=h.from_.q.t) (b:=h.to_.q.t) a4 b4;unfold GP;rw [← hin]
 by_cases hc:(mY h.from_.q h.to_.q).1<0
 ·rw [if_pos hc]
  have e:aM h=⟨dA [h.from_.q.x,W.sub (W.mul (wl (-1)) h.to_.q.x) h.from_.q.x],dA [h.from_.q.y,W.sub (W.mul (wl (-1)) h.to_.q.y) h.from_.q.y],dA [h.from_.q.z,W.sub (W.mul (wl (-1)) h.to_.q.z) h.from_.q.z],dA [h.from_.q.t,W.sub (W.mul (wl (-1)) h.to_.q.t) h.from_.q.t]⟩:=by
   unfold aM;rw [decide_eq_true hc];rfl
  exact ⟨.inr O,by rw [e];exact k1.2,by rw [e];exact k2.2,by rw [e];exact k3.2,by rw [e];exact k4.2⟩
 rw [if_neg hc]
 have e:aM h=⟨dA [h.from_.q.x,W.sub (W.mul (wl 1) h.to_.q.x) h.from_.q.x],dA [h.from_.q.y,W.sub (W.mul (wl 1) h.to_.q.y) h.from_.q.y],dA [h.from_.q.z,W.sub (W.mul (wl 1) h.to_.q.z) h.from_.q.z],dA [h.from_.q.t,W.sub (W.mul (wl 1) h.to_.q.t) h.from_.q.t]⟩:=by
  unfold aM;rw [decide_eq_false hc];rfl
 exact ⟨.inl O,by rw [e];exact k1.1,by rw [e];exact k2.1,by rw [e];exact k3.1,by rw [e];exact k4.1⟩
theorem RF {s x m0 m1 m2:List I} {S X M0 M1 M2:Nat→Int} {v:A3 W} (hv:Vin v) (hs:PB s S 3 22) (hx:PB x X 2 49) (h0:PB m0 M0 3 23) (h1:PB m1 M1 3 23) (h2:PB m2 M2 3 23):PB (nuP s x m0 m1 m2 v) (nuC S X M0 M1 M2 v) 4 76:=by
 have k0:=hs.mul hx (e:=2) dd_ dd_ dd_;have k1:=(h0.scale hv.1 dd_).mono (n':=4) (b1:=73) dd_ dd_;have k2:=(h1.scale hv.2.1 dd_).mono (n':=4) (b1:=74) dd_ dd_;have k3:=(h2.scale hv.2.2 dd_).mono (n':=4) (b1:=75) dd_ dd_;exact ((k0.add k1 dd_).add k2 dd_).add k3 dd_
theorem FR {h:Path} (hh:Hv h) {v:A3 W} (hv:Vin v):∃ A B C D,A=lin h.from_.q.x.1 (GP h*h.to_.q.x.1 - h.from_.q.x.1)∧B=lin h.from_.q.y.1 (GP h*h.to_.q.y.1 - h.from_.q.y.1)∧C=lin h.from_.q.z.1 (GP h*h.to_.q.z.1 - h.from_.q.z.1)∧D=lin h.from_.q.t.1 (GP h*h.to_.q.t.1 - h.from_.q.t.1)∧Vp h v A B C D:=by
 have tq:=UG hh.fq.1 hh.tq.1;refine ⟨_,_,_,_,rfl,rfl,rfl,rfl,?_⟩;have hx:=tq.x;have hy:=tq.y;have hz:=tq.z;have ht:=tq.t;generalize lin h.from_.q.x.1 _=A at *;generalize lin h.from_.q.y.1 _=B at *;generalize lin h.from_.q.z.1 _=C at *;generalize lin h.from_.q.t.1 _=D at *;have sc:PB (eT h) (scC A B C D) 3 22:=bz_ hx hy hz ht
 have pos:∀ {a b:W},a.1.natAbs<2 ^ 47→b.1.natAbs<2 ^ 47→PB (dA [a,W.sub b a]) (lin a.1 (b.1 - a.1)) 2 49:=fun {a b} ha hb=>by
  have e:(W.sub b a).1=b.1 - a.1:=wi ⟨by show _≤b.1 - a.1;omega,by show b.1 - a.1≤_;omega⟩;have:=PB.of2 (u:=a) (w:=W.sub b a) (s:=49) oo_ (by rw [e];omega) dd_
  rwa [e] at this
 have px:=pos hh.fx.1 hh.tx.1;have py:=pos hh.fx.2.1 hh.tx.2.1;have pz:=pos hh.fx.2.2 hh.tx.2.2;have d1:=WM hx hy hz ht;have d2:=WM hx hz hy ht;have d3:=WM hx ht hy hz;obtain ⟨t1,t2⟩:=Z3 hy hz hx ht;obtain ⟨t3,t4⟩:=Z3 hy ht hx hz;obtain ⟨t5,t6⟩:=Z3 hz ht hx hy;have n1:=RF hv sc px d1 t2 t3;have n2:=RF hv sc py t1 d2 t6;have n3:=RF hv sc pz t4 t5 d3;have q1:=congrArg (fun t=>t.1.x) (BD h v);have q2:=congrArg (fun t=>t.1.y) (BD h v);have q3:=congrArg (fun t=>t.1.z) (BD h v)
 dsimp only at q1 q2 q3
 rw [← q1] at n1;rw [← q2] at n2;rw [← q3] at n3;exact ⟨sc,dF_ (BD h v),n1,n2,n3,hx,hy,hz,ht⟩
section
variable {p q:Rat} {a b a' b':Nat}
theorem Az.bn (h:Az q a b) (hk:a≤512):e9 q.num:=uI h.n hk
theorem Az.inv (h:Az p a b) (h0:p≠0):Az p⁻¹ b a:=by
 have hn:p.num≠0:=fun h=>h0 (Rat.num_eq_zero.1 h)
 constructor
 ·rw [Rat.num_inv,Int.natAbs_mul,Int.natAbs_sign_of_ne_zero hn,Nat.one_mul,Int.natAbs_natCast];exact h.d
 rw [Rat.den_inv,if_neg hn];exact h.n
theorem Az.div (h:Az p a b) (g:Az q a' b') (h0:q≠0):Az (p / q) (a+b') (b+a'):=by rw [Rat.div_def];exact h.mul (g.inv h0)
theorem LZ {x y:Rt} (hx:x.At p) (hy:y.At q) (hp:Az p a b) (hq:Az q a' b') (h:a+a'≤512) (h':b+b'≤512):(iC x y).At (p*q) :=
 cr_ hx hy ((hp.mul hq).bn h) ((hp.mul hq).bd h')
theorem QN {x y:Rt} (ha:x.At p) (hb:y.At q) (hp:Az p a b) (hq:Az q a' b') (h1:a+b'<512) (h2:a'+b<512) (h3:b+b'≤512):(i7 x y).At (p - q):=by
 unfold i7;rw [Rat.sub_eq_add_neg];exact E8 ha (QL hb) hp hq.neg h1 h2 h3
end
open Go Go.Kn
section
variable {c d:Nat→Int} {n m b b':Nat}
theorem HS (h:Bd c n b) (hn:n≤26) (y:Rat):vl (cR c) y n=e26 c y:=(NX (fun i hi=>by unfold cR;rw [h.z i hi];rfl) hn).symm
theorem vW (c d:Nat→Int) (y:Rat):e26 (fun k=>c k+d k) y=e26 c y+e26 d y:=by
 unfold e26;rw [← dX_]
 congr 1
 funext i
 exact Rat.intCast_add _ _
theorem zH (c:Nat→Int) (a:Int) (y:Rat):e26 (fun k=>c k*a) y=e26 c y*(a:Rat):=by
 unfold e26;rw [Rat.mul_comm,← dZ_]
 congr 1
 funext i
 show ((c i*a:Int):Rat)=(a:Rat)*((c i:Int):Rat)
 rw [Rat.intCast_mul,Rat.mul_comm]
theorem aN_ (c d:Nat→Int) (y:Rat):e26 (fun k=>c k - d k) y=e26 c y - e26 d y:=by
 have:=vW (fun k=>c k - d k) d y;simp only [Int.sub_add_cancel] at this
 grind
theorem rV (hc:Bd c n b) (hd:Bd d m b') (h:n+m≤26) (y:Rat):e26 (conv c d) y=e26 c y*e26 d y:=by
 rw [← HS hc oo_,← HS hd oo_];unfold e26;rw [UO,bH_ (n:=n) (m:=m) (fun i hi=>by unfold cR;rw [hc.z i hi];rfl) (fun i hi=>by unfold cR;rw [hd.z i hi];rfl) h]
theorem sL (u v:Int) (y:Rat):e26 (lin u v) y=(u:Rat)+(v:Rat)*y:=dY_ u v y dd_
end
theorem TT {A B C D:Nat→Int} (hA:Bd A 2 8) (hB:Bd B 2 8) (hC:Bd C 2 8) (hD:Bd D 2 8) (y:Rat):e26 (scC A B C D) y=e26 A y*e26 A y+e26 B y*e26 B y+(e26 C y*e26 C y+e26 D y*e26 D y):=by
 show e26 (fun k=>(fun k=>conv A A k+conv B B k) k+(fun k=>conv C C k+conv D D k) k) y=_
 rw [vW,vW,vW,rV hA hA dd_,rV hB hB dd_,rV hC hC dd_,rV hD hD dd_]
theorem aX_ {P R T y:Rat} (hP:1≤P) (hT:1≤T) (hR:0≤R) (y0:0≤y) (y1:y≤1):0<(1 - y)*(1 - y)*P+2*(y*(1 - y)*R)+y*y*T:=by
 have k1:0≤1 - y:=by grind
 have k2:=Rat.mul_nonneg (Rat.mul_nonneg k1 k1) (show (0:Rat)≤P by grind);have k3:=Rat.mul_nonneg (Rat.mul_nonneg y0 k1) hR;have k4:=Rat.mul_nonneg (Rat.mul_nonneg y0 y0) (show (0:Rat)≤T by grind)
 by_cases h:y=0
 ·subst h;grind
 have yp:0<y:=by grind
 have:=Rat.mul_pos (Rat.mul_pos yp yp) (show (0:Rat)<T by grind)
 grind
theorem P8 {s x y z t u v w r:Int} (h0:¬ (x=0∧y=0∧z=0∧t=0)) (h1:¬ (u=0∧v=0∧w=0∧r=0)) (hs:s=if x*u+y*v+z*w+t*r<0 then -1 else 1) {q:Rat} (q0:0≤q) (q1:q≤1) :
  0<((x:Rat)+((s*u - x:Int):Rat)*q)*((x:Rat)+((s*u - x:Int):Rat)*q)+((y:Rat)+((s*v - y:Int):Rat)*q)*((y:Rat)+((s*v - y:Int):Rat)*q)+(((z:Rat)+((s*w - z:Int):Rat)*q)*((z:Rat)+((s*w - z:Int):Rat)*q)+((t:Rat)+((s*r - t:Int):Rat)*q)*((t:Rat)+((s*r - t:Int):Rat)*q)):=by
 have p0:=Rat.intCast_le_intCast.2 (sq4 h0);have p1:=Rat.intCast_le_intCast.2 (sq4 h1)
 have hr:0≤s*(x*u+y*v+z*w+t*r):=by
  rw [hs];split<;>omega
 have hss:s*s=1:=by rw [hs];split<;>rfl
 have p2:=Rat.intCast_le_intCast.2 hr;have p3:=congrArg (fun t:Int=>(t:Rat)) hss;have L:=aX_ p0 p1 p2 q0 q1;simp only [Rat.intCast_add,Rat.intCast_mul,Rat.intCast_sub] at L p3 ⊢;rw [show ((1:Int):Rat)=1 from rfl] at p3;generalize (s:Rat)=S at *;generalize (x:Rat)=a1 at *;generalize (y:Rat)=a2 at *;generalize (z:Rat)=a3 at *;generalize (t:Rat)=a4 at *;generalize (u:Rat)=b1 at *;generalize (v:Rat)=b2 at *;generalize (w:Rat)=b3 at *;generalize (r:Rat)=b4 at *;refine Rat.not_le.1 fun h=>Rat.not_le.2 L ?_
 have e:∀ {m n:Rat},(m+(S*n - m)*q)*(m+(S*n - m)*q)=(1 - q)*(1 - q)*(m*m)+2*(q*(1 - q)*(S*(m*n)))+q*q*(n*n):=fun {m n}=>by
  have:(S*n)*(S*n)=n*n:=by rw [show (S*n)*(S*n)=(S*S)*(n*n) by grind,p3,Rat.one_mul]
  grind
 rw [e,e,e,e] at h
 grind
open Go Go.Kn
theorem sgp {q:Rat} (h:0<q):q.num.sign=1:=Int.sign_eq_one_of_pos (by
 have:=(Rat.lt_iff _ _).1 h
 simpa using this)
theorem cT_ {a b a' b':Nat} {p q:Rat} {x y:Rt} (hx:x.At p) (hy:y.At q) (h0:q≠0) (hp:Az p a b) (hq:Az q a' b') (h:a+b'≤512) (h':b+a'≤512):(lK x y).At (p / q):=by
 unfold lK;rw [sH,wT hy,Rat.div_def,CV,WE];exact LZ hx (cq_ hy h0) hp (hq.inv h0) h h'
theorem cG_ (h:Path) (v:A3 W) (t:Rt):i8 h v t=⟨lK (fG (bL h v).1.x t) (fG (bL h v).2 t),lK (fG (bL h v).1.y t) (fG (bL h v).2 t),lK (fG (bL h v).1.z t) (fG (bL h v).2 t)⟩:=rfl
section
variable {A B C D:Nat→Int}
theorem MI (hA:Bd A 2 8) (hB:Bd B 2 8) (hC:Bd C 2 8) (hD:Bd D 2 8) (y:Rat):e26 (dgC A B C D) y=e26 A y*e26 A y+e26 B y*e26 B y - (e26 C y*e26 C y+e26 D y*e26 D y):=by
 show e26 (fun k=>(fun k=>conv A A k+conv B B k) k - (fun k=>conv C C k+conv D D k) k) y=_
 rw [aN_,vW,vW,rV hA hA dd_,rV hB hB dd_,rV hC hC dd_,rV hD hD dd_]
theorem C9 (hA:Bd A 2 8) (hB:Bd B 2 8) (hC:Bd C 2 8) (hD:Bd D 2 8) (s:Int) (y:Rat):e26 (twC A B C D s) y=(e26 A y*e26 B y+e26 C y*e26 D y*(s:Rat))*2:=by
 show e26 (fun k=>(fun k=>(fun k=>conv A B k) k+(fun k=>conv C D k*s) k) k*2) y=_
 rw [zH,vW,zH,rV hA hB dd_,rV hC hD dd_];rfl
end
theorem MY {S X M0 M1 M2:Nat→Int} {v:A3 W} {n m f g:Nat} (hs:Bd S n f) (hx:Bd X m g) (hn:n+m≤26) (y:Rat):e26 (nuC S X M0 M1 M2 v) y=e26 S y*e26 X y+e26 M0 y*(v.x.1:Rat)+e26 M1 y*(v.y.1:Rat)+e26 M2 y*(v.z.1:Rat):=by
 show e26 (fun k=>(fun k=>(fun k=>(fun k=>conv S X k) k+(fun k=>M0 k*v.x.1) k) k+(fun k=>M1 k*v.y.1) k) k+(fun k=>M2 k*v.z.1) k) y=_
 rw [vW,vW,vW,zH,zH,zH,rV hs hx hn]
theorem QW {n s:List I} {X S:Nat→Int} {t:Rt} {q:Rat} (hn:PB n X 4 76) (hs:PB s S 3 22) (ht:t.At q) (sq:Sz q 12) (pos:0<e26 S q):(lK (fG n t) (fG s t)).At (e26 X q / e26 S q)∧Az (e26 X q / e26 S q) 153 99:=by
 have dd:(q.den:Int).natAbs<2 ^ 12:=by rw [Int.natAbs_natCast];exact sq.d
 have hx:=@QU q;have dp:(0:Int)<q.den:=uT;have tS:=Q7 (c:=S) (L:=3) hx dp;have tX:=Q7 (c:=X) (L:=4) hx dp;rw [HS hs.bd dd_,show 3 - 1=2 from rfl] at tS;rw [HS hn.bd dd_,show 4 - 1=3 from rfl] at tX;have lS:=O1 (c:=S) (N:=q.num) (D:=q.den) (L:=3) hs.bd.b sq.n dd 3;have lX:=O1 (c:=X) (N:=q.num) (D:=q.den) (L:=4) hn.bd.b sq.n dd 4
 have hs0:e26 S q≠0:=by grind
 have vX:=LY (e:=2) hn.po hn.bd ht sq dd_ dd_;have vS:=LY (e:=2) hs.po hs.bd ht sq dd_ dd_;rw [HS hn.bd dd_] at vX;rw [HS hs.bd dd_] at vS
 have zX:Az (e26 X q) 128 37:=SJ (n:=Go.Num.hv X q.num q.den 4 4) (d:=(q.den:Int) ^ 3) (by rw [tX,Rat.intCast_pow]) (Int.pow_pos dp) (Nat.lt_of_le_of_lt lX dd_) (by
  rw [Int.natAbs_pow]
  exact Nat.lt_of_lt_of_le (Nat.pow_lt_pow_left dd dd_) dd_)
 have zS:Az (e26 S q) 62 25:=SJ (n:=Go.Num.hv S q.num q.den 3 3) (d:=(q.den:Int) ^ 2) (by rw [tS,Rat.intCast_pow]) (Int.pow_pos dp) (Nat.lt_of_le_of_lt lS dd_) (by
  rw [Int.natAbs_pow]
  exact Nat.lt_of_lt_of_le (Nat.pow_lt_pow_left dd dd_) dd_)
 exact ⟨cT_ vX vS hs0 zX zS dd_ dd_,zX.div zS hs0⟩
theorem RS {h:Path} (hh:Hv h) {v:A3 W} (hv:Vin v) {t:Rt} {q:Rat} (ht:t.At q) (sq:Sz q 12) (q0:0≤q) (q1:q≤1):∃ a b c d,Pq (GP h) h q a b c d∧0<rqn a b c d ∧
  Pv (i8 h v t) (CI 1 h.from_.x.x.1 h.to_.x.x.1 q+rqx a b c d v.x.1 v.y.1 v.z.1 / rqn a b c d) (CI 1 h.from_.x.y.1 h.to_.x.y.1 q+rqy a b c d v.x.1 v.y.1 v.z.1 / rqn a b c d) (CI 1 h.from_.x.z.1 h.to_.x.z.1 q+rqz a b c d v.x.1 v.y.1 v.z.1 / rqn a b c d) ∧
  Pz (CI 1 h.from_.x.x.1 h.to_.x.x.1 q+rqx a b c d v.x.1 v.y.1 v.z.1 / rqn a b c d) (CI 1 h.from_.x.y.1 h.to_.x.y.1 q+rqy a b c d v.x.1 v.y.1 v.z.1 / rqn a b c d) (CI 1 h.from_.x.z.1 h.to_.x.z.1 q+rqz a b c d v.x.1 v.y.1 v.z.1 / rqn a b c d):=by
 obtain ⟨A,B,C,D,hA,hB,hC,hD,hx⟩:=FR hh hv;have tx:=hx.a;have ty:=hx.b;have tz:=hx.c;have tt:=hx.d;have sc:=TT tx.bd ty.bd tz.bd tt.bd q
 have es:GP h=if h.from_.q.x.1*h.to_.q.x.1+h.from_.q.y.1*h.to_.q.y.1+h.from_.q.z.1*h.to_.q.z.1+h.from_.q.t.1*h.to_.q.t.1<0 then -1 else 1:=rfl
 have pos:0<e26 (scC A B C D) q:=by
  rw [sc,hA,hB,hC,hD,sL,sL,sL,sL];exact P8 hh.fq.2 hh.tq.2 es q0 q1
 have lb:∀ {u w:Int},u.natAbs<2 ^ 47→w.natAbs<2 ^ 47→Bd (lin u (w - u)) 2 49:=fun hu hw=>X8 oo_ oo_
 have hs2:PB (bL h v).2 (scC A B C D) 3 22:=by rw [hx.s2];exact hx.s
 obtain ⟨d1,z1⟩:=QW hx.x hs2 ht sq pos;obtain ⟨d2,z2⟩:=QW hx.y hs2 ht sq pos;obtain ⟨d3,z3⟩:=QW hx.z hs2 ht sq pos;rw [MY hx.s.bd (lb hh.fx.1 hh.tx.1) dd_,MI tx.bd ty.bd tz.bd tt.bd,C9 ty.bd tz.bd tx.bd tt.bd,C9 ty.bd tt.bd tx.bd tz.bd] at d1 z1;rw [MY hx.s.bd (lb hh.fx.2.1 hh.tx.2.1) dd_,MI tx.bd tz.bd ty.bd tt.bd,C9 ty.bd tz.bd tx.bd tt.bd,C9 tz.bd tt.bd tx.bd ty.bd] at d2 z2;rw [MY hx.s.bd (lb hh.fx.2.2 hh.tx.2.2) dd_,MI tx.bd tt.bd ty.bd tz.bd,C9 ty.bd tt.bd tx.bd tz.bd,C9 tz.bd tt.bd tx.bd ty.bd] at d3 z3;rw [sL] at d1 d2 d3 z1 z2 z3
 have hs0:e26 (scC A B C D) q≠0:=by grind
 have eS:e26 (scC A B C D) q=rqn (e26 A q) (e26 B q) (e26 C q) (e26 D q):=sc;rw [eS] at d1 d2 d3 z1 z2 z3 hs0 pos
 have fr:∀ {n x r:Rat},n≠0→(n*x+r) / n=x+r / n:=fun {n x r} h=>by
  have e1:r / n*n=r:=Rat.div_mul_cancel h;have e2:(n*x+r) / n*n=n*x+r:=Rat.div_mul_cancel h
  have:((n*x+r) / n - (x+r / n))*n=0:=by grind
  rcases Rat.mul_eq_zero.1 this with k|k
  ·grind
  exact absurd k h
 have asc:∀ {n x r1 r2 r3:Rat},n*x+r1+r2+r3=n*x+(r1+r2+r3):=by grind
 rw [asc,fr hs0] at d1 d2 d3 z1 z2 z3
 have eq1:∀ {u w:Int},(u:Rat)+((w - u:Int):Rat)*q=CI 1 u w q:=fun {u w}=>by unfold CI;rw [Int.one_mul]
 rw [eq1] at d1 d2 d3 z1 z2 z3;have c1:((1:Int):Rat)=1:=rfl;have c2:((-1:Int):Rat) = -1:=rfl;rw [c1,c2] at d1 d2 d3 z1 z2 z3;refine ⟨e26 A q,e26 B q,e26 C q,e26 D q,⟨by rw [hA,sL];rfl,by rw [hB,sL];rfl,by rw [hC,sL];rfl,by rw [hD,sL];rfl⟩,pos,?_,z1,z2,z3⟩;rw [cG_];refine ⟨?_,?_,?_⟩
 ·dsimp only;exact d1
 ·dsimp only;exact d2
 dsimp only;exact d3
open Go Go.Kn
section
variable {n t:A3 W} {b c:Int}
end
section
variable {a b:A3 Rt} {x y z u v w:Rat} {A B C D:Nat}
theorem X2 (ha:V3 a x y z A B) (hb:V3 b u v w C D) (h1:A+C+2*(B+D)+2≤512) (h2:3*(B+D)≤512):(rD a b).At (x*u+y*v+z*w)∧Az (x*u+y*v+z*w) (A+C+2*(B+D)+2) (3*(B+D)):=by
 have m1:=LZ ha.hx hb.hx ha.sx hb.sx oo_ oo_;have m2:=LZ ha.hy hb.hy ha.sy hb.sy oo_ oo_;have m3:=LZ ha.hz hb.hz ha.sz hb.sz oo_ oo_;have s1:=ha.sx.mul hb.sx;have s2:=ha.sy.mul hb.sy;have s3:=ha.sz.mul hb.sz;have p1:=E8 m1 m2 s1 s2 oo_ oo_ oo_;have q1:=s1.add (c:=A+C+(B+D)+1) s2 oo_ oo_;have p2:=E8 p1 m3 q1 s3 oo_ oo_ oo_;have q2:=q1.add (c:=A+C+2*(B+D)+2) s3 oo_ oo_;exact ⟨p2,q2.mono (Nat.le_refl _) oo_⟩
end
open Go Go.Kn
section
variable {a b c d x y z u v w:Rat}
theorem dy_:rqx a b c d x y z - rqx a b c d u v w=rqx a b c d (x - u) (y - v) (z - w)∧rqy a b c d x y z - rqy a b c d u v w=rqy a b c d (x - u) (y - v) (z - w)∧rqz a b c d x y z - rqz a b c d u v w=rqz a b c d (x - u) (y - v) (z - w):=by
 unfold rqx rqy rqz;refine ⟨?_,?_,?_⟩<;>grind
end
theorem IO {u w:Int} {q:Rat} (q0:0≤q) (q1:q≤1):((min u w:Int):Rat)≤CI 1 u w q∧CI 1 u w q≤((max u w:Int):Rat):=by
 unfold CI;rw [Int.one_mul,Rat.intCast_sub];rcases Int.le_total u w with h|h
 ·rw [Int.min_eq_left h,Int.max_eq_right h]
  have k:(u:Rat)≤(w:Rat):=Rat.intCast_le_intCast.2 h;have h1:=Rat.mul_nonneg (show (0:Rat)≤(w:Rat) - u by grind) q0;have h2:=Rat.mul_nonneg (show (0:Rat)≤(w:Rat) - u by grind) (show 0≤1 - q by grind)
  constructor<;>grind
 rw [Int.min_eq_right h,Int.max_eq_left h];have k:(w:Rat)≤(u:Rat):=Rat.intCast_le_intCast.2 h;have h1:=Rat.mul_nonneg (show (0:Rat)≤(u:Rat) - w by grind) q0;have h2:=Rat.mul_nonneg (show (0:Rat)≤(u:Rat) - w by grind) (show 0≤1 - q by grind)
 constructor<;>grind
open Go Go.Kn
def dz_ (a b c d:Int):Int:=a*a+b*b+(c*c+d*d)
def dA_ (a b c d x y z:Int):Int:=(a*a+b*b - (c*c+d*d))*x+(b*c - a*d)*(2*y)+(b*d+a*c)*(2*z)
def dB_ (a b c d x y z:Int):Int:=(b*c+a*d)*(2*x)+(a*a+c*c - (b*b+d*d))*y+(c*d - a*b)*(2*z)
def dC_ (a b c d x y z:Int):Int:=(b*d - a*c)*(2*x)+(c*d+a*b)*(2*y)+(a*a+d*d - (b*b+c*c))*z
theorem br_ {D A B C F x y z:Int} {a b c d:Rat} (ha:(D:Rat)*a=(A:Rat)) (hb:(D:Rat)*b=(B:Rat)) (hc:(D:Rat)*c=(C:Rat)) (hd:(D:Rat)*d=(F:Rat)) :
  ((dz_ A B C F:Int):Rat)=(D:Rat)*(D:Rat)*rqn a b c d∧((dA_ A B C F x y z:Int):Rat)=(D:Rat)*(D:Rat)*rqx a b c d x y z∧((dB_ A B C F x y z:Int):Rat)=(D:Rat)*(D:Rat)*rqy a b c d x y z∧((dC_ A B C F x y z:Int):Rat)=(D:Rat)*(D:Rat)*rqz a b c d x y z:=by
 have c2:((2:Int):Rat)=2:=rfl;unfold dz_ dA_ dB_ dC_ rqn rqx rqy rqz;simp only [Rat.intCast_add,Rat.intCast_mul,Rat.intCast_sub,c2,← ha,← hb,← hc,← hd];refine ⟨?_,?_,?_,?_⟩<;>grind
theorem bq_ {A B C F x y z:Int} (hA:A.natAbs<2 ^ 21) (hB:B.natAbs<2 ^ 21) (hC:C.natAbs<2 ^ 21) (hF:F.natAbs<2 ^ 21) (hx:x.natAbs<2 ^ 20) (hy:y.natAbs<2 ^ 20) (hz:z.natAbs<2 ^ 20) :
  (dz_ A B C F).natAbs<2 ^ 45∧(dA_ A B C F x y z).natAbs<2 ^ 67∧(dB_ A B C F x y z).natAbs<2 ^ 67∧(dC_ A B C F x y z).natAbs<2 ^ 67:=by
 have m:∀ {u v:Int},u.natAbs<2 ^ 21→v.natAbs<2 ^ 21→(u*v).natAbs<2 ^ 42:=fun h g=>o7 h g;have s4:∀ {p q r s:Int},p.natAbs<2 ^ 42→q.natAbs<2 ^ 42→r.natAbs<2 ^ 42→s.natAbs<2 ^ 42→(p+q+(r+s)).natAbs<2 ^ 45∧(p+q - (r+s)).natAbs<2 ^ 45:=fun h g k l=>⟨by omega,by omega⟩;have s2:∀ {p q:Int},p.natAbs<2 ^ 42→q.natAbs<2 ^ 42→(p+q).natAbs<2 ^ 44∧(p - q).natAbs<2 ^ 44:=fun h g=>⟨by omega,by omega⟩;have k1:∀ {p u:Int},p.natAbs<2 ^ 45→u.natAbs<2 ^ 20→(p*u).natAbs<2 ^ 65:=fun h g=>o7 h g;have k2:∀ {p u:Int},p.natAbs<2 ^ 44→u.natAbs<2 ^ 20→(p*(2*u)).natAbs<2 ^ 65:=fun h g=>o7 h (b':=21) oo_
 have a3:∀ {p q r:Int},p.natAbs<2 ^ 65→q.natAbs<2 ^ 65→r.natAbs<2 ^ 65→(p+q+r).natAbs<2 ^ 67:=fun h g k=>by omega
 exact ⟨(s4 (m hA hA) (m hB hB) (m hC hC) (m hF hF)).1,a3 (k1 (s4 (m hA hA) (m hB hB) (m hC hC) (m hF hF)).2 hx) (k2 (s2 (m hB hC) (m hA hF)).2 hy) (k2 (s2 (m hB hF) (m hA hC)).1 hz),a3 (k2 (s2 (m hB hC) (m hA hF)).1 hx) (k1 (s4 (m hA hA) (m hC hC) (m hB hB) (m hF hF)).2 hy) (k2 (s2 (m hC hF) (m hA hB)).2 hz),a3 (k2 (s2 (m hB hF) (m hA hC)).2 hx) (k2 (s2 (m hC hF) (m hA hB)).1 hy) (k1 (s4 (m hA hA) (m hF hF) (m hB hB) (m hC hC)).2 hz)⟩
theorem RY {D N M:Int} {n r:Rat} {i j:Nat} (hD:(D:Rat)≠0) (hn:0<n) (h1:(N:Rat)=(D:Rat)*(D:Rat)*n) (h2:(M:Rat)=(D:Rat)*(D:Rat)*r) (bN:N.natAbs<2 ^ j) (bM:M.natAbs<2 ^ i):Az (r / n) i j:=by
 have n0:n≠0:=by grind
 have dd:0<(D:Rat)*(D:Rat):=by
  have:=TR (D:Rat)
  have:(D:Rat)*(D:Rat)≠0:=fun h=>by rcases Rat.mul_eq_zero.1 h with k|k<;>exact hD k
  grind
 have Np:0<N:=Rat.intCast_pos.1 (by rw [h1];exact Rat.mul_pos dd hn);have e:r / n*n=r:=Rat.div_mul_cancel n0;exact SJ (n:=M) (d:=N) (by rw [h1,h2];grind) Np bM bN
theorem EV {s u w:Int} {q:Rat} (hs:s=1∨s = -1) (hu:u.natAbs<65) (hw:w.natAbs<65) (sq:Sz q 12):∃ A:Int,((q.den:Int):Rat)*CI s u w q=(A:Rat)∧A.natAbs<2 ^ 21:=by
 refine ⟨u*q.den+(s*w - u)*q.num,?_,?_⟩
 ·have:=@QU q
  unfold CI;rw [Rat.intCast_add,Rat.intCast_mul,Rat.intCast_mul,← this];grind
 have dd:(q.den:Int).natAbs<2 ^ 12:=by rw [Int.natAbs_natCast];exact sq.d
 have h1:=o7 (u:=u) (b:=7) oo_ dd;have h2:=o7 (u:=s*w - u) (b:=8) (by rcases hs with rfl|rfl<;>omega) sq.n;omega
theorem MJ {X p r n:Rat}:(X+p / n) - (X+r / n)=(p - r) / n:=by
 rw [Rat.div_def,Rat.div_def,Rat.div_def];grind
theorem SH {a b:W} (ha:a.1.natAbs<2 ^ 19) (hb:b.1.natAbs<2 ^ 19):(W.sub a b).1=a.1 - b.1:=wi ⟨by show _≤a.1 - b.1;omega,by show a.1 - b.1≤_;omega⟩
theorem ZA {h:Path} (hh:Hv h) {v w:A3 W} (hv:Vin v) (hw:Vin w) {t:Rt} {q:Rat} (ht:t.At q) (sq:Sz q 12) (q0:0≤q) (q1:q≤1) :
  fJ (jQ (i8 h v t) (i8 h w t)) (jQ (i8 h v t) (i8 h w t))=fJ (kG ⟨W.sub v.x w.x,W.sub v.y w.y,W.sub v.z w.z⟩) (kG ⟨W.sub v.x w.x,W.sub v.y w.y,W.sub v.z w.z⟩):=by
 obtain ⟨a,b,c,d,pq,np,P,Z⟩:=RS hh hv ht sq q0 q1;obtain ⟨a',b',c',d',pq',np',P',Z'⟩:=RS hh hw ht sq q0 q1;have ea:a'=a:=pq'.a.trans pq.a.symm;have eb:b'=b:=pq'.b.trans pq.b.symm;have ec:c'=c:=pq'.c.trans pq.c.symm;have ed:d'=d:=pq'.d.trans pq.d.symm;subst ea;subst eb;subst ec;subst ed
 have hs:GP h=1∨GP h = -1:=by unfold GP;split<;>simp
 obtain ⟨f1,f2,f3,f4⟩:=hh.fq.1;obtain ⟨g1,g2,g3,g4⟩:=hh.tq.1;obtain ⟨A,hA,bA⟩:=EV hs f1 g1 sq;obtain ⟨B,hB,bB⟩:=EV hs f2 g2 sq;obtain ⟨C,hC,bC⟩:=EV hs f3 g3 sq;obtain ⟨F,hF,bF⟩:=EV hs f4 g4 sq
 have hA':((q.den:Int):Rat)*a'=(A:Rat):=by rw [pq.a];exact hA
 have hB':((q.den:Int):Rat)*b'=(B:Rat):=by rw [pq.b];exact hB
 have hC':((q.den:Int):Rat)*c'=(C:Rat):=by rw [pq.c];exact hC
 have hF':((q.den:Int):Rat)*d'=(F:Rat):=by rw [pq.d];exact hF
 have sx:=SH hv.1 hw.1;have sy:=SH hv.2.1 hw.2.1;have sz:=SH hv.2.2 hw.2.2
 have bx:(v.x.1 - w.x.1).natAbs<2 ^ 20:=by have:=hv.1;have:=hw.1;omega
 have by':(v.y.1 - w.y.1).natAbs<2 ^ 20:=by have:=hv.2.1;have:=hw.2.1;omega
 have bz:(v.z.1 - w.z.1).natAbs<2 ^ 20:=by have:=hv.2.2;have:=hw.2.2;omega
 obtain ⟨i0,i1,i2,i3⟩:=br_ (x:=v.x.1 - w.x.1) (y:=v.y.1 - w.y.1) (z:=v.z.1 - w.z.1) hA' hB' hC' hF'
 obtain ⟨j0,j1,j2,j3⟩:=bq_ bA bB bC bF bx by' bz
 have dz:((q.den:Int):Rat)≠0:=fun h=>by have:=Rat.intCast_eq_zero_iff.1 h;have:=@uT q;omega
 have z1:=RY dz np i0 i1 j0 j1;have z2:=RY dz np i0 i2 j0 j2;have z3:=RY dz np i0 i3 j0 j3;have m1:=QN P.x P'.x Z.x Z'.x dd_ dd_ dd_;have m2:=QN P.y P'.y Z.y Z'.y dd_ dd_ dd_;have m3:=QN P.z P'.z Z.z Z'.z dd_ dd_ dd_;obtain ⟨r1,r2,r3⟩:=@dy_ a' b' c' d' v.x.1 v.y.1 v.z.1 w.x.1 w.y.1 w.z.1;rw [MJ,r1,← Rat.intCast_sub,← Rat.intCast_sub,← Rat.intCast_sub] at m1;rw [MJ,r2,← Rat.intCast_sub,← Rat.intCast_sub,← Rat.intCast_sub] at m2;rw [MJ,r3,← Rat.intCast_sub,← Rat.intCast_sub,← Rat.intCast_sub] at m3;have len:=ZE (a:=a') (b:=b') (c:=c') (d:=d') (x:=((v.x.1 - w.x.1:Int):Rat)) (y:=((v.y.1 - w.y.1:Int):Rat)) (z:=((v.z.1 - w.z.1:Int):Rat)) np;generalize rqx a' b' c' d' ((v.x.1 - w.x.1:Int):Rat) ((v.y.1 - w.y.1:Int):Rat) ((v.z.1 - w.z.1:Int):Rat) / rqn a' b' c' d'=R1 at *;generalize rqy a' b' c' d' ((v.x.1 - w.x.1:Int):Rat) ((v.y.1 - w.y.1:Int):Rat) ((v.z.1 - w.z.1:Int):Rat) / rqn a' b' c' d'=R2 at *;generalize rqz a' b' c' d' ((v.x.1 - w.x.1:Int):Rat) ((v.y.1 - w.y.1:Int):Rat) ((v.z.1 - w.z.1:Int):Rat) / rqn a' b' c' d'=R3 at *
 have V:V3 (oN (i8 h v t) (i8 h w t)) R1 R2 R3 67 45:=by
  unfold oN;refine ⟨?_,?_,?_,z1,z2,z3⟩
  ·dsimp only;exact m1
  ·dsimp only;exact m2
  dsimp only;exact m3
 have I1:=(X2 V V dd_ dd_).1;have U:=of3 (n:=⟨W.sub v.x w.x,W.sub v.y w.y,W.sub v.z w.z⟩) (A:=20) (by simp only;rw [sx];exact bx) (by simp only;rw [sy];exact by') (by simp only;rw [sz];exact bz);have I2:=(X2 U U dd_ dd_).1;simp only at I2;rw [sx,sy,sz,← len] at I2;rw [N0,N0,WD,WN];exact LX I1 I2
theorem cM_ {h:Path} (hh:Hv h) {v:A3 W} (hv:Vin v) {t:Rt} {q:Rat} (ht:t.At q) (sq:Sz q 12) (q0:0≤q) (q1:q≤1) {r:Int} (r0:0≤r) (hr:v.x.1*v.x.1+v.y.1*v.y.1+v.z.1*v.z.1≤r*r) :
  Bx (i8 h v t) ⟨min h.from_.x.x.1 h.to_.x.x.1 - r,min h.from_.x.y.1 h.to_.x.y.1 - r,min h.from_.x.z.1 h.to_.x.z.1 - r⟩ ⟨max h.from_.x.x.1 h.to_.x.x.1+r,max h.from_.x.y.1 h.to_.x.y.1+r,max h.from_.x.z.1 h.to_.x.z.1+r⟩:=by
 obtain ⟨a,b,c,d,pq,np,P,Z⟩:=RS hh hv ht sq q0 q1;obtain ⟨l1,l2,l3⟩:=TQ (a:=a) (b:=b) (c:=c) (d:=d) (x:=v.x.1) (y:=v.y.1) (z:=v.z.1) np;have hr':=eY_ hr;have rr:(0:Rat)≤(r:Rat):=Rat.intCast_nonneg.2 r0;have s1:=LF rr (Rat.le_trans l1 hr');have s2:=LF rr (Rat.le_trans l2 hr');have s3:=LF rr (Rat.le_trans l3 hr');have b1:=IO (u:=h.from_.x.x.1) (w:=h.to_.x.x.1) q0 q1;have b2:=IO (u:=h.from_.x.y.1) (w:=h.to_.x.y.1) q0 q1;have b3:=IO (u:=h.from_.x.z.1) (w:=h.to_.x.z.1) q0 q1;refine ⟨⟨_,P.x,?_,?_⟩,⟨_,P.y,?_,?_⟩,⟨_,P.z,?_,?_⟩⟩<;>simp only [Rat.intCast_sub,Rat.intCast_add]<;>grind
theorem RG {q:Rat} (q0:0≤q) (q1:q≤1):0≤q.num∧q.num≤q.den:=by
 refine ⟨Rat.num_nonneg.2 q0,?_⟩;have:=(Rat.le_iff _ _).1 q1
 simpa using this
theorem SF {x:Rt} (h:jK x=true):∃ q,x.At q∧Sz q 12∧0≤q∧q≤1:=by
 unfold jK at h;simp only [Bool.and_eq_true,decide_eq_true_eq] at h;obtain ⟨g,h1,h2,h3⟩:=h;obtain ⟨q,hq⟩:=aU_ g;have i:=At.is hq
 have q0:0≤q:=by
  rw [L0 hq] at h1;exact Rat.num_nonneg.1 (Int.sign_nonneg_iff.1 h1)
 have q1:q≤1:=by
  rw [← ai_,co_ hq (FQ (wl 1))] at h2;exact h2
 rw [i.ed,dQ] at h3;have hd:=az_ i.hd h3;rw [Int.natAbs_natCast] at hd;have hd:q.den<2 ^ 12:=hd;obtain ⟨n0,n1⟩:=RG q0 q1;exact ⟨q,hq,⟨by omega,hd⟩,q0,q1⟩
theorem cg_ {v:A3 W} (h:dZ v=true):Vin v:=by
 unfold dZ at h
 cases h1:(decide (262144<v.x.1)||decide (v.x.1<(-262144)))
 ·cases h2:(decide (262144<v.y.1)||decide (v.y.1<(-262144)))
  ·cases h3:(decide (262144<v.z.1)||decide (v.z.1<(-262144)))
   ·simp only [Bool.or_eq_false_iff,decide_eq_false_iff_not] at h1 h2 h3
    exact ⟨by omega,by omega,by omega⟩
   rw [h1,h2,h3] at h;cases h
  rw [h1,h2] at h;cases h
 rw [h1] at h;cases h
theorem PY {h:Path} (hh:Hv h) {t:Rt} {q:Rat} (ht:t.At q) (sq:Sz q 12) (q0:0≤q) (q1:q≤1):iU (eT h) t=true:=by
 obtain ⟨A,B,C,D,hA,hB,hC,hD,hx⟩:=FR hh (v:=A30) ⟨by decide,by decide,by decide⟩;have tx:=hx.a;have ty:=hx.b;have tz:=hx.c;have tt:=hx.d;have sc:=TT tx.bd ty.bd tz.bd tt.bd q
 have es:GP h=if h.from_.q.x.1*h.to_.q.x.1+h.from_.q.y.1*h.to_.q.y.1+h.from_.q.z.1*h.to_.q.z.1+h.from_.q.t.1*h.to_.q.t.1<0 then -1 else 1:=rfl
 have pos:0<e26 (scC A B C D) q:=by
  rw [sc,hA,hB,hC,hD,sL,sL,sL,sL];exact P8 hh.fq.2 hh.tq.2 es q0 q1
 have vS:=LY (e:=2) hx.s.po hx.s.bd ht sq dd_ dd_;rw [HS hx.s.bd dd_] at vS;unfold iU;rw [← WG t hx.s.po.l3,L0 vS];rw [sgp pos];rfl
theorem IW {h:Path} (hh:Hv h) {c:List (A3 W)} (hc:∀ v∈c,EB v) {t:Rt} {q:Rat} (ht:t.At q) (sq:Sz q 12) (q0:0≤q) (q1:q≤1) (b u:A3 W) (a1 a2 a3 a4:A3 Rt):∀ l:List (A3 W),(∀ v∈l,v∈c)→fC h b u c t a1 a2 a3 a4 l = .inl ()
 | [],_=>rfl
 | x::l,hl=>by
  unfold fC;obtain ⟨⟨r0,r1⟩,hr⟩:=FJ hc;have hx:=hl x List.mem_cons_self;have B:=cM_ hh (cf_ (hc x hx)) ht sq q0 q1 r0 (hr x hx);obtain ⟨⟨⟨x1,x2⟩,y1,y2⟩,z1,z2⟩:=SN hh hc
  have no:∀ {lo hi:W} {m M:Int} {r:Rt},lo.1=m→hi.1=M→(∃ p,r.At p∧(m:Rat)≤p∧p≤(M:Rat))→(decide (0<(cH (aJ lo) r).1)||decide (0<(cH r (aJ hi)).1))=false:=fun {lo hi m M r} e1 e2 ⟨p,hp,p1,p2⟩=>by
   have c1:¬ 0<(cH (aJ lo) r).1:=by
    rw [N1,WA (FQ lo) hp,e1];grind
   have c2:¬ 0<(cH r (aJ hi)).1:=by
    rw [N1,WA hp (FQ hi),e2];grind
   rw [decide_eq_false c1,decide_eq_false c2];rfl
  dsimp only
  rw [no x1 x2 B.x,no y1 y2 B.y,no z1 z2 B.z];simp only [cond_false];exact IW hh hc ht sq q0 q1 b u a1 a2 a3 a4 l fun v hv=>hl v (List.mem_cons_of_mem _ hv)
attribute [local irreducible] fH
theorem UI (hs:fH=true) (h:Path) (b u:A3 W) (c:List (A3 W)) (x:Rt):fB h b u c x=true:=by
 unfold fB
 cases hc:(((fT h).1 != 0)||(!(dZ b)||(!(dZ u)||(!(jK x)||(!(e8 c))))))
 case true=>rw [cond_true];exact hs
 simp only [Bool.or_eq_false_iff,Bool.not_eq_false'] at hc;obtain ⟨c1,c2,c3,c4,c5⟩:=hc
 have c0:(fT h).1=0:=by simpa using c1
 have hh:=ep_ c0;obtain ⟨q,hx,sq,q0,q1⟩:=SF c4;have hm:=SU c5;have er:=ZA hh (cg_ c2) (cg_ c3) hx sq q0 q1;rw [cond_false]
 dsimp only
 rw [er,IW hh hm hx sq q0 q1 b u _ _ _ _ c (fun v hv=>hv)];generalize fJ (kG ⟨W.sub b.x u.x,W.sub b.y u.y,W.sub b.z u.z⟩) (kG ⟨W.sub b.x u.x,W.sub b.y u.y,W.sub b.z u.z⟩)=r
 have eb:(decide (r.n=r.n)&&decide (r.d=r.d))=true:=by rw [decide_eq_true O,decide_eq_true O];rfl
 rewrite [eb]
 show (fH&&iU (eT h) x)=true
 rw [hs,PY hh hx sq q0 q1];rfl
end Go.Num
