/- Lemmas: what they ask stands in their statements. -/
import Derived.Test.YtkjjponijamaoaaGreatDoorJOx
import Derived.ChangeArms
set_option linter.unusedSimpArgs false
set_option linter.unusedVariables false
set_option maxRecDepth 20000
namespace Go.Num
open Go Go.Kn
theorem HN (l:List I):gR l=bD l:=by rw [MU,xP]
def pw (d:I):Nat→I
 | 0=>E (Z.of 1)
 | k+1=>E (Z.mul (pw d k).dec d.dec)
theorem RH (n:Nat) (f:Nat→I):(List.range (n+1)).map f=(List.range n).map f++[f n]:=by rw [List.range_succ,List.map_append];rfl
theorem LB (d:I) (n:Int):∀ (k m:Nat),n.toNat - (m+1)<k→j3 d n k ((List.range (m+1)).map (pw d))=(List.range (max n.toNat (m+1))).map (pw d)
 | 0,m,h=>absurd h (Nat.not_lt_zero _)
 | k+1,m,h=>by
  unfold j3
  have hl:((List.range (m+1)).map (pw d)).length=m+1:=by simp
  by_cases hc:((m+1:Nat):Int)<n
  ·rw [hl,decide_eq_true hc,cond_true]
   have e1:((List.range (m+1)).map (pw d)).getD (m+1 - 1) I0=pw d m:=by simp [List.getD]
   rw [e1,show E (Z.mul (pw d m).dec d.dec)=pw d (m+1) from rfl,← RH,LB d n k (m+1) oo_];rw [show max n.toNat (m+1+1)=max n.toNat (m+1) by omega]
  rw [hl,decide_eq_false hc,cond_false,show max n.toNat (m+1)=m+1 by omega]
theorem UL (d:I) (n:Int):eA d n=(List.range (max n.toNat 1)).map (pw d):=LB d n _ 0 oo_
theorem PD (d:I) (k:Int):∀ (f i:Nat),k.toNat - i<f→i≤k.toNat→(i1 d k f i (pw d i)).2=pw d k.toNat
 | 0,i,h,_=>absurd h (Nat.not_lt_zero _)
 | f+1,i,h,hi=>by
  unfold i1
  by_cases hc:(i:Int)<k
  ·rw [decide_eq_true hc,cond_true]
   exact PD d k f (i+1) oo_ oo_
  rw [decide_eq_false hc,cond_false,show k.toNat=i by omega]
theorem N0 (d:I) (k:Int):gO d k=pw d k.toNat:=PD d k _ 0 oo_ (Nat.zero_le _)
theorem IM (d:I) (n:Int) {k:Nat} (h:k<max n.toNat 1):(eA d n).getD k I0=pw d k:=by
 rw [UL];simp [List.getD,h]
theorem JD (p:List I) (x:Rt):∀ (f:Nat) (i:Int) (m:I),i<(p.length:Int)→(mK p x f i m).2=(i3 p x f i m).2
 | 0,i,m,h=>rfl
 | f+1,i,m,h=>by
  unfold mK i3
  by_cases hi:0≤i
  ·rw [decide_eq_true hi]
   simp only [cond_true];rw [IM _ _ (show p.length - 1 - i.toNat<max (p.length:Int).toNat 1 by omega),N0,show ((p.length:Int) - 1 - i).toNat=p.length - 1 - i.toNat by omega];exact JD p x f (i - 1) _ oo_
  rw [decide_eq_false hi];rfl
theorem c6_ (x:Rt):k8 [x]=aS x:=by
 unfold k8 kN pR
 have e:k7 [x] (fun y=>lY y) ([x].length+1) 0=bif aS x then .inl 1 else .inr (W.cv 0):=by
  show (bif lY x then _ else _)=_
  unfold lY
  cases aS x<;>rfl
 rw [e]
 cases aS x<;>rfl
theorem PQ (x:Rt):dV x=aS x:=by
 unfold dV aS
 show (bif (!gdI x.n||(!gdI x.d||_)) then _ else _)=(gdI x.n&&(gdI x.d&&_))
 cases gdI x.n
 ·rfl
 ·cases gdI x.d
  ·rfl
  by_cases h:(Z.signW x.d.dec).1≤0
  ·rw [decide_eq_true h,decide_eq_false (show ¬ 0<(Z.signW x.d.dec).1 by omega)];rfl
  rw [decide_eq_false h,decide_eq_true (show 0<(Z.signW x.d.dec).1 by omega)];simp only [Bool.not_true,Bool.or_self,cond_false,Bool.true_and];rfl
theorem TO {p:List I} (x:Rt) (hp:p.length≤1000):(lF p x).1=dX p x:=by
 unfold lF dX;rw [v7 hp,sO,c6_,PQ]
 cases (!p.all gdI || !aS x)
 ·simp only [cond_false,ap]
  exact JD p x _ _ _ oo_
 rfl
def vl (c:Nat→Rat) (x:Rat) (n:Nat):Rat:=vH (fun i=>c i*x ^ i) n
def hv (c:Nat→Int) (N D:Int) (L:Nat):Nat→Int
 | 0=>0
 | t+1=>hv c N D L t*N+c (L - 1 - t)*D ^ t
section
variable {c:Nat→Int} {N D:Int} {L:Nat}
structure Room (c:Nat→Int) (N D:Int) (L:Nat):Prop where
 h:∀ t,t≤L→kM (hv c N D L t)
 m:∀ t,t<L→kM (hv c N D L t*N)
 p:∀ t,t<L→kM (D ^ t)
 q:∀ t,t<L→kM (c (L - 1 - t)*D ^ t)
variable {p:List I} {x:Rt}
end
open Go Go.Kn
section
variable {p q:List I} {c d:Nat→Int}
theorem Po.mem (h:Po p c) {x:I} (hx:x∈p):∃ k,vI x=c k:=by
 obtain ⟨k,hk,rfl⟩:=List.getElem_of_mem hx;refine ⟨k,?_⟩;rw [← h.c k]
 simp [List.getD,hk]
def lin (u v:Int) (k:Nat):Int:=if k=0 then u else if k=1 then v else 0
theorem bO_ {u v:Int} (hu:kM u) (hv:kM v):Po (gR [E (Z.of u),E (Z.of v)]) (lin u v):=by
 rw [MU];refine W7 (fun k=>?_) (fun k=>?_) fun k hk=>?_
 ·match k with
  | 0=>rfl
  | 1=>rfl
  | k+2=>rw [wW (by simp)];unfold lin;rw [if_neg oo_,if_neg oo_];rfl
 ·unfold lin;split
  ·exact hu
  split
  ·exact hv
  exact B0
 unfold lin;rw [if_neg oo_,if_neg oo_]
theorem bN_ {u v:Int} {b:Nat} (hu:u.natAbs<2 ^ b) (hv:v.natAbs<2 ^ b):Bd (lin u v) 2 b :=
 ⟨fun k hk=>by unfold lin;rw [if_neg oo_,if_neg oo_],fun k=>by
  unfold lin;split
  ·exact hu
  split
  ·exact hv
  exact Nat.pow_pos dd_⟩
variable {u v W:Int} {L:Nat}
end
open Go Go.Kn
structure PB (p:List I) (c:Nat→Int) (n b:Nat):Prop where
 po:Po p c
 bd:Bd c n b
section
variable {p q:List I} {c d:Nat→Int} {n m b b':Nat}
theorem PB.mono (h:PB p c n b) {n' b1:Nat} (hn:n≤n') (hb:b≤b1):PB p c n' b1:=⟨h.po,h.bd.mono hn hb⟩
theorem PB.cast (h:PB p c n b) (e:∀ k,c k=d k):PB p d n b:=by
 have:c=d:=funext e;subst this;exact h
theorem PB.mul (h:PB p c n b) (g:PB q d m b') {e:Nat} (hn:n≤2 ^ e) (hl:n+m≤26) (hk:b+b'+e≤512):PB (aV p q) (conv c d) (n+m - 1) (b+b'+e):=⟨ba_ h.po g.po h.bd g.bd hn hl hk,h.bd.conv g.bd hn⟩
theorem PB.add (h:PB p c n b) (g:PB q d n b) (hk:b+1≤512):PB (bC p q) (fun k=>c k+d k) n (b+1):=⟨a3_ h.po g.po h.bd g.bd hk,by have:=h.bd.add g.bd;rwa [Nat.max_self] at this⟩
theorem Bd.sub (h:Bd c n b) (g:Bd d n b):Bd (fun k=>c k - d k) n (b+1) :=
 ⟨fun k hk=>by show c k - d k=0;rw [h.z k hk,g.z k hk];rfl,fun k=>by
  have h1:=h.b k;have h2:=g.b k
  show (c k - d k).natAbs<2 ^ (b+1)
  rw [Nat.pow_succ];omega⟩
theorem PB.sub (h:PB p c n b) (g:PB q d n b) (hk:b+1≤512):PB (jM p q) (fun k=>c k - d k) n (b+1):=⟨bf_ h.po g.po fun k=>(h.bd.sub g.bd).B hk k,h.bd.sub g.bd⟩
theorem PB.scale (h:PB p c n b) {v:Int} {s:Nat} (hv:v.natAbs<2 ^ s) (hk:b+s≤512):PB (bK p (E (Z.of v))) (fun k=>c k*v) n (b+s):=by
 have hb:Bd (fun k=>c k*v) n (b+s):=⟨fun k hk=>by show c k*v=0;rw [h.bd.z k hk,Int.zero_mul],fun k=>IC (h.bd.b k) hv⟩;exact ⟨VE h.po (DK hv oo_) fun k=>hb.B hk k,hb⟩
theorem PB.nil (n b:Nat):PB [] (fun _=>0) n b:=⟨QF,⟨fun _ _=>rfl,fun _=>Nat.pow_pos dd_⟩⟩
theorem aP_ (u w:W):cX [u,w]=gR [E (Z.of u.1),E (Z.of w.1)]:=by
 unfold cX;rw [FC,MU];rfl
theorem NF (u w:W):bL [u,w]=cX [u,w]:=by
 rw [aP_,HN];rfl
theorem PB.of2 {u w:W} {s:Nat} (hu:u.1.natAbs<2 ^ s) (hw:w.1.natAbs<2 ^ s) (hs:s≤512):PB (cX [u,w]) (lin u.1 w.1) 2 s:=by
 rw [aP_];exact ⟨bO_ (DK hu hs) (DK hw hs),bN_ hu hw⟩
theorem PB.rmul (h:PB p c n b) (g:PB q d m b'):aU p q=aV p q:=(CO h.po.l3 g.po.l3).symm
theorem PB.radd (h:PB p c n b) (g:PB q d m b'):aG p q=bC p q:=(D0 h.po.l3 g.po.l3).symm
theorem PB.rsub (h:PB p c n b) (g:PB q d m b'):dJ p q=jM p q:=(LZ h.po.l3 g.po.l3).symm
theorem PB.rscale (h:PB p c n b) (v:I):aK p v=bK p v:=(zC v h.po.l3).symm
end
theorem Y8 (s:Int) (c d:Nat→Int) (k:Nat):conv (fun i=>c i*s) d k=conv c d k*s:=by
 have:=congrFun (V3 s c d) k;rw [Int.mul_comm,← this]
 congr 1
 funext i
 exact Int.mul_comm _ _
def scC (A B C D:Nat→Int) (k:Nat):Int:=conv A A k+conv B B k+(conv C C k+conv D D k)
def dgC (A B C D:Nat→Int) (k:Nat):Int:=conv A A k+conv B B k - (conv C C k+conv D D k)
def twC (A B C D:Nat→Int) (s:Int) (k:Nat):Int:=(conv A B k+conv C D k*s)*2
def nuC (S X m0 m1 m2:Nat→Int) (v:A3 W) (k:Nat):Int:=conv S X k+m0 k*v.x.1+m1 k*v.y.1+m2 k*v.z.1
section
variable {a b c d:List I} {A B C D:Nat→Int}
theorem yP (ha:PB a A 2 8) (hb:PB b B 2 8):PB (aV a b) (conv A B) 3 17:=ha.mul hb (e:=1) dd_ dd_ dd_
theorem am_ (ha:PB a A 2 8) (hb:PB b B 2 8) (hc:PB c C 2 8) (hd:PB d D 2 8):PB (oT (wl 1) a a b b c c d d) (scC A B C D) 3 22:=by
 unfold oT;have h1:=(PB.nil 3 17).add (yP ha ha) dd_;have h2:=h1.add ((yP hb hb).mono (b1:=18) (Nat.le_refl _) dd_) dd_;have h3:=h2.add ((yP hc hc).mono (b1:=19) (Nat.le_refl _) dd_) dd_;have h4:=h3.add ((yP hd hd).mono (b1:=20) (Nat.le_refl _) dd_) dd_;refine (h4.scale (v:=1) (s:=1) dd_ dd_).cast fun k=>?_;unfold scC;omega
theorem HK (ha:PB a A 2 9) (hb:PB b B 2 8) (hc:PB c C 2 9) (hd:PB d D 2 8) (n:W) (hn:n.1.natAbs<2 ^ 2):PB (cS n a b c d) (fun k=>(conv A B k+conv C D k)*n.1) 3 22:=by
 unfold cS;have m1:=ha.mul hb (e:=1) dd_ dd_ dd_;have m2:=hc.mul hd (e:=1) dd_ dd_ dd_;have h1:=(PB.nil 3 18).add m1 dd_;have h2:=h1.add (m2.mono (b1:=19) (Nat.le_refl _) dd_) dd_;refine (h2.scale hn dd_).cast fun k=>?_;rw [Int.zero_add]
theorem RY (ha:PB a A 2 8) (hb:PB b B 2 8) (hc:PB c C 2 8) (hd:PB d D 2 8):PB (gU a b c d) (dgC A B C D) 3 23:=by
 unfold gU;have u:∀ {p:List I} {P:Nat→Int},PB p P 2 8→PB p P 2 9:=fun h=>h.mono (Nat.le_refl _) dd_;refine ((HK (u ha) ha (u hb) hb (wl 1) dd_).sub (HK (u hc) hc (u hd) hd (wl 1) dd_) dd_).cast fun k=>?_
 show (conv A A k+conv B B k)*1 - (conv C C k+conv D D k)*1=_
 unfold dgC;omega
theorem TI (ha:PB a A 2 8) (hb:PB b B 2 8) (hc:PB c C 2 8) (hd:PB d D 2 8):PB (cS (wl 2) a b c d) (twC A B C D 1) 3 23∧PB (cS (wl 2) a b (bK c (E (Z.of (-1)))) d) (twC A B C D (-1)) 3 23:=by
 have u:∀ {p:List I} {P:Nat→Int},PB p P 2 8→PB p P 2 9:=fun h=>h.mono (Nat.le_refl _) dd_
 constructor
 ·refine ((HK (u ha) hb (u hc) hd (wl 2) dd_).mono (b1:=23) (Nat.le_refl _) dd_).cast fun k=>?_
  show (_+_)*2=_
  unfold twC;omega
 have hm:=hc.scale (v:=-1) (s:=1) dd_ dd_;refine ((HK (u ha) hb hm hd (wl 2) dd_).mono (b1:=23) (Nat.le_refl _) dd_).cast fun k=>?_
 show (_+_)*2=_
 rw [Y8];rfl
def nuP (S X m0 m1 m2:List I) (v:A3 W):List I:=bC (bC (bC (aV S X) (bK m0 (E (Z.of v.x.1)))) (bK m1 (E (Z.of v.y.1)))) (bK m2 (E (Z.of v.z.1)))
def nuR (S X m0 m1 m2:List I) (v:A3 W):List I:=aG (aG (aG (aU S X) (aK m0 (E (Z.of v.x.1)))) (aK m1 (E (Z.of v.y.1)))) (aK m2 (E (Z.of v.z.1)))
def Vin (v:A3 W):Prop:=v.x.1.natAbs<2 ^ 19∧v.y.1.natAbs<2 ^ 19∧v.z.1.natAbs<2 ^ 19
theorem XB {s x m0 m1 m2:List I} {S X M0 M1 M2:Nat→Int} {v:A3 W} (hv:Vin v) (hs:PB s S 3 22) (hx:PB x X 2 49) (h0:PB m0 M0 3 23) (h1:PB m1 M1 3 23) (h2:PB m2 M2 3 23):PB (nuP s x m0 m1 m2 v) (nuC S X M0 M1 M2 v) 4 76∧nuR s x m0 m1 m2 v=nuP s x m0 m1 m2 v:=by
 have k0:=hs.mul hx (e:=2) dd_ dd_ dd_;have k1:=(h0.scale hv.1 dd_).mono (n':=4) (b1:=73) dd_ dd_;have k2:=(h1.scale hv.2.1 dd_).mono (n':=4) (b1:=74) dd_ dd_;have k3:=(h2.scale hv.2.2 dd_).mono (n':=4) (b1:=75) dd_ dd_;have e1:=k0.add k1 dd_;have e2:=e1.add k2 dd_;have e3:=e2.add k3 dd_;refine ⟨e3,?_⟩;unfold nuR nuP;rw [hs.rmul hx,h0.rscale,h1.rscale,h2.rscale,k0.radd k1,e1.radd k2,e2.radd k3]
end
theorem co_ {a b:W} (ha:a.1.natAbs<65) (hb:b.1.natAbs<65):(W.sub (W.mul (wl 1) b) a).1=b.1 - a.1∧(W.sub (W.mul (wl (-1)) b) a).1 = -b.1 - a.1:=by
 have e1:(W.mul (wl 1) b).1=b.1:=by
  show IntKind.i64.wrap (1*b.1)=_
  rw [Int.one_mul];exact wi oo_
 have e2:(W.mul (wl (-1)) b).1 = -b.1:=by
  show IntKind.i64.wrap (-1*b.1)=_
  rw [show (-1:Int)*b.1 = -b.1 by omega];exact wi oo_
 constructor
 ·show IntKind.i64.wrap ((W.mul (wl 1) b).1 - a.1)=_
  rw [e1];exact wi oo_
 show IntKind.i64.wrap ((W.mul (wl (-1)) b).1 - a.1)=_
 rw [e2];exact wi oo_
theorem HL {a b:W} (ha:a.1.natAbs<65) (hb:b.1.natAbs<65):PB (cX [a,W.sub (W.mul (wl 1) b) a]) (lin a.1 (1*b.1 - a.1)) 2 8∧PB (cX [a,W.sub (W.mul (wl (-1)) b) a]) (lin a.1 (-1*b.1 - a.1)) 2 8:=by
 obtain ⟨e1,e2⟩:=co_ ha hb;have h1:=PB.of2 (u:=a) (w:=W.sub (W.mul (wl 1) b) a) (s:=8) oo_ (by rw [e1];omega) dd_;have h2:=PB.of2 (u:=a) (w:=W.sub (W.mul (wl (-1)) b) a) (s:=8) oo_ (by rw [e2];omega) dd_;rw [e1] at h1;rw [e2] at h2;exact ⟨by rw [show (1:Int)*b.1 - a.1=b.1 - a.1 by omega];exact h1,by rw [show (-1:Int)*b.1 - a.1 = -b.1 - a.1 by omega];exact h2⟩
structure Tq (h:Path) (s:Int):Prop where
 sg:s=1∨s = -1
 x:PB (aL h).x (lin h.from_.q.x.1 (s*h.to_.q.x.1 - h.from_.q.x.1)) 2 8
 y:PB (aL h).y (lin h.from_.q.y.1 (s*h.to_.q.y.1 - h.from_.q.y.1)) 2 8
 z:PB (aL h).z (lin h.from_.q.z.1 (s*h.to_.q.z.1 - h.from_.q.z.1)) 2 8
 t:PB (aL h).t (lin h.from_.q.t.1 (s*h.to_.q.t.1 - h.from_.q.t.1)) 2 8
theorem VH {h:Path} (hf:h.from_.q.i.Lw 65) (ht:h.to_.q.i.Lw 65):Tq h (if (gP h.from_.q h.to_.q).1<0 then -1 else 1)∧aC h=aL h:=by
 obtain ⟨a1,a2,a3,a4⟩:=hf;obtain ⟨b1,b2,b3,b4⟩:=ht;have k1:=HL (a:=h.from_.q.x) (b:=h.to_.q.x) a1 b1;have k2:=HL (a:=h.from_.q.y) (b:=h.to_.q.y) a2 b2;have k3:=HL (a:=h.from_.q.z) (b:=h.to_.q.z) a3 b3;have k4:=HL (a:=h.from_.q.t) (b:=h.to_.q.t) a4 b4
 constructor
 ·by_cases hc:(gP h.from_.q h.to_.q).1<0
  ·rw [if_pos hc]
   have e:aL h=⟨cX [h.from_.q.x,W.sub (W.mul (wl (-1)) h.to_.q.x) h.from_.q.x],cX [h.from_.q.y,W.sub (W.mul (wl (-1)) h.to_.q.y) h.from_.q.y],cX [h.from_.q.z,W.sub (W.mul (wl (-1)) h.to_.q.z) h.from_.q.z],cX [h.from_.q.t,W.sub (W.mul (wl (-1)) h.to_.q.t) h.from_.q.t]⟩:=by
    unfold aL;rw [E6,decide_eq_true hc];rfl
   exact ⟨.inr O,by rw [e];exact k1.2,by rw [e];exact k2.2,by rw [e];exact k3.2,by rw [e];exact k4.2⟩
  rw [if_neg hc]
  have e:aL h=⟨cX [h.from_.q.x,W.sub (W.mul (wl 1) h.to_.q.x) h.from_.q.x],cX [h.from_.q.y,W.sub (W.mul (wl 1) h.to_.q.y) h.from_.q.y],cX [h.from_.q.z,W.sub (W.mul (wl 1) h.to_.q.z) h.from_.q.z],cX [h.from_.q.t,W.sub (W.mul (wl 1) h.to_.q.t) h.from_.q.t]⟩:=by
   unfold aL;rw [E6,decide_eq_false hc];rfl
  exact ⟨.inl O,by rw [e];exact k1.1,by rw [e];exact k2.1,by rw [e];exact k3.1,by rw [e];exact k4.1⟩
 unfold aC aL;simp only [E6,NF]
structure Hv (h:Path):Prop where
 fq:h.from_.q.i.Lw 65∧¬ h.from_.q.i.zero
 tq:h.to_.q.i.Lw 65∧¬ h.to_.q.i.zero
 fx:h.from_.x.x.1.natAbs<2 ^ 47∧h.from_.x.y.1.natAbs<2 ^ 47∧h.from_.x.z.1.natAbs<2 ^ 47
 tx:h.to_.x.x.1.natAbs<2 ^ 47∧h.to_.x.y.1.natAbs<2 ^ 47∧h.to_.x.z.1.natAbs<2 ^ 47
theorem SQ {a:Pose} (h:(dN a).1=0):fA a.q=true∧a.x.x.1.natAbs<2 ^ 47∧a.x.y.1.natAbs<2 ^ 47∧a.x.z.1.natAbs<2 ^ 47:=by
 unfold dN at h
 cases h1:(decide (140737488355328≤a.x.x.1)||decide (a.x.x.1≤(-140737488355328)))
 ·cases h2:(decide (140737488355328≤a.x.y.1)||decide (a.x.y.1≤(-140737488355328)))
  ·cases h3:(decide (140737488355328≤a.x.z.1)||decide (a.x.z.1≤(-140737488355328)))
   ·cases h4:fA a.q
    ·rw [h1,h2,h3,h4] at h;exact absurd h (show ¬ (1:Int)=0 by decide)
    simp only [Bool.or_eq_false_iff,decide_eq_false_iff_not] at h1 h2 h3;exact ⟨rfl,by omega,by omega,by omega⟩
   rw [h1,h2,h3] at h;exact absurd h (show ¬ (1:Int)=0 by decide)
  rw [h1,h2] at h;exact absurd h (show ¬ (1:Int)=0 by decide)
 rw [h1] at h;exact absurd h (show ¬ (1:Int)=0 by decide)
theorem aH_ {h:Path} (hc:(cW h).1=0):Hv h:=by
 unfold cW at hc;rcases E4 h.from_ with k|k
 ·rw [k] at hc
  have hc':(dN h.to_).1=0:=hc;obtain ⟨v1,x1⟩:=SQ (a:=h.from_) (by rw [k]);obtain ⟨v2,x2⟩:=SQ hc';exact ⟨LU v1,LU v2,x1,x2⟩
 rw [k] at hc;exact absurd hc (show ¬ (1:Int)=0 by decide)
theorem YI {v:A3 W} (h:dZ v (wl 262144)=true):Vin v:=by
 unfold dZ at h;have e:(W.neg (wl 262144)).1 = -262144:=rfl;have e2:(wl 262144).1=262144:=rfl;rw [e,e2] at h
 cases h1:(decide (262144<v.x.1)||decide (v.x.1 < -262144))
 ·cases h2:(decide (262144<v.y.1)||decide (v.y.1 < -262144))
  ·cases h3:(decide (262144<v.z.1)||decide (v.z.1 < -262144))
   ·simp only [Bool.or_eq_false_iff,decide_eq_false_iff_not] at h1 h2 h3
    exact ⟨by omega,by omega,by omega⟩
   rw [h1,h2,h3] at h;cases h
  rw [h1,h2] at h;cases h
 rw [h1] at h;cases h
structure Vx (h:Path) (v:A3 W) (A B C D:Nat→Int):Prop where
 s:PB (j4 h) (scC A B C D) 3 22
 s2:(cJ h v).2=j4 h
 x:PB (cJ h v).1.x (nuC (scC A B C D) (lin h.from_.x.x.1 (h.to_.x.x.1 - h.from_.x.x.1)) (dgC A B C D) (twC B C A D (-1)) (twC B D A C 1) v) 4 76
 y:PB (cJ h v).1.y (nuC (scC A B C D) (lin h.from_.x.y.1 (h.to_.x.y.1 - h.from_.x.y.1)) (twC B C A D 1) (dgC A C B D) (twC C D A B (-1)) v) 4 76
 z:PB (cJ h v).1.z (nuC (scC A B C D) (lin h.from_.x.z.1 (h.to_.x.z.1 - h.from_.x.z.1)) (twC B D A C (-1)) (twC C D A B 1) (dgC A D B C) v) 4 76
 r:cE h v=⟨(cJ h v).1,j4 h⟩
theorem xY (h:Path) (v:A3 W):cJ h v =
 (⟨nuP (j4 h) (cX [h.from_.x.x,W.sub h.to_.x.x h.from_.x.x]) (gU (aL h).x (aL h).y (aL h).z (aL h).t) (cS (wl 2) (aL h).y (aL h).z (bK (aL h).x (E (Z.of (-1)))) (aL h).t) (cS (wl 2) (aL h).y (aL h).t (aL h).x (aL h).z) v,
  nuP (j4 h) (cX [h.from_.x.y,W.sub h.to_.x.y h.from_.x.y]) (cS (wl 2) (aL h).y (aL h).z (aL h).x (aL h).t) (gU (aL h).x (aL h).z (aL h).y (aL h).t) (cS (wl 2) (aL h).z (aL h).t (bK (aL h).x (E (Z.of (-1)))) (aL h).y) v,
  nuP (j4 h) (cX [h.from_.x.z,W.sub h.to_.x.z h.from_.x.z]) (cS (wl 2) (aL h).y (aL h).t (bK (aL h).x (E (Z.of (-1)))) (aL h).z) (cS (wl 2) (aL h).z (aL h).t (aL h).x (aL h).y) (gU (aL h).x (aL h).t (aL h).y (aL h).z) v⟩,j4 h):=rfl
theorem PT (h:Path) (v:A3 W):cE h v =
 ⟨⟨nuR (fX h) (bL [h.from_.x.x,W.sub h.to_.x.x h.from_.x.x]) (dK (aC h).x (aC h).y (aC h).z (aC h).t) (bR (aC h).y (aC h).z (aC h).x (aC h).t (wl (-1))) (bR (aC h).y (aC h).t (aC h).x (aC h).z (wl 1)) v,
  nuR (fX h) (bL [h.from_.x.y,W.sub h.to_.x.y h.from_.x.y]) (bR (aC h).y (aC h).z (aC h).x (aC h).t (wl 1)) (dK (aC h).x (aC h).z (aC h).y (aC h).t) (bR (aC h).z (aC h).t (aC h).x (aC h).y (wl (-1))) v,
  nuR (fX h) (bL [h.from_.x.z,W.sub h.to_.x.z h.from_.x.z]) (bR (aC h).y (aC h).t (aC h).x (aC h).z (wl (-1))) (bR (aC h).z (aC h).t (aC h).x (aC h).y (wl 1)) (dK (aC h).x (aC h).t (aC h).y (aC h).z) v⟩,fX h⟩:=rfl
section
variable {a b c d:List I} {A B C D:Nat→Int}
theorem RI (ha:PB a A 2 8) (hb:PB b B 2 8) (hc:PB c C 2 8) (hd:PB d D 2 8):dK a b c d=gU a b c d:=by
 have k1:=yP ha ha;have k2:=yP hb hb;have k3:=yP hc hc;have k4:=yP hd hd;have s1:=k1.add k2 dd_;have s2:=k3.add k4 dd_;unfold dK aE;rw [ha.rmul ha,hb.rmul hb,hc.rmul hc,hd.rmul hd,k1.radd k2,k3.radd k4,s1.rsub s2];exact (s1.sub s2 dd_).po.eq (RY ha hb hc hd).po
theorem RN (ha:PB a A 2 8) (hb:PB b B 2 8) (hc:PB c C 2 8) (hd:PB d D 2 8):bR a b c d (wl 1)=cS (wl 2) a b c d∧bR a b c d (wl (-1))=cS (wl 2) a b (bK c (E (Z.of (-1)))) d:=by
 have k1:=yP ha hb;have k2:=yP hc hd;obtain ⟨t1,t2⟩:=TI ha hb hc hd
 constructor
 ·have k3:=k2.scale (v:=1) (s:=1) dd_ dd_
  have k4:=(k1.mono (b1:=18) (Nat.le_refl _) dd_).add k3 dd_;unfold bR;rw [ha.rmul hb,hc.rmul hd,k2.rscale,k1.radd k3,k4.rscale];exact (k4.scale (v:=2) (s:=2) dd_ dd_).po.eq t1.po
 have k3:=k2.scale (v:=-1) (s:=1) dd_ dd_;have k4:=(k1.mono (b1:=18) (Nat.le_refl _) dd_).add k3 dd_;unfold bR;rw [ha.rmul hb,hc.rmul hd,k2.rscale,show (wl (-1)).1 = -1 from rfl,k1.radd k3,k4.rscale];exact (k4.scale (v:=2) (s:=2) dd_ dd_).po.eq t2.po
end
theorem cj_ {α β:Type} {p:α×β} {a:α} {b:β} (h:p=(a,b)):p.2=b:=by rw [h]
theorem HO {h:Path} (hh:Hv h) {v:A3 W} (hv:Vin v):∃ s A B C D,(s=1∨s=(-1:Int))∧A=lin h.from_.q.x.1 (s*h.to_.q.x.1 - h.from_.q.x.1)∧B=lin h.from_.q.y.1 (s*h.to_.q.y.1 - h.from_.q.y.1)∧C=lin h.from_.q.z.1 (s*h.to_.q.z.1 - h.from_.q.z.1)∧D=lin h.from_.q.t.1 (s*h.to_.q.t.1 - h.from_.q.t.1)∧s=(if (gP h.from_.q h.to_.q).1<0 then -1 else 1)∧Vx h v A B C D:=by
 obtain ⟨tq,te⟩:=VH hh.fq.1 hh.tq.1;refine ⟨_,_,_,_,_,tq.sg,rfl,rfl,rfl,rfl,rfl,?_⟩;have hx:=tq.x;have hy:=tq.y;have hz:=tq.z;have ht:=tq.t;generalize lin h.from_.q.x.1 _=A at *;generalize lin h.from_.q.y.1 _=B at *;generalize lin h.from_.q.z.1 _=C at *;generalize lin h.from_.q.t.1 _=D at *;have sc:PB (j4 h) (scC A B C D) 3 22:=am_ hx hy hz ht
 have rs:fX h=j4 h:=by
  have k1:=yP hx hx;have k2:=yP hy hy;have k3:=yP hz hz;have k4:=yP ht ht;have s1:=k1.add k2 dd_;have s2:=k3.add k4 dd_;unfold fX aE;rw [te,hx.rmul hx,hy.rmul hy,hz.rmul hz,ht.rmul ht,k1.radd k2,k3.radd k4,s1.radd s2];exact (s1.add s2 dd_).po.eq sc.po
 have pos:∀ {a b:W},a.1.natAbs<2 ^ 47→b.1.natAbs<2 ^ 47→PB (cX [a,W.sub b a]) (lin a.1 (b.1 - a.1)) 2 49:=fun {a b} ha hb=>by
  have e:(W.sub b a).1=b.1 - a.1:=wi ⟨by show _≤b.1 - a.1;omega,by show b.1 - a.1≤_;omega⟩;have:=PB.of2 (u:=a) (w:=W.sub b a) (s:=49) oo_ (by rw [e];omega) dd_
  rwa [e] at this
 have px:=pos hh.fx.1 hh.tx.1;have py:=pos hh.fx.2.1 hh.tx.2.1;have pz:=pos hh.fx.2.2 hh.tx.2.2;have d1:=RY hx hy hz ht;have d2:=RY hx hz hy ht;have d3:=RY hx ht hy hz;obtain ⟨t1,t2⟩:=TI hy hz hx ht;obtain ⟨t3,t4⟩:=TI hy ht hx hz;obtain ⟨t5,t6⟩:=TI hz ht hx hy;obtain ⟨n1,r1⟩:=XB hv sc px d1 t2 t3;obtain ⟨n2,r2⟩:=XB hv sc py t1 d2 t6;obtain ⟨n3,r3⟩:=XB hv sc pz t4 t5 d3;have e1:=RI hx hy hz ht;have e2:=RI hx hz hy ht;have e3:=RI hx ht hy hz;obtain ⟨e4,e5⟩:=RN hy hz hx ht;obtain ⟨e6,e7⟩:=RN hy ht hx hz;obtain ⟨e8,e9⟩:=RN hz ht hx hy;have q1:=congrArg (fun t=>t.1.x) (xY h v);have q2:=congrArg (fun t=>t.1.y) (xY h v);have q3:=congrArg (fun t=>t.1.z) (xY h v)
 dsimp only at q1 q2 q3
 rw [← q1] at n1;rw [← q2] at n2;rw [← q3] at n3;refine ⟨sc,cj_ (xY h v),n1,n2,n3,?_⟩;have R:=PT h v;rw [rs,te,NF,NF,NF,e1,e2,e3,e4,e5,e6,e7,e8,e9,r1,r2,r3] at R;rw [R];exact (congrArg (fun t=>(⟨t.1,j4 h⟩:Moving)) (xY h v)).symm
open Go Go.Kn
theorem dG_:iZ=true:=by kernel_rfl
theorem k25 {l:List I} (h:l.length≤25):l.length≤1000:=Nat.le_trans h dd_
def Qd (b:A3 Rt):I:=gN [b.x.d,b.y.d,b.z.d]
def JN (V S:List I) (r:Rt) (q:I):List I:=jM (bK V q) (bK S (E (Z.quo (E (Z.mul r.n.dec q.dec)).dec r.d.dec)))
def IZ (V:A3 (List I)) (S:List I) (b:A3 Rt) (m:Rt):List I :=
 iJ (jM (bK (aV S S) (gN [m.n,Qd b,Qd b])) (bK (bC (bC (bC [] (aV (JN V.x S b.x (Qd b)) (JN V.x S b.x (Qd b)))) (aV (JN V.y S b.y (Qd b)) (JN V.y S b.y (Qd b)))) (aV (JN V.z S b.z (Qd b)) (JN V.z S b.z (Qd b)))) m.d))
def Qr (b:A3 Rt):I:=kE b.x.d b.y.d b.z.d
def OP (V S:List I) (r:Rt) (q:I):List I:=dJ (aK V q) (aK S (E (Z.quo (E (Z.mul r.n.dec q.dec)).dec r.d.dec)))
def RP (V:A3 (List I)) (S:List I) (b:A3 Rt) (m:Rt):List I :=
 dY (dJ (aK (aU S S) (kE m.n (Qr b) (Qr b))) (aK (aG (aG (aG [] (aU (OP V.x S b.x (Qr b)) (OP V.x S b.x (Qr b)))) (aU (OP V.y S b.y (Qr b)) (OP V.y S b.y (Qr b)))) (aU (OP V.z S b.z (Qr b)) (OP V.z S b.z (Qr b)))) m.d))
theorem CT (V S:List I) (r:Rt) (q:I):(JN V S r q).length≤1000:=k25 (pY _ _)
theorem QV {V S:List I} (hV:V.length≤1000) (hS:S.length≤1000) (r:Rt) (q:I):JN V S r q=OP V S r q:=by
 unfold JN OP;rw [LZ (k25 (dL _ _)) (k25 (dL _ _)),zC _ hV,zC _ hS]
theorem ch_ {V:A3 (List I)} {S:List I} (h1:V.x.length≤1000) (h2:V.y.length≤1000) (h3:V.z.length≤1000) (hS:S.length≤1000) (b:A3 Rt) (m:Rt):IZ V S b m=RP V S b m:=by
 have eq:Qd b=Qr b:=PE _ _ _;unfold IZ RP
 rw [eq,NY (k25 (pY _ _)),LZ (k25 (dL _ _)) (k25 (dL _ _)),zC _ (k25 (gX _ _)),zC _ (k25 (fB _ _)),
  D0 (k25 (fB _ _)) (k25 (gX _ _)),D0 (k25 (fB _ _)) (k25 (gX _ _)),D0 (p:=[]) dd_ (k25 (gX _ _)),
  CO hS hS,CO (CT V.x S b.x _) (CT V.x S b.x _),CO (CT V.y S b.y _) (CT V.y S b.y _),CO (CT V.z S b.z _) (CT V.z S b.z _),QV h1 hS,QV h2 hS,QV h3 hS,PE]
theorem aj_ (V:A3 (List I)) (S:List I) (b:A3 Rt) (m:Rt):(IZ V S b m).length≤1000:=by unfold IZ;exact k25 (o7 _)
theorem LL (h:Path) (v:A3 W) (b:A3 Rt) (m:Rt):cZ h v b m =
 bif (((mM h).1 != 0)||(!eY v (wl 262144)||(hJ m||kN [b.x,b.y,b.z] (fun (y:Rt)=>hJ y)))) then (([]:List I),wl 1)
 else bif dC (IZ (cJ h v).1 (cJ h v).2 b m) then (([]:List I),wl 30) else (IZ (cJ h v).1 (cJ h v).2 b m,wl 0):=rfl
theorem RM (h:Path) (v:A3 W) (b:A3 Rt) (m:Rt):aW h v b m =
 bif (((cW h).1 != 0)||(!dZ v (wl 262144)||(!aP m))) then (⟨[],wl 1⟩:Curve)
 else bif aP b.x then bif aP b.y then bif aP b.z then
  bif bA (RP (cE h v).n (cE h v).s b m) then (⟨[],wl 30⟩:Curve) else (⟨RP (cE h v).n (cE h v).s b m,wl 0⟩:Curve)
  else (⟨[],wl 1⟩:Curve) else (⟨[],wl 1⟩:Curve) else (⟨[],wl 1⟩:Curve):=rfl
theorem eu_ (x y z:Rt):kN [x,y,z] (fun (y:Rt)=>hJ y) = !(aS x&&(aS y&&aS z)):=by
 unfold kN pR
 have e:k7 [x,y,z] (fun y=>hJ y) ([x,y,z].length+1) 0=bif aS x then (bif aS y then (bif aS z then .inl 3 else .inr (W.cv 2)) else .inr (W.cv 1)) else .inr (W.cv 0):=by
  show (bif hJ x then _ else (bif hJ y then _ else (bif hJ z then _ else _)))=_
  unfold hJ
  cases aS x<;>cases aS y<;>cases aS z<;>rfl
 rw [e]
 cases aS x<;>cases aS y<;>cases aS z<;>rfl
theorem U3 {h:Path} {v:A3 W} (hc:(cW h).1=0) (hi:dZ v (wl 262144)=true):cE h v=⟨(cJ h v).1,(cJ h v).2⟩∧(cJ h v).1.x.length≤1000∧(cJ h v).1.y.length≤1000∧(cJ h v).1.z.length≤1000∧(cJ h v).2.length≤1000:=by
 obtain ⟨s,A,B,C,D,_,_,_,_,_,_,hx⟩:=HO (aH_ hc) (YI hi);refine ⟨by rw [hx.r,hx.s2],hx.x.po.l3,hx.y.po.l3,hx.z.po.l3,by rw [hx.s2];exact hx.s.po.l3⟩
theorem N1 (h:Path) (v:A3 W) (b:A3 Rt) (m:Rt):cZ h v b m=((aW h v b m).p,(aW h v b m).e):=by
 rw [LL,RM,eu_,DA,KV,show hJ m = !aS m from rfl];simp only [wT]
 cases h1:((cW h).1 != 0)
 ·have hc:(cW h).1=0:=by simpa using h1
  cases h2:dZ v (wl 262144)
  ·simp only [Bool.not_false,Bool.true_or,Bool.or_true,cond_true]
  obtain ⟨e,l1,l2,l3,l4⟩:=U3 hc h2;rw [e];generalize cJ h v=V at *;clear e h1 hc h2;have es:IZ V.1 V.2 b m=RP V.1 V.2 b m:=ch_ l1 l2 l3 l4 b m
  have eb:dC (IZ V.1 V.2 b m)=bA (RP V.1 V.2 b m):=by
   rw [sO,← es,v7 (aj_ _ _ _ _)]
  rw [eb,es];simp only;generalize RP V.1 V.2 b m=L at *;clear es eb
  cases aP m<;>cases aP b.x<;>cases aP b.y<;>cases aP b.z<;>cases bA L<;>rfl
 simp only [Bool.true_or,cond_true]
theorem S2 (l:List Rt):∀ (k i:Nat),∃ j,jD l l k i = .inl j
 | 0,i=>⟨i,rfl⟩
 | k+1,i=>by
  rw [jD];simp only [decide_true,Bool.and_self,cond_true]
  cases decide ((i:Int)<(l.length:Int))
  ·exact ⟨i,rfl⟩
  exact S2 l k (i+1)
theorem be_ (l:List Rt):iB l l=true:=by
 unfold iB;obtain ⟨j,hj⟩:=S2 l (l.length+1) 0;rw [hj,show ((l.length:Int) != (l.length:Int))=false by simp];rfl
def shf (d:Nat→Int) (i k:Nat):Int:=if i≤k then d (k - i) else 0
def dF_ (a o:Int) (d:Nat→Int) (n i:Nat) (r:Nat→Int) (k:Nat):Int:=a*r k - o*r (i+n)*shf d i k
def RemB (a o:Int) (d:Nat→Int) (n:Nat):Nat→(Nat→Int)→Prop
 | 0,r=>∀ k,kM (r k)
 | m+1,r=>(∀ k,kM (r k))∧kM (o*r (m+n))∧(∀ k,kM (a*r k))∧(∀ k,kM (o*r (m+n)*d k))∧RemB a o d n m (dF_ a o d n m r)
theorem RemB.B {a o:Int} {d:Nat→Int} {n:Nat}:∀ {m:Nat} {r:Nat→Int},RemB a o d n m r→∀ k,kM (r k)
 | 0,_,h=>h
 | _+1,_,h=>h.1
theorem ej_ {u:Int} {b b':Nat} (h:u.natAbs<2 ^ b) (hb:b≤b'):u.natAbs<2 ^ b':=Nat.lt_of_lt_of_le h (Nat.pow_le_pow_right dd_ hb)
section
variable {p q:List I} {c d:Nat→Int} {n:Nat}
end
open Go Go.Kn
theorem aC_ (x y:Rt):k8 [x,y]=(aS x&&aS y):=by
 unfold k8 kN pR
 have e:k7 [x,y] (fun y=>lY y) ([x,y].length+1) 0=bif aS x then (bif aS y then .inl 2 else .inr (W.cv 1)) else .inr (W.cv 0):=by
  show (bif lY x then _ else (bif lY y then _ else _))=_
  unfold lY
  cases aS x<;>cases aS y<;>rfl
 rw [e]
 cases aS x<;>cases aS y<;>rfl
section
variable {p:List I} {c:Nat→Int} {a b:Rt} {N D M F:Int}
end
open Go Go.Kn
theorem W8 (l:List I):(mkP l).length≤max l.length 1:=by
 unfold mkP
 cases l.all gdI
 ·exact Nat.le_max_right _ _
 simp only [cond_true]
 split
 ·exact Nat.le_trans (EX l) (Nat.le_max_left _ _)
 exact Nat.le_max_right _ _
theorem G5 {c:Bool} {x y:List I} {n:Nat} (h:x.length≤n) (k:y.length≤n):(bif c then x else y).length≤n:=by cases c<;>assumption
theorem HB {p q:List I} (f:I→I→I) {n:Nat} (hp:p.length≤n) (hq:q.length≤n) (h1:1≤n) (h2:n≤1000):(jG p q f).length≤n:=by
 rw [CS f oo_ oo_];refine G5 (Nat.le_trans (W8 _) ?_) h1;rw [List.length_map,List.length_range];omega
theorem X7 {p q:List I} {n:Nat} (hp:p.length≤n) (hq:q.length≤n) (h1:1≤n) (h2:n≤1000):(jM p q).length≤n:=HB _ hp hq h1 h2
theorem ME {p q:List I} {n:Nat} (hp:p.length≤n) (hq:q.length≤n) (h1:1≤n) (h2:n≤1000):(bC p q).length≤n:=HB _ hp hq h1 h2
theorem ER {p:List I} {n:Nat} (v:I) (hp:p.length≤n) (h1:1≤n) (h2:n≤1000):(bK p v).length≤n:=G5 (HB _ hp (Nat.zero_le _) h1 h2) h1
theorem Z1 {p:List I} {n:Nat} (hp:p.length≤n) (h1:1≤n) (h2:n≤1000):(iJ p).length≤n:=HB _ hp (Nat.zero_le _) h1 h2
theorem ZW {p q:List I} {n m:Nat} (hp:p.length≤n) (hq:q.length≤m) (h1:1≤n+m - 1):(aV p q).length≤n+m - 1:=by
 unfold aV;refine G5 h1 (G5 (Nat.zero_le _) ?_);rw [wK];refine Nat.le_trans (W8 _) ?_;rw [List.length_map,List.length_range];omega
theorem P1 (p:List I) (a b:Rt):∀ (f:Nat) (r:List I) (i:Int),i<(p.length:Int)→r.length≤1000→(fT p a b f r i).1=(gA p a b f r i).1∧(fT p a b f r i).1.length≤1000
 | 0,r,i,_,hr=>⟨rfl,hr⟩
 | f+1,r,i,hi,hr=>by
  unfold fT gA
  by_cases h0:0≤i
  ·rw [decide_eq_true h0]
   simp only [cond_true];rw [IM _ _ (show p.length - 1 - i.toNat<max (p.length:Int).toNat 1 by omega),N0,show ((p.length:Int) - 1 - i).toNat=p.length - 1 - i.toNat by omega,← HN,← HN,← CO hr (k25 (wB _)),← D0 (k25 (gX _ _)) (k25 (wB _))];exact P1 p a b f _ (i - 1) oo_ (k25 (fB _ _))
  rw [decide_eq_false h0];exact ⟨rfl,hr⟩
theorem IN:iJ F_poly_bad=F_skewbackref08_bad:=by kernel_rfl
theorem NX {p:List I} (hp:p.length≤1000) (a b:Rt):gM p a b=eD p a b:=by
 unfold gM jR eD;rw [v7 hp,sO,aC_,PQ,PQ];obtain ⟨e,l⟩:=P1 p a b (p.length+1) [] ((p.length:Int) - 1) oo_ dd_
 cases p.all gdI
 ·exact IN
 ·cases aS a
  ·exact IN
  ·cases aS b
   ·exact IN
   show iJ (fT p a b _ _ _).1=dY (gA p a b _ _ _).1
   rw [← e,NY l]
def rwt (n:Int) (i j:Nat):I:=E (Z.mul (E (Z.of (i2 (i:Int) (j:Int)).1)).dec (Z.mul (dE (j:Int)).dec (dE (n - (j:Int))).dec))
theorem SZ {n i:Nat} (hn:n≤6) (hi:i≤n):eG (n:Int) (i:Int)=(List.range (i+1)).map (rwt (n:Int) i):=by
 rcases (show n=0∨n=1∨n=2∨n=3∨n=4∨n=5∨n=6 by omega) with rfl|rfl|rfl|rfl|rfl|rfl|rfl
 ·rcases (show i=0 by omega) with rfl;kernel_rfl
 ·rcases (show i=0∨i=1 by omega) with rfl|rfl<;>kernel_rfl
 ·rcases (show i=0∨i=1∨i=2 by omega) with rfl|rfl|rfl<;>kernel_rfl
 ·rcases (show i=0∨i=1∨i=2∨i=3 by omega) with rfl|rfl|rfl|rfl<;>kernel_rfl
 ·rcases (show i=0∨i=1∨i=2∨i=3∨i=4 by omega) with rfl|rfl|rfl|rfl|rfl<;>kernel_rfl
 ·rcases (show i=0∨i=1∨i=2∨i=3∨i=4∨i=5 by omega) with rfl|rfl|rfl|rfl|rfl|rfl<;>kernel_rfl
 rcases (show i=0∨i=1∨i=2∨i=3∨i=4∨i=5∨i=6 by omega) with rfl|rfl|rfl|rfl|rfl|rfl|rfl<;>kernel_rfl
section
variable {p:List I} {a b:Rt}
theorem R2 (hp:p.length≤7) (out:List I) {i:Nat} (hi:i<p.length):∀ (f j:Nat) (m:I),j≤i+1→gV p a b out i f j m=gH p a b out i f j m
 | 0,j,m,_=>rfl
 | f+1,j,m,hj=>by
  have ew:eG ((p.length:Int) - 1) (i:Int)=(List.range (i+1)).map (rwt ((p.length:Int) - 1) i):=by
   rw [show (p.length:Int) - 1=((p.length - 1:Nat):Int) by omega];exact SZ oo_ oo_
  unfold gV gH;rw [ew,List.length_map,List.length_range]
  by_cases h:j≤i
  ·rw [decide_eq_true (show (j:Int)<((i+1:Nat):Int) by omega),decide_eq_true (show (j:Int)≤(i:Int) by omega)]
   simp only [cond_true];rw [P3,if_pos (show j<i+1 by omega),← VG,← NX (show p.length≤1000 by omega),N3];have:=R2 hp out hi f (j+1) (E (Z.add m.dec (Z.mul (rwt ((p.length:Int) - 1) i j).dec (kF (gM p a (fH b a)) (j:Int)).dec))) oo_;rw [eQ (Z.mul (rwt ((p.length:Int) - 1) i j).dec _)];exact this
  rw [decide_eq_false (show ¬ (j:Int)<((i+1:Nat):Int) by omega),decide_eq_false (show ¬ (j:Int)≤(i:Int) by omega)];rfl
def dL_ (x:(List I×Nat) ⊕ (List I×Bool)):(List I×Nat) ⊕ Lst8 :=
 match x with
 | .inl s=>.inl s
 | .inr r=>.inr ⟨r.1,r.2⟩
theorem R0 (hp:p.length≤7):∀ (f:Nat) (out:List I) (i:Nat),gG p a b f out i=dL_ (fJ p a b f out i)
 | 0,out,i=>rfl
 | f+1,out,i=>by
  unfold gG fJ
  by_cases h:i<p.length
  ·have ew:eG ((p.length:Int) - 1) (i:Int)=(List.range (i+1)).map (rwt ((p.length:Int) - 1) i):=by
    rw [show (p.length:Int) - 1=((p.length - 1:Nat):Int) by omega];exact SZ oo_ oo_
   rw [decide_eq_true (show (i:Int)≤(p.length:Int) - 1 by omega),decide_eq_true (show (i:Int)<(p.length:Int) by omega),ew,List.length_map,List.length_range];have e:=R2 (a:=a) (b:=b) hp out h (i+2) 0 I0 (Nat.zero_le _);simp only [cond_true,ap];rw [show i+1+1=i+2 from rfl,← e]
   cases (gV p a b out i (i+2) 0 I0).2.1.bad
   ·exact R0 hp f _ (i+1)
   rfl
  rw [decide_eq_false (show ¬ (i:Int)≤(p.length:Int) - 1 by omega),decide_eq_false (show ¬ (i:Int)<(p.length:Int) by omega)];rfl
theorem R3 (out0:List I) (i0:Nat) (hs:((Z.signW (dH out0).dec).1 != 0)=true):∀ (f k:Nat) (t:List I),t.length=out0.length→(eC p a b out0 i0 f k t).2=(iY p a b out0 i0 f k t).2
 | 0,k,t,_=>rfl
 | f+1,k,t,ht=>by
  unfold eC iY;rw [DP,hs,ht]
  cases decide ((k:Int)<(out0.length:Int))
  ·rfl
  exact R3 out0 i0 hs f (k+1) _ (by rw [List.length_set,ht])
theorem N4 (out0:List I) (i0:Nat) (hs:((Z.signW (dH out0).dec).1 != 0)=false):∀ (f k:Nat) (t:List I),(eC p a b out0 i0 f k t).2=t
 | 0,k,t=>rfl
 | f+1,k,t=>by
  unfold eC;rw [DP,hs]
  cases decide ((k:Int)<(t.length:Int))
  ·rfl
  exact N4 out0 i0 hs f (k+1) t
theorem VB (hp:p.length≤7) (a b:Rt):eJ p a b=((aT p a b).l,(aT p a b).is):=by
 unfold eJ aT;rw [v7 (show p.length≤1000 by omega),sO,aC_,PQ,PQ,← VG,← NX (show p.length≤1000 by omega),v7 (k25 (zU _ _ _)),sO,R0 hp]
 cases p.all gdI
 ·rfl
 ·cases aS a
  ·rfl
  ·cases aS b
   ·rfl
   ·cases (gM p a (fH b a)).all gdI
    ·rfl
    simp only [Bool.not_true,Bool.and_self,Bool.or_self,cond_false]
    cases hx:fJ p a b (p.length+1) [] 0 with
    | inr r=>rfl
    | inl s =>
     simp only [dL_,sm,ap]
     cases hs:((Z.signW (dH s.1).dec).1 != 0)
     ·rw [cond_false,N4 s.1 s.2 hs]
     rw [cond_true,R3 s.1 s.2 hs _ _ _ O]
theorem R4 (p:List I) (a b:Rt):∀ (f:Nat) (out:List I) (i:Nat),(∀ s,fJ p a b f out i = .inl s→s.1.length≤out.length+f)∧(∀ r,fJ p a b f out i = .inr r→r.1=[])
 | 0,out,i=>⟨fun s h=>by cases h;exact Nat.le_refl _,fun r h=>by cases h⟩
 | f+1,out,i=>by
  unfold fJ
  cases decide ((i:Int)<(p.length:Int))
  ·exact ⟨fun s h=>by cases h;exact Nat.le_add_right _ _,fun r h=>by cases h⟩
  simp only [cond_true,ap]
  cases (gV p a b out i ((eG ((p.length:Int) - 1) (i:Int)).length+1) 0 I0).2.1.bad
  ·obtain ⟨h1,h2⟩:=R4 p a b f (out++[(gV p a b out i ((eG ((p.length:Int) - 1) (i:Int)).length+1) 0 I0).2]) (i+1)
   refine ⟨fun s h=>?_,fun r h=>h2 r h⟩;have:=h1 s h;rw [List.length_append,List.length_cons,List.length_nil] at this;omega
  exact ⟨fun s h=>(by cases h),fun r h=>(by cases h;rfl)⟩
theorem R5 (p:List I) (a b:Rt) (out0:List I) (i0:Nat):∀ (f k:Nat) (t:List I),(iY p a b out0 i0 f k t).2.length=t.length
 | 0,k,t=>rfl
 | f+1,k,t=>by
  unfold iY
  cases decide ((k:Int)<(out0.length:Int))
  ·rfl
  rw [cond_true,R5 p a b out0 i0 f (k+1),List.length_set]
theorem U9 (hp:p.length≤100) (a b:Rt):(eJ p a b).1.length≤1000:=by
 unfold eJ
 cases (dC p || !k8 [a,b])
 ·cases dC (gM p a (fH b a))
  ·simp only [cond_false]
   obtain ⟨h1,h2⟩:=R4 p a b (p.length+1) [] 0
   cases hx:fJ p a b (p.length+1) [] 0 with
   | inr r=>rw [show (sm _ (fun r=>r) (Sum.inr r:(List I×Nat) ⊕ (List I×Bool)))=r from rfl,h2 r hx];decide
   | inl s =>
    have:=h1 s hx;rw [List.length_nil] at this;simp only [sm,ap]
    cases ((Z.signW (dH s.1).dec).1 != 0)
    ·simp only [cond_false];omega
    simp only [cond_true];rw [R5];omega
  exact Nat.zero_le _
 exact Nat.zero_le _
end
theorem F5 (l:List I) (f:I→Bool):∀ (k i:Nat),l.length - i<k→(∃ j:Nat,j<l.length∧k6 l f k i = .inr (W.cv (j:Int))∧(l.drop i).any f=true)∨(∃ j,k6 l f k i = .inl j∧(l.drop i).any f=false)
 | 0,i,h=>absurd h (Nat.not_lt_zero _)
 | k+1,i,h=>by
  unfold k6
  by_cases hi:i<l.length
  ·rw [decide_eq_true oo_,cond_true,vP l hi,List.any_cons]
   cases hf:f (l.getD i I0)
   ·simp only [cond_false,Bool.false_or]
    exact F5 l f k (i+1) oo_
   exact .inl ⟨i,hi,rfl,rfl⟩
  rw [decide_eq_false oo_,cond_false,List.drop_of_length_le oo_];exact .inr ⟨i,rfl,rfl⟩
theorem MH (l:List I) (f:I→Bool) (hl:l.length≤1000):rN l f=l.any f:=by
 unfold rN sM;rcases F5 l f (l.length+1) 0 oo_ with ⟨j,hj,h1,h2⟩|⟨j,h1,h2⟩
 ·rw [h1]
  show decide (0≤(W.cv (j:Int)).1)=_
  rw [cvE oo_,decide_eq_true oo_];rw [List.drop_zero] at h2;exact h2.symm
 rw [h1];rw [List.drop_zero] at h2;rw [h2];rfl
theorem KR (p:List I) (a c:Rt):∀ (k i:Nat),(aT p a c).l.length - i<k→(iC p a c k i = .inr (false,wl 0)∧((aT p a c).l.drop i).any j8=true)∨(∃ j,iC p a c k i = .inl j∧((aT p a c).l.drop i).any j8=false)
 | 0,i,h=>absurd h (Nat.not_lt_zero _)
 | k+1,i,h=>by
  unfold iC
  by_cases hi:i<(aT p a c).l.length
  ·rw [decide_eq_true oo_,cond_true,vP _ hi,List.any_cons,show decide ((Z.signW ((aT p a c).l.getD i I0).dec).1<0)=j8 ((aT p a c).l.getD i I0) from rfl]
   cases j8 ((aT p a c).l.getD i I0)
   ·simp only [cond_false,Bool.false_or]
    exact KR p a c k (i+1) oo_
   exact .inl ⟨rfl,rfl⟩
  rw [decide_eq_false oo_,cond_false,List.drop_of_length_le oo_];exact .inr ⟨i,rfl,rfl⟩
theorem KW {p:List I} (hp:p.length≤7) (a c:Rt):iK p a c=cR p a c:=by
 have hl:=U9 (show p.length≤100 by omega) a c;have e:=VB hp a c
 have e1:(eJ p a c).1=(aT p a c).l:=by rw [e]
 have e2:(eJ p a c).2=(aT p a c).is:=by rw [e]
 unfold iK cR;rw [e2,MH _ _ hl,e1]
 cases (aT p a c).is
 ·rfl
 simp only [cond_true];rcases KR p a c ((aT p a c).l.length+1) 0 oo_ with ⟨h1,h2⟩|⟨j,h1,h2⟩
 ·rw [List.drop_zero] at h2
  rw [h1,show (fun y=>j8 y)=j8 from rfl,h2];rfl
 rw [List.drop_zero] at h2;rw [h1,show (fun y=>j8 y)=j8 from rfl,h2];rfl
open Go Go.Kn
theorem QW {V S:List I} (hV:V.length≤4) (hS:S.length≤4) (r:Rt) (q:I):(JN V S r q).length≤4:=X7 (ER _ hV dd_ dd_) (ER _ hS dd_ dd_) dd_ dd_
theorem ci_ {V:A3 (List I)} {S:List I} (h1:V.x.length≤4) (h2:V.y.length≤4) (h3:V.z.length≤4) (hS:S.length≤4) (b:A3 Rt) (m:Rt):(IZ V S b m).length≤7:=by
 unfold IZ;have m7:∀ {p:List I},p.length≤4→(aV p p).length≤7:=fun h=>ZW h h dd_;exact Z1 (X7 (ER _ (m7 hS) dd_ dd_) (ER _ (ME (ME (ME (Nat.zero_le _) (m7 (QW h1 hS _ _)) dd_ dd_) (m7 (QW h2 hS _ _)) dd_ dd_) (m7 (QW h3 hS _ _)) dd_ dd_) dd_ dd_) dd_ dd_) dd_ dd_
theorem U4 {h:Path} {v:A3 W} (hc:(cW h).1=0) (hi:dZ v (wl 262144)=true):(cJ h v).1.x.length≤4∧(cJ h v).1.y.length≤4∧(cJ h v).1.z.length≤4∧(cJ h v).2.length≤4:=by
 obtain ⟨s,A,B,C,D,_,_,_,_,_,_,hx⟩:=HO (aH_ hc) (YI hi);refine ⟨hx.x.po.len hx.x.bd,hx.y.po.len hx.y.bd,hx.z.po.len hx.z.bd,?_⟩;rw [hx.s2];exact Nat.le_trans (hx.s.po.len hx.s.bd) dd_
theorem QG (h:Path) (v:A3 W) (b:A3 Rt) (m:Rt):(cZ h v b m).1.length≤7:=by
 rw [LL,DA,KV]
 cases h1:((cW h).1 != 0)
 ·have hc:(cW h).1=0:=by simpa using h1
  cases h2:dZ v (wl 262144)
  ·simp only [Bool.not_false,Bool.true_or,Bool.or_true,cond_true];exact Nat.zero_le _
  obtain ⟨l1,l2,l3,l4⟩:=U4 hc h2;generalize cJ h v=V at *;clear h1 hc h2;have:=ci_ l1 l2 l3 l4 b m;generalize IZ V.1 V.2 b m=L at *
  cases (false||(!true||(hJ m||kN [b.x,b.y,b.z] fun y=>hJ y)))<;>cases dC L<;>first|exact Nat.zero_le _|exact this
 simp only [Bool.true_or,cond_true];exact Nat.zero_le _
theorem NZ {p:List I} (l1:p.length≤1000) (x:Rt):j1 p x=((bB p x).s,(bB p x).ok):=by
 unfold j1 bB;rw [TO x l1]
 cases hb:(dX p x).1.bad
 ·rfl
 have h0:Z.signW (dX p x).dec=wl 0:=W.ext (by
  show (dX p x).dec.sign=0
  have hn:(dX p x).dec.o=none:=by rw [I.dec,uN (by unfold R.good;rw [hb];rfl)];rfl
  unfold Z.sign;rw [hn])
 rw [h0];rfl
theorem EP {p:List I} {x:Rt} (h:(bB p x).ok=false):(bB p x).s.1=0:=by
 unfold bB at h ⊢
 cases hb:(dX p x).1.bad
 ·rw [hb] at h;cases h
 rfl
theorem bP_ (p:List I) (a c:Rt):(bif (bB p a).ok then (decide (((bB p a).s).1<0)||((bB p c).ok&&decide (((bB p c).s).1<0))) else ((bB p c).ok&&decide (((bB p c).s).1<0)))=(decide (((bB p a).s).1<0)||decide (((bB p c).s).1<0)):=by
 cases ha:(bB p a).ok<;>cases hc:(bB p c).ok
 ·rw [EP ha,EP hc];rfl
 ·rw [EP ha];simp
 ·rw [EP hc];simp
 simp
theorem I3 {p:List I} (hp:p.length≤7):∀ (n:Nat) (a c:Rt) (k:Nat) (t:List Rt),k<n→(bO p n a c k t).1=(aD n p a c (k:Int)).e∧((aD n p a c (k:Int)).e.1=0→(bO p n a c k t).2=t++(aD n p a c (k:Int)).l)∧((aD n p a c (k:Int)).e.1≠0→(aD n p a c (k:Int)).l=[])
 | 0,a,c,k,t,h=>absurd h (Nat.not_lt_zero _)
 | n+1,a,c,k,t,h=>by
  rw [bO,aD,bP_,NZ (show p.length≤1000 by omega) a,NZ (show p.length≤1000 by omega) c,KW hp,a9_];simp only
  cases (decide (((bB p a).s).1<0)||decide (((bB p c).s).1<0))
  ·simp only [cond_false]
   cases (!((bB p a).ok)||(!((bB p c).ok)||(((cR p a c).2).1 != 0)))
   ·simp only [cond_false]
    cases (cR p a c).1
    ·simp only [cond_false]
     cases hk:((k:Int)==0)
     ·simp only [cond_false]
      have hk0:(k:Int)≠0:=by simpa using hk
      have ec:((k - 1:Nat):Int)=(k:Int) - 1:=by omega
      obtain ⟨a1,a2,a3⟩:=I3 hp n a (aM a c) (k - 1) t oo_;obtain ⟨b1,b2,b3⟩:=I3 hp n (aM a c) c (k - 1) (bO p n a (aM a c) (k - 1) t).2 oo_;rw [ec] at a1 a2 a3 b1 b2 b3;rw [a1]
      by_cases h1:(aD n p a (aM a c) ((k:Int) - 1)).e.1=0
      ·rw [show ((aD n p a (aM a c) ((k:Int) - 1)).e.1 != 0)=false by simpa using h1]
       simp only [cond_false]
       by_cases h2:(aD n p (aM a c) c ((k:Int) - 1)).e.1=0
       ·rw [show ((aD n p (aM a c) c ((k:Int) - 1)).e.1 != 0)=false by simpa using h2]
        simp only [cond_false];refine ⟨b1.trans (W.ext h2),fun _=>?_,fun h=>absurd O h⟩;rw [b2 h2,a2 h1,List.nil_append,List.append_assoc]
       rw [show ((aD n p (aM a c) c ((k:Int) - 1)).e.1 != 0)=true by simpa using h2];simp only [cond_true];exact ⟨b1,fun h=>absurd h h2,fun _=>b3 h2⟩
      rw [show ((aD n p a (aM a c) ((k:Int) - 1)).e.1 != 0)=true by simpa using h1];simp only [cond_true];exact ⟨trivial,fun h=>absurd h h1,fun _=>a3 h1⟩
     exact ⟨rfl,fun h=>absurd h (show ¬ (160:Int)=0 by decide),fun _=>rfl⟩
    exact ⟨rfl,fun _=>rfl,fun h=>absurd O h⟩
   exact ⟨rfl,fun h=>absurd h (show ¬ (30:Int)=0 by decide),fun _=>rfl⟩
  exact ⟨rfl,fun h=>absurd h (show ¬ (200:Int)=0 by decide),fun _=>rfl⟩
theorem NN (h:Path) (v:A3 W) (b:A3 Rt) (m:Rt):(cZ h v b m).1=(aW h v b m).p:=by rw [N1]
theorem S7 (h:Path) (v:A3 W) (b:A3 Rt) (m:Rt):(cZ h v b m).2=(aW h v b m).e:=by rw [N1]
theorem GE (h:Path) (v:A3 W) (b:A3 Rt) (m:Rt):(aW h v b m).p.length≤7:=by rw [← NN];exact QG h v b m
theorem VF (h:Path) (v:A3 W) (b:A3 Rt) (m:Rt) (k:Int):fK h v b m k=((dO h v b m k).l,(dO h v b m k).e):=by
 have hp:=GE h v b m;unfold fK dO gJ;rw [NN,S7,RX,RX];generalize aW h v b m=S at *
 cases hs:(S.e.1 != 0)
 ·cases hk:(decide (k<0)||decide (12<k))
  ·simp only [cond_false]
   have hk0:0≤k:=by
    simp only [Bool.or_eq_false_iff,decide_eq_false_iff_not] at hk;omega
   obtain ⟨a1,a2,a3⟩:=I3 hp (k.toNat+1) (aI (wl 0)) (aI (wl 1)) k.toNat [] (Nat.lt_succ_self _);rw [Int.toNat_of_nonneg hk0] at a1 a2 a3;rw [a1];generalize aD (k.toNat+1) S.p (aI (wl 0)) (aI (wl 1)) k=X at *
   by_cases h1:X.e.1=0
   ·rw [show (X.e.1 != 0)=false by simpa using h1,cond_false,a2 h1,List.nil_append,show wl 0=X.e from (W.ext h1).symm]
   rw [show (X.e.1 != 0)=true by simpa using h1,cond_true,a3 h1]
  rfl
 rfl
theorem c2_ (l:List Rt) {i:Nat} (h:i<l.length):l.drop i=l.getD i Rt0::l.drop (i+1):=by
 rw [List.drop_eq_getElem_cons h];simp [List.getD,h]
theorem SD (h:Path) (v:A3 W) (b:A3 Rt) (m:Rt) (l:List Rt):∀ (k i:Nat) (x:Rt),l.length - i<k →
  (∃ p q,lV h v b m l (l.drop i) x = .inl p∧gC h v b m l k i x = .inl q)∨(lV h v b m l (l.drop i) x = .inr false∧gC h v b m l k i x = .inr false)
 | 0,i,x,hk=>absurd hk (Nat.not_lt_zero _)
 | k+1,i,x,hk=>by
  by_cases hi:i<l.length
  ·rw [c2_ l hi,lV,gC,NN,KW (GE h v b m),wT,a7_,decide_eq_true (show (i:Int)<(l.length:Int) by omega)]
   simp only [cond_true]
   cases (!(aP (l.getD i Rt0))||decide ((j5 (l.getD i Rt0) x).1≤0))
   ·simp only [cond_false]
    cases (!((cR (aW h v b m).p x (l.getD i Rt0)).1)||((cR (aW h v b m).p x (l.getD i Rt0)).2.1 != 0))
    ·exact SD h v b m l k (i+1) _ oo_
    exact .inr ⟨rfl,rfl⟩
   exact .inr ⟨rfl,rfl⟩
  rw [gC,decide_eq_false (show ¬ (i:Int)<(l.length:Int) by omega),List.drop_of_length_le oo_];exact .inl ⟨_,_,rfl,rfl⟩
theorem YR (h:Path) (v:A3 W) (b:A3 Rt) (m:Rt) (l:List Rt):oB h v b m l=iA h v b m l:=by
 unfold oB iA;rw [S7,RX,RX];rcases SD h v b m l (l.length+1) 0 (aI (wl 0)) oo_ with ⟨p,q,h1,h2⟩|⟨h1,h2⟩
 ·rw [List.drop_zero] at h1
  rw [h1,h2];rfl
 rw [List.drop_zero] at h1;rw [h1,h2];rfl
theorem VD (hs:iZ=true) (h:Path) (v:A3 W) (b:A3 Rt) (m:Rt) (k:W) (l:List Rt):iT h v b m k l=true:=by
 unfold iT;rw [hs,VF,YR,be_]
 cases (decide (40<(l.length:Int))||(decide (4<k.1)&&decide (k.1≤12)))<;>simp
open Go Go.Kn Go.RowKit Go.ChangeShapes Go.WideShapes
section
variable {H:Type} {enc:TypeId×Value→H} {P:Program} {w:World} {base:Nat} {spare:Nat→Bool} {held:Bool} {α:Type} {e:El α}
theorem Rd.app {a:Addr} {A B:List Value} (h:Rd w a A) (k:Rd w (a.add A.length) B):Rd w a (A++B):=fun j v hj=>by
 rcases Nat.lt_or_ge j A.length with h'|h'
 ·rw [List.getElem?_append_left h'] at hj;exact h j v hj
 rw [List.getElem?_append_right h'] at hj;have:=k _ _ hj;rw [MC,Nat.add_sub_cancel' h'] at this;exact this
theorem Rd.of_cells {a:Addr} {n:Nat} {cs:List Value} (h:w.cells? base a n=some cs):Rd w a cs:=fun j v hj=>by
 obtain ⟨_,hl,hc⟩:=World.cells?_some h;have hj':j<cs.length:=(List.getElem?_eq_some_iff.1 hj).1;have h1:=hc j oo_;rw [hj] at h1;exact h1
theorem SX {a:Addr} {len:Nat} (h:∀ i,i<len→∃ x:α,w.cells? base (a.add (i*e.n)) e.n=some (e.cs x)):∀ k,k≤len→∃ l:List α,l.length=k∧Rd w a (rows e l)
 | 0,_=>⟨[],rfl,fun j v hj=>by simp [rows] at hj⟩
 | k+1,hk=>by
  obtain ⟨l,hl,hr⟩:=SX h k oo_;obtain ⟨x,hx⟩:=h k oo_;refine ⟨l++[x],by simp [hl],?_⟩;rw [wL];refine Rd.app hr ?_;rw [nR,hl];have:=Rd.of_cells hx
  simpa [rows] using this
theorem b1_ {T E:TypeId} {ls:List sP} {v:Value} {d:DataW H} {p:List MemPlace} {b0:Nat} {r:Reach} (hT:P.underlying T=some (.slice E)) (hl:lz P 8 E=some ls) (hn:P.cellsOf E=e.n)
  (op:∀ cs,LWF cs ls→∃ x:α,cs=e.cs x) (hv:Value.okWide P w r b0 T v) (ht:DataW.Trod enc P w base spare held T v d p):∃ l:List α,Slr w e v l:=by
 obtain ⟨fuel,hf⟩:=ht
 have hv':∃ a n c,v = .slice a n c:=by
  unfold Value.okWide at hv;rw [hT] at hv;unfold Cell.okWide at hv;rw [hT] at hv
  cases v<;>simp_all [Cell.ok]
 obtain ⟨a,n,c,rfl⟩:=hv';have e1:(Value.slice a n c).cells.toList=[.slice a n c]:=rfl;rw [e1] at hf;rcases DataW.trod_slice hT hf with ⟨h,_⟩|⟨a',len,cap,elems,rest,m,_,h,_,_,hlc,hc,hel,hall,_⟩
 ·cases h
  exact ⟨[],none,0,rfl,Nat.le_refl _,by decide,.inl ⟨rfl,rfl,rfl⟩⟩
 ·cases h
  have hx:∀ i,i<n→∃ x:α,w.cells? base (a'.add (i*e.n)) e.n=some (e.cs x):=fun i hi=>by
   have h1:=hall i hi;rw [List.getElem?_eq_getElem oo_,hn] at h1
   cases hc':w.cells? base (a'.add (i*e.n)) e.n with
   | none=>rw [hc'] at h1;cases h1
   | some cs =>
    rw [hc'] at h1;obtain ⟨x,hx⟩:=op cs (yO 8 hl h1);exact ⟨x,by rw [hx]⟩
  obtain ⟨l,hl',hr⟩:=SX hx n (Nat.le_refl _);exact ⟨l,some a',c,by rw [hl'],by omega,hc,.inr ⟨a',rfl,hr⟩⟩
end
theorem eF_ {cs:List Value} (h:LWF cs (LI++LI)):∃ x:Rt,cs=elRt.cs x:=by
 obtain ⟨c0,r0,rfl,u0,u1⟩:=LWF.split h;obtain ⟨x0,rfl⟩:=aQ_ u0;obtain ⟨x1,rfl⟩:=aQ_ u1;exact ⟨⟨x0,x1⟩,rfl⟩
end Go.Num
