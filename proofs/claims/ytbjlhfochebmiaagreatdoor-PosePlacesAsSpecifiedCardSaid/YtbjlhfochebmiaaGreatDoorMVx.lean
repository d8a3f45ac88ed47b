/- Lemmas: what they ask stands in their statements. -/
import Derived.Test.YtbjlhfochebmiaaGreatDoorMPV
set_option linter.unusedSimpArgs false
set_option linter.unusedVariables false
set_option maxRecDepth 20000
namespace Go.Num
open Go Go.Kn
structure PB (p:List I) (c:Nat→Int) (n b:Nat):Prop where
 po:Po p c
 bd:Bd c n b
section
variable {p q:List I} {c d:Nat→Int} {n m b b':Nat}
theorem PB.mono (h:PB p c n b) {n' b1:Nat} (hn:n≤n') (hb:b≤b1):PB p c n' b1:=⟨h.po,h.bd.mono hn hb⟩
theorem PB.cast (h:PB p c n b) (e:∀ k,c k=d k):PB p d n b:=by
 have:c=d:=funext e;subst this;exact h
theorem PB.mul (h:PB p c n b) (g:PB q d m b') {e:Nat} (hn:n≤2 ^ e) (hl:n+m≤26) (hk:b+b'+e≤512):PB (bF p q) (conv c d) (n+m - 1) (b+b'+e):=⟨cT_ h.po g.po h.bd g.bd hn hl hk,h.bd.conv g.bd hn⟩
theorem PB.add (h:PB p c n b) (g:PB q d n b) (hk:b+1≤512):PB (bL p q) (fun k=>c k+d k) n (b+1):=⟨cJ_ h.po g.po h.bd g.bd hk,by have:=h.bd.add g.bd;rwa [Nat.max_self] at this⟩
theorem Bd.sub (h:Bd c n b) (g:Bd d n b):Bd (fun k=>c k - d k) n (b+1) :=
 ⟨fun k hk=>by show c k - d k=0;rw [h.z k hk,g.z k hk];rfl,fun k=>by
  have h1:=h.b k;have h2:=g.b k
  show (c k - d k).natAbs<2 ^ (b+1)
  rw [Nat.pow_succ];omega⟩
theorem PB.sub (h:PB p c n b) (g:PB q d n b) (hk:b+1≤512):PB (pX p q) (fun k=>c k - d k) n (b+1):=⟨cW_ h.po g.po fun k=>(h.bd.sub g.bd).B hk k,h.bd.sub g.bd⟩
theorem PB.scale (h:PB p c n b) {v:Int} {s:Nat} (hv:v.natAbs<2 ^ s) (hk:b+s≤512):PB (cX p (E (Z.of v))) (fun k=>c k*v) n (b+s):=by
 have hb:Bd (fun k=>c k*v) n (b+s):=⟨fun k hk=>by show c k*v=0;rw [h.bd.z k hk,Int.zero_mul],fun k=>wM (h.bd.b k) hv⟩;exact ⟨XN h.po (y5 hv oo_) fun k=>hb.B hk k,hb⟩
theorem PB.nil (n b:Nat):PB [] (fun _=>0) n b:=⟨R2,⟨fun _ _=>rfl,fun _=>Nat.pow_pos dd_⟩⟩
theorem cv_ (u w:W):dN [u,w]=xV [E (Z.of u.1),E (Z.of w.1)]:=by
 unfold dN;rw [GM,OJ];rfl
theorem O1 (u w:W):bI [u,w]=dN [u,w]:=by
 rw [cv_,XL];rfl
theorem PB.of2 {u w:W} {s:Nat} (hu:u.1.natAbs<2 ^ s) (hw:w.1.natAbs<2 ^ s) (hs:s≤512):PB (dN [u,w]) (lin u.1 w.1) 2 s:=by
 rw [cv_];exact ⟨dx_ (y5 hu hs) (y5 hw hs),dw_ hu hw⟩
theorem PB.rmul (h:PB p c n b) (g:PB q d m b'):bO p q=bF p q:=(aM_ h.po.l3 g.po.l3).symm
theorem PB.radd (h:PB p c n b) (g:PB q d m b'):aP p q=bL p q:=(aL_ h.po.l3 g.po.l3).symm
theorem PB.rsub (h:PB p c n b) (g:PB q d m b'):jO p q=pX p q:=(aN_ h.po.l3 g.po.l3).symm
theorem PB.rscale (h:PB p c n b) (v:I):bG p v=cX p v:=(VO v h.po.l3).symm
end
theorem a8_ (s:Int) (c d:Nat→Int) (k:Nat):conv (fun i=>c i*s) d k=conv c d k*s:=by
 have:=congrFun (YB s c d) k;rw [Int.mul_comm,← this]
 congr 1
 funext i
 exact Int.mul_comm _ _
def scC (A B C D:Nat→Int) (k:Nat):Int:=conv A A k+conv B B k+(conv C C k+conv D D k)
def dgC (A B C D:Nat→Int) (k:Nat):Int:=conv A A k+conv B B k - (conv C C k+conv D D k)
def twC (A B C D:Nat→Int) (s:Int) (k:Nat):Int:=(conv A B k+conv C D k*s)*2
def nuC (S X m0 m1 m2:Nat→Int) (v:A3 W) (k:Nat):Int:=conv S X k+m0 k*v.x.1+m1 k*v.y.1+m2 k*v.z.1
section
variable {a b c d:List I} {A B C D:Nat→Int}
theorem zZ (ha:PB a A 2 8) (hb:PB b B 2 8):PB (bF a b) (conv A B) 3 17:=ha.mul hb (e:=1) dd_ dd_ dd_
theorem b3_ (ha:PB a A 2 8) (hb:PB b B 2 8) (hc:PB c C 2 8) (hd:PB d D 2 8):PB (pA (wl 1) a a b b c c d d) (scC A B C D) 3 22:=by
 unfold pA;have h1:=(PB.nil 3 17).add (zZ ha ha) dd_;have h2:=h1.add ((zZ hb hb).mono (b1:=18) (Nat.le_refl _) dd_) dd_;have h3:=h2.add ((zZ hc hc).mono (b1:=19) (Nat.le_refl _) dd_) dd_;have h4:=h3.add ((zZ hd hd).mono (b1:=20) (Nat.le_refl _) dd_) dd_;refine (h4.scale (v:=1) (s:=1) dd_ dd_).cast fun k=>?_;unfold scC;omega
theorem IU (ha:PB a A 2 9) (hb:PB b B 2 8) (hc:PB c C 2 9) (hd:PB d D 2 8) (n:W) (hn:n.1.natAbs<2 ^ 2):PB (dH n a b c d) (fun k=>(conv A B k+conv C D k)*n.1) 3 22:=by
 unfold dH;have m1:=ha.mul hb (e:=1) dd_ dd_ dd_;have m2:=hc.mul hd (e:=1) dd_ dd_ dd_;have h1:=(PB.nil 3 18).add m1 dd_;have h2:=h1.add (m2.mono (b1:=19) (Nat.le_refl _) dd_) dd_;refine (h2.scale hn dd_).cast fun k=>?_;rw [Int.zero_add]
theorem TY (ha:PB a A 2 8) (hb:PB b B 2 8) (hc:PB c C 2 8) (hd:PB d D 2 8):PB (gX a b c d) (dgC A B C D) 3 23:=by
 unfold gX;have u:∀ {p:List I} {P:Nat→Int},PB p P 2 8→PB p P 2 9:=fun h=>h.mono (Nat.le_refl _) dd_;refine ((IU (u ha) ha (u hb) hb (wl 1) dd_).sub (IU (u hc) hc (u hd) hd (wl 1) dd_) dd_).cast fun k=>?_
 show (conv A A k+conv B B k)*1 - (conv C C k+conv D D k)*1=_
 unfold dgC;omega
theorem VG (ha:PB a A 2 8) (hb:PB b B 2 8) (hc:PB c C 2 8) (hd:PB d D 2 8):PB (dH (wl 2) a b c d) (twC A B C D 1) 3 23∧PB (dH (wl 2) a b (cX c (E (Z.of (-1)))) d) (twC A B C D (-1)) 3 23:=by
 have u:∀ {p:List I} {P:Nat→Int},PB p P 2 8→PB p P 2 9:=fun h=>h.mono (Nat.le_refl _) dd_
 constructor
 ·refine ((IU (u ha) hb (u hc) hd (wl 2) dd_).mono (b1:=23) (Nat.le_refl _) dd_).cast fun k=>?_
  show (_+_)*2=_
  unfold twC;omega
 have hm:=hc.scale (v:=-1) (s:=1) dd_ dd_;refine ((IU (u ha) hb hm hd (wl 2) dd_).mono (b1:=23) (Nat.le_refl _) dd_).cast fun k=>?_
 show (_+_)*2=_
 rw [a8_];rfl
def nuP (S X m0 m1 m2:List I) (v:A3 W):List I:=bL (bL (bL (bF S X) (cX m0 (E (Z.of v.x.1)))) (cX m1 (E (Z.of v.y.1)))) (cX m2 (E (Z.of v.z.1)))
def nuR (S X m0 m1 m2:List I) (v:A3 W):List I:=aP (aP (aP (bO S X) (bG m0 (E (Z.of v.x.1)))) (bG m1 (E (Z.of v.y.1)))) (bG m2 (E (Z.of v.z.1)))
def Vin (v:A3 W):Prop:=v.x.1.natAbs<2 ^ 19∧v.y.1.natAbs<2 ^ 19∧v.z.1.natAbs<2 ^ 19
theorem ZM {s x m0 m1 m2:List I} {S X M0 M1 M2:Nat→Int} {v:A3 W} (hv:Vin v) (hs:PB s S 3 22) (hx:PB x X 2 49) (h0:PB m0 M0 3 23) (h1:PB m1 M1 3 23) (h2:PB m2 M2 3 23):PB (nuP s x m0 m1 m2 v) (nuC S X M0 M1 M2 v) 4 76∧nuR s x m0 m1 m2 v=nuP s x m0 m1 m2 v:=by
 have k0:=hs.mul hx (e:=2) dd_ dd_ dd_;have k1:=(h0.scale hv.1 dd_).mono (n':=4) (b1:=73) dd_ dd_;have k2:=(h1.scale hv.2.1 dd_).mono (n':=4) (b1:=74) dd_ dd_;have k3:=(h2.scale hv.2.2 dd_).mono (n':=4) (b1:=75) dd_ dd_;have e1:=k0.add k1 dd_;have e2:=e1.add k2 dd_;have e3:=e2.add k3 dd_;refine ⟨e3,?_⟩;unfold nuR nuP;rw [hs.rmul hx,h0.rscale,h1.rscale,h2.rscale,k0.radd k1,e1.radd k2,e2.radd k3]
end
theorem ea_ {a b:W} (ha:a.1.natAbs<65) (hb:b.1.natAbs<65):(W.sub (W.mul (wl 1) b) a).1=b.1 - a.1∧(W.sub (W.mul (wl (-1)) b) a).1 = -b.1 - a.1:=by
 have e1:(W.mul (wl 1) b).1=b.1:=by
  show IntKind.i64.wrap (1*b.1)=_
  rw [Int.one_mul];exact wi oo_
 have e2:(W.mul (wl (-1)) b).1 = -b.1:=by
  show IntKind.i64.wrap (-1*b.1)=_
  rw [show (-1:Int)*b.1 = -b.1 by omega];exact wi oo_
 constructor
 ·show IntKind.i64.wrap ((W.mul (wl 1) b).1 - a.1)=_
  rw [e1];exact wi oo_
 show IntKind.i64.wrap ((W.mul (wl (-1)) b).1 - a.1)=_
 rw [e2];exact wi oo_
theorem IW {a b:W} (ha:a.1.natAbs<65) (hb:b.1.natAbs<65):PB (dN [a,W.sub (W.mul (wl 1) b) a]) (lin a.1 (1*b.1 - a.1)) 2 8∧PB (dN [a,W.sub (W.mul (wl (-1)) b) a]) (lin a.1 (-1*b.1 - a.1)) 2 8:=by
 obtain ⟨e1,e2⟩:=ea_ ha hb;have h1:=PB.of2 (u:=a) (w:=W.sub (W.mul (wl 1) b) a) (s:=8) oo_ (by rw [e1];omega) dd_;have h2:=PB.of2 (u:=a) (w:=W.sub (W.mul (wl (-1)) b) a) (s:=8) oo_ (by rw [e2];omega) dd_;rw [e1] at h1;rw [e2] at h2;exact ⟨by rw [show (1:Int)*b.1 - a.1=b.1 - a.1 by omega];exact h1,by rw [show (-1:Int)*b.1 - a.1 = -b.1 - a.1 by omega];exact h2⟩
structure Tq (h:Path) (s:Int):Prop where
 sg:s=1∨s = -1
 x:PB (aG h).x (lin h.from_.q.x.1 (s*h.to_.q.x.1 - h.from_.q.x.1)) 2 8
 y:PB (aG h).y (lin h.from_.q.y.1 (s*h.to_.q.y.1 - h.from_.q.y.1)) 2 8
 z:PB (aG h).z (lin h.from_.q.z.1 (s*h.to_.q.z.1 - h.from_.q.z.1)) 2 8
 t:PB (aG h).t (lin h.from_.q.t.1 (s*h.to_.q.t.1 - h.from_.q.t.1)) 2 8
theorem PS {h:Path} (hf:h.from_.q.i.Lw 65) (ht:h.to_.q.i.Lw 65):Tq h (if (fV h.from_.q h.to_.q).1<0 then -1 else 1)∧aC h=aG h:=by
 obtain ⟨a1,a2,a3,a4⟩:=hf;obtain ⟨b1,b2,b3,b4⟩:=ht;have k1:=IW (a:=h.from_.q.x) (b:=h.to_.q.x) a1 b1;have k2:=IW (a:=h.from_.q.y) (b:=h.to_.q.y) a2 b2;have k3:=IW (a:=h.from_.q.z) (b:=h.to_.q.z) a3 b3;have k4:=IW (a:=h.from_.q.t) (b:=h.to_.q.t) a4 b4
 constructor
 ·by_cases hc:(fV h.from_.q h.to_.q).1<0
  ·rw [if_pos hc]
   have e:aG h=⟨dN [h.from_.q.x,W.sub (W.mul (wl (-1)) h.to_.q.x) h.from_.q.x],dN [h.from_.q.y,W.sub (W.mul (wl (-1)) h.to_.q.y) h.from_.q.y],dN [h.from_.q.z,W.sub (W.mul (wl (-1)) h.to_.q.z) h.from_.q.z],dN [h.from_.q.t,W.sub (W.mul (wl (-1)) h.to_.q.t) h.from_.q.t]⟩:=by
    unfold aG;rw [D8,decide_eq_true hc];rfl
   exact ⟨.inr O,by rw [e];exact k1.2,by rw [e];exact k2.2,by rw [e];exact k3.2,by rw [e];exact k4.2⟩
  rw [if_neg hc]
  have e:aG h=⟨dN [h.from_.q.x,W.sub (W.mul (wl 1) h.to_.q.x) h.from_.q.x],dN [h.from_.q.y,W.sub (W.mul (wl 1) h.to_.q.y) h.from_.q.y],dN [h.from_.q.z,W.sub (W.mul (wl 1) h.to_.q.z) h.from_.q.z],dN [h.from_.q.t,W.sub (W.mul (wl 1) h.to_.q.t) h.from_.q.t]⟩:=by
   unfold aG;rw [D8,decide_eq_false hc];rfl
  exact ⟨.inl O,by rw [e];exact k1.1,by rw [e];exact k2.1,by rw [e];exact k3.1,by rw [e];exact k4.1⟩
 unfold aC aG;simp only [D8,O1]
structure Hv (h:Path):Prop where
 fq:h.from_.q.i.Lw 65∧¬ h.from_.q.i.zero
 tq:h.to_.q.i.Lw 65∧¬ h.to_.q.i.zero
 fx:h.from_.x.x.1.natAbs<2 ^ 47∧h.from_.x.y.1.natAbs<2 ^ 47∧h.from_.x.z.1.natAbs<2 ^ 47
 tx:h.to_.x.x.1.natAbs<2 ^ 47∧h.to_.x.y.1.natAbs<2 ^ 47∧h.to_.x.z.1.natAbs<2 ^ 47
theorem US {a:Pose} (h:(eU a).1=0):fW a.q=true∧a.x.x.1.natAbs<2 ^ 47∧a.x.y.1.natAbs<2 ^ 47∧a.x.z.1.natAbs<2 ^ 47:=by
 unfold eU at h
 cases h1:(decide (140737488355328≤a.x.x.1)||decide (a.x.x.1≤(-140737488355328)))
 ·cases h2:(decide (140737488355328≤a.x.y.1)||decide (a.x.y.1≤(-140737488355328)))
  ·cases h3:(decide (140737488355328≤a.x.z.1)||decide (a.x.z.1≤(-140737488355328)))
   ·cases h4:fW a.q
    ·rw [h1,h2,h3,h4] at h;exact absurd h (show ¬ (1:Int)=0 by decide)
    simp only [Bool.or_eq_false_iff,decide_eq_false_iff_not] at h1 h2 h3;exact ⟨rfl,by omega,by omega,by omega⟩
   rw [h1,h2,h3] at h;exact absurd h (show ¬ (1:Int)=0 by decide)
  rw [h1,h2] at h;exact absurd h (show ¬ (1:Int)=0 by decide)
 rw [h1] at h;exact absurd h (show ¬ (1:Int)=0 by decide)
theorem eN_ {h:Path} (hc:(gR h).1=0):Hv h:=by
 unfold gR at hc;rcases VN h.from_ with k|k
 ·rw [k] at hc
  have hc':(eU h.to_).1=0:=hc;obtain ⟨v1,x1⟩:=US (a:=h.from_) (by rw [k]);obtain ⟨v2,x2⟩:=US hc';exact ⟨NM v1,NM v2,x1,x2⟩
 rw [k] at hc;exact absurd hc (show ¬ (1:Int)=0 by decide)
structure Vx (h:Path) (v:A3 W) (A B C D:Nat→Int):Prop where
 s:PB (fK h) (scC A B C D) 3 22
 s2:(aS h v).2=fK h
 x:PB (aS h v).1.x (nuC (scC A B C D) (lin h.from_.x.x.1 (h.to_.x.x.1 - h.from_.x.x.1)) (dgC A B C D) (twC B C A D (-1)) (twC B D A C 1) v) 4 76
 y:PB (aS h v).1.y (nuC (scC A B C D) (lin h.from_.x.y.1 (h.to_.x.y.1 - h.from_.x.y.1)) (twC B C A D 1) (dgC A C B D) (twC C D A B (-1)) v) 4 76
 z:PB (aS h v).1.z (nuC (scC A B C D) (lin h.from_.x.z.1 (h.to_.x.z.1 - h.from_.x.z.1)) (twC B D A C (-1)) (twC C D A B 1) (dgC A D B C) v) 4 76
 r:aJ h v=⟨(aS h v).1,fK h⟩
theorem zP (h:Path) (v:A3 W):aS h v =
 (⟨nuP (fK h) (dN [h.from_.x.x,W.sub h.to_.x.x h.from_.x.x]) (gX (aG h).x (aG h).y (aG h).z (aG h).t) (dH (wl 2) (aG h).y (aG h).z (cX (aG h).x (E (Z.of (-1)))) (aG h).t) (dH (wl 2) (aG h).y (aG h).t (aG h).x (aG h).z) v,
  nuP (fK h) (dN [h.from_.x.y,W.sub h.to_.x.y h.from_.x.y]) (dH (wl 2) (aG h).y (aG h).z (aG h).x (aG h).t) (gX (aG h).x (aG h).z (aG h).y (aG h).t) (dH (wl 2) (aG h).z (aG h).t (cX (aG h).x (E (Z.of (-1)))) (aG h).y) v,
  nuP (fK h) (dN [h.from_.x.z,W.sub h.to_.x.z h.from_.x.z]) (dH (wl 2) (aG h).y (aG h).t (cX (aG h).x (E (Z.of (-1)))) (aG h).z) (dH (wl 2) (aG h).z (aG h).t (aG h).x (aG h).y) (gX (aG h).x (aG h).t (aG h).y (aG h).z) v⟩,fK h):=rfl
theorem RD (h:Path) (v:A3 W):aJ h v =
 ⟨⟨nuR (fX h) (bI [h.from_.x.x,W.sub h.to_.x.x h.from_.x.x]) (dY (aC h).x (aC h).y (aC h).z (aC h).t) (cK (aC h).y (aC h).z (aC h).x (aC h).t (wl (-1))) (cK (aC h).y (aC h).t (aC h).x (aC h).z (wl 1)) v,
  nuR (fX h) (bI [h.from_.x.y,W.sub h.to_.x.y h.from_.x.y]) (cK (aC h).y (aC h).z (aC h).x (aC h).t (wl 1)) (dY (aC h).x (aC h).z (aC h).y (aC h).t) (cK (aC h).z (aC h).t (aC h).x (aC h).y (wl (-1))) v,
  nuR (fX h) (bI [h.from_.x.z,W.sub h.to_.x.z h.from_.x.z]) (cK (aC h).y (aC h).t (aC h).x (aC h).z (wl (-1))) (cK (aC h).z (aC h).t (aC h).x (aC h).y (wl 1)) (dY (aC h).x (aC h).t (aC h).y (aC h).z) v⟩,fX h⟩:=rfl
section
variable {a b c d:List I} {A B C D:Nat→Int}
theorem TE (ha:PB a A 2 8) (hb:PB b B 2 8) (hc:PB c C 2 8) (hd:PB d D 2 8):dY a b c d=gX a b c d:=by
 have k1:=zZ ha ha;have k2:=zZ hb hb;have k3:=zZ hc hc;have k4:=zZ hd hd;have s1:=k1.add k2 dd_;have s2:=k3.add k4 dd_;unfold dY aH;rw [ha.rmul ha,hb.rmul hb,hc.rmul hc,hd.rmul hd,k1.radd k2,k3.radd k4,s1.rsub s2];exact (s1.sub s2 dd_).po.eq (TY ha hb hc hd).po
theorem TH (ha:PB a A 2 8) (hb:PB b B 2 8) (hc:PB c C 2 8) (hd:PB d D 2 8):cK a b c d (wl 1)=dH (wl 2) a b c d∧cK a b c d (wl (-1))=dH (wl 2) a b (cX c (E (Z.of (-1)))) d:=by
 have k1:=zZ ha hb;have k2:=zZ hc hd;obtain ⟨t1,t2⟩:=VG ha hb hc hd
 constructor
 ·have k3:=k2.scale (v:=1) (s:=1) dd_ dd_
  have k4:=(k1.mono (b1:=18) (Nat.le_refl _) dd_).add k3 dd_;unfold cK;rw [ha.rmul hb,hc.rmul hd,k2.rscale,k1.radd k3,k4.rscale];exact (k4.scale (v:=2) (s:=2) dd_ dd_).po.eq t1.po
 have k3:=k2.scale (v:=-1) (s:=1) dd_ dd_;have k4:=(k1.mono (b1:=18) (Nat.le_refl _) dd_).add k3 dd_;unfold cK;rw [ha.rmul hb,hc.rmul hd,k2.rscale,show (wl (-1)).1 = -1 from rfl,k1.radd k3,k4.rscale];exact (k4.scale (v:=2) (s:=2) dd_ dd_).po.eq t2.po
end
theorem d1_ {α β:Type} {p:α×β} {a:α} {b:β} (h:p=(a,b)):p.2=b:=by rw [h]
theorem IY {h:Path} (hh:Hv h) {v:A3 W} (hv:Vin v):∃ s A B C D,(s=1∨s=(-1:Int))∧A=lin h.from_.q.x.1 (s*h.to_.q.x.1 - h.from_.q.x.1)∧B=lin h.from_.q.y.1 (s*h.to_.q.y.1 - h.from_.q.y.1)∧C=lin h.from_.q.z.1 (s*h.to_.q.z.1 - h.from_.q.z.1)∧D=lin h.from_.q.t.1 (s*h.to_.q.t.1 - h.from_.q.t.1)∧s=(if (fV h.from_.q h.to_.q).1<0 then -1 else 1)∧Vx h v A B C D:=by
 obtain ⟨tq,te⟩:=PS hh.fq.1 hh.tq.1;refine ⟨_,_,_,_,_,tq.sg,rfl,rfl,rfl,rfl,rfl,?_⟩;have hx:=tq.x;have hy:=tq.y;have hz:=tq.z;have ht:=tq.t;generalize lin h.from_.q.x.1 _=A at *;generalize lin h.from_.q.y.1 _=B at *;generalize lin h.from_.q.z.1 _=C at *;generalize lin h.from_.q.t.1 _=D at *;have sc:PB (fK h) (scC A B C D) 3 22:=b3_ hx hy hz ht
 have rs:fX h=fK h:=by
  have k1:=zZ hx hx;have k2:=zZ hy hy;have k3:=zZ hz hz;have k4:=zZ ht ht;have s1:=k1.add k2 dd_;have s2:=k3.add k4 dd_;unfold fX aH;rw [te,hx.rmul hx,hy.rmul hy,hz.rmul hz,ht.rmul ht,k1.radd k2,k3.radd k4,s1.radd s2];exact (s1.add s2 dd_).po.eq sc.po
 have pos:∀ {a b:W},a.1.natAbs<2 ^ 47→b.1.natAbs<2 ^ 47→PB (dN [a,W.sub b a]) (lin a.1 (b.1 - a.1)) 2 49:=fun {a b} ha hb=>by
  have e:(W.sub b a).1=b.1 - a.1:=wi ⟨by show _≤b.1 - a.1;omega,by show b.1 - a.1≤_;omega⟩;have:=PB.of2 (u:=a) (w:=W.sub b a) (s:=49) oo_ (by rw [e];omega) dd_
  rwa [e] at this
 have px:=pos hh.fx.1 hh.tx.1;have py:=pos hh.fx.2.1 hh.tx.2.1;have pz:=pos hh.fx.2.2 hh.tx.2.2;have d1:=TY hx hy hz ht;have d2:=TY hx hz hy ht;have d3:=TY hx ht hy hz;obtain ⟨t1,t2⟩:=VG hy hz hx ht;obtain ⟨t3,t4⟩:=VG hy ht hx hz;obtain ⟨t5,t6⟩:=VG hz ht hx hy;obtain ⟨n1,r1⟩:=ZM hv sc px d1 t2 t3;obtain ⟨n2,r2⟩:=ZM hv sc py t1 d2 t6;obtain ⟨n3,r3⟩:=ZM hv sc pz t4 t5 d3;have e1:=TE hx hy hz ht;have e2:=TE hx hz hy ht;have e3:=TE hx ht hy hz;obtain ⟨e4,e5⟩:=TH hy hz hx ht;obtain ⟨e6,e7⟩:=TH hy ht hx hz;obtain ⟨e8,e9⟩:=TH hz ht hx hy;have q1:=congrArg (fun t=>t.1.x) (zP h v);have q2:=congrArg (fun t=>t.1.y) (zP h v);have q3:=congrArg (fun t=>t.1.z) (zP h v)
 dsimp only at q1 q2 q3
 rw [← q1] at n1;rw [← q2] at n2;rw [← q3] at n3;refine ⟨sc,d1_ (zP h v),n1,n2,n3,?_⟩;have R:=RD h v;rw [rs,te,O1,O1,O1,e1,e2,e3,e4,e5,e6,e7,e8,e9,r1,r2,r3] at R;rw [R];exact (congrArg (fun t=>(⟨t.1,fK h⟩:Moving)) (zP h v)).symm
open Go Go.Kn
theorem S4 {a b:A4 W} (ha:a.i.Lw 65) (hb:b.i.Lw 65):(nK a b).1=a.x.1*b.x.1+a.y.1*b.y.1+a.z.1*b.z.1+a.t.1*b.t.1:=by
 obtain ⟨h1,h2,h3,h4⟩:=ha;obtain ⟨g1,g2,g3,g4⟩:=hb
 have u:∀ {p q:W},p.1.natAbs<65→q.1.natAbs<65→(p.1*q.1).natAbs<2 ^ 14∧(W.mul p q).1=p.1*q.1:=fun {p q} hp hq=>by
  have:=wM (b:=7) (b':=7) (u:=p.1) (v:=q.1) oo_ oo_;exact ⟨this,wi ⟨by omega,by omega⟩⟩
 obtain ⟨k1,e1⟩:=u h1 g1;obtain ⟨k2,e2⟩:=u h2 g2;obtain ⟨k3,e3⟩:=u h3 g3;obtain ⟨k4,e4⟩:=u h4 g4;have ad:∀ {p q:W},p.1.natAbs<2 ^ 60→q.1.natAbs<2 ^ 60→(W.add p q).1=p.1+q.1:=fun {p q} hp hq=>wi ⟨by omega,by omega⟩;unfold nK;rw [b2_];have e0:(wl 0).1=0:=rfl;have s0:=ad (p:=wl 0) (q:=W.mul a.x b.x) (by rw [e0];omega) (by rw [e1];omega);have s1:=ad (p:=W.add (wl 0) (W.mul a.x b.x)) (q:=W.mul a.y b.y) (by rw [s0,e0,e1];omega) (by rw [e2];omega);have s2:=ad (p:=W.add (W.add (wl 0) (W.mul a.x b.x)) (W.mul a.y b.y)) (q:=W.mul a.z b.z) (by rw [s1,s0,e0,e1,e2];omega) (by rw [e3];omega);have s3:=ad (p:=W.add (W.add (W.add (wl 0) (W.mul a.x b.x)) (W.mul a.y b.y)) (W.mul a.z b.z)) (q:=W.mul a.t b.t) (by rw [s2,s1,s0,e0,e1,e2,e3];omega) (by rw [e4];omega);rw [s3,s2,s1,s0,e0,e1,e2,e3,e4];omega
structure Vp (h:Path) (v:A3 W) (A B C D:Nat→Int):Prop where
 s:PB (fK h) (scC A B C D) 3 22
 s2:(aS h v).2=fK h
 x:PB (aS h v).1.x (nuC (scC A B C D) (lin h.from_.x.x.1 (h.to_.x.x.1 - h.from_.x.x.1)) (dgC A B C D) (twC B C A D (-1)) (twC B D A C 1) v) 4 76
 y:PB (aS h v).1.y (nuC (scC A B C D) (lin h.from_.x.y.1 (h.to_.x.y.1 - h.from_.x.y.1)) (twC B C A D 1) (dgC A C B D) (twC C D A B (-1)) v) 4 76
 z:PB (aS h v).1.z (nuC (scC A B C D) (lin h.from_.x.z.1 (h.to_.x.z.1 - h.from_.x.z.1)) (twC B D A C (-1)) (twC C D A B 1) (dgC A D B C) v) 4 76
 a:PB (aG h).x A 2 8
 b:PB (aG h).y B 2 8
 c:PB (aG h).z C 2 8
 d:PB (aG h).t D 2 8
theorem Bd.cz {c:Nat→Int} {n b:Nat} (h:Bd c n b):∀ i,n≤i→cR c i=0:=fun i hi=>by unfold cR;rw [h.z i hi];rfl
structure Az (q:Rat) (a b:Nat):Prop where
 n:q.num.natAbs<2 ^ a
 d:q.den<2 ^ b
theorem Sz.az {q:Rat} {k:Nat} (h:Sz q k):Az q k k:=⟨h.n,h.d⟩
theorem Az.sz {q:Rat} {a b k:Nat} (h:Az q a b) (h1:a≤k) (h2:b≤k):Sz q k:=⟨Nat.lt_of_lt_of_le h.n (yC h1),Nat.lt_of_lt_of_le h.d (yC h2)⟩
section
variable {p q:Rat} {a b a' b':Nat}
theorem Az.mono (h:Az q a b) (h1:a≤a') (h2:b≤b'):Az q a' b':=⟨Nat.lt_of_lt_of_le h.n (yC h1),Nat.lt_of_lt_of_le h.d (yC h2)⟩
theorem Az.bn (h:Az q a b) (hk:a≤512):iE q.num:=AO h.n hk
theorem Az.bd (h:Az q a b) (hk:b≤512):iE (q.den:Int):=AO (by simpa using h.d) hk
theorem UP {q:Rat} {n d:Int} (h:(n:Rat)=(d:Rat)*q):q.num*d=n*q.den:=by
 have h1:=Rat.num_divInt_den q;have hd:=@E8 q
 by_cases h0:d=0
 ·subst h0
  have:n=0:=Rat.intCast_eq_zero_iff.1 (by rw [h];exact Rat.zero_mul _);rw [this];omega
 have e:q=Rat.divInt n d:=by
  rw [Rat.divInt_eq_div,h,Rat.div_def,Rat.mul_comm,← Rat.mul_assoc,Rat.inv_mul_cancel _ (fun e=>h0 (Rat.intCast_eq_zero_iff.1 e)),Rat.one_mul]
 rw [e] at h1
 conv at h1=>lhs;rw [← e]
 exact (Rat.divInt_eq_divInt_iff oo_ h0).1 h1
theorem eo_ {n d:Int} (h:(n:Rat)=(d:Rat)*q) (h0:0<d) (hn:n.natAbs<2 ^ a) (hd:d.natAbs<2 ^ b):Az q a b:=by
 have e:=congrArg Int.natAbs (UP h);rw [Int.natAbs_mul,Int.natAbs_mul,Int.natAbs_natCast] at e;have hr:=q.reduced;have k1:q.den ∣ d.natAbs:=(Nat.Coprime.symm hr).dvd_of_dvd_mul_left (by rw [e];exact Nat.dvd_mul_left ..);have k2:q.num.natAbs ∣ n.natAbs:=Nat.Coprime.dvd_of_dvd_mul_right hr (by rw [← e];exact Nat.dvd_mul_right ..);refine ⟨?_,Nat.lt_of_le_of_lt (Nat.le_of_dvd oo_ k1) hd⟩
 by_cases hz:n.natAbs=0
 ·rw [hz,Nat.zero_mul] at e
  rcases Nat.mul_eq_zero.1 e with h1|h1
  ·rw [h1];exact Nat.pow_pos dd_
  omega
 exact Nat.lt_of_le_of_lt (Nat.le_of_dvd oo_ k2) hn
theorem Az.mul (h:Az p a b) (g:Az q a' b'):Az (p*q) (a+a') (b+b'):=by
 constructor
 ·rw [Rat.num_mul]
  refine Nat.lt_of_le_of_lt (Int.natAbs_ediv_le_natAbs _ _) ?_;rw [Int.natAbs_mul];exact uQ h.n g.n
 rw [Rat.den_mul];exact Nat.lt_of_le_of_lt (Nat.div_le_self _ _) (uQ h.d g.d)
theorem Az.neg (h:Az p a b):Az (-p) a b:=⟨by rw [Rat.neg_num,Int.natAbs_neg];exact h.n,h.d⟩
theorem PT {n m:Int} {d e c:Nat} (h1:n.natAbs<2 ^ a) (h2:e<2 ^ b') (h3:m.natAbs<2 ^ a') (h4:d<2 ^ b) (k1:a+b'<c) (k2:a'+b<c):(n*e+m*d).natAbs<2 ^ c:=by
 obtain ⟨c,rfl⟩:∃ k,c=k+1:=⟨c - 1,by omega⟩;have x:=Nat.lt_of_lt_of_le (uQ h1 h2) (yC (show a+b'≤c by omega));have y:=Nat.lt_of_lt_of_le (uQ h3 h4) (yC (show a'+b≤c by omega));have z:=Int.natAbs_add_le (n*e) (m*d);rw [Int.natAbs_mul,Int.natAbs_mul,Int.natAbs_natCast,Int.natAbs_natCast] at z;rw [Nat.pow_succ];omega
theorem Az.add {c:Nat} (h:Az p a b) (g:Az q a' b') (k1:a+b'<c) (k2:a'+b<c):Az (p+q) c (b+b'):=by
 constructor
 ·rw [Rat.num_add]
  exact Nat.lt_of_le_of_lt (Int.natAbs_ediv_le_natAbs _ _) (PT h.n g.d g.n h.d k1 k2)
 rw [Rat.den_add];exact Nat.lt_of_le_of_lt (Nat.div_le_self _ _) (uQ h.d g.d)
theorem Az.sub {c:Nat} (h:Az p a b) (g:Az q a' b') (k1:a+b'<c) (k2:a'+b<c):Az (p - q) c (b+b'):=by rw [Rat.sub_eq_add_neg];exact h.add g.neg k1 k2
theorem Az.int {n:Int} (h:n.natAbs<2 ^ a):Az (n:Rat) a 1:=⟨h,(by show 1<2 ^ 1;decide)⟩
theorem cS_ {x y:Rt} (hx:x.At p) (hy:y.At q) (hp:Az p a b) (hq:Az q a' b') (h:a+a'≤512) (h':b+b'≤512):(fJ x y).At (p*q) :=
 cR_ hx hy ((hp.mul hq).bn h) ((hp.mul hq).bd h')
theorem RZ {x' y':Rt} (ha:x'.At p) (hb:y'.At q) (hp:Az p a b) (hq:Az q a' b') (h1:a+b'<512) (h2:a'+b<512) (h3:b+b'≤512):(cN x' y').At (p+q):=by
 unfold cN;rw [BK ha,BK hb];simp only [Bool.not_true,Bool.or_false,cond_false];have ia:=At.is ha;have ib:=At.is hb;rw [ia.en,ia.ed,ib.en,ib.ed];simp only [fA];have hdp:=@E8 p;have hdq:=@E8 q
 have hg:0<((Int.gcd (p.den:Int) (q.den:Int):Nat):Int):=by
  have:=Int.gcd_pos_of_ne_zero_right (p.den:Int) (show (q.den:Int)≠0 by omega);omega
 have hbg:=YT (u:=(p.den:Int)) ib.hd oo_;have g1:((Int.gcd (p.den:Int) (q.den:Int):Nat):Int) ∣ (p.den:Int):=Int.gcd_dvd_left ..;have g2:((Int.gcd (p.den:Int) (q.den:Int):Nat):Int) ∣ (q.den:Int):=Int.gcd_dvd_right ..;rw [JF ia.hd ib.hd,FZ ib.hd hbg hg,FZ ia.hd hbg hg];generalize ((Int.gcd (p.den:Int) (q.den:Int):Nat):Int)=G at *;obtain ⟨x,hx⟩:=g1;obtain ⟨y,hy⟩:=g2
 have q1:(p.den:Int) / G=x:=by rw [hx];exact Int.mul_ediv_cancel_left _ oo_
 have q2:(q.den:Int) / G=y:=by rw [hy];exact Int.mul_ediv_cancel_left _ oo_
 rw [q1,q2]
 have x0:0<x:=by rw [hx] at hdp;exact Int.pos_of_mul_pos_right hdp hg
 have y0:0<y:=by rw [hy] at hdq;exact Int.pos_of_mul_pos_right hdq hg
 have xl:x≤p.den:=by rw [hx];have:=Int.mul_le_mul_of_nonneg_right (show (1:Int)≤G by omega) (Int.le_of_lt x0);omega
 have yl:y≤q.den:=by rw [hy];have:=Int.mul_le_mul_of_nonneg_right (show (1:Int)≤G by omega) (Int.le_of_lt y0);omega
 have x1:x.toNat<2 ^ b:=Nat.lt_of_le_of_lt oo_ hp.d;have y1:y.toNat<2 ^ b':=Nat.lt_of_le_of_lt oo_ hq.d
 have xe:x=(x.toNat:Int):=by omega
 have ye:y=(y.toNat:Int):=by omega
 have bx:iE x:=AO (k:=b) (by rw [xe,Int.natAbs_natCast];exact x1) oo_
 have by':iE y:=AO (k:=b') (by rw [ye,Int.natAbs_natCast];exact y1) oo_
 rw [BX ia.hn by',BX ib.hn bx,BX bx ib.hd]
 have t1:(p.num*y).natAbs<2 ^ (a+b'):=by rw [Int.natAbs_mul];exact uQ hp.n oo_
 have t2:(q.num*x).natAbs<2 ^ (a'+b):=by rw [Int.natAbs_mul];exact uQ hq.n oo_
 have t3:(x*(q.den:Int)).natAbs<2 ^ (b+b'):=by rw [Int.natAbs_mul];exact uQ oo_ (by simpa using hq.d)
 rw [NX (AO t1 oo_) (AO t2 oo_)]
 have t4:(p.num*y+q.num*x).natAbs<2 ^ (max (a+b') (a'+b)+1):=by
  have u1:=Nat.lt_of_lt_of_le t1 (yC (show a+b'≤max (a+b') (a'+b) by omega));have u2:=Nat.lt_of_lt_of_le t2 (yC (show a'+b≤max (a+b') (a'+b) by omega));rw [Nat.pow_succ];omega
 refine ID (AO t4 oo_) (AO t3 h3) (Int.mul_pos x0 hdq) ?_
 have key:p+q=Rat.divInt (p.num*y+q.num*x) (x*q.den):=by
  conv=>lhs;rw [← Rat.num_divInt_den p,← Rat.num_divInt_den q,Rat.divInt_add_divInt _ _ oo_ oo_]
  refine (Rat.divInt_eq_divInt_iff (Int.mul_ne_zero oo_ oo_) (Int.mul_ne_zero oo_ oo_)).2 ?_;rw [hx,hy];grind
 have h3:=Rat.num_divInt_den (p+q);rw [key] at h3 ⊢;have h4:=(Rat.divInt_eq_divInt_iff (by have:=@E8 (Rat.divInt (p.num*y+q.num*x) (x*q.den));omega) (Int.mul_ne_zero oo_ oo_)).1 h3;exact h4
end
open Go Go.Kn
def shf (d:Nat→Int) (i k:Nat):Int:=if i≤k then d (k - i) else 0
def fi_ (a o:Int) (d:Nat→Int) (n i:Nat) (r:Nat→Int) (k:Nat):Int:=a*r k - o*r (i+n)*shf d i k
def RemB (a o:Int) (d:Nat→Int) (n:Nat):Nat→(Nat→Int)→Prop
 | 0,r=>∀ k,iE (r k)
 | m+1,r=>(∀ k,iE (r k))∧iE (o*r (m+n))∧(∀ k,iE (a*r k))∧(∀ k,iE (o*r (m+n)*d k))∧RemB a o d n m (fi_ a o d n m r)
theorem RemB.B {a o:Int} {d:Nat→Int} {n:Nat}:∀ {m:Nat} {r:Nat→Int},RemB a o d n m r→∀ k,iE (r k)
 | 0,_,h=>h
 | _+1,_,h=>h.1
theorem fV_ {u:Int} {b b':Nat} (h:u.natAbs<2 ^ b) (hb:b≤b'):u.natAbs<2 ^ b':=Nat.lt_of_lt_of_le h (Nat.pow_le_pow_right dd_ hb)
section
variable {p q:List I} {c d:Nat→Int} {n:Nat}
end
open Go Go.Kn
def ff (i:Int):Nat→Int
 | 0=>1
 | k+1=>ff i k*(i - k)
def fac:Nat→Int
 | 0=>1
 | n+1=>fac n*((n+1:Nat):Int)
def wt (n i k:Nat):Int:=ff i k*fac (n - k)
def bs (γ:Nat→Int) (n i:Nat):Int:=wW (fun k=>wt n i k*γ k) (i+1)
section
variable {p:List I} {a b:Rt} {γ:Nat→Int} {n B:Nat}
end
open Go Go.Kn
def e26 (c:Nat→Int) (y:Rat):Rat:=vl (cR c) y 26
section
variable {c d:Nat→Int} {n m b b':Nat}
end
theorem JM (a:Int):0≤a*a:=by rw [← Int.natAbs_mul_self];exact Int.natCast_nonneg _
theorem IO {a:Int} (h:a≠0):1≤a*a:=by
 have:=JM a;have:a*a≠0:=Int.mul_ne_zero h h;omega
theorem sq4 {a b c d:Int} (h:¬ (a=0∧b=0∧c=0∧d=0)):1≤a*a+b*b+c*c+d*d:=by
 have h1:=JM a;have h2:=JM b;have h3:=JM c;have h4:=JM d
 by_cases ha:a=0
 ·by_cases hb:b=0
  ·by_cases hc:c=0
   ·have:=IO fun hd=>h ⟨ha,hb,hc,hd⟩
    omega
   have:=IO hc;omega
  have:=IO hb;omega
 have:=IO ha;omega
structure Clm (h:Path) (v:A3 W) (X Y Z S:Nat→Int):Prop where
 s:PB (aS h v).2 S 3 22
 x:PB (aS h v).1.x X 4 49
 y:PB (aS h v).1.y Y 4 49
 z:PB (aS h v).1.z Z 4 49
 pos:∀ t:Rat,0≤t→t≤1→0<e26 S t
open Go Go.Kn
theorem c7_ (h:Path) (v:A3 W) (t:Rt):fZ h v t=⟨n4 (iR (aS h v).1.x t) (iR (aS h v).2 t),n4 (iR (aS h v).1.y t) (iR (aS h v).2 t),n4 (iR (aS h v).1.z t) (iR (aS h v).2 t)⟩:=rfl
def rqn (a b c d:Rat):Rat:=a*a+b*b+(c*c+d*d)
def rqx (a b c d x y z:Rat):Rat:=(a*a+b*b - (c*c+d*d))*x+(b*c+a*d * -1)*2*y+(b*d+a*c*1)*2*z
def rqy (a b c d x y z:Rat):Rat:=(b*c+a*d*1)*2*x+(a*a+c*c - (b*b+d*d))*y+(c*d+a*b * -1)*2*z
def rqz (a b c d x y z:Rat):Rat:=(b*d+a*c * -1)*2*x+(c*d+a*b*1)*2*y+(a*a+d*d - (b*b+c*c))*z
section
variable {A B C D:Nat→Int}
end
def bD_ (s u w:Int) (q:Rat):Rat:=(u:Rat)+((s*w - u:Int):Rat)*q
structure Pq (s:Int) (h:Path) (q a b c d:Rat):Prop where
 a:a=bD_ s h.from_.q.x.1 h.to_.q.x.1 q
 b:b=bD_ s h.from_.q.y.1 h.to_.q.y.1 q
 c:c=bD_ s h.from_.q.z.1 h.to_.q.z.1 q
 d:d=bD_ s h.from_.q.t.1 h.to_.q.t.1 q
structure Pv (a:A3 Rt) (x y z:Rat):Prop where
 x:a.x.At x
 y:a.y.At y
 z:a.z.At z
structure Pz (x y z:Rat):Prop where
 x:Az x 153 99
 y:Az y 153 99
 z:Az z 153 99
theorem Pv.eq {a b:A3 Rt} {x y z u v w:Rat} (h:Pv a x y z) (k:Pv b u v w) (e1:x=u) (e2:y=v) (e3:z=w):a=b:=by
 subst e1;subst e2;subst e3;have e1:=NR h.x k.x;have e2:=NR h.y k.y;have e3:=NR h.z k.z
 cases a;cases b
 simp only at e1 e2 e3;rw [e1,e2,e3]
open Go Go.Kn
structure Tg (n t u:A3 W):Prop where
 o1:n.x.1*t.x.1+n.y.1*t.y.1+n.z.1*t.z.1=0
 o2:n.x.1*u.x.1+n.y.1*u.y.1+n.z.1*u.z.1=0
 o3:t.x.1*u.x.1+t.y.1*u.y.1+t.z.1*u.z.1=0
 t0:¬ (t.x.1=0∧t.y.1=0∧t.z.1=0)
 u0:¬ (u.x.1=0∧u.y.1=0∧u.z.1=0)
 tb:∀ A:Nat,1≤A→n.x.1.natAbs<2 ^ A→n.y.1.natAbs<2 ^ A→n.z.1.natAbs<2 ^ A→t.x.1.natAbs<2 ^ A∧t.y.1.natAbs<2 ^ A∧t.z.1.natAbs<2 ^ A
 ub:∀ A:Nat,1≤A→n.x.1.natAbs<2 ^ A→n.y.1.natAbs<2 ^ A→n.z.1.natAbs<2 ^ A→u.x.1.natAbs<2 ^ (2*A+1)∧u.y.1.natAbs<2 ^ (2*A+1)∧u.z.1.natAbs<2 ^ (2*A+1)
 full:∀ f g h:Rat,let nn:Rat:=(n.x.1:Rat)*n.x.1+n.y.1*n.y.1+n.z.1*n.z.1
  let tt:Rat:=(t.x.1:Rat)*t.x.1+t.y.1*t.y.1+t.z.1*t.z.1
  let uu:Rat:=(u.x.1:Rat)*u.x.1+u.y.1*u.y.1+u.z.1*u.z.1
  let fn:Rat:=(n.x.1:Rat)*f+n.y.1*g+n.z.1*h
  let ft:Rat:=(t.x.1:Rat)*f+t.y.1*g+t.z.1*h
  let fu:Rat:=(u.x.1:Rat)*f+u.y.1*g+u.z.1*h
  f*(nn*tt*uu)=fn*n.x.1*(tt*uu)+ft*t.x.1*(nn*uu)+fu*u.x.1*(nn*tt) ∧
  g*(nn*tt*uu)=fn*n.y.1*(tt*uu)+ft*t.y.1*(nn*uu)+fu*u.y.1*(nn*tt) ∧
  h*(nn*tt*uu)=fn*n.z.1*(tt*uu)+ft*t.z.1*(nn*uu)+fu*u.z.1*(nn*tt)
section
variable {n t:A3 W} {b c:Int}
end
structure V3 (a:A3 Rt) (x y z:Rat) (A B:Nat):Prop where
 hx:a.x.At x
 hy:a.y.At y
 hz:a.z.At z
 sx:Az x A B
 sy:Az y A B
 sz:Az z A B
section
variable {a b:A3 Rt} {x y z u v w:Rat} {A B C D:Nat}
theorem V3.mono (h:V3 a x y z A B) {A' B':Nat} (h1:A≤A') (h2:B≤B'):V3 a x y z A' B':=⟨h.hx,h.hy,h.hz,h.sx.mono h1 h2,h.sy.mono h1 h2,h.sz.mono h1 h2⟩
theorem of3 {n:A3 W} (hx:n.x.1.natAbs<2 ^ A) (hy:n.y.1.natAbs<2 ^ A) (hz:n.z.1.natAbs<2 ^ A):V3 (iN n) n.x.1 n.y.1 n.z.1 A 1:=⟨PO _,PO _,PO _,.int hx,.int hy,.int hz⟩
theorem e2_ {E:Nat} (ha:V3 a x y z A B) (hb:V3 b u v w C D) (h1:A+D<E) (h2:C+B<E) (hE:E≤512) (h3:B+D≤512):V3 (gK a b) (x+u) (y+v) (z+w) E (B+D) :=
 ⟨RZ ha.hx hb.hx ha.sx hb.sx oo_ oo_ h3,RZ ha.hy hb.hy ha.sy hb.sy oo_ oo_ h3,RZ ha.hz hb.hz ha.sz hb.sz oo_ oo_ h3,ha.sx.add hb.sx h1 h2,ha.sy.add hb.sy h1 h2,ha.sz.add hb.sz h1 h2⟩
end
open Go Go.Kn
def Wv (w:W) (v:Int) (b:Nat):Prop:=w.1=v∧v.natAbs<2 ^ b
section
variable {w w':W} {v v':Int} {b b':Nat}
theorem Wv.mono (h:Wv w v b) (k:b≤b'):Wv w v b':=⟨h.1,Nat.lt_of_lt_of_le h.2 (Nat.pow_le_pow_right dd_ k)⟩
theorem Wv.add (h:Wv w v b) (g:Wv w' v' b) (k:b≤61):Wv (W.add w w') (v+v') (b+1):=by
 have h1:=h.2;have g1:=g.2
 have h2:(v+v').natAbs<2 ^ (b+1):=by rw [Nat.pow_succ];omega
 have h3:(v+v').natAbs<2 ^ 62:=Nat.lt_of_lt_of_le h2 (Nat.pow_le_pow_right dd_ oo_);refine ⟨?_,h2⟩
 show IntKind.i64.wrap (w.1+w'.1)=_
 rw [h.1,g.1];exact wi ⟨by omega,by omega⟩
theorem Wv.sub (h:Wv w v b) (g:Wv w' v' b) (k:b≤61):Wv (W.sub w w') (v - v') (b+1):=by
 have h1:=h.2;have g1:=g.2
 have h2:(v - v').natAbs<2 ^ (b+1):=by rw [Nat.pow_succ];omega
 have h3:(v - v').natAbs<2 ^ 62:=Nat.lt_of_lt_of_le h2 (Nat.pow_le_pow_right dd_ oo_);refine ⟨?_,h2⟩
 show IntKind.i64.wrap (w.1 - w'.1)=_
 rw [h.1,g.1];exact wi ⟨by omega,by omega⟩
theorem Wv.mul (h:Wv w v b) (g:Wv w' v' b') (k:b+b'≤62):Wv (W.mul w w') (v*v') (b+b'):=by
 have h2:=wM h.2 g.2;have h3:(v*v').natAbs<2 ^ 62:=Nat.lt_of_lt_of_le h2 (Nat.pow_le_pow_right dd_ k);refine ⟨?_,h2⟩
 show IntKind.i64.wrap (w.1*w'.1)=_
 rw [h.1,g.1];exact wi ⟨by omega,by omega⟩
theorem Wv.self (h:w.1.natAbs<2 ^ b):Wv w w.1 b:=⟨rfl,h⟩
end
theorem Wv.neg {w:W} {v:Int} {b:Nat} (h:Wv w v b) (k:b≤61):Wv (W.neg w) (-v) b:=by
 have h1:=h.2;have h3:v.natAbs<2 ^ 62:=Nat.lt_of_lt_of_le h1 (Nat.pow_le_pow_right dd_ oo_);exact ⟨by rw [eY_ (by rw [h.1];omega),h.1],by rw [Int.natAbs_neg];exact h1⟩
theorem Wv.zero (b:Nat):Wv (wl 0) 0 b:=⟨rfl,Nat.pow_pos dd_⟩
structure Mv (q:A4 W) (v:A3 W):Prop where
 x:Wv (dD q v).x (0+(0+q.x.1*q.x.1+q.y.1*q.y.1 + -q.z.1*q.z.1 + -q.t.1*q.t.1)*v.x.1+2*(0+q.y.1*q.z.1 + -q.x.1*q.t.1)*v.y.1+2*(0+q.y.1*q.t.1+q.x.1*q.z.1)*v.z.1) 40
 y:Wv (dD q v).y (0+2*(0+q.y.1*q.z.1+q.x.1*q.t.1)*v.x.1+(0+q.x.1*q.x.1 + -q.y.1*q.y.1+q.z.1*q.z.1 + -q.t.1*q.t.1)*v.y.1+2*(0+q.z.1*q.t.1 + -q.x.1*q.y.1)*v.z.1) 40
 z:Wv (dD q v).z (0+2*(0+q.y.1*q.t.1 + -q.x.1*q.z.1)*v.x.1+2*(0+q.z.1*q.t.1+q.x.1*q.y.1)*v.y.1+(0+q.x.1*q.x.1 + -q.y.1*q.y.1 + -q.z.1*q.z.1+q.t.1*q.t.1)*v.z.1) 40
theorem az_ (q:A4 W) (v:A3 W):dD q v=⟨dU [(fS q).x0,v.x,(fS q).x1,v.y,(fS q).x2,v.z],dU [(fS q).x3,v.x,(fS q).x4,v.y,(fS q).x5,v.z],dU [(fS q).x6,v.x,(fS q).x7,v.y,(fS q).x8,v.z]⟩:=rfl
theorem VF {q:A4 W} (hq:q.i.Lw 65) {v:A3 W} (hv:Vin v):Mv q v:=by
 obtain ⟨h1,h2,h3,h4⟩:=hq;have g1:q.x.1.natAbs<65:=h1;have g2:q.y.1.natAbs<65:=h2;have g3:q.z.1.natAbs<65:=h3;have g4:q.t.1.natAbs<65:=h4;have x:=Wv.self (w:=q.x) (b:=7) oo_;have y:=Wv.self (w:=q.y) (b:=7) oo_;have z:=Wv.self (w:=q.z) (b:=7) oo_;have t:=Wv.self (w:=q.t) (b:=7) oo_;have nx:=x.neg dd_;have ny:=y.neg dd_;have nz:=z.neg dd_;have nt:=t.neg dd_;have vx:=Wv.self hv.1;have vy:=Wv.self hv.2.1;have vz:=Wv.self hv.2.2;have two:Wv (wl 2) 2 2:=⟨rfl,by decide⟩;have m:∀ {p r:W} {u w:Int},Wv p u 7→Wv r w 7→Wv (W.mul p r) (u*w) 14:=fun h g=>h.mul g dd_
 have s4:∀ {a b c d:W} {i j k l:Int},Wv a i 7→Wv b j 7→Wv c k 7→Wv d l 7→Wv (W.mul (wl 2) (dU [a,b,c,d])) (2*(0+i*j+k*l)) 18:=fun h g k l=>by
  rw [fn_];exact two.mul (((Wv.zero 14).add (m h g) dd_).add ((m k l).mono dd_) dd_) dd_
 have s8:∀ {a b c d e f g h:W} {i j k l n o r s:Int},Wv a i 7→Wv b j 7→Wv c k 7→Wv d l 7→Wv e n 7→Wv f o 7→Wv g r 7→Wv h s 7→Wv (dU [a,b,c,d,e,f,g,h]) (0+i*j+k*l+n*o+r*s) 18:=fun a b c d e f g h=>by
  rw [b2_];exact ((((Wv.zero 14).add (m a b) dd_).add ((m c d).mono dd_) dd_).add ((m e f).mono dd_) dd_).add ((m g h).mono dd_) dd_
 have ro:∀ {a b c:W} {u w i:Int},Wv a u 18→Wv b w 18→Wv c i 18→Wv (dU [a,v.x,b,v.y,c,v.z]) (0+u*v.x.1+w*v.y.1+i*v.z.1) 40:=fun h g k=>by
  rw [fo_];exact (((Wv.zero 37).add (h.mul vx dd_) dd_).add ((g.mul vy dd_).mono dd_) dd_).add ((k.mul vz dd_).mono dd_) dd_
 have M:=az_ q v;refine ⟨?_,?_,?_⟩<;>rw [M]
 ·exact ro (s8 x x y y nz z nt t) (s4 y z nx t) (s4 y t x z)
 ·exact ro (s4 y z x t) (s8 x x ny y z z nt t) (s4 z t nx y)
 exact ro (s4 y t nx z) (s4 z t x y) (s8 x x ny y nz z t t)
theorem KG {q:A4 W} (hq:q.i.Lw 65) (h0:¬ q.i.zero):Wv (cS q) (q.x.1*q.x.1+q.y.1*q.y.1+q.z.1*q.z.1+q.t.1*q.t.1) 17∧0<q.x.1*q.x.1+q.y.1*q.y.1+q.z.1*q.z.1+q.t.1*q.t.1:=by
 have e:=S4 hq hq;obtain ⟨h1,h2,h3,h4⟩:=hq;have g1:q.x.1.natAbs<65:=h1;have g2:q.y.1.natAbs<65:=h2;have g3:q.z.1.natAbs<65:=h3;have g4:q.t.1.natAbs<65:=h4;have m1:=wM (u:=q.x.1) (v:=q.x.1) (b:=7) (b':=7) oo_ oo_;have m2:=wM (u:=q.y.1) (v:=q.y.1) (b:=7) (b':=7) oo_ oo_;have m3:=wM (u:=q.z.1) (v:=q.z.1) (b:=7) (b':=7) oo_ oo_;have m4:=wM (u:=q.t.1) (v:=q.t.1) (b:=7) (b':=7) oo_ oo_;have p':1≤q.x.1*q.x.1+q.y.1*q.y.1+q.z.1*q.z.1+q.t.1*q.t.1:=sq4 h0;exact ⟨⟨e,by omega⟩,by omega⟩
theorem SJ {u w:W} {a b:Int} {k j:Nat} (hu:Wv u a k) (hw:Wv w b j) (h0:0<b) (hk:k≤512) (hj:j≤512):(jS u w).At ((a:Rat) / (b:Rat))∧Az ((a:Rat) / (b:Rat)) k j:=by
 have b0:(b:Rat)≠0:=fun e=>by have:=Rat.intCast_eq_zero_iff.1 e;omega
 have e:(a:Rat)=(b:Rat)*((a:Rat) / (b:Rat)):=by rw [Rat.mul_comm];exact (Rat.div_mul_cancel b0).symm
 refine ⟨?_,eo_ e h0 hu.2 hw.2⟩;unfold jS;simp only;rw [FE,hu.1,hw.1];exact ID (AO hu.2 hk) (AO hw.2 hj) h0 (UP e)
theorem I3 {p:Pose} (hq:p.q.i.Lw 65∧¬ p.q.i.zero) (hx:p.x.x.1.natAbs<2 ^ 47∧p.x.y.1.natAbs<2 ^ 47∧p.x.z.1.natAbs<2 ^ 47) {v:A3 W} (hv:Vin v) :
  V3 (cQ p v) ((p.x.x.1:Rat)+rqx p.q.x.1 p.q.y.1 p.q.z.1 p.q.t.1 v.x.1 v.y.1 v.z.1 / rqn p.q.x.1 p.q.y.1 p.q.z.1 p.q.t.1) ((p.x.y.1:Rat)+rqy p.q.x.1 p.q.y.1 p.q.z.1 p.q.t.1 v.x.1 v.y.1 v.z.1 / rqn p.q.x.1 p.q.y.1 p.q.z.1 p.q.t.1) ((p.x.z.1:Rat)+rqz p.q.x.1 p.q.y.1 p.q.z.1 p.q.t.1 v.x.1 v.y.1 v.z.1 / rqn p.q.x.1 p.q.y.1 p.q.z.1 p.q.t.1) 70 18:=by
 obtain ⟨sc,sp⟩:=KG hq.1 hq.2;have tm:=VF hq.1 hv;obtain ⟨a1,z1⟩:=SJ tm.x sc sp dd_ dd_;obtain ⟨a2,z2⟩:=SJ tm.y sc sp dd_ dd_;obtain ⟨a3,z3⟩:=SJ tm.z sc sp dd_ dd_;have c2:((2:Int):Rat)=2:=rfl
 have eN:((p.q.x.1*p.q.x.1+p.q.y.1*p.q.y.1+p.q.z.1*p.q.z.1+p.q.t.1*p.q.t.1:Int):Rat)=rqn p.q.x.1 p.q.y.1 p.q.z.1 p.q.t.1:=by
  unfold rqn;simp only [Rat.intCast_add,Rat.intCast_mul];grind
 have c0:((0:Int):Rat)=0:=rfl
 have e1:((0+(0+p.q.x.1*p.q.x.1+p.q.y.1*p.q.y.1 + -p.q.z.1*p.q.z.1 + -p.q.t.1*p.q.t.1)*v.x.1+2*(0+p.q.y.1*p.q.z.1 + -p.q.x.1*p.q.t.1)*v.y.1+2*(0+p.q.y.1*p.q.t.1+p.q.x.1*p.q.z.1)*v.z.1:Int):Rat)=rqx p.q.x.1 p.q.y.1 p.q.z.1 p.q.t.1 v.x.1 v.y.1 v.z.1:=by
  unfold rqx;simp only [Rat.intCast_add,Rat.intCast_mul,Rat.intCast_neg,c0,c2];grind
 have e2:((0+2*(0+p.q.y.1*p.q.z.1+p.q.x.1*p.q.t.1)*v.x.1+(0+p.q.x.1*p.q.x.1 + -p.q.y.1*p.q.y.1+p.q.z.1*p.q.z.1 + -p.q.t.1*p.q.t.1)*v.y.1+2*(0+p.q.z.1*p.q.t.1 + -p.q.x.1*p.q.y.1)*v.z.1:Int):Rat)=rqy p.q.x.1 p.q.y.1 p.q.z.1 p.q.t.1 v.x.1 v.y.1 v.z.1:=by
  unfold rqy;simp only [Rat.intCast_add,Rat.intCast_mul,Rat.intCast_neg,c0,c2];grind
 have e3:((0+2*(0+p.q.y.1*p.q.t.1 + -p.q.x.1*p.q.z.1)*v.x.1+2*(0+p.q.z.1*p.q.t.1+p.q.x.1*p.q.y.1)*v.y.1+(0+p.q.x.1*p.q.x.1 + -p.q.y.1*p.q.y.1 + -p.q.z.1*p.q.z.1+p.q.t.1*p.q.t.1)*v.z.1:Int):Rat)=rqz p.q.x.1 p.q.y.1 p.q.z.1 p.q.t.1 v.x.1 v.y.1 v.z.1:=by
  unfold rqz;simp only [Rat.intCast_add,Rat.intCast_mul,Rat.intCast_neg,c0,c2];grind
 rw [e1,eN] at a1 z1;rw [e2,eN] at a2 z2;rw [e3,eN] at a3 z3;generalize rqx (p.q.x.1:Rat) p.q.y.1 p.q.z.1 p.q.t.1 v.x.1 v.y.1 v.z.1 / rqn (p.q.x.1:Rat) p.q.y.1 p.q.z.1 p.q.t.1=rx at a1 z1 ⊢;generalize rqy (p.q.x.1:Rat) p.q.y.1 p.q.z.1 p.q.t.1 v.x.1 v.y.1 v.z.1 / rqn (p.q.x.1:Rat) p.q.y.1 p.q.z.1 p.q.t.1=ry at a2 z2 ⊢;generalize rqz (p.q.x.1:Rat) p.q.y.1 p.q.z.1 p.q.t.1 v.x.1 v.y.1 v.z.1 / rqn (p.q.x.1:Rat) p.q.y.1 p.q.z.1 p.q.t.1=rz at a3 z3 ⊢
 have R:V3 (k6 p.q v) rx ry rz 40 17:=by
  unfold k6;refine ⟨?_,?_,?_,z1,z2,z3⟩
  ·dsimp only;exact a1
  ·dsimp only;exact a2
  dsimp only;exact a3
 have P:=e2_ (E:=70) (of3 (n:=p.x) hx.1 hx.2.1 hx.2.2) R dd_ dd_ dd_ dd_
 have e:cQ p v=gK (iN p.x) (k6 p.q v):=by
  unfold cQ;simp only [R5,TW]
 rw [e];exact P
theorem XX {p:Pose} (hq:p.q.i.Lw 65∧¬ p.q.i.zero) (hx:p.x.x.1.natAbs<2 ^ 47∧p.x.y.1.natAbs<2 ^ 47∧p.x.z.1.natAbs<2 ^ 47) {v:A3 W} (hv:Vin v) :
  Pv (cQ p v) ((p.x.x.1:Rat)+rqx p.q.x.1 p.q.y.1 p.q.z.1 p.q.t.1 v.x.1 v.y.1 v.z.1 / rqn p.q.x.1 p.q.y.1 p.q.z.1 p.q.t.1) ((p.x.y.1:Rat)+rqy p.q.x.1 p.q.y.1 p.q.z.1 p.q.t.1 v.x.1 v.y.1 v.z.1 / rqn p.q.x.1 p.q.y.1 p.q.z.1 p.q.t.1) ((p.x.z.1:Rat)+rqz p.q.x.1 p.q.y.1 p.q.z.1 p.q.t.1 v.x.1 v.y.1 v.z.1 / rqn p.q.x.1 p.q.y.1 p.q.z.1 p.q.t.1):=by
 have P:=I3 hq hx hv;exact ⟨P.hx,P.hy,P.hz⟩
variable {h:Path} {v:A3 W} {t:Rt} {q:Rat}
end Go.Num
namespace Go.Num
open Go Go.Kn
section
variable {a b c d x y z u v w:Rat}
theorem dX_:rqx a b c d x y z*rqx a b c d x y z+rqy a b c d x y z*rqy a b c d x y z+rqz a b c d x y z*rqz a b c d x y z=rqn a b c d*rqn a b c d*(x*x+y*y+z*z):=by
 unfold rqx rqy rqz rqn
 grind
theorem dY_ (hn:0<rqn a b c d):(rqx a b c d x y z / rqn a b c d)*(rqx a b c d x y z / rqn a b c d)+(rqy a b c d x y z / rqn a b c d)*(rqy a b c d x y z / rqn a b c d)+(rqz a b c d x y z / rqn a b c d)*(rqz a b c d x y z / rqn a b c d)=x*x+y*y+z*z:=by
 have h0:rqn a b c d≠0:=by grind
 have e:=@dX_ a b c d x y z;have e1:rqx a b c d x y z / rqn a b c d*rqn a b c d=rqx a b c d x y z:=Rat.div_mul_cancel h0;have e2:rqy a b c d x y z / rqn a b c d*rqn a b c d=rqy a b c d x y z:=Rat.div_mul_cancel h0;have e3:rqz a b c d x y z / rqn a b c d*rqn a b c d=rqz a b c d x y z:=Rat.div_mul_cancel h0;rw [← e1,← e2,← e3] at e;generalize rqx a b c d x y z / rqn a b c d=p at *;generalize rqy a b c d x y z / rqn a b c d=q at *;generalize rqz a b c d x y z / rqn a b c d=r at *;generalize rqn a b c d=n at *
 have:(n*n)*(p*p+q*q+r*r - (x*x+y*y+z*z))=0:=by grind
 rcases Rat.mul_eq_zero.1 this with k|k
 ·rcases Rat.mul_eq_zero.1 k with k|k<;>exact absurd k h0
 grind
theorem ae_ (a:Rat):0≤a*a:=by
 rcases (Rat.le_total:(0:Rat)≤a∨a≤0) with h|h
 ·exact Rat.mul_nonneg h h
 have e:a*a=(-a)*(-a):=by grind
 rw [e];exact Rat.mul_nonneg (by grind) (by grind)
theorem bS_ (hn:0<rqn a b c d):(rqx a b c d x y z / rqn a b c d)*(rqx a b c d x y z / rqn a b c d)≤x*x+y*y+z*z∧(rqy a b c d x y z / rqn a b c d)*(rqy a b c d x y z / rqn a b c d)≤x*x+y*y+z*z∧(rqz a b c d x y z / rqn a b c d)*(rqz a b c d x y z / rqn a b c d)≤x*x+y*y+z*z:=by
 have e:=dY_ (x:=x) (y:=y) (z:=z) hn;have n1:=ae_ (rqx a b c d x y z / rqn a b c d);have n2:=ae_ (rqy a b c d x y z / rqn a b c d);have n3:=ae_ (rqz a b c d x y z / rqn a b c d);refine ⟨?_,?_,?_⟩<;>grind
theorem ao_ {p r:Rat} (hr:0≤r) (h:p*p≤r*r):-r≤p∧p≤r:=by
 constructor
 ·refine Rat.not_lt.1 fun k=>?_
  have h1:0<(-p - r):=by grind
  have h2:0≤(-p+r):=by grind
  have h3:0<(-p+r):=by grind
  have:=Rat.mul_pos h1 h3
  grind
 refine Rat.not_lt.1 fun k=>?_
 have h1:0<(p - r):=by grind
 have h3:0<(p+r):=by grind
 have:=Rat.mul_pos h1 h3
 grind
end
open Go Go.Kn
structure Bx (a:A3 Rt) (lo hi:A3 Int):Prop where
 x:∃ p,a.x.At p∧(lo.x:Rat)≤p∧p≤(hi.x:Rat)
 y:∃ p,a.y.At p∧(lo.y:Rat)≤p∧p≤(hi.y:Rat)
 z:∃ p,a.z.At p∧(lo.z:Rat)≤p∧p≤(hi.z:Rat)
theorem gv_ {v:A3 W} {r:Int} (hr:v.x.1*v.x.1+v.y.1*v.y.1+v.z.1*v.z.1≤r*r):(v.x.1:Rat)*(v.x.1:Rat)+(v.y.1:Rat)*(v.y.1:Rat)+(v.z.1:Rat)*(v.z.1:Rat)≤(r:Rat)*(r:Rat):=by
 have:=Rat.intCast_le_intCast.2 hr
 simpa only [Rat.intCast_add,Rat.intCast_mul] using this
theorem dc_ {p:Pose} (hq:p.q.i.Lw 65∧¬ p.q.i.zero) (hx:p.x.x.1.natAbs<2 ^ 47∧p.x.y.1.natAbs<2 ^ 47∧p.x.z.1.natAbs<2 ^ 47) {v:A3 W} (hv:Vin v) {r:Int} (r0:0≤r) (hr:v.x.1*v.x.1+v.y.1*v.y.1+v.z.1*v.z.1≤r*r) :
  Bx (cQ p v) ⟨p.x.x.1 - r,p.x.y.1 - r,p.x.z.1 - r⟩ ⟨p.x.x.1+r,p.x.y.1+r,p.x.z.1+r⟩:=by
 have P:=XX hq hx hv
 have np:0<rqn (p.q.x.1:Rat) p.q.y.1 p.q.z.1 p.q.t.1:=by
  have:=Rat.intCast_pos.2 (KG hq.1 hq.2).2;simp only [Rat.intCast_add,Rat.intCast_mul] at this;unfold rqn;grind
 obtain ⟨l1,l2,l3⟩:=bS_ (x:=v.x.1) (y:=v.y.1) (z:=v.z.1) np;have hr':=gv_ hr;have rr:(0:Rat)≤(r:Rat):=Rat.intCast_nonneg.2 r0;have s1:=ao_ rr (Rat.le_trans l1 hr');have s2:=ao_ rr (Rat.le_trans l2 hr');have s3:=ao_ rr (Rat.le_trans l3 hr');refine ⟨⟨_,P.x,?_,?_⟩,⟨_,P.y,?_,?_⟩,⟨_,P.z,?_,?_⟩⟩<;>simp only [Rat.intCast_sub,Rat.intCast_add]<;>grind
theorem fQ_ {v:A3 W} (h:gT v=true):Vin v:=by
 unfold gT at h
 cases h1:(decide (262144<v.x.1)||decide (v.x.1<(-262144)))
 ·cases h2:(decide (262144<v.y.1)||decide (v.y.1<(-262144)))
  ·cases h3:(decide (262144<v.z.1)||decide (v.z.1<(-262144)))
   ·simp only [Bool.or_eq_false_iff,decide_eq_false_iff_not] at h1 h2 h3
    exact ⟨by omega,by omega,by omega⟩
   rw [h1,h2,h3] at h;cases h
  rw [h1,h2] at h;cases h
 rw [h1] at h;cases h
theorem DZ {v:Int} (h1:-9223372036854775808≤v) (h2:v≤9223372036854775807):(Z.smallW (Z.of v)).1=v:=by
 show (Z.of v).small.1=v
 unfold Z.small;rw [Z.of_some (sB oo_)];simp only;rw [if_pos oo_]
theorem fP_ {v:A3 W} (h:IZ v):Vin v:=⟨by have:=h.1;omega,by have:=h.2.1;omega,by have:=h.2.2;omega⟩
def KM (v:A3 W):Int:=v.x.1*v.x.1+v.y.1*v.y.1+v.z.1*v.z.1
theorem TP {a:Int} (h:-262144≤a∧a≤262144):0≤a*a∧a*a≤68719476736:=by
 have h1:0≤a*a:=by
  rcases (show 0≤a∨a≤0 by omega) with k|k
  ·exact Int.mul_nonneg k k
  exact Int.mul_nonneg_of_nonpos_of_nonpos k k
 refine ⟨h1,?_⟩;have h2:(262144 - a)*(262144+a) ≥ 0:=Int.mul_nonneg oo_ oo_
 have e:(262144 - a)*(262144+a)=68719476736 - a*a:=by grind
 omega
theorem d2_ {v:A3 W} (h:IZ v):(W.add (W.add (W.mul v.x v.x) (W.mul v.y v.y)) (W.mul v.z v.z)).1=KM v∧0≤KM v∧KM v≤206158430208:=by
 have a:=TP h.1;have b:=TP h.2.1;have c:=TP h.2.2;have ea:(W.mul v.x v.x).1=v.x.1*v.x.1:=wi oo_;have eb:(W.mul v.y v.y).1=v.y.1*v.y.1:=wi oo_;have ec:(W.mul v.z v.z).1=v.z.1*v.z.1:=wi oo_
 have e1:(W.add (W.mul v.x v.x) (W.mul v.y v.y)).1=v.x.1*v.x.1+v.y.1*v.y.1:=by
  show IntKind.i64.wrap ((W.mul v.x v.x).1+(W.mul v.y v.y).1)=_
  rw [ea,eb,wi oo_]
 have e2:(W.add (W.add (W.mul v.x v.x) (W.mul v.y v.y)) (W.mul v.z v.z)).1=v.x.1*v.x.1+v.y.1*v.y.1+v.z.1*v.z.1:=by
  show IntKind.i64.wrap ((W.add (W.mul v.x v.x) (W.mul v.y v.y)).1+(W.mul v.z v.z).1)=_
  rw [e1,ec,wi oo_]
 unfold KM;exact ⟨e2,by omega,by omega⟩
theorem aD_ (a b:W):(W.max a b).1=max a.1 b.1:=by unfold W.max;by_cases h:a.1<b.1<;>simp [h]<;>omega
theorem cI_ (a b:W):(W.min a b).1=min a.1 b.1:=by unfold W.min;by_cases h:b.1<a.1<;>simp [h]<;>omega
theorem KD (c:List (A3 W)):∀ (l:List (A3 W)) (k:W),(∀ v∈l,IZ v)→0≤k.1→k.1≤206158430208→(0≤(iM c l k).1∧(iM c l k).1≤206158430208)∧k.1≤(iM c l k).1∧∀ v∈l,KM v≤(iM c l k).1
 | [],k,_,h0,h1=>⟨⟨h0,h1⟩,Int.le_refl _,fun v hv=>by cases hv⟩
 | x::l,k,hl,h0,h1=>by
  unfold iM;obtain ⟨e,s0,s1⟩:=d2_ (hl x List.mem_cons_self);have em:=aD_ k (W.add (W.add (W.mul x.x x.x) (W.mul x.y x.y)) (W.mul x.z x.z));rw [e] at em;obtain ⟨a,b,d⟩:=KD c l (W.max k (W.add (W.add (W.mul x.x x.x) (W.mul x.y x.y)) (W.mul x.z x.z))) (fun v hv=>hl v (List.mem_cons_of_mem _ hv)) oo_ oo_;refine ⟨a,by omega,fun v hv=>?_⟩;rcases List.mem_cons.1 hv with rfl|hv
  ·omega
  exact d v hv
theorem WV {c:List (A3 W)} (hc:∀ v∈c,IZ v):(0≤(eL c).1∧(eL c).1≤524288)∧∀ v∈c,KM v≤(eL c).1*(eL c).1:=by
 obtain ⟨⟨m0,m1⟩,_,hm⟩:=KD c c (wl 0) hc dd_ dd_;unfold eL;generalize iM c c (wl 0)=k at *;simp only [ap];obtain ⟨n,hn⟩:∃ n:Nat,k.1=(n:Int):=⟨k.1.toNat,by omega⟩;have bk:n<4294967296 ^ 16:=Nat.lt_of_le_of_lt (show n≤206158430208 by omega) dd_;obtain ⟨r1,r2⟩:=tY bk
 have rs:pP n≤454100:=by
  rcases Nat.lt_or_ge 454100 (pP n) with h|h
  ·have:454101*454101≤pP n*pP n:=Nat.mul_le_mul h h
   omega
  exact h
 have es:jI (E (Z.of k.1))=E (Z.of ((pP n:Nat):Int)):=by
  rw [TX,fA,Z.sqrt,kR (Z.of_some (sB oo_)),decide_eq_false oo_,cond_false,hn];rfl
 rw [es,fA];have ew:(Z.smallW (Z.of ((pP n:Nat):Int))).1=((pP n:Nat):Int):=DZ oo_ oo_;generalize Z.smallW (Z.of ((pP n:Nat):Int))=w at *
 have sqb:((pP n:Nat):Int)*((pP n:Nat):Int)≤(n:Int):=by rw [← Int.natCast_mul];exact Int.ofNat_le.2 r1
 have squ:(n:Int)<(((pP n:Nat):Int)+1)*(((pP n:Nat):Int)+1):=by
  have:=Int.ofNat_lt.2 r2;rw [Int.natCast_mul,Int.natCast_add] at this;exact this
 have sq0:0≤((pP n:Nat):Int)*((pP n:Nat):Int):=Int.mul_nonneg oo_ oo_
 have emul:(W.mul w w).1=((pP n:Nat):Int)*((pP n:Nat):Int):=by
  show IntKind.i64.wrap (w.1*w.1)=_
  rw [ew,wi oo_]
 by_cases hlt:(W.mul w w).1<k.1
 ·rw [decide_eq_true hlt,cond_true]
  have ea:(W.add w (wl 1)).1=((pP n:Nat):Int)+1:=by
   show IntKind.i64.wrap (w.1+1)=_
   rw [ew,wi oo_]
  rw [ea];exact ⟨⟨by omega,by omega⟩,fun v hv=>by have:=hm v hv;omega⟩
 rw [decide_eq_false hlt,cond_false,ew];exact ⟨⟨by omega,by omega⟩,fun v hv=>by have:=hm v hv;omega⟩
theorem be_ {c:List (A3 W)} (h:i3 c=true):∀ v∈c,IZ v:=fun v hv=>by
 obtain ⟨_,_,h3⟩:=YL h;obtain ⟨k,hk,e⟩:=List.getElem_of_mem hv;have:=h3 k hk;rw [List.getD_eq_getElem?_getD,List.getElem?_eq_getElem hk] at this;rw [← e];exact this
attribute [local irreducible] kQ
end Go.Num
