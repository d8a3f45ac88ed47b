/- Lemmas: what they ask stands in their statements. -/
import Derived.Test.YtbjlhfochebmiaaGreatDoorMVx
import Derived.ChangeArms
import Derived.ChangeSame
set_option linter.unusedSimpArgs false
set_option linter.unusedVariables false
namespace Go.Num
open Go Go.Kn
theorem VZ (q:Rat):q.floor=q.num / (q.den:Int):=by
 unfold Rat.floor
 split
 ·rename_i h;rw [h];exact (Int.ediv_one _).symm
 rfl
theorem YS {a:Rt} {q:Rat} (h:a.At q):bE a=E (Z.of q.floor):=by
 have i:=At.is h;unfold bE;rw [vD,BK h,cond_true,i.en,i.ed,fA,fA,FZ i.hn i.hd (@E8 q),VZ]
theorem FR {a:Rt} {q:Rat} (h:a.At q) (b:-4611686018427387904≤q.floor∧q.floor≤4611686018427387904):(Z.smallW (bE a).dec).1=q.floor:=by
 rw [YS h,fA,DZ oo_ oo_]
theorem IG {a:Rt} {q:Rat} (h:a.At q) (b:-4611686018427387904≤(-q).floor∧(-q).floor≤4611686018427387904):(Z.smallW (bC a).dec).1 = -(-q).floor:=by
 have hn:(n5 a).At (-q):=by rw [XK];exact NU h
 unfold bC;rw [YS hn,fA,fA]
 have e:Z.neg (Z.of (-q).floor)=Z.of (-(-q).floor):=by rw [Z.neg,kR (Z.of_some (sB oo_))]
 rw [e,DZ oo_ oo_]
theorem YR (q:Rat):((q.floor:Int):Rat)≤q:=Rat.floor_le q
theorem eM_ (q:Rat):q<((q.floor:Int):Rat)+1:=by
 have:=Rat.lt_floor_add_one q;rw [Rat.intCast_add] at this;exact this
theorem Y6 {n:Int} {q:Rat} (h:(n:Rat)≤q):n≤q.floor:=by
 have h1:=eM_ q
 have h2:(n:Rat)<((q.floor+1:Int):Rat):=by
  rw [Rat.intCast_add];have:((1:Int):Rat)=1:=rfl
  grind
 have:=Rat.intCast_lt_intCast.1 h2;omega
structure TI (lo hi:W) (x:Nat→Rat) (k:Nat):Prop where
 l:∀ j,j<k→lo.1≤(x j).floor
 le:0<k→∃ j,j<k∧lo.1=(x j).floor
 h:∀ j,j<k→-(-(x j)).floor≤hi.1
 he:0<k→∃ j,j<k∧hi.1 = -(-(x j)).floor
theorem TI.step {lo hi F C:W} {x:Nat→Rat} {k:Nat} (t:TI lo hi x k) (hF:F.1=(x k).floor) (hC:C.1 = -(-(x k)).floor):TI (W.min (bif ((k:Int)==0) then F else lo) F) (W.max (bif ((k:Int)==0) then C else hi) C) x (k+1):=by
 by_cases h0:k=0
 ·subst h0
  rw [show (((0:Nat):Int)==0)=true from rfl,cond_true,cond_true]
  have e1:(W.min F F).1=(x 0).floor:=by rw [cI_,hF];omega
  have e2:(W.max C C).1 = -(-(x 0)).floor:=by rw [aD_,hC];omega
  have z:∀ j,j<0+1→j=0:=fun j hj=>by omega
  exact ⟨fun j hj=>by rw [z j hj,e1];omega,fun _=>⟨0,by omega,e1⟩,fun j hj=>by rw [z j hj,e2];omega,fun _=>⟨0,by omega,e2⟩⟩
 rw [show ((k:Int)==0)=false by simp;omega,cond_false,cond_false];have e1:=cI_ lo F;have e2:=aD_ hi C;refine ⟨fun j hj=>?_,fun _=>?_,fun j hj=>?_,fun _=>?_⟩
 ·by_cases e:j=k
  ·subst e;omega
  have:=t.l j oo_;omega
 ·by_cases hl:lo.1≤F.1
  ·obtain ⟨j,j1,j2⟩:=t.le oo_
   exact ⟨j,by omega,by omega⟩
  exact ⟨k,by omega,by omega⟩
 ·by_cases e:j=k
  ·subst e;omega
  have:=t.h j oo_;omega
 by_cases hl:C.1≤hi.1
 ·obtain ⟨j,j1,j2⟩:=t.he oo_
  exact ⟨j,by omega,by omega⟩
 exact ⟨k,by omega,by omega⟩
def axX (p:Pose) (v:A3 W):Rat:=(p.x.x.1:Rat)+rqx p.q.x.1 p.q.y.1 p.q.z.1 p.q.t.1 v.x.1 v.y.1 v.z.1 / rqn p.q.x.1 p.q.y.1 p.q.z.1 p.q.t.1
def axY (p:Pose) (v:A3 W):Rat:=(p.x.y.1:Rat)+rqy p.q.x.1 p.q.y.1 p.q.z.1 p.q.t.1 v.x.1 v.y.1 v.z.1 / rqn p.q.x.1 p.q.y.1 p.q.z.1 p.q.t.1
def axZ (p:Pose) (v:A3 W):Rat:=(p.x.z.1:Rat)+rqz p.q.x.1 p.q.y.1 p.q.z.1 p.q.t.1 v.x.1 v.y.1 v.z.1 / rqn p.q.x.1 p.q.y.1 p.q.z.1 p.q.t.1
structure Ax (a:Rt) (q:Rat) (o r:Int):Prop where
 a:a.At q
 s:Sz q 70
 lo:((o - r:Int):Rat)≤q
 hi:q≤((o+r:Int):Rat)
theorem Ax.fl {a:Rt} {q:Rat} {o r:Int} (h:Ax a q o r):o - r≤q.floor∧q.floor≤o+r:=by
 refine ⟨Y6 h.lo,?_⟩;exact Rat.intCast_le_intCast.1 (Rat.le_trans (YR q) h.hi)
theorem Ax.cl {a:Rt} {q:Rat} {o r:Int} (h:Ax a q o r):o - r ≤ -(-q).floor∧-(-q).floor≤o+r:=by
 have h1:((-(o+r):Int):Rat) ≤ -q:=by rw [Rat.intCast_neg];have:=h.hi;grind
 have h2:=Y6 h1;have h3:=Rat.le_trans (YR (-q)) (show -q≤((-(o - r):Int):Rat) by rw [Rat.intCast_neg];have:=h.lo;grind);have:=Rat.intCast_le_intCast.1 h3;omega
section
variable {p:Pose} {c:List (A3 W)}
theorem uA {k:Nat} (hk:k<c.length):(aA p c).getD k V0=cQ p (c.getD k A30):=by
 rw [E9,List.getD_eq_getElem?_getD,List.getD_eq_getElem?_getD,List.getElem?_map,List.getElem?_eq_getElem hk];rfl
def Pok (p:Pose):Prop:=(p.q.i.Lw 65∧¬ p.q.i.zero)∧(p.x.x.1.natAbs<2 ^ 47∧p.x.y.1.natAbs<2 ^ 47∧p.x.z.1.natAbs<2 ^ 47)
theorem cw_ (hp:Pok p) {v:A3 W} (hv:Vin v) {r:Int} (r0:0≤r) (hr:KM v≤r*r):Ax (cQ p v).x (axX p v) p.x.x.1 r∧Ax (cQ p v).y (axY p v) p.x.y.1 r∧Ax (cQ p v).z (axZ p v) p.x.z.1 r:=by
 have V:=I3 hp.1 hp.2 hv;obtain ⟨⟨x,x1,x2,x3⟩,⟨y,y1,y2,y3⟩,z,z1,z2,z3⟩:=dc_ hp.1 hp.2 hv r0 hr;obtain rfl:=R1 x1 V.hx;obtain rfl:=R1 y1 V.hy;obtain rfl:=R1 z1 V.hz;exact ⟨⟨V.hx,V.sx.sz dd_ dd_,x2,x3⟩,⟨V.hy,V.sy.sz dd_ dd_,y2,y3⟩,⟨V.hz,V.sz.sz dd_ dd_,z2,z3⟩⟩
variable {r:Int}
theorem KV (hp:Pok p) (r0:0≤r∧r≤524288) (hc:∀ k,k<c.length→Vin (c.getD k A30)∧KM (c.getD k A30)≤r*r):∀ (f k:Nat) (hi lo:A3 W),c.length - k<f→k≤c.length →
  TI lo.x hi.x (fun j=>axX p (c.getD j A30)) k→TI lo.y hi.y (fun j=>axY p (c.getD j A30)) k→TI lo.z hi.z (fun j=>axZ p (c.getD j A30)) k →
  ∃ k' hi' lo',mV p c f k hi lo=(k',hi',lo')∧TI lo'.x hi'.x (fun j=>axX p (c.getD j A30)) c.length∧TI lo'.y hi'.y (fun j=>axY p (c.getD j A30)) c.length∧TI lo'.z hi'.z (fun j=>axZ p (c.getD j A30)) c.length
 | 0,k,hi,lo,hf,_,_,_,_=>absurd hf (Nat.not_lt_zero _)
 | f+1,k,hi,lo,hf,hk,tx,ty,tz=>by
  unfold mV;rw [tF]
  by_cases h:k<c.length
  ·rw [decide_eq_true oo_,cond_true,uA h]
   obtain ⟨hv,hr⟩:=hc k h;obtain ⟨ax,ay,az⟩:=cw_ hp hv r0.1 hr;obtain ⟨b1,b2,b3⟩:=hp.2
   have bx:=ax.fl;have by':=ay.fl;have bz:=az.fl
   have cx:=ax.cl;have cy:=ay.cl;have cz:=az.cl;have fx:=FR ax.a oo_;have fy:=FR ay.a oo_;have fz:=FR az.a oo_;have gx:=IG ax.a oo_;have gy:=IG ay.a oo_;have gz:=IG az.a oo_
   dsimp only
   exact KV hp r0 hc f (k+1) _ _ oo_ h (tx.step fx gx) (ty.step fy gy) (tz.step fz gz)
  rw [decide_eq_false oo_,cond_false]
  have:k=c.length:=by omega
  subst this;exact ⟨_,_,_,rfl,tx,ty,tz⟩
theorem XB (hp:Pok p) (r0:0≤r∧r≤524288) (hc:∀ k,k<c.length→Vin (c.getD k A30)∧KM (c.getD k A30)≤r*r) :
  TI (gF p c).1.x (gF p c).2.x (fun j=>axX p (c.getD j A30)) c.length∧TI (gF p c).1.y (gF p c).2.y (fun j=>axY p (c.getD j A30)) c.length∧TI (gF p c).1.z (gF p c).2.z (fun j=>axZ p (c.getD j A30)) c.length:=by
 have z:∀ x:Nat→Rat,TI (wl 0) (wl 0) x 0:=fun x=>⟨fun j hj=>by omega,fun h=>by omega,fun j hj=>by omega,fun h=>by omega⟩;obtain ⟨k',hi,lo,e,tx,ty,tz⟩:=KV hp r0 hc (c.length+1) 0 ⟨wl 0,wl 0,wl 0⟩ ⟨wl 0,wl 0,wl 0⟩ oo_ (Nat.zero_le _) (z _) (z _) (z _);unfold gF;rw [tF,e];exact ⟨tx,ty,tz⟩
end
attribute [local irreducible] kQ
open Go Go.Kn
theorem dP_ {h:Path} (hh:Hv h) {v:A3 W} (hv:Vin v) (t:Rt):cF h v t=fZ h v t:=by
 obtain ⟨s,A,B,C,D,_,_,_,_,_,_,hx⟩:=IY hh hv;unfold cF;rw [c7_,hx.r,hx.s2,FF t hx.x.po.l3,FF t hx.y.po.l3,FF t hx.z.po.l3,FF t hx.s.po.l3];simp only [cP_]
theorem HL (c:List (A3 W)):∀ (f:Nat) (m:W) (i:Nat),c.length - i<f→i≤c.length→(i7 c f m i).1=iM c (c.drop i) m
 | 0,m,i,h,_=>absurd h (Nat.not_lt_zero _)
 | f+1,m,i,h,hi=>by
  unfold i7
  by_cases hk:i<c.length
  ·rw [decide_eq_true oo_,cond_true,HL c f _ (i+1) oo_ hk,List.drop_eq_getElem_cons hk,List.getD_eq_getElem?_getD,List.getElem?_eq_getElem hk]
   rfl
  rw [decide_eq_false oo_,cond_false,List.drop_of_length_le oo_];rfl
theorem MW (c:List (A3 W)):cW c=eL c:=by
 have e:=HL c (c.length+1) (wl 0) 0 oo_ (Nat.zero_le _);rw [List.drop_zero] at e;unfold cW eL;simp only [ap,e,TX,fA]
theorem bJ_ (h:Path) (c:List (A3 W)):bZ h c=⟨(dC h c).1,(dC h c).2⟩:=by
 unfold bZ;rw [MW];rfl
def LQ (p:Pose) (x:A3 W):A3 W:=⟨W.add (dD p.q x).x (W.mul (cS p.q) p.x.x),W.add (dD p.q x).y (W.mul (cS p.q) p.x.y),W.add (dD p.q x).z (W.mul (cS p.q) p.x.z)⟩
theorem HN (p:Pose) (c:List (A3 W)):∀ (l out:List (A3 W)),iX p c l out=out++l.map (LQ p)
 | [],out=>by unfold iX;simp
 | x::l,out=>by
  unfold iX;rw [HN p c l,List.append_assoc];rfl
theorem KH (p:Pose) (c:List (A3 W)):dJ p c=(c.map (LQ p),cS p.q):=by
 unfold dJ;rw [HN,List.nil_append];rfl
theorem G3 (a b:W):W.add a b=W.add b a:=by
 apply W.b_inj
 rw [W.b_add,W.b_add,BitVec.add_comm]
theorem rsc (p:Pose) (x:A3 W):(⟨W.add (W.mul (aZ p.q) p.x.x) (gM p.q x).x,W.add (W.mul (aZ p.q) p.x.y) (gM p.q x).y,W.add (W.mul (aZ p.q) p.x.z) (gM p.q x).z⟩:A3 W)=LQ p x:=by
 unfold LQ;rw [PR,GG,G3,G3 (W.mul _ p.x.y),G3 (W.mul _ p.x.z)]
theorem F3 (p:Pose) (c:List (A3 W)):∀ (f i:Nat) (out:List (A3 W)),c.length - i<f→i≤c.length→(iQ p c f i out).2=out++(c.drop i).map (LQ p)
 | 0,i,out,h,_=>absurd h (Nat.not_lt_zero _)
 | f+1,i,out,h,hi=>by
  unfold iQ
  by_cases hk:i<c.length
  ·rw [decide_eq_true oo_,cond_true]
   dsimp only
   rw [rsc,F3 p c f (i+1) _ oo_ hk,List.drop_eq_getElem_cons hk,List.getD_eq_getElem?_getD,List.getElem?_eq_getElem hk,List.append_assoc,List.map_cons];rfl
  rw [decide_eq_false oo_,cond_false,List.drop_of_length_le oo_]
  simp
theorem HM (p:Pose) (c:List (A3 W)):bT p c=⟨c.map (LQ p),cS p.q⟩:=by
 have e:=F3 p c (c.length+1) 0 [] oo_ (Nat.zero_le _);rw [List.nil_append,List.drop_zero] at e;unfold bT;simp only [ap,e,GG]
theorem d9_ {q:A4 W} (hq:q.i.Lw 65) {v:A3 W} (hv:Vin v):∃ x y z:Int,(Wv (dD q v).x x 40∧Wv (dD q v).y y 40∧Wv (dD q v).z z 40)∧(x:Rat)=rqx q.x.1 q.y.1 q.z.1 q.t.1 v.x.1 v.y.1 v.z.1∧(y:Rat)=rqy q.x.1 q.y.1 q.z.1 q.t.1 v.x.1 v.y.1 v.z.1∧(z:Rat)=rqz q.x.1 q.y.1 q.z.1 q.t.1 v.x.1 v.y.1 v.z.1:=by
 have tm:=VF hq hv;have c2:((2:Int):Rat)=2:=rfl;have c0:((0:Int):Rat)=0:=rfl;refine ⟨_,_,_,⟨tm.x,tm.y,tm.z⟩,?_,?_,?_⟩<;>clear tm hq hv
 ·unfold rqx;simp only [Rat.intCast_add,Rat.intCast_mul,Rat.intCast_neg,c0,c2];grind
 ·unfold rqy;simp only [Rat.intCast_add,Rat.intCast_mul,Rat.intCast_neg,c0,c2];grind
 unfold rqz;simp only [Rat.intCast_add,Rat.intCast_mul,Rat.intCast_neg,c0,c2];grind
theorem TT {n g:W} {a:Rt} {N T X:Int} {r:Rat} (hn:Wv n N 17) (n0:0<N) (ha:a.At ((X:Rat)+r / (N:Rat))) (sa:Az ((X:Rat)+r / (N:Rat)) 70 18) (eT:(T:Rat)=r) (hg:g.1=T+N*X):fJ (cM n) a=cM g:=by
 have m:=cS_ (PO n) ha (Az.int (a:=17) (by rw [hn.1];exact hn.2)) sa dd_ dd_
 have h0:(N:Rat)≠0:=fun e=>by have:=Rat.intCast_eq_zero_iff.1 e;omega
 have hg':=PO g
 have e:((n.1:Int):Rat)*((X:Rat)+r / (N:Rat))=(g.1:Rat):=by
  rw [hn.1,hg,Rat.intCast_add,Rat.intCast_mul,eT];have:=Rat.div_mul_cancel (a:=r) h0
  grind
 rw [e] at m;exact NR m hg'
theorem fh_ (a b c d:Int):((a*a+b*b+c*c+d*d:Int):Rat)=rqn a b c d:=by
 unfold rqn;simp only [Rat.intCast_add,Rat.intCast_mul];grind
theorem bZ_ {u:Int} (h:u.natAbs<65):0≤u*u∧u*u≤4096:=by
 rw [← Int.natAbs_mul_self];have:=Nat.mul_le_mul (show u.natAbs≤64 by omega) (show u.natAbs≤64 by omega);omega
theorem au_ {p:Pose} (hp:Pok p) {v:A3 W} (hv:Vin v):lR (fI (cS p.q)) (cQ p v)=n6 (LQ p v):=by
 have eN:=fh_ p.q.x.1 p.q.y.1 p.q.z.1 p.q.t.1;obtain ⟨x,y,z,⟨tx,ty,tz⟩,ex,ey,ez⟩:=d9_ hp.1.1 hv;obtain ⟨sc,sp⟩:=KG hp.1.1 hp.1.2;have V:=I3 hp.1 hp.2 hv;obtain ⟨b1,b2,b3⟩:=hp.2
 have nb:(p.q.x.1*p.q.x.1+p.q.y.1*p.q.y.1+p.q.z.1*p.q.z.1+p.q.t.1*p.q.t.1).natAbs<2 ^ 15:=by
  obtain ⟨h1,h2,h3,h4⟩:=hp.1.1;have k1:=bZ_ h1;have k2:=bZ_ h2;have k3:=bZ_ h3;have k4:=bZ_ h4;have e1:p.q.i.x=p.q.x.1:=rfl;have e2:p.q.i.y=p.q.y.1:=rfl;have e3:p.q.i.z=p.q.z.1:=rfl;have e4:p.q.i.t=p.q.t.1:=rfl;rw [e1] at k1;rw [e2] at k2;rw [e3] at k3;rw [e4] at k4;omega
 generalize p.q.x.1*p.q.x.1+p.q.y.1*p.q.y.1+p.q.z.1*p.q.z.1+p.q.t.1*p.q.t.1=N at sc sp eN nb;have hx:=V.hx;have hy:=V.hy;have hz:=V.hz;have sx:=V.sx;have sy:=V.sy;have sz:=V.sz;rw [← eN] at hx hy hz sx sy sz
 have g:∀ {t w:W} {T:Int},Wv t T 40→w.1.natAbs<2 ^ 47→(W.add t (W.mul (cS p.q) w)).1=T+N*w.1:=fun {t w T} ht hw=>by
  have m:=Wv.mul (⟨sc.1,nb⟩:Wv (cS p.q) N 15) (.self hw) dd_;have m1:=m.1;have m2:=m.2;have t2:=ht.2
  show IntKind.i64.wrap (t.1+(W.mul (cS p.q) w).1)=_
  rw [ht.1,m1];exact wi ⟨by omega,by omega⟩
 rw [XO,R5,er_];unfold tJ iN LQ;rw [TT sc sp hx sx ex (g tx b1),TT sc sp hy sy ey (g ty b2),TT sc sp hz sz ez (g tz b3)]
def mm (L:Nat) (g:Nat→Rt):Nat→Nat→Rt→Rt→Nat×Rt×Rt
 | 0,k,b,a=>(k,b,a)
 | f+1,k,b,a=>bif decide ((k:Int)<(L:Int)) then mm L g f (k+1) (iY b (g k)) (eO a (g k)) else (k,b,a)
section
variable {p:Pose} {c:List (A3 W)}
theorem eS_:∀ (f k:Nat) (b a:Rt),i8 p c f k b a=mm (aD p c).length (fun k=>((aD p c).getD k V0).x) f k b a
 | 0,_,_,_=>rfl
 | f+1,k,b,a=>by unfold i8 mm;dsimp only;rw [eS_ f]
theorem eT_ {k0:Nat} {b0 a0:Rt}:∀ (f k:Nat) (b a:Rt),i9 p c k0 b0 a0 f k b a=mm (aD p c).length (fun k=>((aD p c).getD k V0).y) f k b a
 | 0,_,_,_=>rfl
 | f+1,k,b,a=>by unfold i9 mm;dsimp only;rw [eT_ f]
theorem eU_ {k0 k1:Nat} {b0 a0 b1 a1:Rt}:∀ (f k:Nat) (b a:Rt),jA p c k0 b0 a0 k1 b1 a1 f k b a=mm (aD p c).length (fun k=>((aD p c).getD k V0).z) f k b a
 | 0,_,_,_=>rfl
 | f+1,k,b,a=>by unfold jA mm;dsimp only;rw [eU_ f]
theorem U1 {a b:Rt} {p q:Rat} (ha:a.At p) (hb:b.At q):∃ m,(eO a b).At m∧m≤p∧m≤q∧(m=p∨m=q):=by
 unfold eO;rw [BK ha,BK hb,← aJ_];simp only [Bool.not_true,Bool.or_self,cond_false]
 by_cases h:p≤q
 ·rw [decide_eq_true ((XI ha hb).2 h),cond_true];exact ⟨p,ha,Rat.le_refl,h,.inl O⟩
 rw [decide_eq_false (fun e=>h ((XI ha hb).1 e)),cond_false];exact ⟨q,hb,Rat.le_of_lt (Rat.not_le.1 h),Rat.le_refl,.inr O⟩
theorem bO_ {a b:Rt} {p q:Rat} (ha:a.At p) (hb:b.At q):∃ m,(iY a b).At m∧p≤m∧q≤m∧(m=p∨m=q):=by
 obtain ⟨m,h,h1,h2,h3⟩:=U1 (NU ha) (NU hb);refine ⟨-m,NU h,by grind,by grind,?_⟩;rcases h3 with h|h
 ·left;rw [h];exact Rat.neg_neg p
 right;rw [h];exact Rat.neg_neg q
structure TR (b a:Rt) (x:Nat→Rat) (k:Nat):Prop where
 lo:∃ m,a.At m∧(∀ j,j<k→m≤x j)∧∃ j,j<k∧m=x j
 hi:∃ m,b.At m∧(∀ j,j<k→x j≤m)∧∃ j,j<k∧m=x j
theorem TR.one {a:Rt} {x:Nat→Rat} (h:a.At (x 0)):TR a a x 1:=by
 have z:∀ j,j<1→j=0:=fun j hj=>by omega
 exact ⟨⟨_,h,fun j hj=>by rw [z j hj];exact Rat.le_refl,0,by omega,rfl⟩,⟨_,h,fun j hj=>by rw [z j hj];exact Rat.le_refl,0,by omega,rfl⟩⟩
theorem TR.step {b a r:Rt} {x:Nat→Rat} {k:Nat} (t:TR b a x k) (hr:r.At (x k)):TR (iY b r) (eO a r) x (k+1):=by
 obtain ⟨⟨m,hm,m1,i,i1,i2⟩,M,hM,M1,j,j1,j2⟩:=t;obtain ⟨n,hn,n1,n2,n3⟩:=U1 hm hr;obtain ⟨N,hN,N1,N2,N3⟩:=bO_ hM hr;refine ⟨⟨n,hn,fun l hl=>?_,?_⟩,N,hN,fun l hl=>?_,?_⟩
 ·by_cases e:l=k
  ·rw [e];exact n2
  exact Rat.le_trans n1 (m1 l oo_)
 ·rcases n3 with e|e
  ·exact ⟨i,by omega,by rw [e,i2]⟩
  exact ⟨k,by omega,e⟩
 ·by_cases e:l=k
  ·rw [e];exact N2
  exact Rat.le_trans (M1 l oo_) N1
 rcases N3 with e|e
 ·exact ⟨j,by omega,by rw [e,j2]⟩
 exact ⟨k,by omega,e⟩
theorem OM {L:Nat} {g:Nat→Rt} {x:Nat→Rat} (hg:∀ k,k<L→(g k).At (x k)):∀ (f k:Nat) (b a:Rt),L - k<f→k≤L→TR b a x k→∃ k' b' a',mm L g f k b a=(k',b',a')∧TR b' a' x L
 | 0,k,b,a,h,_,_=>absurd h (Nat.not_lt_zero _)
 | f+1,k,b,a,h,hk,t=>by
  unfold mm
  by_cases hl:k<L
  ·rw [decide_eq_true oo_,cond_true]
   exact OM hg f (k+1) _ _ oo_ hl (t.step (hg k hl))
  rw [decide_eq_false oo_,cond_false]
  have:k=L:=by omega
  subst this;exact ⟨_,_,_,rfl,t⟩
theorem fd_ (a:Rt):cT a=bC a:=by
 unfold cT bC;rw [PK,XK]
theorem UA {p q:Rat} (h:p≤q):p.floor≤q.floor:=Y6 (Rat.le_trans (YR p) h)
theorem TR.same {lo hi:W} {b a:Rt} {x:Nat→Rat} {n:Nat} (t:TR b a x n) (T:TI lo hi x n) (n0:0<n) {B:Int} (hB:B≤4611686018427387904) (bf:∀ j,j<n→-B≤(x j).floor∧(x j).floor≤B) (bc:∀ j,j<n→-B ≤ -(-(x j)).floor∧-(-(x j)).floor≤B):Z.smallW (bU a).dec=lo∧Z.smallW (cT b).dec=hi:=by
 obtain ⟨⟨m,hm,m1,i,i1,i2⟩,M,hM,M1,j,j1,j2⟩:=t;obtain ⟨l,l1,l2⟩:=T.le n0;obtain ⟨u,u1,u2⟩:=T.he n0
 constructor
 ·apply Subtype.ext
  have b:=bf i i1;rw [← i2] at b;rw [← PK,FR hm oo_];have k1:=UA (m1 l l1);have k2:=T.l i i1;rw [← i2] at k2;omega
 apply Subtype.ext
 have b:=bc j j1;rw [← j2] at b;rw [fd_,IG hM oo_];have k1:=UA (show -M ≤ -(x u) by have:=M1 u u1;grind);have k2:=T.h j j1;rw [← j2] at k2;omega
theorem z4 (p:Pose) (c:List (A3 W)):aD p c=aA p c:=by
 rw [HK,E9]
 congr 1
 funext v
 exact (LW p v).symm
theorem WS (hp:Pok p) (n0:0<c.length) {r:Int} (r0:0≤r∧r≤524288) (hc:∀ k,k<c.length→Vin (c.getD k A30)∧KM (c.getD k A30)≤r*r):bP p c=⟨(gF p c).1,(gF p c).2⟩:=by
 obtain ⟨tx,ty,tz⟩:=XB hp r0 hc;have A:=fun k (h:k<c.length)=>cw_ hp (hc k h).1 r0.1 (hc k h).2;obtain ⟨o1,o2,o3⟩:=hp.2;have L:(aD p c).length=c.length:=xG p c;obtain ⟨k1,b1,a1,e1,t1⟩:=OM (L:=c.length) (g:=fun k=>((aD p c).getD k V0).x) (x:=fun k=>axX p (c.getD k A30)) (fun k h=>by rw [z4,uA h];exact (A k h).1.a) (c.length+1) 1 (((aD p c).getD 0 V0).x) (((aD p c).getD 0 V0).x) oo_ n0 (.one (by rw [z4,uA n0];exact (A 0 n0).1.a));obtain ⟨k2,b2,a2,e2,t2⟩:=OM (L:=c.length) (g:=fun k=>((aD p c).getD k V0).y) (x:=fun k=>axY p (c.getD k A30)) (fun k h=>by rw [z4,uA h];exact (A k h).2.1.a) (c.length+1) 1 (((aD p c).getD 0 V0).y) (((aD p c).getD 0 V0).y) oo_ n0 (.one (by rw [z4,uA n0];exact (A 0 n0).2.1.a));obtain ⟨k3,b3,a3,e3,t3⟩:=OM (L:=c.length) (g:=fun k=>((aD p c).getD k V0).z) (x:=fun k=>axZ p (c.getD k A30)) (fun k h=>by rw [z4,uA h];exact (A k h).2.2.a) (c.length+1) 1 (((aD p c).getD 0 V0).z) (((aD p c).getD 0 V0).z) oo_ n0 (.one (by rw [z4,uA n0];exact (A 0 n0).2.2.a));obtain ⟨x1,x2⟩:=t1.same tx n0 (B:=4611686018427387904) (Int.le_refl _) (fun j h=>by have:=(A j h).1.fl;omega) (fun j h=>by have:=(A j h).1.cl;omega);obtain ⟨y1,y2⟩:=t2.same ty n0 (B:=4611686018427387904) (Int.le_refl _) (fun j h=>by have:=(A j h).2.1.fl;omega) (fun j h=>by have:=(A j h).2.1.cl;omega);obtain ⟨z1,z2⟩:=t3.same tz n0 (B:=4611686018427387904) (Int.le_refl _) (fun j h=>by have:=(A j h).2.2.fl;omega) (fun j h=>by have:=(A j h).2.2.cl;omega);unfold bP;rw [eS_,L,e1];simp only [ap];rw [eT_,L,e2];simp only [ap];rw [eU_,L,e3];simp only [ap];rw [x1,x2,y1,y2,z1,z2]
end
theorem HC {h:Path} (hp:Pok h.to_) (b:A3 W) {c:List (A3 W)} (hc:∀ k,k<c.length→Vin (c.getD k A30)) (x:Rt):∀ (f k:Nat),∃ j,eF h b c x f k = .inl j
 | 0,k=>⟨k,rfl⟩
 | f+1,k=>by
  unfold eF;rw [tF]
  by_cases hk:k<c.length
  ·have eg:(c.map (LQ h.to_)).getD k A30=LQ h.to_ (c.getD k A30):=by
    rw [List.getD_eq_getElem?_getD,List.getD_eq_getElem?_getD,List.getElem?_map,List.getElem?_eq_getElem hk];rfl
   obtain ⟨j,e⟩:=HC hp b hc x f (k+1);refine ⟨j,?_⟩;rw [decide_eq_true oo_,cond_true,z4,KH,HM]
   dsimp only
   rw [uA hk,eg,au_ hp (hc k hk)];simp only [decide_true,Bool.and_self,cond_true];exact e
  rw [decide_eq_false oo_,cond_false];exact ⟨k,rfl⟩
theorem XH (hs:kQ=true) (h:Path) (b:A3 W) (c:List (A3 W)) (x:Rt):bR h b c x=true:=by
 unfold bR
 cases hc:(((gR h).1 != 0)||(!(gT b)||(!(i3 c)||(!(pD x)))))
 case true=>rw [cond_true];exact hs
 simp only [Bool.or_eq_false_iff,Bool.not_eq_false'] at hc;obtain ⟨c1,c2,c3,c4⟩:=hc
 have c0:(gR h).1=0:=by simpa using c1
 have hh:=eN_ c0;have hv:=fQ_ c2;have hp:Pok h.to_:=⟨hh.tq,hh.tx⟩;obtain ⟨hne,_,hin⟩:=YL c3;have hm:=be_ c3;obtain ⟨r0,hr⟩:=WV hm;have n0:0<c.length:=List.length_pos_iff.2 hne;have hk:∀ k,k<c.length→Vin (c.getD k A30)∧KM (c.getD k A30)≤(eL c).1*(eL c).1:=fun k hk=>⟨fP_ (hin k hk),hr _ (QF hk)⟩;obtain ⟨s,A,B,C,D,_,_,_,_,_,_,hx⟩:=IY hh hv;have te:=(PS hh.fq.1 hh.tq.1).2;have same:∀ a:List I,bK a a=true:=fun a=>VQ a;obtain ⟨j,e⟩:=HC hp b (fun k h=>(hk k h).1) x ((aA h.to_ c).length+1) 0;rw [cond_false,e,hx.r,te,z4,dP_ hh hv x,LW,MW,bJ_,WS hp n0 r0 hk,KH,HM,hx.s2];simp only [same,sm,decide_true,Bool.and_self,Bool.not_true,Bool.or_self,bne_self_eq_false,cond_true,cond_false,Bool.and_true,hs]
open Go Go.Kn
theorem fj_:kQ=true:=by kernel_rfl
open Go Go.Kn Go.RowKit Go.ChangeShapes Go.WideShapes
section
variable {H:Type} {enc:TypeId×Value→H} {P:Program} {w:World} {base:Nat} {spare:Nat→Bool} {held:Bool} {α:Type} {e:El α}
theorem Rd.app {a:Addr} {A B:List Value} (h:Rd w a A) (k:Rd w (a.add A.length) B):Rd w a (A++B):=fun j v hj=>by
 rcases Nat.lt_or_ge j A.length with h'|h'
 ·rw [List.getElem?_append_left h'] at hj;exact h j v hj
 rw [List.getElem?_append_right h'] at hj;have:=k _ _ hj;rw [NW,Nat.add_sub_cancel' h'] at this;exact this
theorem Rd.of_cells {a:Addr} {n:Nat} {cs:List Value} (h:w.cells? base a n=some cs):Rd w a cs:=fun j v hj=>by
 obtain ⟨_,hl,hc⟩:=World.cells?_some h;have hj':j<cs.length:=(List.getElem?_eq_some_iff.1 hj).1;have h1:=hc j oo_;rw [hj] at h1;exact h1
theorem UZ {a:Addr} {len:Nat} (h:∀ i,i<len→∃ x:α,w.cells? base (a.add (i*e.n)) e.n=some (e.cs x)):∀ k,k≤len→∃ l:List α,l.length=k∧Rd w a (rows e l)
 | 0,_=>⟨[],rfl,fun j v hj=>by simp [rows] at hj⟩
 | k+1,hk=>by
  obtain ⟨l,hl,hr⟩:=UZ h k oo_;obtain ⟨x,hx⟩:=h k oo_;refine ⟨l++[x],by simp [hl],?_⟩;rw [z0];refine Rd.app hr ?_;rw [oW,hl];have:=Rd.of_cells hx
  simpa [rows] using this
theorem SY {T E:TypeId} {ls:List tU} {v:Value} {d:DataW H} {p:List MemPlace} {b0:Nat} {r:Reach} (hT:P.underlying T=some (.slice E)) (hl:lz P 8 E=some ls) (hn:P.cellsOf E=e.n)
  (op:∀ cs,LWF cs ls→∃ x:α,cs=e.cs x) (hv:Value.okWide P w r b0 T v) (ht:DataW.Trod enc P w base spare held T v d p):∃ l:List α,Slr w e v l:=by
 obtain ⟨fuel,hf⟩:=ht
 have hv':∃ a n c,v = .slice a n c:=by
  unfold Value.okWide at hv;rw [hT] at hv;unfold Cell.okWide at hv;rw [hT] at hv
  cases v<;>simp_all [Cell.ok]
 obtain ⟨a,n,c,rfl⟩:=hv';have e1:(Value.slice a n c).cells.toList=[.slice a n c]:=rfl;rw [e1] at hf;rcases DataW.trod_slice hT hf with ⟨h,_⟩|⟨a',len,cap,elems,rest,m,_,h,_,_,hlc,hc,hel,hall,_⟩
 ·cases h
  exact ⟨[],none,0,rfl,Nat.le_refl _,by decide,.inl ⟨rfl,rfl,rfl⟩⟩
 ·cases h
  have hx:∀ i,i<n→∃ x:α,w.cells? base (a'.add (i*e.n)) e.n=some (e.cs x):=fun i hi=>by
   have h1:=hall i hi;rw [List.getElem?_eq_getElem oo_,hn] at h1
   cases hc':w.cells? base (a'.add (i*e.n)) e.n with
   | none=>rw [hc'] at h1;cases h1
   | some cs =>
    rw [hc'] at h1;obtain ⟨x,hx⟩:=op cs (zY 8 hl h1);exact ⟨x,by rw [hx]⟩
  obtain ⟨l,hl',hr⟩:=UZ hx n (Nat.le_refl _);exact ⟨l,some a',c,by rw [hl'],by omega,hc,.inr ⟨a',rfl,hr⟩⟩
end
open Go Go.Kn Go.RowKit Go.ChangeShapes Go.WideShapes
section
variable {H:Type} {enc:TypeId×Value→H} {P:Program} {w:World} {base:Nat} {spare:Nat→Bool} {held:Bool} {α:Type} {e:El α}
theorem e0_ {T U E:TypeId} {f0:Field} {ls:List tU} {v:Value} {d:DataW H} {p:List MemPlace} {b0:Nat} {r:Reach} (hT:P.underlying T=some (.struct #[f0])) (hf:f0.type=U) (ho:f0.offset=0) (hc:P.cellsOf U=1) (hcT:P.cellsOf T=1) (hct:P.cellTypes P.depth T=some [U])
  (hU:P.underlying U=some (.slice E)) (hl:lz P 8 E=some ls) (hn:P.cellsOf E=e.n) (op:∀ cs,LWF cs ls→∃ x:α,cs=e.cs x) (hv:Value.okWide P w r b0 T v) (ht:DataW.Trod enc P w base spare held T v d p) :
  ∃ (a:Option Addr) (c:Nat) (l:List α),v=AV [csl a l.length c]∧Slr w e (.slice a l.length c) l:=by
 unfold Value.okWide at hv;rw [hT] at hv;obtain ⟨cs,rfl,hsz,ts,hts,_,hrow⟩:=hv;rw [hct] at hts
 cases hts
 rw [hcT] at hsz
 obtain ⟨c0,rfl⟩:∃ c0,cs = #[c0]:=by
  obtain ⟨l⟩:=cs
  match l,hsz with
  | [c0],_=>exact ⟨c0,rfl⟩
 obtain ⟨u,hu,hcell⟩:=hrow 0 c0 O
 have:u=U:=by simpa using hu.symm
 subst this
 have hv':Value.okWide P w r b0 u c0:=by unfold Value.okWide;rw [hU];exact hcell
 obtain ⟨fuel,hfu⟩:=ht;obtain ⟨y0,n,hx,_,hy⟩:=trod_struct1 hT hfu;rw [ho,hf,hc] at hy
 have hs:∃ a n c,c0 = .slice a n c:=by
  unfold Cell.okWide at hcell;rw [hU] at hcell
  cases c0<;>simp_all [Cell.ok]
 obtain ⟨a,n',c,rfl⟩:=hs;obtain ⟨l,hsl⟩:=SY (e:=e) hU hl hn op hv' ⟨n,hy⟩;obtain ⟨p',c',hform,_⟩:=id hsl
 cases hform
 exact ⟨_,_,l,rfl,hsl⟩
end
theorem fX_ {cs:List Value} (h:LWF cs ([some .i64]++([some .i64]++[some .i64]))):∃ x:A3 W,cs=elV.cs x:=by
 obtain ⟨c0,r0,rfl,u0,h⟩:=LWF.split h;obtain ⟨c1,r1,rfl,u1,u2⟩:=LWF.split h;obtain ⟨x0,rfl⟩:=ZR u0;obtain ⟨x1,rfl⟩:=ZR u1;obtain ⟨x2,rfl⟩:=ZR u2;exact ⟨⟨x0,x1,x2⟩,rfl⟩
end Go.Num
