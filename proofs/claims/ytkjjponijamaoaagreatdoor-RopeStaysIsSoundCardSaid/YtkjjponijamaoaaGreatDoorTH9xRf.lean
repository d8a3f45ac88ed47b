/- Lemmas: what they ask stands in their statements. -/
import Derived.Test.YtkjjponijamaoaaGreatDoorTH9xGD
import Derived.ChangeArms
set_option linter.unusedSimpArgs false
set_option linter.unusedVariables false
namespace Go.Num
open Go Go.Kn
def ff (i:Int):Nat→Int
  | 0=>1
  | k+1=>ff i k*(i - k)
def fac:Nat→Int
  | 0=>1
  | n+1=>fac n*((n+1:Nat):Int)
def wt (n i k:Nat):Int:=ff i k*fac (n - k)
def bs (γ:Nat→Int) (n i:Nat):Int:=mD (fun k=>wt n i k*γ k) (i+1)
theorem cT_ {n i k:Nat} (hn:n≤6) (hi:i≤n) (hk:k≤i):(wt n i k).natAbs<2 ^ 10:=by
  have h:∀ n,n<7→∀ i,i<7→∀ k,k<7→(wt n i k).natAbs<2 ^ 10:=by decide
  exact h n oo_ i oo_ k oo_
theorem BB {n i:Nat} (hn:n≤6) (hi:i≤n):eT (n:Int) (i:Int)=(List.range (i+1)).map fun k=>E (Z.of (wt n i k)):=by
  rcases (show n=0∨n=1∨n=2∨n=3∨n=4∨n=5∨n=6 by omega) with rfl|rfl|rfl|rfl|rfl|rfl|rfl
  · rcases (show i=0 by omega) with rfl;kernel_rfl
  · rcases (show i=0∨i=1 by omega) with rfl|rfl<;>kernel_rfl
  · rcases (show i=0∨i=1∨i=2 by omega) with rfl|rfl|rfl<;>kernel_rfl
  · rcases (show i=0∨i=1∨i=2∨i=3 by omega) with rfl|rfl|rfl|rfl<;>kernel_rfl
  · rcases (show i=0∨i=1∨i=2∨i=3∨i=4 by omega) with rfl|rfl|rfl|rfl|rfl<;>kernel_rfl
  · rcases (show i=0∨i=1∨i=2∨i=3∨i=4∨i=5 by omega) with rfl|rfl|rfl|rfl|rfl|rfl<;>kernel_rfl
  rcases (show i=0∨i=1∨i=2∨i=3∨i=4∨i=5∨i=6 by omega) with rfl|rfl|rfl|rfl|rfl|rfl|rfl<;>kernel_rfl
section
variable {p:List I} {a b:Rt} {γ:Nat→Int} {n B:Nat}
theorem WX (hn:n≤6) {i:Nat} (hi:i≤n) (hB:∀ k,(γ k).natAbs<2 ^ B):∀ j,j≤i+1→(mD (fun k=>wt n i k*γ k) j).natAbs≤j*2 ^ (10+B)
  | 0,_=>Nat.zero_le _
  | j+1,hj=>by
    have h1:=WX hn hi hB j oo_;have h2:=k6 (cT_ hn hi (show j≤i by omega)) (hB j);simp only [mD];rw [Nat.succ_mul];omega
theorem WW (hn:n≤6) {i:Nat} (hi:i≤n) (hB:∀ k,(γ k).natAbs<2 ^ B) {j:Nat} (hj:j≤i+1):(mD (fun k=>wt n i k*γ k) j).natAbs<2 ^ (B+13):=by
  have h:=WX hn hi hB j hj
  have e:(2:Nat) ^ (B+13)=8*2 ^ (10+B):=by rw [show B+13=10+B+3 by omega,Nat.pow_add _ (10+B) 3,Nat.mul_comm]
  have:j*2 ^ (10+B)≤7*2 ^ (10+B):=Nat.mul_le_mul_right _ oo_;have:0<2 ^ (10+B):=Nat.pow_pos dd_;omega
theorem ew_ (hp:p.length=n+1) (hn:n≤6) (hC:Po (dY p a (eP b a)) γ) (hB:∀ k,(γ k).natAbs<2 ^ B) (hk:B+13≤512) (out:List I) {i:Nat} (hi:i≤n):∀ (f j:Nat),i+1 - j<f→j≤i+1 →
    (eZ p a b out i f j (E (Z.of (mD (fun k=>wt n i k*γ k) j)))).2=E (Z.of (bs γ n i))
  | 0,j,h,_=>absurd h (Nat.not_lt_zero _)
  | f+1,j,h,hj=>by
    unfold eZ;rw [show ((p.length:Nat):Int) - 1=(n:Int) by omega,BB hn hi,List.length_map,List.length_range];rcases Nat.lt_or_eq_of_le hj with h1|h1
    · rw [decide_eq_true oo_,cond_true]
      have e1:((List.range (i+1)).map fun k=>E (Z.of (wt n i k))).getD j I0=E (Z.of (wt n i j)):=by rw [FC,if_pos h1]
      have b1:fE (wt n i j):=uP (k:=10) (cT_ hn hi oo_) dd_;have b2:(wt n i j*γ j).natAbs<2 ^ (10+B):=k6 (cT_ hn hi oo_) (hB j);simp only;rw [e1,EQ,hC.get];simp only [dB];rw [o4 b1 (hC.B j),EP (uP (WW hn hi hB hj) hk) (uP b2 oo_)];exact ew_ hp hn hC hB hk out hi f (j+1) oo_ h1
    subst h1;rw [decide_eq_false oo_,cond_false];rfl
theorem bN_ {v:Int} (h:fE v):(E (Z.of v)).1.bad=false:=by
  have:=SU h;unfold gdI at this;rw [Bool.and_eq_true] at this
  simpa using this.1
theorem ev_ (hp:p.length=n+1) (hn:n≤6) (hC:Po (dY p a (eP b a)) γ) (hB:∀ k,(γ k).natAbs<2 ^ B) (hk:B+13≤512):∀ (f i:Nat),n+1 - i<f→i≤n+1 →
    d9 p a b f ((List.range i).map fun i=>E (Z.of (bs γ n i))) i = .inl ((List.range (n+1)).map fun i=>E (Z.of (bs γ n i)),n+1)
  | 0,i,h,_=>absurd h (Nat.not_lt_zero _)
  | f+1,i,h,hi=>by
    unfold d9;rcases Nat.lt_or_eq_of_le hi with h1|h1
    · rw [decide_eq_true oo_,cond_true,show ((p.length:Nat):Int) - 1=(n:Int) by omega,BB hn oo_,List.length_map,List.length_range]
      have e1:=ew_ hp hn hC hB hk ((List.range i).map fun i=>E (Z.of (bs γ n i))) (show i≤n by omega) (i+1+1) 0 oo_ (Nat.zero_le _);rw [show E (Z.of (mD (fun k=>wt n i k*γ k) 0))=I0 from I0_E.symm] at e1
      show (bif ((eZ p a b _ i (i+1+1) 0 I0).2).1.bad then _ else _)=_
      rw [e1,bN_ (v:=bs γ n i) (uP (WW hn (show i≤n by omega) hB (Nat.le_refl _)) hk),cond_false]
      have e2:((List.range i).map fun i=>E (Z.of (bs γ n i)))++[E (Z.of (bs γ n i))]=(List.range (i+1)).map fun i=>E (Z.of (bs γ n i)):=by rw [List.range_succ,List.map_append];rfl
      rw [e2];exact ev_ hp hn hC hB hk f (i+1) oo_ h1
    subst h1;rw [decide_eq_false oo_,cond_false]
theorem O5 {u v G:Int} (hu:fE u) (hG:fE G) (h0:0<G) (h:G*v=u):Z.quo (Z.of u) (Z.of G)=Z.of v:=by
  rw [zF hu hG h0,← h,Int.mul_ediv_cancel_left _ oo_]
theorem aM_ (out0:List I) (i0:Nat) {N:Nat} {G:Int} {v l:Nat→Int} (h0:0<G) (hG:fE G) (hv:∀ k,k<N→fE (v k)) (hl:∀ k,k<N→G*l k=v k) (hlen:out0.length=N) (hc:dN out0=E (Z.of G)):∀ (f k:Nat),N - k<f→k≤N →
    (gF p a b out0 i0 f k ((List.range N).map fun i=>E (Z.of (if i<k then l i else v i)))).2=(List.range N).map fun i=>E (Z.of (l i))
  | 0,k,h,_=>absurd h (Nat.not_lt_zero _)
  | f+1,k,h,hk=>by
    unfold gF;rw [hlen];rcases Nat.lt_or_eq_of_le hk with h1|h1
    · rw [decide_eq_true oo_,cond_true,hc,FC,if_pos h1,if_neg (Nat.lt_irrefl _),dB,dB,O5 (hv k h1) hG h0 (hl k h1)]
      have e:((List.range N).map fun i=>E (Z.of (if i<k then l i else v i))).set k (E (Z.of (l k)))=(List.range N).map fun i=>E (Z.of (if i<k+1 then l i else v i)):=by
        apply List.ext_getElem
        · simp
        intro j hj hj';simp only [List.length_set,List.length_map,List.length_range] at hj;rw [List.getElem_set];simp only [List.getElem_map,List.getElem_range]
        by_cases hjk:k=j
        · subst hjk;rw [if_pos rfl,if_pos oo_]
        rw [if_neg hjk]
        by_cases h2:j<k
        · rw [if_pos h2,if_pos oo_]
        rw [if_neg h2,if_neg oo_]
      rw [e];exact aM_ out0 i0 h0 hG hv hl hlen hc f (k+1) oo_ h1
    subst h1;rw [decide_eq_false oo_,cond_false]
    exact List.map_congr_left fun i hi=>by rw [if_pos (List.mem_range.1 hi)]
theorem ai_ (hp:p.length=n+1) (hn:n≤6) (nb:dR p=false) (hf:kP [a,b]=true) (hC:Po (dY p a (eP b a)) γ) (hB:∀ k,(γ k).natAbs<2 ^ B) (hk:B+13≤512) :
    ∃ (G:Int) (l:Nat→Int),0<G∧(∀ i,i≤n→G*l i=bs γ n i)∧(∀ i,i≤n→(l i).natAbs<2 ^ (B+13))∧cW p a b=((List.range (n+1)).map (fun i=>E (Z.of (l i))),true):=by
  have e0:=ev_ hp hn hC hB hk (p.length+1) 0 oo_ (Nat.zero_le _);rw [show ((List.range 0).map fun i=>E (Z.of (bs γ n i)))=([]:List I) from rfl] at e0;have hv:∀ i,i<n+1→fE (bs γ n i):=fun i hi=>uP (WW hn oo_ hB (Nat.le_refl _)) hk
  have hall:((List.range (n+1)).map fun i=>E (Z.of (bs γ n i))).all gdI=true:=by
    rw [List.all_eq_true];intro x hx;obtain ⟨i,hi,rfl⟩:=List.mem_map.1 hx;exact SU (hv i (List.mem_range.1 hi))
  obtain ⟨c1,c2⟩:=ES hall
  have cd:∀ i,i<n+1→((cN ((List.range (n+1)).map fun i=>E (Z.of (bs γ n i))):Nat):Int) ∣ bs γ n i:=fun i hi=>by
    have:=IG (l:=(List.range (n+1)).map fun i=>E (Z.of (bs γ n i))) (x:=E (Z.of (bs γ n i))) (List.mem_map.2 ⟨i,List.mem_range.2 hi,rfl⟩)
    rwa [aa_ (hv i hi)] at this
  have blt:∀ i,i≤n→(bs γ n i).natAbs<2 ^ (B+13):=fun i hi=>WW hn hi hB (Nat.le_refl _);unfold cW;rw [nb,hf,hC.nb,e0];simp only [sm,Bool.not_true,Bool.or_false,cond_false];rw [c1,dB,o7 c2];generalize hout:((List.range (n+1)).map fun i=>E (Z.of (bs γ n i)))=out at *
  have hlen:out.length=n+1:=by rw [← hout,List.length_map,List.length_range]
  rcases Nat.eq_zero_or_pos (cN out) with h0|h0
  · rw [h0]
    refine ⟨1,bs γ n,by decide,fun i _=>Int.one_mul _,blt,?_⟩;rw [show (((((0:Nat):Int)).sign) != 0)=false from rfl,cond_false,hout]
  rw [Int.sign_eq_one_of_pos oo_,show (((1:Int)) != 0)=true from rfl,cond_true];have hl:∀ k,k<n+1→((cN out:Nat):Int)*(bs γ n k / (cN out:Nat))=bs γ n k:=fun k hk=>Int.mul_ediv_cancel' (cd k hk);refine ⟨(cN out:Nat),fun i=>bs γ n i / (cN out:Nat),by omega,fun i hi=>hl i oo_,fun i hi=>?_,?_⟩
  · have h1:=hl i oo_
    refine Nat.lt_of_le_of_lt ?_ (blt i hi);rw [← h1,Int.natAbs_mul];rw [Int.natAbs_natCast];exact Nat.le_mul_of_pos_left _ h0
  have e2:=aM_ (p:=p) (a:=a) (b:=b) out (n+1) (v:=bs γ n) (l:=fun i=>bs γ n i / (cN out:Nat)) oo_ c2 hv hl hlen c1 (out.length+1) 0 oo_ (Nat.zero_le _);rw [show ((List.range (n+1)).map fun i=>E (Z.of (if i<0 then bs γ n i / (cN out:Nat) else bs γ n i)))=out from by rw [← hout];exact List.map_congr_left fun i _=>by rw [if_neg (Nat.not_lt_zero _)]] at e2
  show ((gF p a b out (n+1) (out.length+1) 0 out).2,true)=_
  rw [e2]
end
open Go Go.Kn
theorem sgp {q:Rat} (h:0<q):q.num.sign=1:=Int.sign_eq_one_of_pos (by
  have:=(Rat.lt_iff _ _).1 h
  simpa using this)
theorem fG_ {a b a' b':Nat} {p q:Rat} {x y:Rt} (hx:x.At p) (hy:y.At q) (h0:q≠0) (hp:Az p a b) (hq:Az q a' b') (h:a+b'≤512) (h':b+a'≤512):(nY x y).At (p / q):=by
  unfold nY;rw [lW,oA hy,Rat.div_def,G1,PW];exact PV hx (fc_ hy h0) hp (hq.inv h0) h h'
def gpC (X S:Nat→Int) (Q k:Int) (i:Nat):Int:=X i*Q - S i*k
def slC (X Y Z S:Nat→Int) (Q k1 k2 k3 n d:Int) (i:Nat):Int:=conv S S i*(n*Q*Q) - (0+conv (gpC X S Q k1) (gpC X S Q k1) i+conv (gpC Y S Q k2) (gpC Y S Q k2) i+conv (gpC Z S Q k3) (gpC Z S Q k3) i)*d
theorem VB {V W:List I} {X S:Nat→Int} (hX:PB V X 4 49) (hS:PB W S 3 22) {r:Rt} {q:Rat} (hr:r.At q) (sr:Az q 16 16) {e Q:Int} (he:e.natAbs<2 ^ 32) (hq:Q=q.den*e):PB (JO V W r (E (Z.of Q))) (gpC X S Q (q.num*e)) 4 98:=by
  subst hq;have i:=At.is hr
  have dn:((q.den:Int)).natAbs<2 ^ 16:=by rw [Int.natAbs_natCast];exact sr.d
  have hQ:=k6 dn he;have hk:=k6 sr.n he;have bQ:fE ((q.den:Int)*e):=rS hQ dd_;have hm:=k6 sr.n hQ
  have e1:E (Z.quo (E (Z.mul r.n.dec (E (Z.of (q.den*e))).dec)).dec r.d.dec)=E (Z.of (q.num*e)):=by
    rw [i.en,i.ed,dB,dB,dB,o4 i.hn bQ,dB,O5 (rS hm dd_) i.hd i.pos (Int.mul_left_comm _ _ _)]
  unfold JO;rw [e1];have s1:=(hX.scale hQ dd_).mono (n':=4) (b1:=97) dd_ dd_;have s2:=(hS.scale hk dd_).mono (n':=4) (b1:=97) dd_ dd_;exact s1.sub s2 dd_
theorem TB {a b c:I} {u v w:Int} (ha:a=E (Z.of u)) (hb:b=E (Z.of v)) (hc:c=E (Z.of w)) (bu:fE u) (bv:fE v) (bw:fE w) (buv:fE (u*v)):j3 a b c=E (Z.of (u*v*w)):=by
  unfold j3;rw [ha,hb,hc];simp only [dB];rw [o4 bu bv,o4 buv bw]
variable {h:Path} {v:A3 W} {b:A3 Rt} {m t:Rt} {X Y Z_ S:Nat→Int} {x y z mq q:Rat}
theorem gw_ (cl:Clm h v X Y Z_ S) (hb:V3 b x y z 16 16) (hm:m.At mq) (sm:Sz mq 48):∃ (p0:List I) (Q k1 k2 k3:Int),0<Q∧(k1:Rat)=x*(Q:Rat)∧(k2:Rat)=y*(Q:Rat)∧(k3:Rat)=z*(Q:Rat)∧HY (bB h v).1 (bB h v).2 b m=d7 p0 ∧
    PB p0 (slC X Y Z_ S Q k1 k2 k3 mq.num mq.den) 7 250∧Bd (gpC X S Q k1) 4 98∧Bd (gpC Y S Q k2) 4 98∧Bd (gpC Z_ S Q k3) 4 98:=by
  have ix:=At.is hb.hx;have iy:=At.is hb.hy;have iz:=At.is hb.hz;have im:=At.is hm
  have nd:∀ {q:Rat},Az q 16 16→((q.den:Int)).natAbs<2 ^ 16:=fun {q} h=>by rw [Int.natAbs_natCast];exact h.d
  have dx:=nd hb.sx;have dy:=nd hb.sy;have dz:=nd hb.sz
  have dm:((mq.den:Int)).natAbs<2 ^ 48:=by rw [Int.natAbs_natCast];exact sm.d
  have hxy:=k6 dx dy;have hQ:=k6 hxy dz
  have hQd:Qd b=E (Z.of ((x.den:Int)*y.den*z.den)):=by
    unfold Qd;rw [HK];exact TB ix.ed iy.ed iz.ed ix.hd iy.hd iz.hd (rS hxy dd_)
  obtain ⟨Q,eQ⟩:∃ Q:Int,Q=(x.den:Int)*y.den*z.den:=⟨_,rfl⟩;rw [← eQ] at hQd hQ
  have Qp:0<Q:=by rw [eQ];exact Int.mul_pos (Int.mul_pos oF oF) oF
  have g1:=VB cl.x cl.s hb.hx hb.sx (e:=y.den*z.den) (Q:=Q) (k6 dy dz) (by rw [eQ,Int.mul_assoc]);have g2:=VB cl.y cl.s hb.hy hb.sy (e:=x.den*z.den) (Q:=Q) (k6 dx dz) (by rw [eQ];grind);have g3:=VB cl.z cl.s hb.hz hb.sz (e:=x.den*y.den) (Q:=Q) hxy (by rw [eQ];grind);have sq:∀ {p:List I} {c:Nat→Int},PB p c 4 98→PB (aW p p) (conv c c) 7 198:=fun h=>h.mul h (e:=2) dd_ dd_ dd_;have a1:=(PB.nil 7 198).add (sq g1) dd_;have a2:=a1.add ((sq g2).mono (b1:=199) (Nat.le_refl _) dd_) dd_;have a3:=a2.add ((sq g3).mono (b1:=200) (Nat.le_refl _) dd_) dd_;have a4:=(a3.scale dm dd_).mono (n':=7) (b1:=249) (Nat.le_refl _) dd_;have hmQ:=k6 sm.n hQ;have hmQQ:=k6 hmQ hQ
  have em:iF [m.n,Qd b,Qd b]=E (Z.of (mq.num*Q*Q)):=by
    rw [HK];exact TB im.en hQd hQd im.hn (rS hQ dd_) (rS hQ dd_) (rS hmQ dd_)
  have s1:=cl.s.mul cl.s (e:=2) dd_ dd_ dd_;have s2:=(s1.scale hmQQ dd_).mono (n':=7) (b1:=249) dd_ dd_;have D:=s2.sub a4 dd_;have cf:∀ {r e k:Rat} {w:Rat},r=w*e→r=w*e:=fun h=>h
  have k1:((x.num*((y.den:Int)*z.den):Int):Rat)=x*(Q:Rat):=by
    rw [eQ];simp only [Rat.intCast_mul];have:=@wU x;grind
  have k2:((y.num*((x.den:Int)*z.den):Int):Rat)=y*(Q:Rat):=by
    rw [eQ];simp only [Rat.intCast_mul];have:=@wU y;grind
  have k3:((z.num*((x.den:Int)*y.den):Int):Rat)=z*(Q:Rat):=by
    rw [eQ];simp only [Rat.intCast_mul];have:=@wU z;grind
  refine ⟨_,Q,_,_,_,Qp,k1,k2,k3,?_,D,g1.bd,g2.bd,g3.bd⟩;unfold HY;rw [em,hQd,im.ed]
theorem bY_ {p:List I} {c:Nat→Int} (h:Po p c):∃ g:Int,0<g∧∀ k,(c k).fdiv (cN p)*g=c k:=by
  by_cases h0:p=[]
  · refine ⟨1,by decide,fun k=>?_⟩
    rw [h.zero (k:=k) (by rw [h0];exact Nat.zero_le k),Int.zero_fdiv];rfl
  exact ⟨(cN p:Nat),by have:=h.cpos h0;omega,fun k=>by rw [Int.mul_comm];exact TO h k⟩
theorem QJ (Q k:Int) (y:Rat):e26 (gpC X S Q k) y=e26 X y*(Q:Rat) - e26 S y*(k:Rat):=by
  show e26 (fun i=>(fun i=>X i*Q) i - (fun i=>S i*k) i) y=_
  rw [W5,B6,B6]
theorem eb_ {Q k1 k2 k3 n d:Int} {f:Nat} (hS:Bd S 3 f) (h1:Bd (gpC X S Q k1) 4 98) (h2:Bd (gpC Y S Q k2) 4 98) (h3:Bd (gpC Z_ S Q k3) 4 98) (y:Rat):e26 (slC X Y Z_ S Q k1 k2 k3 n d) y=e26 S y*e26 S y*((n:Rat)*(Q:Rat)*(Q:Rat)) - (e26 (gpC X S Q k1) y*e26 (gpC X S Q k1) y+e26 (gpC Y S Q k2) y*e26 (gpC Y S Q k2) y+e26 (gpC Z_ S Q k3) y*e26 (gpC Z_ S Q k3) y)*(d:Rat):=by
  show e26 (fun i=>(fun i=>conv S S i*(n*Q*Q)) i - (fun i=>(fun i=>(fun i=>(fun i=>(fun _:Nat=>(0:Int)) i+conv (gpC X S Q k1) (gpC X S Q k1) i) i+conv (gpC Y S Q k2) (gpC Y S Q k2) i) i+conv (gpC Z_ S Q k3) (gpC Z_ S Q k3) i) i*d) i) y=_
  rw [W5,B6,B6,C6 (fun i=>(fun i=>(fun _:Nat=>(0:Int)) i+conv (gpC X S Q k1) (gpC X S Q k1) i) i+conv (gpC Y S Q k2) (gpC Y S Q k2) i),C6 (fun i=>(fun _:Nat=>(0:Int)) i+conv (gpC X S Q k1) (gpC X S Q k1) i),C6 (fun _:Nat=>(0:Int))];rw [show e26 (fun _:Nat=>(0:Int)) y=0 from rV fun i _=>Rat.zero_mul _,Rat.zero_add];rw [yY hS hS dd_,yY h1 h1 dd_,yY h2 h2 dd_,yY h3 h3 dd_,Rat.intCast_mul,Rat.intCast_mul]
def dst (X Y Z S:Nat→Int) (x y z t:Rat):Rat:=(e26 X t / e26 S t - x)*(e26 X t / e26 S t - x)+(e26 Y t / e26 S t - y)*(e26 Y t / e26 S t - y)+(e26 Z t / e26 S t - z)*(e26 Z t / e26 S t - z)
theorem cv_ (cl:Clm h v X Y Z_ S) (hb:V3 b x y z 16 16) (hm:m.At mq) (sm:Sz mq 48):∃ c,PB (HY (bB h v).1 (bB h v).2 b m) c 7 250∧∀ t:Rat,0≤t→t≤1→(e26 c t).num.sign=(mq - dst X Y Z_ S x y z t).num.sign:=by
  obtain ⟨p0,Q,k1,k2,k3,Qp,e1,e2,e3,ep,hD,g1,g2,g3⟩:=gw_ cl hb hm sm;obtain ⟨g,gp,hg⟩:=bY_ hD.po;refine ⟨_,by rw [ep];exact ⟨QV hD.po,XT hD.po hD.bd⟩,fun t t0 t1=>?_⟩;have hS:=cl.pos t t0 t1
  have hs0:e26 S t≠0:=by grind
  have v1:=eb_ (n:=mq.num) (d:=mq.den) cl.s.bd g1 g2 g3 t;have v2:=B6 (fun k=>(slC X Y Z_ S Q k1 k2 k3 mq.num mq.den k).fdiv (cN p0)) g t;rw [show (fun k=>(fun k=>(slC X Y Z_ S Q k1 k2 k3 mq.num mq.den k).fdiv (cN p0)) k*g)=slC X Y Z_ S Q k1 k2 k3 mq.num mq.den from funext hg,v1,QJ,QJ,QJ,e1,e2,e3] at v2;have gp':(0:Rat)<(g:Rat):=Rat.intCast_pos.2 gp;have Qp':(0:Rat)<(Q:Rat):=Rat.intCast_pos.2 Qp;have dp:(0:Rat)<((mq.den:Int):Rat):=Rat.intCast_pos.2 oF;have en:=@wU mq;have u1:e26 X t / e26 S t*e26 S t=e26 X t:=Rat.div_mul_cancel hs0;have u2:e26 Y t / e26 S t*e26 S t=e26 Y t:=Rat.div_mul_cancel hs0;have u3:e26 Z_ t / e26 S t*e26 S t=e26 Z_ t:=Rat.div_mul_cancel hs0
  have key:e26 (fun k=>(slC X Y Z_ S Q k1 k2 k3 mq.num mq.den k).fdiv (cN p0)) t*(g:Rat)=(((mq.den:Int):Rat)*((Q:Rat)*(Q:Rat))*(e26 S t*e26 S t))*(mq - dst X Y Z_ S x y z t):=by
    rw [← v2,← en,← u1,← u2,← u3];unfold dst;generalize e26 X t / e26 S t=a1;generalize e26 Y t / e26 S t=a2;generalize e26 Z_ t / e26 S t=a3;generalize e26 S t=s;generalize (Q:Rat)=Q';generalize ((mq.den:Int):Rat)=d
    grind
  have s1:=congrArg (fun q:Rat=>q.num.sign) key;rw [WB,WB,sgp gp',sgp (Rat.mul_pos (Rat.mul_pos dp (Rat.mul_pos Qp' Qp')) (Rat.mul_pos hS hS)),Int.mul_one,Int.one_mul] at s1;exact s1
theorem P5 {n s:List I} (hn:PB n X 4 49) (hs:PB s S 3 22) (ht:t.At q) (sq:Sz q 16) (pos:0<e26 S q):0<(q.den:Int)*Go.Num.hv S q.num q.den 3 3∧((q.den:Int)*Go.Num.hv S q.num q.den 3 3).natAbs<2 ^ 88∧(Go.Num.hv X q.num q.den 4 4).natAbs<2 ^ 116∧(((q.den:Int)*Go.Num.hv S q.num q.den 3 3:Int):Rat)*(e26 X q / e26 S q)=((Go.Num.hv X q.num q.den 4 4:Int):Rat)∧(nY (iZ n t) (iZ s t)).At (e26 X q / e26 S q)∧Az (e26 X q / e26 S q) 116 88:=by
  have dd:((q.den:Int)).natAbs<2 ^ 16:=by rw [Int.natAbs_natCast];exact sq.d
  have hx:=@wU q;have dp:(0:Int)<q.den:=oF;have dp':(0:Rat)<((q.den:Int):Rat):=Rat.intCast_pos.2 dp;have tS:=QL (c:=S) (L:=3) hx dp;have tX:=QL (c:=X) (L:=4) hx dp;rw [LO hs.bd dd_,show 3 - 1=2 from rfl] at tS;rw [LO hn.bd dd_,show 4 - 1=3 from rfl] at tX;have lS:=SZ (c:=S) (N:=q.num) (D:=q.den) (L:=3) hs.bd.b sq.n dd 3;have lX:=SZ (c:=X) (N:=q.num) (D:=q.den) (L:=4) hn.bd.b sq.n dd 4;generalize Go.Num.hv S q.num q.den 3 3=HS at *;generalize Go.Num.hv X q.num q.den 4 4=HX at *
  have pS:0<HS:=by
    refine Rat.intCast_pos.1 ?_;rw [tS];exact Rat.mul_pos (Rat.pow_pos dp') pos
  have bS:HS.natAbs<2 ^ 72:=Nat.lt_of_le_of_lt lS dd_;have bX:HX.natAbs<2 ^ 116:=Nat.lt_of_le_of_lt lX dd_;have bE:((q.den:Int)*HS).natAbs<2 ^ 88:=k6 dd bS
  have hs0:e26 S q≠0:=by grind
  have u1:e26 X q / e26 S q*e26 S q=e26 X q:=Rat.div_mul_cancel hs0;have pE:=Int.mul_pos dp pS
  have key:(((q.den:Int)*HS:Int):Rat)*(e26 X q / e26 S q)=(HX:Rat):=by
    rw [Rat.intCast_mul,tS,tX,← u1];generalize e26 X q / e26 S q=a;generalize e26 S q=s;generalize ((q.den:Int):Rat)=d;rw [Rat.pow_succ d 2]
    grind
  have vX:=WM (e:=2) hn.po hn.bd ht sq dd_ dd_;have vS:=WM (e:=2) hs.po hs.bd ht sq dd_ dd_;rw [LO hn.bd dd_] at vX;rw [LO hs.bd dd_] at vS
  have zX:Az (e26 X q) 116 49:=RO (n:=HX) (d:=(q.den:Int) ^ 3) (by rw [tX,Rat.intCast_pow]) (Int.pow_pos dp) bX (by
    rw [Int.natAbs_pow]
    exact Nat.lt_of_lt_of_le (Nat.pow_lt_pow_left dd dd_) dd_)
  have zS:Az (e26 S q) 72 33:=RO (n:=HS) (d:=(q.den:Int) ^ 2) (by rw [tS,Rat.intCast_pow]) (Int.pow_pos dp) bS (by
    rw [Int.natAbs_pow]
    exact Nat.lt_of_lt_of_le (Nat.pow_lt_pow_left dd dd_) dd_)
  refine ⟨pE,bE,bX,key,?_,RO key.symm pE bX bE⟩;exact fG_ vX vS hs0 zX zS dd_ dd_
theorem ef_ {p r:Rat} {F M N:Int} {a b:Nat} (hF:0<F) (h1:(F:Rat)*p=(M:Rat)) (h2:(F:Rat)*r=(N:Rat)) (hM:M.natAbs<2 ^ a) (hN:N.natAbs<2 ^ a) (bF:F.natAbs<2 ^ b):Az (p*p+r*r) (a+a+1) (b+b):=by
  refine RO (n:=M*M+N*N) (d:=F*F) ?_ (Int.mul_pos hF hF) ?_ (k6 bF bF)
  · rw [Rat.intCast_add,Rat.intCast_mul,Rat.intCast_mul,Rat.intCast_mul,← h1,← h2];grind
  have:=k6 hM hM;have:=k6 hN hN;rw [Nat.pow_succ];omega
theorem cx_ {p r:Rat}:(p.num*r.den - r.num*p.den).sign=(p - r).num.sign:=by
  have h:((p.num*r.den - r.num*p.den:Int):Rat)=(((p.den:Int)*(r.den:Int):Int):Rat)*(p - r):=by
    have k1:=@wU p;have k2:=@wU r;rw [Rat.intCast_sub,Rat.intCast_mul,Rat.intCast_mul,Rat.intCast_mul,← k1,← k2];grind
  have:=congrArg (fun q:Rat=>q.num.sign) h;rw [cm_,WB,cm_,Int.sign_eq_one_of_pos (Int.mul_pos oF oF),Int.one_mul] at this;exact this
theorem W3 {a:Rat} {E N:Int} (hE:(E:Rat)*a=(N:Rat)) (bE:E.natAbs<2 ^ 88) (bN:N.natAbs<2 ^ 116) {x:Rat} (sx:Az x 16 16) {k:Int} (hk:k.natAbs<2 ^ 16):((E*(x.den*k):Int):Rat)*(a - x)=(((N*x.den - x.num*E)*k:Int):Rat)∧((N*x.den - x.num*E)*k).natAbs<2 ^ 149:=by
  have dx:((x.den:Int)).natAbs<2 ^ 16:=by rw [Int.natAbs_natCast];exact sx.d
  constructor
  · have:=@wU x
    simp only [Rat.intCast_mul,Rat.intCast_sub];rw [← hE,← this];grind
  have h1:=k6 bN dx;have h2:=k6 sx.n bE;exact k6 (b:=133) oo_ hk
theorem ZC {d:A3 Rt} {p q r:Rat} (hd:V3 d p q r 133 104) (h2:Az (p*p+q*q) 299 240):(uG d d).At (p*p+q*q+r*r):=by
  have m1:=PV hd.hx hd.hx hd.sx hd.sx oo_ oo_;have m2:=PV hd.hy hd.hy hd.sy hd.sy oo_ oo_;have m3:=PV hd.hz hd.hz hd.sz hd.sz oo_ oo_;have p1:=UQ m1 m2 (hd.sx.mul hd.sx) (hd.sy.mul hd.sy) oo_ oo_ oo_;exact UQ p1 m3 h2 (hd.sz.mul hd.sz) oo_ oo_ oo_
theorem ft_ (h:Path) (v:A3 W) (t:Rt):rU h v t=⟨nY (iZ (bB h v).1.x t) (iZ (bB h v).2 t),nY (iZ (bB h v).1.y t) (iZ (bB h v).2 t),nY (iZ (bB h v).1.z t) (iZ (bB h v).2 t)⟩:=rfl
theorem a1_ (cl:Clm h v X Y Z_ S) (hb:V3 b x y z 16 16) (ht:t.At q) (sq:Sz q 16) (q0:0≤q) (q1:q≤1):(pT (jS (rU h v t) b) (jS (rU h v t) b)).At (dst X Y Z_ S x y z q):=by
  have pos:=cl.pos q q0 q1;obtain ⟨pE,bE,b1,k1,a1,z1⟩:=P5 cl.x cl.s ht sq pos;obtain ⟨_,_,b2,k2,a2,z2⟩:=P5 cl.y cl.s ht sq pos;obtain ⟨_,_,b3,k3,a3,z3⟩:=P5 cl.z cl.s ht sq pos;generalize (q.den:Int)*Go.Num.hv S q.num q.den 3 3=E_ at *
  have hA:V3 (rU h v t) (e26 X q / e26 S q) (e26 Y q / e26 S q) (e26 Z_ q / e26 S q) 116 88:=by
    rw [ft_];refine ⟨?_,?_,?_,?_,?_,?_⟩
    · dsimp only;exact a1
    · dsimp only;exact a2
    · dsimp only;exact a3
    · exact z1
    · exact z2
    exact z3
  have hd:=f1_ (E:=133) hA hb dd_ dd_ dd_ dd_
  have dx:((x.den:Int)).natAbs<2 ^ 16:=by rw [Int.natAbs_natCast];exact hb.sx.d
  have dy:((y.den:Int)).natAbs<2 ^ 16:=by rw [Int.natAbs_natCast];exact hb.sy.d
  have s1:=W3 k1 bE b1 hb.sx dy;have s2:=W3 k2 bE b2 hb.sy dx;rw [Int.mul_comm (y.den:Int) x.den] at s2;have S2:=ef_ (Int.mul_pos pE (Int.mul_pos oF oF)) s1.1 s2.1 s1.2 s2.2 (k6 bE (k6 dx dy));rw [am_,an_];exact ZC hd S2
end Go.Num
namespace Go.Num
open Go Go.Kn
section
variable {c:Nat→Int} {u v W:Int} {L:Nat}
theorem Q7 {b l e w n:Nat} (hc:∀ k,(c k).natAbs<2 ^ b) (hu:u.natAbs<2 ^ l) (hv:v.natAbs<2 ^ l) (hW:W.natAbs<2 ^ l) (hn:n≤2 ^ e) (h1:l+e+1≤w):∀ t:Nat,t≤n→Bd (sb c u v W L t) t (b+w*t)
  | 0,_=>⟨fun _ _=>rfl,fun _=>Nat.pow_pos dd_⟩
  | t+1,ht=>by
    have ih:=Q7 hc hu hv hW hn h1 t oo_;have k1:=(ih.conv (MH hu hv) (e:=e) oo_).mono (n':=t+1) (b1:=b+w*t+w - 1) oo_ oo_
    have k2:(c (L - 1 - t)*W ^ t).natAbs<2 ^ (b+w*t+w - 1):=by
      have a2:l*t≤w*t:=Nat.mul_le_mul_right t oo_;exact Nat.lt_of_lt_of_le (WY (c:=c) (hc _) hW) (Nat.pow_le_pow_right dd_ oo_)
    have k3:Bd (lin (c (L - 1 - t)*W ^ t) 0) 1 (b+w*t+w - 1):=⟨fun k hk=>by unfold lin;rw [if_neg oo_,ite_self],(MH k2 (Nat.pow_pos dd_)).b⟩;refine (k1.add k3).mono oo_ ?_;rw [Nat.mul_succ];omega
end
section
variable {p:List I} {c:Nat→Int} {a b:Rt} {N D M F:Int}
theorem YC {bc l e w n:Nat} (h:Po p c) (hb:Bd c n bc) (ia:a.Is N D) (ib:b.Is M F) (hu:(N*F).natAbs<2 ^ l) (hv:(M*D).natAbs<2 ^ l) (hW:(D*F).natAbs<2 ^ l) (hn:n≤2 ^ e) (h24:n≤24) (h1:l+e+1≤w) (hw:bc+w*n≤512) :
    ∀ (f t:Nat) (i:Int) (r:List I),t≤p.length→i=((p.length:Nat):Int) - 1 - t→p.length - t<f→Po r (sb c (N*F) (M*D) (D*F) p.length t) →
    Po (eO p a b f r i).1 (sb c (N*F) (M*D) (D*F) p.length p.length)
  | 0,t,i,r,_,_,hf,_=>absurd hf (Nat.not_lt_zero _)
  | f+1,t,i,r,ht,hi,hf,hr=>by
    have hl:=h.len hb;unfold eO
    by_cases h0:0≤i
    · rw [decide_eq_true h0,cond_true]
      have htl:t<p.length:=by omega
      have e1:i.toNat=p.length - 1 - t:=by omega
      have e2:p.length - 1 - i.toNat=t:=by omega
      have wt:w*t+w≤w*n:=by have:=Nat.mul_le_mul_left w (show t+1≤n by omega);rw [Nat.mul_succ] at this;exact this
      have lt:l*t≤w*t:=Nat.mul_le_mul_right t oo_
      have hp:∀ j,j≤t→fE ((D*F) ^ j):=fun j hj=>by
        refine rS (k:=l*j+1) ?_ ?_
        · rw [Int.natAbs_pow]
          have a1:(D*F).natAbs ^ j≤2 ^ (l*j):=by rw [Nat.pow_mul];exact Nat.pow_le_pow_left (Nat.le_of_lt hW) j
          have a2:(2:Nat) ^ (l*j)<2 ^ (l*j+1):=Nat.pow_lt_pow_right dd_ oo_;omega
        have:=Nat.mul_le_mul_left l hj;omega
      have hc:=WY (c:=c) (t:=t) (hb.b (p.length - 1 - t)) hW;have bc':fE (c (p.length - 1 - t)*(D*F) ^ t):=rS hc oo_;have bu:fE (N*F):=rS hu oo_;have bv:fE (M*D):=rS hv oo_;have bW:fE (D*F):=rS hW oo_;have bt:=Q7 (L:=p.length) hb.b hu hv hW hn h1 t oo_;have bt1:=Q7 (L:=p.length) hb.b hu hv hW hn h1 (t+1) oo_;simp only;rw [e2,yH _ _ (show t<max (((p.length:Nat):Int)).toNat 1 by omega),ia.ed,ia.en,ib.ed,ib.en,dB,dB,dB,dB,o4 ia.hd ib.hd,o4 ia.hn ib.hd,o4 ib.hn ia.hd,QW hp,e1,h.get,dB,dB,o4 (h.B _) (hp t (Nat.le_refl _))];refine YC h hb ia ib hu hv hW hn h24 h1 hw f (t+1) _ _ oo_ oo_ oo_ ?_;have m1:=ap_ hr (VJ bu bv) bt (MH hu hv) (e:=e) oo_ oo_ oo_;exact ah_ m1 (bU_ bc') fun k=>bt1.B (by rw [Nat.mul_succ];omega) k
    rw [decide_eq_false h0,cond_false]
    have:t=p.length:=by omega
    rw [← this];rw [← this] at hr;exact hr
end
theorem ak_ {p:List I} {c:Nat→Int} {a b:Rt} {qa qb:Rat} {bc s e w n:Nat} (h:Po p c) (hb:Bd c n bc) (ha:a.At qa) (hq:b.At qb) (sa:Sz qa s) (sq:Sz qb s) (hn:n≤2 ^ e) (h24:n≤24) (h1:s+s+e+1≤w) (hw:bc+w*n≤512) :
    ∃ γ:Nat→Int,Po (dY p a b) γ∧Bd γ n (bc+w*n):=by
  have ia:=At.is ha;have ib:=At.is hq;have hl:=h.len hb
  have da:((qa.den:Int)).natAbs<2 ^ s:=by rw [Int.natAbs_natCast];exact sa.d
  have db:((qb.den:Int)).natAbs<2 ^ s:=by rw [Int.natAbs_natCast];exact sq.d
  have hu:=k6 sa.n db;have hv:=k6 sq.n da;have hW:=k6 da db
  have hS:Po (gU p a b) (sb c (qa.num*qb.den) (qb.num*qa.den) (qa.den*qb.den) p.length p.length):=by
    unfold gU;rw [h.nb,LW,lW,lW,oA ha,oA hq];exact YC h hb ia ib hu hv hW hn h24 h1 hw (p.length+1) 0 _ [] (Nat.zero_le _) oo_ oo_ PY
  have bS:=Q7 (L:=p.length) hb.b hu hv hW hn h1 p.length hl;refine ⟨_,QV hS,(XT hS bS).mono hl ?_⟩;have:=Nat.mul_le_mul_left w hl;omega
theorem aN_ {a b:Rt} {γ:Nat→Int} (hf:kP [a,b]=true) (hC:Po (dY [] a (eP b a)) γ):cW [] a b=([],true):=by
  unfold cW;rw [show dR []=false from PY.nb,hf,hC.nb];rfl
theorem da_ {p:List I} {c:Nat→Int} {a b:Rt} {qa qb:Rat} (h:PB p c 7 250) (ha:a.At qa) (hq:b.At qb) (sa:Sz qa 5) (sq:Sz qb 5):(cW p a b).2=true:=by
  have hd:=fi_ hq ha sq sa dd_;rw [← EO] at hd
  have sd:Sz (qb - qa) 11:=by rw [Rat.sub_eq_add_neg];exact sq.add sa.neg
  obtain ⟨w,hw⟩:∃ w:Nat,w=26:=⟨_,rfl⟩;obtain ⟨γ,hC,bC⟩:=ak_ (e:=3) (w:=w) h.po h.bd ha hd (sa.mono dd_) sd dd_ dd_ (by rw [hw];decide) (by rw [hw];decide)
  have hf:kP [a,b]=true:=by rw [LW,lW,lW,oA ha,oA hq];rfl
  by_cases h0:p=[]
  · subst h0
    rw [aN_ hf hC]
  obtain ⟨n,t1⟩:∃ n,p.length=n+1:=⟨p.length - 1,by have:=List.length_pos_iff.2 h0;omega⟩
  have hn:n≤6:=by have:=h.po.len h.bd;omega
  obtain ⟨B,hB⟩:∃ B:Nat,B=432:=⟨_,rfl⟩;obtain ⟨G,l,hG,hl,lb,hL⟩:=ai_ t1 hn h.po.nb hf hC (B:=B) (fun k=>Nat.lt_of_lt_of_le (bC.b k) (yG oo_)) oo_;rw [hL]
theorem W8 {p:List I} {c:Nat→Int} {a b:Rt} {qa qb:Rat} (h:PB p c 7 250) (ha:a.At qa) (hq:b.At qb) (sa:Sz qa 5) (sq:Sz qb 5):(fC p a b).2=wl 0:=by
  unfold fC;rw [da_ h ha hq sa sq];rfl
open Go Go.Kn
theorem hZ_ (a b:W):(W.max a b).1=max a.1 b.1:=by
  unfold W.max
  by_cases h:a.1<b.1
  · rw [decide_eq_true h,cond_true];omega
  rw [decide_eq_false h,cond_false];omega
theorem fC_ {a b:W} {v:Int} (ha:a.1.natAbs<2 ^ 47) (hb:b.1.natAbs<2 ^ 47) (h:(decide (1048576<(W.max (W.max (W.max a (W.neg a)) b) (W.neg b)).1)||(decide (1024<v)||decide (v<(-1024))))=false):a.1.natAbs<2 ^ 21∧b.1.natAbs<2 ^ 21∧v.natAbs<2 ^ 11∧-1024≤v∧v≤1024:=by
  have n1:=TC (a:=a) oo_;have n2:=TC (a:=b) oo_;simp only [Bool.or_eq_false_iff,decide_eq_false_iff_not,hZ_,n1,n2] at h;omega
theorem aR_ {h:Path} {v:A3 W} (hc:fN h v=true):(cM h).1=0∧eA v (wl 262144)=true∧∃ X Y Z S,Clm h v X Y Z S:=by
  unfold fN at hc
  cases h0:((cM h).1 != 0)
  case true=>rw [h0] at hc;cases hc
  rw [h0] at hc
  have e0:(cM h).1=0:=by simpa using h0
  have hh:=bq_ e0
  have g:∀ {c:Bool} {y:Bool},(bif c then false else y)=true→c=false∧y=true:=fun {c y} h=>by cases c<;>simp_all
  obtain ⟨_,hc⟩:=g hc;obtain ⟨h1,hc⟩:=g hc;obtain ⟨h2,hc⟩:=g hc;obtain ⟨h3,hc⟩:=g hc;obtain ⟨a1,b1,v1,w1⟩:=fC_ hh.fx.1 hh.tx.1 h1;obtain ⟨a2,b2,v2,w2⟩:=fC_ hh.fx.2.1 hh.tx.2.1 h2;obtain ⟨a3,b3,v3,w3⟩:=fC_ hh.fx.2.2 hh.tx.2.2 h3;refine ⟨e0,?_,fB_ hh ⟨v1,v2,v3⟩ ⟨a1,a2,a3⟩ ⟨b1,b2,b3⟩⟩;unfold eA;rw [show (W.neg (wl 262144)).1 = -262144 from rfl,show (wl 262144).1=262144 from rfl];rw [decide_eq_false (show ¬ 262144<v.x.1 by omega),decide_eq_false (show ¬ v.x.1 < -262144 by omega),decide_eq_false (show ¬ 262144<v.y.1 by omega),decide_eq_false (show ¬ v.y.1 < -262144 by omega),decide_eq_false (show ¬ 262144<v.z.1 by omega),decide_eq_false (show ¬ v.z.1 < -262144 by omega)];rfl
theorem bO_ {q:Rat}:(-q).num.sign = -q.num.sign:=by rw [Rat.neg_num,Int.sign_neg]
structure Slk (h:Path) (v:A3 W) (b:A3 Rt) (m:Rt) (p:List I) (c:Nat→Int):Prop where
  eq:cE h v b m=(p,wl 0)
  pb:PB p c 7 250
  far:∀ (t:Rt) (q:Rat),t.At q→Sz q 16→0≤q→q≤1→(kG h v b m t).1 = -(e26 c q).num.sign
theorem cu_ {h:Path} {v:A3 W} {b:A3 Rt} {m:Rt} (hc:fN h v=true) (hb:gH b (wl 16)=true) (hm:dF m (wl 48)=true):∃ p c,Slk h v b m p c:=by
  obtain ⟨e0,ei,X,Y,Z,S,cl⟩:=aR_ hc;obtain ⟨x,y,z,hb⟩:=ha_ hb;have hb:V3 b x y z 16 16:=hb;obtain ⟨mq,hm,sm⟩:=z9 hm;have sm:Sz mq 48:=sm;obtain ⟨c,hp,hs⟩:=cv_ cl hb hm sm;refine ⟨_,c,?_,hp,fun t q ht sq q0 q1=>?_⟩
  · rw [IW,gU_,BD,IK,ei,show iU m = !aT m from rfl,lW,lW,lW,lW,oA hb.hx,oA hb.hy,oA hb.hz,oA hm,hp.po.nb,show ((cM h).1 != 0)=false by rw [e0];rfl]
    rfl
  rw [hs q q0 q1,← bO_,Rat.neg_sub];have hd:=a1_ cl hb ht sq q0 q1;unfold kG;simp only;rw [aj_ hd hm,cx_]
section
variable {p:List I} {c:Nat→Int} {x:Rt} {q:Rat}
theorem dS_ (h:PB p c 7 250) (hx:x.At q) (sq:Sz q 16):(i1 p x).2=true∧(i1 p x).1.1=(e26 c q).num.sign:=by
  have s:=ay_ (e:=3) h.po h.bd hx sq dd_ dd_
  rwa [LO h.bd dd_] at s
end
def Chn (p:List I):Rt→List Rt→Rt→Prop
  | a,[],c=>a=c
  | a,x::l,c=>aT x=true∧¬ (jL x a).1≤0∧fC p a x=(true,wl 0)∧Chn p x l c
theorem Chn.app {p:List I} {m c:Rt} {k:List Rt} (h2:Chn p m k c):∀ {l:List Rt} {a:Rt},Chn p a l m→Chn p a (l++k) c
  | [],a,h=>by have h:a=m:=h;subst h;exact h2
  | x::l,a,h=>⟨h.1,h.2.1,h.2.2.1,Chn.app h2 h.2.2.2⟩
theorem Chn.last {p:List I} {c:Rt}:∀ {l:List Rt} {a:Rt},Chn p a l c→l≠[]→l.getD (l.length - 1) Rt0=c
  | [],a,h,h0=>absurd rfl h0
  | [x],a,h,_=>by exact h.2.2.2
  | x::y::l,a,h,_=>by
    have:=Chn.last (l:=y::l) h.2.2.2 (by simp);rw [← this];simp
theorem Chn.held {h:Path} {v:A3 W} {b:A3 Rt} {m:Rt} {p:List I} {c:Nat→Int} (hs:Slk h v b m p c) {e:Rt} (L:List Rt):∀ {l:List Rt} {a:Rt},Chn p a l e→gC h v b m L l a = .inl e
  | [],a,h=>by have h:a=e:=h;subst h;rfl
  | x::l,a,h=>by
    rw [gC,h.1,decide_eq_false h.2.1,hs.eq];simp only;rw [h.2.2.1];exact Chn.held hs L h.2.2.2
def dy (i D:Nat):Rat:=((i:Int):Rat) / ((((2 ^ D:Nat):Nat):Int):Rat)
theorem p2 {D:Nat} (hD:D≤4):2 ^ D≤16:=Nat.pow_le_pow_right (n:=2) dd_ hD
theorem fH_ {s t:Int} {a b:Nat} (h0:0<t) (hs:s.natAbs<2 ^ a) (ht:t.natAbs<2 ^ b):Az ((s:Rat) / (t:Rat)) a b:=by
  have t0:(t:Rat)≠0:=fun e=>by have:=Rat.intCast_eq_zero_iff.1 e;omega
  exact RO (n:=s) (d:=t) (by rw [Rat.div_def,Rat.mul_comm,Rat.mul_assoc,Rat.inv_mul_cancel _ t0,Rat.mul_one]) h0 hs ht
theorem SI {i D:Nat} (hD:D≤4) (hi:i≤2 ^ D):Sz (dy i D) 5:=by
  have h1:=p2 hD;have h2:=Nat.pow_pos (n:=D) (show 0<2 by decide);have z:=fH_ (s:=(i:Int)) (t:=((2 ^ D:Nat):Int)) (a:=5) (b:=5) oo_ oo_ oo_;exact z.sz (Nat.le_refl _) (Nat.le_refl _)
theorem ET (i D:Nat):((((2 ^ D:Nat):Nat):Int):Rat)*dy i D=((i:Int):Rat):=by
  unfold dy
  have:(((((2 ^ D:Nat):Nat):Int)):Rat)≠0:=fun h=>by
    have h1:=Rat.intCast_eq_zero_iff.1 h;have h2:=Nat.pow_pos (n:=D) (show 0<2 by decide);omega
  rw [Rat.mul_comm];exact Rat.div_mul_cancel this
theorem p2r (D:Nat):(0:Rat)<((((2 ^ D:Nat):Nat):Int):Rat):=Rat.intCast_pos.2 (by
  have h2:=Nat.pow_pos (n:=D) (show 0<2 by decide)
  omega)
theorem g6_ {i D:Nat}:0≤dy i D:=by
  refine Rat.not_lt.1 fun h=>?_;have k:=Rat.mul_pos (p2r D) (show 0 < -dy i D by grind);have e:=ET i D;have:(0:Rat)≤((i:Int):Rat):=Rat.intCast_nonneg.2 oo_
  grind
theorem eA_ {i j D:Nat} (h:i<j):dy i D<dy j D:=by
  refine Rat.not_le.1 fun hn=>?_;have k:=Rat.mul_nonneg (Rat.le_of_lt (p2r D)) (show 0≤dy i D - dy j D by grind);have e1:=ET i D;have e2:=ET j D;have:((i:Int):Rat)<((j:Int):Rat):=Rat.intCast_lt_intCast.2 oo_
  grind
theorem U7 (D:Nat):dy (2 ^ D) D=1:=by
  have e:=ET (2 ^ D) D;have p:=p2r D
  have:((((2 ^ D:Nat):Nat):Int):Rat)*(dy (2 ^ D) D - 1)=0:=by grind
  rcases Rat.mul_eq_zero.1 this with h|h
  · grind
  grind
theorem ds_ (D:Nat):dy 0 D=0:=by unfold dy;rw [show (((0:Nat):Int):Rat)=0 from rfl,Rat.div_def,Rat.zero_mul]
theorem g7_ {i D:Nat} (h:i≤2 ^ D):dy i D≤1:=by
  rcases Nat.lt_or_eq_of_le h with h|h
  · rw [← U7 D];exact Rat.le_of_lt (eA_ h)
  rw [h,U7];exact Rat.le_refl
theorem fK_ (i w D:Nat):(dy i D+dy (i+2*w) D)*(1 / 2)=dy (i+w) D:=by
  have e1:=ET i D;have e2:=ET (i+2*w) D;have e3:=ET (i+w) D;have p:=p2r D;rw [show ((((i+2*w:Nat):Nat):Int):Rat)=((i:Int):Rat)+2*((w:Int):Rat) by rw [Int.natCast_add,Int.natCast_mul,Rat.intCast_add,Rat.intCast_mul];rfl] at e2;rw [show ((((i+w:Nat):Nat):Int):Rat)=((i:Int):Rat)+((w:Int):Rat) by rw [Int.natCast_add,Rat.intCast_add]] at e3;generalize ((((2 ^ D:Nat):Nat):Int):Rat)=P at *
  have:P*((dy i D+dy (i+2*w) D)*(1 / 2) - dy (i+w) D)=0:=by grind
  rcases Rat.mul_eq_zero.1 this with h|h
  · grind
  grind
theorem dB_:(n4 (wl 1) (wl 2)).At (1 / 2):=yP (n:=1) (d:=2) B1 dd_ dd_ (by decide +kernel)
theorem dC_:Sz (1 / 2) 2:=⟨by decide +kernel,by decide +kernel⟩
theorem f0_ {a e:Rt} {u v:Rat} (ha:a.At u) (he:e.At v) (su:Sz u 5) (sv:Sz v 5):(fM a e).At ((u+v)*(1 / 2)):=by
  unfold fM;simp only;rw [PU,PW,WN];exact ff_ (ag_ ha he su sv dd_) dB_ (su.add sv) dC_ dd_
theorem LT {p:List I} {c:Nat→Int} (hp:PB p c 7 250) {D:Nat} (hD:D≤4):∀ (n k i:Nat) (a e:Rt) (t:List Rt),k<n→i+2 ^ k≤2 ^ D→a.At (dy i D)→e.At (dy (i+2 ^ k) D) →
    (((bP p n a e k t).1.1=0∧∃ l,(bP p n a e k t).2=t++l∧Chn p a l e∧l≠[]∧l.length≤2 ^ k) ∨
    ((bP p n a e k t).1.1=200∧∃ j:Nat,j≤2 ^ D∧(e26 c (dy j D)).num.sign<0)∨(bP p n a e k t).1.1=160)
  | 0,k,i,a,e,t,h,_,_,_=>absurd h (Nat.not_lt_zero _)
  | n+1,k,i,a,e,t,h,hi,ha,he=>by
    have hp0:=Nat.pow_pos (n:=k) (show 0<2 by decide);have sa:=SI hD (i:=i) oo_;have se:=SI hD hi;obtain ⟨o1,v1⟩:=dS_ hp ha (sa.mono dd_);obtain ⟨o2,v2⟩:=dS_ hp he (se.mono dd_);rw [bP,o1,o2,W8 hp ha he sa se,v1,v2];simp only [Bool.not_true,Bool.false_or,show ((wl 0).1 != 0)=false from rfl,cond_false]
    cases hl:(decide ((e26 c (dy i D)).num.sign<0)||decide ((e26 c (dy (i+2 ^ k) D)).num.sign<0))
    case true =>
      right;left
      refine ⟨rfl,?_⟩;rw [Bool.or_eq_true,decide_eq_true_eq,decide_eq_true_eq] at hl;rcases hl with hl|hl
      · exact ⟨i,by omega,hl⟩
      exact ⟨i+2 ^ k,hi,hl⟩
    simp only [cond_false]
    cases hf:(fC p a e).1
    case true =>
      left
      refine ⟨rfl,[e],rfl,⟨by rw [lW];exact oA he,?_,Prod.ext hf (W8 hp ha he sa se),rfl⟩,by simp,hp0⟩;have:=(US he ha).2 (eA_ oo_);omega
    simp only [cond_false]
    cases hk:(((k:Nat):Int)==0)
    case true=>right;right;rfl
    simp only [cond_false]
    have hk0:k≠0:=fun h0=>by rw [h0] at hk;cases hk
    obtain ⟨k',rfl⟩:∃ k',k=k'+1:=⟨k - 1,by omega⟩;rw [show k'+1 - 1=k' from rfl]
    have hpw:2 ^ (k'+1)=2*2 ^ k':=by rw [Nat.pow_succ,Nat.mul_comm]
    rw [hpw] at he hi se;have hm:=f0_ ha he sa se;rw [fK_] at hm;have L:=LT hp hD n k' i a _ t oo_ oo_ ha hm;have R:=LT hp hD n k' (i+2 ^ k') _ e (bP p n a (fM a e) k' t).2 oo_ oo_ hm (by rw [show i+2 ^ k'+2 ^ k'=i+2*2 ^ k' by omega];exact he);generalize bP p n a (fM a e) k' t=A at *;generalize bP p n (fM a e) e k' A.2=B at *;rcases L with ⟨a1,l,a2,a3,a4,a5⟩|⟨a1,a2⟩|a1
    · rw [show (A.1.1 != 0)=false by rw [a1];rfl,cond_false]
      rcases R with ⟨b1,m,b2,b3,b4,b5⟩|⟨b1,b2⟩|b1
      · refine .inl ⟨b1,l++m,by rw [b2,a2,List.append_assoc],b3.app a3,by simp [a4],?_⟩
        rw [List.length_append];omega
      · exact .inr (.inl ⟨b1,b2⟩)
      exact .inr (.inr b1)
    · rw [show (A.1.1 != 0)=true by rw [a1];rfl,cond_true]
      exact .inr (.inl ⟨a1,a2⟩)
    rw [show (A.1.1 != 0)=true by rw [a1];rfl,cond_true];exact .inr (.inr a1)
theorem ba_ {p:List I} {a e:Rt} {n k:Nat} {t:List Rt} (h:(bP p (n+1) a e k t).1.1=160):¬ (i1 p a).1.1<0:=fun hs=>by
  rw [bP,decide_eq_true hs] at h;simp only [cond_true,Bool.true_or] at h;exact absurd h dd_
theorem d7_ {D:Nat} (hD:D≤4):(W.shl (wl 1) (W.cv (D:Int))).1=((2 ^ D:Nat):Int):=by
  rcases (show D=0∨D=1∨D=2∨D=3∨D=4 by omega) with rfl|rfl|rfl|rfl|rfl<;>rfl
theorem bg_ {i D:Nat} (hD:D≤4) (hi:i≤2 ^ D) {u w:W} (hu:u.1=(i:Int)) (hw:w.1=((2 ^ D:Nat):Int)):(lA u w).At (dy i D):=by
  have h1:=p2 hD;have h2:=Nat.pow_pos (n:=D) (show 0<2 by decide);unfold lA;simp only;rw [G1,hu,hw];exact yP (uP (k:=5) oo_ dd_) (uP (k:=5) oo_ dd_) oo_ (XP (ET i D).symm)
section
variable {h:Path} {v:A3 W} {b:A3 Rt} {m:Rt} {p:List I} {c:Nat→Int} {D:Nat} {n:Int}
theorem ND (hs:F_skewbacklaw26_sanity=true) (sl:Slk h v b m p c) (hD:D≤4) (hn:n.tmod 5=(D:Int)) {j:Nat} (hj:j≤2 ^ D) (hneg:(e26 c (dy j D)).num.sign<0):∀ (f i:Nat) (w:W),w.1=(i:Int)→i≤j→j - i<f→fZ h v b m n f w = .inr true
  | 0,i,w,_,_,hf=>absurd hf (Nat.not_lt_zero _)
  | f+1,i,w,hw,hi,hf=>by
    have h1:=p2 hD;have hs':=d7_ hD;rw [fZ,hn,hs',hw,decide_eq_true oo_];simp only [cond_true];have hfr:=bg_ hD (i:=i) oo_ hw hs';have sz:=SI hD (i:=i) oo_;rw [sl.far _ _ hfr (sz.mono dd_) g6_ (g7_ oo_),hs]
    by_cases hc:(e26 c (dy i D)).num.sign<0
    · rw [decide_eq_true oo_];rfl
    rw [decide_eq_false oo_,cond_false];have:i≠j:=fun h=>hc (by rw [h];exact hneg);refine ND hs sl hD hn hj hneg f (i+1) _ ?_ oo_ oo_
    show IntKind.i64.wrap (w.1+1)=_
    rw [wi ⟨by omega,by omega⟩,hw];omega
theorem au_ (hs:F_skewbacklaw26_sanity=true) (h:Path) (v:A3 W) (b:A3 Rt) (m:Rt) {n:Int} (hn:0≤n):fR h v b m n=true:=by
  unfold fR
  cases hc:(!(fN h v)||(!(gH b (wl 16))||(!(dF m (wl 48)))))
  case true=>rw [cond_true];exact hs
  simp only [Bool.or_eq_false_iff,Bool.not_eq_false'] at hc;obtain ⟨p,c,sl⟩:=cu_ hc.1 hc.2.1 hc.2.2;obtain ⟨D,hD⟩:∃ D:Nat,n.tmod 5=(D:Int):=⟨(n.tmod 5).toNat,by rw [Int.toNat_of_nonneg (Int.tmod_nonneg _ hn)]⟩
  have hD4:D≤4:=by have:=Int.tmod_lt_of_pos n (show (0:Int)<5 by decide);omega
  have h1:=p2 hD4;have h2:=Nat.pow_pos (n:=D) (show 0<2 by decide)
  have hk:(W.cv (n.tmod 5)).1=(D:Int):=by rw [hD,cvE oo_]
  have e0:(bR (wl 0)).At (dy 0 D):=by rw [ds_,F6];exact RS (wl 0)
  have e1:(bR (wl 1)).At (dy (0+2 ^ D) D):=by rw [Nat.zero_add,U7,F6];exact RS (wl 1)
  have X:=LT sl.pb hD4 (D+1) D 0 _ _ [] (Nat.lt_succ_self _) oo_ e0 e1;have F:=ba_ (p:=p) (a:=bR (wl 0)) (e:=bR (wl 1)) (n:=D) (k:=D) (t:=[])
  have ss:dZ h v b m (D:Int)=bif ((bP p (D+1) (bR (wl 0)) (bR (wl 1)) D []).1.1 != 0) then ([],(bP p (D+1) (bR (wl 0)) (bR (wl 1)) D []).1) else ((bP p (D+1) (bR (wl 0)) (bR (wl 1)) D []).2,wl 0):=by
    unfold dZ;rw [sl.eq,decide_eq_false (show ¬ (D:Int)<0 by omega),decide_eq_false (show ¬ 12<(D:Int) by omega),Int.toNat_natCast];rfl
  rw [cond_false,hk,ss];generalize bP p (D+1) (bR (wl 0)) (bR (wl 1)) D []=A at *;rcases X with ⟨a1,l,a2,a3,a4,a5⟩|⟨a1,j,hj,hneg⟩|a1
  · rw [show (A.1.1 != 0)=false by rw [a1];rfl]
    simp only [cond_false,show ((wl 0).1==0)=true from rfl,cond_true];rw [hs,Bool.true_and,a2,List.nil_append];unfold kQ;have l0:0<l.length:=List.length_pos_iff.2 a4;rw [sl.eq,a3.last a4,Chn.held sl l a3,show ((wl 0).1 != 0)=false from rfl,show ((((l.length:Nat):Int))==0)=false from beq_eq_false_iff_ne.2 oo_,decide_eq_false (show ¬ 4096<((l.length:Nat):Int) by omega)]
    simp [sm]
  · rw [show (A.1.1 != 0)=true by rw [a1];rfl]
    simp only [cond_true];rw [show (A.1.1==0)=false by rw [a1];rfl,show (A.1.1==160)=false by rw [a1];rfl,show (A.1.1 != 200)=false by rw [a1];rfl];simp only [cond_false];rw [ND hs sl hD4 hD hj hneg 20 0 (wl 0) rfl (Nat.zero_le _) oo_];rfl
  rw [show (A.1.1 != 0)=true by rw [a1];rfl];simp only [cond_true];rw [show (A.1.1==0)=false by rw [a1];rfl,show (A.1.1==160)=true by rw [a1];rfl];simp only [cond_false,cond_true];obtain ⟨o1,v1⟩:=dS_ sl.pb e0 ((SI hD4 (Nat.zero_le _)).mono dd_);have ng:=F a1;rw [v1] at ng;rw [hs,Bool.true_and,sl.far _ _ e0 ((SI hD4 (Nat.zero_le _)).mono dd_) g6_ (g7_ (Nat.zero_le _))];exact decide_eq_true oo_
end
open Go Go.Kn Go.RowKit Go.ChangeShapes Go.WideShapes
section
variable {H:Type} {enc:TypeId×Value→H} {P:Program} {w:World} {base:Nat} {spare:Nat→Bool} {held:Bool} {α:Type} {e:El α}
theorem Rd.app {a:Addr} {A B:List Value} (h:Rd w a A) (k:Rd w (a.add A.length) B):Rd w a (A++B):=fun j v hj=>by
  rcases Nat.lt_or_ge j A.length with h'|h'
  · rw [List.getElem?_append_left h'] at hj;exact h j v hj
  rw [List.getElem?_append_right h'] at hj;have:=k _ _ hj;rw [P1,Nat.add_sub_cancel' h'] at this;exact this
end
end Go.Num
