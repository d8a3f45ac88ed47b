/- Lemmas: what they ask stands in their statements. -/
import Derived.Test.YtokjfhfiodopdaaGreatWLb
import Derived.Test.YtokjfhfiodopdaaGreatWAy
set_option linter.unusedSimpArgs false
set_option linter.unusedVariables false
set_option maxHeartbeats 8000000
set_option maxRecDepth 20000
namespace Go.Num
open Go Go.Kn
def e8 (p:(List I)) (k:Int):I :=
  bif (decide (k<0)||decide ((((p).length:Nat):Int)≤k)) then (I0) else ((p.getD ((k).toNat) I0))
def fW (p:(List I)) (q:(List I)):Nat→(List I)→Nat→List I×Nat
  | 0,out,i=>(out,i)
  | k0+1,out,i=>bif decide (((i:Nat):Int)<(((max ((p).length) ((q).length)):Nat):Int)) then (let r11:I:=(E (Z.add (e8 p ((i:Nat):Int)).dec (e8 q ((i:Nat):Int)).dec))
  (fW p q k0 (out++[r11]) (i+1))) else ((out,i))
def cI (p:(List I)) (q:(List I)):(List I) :=
  bif ((aX p)||(aX q)) then (F_skewbackref08_bad) else (ap (fun (s:List I×Nat)=>let out:List I:=s.1
  let i:Nat:=s.2
  (dC out)) (fW p q (((max p.length q.length)+1)) ([]:List I) 0))
def cM (p:(List I)) (q:(List I)) (out:List I) (k:Nat):Nat→Nat→I→Nat×I
  | 0,i,mb17=>(i,mb17)
  | k1+1,i,mb17=>bif decide (((i:Nat):Int)≤((k:Nat):Int)) then (bif (decide (((i:Nat):Int)<(((p).length:Nat):Int))&&decide ((((k:Nat):Int) - ((i:Nat):Int))<(((q).length:Nat):Int))) then ((cM p q out k k1 (i+1) (E (Z.add mb17.dec (Z.mul (p.getD i I0).dec (q.getD (k - i) I0).dec))))) else ((cM p q out k k1 (i+1) mb17))) else ((i,mb17))
def fX (p:(List I)) (q:(List I)):Nat→(List I)→Nat→List I×Nat
  | 0,out,k=>(out,k)
  | k0+1,out,k=>bif decide (((k:Nat):Int)<(((((p).length+(q).length):Nat):Int) - 1)) then (ap (fun (s:Nat×I)=>let i:Nat:=s.1
  let mb17:I:=s.2
  (fX p q k0 (out++[mb17]) (k+1))) (cM p q out k ((k+2)) 0 I0)) else ((out,k))
def bA (p:(List I)) (q:(List I)):(List I) :=
  bif ((aX p)||(aX q)) then (F_skewbackref08_bad) else (bif (((((p).length:Nat):Int)==0)||((((q).length:Nat):Int)==0)) then (([]:List I)) else (ap (fun (s:List I×Nat)=>let out:List I:=s.1
  let k:Nat:=s.2
  (dC out)) (fX p q ((p.length+q.length)) ([]:List I) 0)))
theorem sH (p q:List I):(cI p q).length≤25:=o0 nB (zU _)
theorem oW (p q:List I):(bA p q).length≤25:=o0 nB (o0 (Nat.zero_le _) (zU _))
theorem G9 {L:Nat→List I→Nat→List I×Nat} {n:Nat} {g:Nat→I} (h1:∀ k out i,i<n→L (k+1) out i=L k (out++[g i]) (i+1)) (h2:∀ k out i,¬ i<n→L (k+1) out i=(out,i)) :
    ∀ (k:Nat) (out:List I) (i:Nat),n - i<k→(L k out i).1=out++(List.range' i (n - i)).map g
  | 0,out,i,h=>absurd h (Nat.not_lt_zero _)
  | k+1,out,i,h=>by
    by_cases hi:i<n
    · obtain ⟨m,hm⟩:∃ m,n - i=m+1:=⟨n - i - 1,by omega⟩
      rw [h1 _ _ _ hi,G9 h1 h2 k _ _ oo_,hm,DX,show n - (i+1)=m by omega]
      simp
    rw [h2 _ _ _ hi,show n - i=0 by omega];simp
theorem bY_ (p:List I) (k:Int):e8 p k=eA p k:=rfl
theorem ZG (n:Nat):List.range n=List.range' 0 n:=List.range_eq_range'
theorem RK {p q:List I} (hp:p.length≤1000) (hq:q.length≤1000):gK p q=cI p q:=by
  unfold gK cI;rw [rH _ hp hq,wT,wT];have e:=G9 (L:=fW p q) (n:=max p.length q.length) (g:=fun k=>E (Z.add (p.getD k I0).dec (q.getD k I0).dec))
    (fun k out i h=>by (conv=>lhs;unfold fW);rw [decide_eq_true oo_,bY_,bY_,yI,yI];rfl) (fun k out i h=>by unfold fW;rw [decide_eq_false oo_];rfl) (max p.length q.length+1) [] 0 oo_
  rw [List.nil_append,Nat.sub_zero,← ZG] at e;simp only [ap,e,B6]
  cases p.all gdI<;>cases q.all gdI<;>rfl
theorem I3 (p q out:List I) (k t i:Nat) (m:I) (hi:i≤k) (h:q.length≤k - i∨p.length≤i):cM p q out k (t+1) i m=cM p q out k t (i+1) m:=by
  conv=>lhs;unfold cM
  rw [decide_eq_true oo_,cond_true]
  have e:(decide ((i:Int)<((p.length:Nat):Int))&&decide ((k:Int) - (i:Int)<((q.length:Nat):Int)))=false:=by
    rcases h with h|h
    · rw [decide_eq_false (p:=(k:Int) - (i:Int)<((q.length:Nat):Int)) oo_,Bool.and_false]
    rw [decide_eq_false oo_,Bool.false_and]
  rw [e,cond_false]
theorem I4 (p q out:List I) (k:Nat):∀ (t i:Nat) (m:I),p.length≤i→(cM p q out k t i m).2=m
  | 0,i,m,h=>rfl
  | t+1,i,m,h=>by
    by_cases hi:i≤k
    · rw [I3 p q out k t i m hi (.inr h),I4 p q out k t _ _ oo_]
    unfold cM;rw [decide_eq_false oo_,cond_false]
theorem IW (p q out:List I) (k:Nat):∀ (t t' i:Nat) (m:I),k+1 - i<t→k+1 - i<t'→k+1≤i+q.length→(eR k q p t i m).2=(cM p q out k t' i m).2
  | 0,_,i,m,h,_,_=>absurd h (Nat.not_lt_zero _)
  | t+1,0,i,m,_,h,_=>absurd h (Nat.not_lt_zero _)
  | t+1,t'+1,i,m,h,h',hq=>by
    by_cases hp:i<p.length
    · by_cases hi:i≤k
      · unfold eR cM
        rw [decide_eq_true (p:=(i:Int)≤min (k:Int) ((p.length:Nat) - 1)) oo_,decide_eq_true (p:=(i:Int)≤(k:Int)) oo_,decide_eq_true (p:=(i:Int)<((p.length:Nat):Int)) oo_,decide_eq_true (p:=(k:Int) - (i:Int)<((q.length:Nat):Int)) oo_];exact IW p q out k t t' _ _ oo_ oo_ oo_
      unfold eR cM;rw [decide_eq_false (p:=(i:Int)≤min (k:Int) ((p.length:Nat) - 1)) oo_,decide_eq_false (p:=(i:Int)≤(k:Int)) oo_];rfl
    rw [I4 p q out k _ _ _ oo_];unfold eR;rw [decide_eq_false oo_];rfl
theorem I2 (p q out:List I) (k:Nat) (m:I):∀ (n t i:Nat),i+n=k+1 - q.length→k+1 - i<t→cM p q out k t i m=cM p q out k (t - n) (i+n) m
  | 0,t,i,_,_=>rfl
  | n+1,t,i,h,ht=>by
    obtain ⟨t,rfl⟩:∃ t',t=t'+1:=⟨t - 1,by omega⟩;rw [I3 p q out k t i m oo_ (.inl oo_),I2 p q out k m n t (i+1) oo_ oo_];rw [show t+1 - (n+1)=t - n by omega,show i+1+n=i+(n+1) by omega]
theorem aN_ (p q out:List I) (k:Nat):jZ k q p=(cM p q out k (k+2) 0 I0).2:=by
  unfold jZ;simp only [ap];rw [I2 p q out k I0 (k+1 - q.length) (k+2) 0 oo_ oo_,Nat.zero_add];rw [show ((k:Int) - ((q.length:Nat):Int)+1).toNat=k+1 - q.length by omega];exact IW p q out k _ _ _ _ oo_ oo_ oo_
theorem JT {p q:List I} (hp:p.length≤1000) (hq:q.length≤1000):dO p q=bA p q:=by
  unfold dO bA;rw [mN hp,mN hq,wT,wT,oH]
  cases h0:(((p.length:Nat):Int)==0)||(((q.length:Nat):Int)==0)
  · have h1:p.length≠0∧q.length≠0:=by
      have:=Bool.or_eq_false_iff.1 h0;exact ⟨fun h=>by rw [h] at this;exact absurd this.1 dd_,fun h=>by rw [h] at this;exact absurd this.2 dd_⟩
    have e:=G9 (L:=fX p q) (n:=p.length+q.length - 1) (g:=fun k=>jZ k q p)
      (fun k out i h=>by (conv=>lhs;unfold fX);rw [decide_eq_true oo_];simp only [cond_true,ap];rw [← aN_]) (fun k out i h=>by unfold fX;rw [decide_eq_false oo_];rfl) (p.length+q.length) [] 0 oo_
    rw [List.nil_append,Nat.sub_zero,← ZG] at e;simp only [ap,e,B6];rw [show (((p.length+q.length:Nat):Int) - 1).toNat=p.length+q.length - 1 by omega];rfl
  rfl
section
variable {p q:List I} {c d:Nat→Int}
theorem cy_ (h:Po p c) (g:Po q d) (hB:∀ k,cZ (c k+d k)):Po (gK p q) (fun k=>c k+d k) :=
  EO h g (fun k=>by rw [bZ,bZ,CN (h.B k) (g.B k)]) hB (fun k h1 h2=>by rw [h1,h2];rfl)
theorem YO (h:Po p c) (g:Po q d) (k:Nat) (hs:∀ t,cZ (iF (fun i=>c i*d (k - i)) t)) (hm:∀ i j,cZ (c i*d j)) :
    ∀ (t i:Nat),k+1 - i<t→i≤k+1→(eR k q p t i (E (Z.of (iF (fun i=>c i*d (k - i)) i)))).2=E (Z.of (conv c d k))
  | 0,i,ht,_=>absurd ht (Nat.not_lt_zero _)
  | t+1,i,ht,hi=>by
    unfold eR;have e:∀ a b,a≤b→p.length≤a→iF (fun i=>c i*d (k - i)) b=iF (fun i=>c i*d (k - i)) a:=fun a b hab hpa =>
      pT (fun j hj=>by rw [h.zero oo_,Int.zero_mul]) b hab
    by_cases hk:((i:Nat):Int)≤min ((k:Nat):Int) (((p.length:Nat):Int) - 1)
    · rw [decide_eq_true hk,cond_true,h.get,g.get,bZ,bZ,bZ,oR (h.B _) (g.B _),CN (hs _) (hm _ _)]
      exact YO h g k hs hm t (i+1) oo_ oo_
    rw [decide_eq_false hk,cond_false]
    show E (Z.of _)=E (Z.of (iF _ (k+1)))
    rcases Nat.lt_or_ge i (k+1) with h1|h1
    · rw [← e i (k+1) oo_ oo_]
    rw [show i=k+1 by omega]
theorem cJ_ (h:Po p c) (g:Po q d) (hs:∀ k t,cZ (iF (fun i=>c i*d (k - i)) t)) (hm:∀ i j,cZ (c i*d j)) (hl:p.length+q.length≤26):Po (dO p q) (conv c d):=by
  unfold dO;rw [h.nb,g.nb,Bool.or_false,cond_false]
  by_cases h0:p=[]
  · subst h0
    rw [show ((((([]:List I).length:Nat):Int)==0)||(((q.length:Nat):Int)==0))=true by simp,cond_true];exact CL.cast fun k=>Eq.symm (kG fun i _=>by rw [h.zero (Nat.zero_le _),Int.zero_mul])
  by_cases g0:q=[]
  · subst g0
    rw [show ((((p.length:Nat):Int)==0)||(((([]:List I).length:Nat):Int)==0))=true by simp,cond_true];refine CL.cast fun k=>Eq.symm (kG fun i _=>?_);rw [g.zero (Nat.zero_le _),Int.mul_zero]
  have h1:0<p.length:=List.length_pos_iff.2 h0;have h2:0<q.length:=List.length_pos_iff.2 g0
  rw [show ((((p.length:Nat):Int)==0)||(((q.length:Nat):Int)==0))=false by
    rw [Bool.or_eq_false_iff];exact ⟨beq_eq_false_iff_ne.2 oo_,beq_eq_false_iff_ne.2 oo_⟩,cond_false,oH]
  have hz:∀ k,p.length+q.length≤k+1→conv c d k=0:=fun k hk=>mE (fun i hi=>h.zero hi) (fun i hi=>g.zero hi) k hk;refine ML (fun k _=>?_) (fun k hk=>hz k oo_) (fun k=>hs k (k+1)) (fun k hk=>hz k oo_);unfold jZ
  show (eR _ _ _ _ _ _).2=_
  rw [show I0=E (Z.of (iF (fun i=>c i*d (k - i)) (((k:Nat):Int) - ((q.length:Nat):Int)+1).toNat)) by
    rw [kG fun i hi=>by rw [g.zero oo_,Int.mul_zero]];rfl]
  exact YO h g k (hs k) hm _ _ oo_ oo_
variable {n m b b':Nat}
theorem PS (h:Po p c) (g:Po q d) (hb:Bd c n b) (gb:Bd d m b') {e:Nat} (hn:n≤2 ^ e) (hl:n+m≤26) (hk:b+b'+e≤512):Po (dO p q) (conv c d) :=
  cJ_ h g (fun k t=>vJ (ID hb gb hn k t) hk) (fun i j=>vJ (yR (hb.b i) (gb.b j)) oo_) (by have:=h.len hb;have:=g.len gb;omega)
theorem VQ (h:Po p c) (g:Po q d) (hb:Bd c n b) (gb:Bd d m b) (hk:b+1≤512):Po (gK p q) (fun k=>c k+d k) :=
  cy_ h g fun k=>vJ ((hb.add gb).b k) hk
end
open Go Go.Kn
theorem IK {p:List I} {d b:Int} (h:(!bU p d b)=false):Rgt p∧p.length≤25:=b4_ h
theorem sJ (p q:List I):Rgt (cI p q):=by
  unfold cI
  cases (aX p||aX q)
  · rw [cond_false];exact oD _
  exact .inl rfl
theorem bz_:Rgt []:=.inr ⟨rfl,rfl,Nat.zero_le _⟩
theorem oY (p q:List I):Rgt (bA p q):=by
  unfold bA
  cases (aX p||aX q)
  · rw [cond_false,Bool.cond_eq_ite]
    split
    · exact bz_
    exact oD _
  exact .inl rfl
def cT (p:(List I)) (q:(List I)) (a:Rt) (b:Rt):Bool :=
  bif (!(bU p 2 20)||(!(bU q 2 20)||((aX p)||((aX q)||(!(cK p a b (wl 0))||decide (0<(eC a b).1)))))) then (eZ) else (let r34:W:=(aD (cI (bA p p) (bA q q)) a b).2
  bif (!((aD (cI (bA p p) (bA q q)) a b).1)&&(r34.1==0)) then (false) else (bif ((((aD p a b).2).1 != 0)||(((aD q a b).2).1 != 0)) then (false) else (bif (!((aD p a b).1)||(!(aD q a b).1)) then (eZ) else ((eZ&&((aD (cI p q) a b).1&&((((aD (cI p q) a b).2).1==0)&&((aD (bA p q) a b).1||(((aD (bA p q) a b).2).1==30)))))))))
end Go.Num
namespace Go.Proofs.YtokjfhfiodopdaaGreat
open Go.Kn Go.Num Tryz
attribute [local irreducible] Go.Kn.W WL PL OpQ OpR OpS
theorem tN (vp:Value) (p:(List I)) (k:Int) (w:World) (hp:Slr w elI vp p) :
    Calls prog 77 [vp,.int .i64 k].toArray w (fun e w'=>e = .returned (AV [pI (e8 p k)])∧Ext w w'):=by
 obtain ⟨p_p,c_p,rfl⟩:=hp.form;refine cQ (N:=18) func77 rfl rfl (by simp) ?_;obtain ⟨w0,rfl⟩:∃ w0,w0=w:=⟨_,rfl⟩;have Hp:=hp.old;have hm_p:=hp.max;simp only [bK,Nat.reduceAdd];refine go2 ?_;intro b1 hb1;refine go2 ?_;refine gJv [5,6,7,8,9,10,11,12] [(12,.bool (decide (k<0)||decide ((((p).length:Nat):Int)≤k)))] (fun K2 J2=>?_) ?_
 ·refine go3 ?_;refine sBB rfl (fun h3=>?_) (fun h3=>?_)
  ·have ph3:=of_decide_eq_true h3;refine go6 ?_;refine J2 _ _ pp_ s0 (aZ (lX h3))
  have ph3:=of_decide_eq_false h3;refine go2 ?_;refine sQ (aS (v':=.int .i64 (((p).length:Nat):Int)) (dW (e:=elI) d9 rfl (SLe.sub Hp sn)) rfl) rfl (go3 ?_);refine J2 _ _ pp_ s0 (aZ (kE h3 rfl))
 intro g4;refine aQ _ rfl (fun h5=>?_) (fun h5=>?_)
 ·refine go5 ?_;refine bG rfl (.inr rfl) (gT rfl m0 tyT rfl) ?_;exact congrArg vS2 (show _=(e8 p k) from aW h5 rfl)
 have ph6:=of_decide_eq_false (Bool.or_eq_false_iff.1 h5).1;have ph7:=of_decide_eq_false (Bool.or_eq_false_iff.1 h5).2;refine go4 ?_;refine sQ (aS (v':=.pointer (some (slb (.slice p_p p.length c_p) (((k).toNat)*18+0)))) (lY (e:=elI) (l:=p) (k:=(k).toNat) d9 rfl rfl oo_ (SLe.sub Hp sn) o2_) rfl) rfl ?_;refine sQ (j7 (e:=elI) (l:=p) (k:=(k).toNat) (o:=0) tyT rfl (SLe.sub Hp sn) (dN I0 o2_) rfl) rfl ?_;refine go3 ?_;refine bG rfl (.inr rfl) (gT rfl m0 tyT rfl) ?_;exact congrArg vS2 (show _=(e8 p k) from aM h5 rfl)
theorem sI (vp:Value) (p:(List I)) (vq:Value) (q:(List I)) (w:World) (hp:Slr w elI vp p) (hq:Slr w elI vq q) (hpre:p.length≤100∧q.length≤100) :
    Calls prog 33 [vp,vq].toArray w (fun e w'=>∃ v,e = .returned (v)∧Ext w w'∧Slo w.heap.size w' 27 elI v (cI p q)):=by
 obtain ⟨p_p,c_p,rfl⟩:=hp.form;obtain ⟨p_q,c_q,rfl⟩:=hq.form;refine fF (n:=35) (fun v=>v) func33 rfl rfl (by simp) ?_;obtain ⟨w0,rfl⟩:∃ w0,w0=w:=⟨_,rfl⟩;have Hp:=hp.old;have hm_p:=hp.max;have Hq:=hq.old;have hm_q:=hq.max;simp only [bK,Nat.reduceAdd];refine go4 ?_;refine gJv [7,8,9,10,11,12] [(12,.bool ((aX p)||(aX q)))] (fun K2 J2=>?_) ?_
 ·refine go2 ?_;refine sQ (aS (v':=.bool (aX p)) (bE aJ rfl (fun w hw=>fS _ p w (aR hw Hp sn))) rfl) rfl ?_;refine sBB rfl (fun h2=>?_) (fun h2=>?_)
  ·refine go4 ?_;refine J2 _ _ pp_ s0 (aZ (lX h2))
  refine go_ ?_;refine sQ (aS (v':=.bool (aX q)) (bE aJ rfl (fun w hw=>fS _ q w (aR hw Hq sn))) rfl) rfl (go2 ?_);refine J2 _ _ pp_ s0 (aZ (kE h2 rfl))
 intro g3;refine aQ _ rfl (fun h4=>?_) (fun h4=>?_)
 ·refine go_ ?_;refine bC rfl (cU (E:=27) (e:=elI) (l:=F_skewbackref08_bad) (fun v=>v) aJ rfl (fun w hw=>mV  w) (fun p5 c6 L7 hF8=>go3 ?_));refine bG rfl (.inr rfl) rfl ?_
  have hE:(F_skewbackref08_bad:(List I))=(cI p q):=by exact aW h4 rfl
  rw [← hE];exact ⟨_,rfl,⟨L7,lZ,hF8⟩⟩
 refine go8 ?_;refine gJ3 [5,6,14,15,16,17,18,19,20,21,22,23,24,25,26,27,28,29,30,31,32] (fun g M=>∃ (out:List I) (i:Nat) (p_out:Option Addr) (c_out:Nat) (L_out:List Blk),(fW p q (((max p.length q.length)+1)) ([]:List I) 0)=(out,i)∧(out.length≤200)∧(g 5 = .slice p_out out.length c_out∧g 6 = .int .i64 ((i:Nat):Int)∧OwnG w0 27 elI (.slice p_out out.length c_out) out L_out)∧M=(L_out++[])) (fun K_u9 hK_u9=>?_) ?_
 ·refine go_ ?_;refine cF [5,6,14,15,16,17,18,19,20,21,22,23,24,25,26,27,28,29,30,31,32] (fun g nn M=>∃ (out:List I) (i:Nat) (p_out:Option Addr) (c_out:Nat) (L_out:List Blk),(fW p q nn out i)=(fW p q (((max p.length q.length)+1)) ([]:List I) 0)∧(max p.length q.length) - i<nn∧(i≤(max p.length q.length)∧out.length=i)∧(g 5 = .slice p_out out.length c_out∧g 6 = .int .i64 ((i:Nat):Int)∧OwnG w0 27 elI (.slice p_out out.length c_out) out L_out)∧M=(L_out++[])) (((max p.length q.length)+1)) ?start ?round
  case start=>exact ⟨_,s0,([]:List I),0,none,0,[],rfl,o1_,o1_,⟨rfl,rfl,OwnG.nil⟩,rfl⟩
  case round =>
   rintro nn g M ⟨out,i,p_out,c_out,L_out,hT0,hq0,hinv0,⟨hg5,hg6,hO_out⟩,rfl⟩;obtain ⟨k0,rfl⟩:∃ m,nn=m+1:=⟨nn - 1,by omega⟩;simp only [eH,hg5,hg6];clear hg5 hg6;have hm_out:=OwnG.max hO_out;refine go4 ?_;refine sQ (aS (v':=.int .i64 (((p).length:Nat):Int)) (dW (e:=elI) d9 rfl (SLe.sub Hp sn)) rfl) rfl (go_ ?_);refine sQ (aS (v':=.int .i64 (((q).length:Nat):Int)) (dW (e:=elI) d9 rfl (SLe.sub Hq sn)) rfl) rfl (sQ (aS (v':=.int .i64 (((max ((p).length) ((q).length)):Nat):Int)) (C6 rfl rfl) (congrArg (Value.int .i64) oo_)) rfl (go2 ?_));refine aQ _ rfl (fun h17=>?_) (fun h17=>?_)
   ·have ph17:=of_decide_eq_true h17;refine go7 ?_;refine sQ (aS (v':=AV [pI (e8 p ((i:Nat):Int))]) (bE aJ rfl (fun w hw=>tN _ p ((i:Nat):Int) w (aR hw Hp sn))) rfl) rfl (go2 ?_);refine sQ (aS (v':=AV [pI (e8 q ((i:Nat):Int))]) (bE aJ rfl (fun w hw=>tN _ q ((i:Nat):Int) w (aR hw Hq sn))) rfl) rfl ?_;obtain ⟨r18,hr18⟩:=nm ((E (Z.add (e8 p ((i:Nat):Int)).dec (e8 q ((i:Nat):Int)).dec)):I);refine sC (AV [pI r18]) aJ (mS (e8 p ((i:Nat):Int)).1 (e8 q ((i:Nat):Int)).1 (e8 p ((i:Nat):Int)).2 (e8 q ((i:Nat):Int)).2) rfl rfl (by subst hr18;rfl) (bC rfl (fQ [[pI r18]] [pI r18] nM kR nU rfl dd_ rfl rfl ⟨rfl,rfl,rfl,trivial⟩ rfl (fun b19 hb19=>bC rfl (nS (e:=elI) (l:=out) (m:=[r18]) 68 nM (by kernel_rfl) dd_ rfl rfl hO_out (SLe.lit (e:=elI) (l:=[r18]) m0 rfl (Nat.le_of_ble_eq_true rfl) rfl) (bX o8) (by simp only [List.length_append,List.length_cons,List.length_nil];omega) dd_ (fun p20 c21 L22 hO23=>?_)))));refine go4 ?_;refine sV (.int .i64 (((i+1):Nat):Int)) rfl (congrArg (Value.int .i64) (wx oo_ oo_ oo_)) (go2 ?_);refine ⟨pp_,_,_,(sA (sd (s0))),(Nat.lt_succ_self _),(out++[r18]),(i+1),p20,c21,L22,(by subst hr18;exact (hT0.symm.trans (Eq.symm (aW h17 rfl))).symm),(Nat.lt_of_lt_of_le o1_ (Nat.le_of_lt_succ hq0)),o1_,⟨rfl,rfl,hO23⟩,rfl⟩
   have ph17:=of_decide_eq_false h17;refine go_ ?_;refine hK_u9 _ _ pp_ ⟨_,s0,out,i,p_out,c_out,L_out,(by exact hT0.symm.trans (Eq.symm (aM h17 rfl))),o1_,⟨rfl,rfl,hO_out⟩,rfl⟩
 rintro g M ⟨out,i,p_out,c_out,L_out,hCu9,hPu9,⟨hg5,hg6,hO_out⟩,rfl⟩;simp only [eH,hg5,hg6];clear hg5 hg6;have hm_out:=OwnG.max hO_out;refine go2 ?_;refine bC rfl (cU (E:=27) (e:=elI) (l:=(dC out)) (fun v=>v) aJ rfl (fun w hw=>oC _ out w (aO hw hO_out lZ) oo_) (fun p24 c25 L26 hF27=>?_));have hb28:=(oB out);refine go3 ?_;refine bG rfl (.inr rfl) rfl ?_
 have hE:((dC out):(List I))=(cI p q):=by exact aM h4 (trs (Eq.symm (apS hCu9)) rfl)
 rw [← hE];exact ⟨_,rfl,⟨L26,lZ,hF27⟩⟩
theorem oX (vp:Value) (p:(List I)) (vq:Value) (q:(List I)) (w:World) (hp:Slr w elI vp p) (hq:Slr w elI vq q) (hpre:p.length≤100∧q.length≤100) :
    Calls prog 34 [vp,vq].toArray w (fun e w'=>∃ v,e = .returned (v)∧Ext w w'∧Slo w.heap.size w' 27 elI v (bA p q)):=by
 obtain ⟨p_p,c_p,rfl⟩:=hp.form;obtain ⟨p_q,c_q,rfl⟩:=hq.form;refine fF (n:=71) (fun v=>v) func34 rfl rfl (by simp) ?_;obtain ⟨w0,rfl⟩:∃ w0,w0=w:=⟨_,rfl⟩;have Hp:=hp.old;have hm_p:=hp.max;have Hq:=hq.old;have hm_q:=hq.max;simp only [bK,Nat.reduceAdd];refine go4 ?_;refine gJv [9,10,11,12,13,14] [(14,.bool ((aX p)||(aX q)))] (fun K2 J2=>?_) ?_
 ·refine go2 ?_;refine sQ (aS (v':=.bool (aX p)) (bE aJ rfl (fun w hw=>fS _ p w (aR hw Hp sn))) rfl) rfl ?_;refine sBB rfl (fun h2=>?_) (fun h2=>?_)
  ·refine go4 ?_;refine J2 _ _ pp_ s0 (aZ (lX h2))
  refine go_ ?_;refine sQ (aS (v':=.bool (aX q)) (bE aJ rfl (fun w hw=>fS _ q w (aR hw Hq sn))) rfl) rfl (go2 ?_);refine J2 _ _ pp_ s0 (aZ (kE h2 rfl))
 intro g3;refine aQ _ rfl (fun h4=>?_) (fun h4=>?_)
 ·refine go_ ?_;refine bC rfl (cU (E:=27) (e:=elI) (l:=F_skewbackref08_bad) (fun v=>v) aJ rfl (fun w hw=>mV  w) (fun p5 c6 L7 hF8=>go3 ?_));refine bG rfl (.inr rfl) rfl ?_
  have hE:(F_skewbackref08_bad:(List I))=(bA p q):=by exact aW h4 rfl
  rw [← hE];exact ⟨_,rfl,⟨L7,lZ,hF8⟩⟩
 refine go2 ?_;refine gJv [16,17,18,19,20,21,22,23] [(23,.bool (((((p).length:Nat):Int)==0)||((((q).length:Nat):Int)==0)))] (fun K4 J4=>?_) ?_
 ·refine go2 ?_;refine sQ (aS (v':=.int .i64 (((p).length:Nat):Int)) (dW (e:=elI) d9 rfl (SLe.sub Hp sn)) rfl) rfl (go_ ?_);refine sBB rfl (fun h10=>?_) (fun h10=>?_)
  ·have ph10:=tR h10;refine go5 ?_;refine J4 _ _ pp_ s0 (aZ (lX h10))
  have ph10:=nJ h10;refine go_ ?_;refine sQ (aS (v':=.int .i64 (((q).length:Nat):Int)) (dW (e:=elI) d9 rfl (SLe.sub Hq sn)) rfl) rfl (go3 ?_);refine J4 _ _ pp_ s0 (aZ (kE h10 rfl))
 intro g11;refine aQ _ rfl (fun h12=>?_) (fun h12=>?_)
 ·refine go4 ?_;refine bG rfl (.inr rfl) rfl ?_
  have hE:(([]:List I):(List I))=(bA p q):=by exact aM h4 (aW h12 rfl)
  rw [← hE];exact ⟨_,rfl,⟨[],sn,OwnG.nil⟩⟩
 have ph13:=nJ (Bool.or_eq_false_iff.1 h12).1;have ph14:=nJ (Bool.or_eq_false_iff.1 h12).2;refine go8 ?_;refine gJ3 [5,6,7,8,24,25,26,27,28,29,30,31,32,33,34,35,36,37,38,39,40,41,42,43,44,45,46,47,48,49,50,51,52,53,54,55,56,57,58,59,60,61,62,63,64,65,66,67,68] (fun g M=>∃ (out:List I) (k:Nat) (p_out:Option Addr) (c_out:Nat) (L_out:List Blk),(fX p q ((p.length+q.length)) ([]:List I) 0)=(out,k)∧(out.length≤200)∧(g 5 = .slice p_out out.length c_out∧g 6 = .int .i64 ((k:Nat):Int)∧OwnG w0 27 elI (.slice p_out out.length c_out) out L_out)∧M=(L_out++[])) (fun K_u15 hK_u15=>?_) ?_
 ·refine go_ ?_;refine cF [5,6,7,8,24,25,26,27,28,29,30,31,32,33,34,35,36,37,38,39,40,41,42,43,44,45,46,47,48,49,50,51,52,53,54,55,56,57,58,59,60,61,62,63,64,65,66,67,68] (fun g nn M=>∃ (out:List I) (k:Nat) (p_out:Option Addr) (c_out:Nat) (L_out:List Blk),(fX p q nn out k)=(fX p q ((p.length+q.length)) ([]:List I) 0)∧p.length+q.length - 1 - k<nn∧(k≤p.length+q.length - 1∧out.length=k)∧(g 5 = .slice p_out out.length c_out∧g 6 = .int .i64 ((k:Nat):Int)∧OwnG w0 27 elI (.slice p_out out.length c_out) out L_out)∧M=(L_out++[])) ((p.length+q.length)) ?start ?round
  case start=>exact ⟨_,s0,([]:List I),0,none,0,[],rfl,o1_,o1_,⟨rfl,rfl,OwnG.nil⟩,rfl⟩
  case round =>
   rintro nn g M ⟨out,k,p_out,c_out,L_out,hT0,hq0,hinv0,⟨hg5,hg6,hO_out⟩,rfl⟩;obtain ⟨k0,rfl⟩:∃ m,nn=m+1:=⟨nn - 1,by omega⟩;simp only [eH,hg5,hg6];clear hg5 hg6;have hm_out:=OwnG.max hO_out;refine go4 ?_;refine sQ (aS (v':=.int .i64 (((p).length:Nat):Int)) (dW (e:=elI) d9 rfl (SLe.sub Hp sn)) rfl) rfl (go_ ?_);refine sQ (aS (v':=.int .i64 (((q).length:Nat):Int)) (dW (e:=elI) d9 rfl (SLe.sub Hq sn)) rfl) rfl (sV (.int .i64 ((((p).length+(q).length):Nat):Int)) rfl (congrArg (Value.int .i64) (wx oo_ oo_ oo_)) (sV (.int .i64 (((((p).length+(q).length):Nat):Int) - 1)) rfl (congrArg (Value.int .i64) (wx oo_ oo_ oo_)) (go2 ?_)));refine aQ _ rfl (fun h45=>?_) (fun h45=>?_)
   ·have ph45:=of_decide_eq_true h45;refine go6 ?_;intro b46 hb46;refine go6 ?_;refine gJ3 [8,35,36,37,38,39,40,41,42,43,44,45,46,47,48,49,50,51,52,53,54,55,56,57,58,59,60,61,62,63,64] (fun g M=>∃ (i:Nat) (mb46:I),(cM p q out k ((k+2)) 0 I0)=(i,mb46)∧(g 8 = .int .i64 ((i:Nat):Int))∧M=(⟨b46,27,bB [pI mb46]⟩::(L_out++[]))) (fun K_u47 hK_u47=>?_) ?_
    ·refine go_ ?_;refine cF [8,35,36,37,38,39,40,41,42,43,44,45,46,47,48,49,50,51,52,53,54,55,56,57,58,59,60,61,62,63,64] (fun g nn M=>∃ (i:Nat) (mb46:I),(cM p q out k nn i mb46)=(cM p q out k ((k+2)) 0 I0)∧k+1 - i<nn∧(i≤k+1)∧(g 8 = .int .i64 ((i:Nat):Int))∧M=(⟨b46,27,bB [pI mb46]⟩::(L_out++[]))) ((k+2)) ?start ?round
     case start=>exact ⟨_,s0,0,I0,rfl,o1_,o1_,rfl,rfl⟩
     case round =>
      rintro nn g M ⟨i,mb46,hT1,hq1,hinv1,hg8,rfl⟩;obtain ⟨k1,rfl⟩:∃ m,nn=m+1:=⟨nn - 1,by omega⟩;simp only [eH,hg8];clear hg8;refine go6 ?_;refine aQ _ rfl (fun h62=>?_) (fun h62=>?_)
      ·have ph62:=of_decide_eq_true h62;refine go3 ?_;refine gJv [40,41,42,43,44,45,46,47,48,49,50,51] [(51,.bool (decide (((i:Nat):Int)<(((p).length:Nat):Int))&&decide ((((k:Nat):Int) - ((i:Nat):Int))<(((q).length:Nat):Int))))] (fun K29 J29=>?_) ?_
       ·refine go3 ?_;refine sQ (aS (v':=.int .i64 (((p).length:Nat):Int)) (dW (e:=elI) d9 rfl (SLe.sub Hp sn)) rfl) rfl (go_ ?_);refine sBB rfl (fun h64=>?_) (fun h64=>?_)
        ·have ph64:=of_decide_eq_true h64;refine go2 ?_;refine sV (.int .i64 (((k:Nat):Int) - ((i:Nat):Int))) rfl (congrArg (Value.int .i64) (wx oo_ oo_ oo_)) (go_ ?_);refine sQ (aS (v':=.int .i64 (((q).length:Nat):Int)) (dW (e:=elI) d9 rfl (SLe.sub Hq sn)) rfl) rfl (go3 ?_);refine J29 _ _ pp_ s0 (aZ (bW h64 rfl))
        have ph64:=of_decide_eq_false h64;refine go8 ?_;refine J29 _ _ pp_ s0 (aZ (hJ h64))
       intro g65;refine aQ _ rfl (fun h66=>?_) (fun h66=>?_)
       ·have ph67:=of_decide_eq_true (Bool.and_eq_true_iff.1 h66).1;have ph68:=of_decide_eq_true (Bool.and_eq_true_iff.1 h66).2;refine rK (sd s0) 14 [13] [13] (go3 ?_);refine pQ rfl (aS (v':=.pointer (some (slb (.slice p_p p.length c_p) (i*18+0)))) (kZ (e:=elI) (l:=p) (k:=i) d9 rfl rfl (SLe.sub Hp sn) o2_) rfl) ?_;refine pQ rfl (j7 (e:=elI) (l:=p) (k:=i) (o:=0) tyT rfl (SLe.sub Hp sn) (dN I0 o2_) rfl) ?_;refine go3 ?_;refine pV (.int .i64 (((k:Nat):Int) - ((i:Nat):Int))) rfl (congrArg (Value.int .i64) (wx oo_ oo_ oo_)) (pQ rfl (aS (v':=.pointer (some (slb (.slice p_q q.length c_q) ((k - i)*18+0)))) (lY (e:=elI) (l:=q) (k:=(k - i)) d9 rfl rfl oo_ (SLe.sub Hq sn) o2_) rfl) ?_);refine pQ rfl (j7 (e:=elI) (l:=q) (k:=(k - i)) (o:=0) tyT rfl (SLe.sub Hq sn) (dN I0 o2_) rfl) ?_;refine pC (AV [pI (E (Z.mul (p.getD i I0).dec (q.getD (k - i) I0).dec))]) aJ (gR (p.getD i I0).1 (q.getD (k - i) I0).1 (p.getD i I0).2 (q.getD (k - i) I0).2) rfl rfl rfl (pC (AV [pI (E (Z.add mb46.dec (Z.mul (p.getD i I0).dec (q.getD (k - i) I0).dec)))]) aJ (mS mb46.1 (E (Z.mul (p.getD i I0).dec (q.getD (k - i) I0).dec)).1 mb46.2 (E (Z.mul (p.getD i I0).dec (q.getD (k - i) I0).dec)).2) rfl rfl (cg2 (fun p q=>AV [pI (E (Z.add p q))]) rfl (bZ _)) (go4 ?_));refine sV (.int .i64 (((i+1):Nat):Int)) rfl (congrArg (Value.int .i64) (wx oo_ oo_ oo_)) (go2 ?_);refine ⟨pp_,_,_,s0,(Nat.lt_succ_self _),(i+1),(E (Z.add mb46.dec (Z.mul (p.getD i I0).dec (q.getD (k - i) I0).dec))),(by exact (hT1.symm.trans (Eq.symm (aW h62 (aW h66 rfl)))).symm),(Nat.lt_of_lt_of_le o1_ (Nat.le_of_lt_succ hq1)),o1_,rfl,rfl⟩
       refine go3 ?_;refine sV (.int .i64 (((i+1):Nat):Int)) rfl (congrArg (Value.int .i64) (wx oo_ oo_ oo_)) (go2 ?_);refine ⟨pp_,_,_,s0,(Nat.lt_succ_self _),(i+1),mb46,(by exact (hT1.symm.trans (Eq.symm (aW h62 (aM h66 rfl)))).symm),(Nat.lt_of_lt_of_le o1_ (Nat.le_of_lt_succ hq1)),o1_,rfl,rfl⟩
      have ph62:=of_decide_eq_false h62;refine go_ ?_;refine hK_u47 _ _ pp_ ⟨_,s0,i,mb46,(by exact hT1.symm.trans (Eq.symm (aM h62 rfl))),rfl,rfl⟩
    rintro g M ⟨i,mb46,hCu47,hg8,rfl⟩;simp only [eH,hg8];clear hg8;refine go3 ?_;refine bC rfl (fQ [[pI mb46]] [pI mb46] nM kR nU rfl dd_ rfl rfl ⟨rfl,rfl,rfl,trivial⟩ rfl (fun b69 hb69=>bC rfl (nS (e:=elI) (l:=out) (m:=[mb46]) 68 nM (by kernel_rfl) dd_ rfl rfl hO_out (SLe.lit (e:=elI) (l:=[mb46]) m0 rfl (Nat.le_of_ble_eq_true rfl) rfl) (bX (bX o8)) (by simp only [List.length_append,List.length_cons,List.length_nil];omega) dd_ (fun p70 c71 L72 hO73=>?_))));refine go4 ?_;refine sV (.int .i64 (((k+1):Nat):Int)) rfl (congrArg (Value.int .i64) (wx oo_ oo_ oo_)) (go2 ?_);refine ⟨pp_,_,_,(sA (sd (sd (s0)))),(Nat.lt_succ_self _),(out++[mb46]),(k+1),p70,c71,L72,(by exact (hT0.symm.trans (Eq.symm (aW h45 (trs (Eq.symm (apS hCu47)) rfl)))).symm),(Nat.lt_of_lt_of_le o1_ (Nat.le_of_lt_succ hq0)),o1_,⟨rfl,rfl,hO73⟩,rfl⟩
   have ph45:=of_decide_eq_false h45;refine go_ ?_;refine hK_u15 _ _ pp_ ⟨_,s0,out,k,p_out,c_out,L_out,(by exact hT0.symm.trans (Eq.symm (aM h45 rfl))),o1_,⟨rfl,rfl,hO_out⟩,rfl⟩
 rintro g M ⟨out,k,p_out,c_out,L_out,hCu15,hPu15,⟨hg5,hg6,hO_out⟩,rfl⟩;simp only [eH,hg5,hg6];clear hg5 hg6;have hm_out:=OwnG.max hO_out;refine go2 ?_;refine bC rfl (cU (E:=27) (e:=elI) (l:=(dC out)) (fun v=>v) aJ rfl (fun w hw=>oC _ out w (aO hw hO_out lZ) oo_) (fun p74 c75 L76 hF77=>?_));have hb78:=(oB out);refine go3 ?_;refine bG rfl (.inr rfl) rfl ?_
 have hE:((dC out):(List I))=(bA p q):=by exact aM h4 (aM h12 (trs (Eq.symm (apS hCu15)) rfl))
 rw [← hE];exact ⟨_,rfl,⟨L76,lZ,hF77⟩⟩
theorem wF (vp:Value) (p:(List I)) (vq:Value) (q:(List I)) (a:Rt) (b:Rt) (w:World) (hp:Slr w elI vp p) (hq:Slr w elI vq q) :
    Calls prog 8 [vp,vq,AV [pI a.n,pI a.d],AV [pI b.n,pI b.d]].toArray w (fun e w'=>e = .returned (.bool (cT p q a b))∧Ext w w'):=by
 obtain ⟨p_p,c_p,rfl⟩:=hp.form;obtain ⟨p_q,c_q,rfl⟩:=hq.form;refine cQ (N:=134) func8 rfl rfl (by simp) ?_;obtain ⟨w0,rfl⟩:∃ w0,w0=w:=⟨_,rfl⟩;have Hp:=hp.old;have hm_p:=hp.max;have Hq:=hq.old;have hm_q:=hq.max;simp only [bK,Nat.reduceAdd];refine go2 ?_;intro b1 hb1;refine go_ ?_;intro b2 hb2;refine go4 ?_;refine sQ (aS (v':=.bool (bU p 2 20)) (bE aJ rfl (fun w hw=>oV _ p 2 20 w (aR hw Hp sn) oo_)) rfl) rfl (go4 ?_);refine sQ (aS (v':=.bool (bU q 2 20)) (bE aJ rfl (fun w hw=>oV _ q 2 20 w (aR hw Hq sn) oo_)) rfl) rfl (go3 ?_);refine gJv [26,27,28,29,30,31,32,33,34,35,36,37,38,39,40,41,42,43,44,45,46,47,48,49,50,51,52] [(52,.bool (!(bU p 2 20)||(!(bU q 2 20)||((aX p)||((aX q)||(!(cK p a b (wl 0))||decide (0<(eC a b).1)))))))] (fun K2 J2=>?_) ?_
 ·refine go3 ?_;rcases bt (bU p 2 20) with h8|h8
  ·refine sB (fY h8) rfl (go3 ?_);rcases bt (bU q 2 20) with h9|h9
   ·refine sB (fY h9) rfl (go_ ?_);refine sQ (aS (v':=.bool (aX p)) (bE aJ rfl (fun w hw=>fS _ p w (aR hw Hp sn))) rfl) rfl (go_ ?_);refine sBB rfl (fun h10=>?_) (fun h10=>?_)
    ·refine UJ ?_;refine J2 _ _ pp_ s0 (aZ (jC h8 (jC h9 (lX h10))))
    refine go_ ?_;refine sQ (aS (v':=.bool (aX q)) (bE aJ rfl (fun w hw=>fS _ q w (aR hw Hq sn))) rfl) rfl (go_ ?_);refine sBB rfl (fun h11=>?_) (fun h11=>?_)
    ·refine FV ?_;refine J2 _ _ pp_ s0 (aZ (jC h8 (jC h9 (kE h10 (lX h11)))))
    refine go3 ?_;refine sQ (aS (v':=.bool (cK p a b (wl 0))) (bE aJ rfl (fun w hw=>nT _ p a b (wl 0) w (aR hw Hp sn))) rfl) rfl ?_;refine go2 ?_;rcases bt (cK p a b (wl 0)) with h12|h12
    ·refine sB (fY h12) rfl (go2 ?_);refine sQ (bM aJ (oT a b) rfl) rfl (go3 ?_);refine J2 _ _ pp_ s0 (aZ (jC h8 (jC h9 (kE h10 (kE h11 (jC h12 rfl))))))
    refine sB (fP h12) rfl (go6 ?_);refine J2 _ _ pp_ s0 (aZ (jC h8 (jC h9 (kE h10 (kE h11 (mI h12))))))
   refine sB (fP h9) rfl (a3_ ?_);refine J2 _ _ pp_ s0 (aZ (jC h8 (mI h9)))
  refine sB (fP h8) rfl (eS_ ?_);refine J2 _ _ pp_ s0 (aZ (mI h8))
 intro g13;refine aQ _ rfl (fun h14=>?_) (fun h14=>?_)
 ·refine go_ ?_;refine sQ (bM aJ i5  rfl) rfl (go3 ?_);refine bG rfl (.inr rfl) rfl ?_;exact congrArg vS0 (show _=(cT p q a b) from aW h14 rfl)
 have ph15:=of_decide_eq_false (Bool.or_eq_false_iff.1 (Bool.or_eq_false_iff.1 (Bool.or_eq_false_iff.1 (Bool.or_eq_false_iff.1 (Bool.or_eq_false_iff.1 h14).2).2).2).2).2;refine go_ ?_;obtain ⟨hRp,hLp⟩:=IK (Bool.or_eq_false_iff.1 h14).1;obtain ⟨hRq,hLq⟩:=IK (Bool.or_eq_false_iff.1 (Bool.or_eq_false_iff.1 h14).2).1;refine go3 ?_;refine bC rfl (cU (E:=27) (e:=elI) (l:=(bA p p)) (fun v=>v) aJ rfl (fun w hw=>oX _ p _ p w (aR hw Hp sn) (aR hw Hp sn) oo_) (fun p16 c17 L18 hF19=>?_));have hb20:=(oW p p);have hr21:=(oY p p);refine go2 ?_;refine bC rfl (cU (E:=27) (e:=elI) (l:=(bA q q)) (fun v=>v) aJ rfl (fun w hw=>oX _ q _ q w (aR hw Hq sn) (aR hw Hq sn) oo_) (fun p22 c23 L24 hF25=>?_));have hb26:=(oW q q);have hr27:=(oY q q);refine bC rfl (cU (E:=27) (e:=elI) (l:=(cI (bA p p) (bA q q))) (fun v=>v) aJ rfl (fun w hw=>sI _ (bA p p) _ (bA q q) w (aO hw hF19 (sR lZ)) (aO hw hF25 lZ) oo_) (fun p28 c29 L30 hF31=>?_));have hb32:=(sH (bA p p) (bA q q));have hr33:=(sJ (bA p p) (bA q q));refine go2 ?_;refine pW (sA (sR (sR (s0)))) ?_;refine go4 ?_;obtain ⟨r34,hr34⟩:=nm ((aD (cI (bA p p) (bA q q)) a b).2:W);refine sQ (aS (v':=.tuple #[.bool ((aD (cI (bA p p) (bA q q)) a b).1),.int .i64 r34.1]) (bE aJ rfl (fun w hw=>dX _ (cI (bA p p) (bA q q)) a b w (aO hw hF31 lZ) (by with_reducible first|assumption|exact ⟨hpre.1,by omega⟩|exact ⟨by assumption,by omega⟩|exact hpre.1|exact hpre.2))) (by rw [hr34];first|done|rfl)) rfl (go7 ?_);refine gJv [68,69,70,71,72,73] [(73,.bool (!((aD (cI (bA p p) (bA q q)) a b).1)&&(r34.1==0)))] (fun K4 J4=>?_) ?_
 ·refine go3 ?_;rcases bt ((aD (cI (bA p p) (bA q q)) a b).1) with h36|h36
  ·refine sB (fY h36) rfl (go4 ?_);refine J4 _ _ pp_ s0 (aZ (w6 h36))
  refine sB (fP h36) rfl (go4 ?_);refine J4 _ _ pp_ s0 (aZ (pX h36 rfl))
 intro g37;refine aQ _ rfl (fun h38=>?_) (fun h38=>?_)
 ·refine go4 ?_;refine bG rfl (.inr rfl) rfl ?_;exact (by subst hr34;exact congrArg vS0 (show _=(cT p q a b) from aM h14 (aW h38 rfl)))
 refine go5 ?_;refine sQ (aS (v':=.tuple #[.bool ((aD p a b).1),.int .i64 (((aD p a b).2).1)]) (bE aJ rfl (fun w hw=>dX _ p a b w (aR hw Hp sn) (by with_reducible first|assumption|exact ⟨hpre.1,by omega⟩|exact ⟨by assumption,by omega⟩|exact hpre.1|exact hpre.2))) rfl) rfl (pO ?_);refine sQ (aS (v':=.tuple #[.bool ((aD q a b).1),.int .i64 (((aD q a b).2).1)]) (bE aJ rfl (fun w hw=>dX _ q a b w (aR hw Hq sn) (by with_reducible first|assumption|exact ⟨hpre.1,by omega⟩|exact ⟨by assumption,by omega⟩|exact hpre.1|exact hpre.2))) rfl) rfl (go7 ?_);refine gJv [88,89,90,91,92,93] [(93,.bool ((((aD p a b).2).1 != 0)||(((aD q a b).2).1 != 0)))] (fun K6 J6=>?_) ?_
 ·refine go3 ?_;refine sBB rfl (fun h40=>?_) (fun h40=>?_)
  ·refine go4 ?_;refine J6 _ _ pp_ s0 (aZ (lX h40))
  refine go4 ?_;refine J6 _ _ pp_ s0 (aZ (kE h40 rfl))
 intro g41;refine aQ _ rfl (fun h42=>?_) (fun h42=>?_)
 ·refine go4 ?_;refine bG rfl (.inr rfl) rfl ?_;exact (by subst hr34;exact congrArg vS0 (show _=(cT p q a b) from aM h14 (aM h38 (aW h42 rfl))))
 refine go2 ?_;refine gJv [94,95,96,97,98,99] [(99,.bool (!((aD p a b).1)||(!(aD q a b).1)))] (fun K8 J8=>?_) ?_
 ·refine go3 ?_;rcases bt ((aD p a b).1) with h44|h44
  ·refine sB (fY h44) rfl (go4 ?_);refine J8 _ _ pp_ s0 (aZ (jC h44 rfl))
  refine sB (fP h44) rfl (go4 ?_);refine J8 _ _ pp_ s0 (aZ (mI h44))
 intro g45;refine aQ _ rfl (fun h46=>?_) (fun h46=>?_)
 ·refine go_ ?_;refine sQ (bM aJ i5  rfl) rfl (go3 ?_);refine bG rfl (.inr rfl) rfl ?_;exact (by subst hr34;exact congrArg vS0 (show _=(cT p q a b) from aM h14 (aM h38 (aM h42 (aW h46 rfl)))))
 refine go_ ?_;refine gds s0 [0,4,12,16,9,20,24,28,32,36,40] [] mix (by kernel_rfl) (go4 ?_);refine fM rfl rfl (cU (E:=27) (e:=elI) (l:=(cI p q)) (fun v=>v) aJ rfl (fun w hw=>sI _ p _ q w (aR hw Hp sn) (aR hw Hq sn) oo_) (fun p47 c48 L49 hF50=>⟨(fun _=>sR s0),(sR s0),?_⟩));have hb51:=(sH p q);have hr52:=(sJ p q);refine pQ rfl (aS (v':=.tuple #[.bool ((aD (cI p q) a b).1),.int .i64 (((aD (cI p q) a b).2).1)]) (bE aJ rfl (fun w hw=>dX _ (cI p q) a b w (aO hw hF50 lZ) (by with_reducible first|assumption|exact ⟨hpre.1,by omega⟩|exact ⟨by assumption,by omega⟩|exact hpre.1|exact hpre.2))) rfl) (go6 ?_);refine pW (sR (sR (s0))) ?_;refine gds s0 [0,4,12,16,9,20,24,28,32,36,40] [] mix (by kernel_rfl) (go4 ?_);refine fM rfl rfl (cU (E:=27) (e:=elI) (l:=(bA p q)) (fun v=>v) aJ rfl (fun w hw=>oX _ p _ q w (aR hw Hp sn) (aR hw Hq sn) oo_) (fun p53 c54 L55 hF56=>⟨(fun _=>sR s0),(sR s0),?_⟩));have hb57:=(oW p q);have hr58:=(oY p q);refine pQ rfl (aS (v':=.tuple #[.bool ((aD (bA p q) a b).1),.int .i64 (((aD (bA p q) a b).2).1)]) (bE aJ rfl (fun w hw=>dX _ (bA p q) a b w (aO hw hF56 lZ) (by with_reducible first|assumption|exact ⟨hpre.1,by omega⟩|exact ⟨by assumption,by omega⟩|exact hpre.1|exact hpre.2))) rfl) (go6 ?_);refine gJv [8,119,120,121,122,123,124,125,126,127,128,129,130,131,132,133] [(8,.bool (eZ&&((aD (cI p q) a b).1&&((((aD (cI p q) a b).2).1==0)&&((aD (bA p q) a b).1||(((aD (bA p q) a b).2).1==30))))))] (fun K9 J9=>?_) ?_
 ·refine go_ ?_;refine sQ (bM aJ i5  rfl) rfl ?_;refine sBB rfl (fun h63=>?_) (fun h63=>?_)
  ·refine go2 ?_;refine sBB rfl (fun h64=>?_) (fun h64=>?_)
   ·refine go3 ?_;refine sBB rfl (fun h65=>?_) (fun h65=>?_)
    ·refine go_ ?_;refine sBB rfl (fun h66=>?_) (fun h66=>?_)
     ·refine go6 ?_;refine J9 _ _ pp_ s0 (aZ (bW h63 (bW h64 (bW h65 (lX h66)))))
     refine go6 ?_;refine J9 _ _ pp_ s0 (aZ (bW h63 (bW h64 (bW h65 (kE h66 rfl)))))
    refine go8 ?_;refine J9 _ _ pp_ s0 (aZ (bW h63 (bW h64 (hJ h65))))
   refine FU ?_;refine J9 _ _ pp_ s0 (aZ (bW h63 (hJ h64)))
  refine eP_ ?_;refine J9 _ _ pp_ s0 (aZ (hJ h63))
 intro g67;refine go_ ?_;refine bG rfl (.inr rfl) rfl ?_;exact (by subst hr34;exact congrArg vS0 (show _=(cT p q a b) from aM h14 (aM h38 (aM h42 (aM h46 rfl)))))
end Go.Proofs.YtokjfhfiodopdaaGreat
namespace Go.Num
open Go Go.Kn
open QP (V Rb Two NN sg Sf)
theorem fX_ {p:List I} {a b:Rt} {A B:Rat} (hp:aT p=false) (ha:a.At A) (hb:b.At B) (hAB:A≤B):(aD p a b).2.1=0∨(aD p a b).2.1=30:=by
  rw [JS,hp,ER ha hb,decide_eq_true hAB];simp only [Bool.not_true,Bool.or_self,cond_false]
  cases ((((p).length:Nat):Int)==0)
  · cases (!((aG p a).2) || !((aG p b).2))
    · cases (decide (((aG p a).1).1<0)||decide (((aG p b).1).1<0))
      · cases (decide (a.n=b.n)&&decide (a.d=b.d))
        · cases ((bJ p a b).2&&(bJ p a b).1.all nnI)
          · generalize nnR p a b=R
            cases (aI p).2
            · exact .inr rfl
            · cases R.2
              · exact .inr rfl
              exact .inl rfl
          exact .inl rfl
        exact .inl rfl
      exact .inl rfl
    exact .inr rfl
  exact .inl rfl
theorem Q2 {p q r:List I} {c d:Nat→Int} (hp:Po p c) (hq:Po q d) (hr:Po r (conv c d)):qp r=qp p*qp q:=by
  rw [qK hr hr.ends,qK hp hp.ends,qK hq hq.ends,← qN hp.ends hq.ends]
theorem Y8 {p q r:List I} {c d:Nat→Int} (hp:Po p c) (hq:Po q d) (hr:Po r (fun k=>c k+d k)):qp r=qp p+qp q:=by
  rw [qK hr hr.ends,qK hp hp.ends,qK hq hq.ends]
  exact QP.ex fun k=>by rw [QP.add_c,lQ,lQ,lQ,Rat.intCast_add]
theorem ZN (x:Rat):0≤x*x:=by
  rcases Rat.le_total (a:=0) (b:=x) with k|k
  · exact Rat.mul_nonneg k k
  have:=Rat.mul_nonneg (show 0 ≤ -x by grind) (show 0 ≤ -x by grind);grind
theorem RM (p q:List I) (a b:Rt):cT p q a b=true:=by
  unfold cT
  cases hc:(!(bU p 2 20)||(!(bU q 2 20)||((aX p)||((aX q)||(!(cK p a b (wl 0))||decide (0<(eC a b).1))))))
  case true=>rw [cond_true];exact uW
  rw [cond_false];simp only [Bool.or_eq_false_iff,Bool.not_eq_false',decide_eq_false_iff_not] at hc;obtain ⟨c1,c2,c3,c4,c5,c6⟩:=hc;obtain ⟨_,⟨A,hA,sA⟩,⟨B,hB,sB⟩,_⟩:=E8 c5
  have hAB:A≤B:=by
    rw [← JP,PP hA hB] at c6;exact Rat.not_lt.1 c6
  obtain ⟨c,hp,bp⟩:=PQ c1 c3;obtain ⟨d,hq,bq⟩:=PQ c2 c4;have bp:Bd c 3 20:=bp;have bq:Bd d 3 20:=bq;have pp:=PS hp hp bp bp (e:=2) dd_ dd_ dd_;have qq:=PS hq hq bq bq (e:=2) dd_ dd_ dd_;have pq:=PS hp hq bp bq (e:=2) dd_ dd_ dd_;have bpp:=bp.conv bp (e:=2) dd_;have bqq:=bq.conv bq (e:=2) dd_;have bpq:=bp.conv bq (e:=2) dd_;have P:=VQ pp qq bpp bqq dd_;have S:=VQ hp hq bp bq dd_;have bP:=bpp.add bqq;have bS:=bp.add bq;rw [← JT hp.l3 hp.l3,← JT hq.l3 hq.l3,← JT hp.l3 hq.l3,← RK pp.l3 qq.l3,← RK hp.l3 hq.l3];have eP:=Y8 pp qq P;rw [Q2 hp hp pp,Q2 hq hq qq] at eP;have eS:=Y8 hp hq S;have eM:=Q2 hp hq pq
  have nP:NN (qp (gK (dO p p) (dO q q))) A B:=fun x _ _=>by
    rw [eP,QP.ev_add,QP.ev_mul,QP.ev_mul];have:=ZN ((qp p).ev x);have:=ZN ((qp q).ev x);grind
  have lP:(gK (dO p p) (dO q q)).length≤7:=Nat.le_trans (P.len bP) dd_;have lM:(dO p q).length≤7:=Nat.le_trans (pq.len bpq) dd_;have lS:(gK p q).length≤7:=Nat.le_trans (S.len bS) dd_;have lp:p.length≤7:=Nat.le_trans (hp.len bp) dd_;have lq:q.length≤7:=Nat.le_trans (hq.len bq) dd_
  dsimp only
  have h1:(!(aD (gK (dO p p) (dO q q)) a b).1&&((aD (gK (dO p p) (dO q q)) a b).2.1==0))=false:=by
    by_cases he:(aD (gK (dO p p) (dO q q)) a b).2.1=0
    · have:=(o5 P.rgt lP hA hB he).2.2.2 nP
      rw [this];rfl
    rw [show ((aD (gK (dO p p) (dO q q)) a b).2.1==0)=false by simpa using he,Bool.and_false]
  rw [h1,cond_false];have ep:=uA hp (bp.mono dd_ dd_) sA sB hAB hA hB;have eq:=uA hq (bq.mono dd_ dd_) sA sB hAB hA hB;have es:=uA S (bS.mono dd_ dd_) sA sB hAB hA hB;rw [ep,eq,es];simp only [bne_self_eq_false,Bool.or_self,cond_false,beq_self_eq_true,Bool.true_and];have sp:=(o5 hp.rgt lp hA hB ep).2.2;have sq:=(o5 hq.rgt lq hA hB eq).2.2
  cases rp:(aD p a b).1
  · simp [uW]
  cases rq:(aD q a b).1
  · simp [uW]
  have np:=sp.1 rp;have nq:=sq.1 rq
  have rs:(aD (gK p q) a b).1=true:=(o5 S.rgt lS hA hB es).2.2.2 fun x x1 x2=>by
    rw [eS,QP.ev_add];have:=np x x1 x2;have:=nq x x1 x2;grind
  have rm:((aD (dO p q) a b).1||((aD (dO p q) a b).2.1==30))=true:=by
    rcases fX_ pq.nb hA hB hAB with e|e
    · rw [(o5 pq.rgt lM hA hB e).2.2.2 fun x x1 x2=>by
        rw [eM,QP.ev_mul];exact Rat.mul_nonneg (np x x1 x2) (nq x x1 x2)];rfl
    rw [e];simp
  rw [rs,rm,uW];rfl
end Go.Num
