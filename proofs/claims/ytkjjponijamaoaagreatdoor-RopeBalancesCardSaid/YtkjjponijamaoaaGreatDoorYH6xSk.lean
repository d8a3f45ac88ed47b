/- Lemmas: what they ask stands in their statements. -/
import Derived.Test.YtkjjponijamaoaaGreatDoorYH6xGD
import Derived.Test.YtkjjponijamaoaaGreatDoorYPV
set_option linter.unusedSimpArgs false
set_option linter.unusedVariables false
set_option maxHeartbeats 8000000
set_option maxRecDepth 20000
namespace Go.Proofs.YtkjjponijamaoaaGreatDoor
open Go.Kn Go.Num
theorem MQ (va:Value) (n k:Nat) (hk:k≤1000000) (w:World) (hva:Sl w va (dl n)) :
    Calls Tryz.prog 217 [va,.int .i64 (k:Int)].toArray w (fun e w'=>e = .returned (.int .i64 ((n / 2 ^ k % 2:Nat):Int))∧Ext w w'):=by
 refine d6 (N:=13) Tryz.func217 rfl rfl (by simp) ?_;obtain ⟨w0,rfl⟩:∃ w0,w0=w:=⟨_,rfl⟩;simp only [cS,Nat.reduceAdd];refine Sq fun K1 J1=>Rk fun K J=>sE rfl (nl J (J1 _ _ (Sq fun K2 J2=>Rk fun K J=>sE rfl (sE rfl (sQ (aZ (rA rfl rfl dd_) (congrArg (Value.int .i64) (shq 16 dd_ oo_))) rfl (sQ (aZ (dA KJ rfl (fun w hw=>nD va (dl n) (k / 16) w (SL.sl (M:=_) hva.old hw))) (congrArg (fun z:Nat=>Value.int .i64 (z:Int)) (OC n (k / 16)))) rfl (sE rfl (sQ (aZ (w6 rfl rfl dd_) (congrArg (Value.int .i64) (shr 16 k))) rfl (sQ (E3 rfl rfl (Int.natCast_nonneg _)) rfl (sQ (aZ (w6 rfl rfl dd_) (congrArg (Value.int .i64) (lB_ n k))) rfl (sE rfl (nl J (J2 _ _ (aL (cC rfl (.inr rfl) rfl ?_)))))))))))))));exact rfl

theorem DM (a:R) (ha:a.Ok) :
    Ret Tryz.prog 141 [RV a] (.int .i64 ((a.dec.bits:Nat):Int)):=by
 refine cM (N:=25) Tryz.func141 rfl rfl (by simp) (fun w0=>?_);simp only [cS,Nat.reduceAdd];refine Sq fun K1 J1=>Rk fun K J=>bA rfl (qR rfl rfl (fun b1 hb1=>sE rfl (nl J (J1 _ _ (Sq fun K2 J2=>Sq fun K3 J3=>Rk fun K J=>sQ (eG aD rfl mm_ (eO ha)) rfl ?_)))));refine sQ (bZ vE (d9 a ha) rfl) rfl (sE rfl (nl J (J3 _ _ ?_)));refine fN _ rfl (fun hg=>?_) (fun hg=>?_)
 ·replace hg:=cB_ hg
  refine Sq fun K4 J4=>Rk fun K J=>sE rfl (nl J (J4 _ _ (aL (aB (cC rfl (.inr rfl) rfl ?_)))));exact congrArg (fun z:Nat=>Value.int .i64 (z:Int)) (h6_ (by simpa using hg)).symm
 replace hg:=cB_ hg
 refine aG (J2 _ _ (Sq fun K5 J5=>Rk fun K J=>sQ (eG aD rfl mm_ (eO ha)) rfl ?_));refine bA rfl (j9 wN rfl (fun w hw=>eC a ha w) (fun v L hv=>sE rfl (nl J (J5 _ _ (Sq fun K6 J6=>?_)))));have hl32:(dl (val a.w)).length≤32:=mY (by rw [← SA];have:=GM a.w ha.lim;rwa [ha.len] at this);refine Rk fun K J=>sE rfl (sQ (vV mT rfl (SL.sub hv.sl lZ)) rfl (sQ (aZ (fS_ rfl rfl) (congrArg (Value.int .i64) (rD_ (Nat.le_trans hl32 dd_)))) rfl (sE rfl (nl J (J6 _ _ (Sq fun K7 J7=>aJ ?_))))));refine eA [4,13,14,15,16,17,18,19,20,21,22,23] (fun g nn M=>∃ (k:Nat),(g 4 = .int .i64 (k:Int))∧M=L ++ [⟨b1,31,a.cells⟩]∧nn=k+0∧(k≤16 * (dl (val a.w)).length∧val a.w<2 ^ k)) (16 * (dl (val a.w)).length) ?start ?round
 case start =>
  refine ⟨_,(List.Sublist.refl _),16 * (dl (val a.w)).length,?a4,?mem0,rfl,⟨Nat.le_refl _,dD_ _⟩⟩
  case mem0=>rfl
  case a4=>rfl
 case round =>
  rintro nn g M ⟨k,hg4,rfl,hmeas,⟨hk,hlt⟩⟩;subst nn;simp only [dQ,hg4];clear hg4;refine Sq fun K8 J8=>Sq fun K9 J9=>Rk fun K J=>sE rfl (sE rfl (sE rfl ?_))
  cases hz:decide ((0:Int)<(k:Int))
  ·refine aI rfl (aI rfl (aI rfl (aI rfl (aI rfl (sE rfl (nl J (J9 _ _ (gJ rfl (dW (aU (aU (bJ (J7 _ _ (Sq fun K10 J10=>Rk fun K J=>sE rfl (sE rfl (nl J (J10 _ _ (aL (cC rfl (.inr rfl) rfl ?_)))))))))))))))))));exact congrArg (fun z:Nat=>Value.int .i64 (z:Int)) (lC_ ha (by simpa using hg) hlt (by have:=of_decide_eq_false hz;omega)).symm
  have hz':=of_decide_eq_true hz;obtain ⟨m,rfl⟩:∃ m,k=m+1:=⟨k - 1,by omega⟩;refine sE rfl (sE rfl (sQ (aZ (x9 rfl rfl) (congrArg (Value.int .i64) (I3 oo_))) rfl (sQ (dA o6_ rfl (fun w hw=>MQ v (val a.w) m oo_ w (SL.sl (SL.sub hv.sl lZ) hw))) rfl (sE rfl (sE rfl (nl J (J9 _ _ ?_)))))));refine fN _ rfl (fun h0=>?_) (fun h0=>?_)
  ·replace h0:=cB_ h0
   refine aG (J8 _ _ (aJ (Rk fun K J=>sE rfl (sQ (aZ (x9 rfl rfl) (congrArg (Value.int .i64) (I3 oo_))) rfl (sE rfl (nl J ?_))))));refine ⟨pp_,_,_,(List.Sublist.refl _),oo_,m,?s4,?mem,rfl,⟨by omega,gz_ hlt oo_⟩⟩
   case mem=>rfl
   case s4=>rfl
  replace h0:=cB_ h0
  refine dW (aU (aU (bJ (J7 _ _ (Sq fun K11 J11=>Rk fun K J=>sE rfl (sE rfl (nl J (J11 _ _ (aL (cC rfl (.inr rfl) rfl ?_))))))))));exact congrArg (fun z:Nat=>Value.int .i64 (z:Int)) ((IE ha (by simpa using hg)).trans (lD_ hlt oo_)).symm
theorem rH (x:Rt) (b:W) :
    Ret Tryz.prog 62 [AV [pI x.n,pI x.d],.int .i64 b.1] (.bool (fH x b)):=by
 refine cM (N:=21) Tryz.func62 rfl rfl (by simp) (fun w0=>?_);simp only [cS,Nat.reduceAdd];refine Rs fun K J=>bA rfl (cH rfl rfl (fun b1 hb1=>sE rfl (nl J ?_)));refine dH [4,5,6,7,8,9,10,11,12,13,14,15,16,17,18,19,20] (fun g M=>(g 4 = .bool ((aH x)&&(decide ((Z.bitsW x.n.dec).1≤b.1)&&decide ((Z.bitsW x.d.dec).1≤b.1))))∧M=[⟨b1,33,aW [pI x.n,pI x.d]⟩]) (fun K1 J1=>?_) ?_
 ·refine Rk fun K J=>sQ (qL bD rfl m0 rfl) rfl (sQ (bZ wB (dO x) rfl) rfl ?_);rcases bt (aH x) with h4 | h4
  ·refine sB h4 rfl (sQ (qF jZ rfl rfl) rfl (sQ (qL aD rfl m0 rfl) rfl (sC (.int .i64 ((Z.bitsW x.n.dec).1)) iA_ (DM x.n.1 x.n.2) rfl rfl rfl (sE rfl (sE rfl (sE rfl ?_))))));rcases bt (decide ((Z.bitsW x.n.dec).1≤b.1)) with h5 | h5
   ·have ph5:=of_decide_eq_true h5;refine sB h5 rfl (sQ (qF fV rfl rfl) rfl (sQ (qL aD rfl m0 rfl) rfl (sC (.int .i64 ((Z.bitsW x.d.dec).1)) iA_ (DM x.d.1 x.d.2) rfl rfl rfl (sE rfl (sE rfl (sE rfl (sE rfl (nl J ?_))))))));refine J1 _ _ pp_ ⟨_,s0,?s4,rfl⟩
    case s4=>exact congrArg Value.bool (eB h4 (eB h5 rfl))
   have ph5:=of_decide_eq_false h5;refine sB h5 rfl (aI rfl (aI rfl (aI rfl (aI rfl (aI rfl (sE rfl (sE rfl (nl J ?_))))))));refine J1 _ _ pp_ ⟨_,s0,?s4,rfl⟩
   case s4=>exact congrArg Value.bool (eB h4 (kU h5))
  refine sB h4 rfl (aI rfl (aI rfl (aI rfl (aI rfl (aI rfl (sE rfl (sE rfl (aI rfl (aI rfl (aI rfl (aI rfl (aI rfl (sE rfl (sE rfl (nl J ?_)))))))))))))));refine J1 _ _ pp_ ⟨_,s0,?s4,rfl⟩
  case s4=>exact congrArg Value.bool (kU h4)
 rintro g6 M ⟨hg4,rfl⟩;simp only [dQ,hg4];clear hg4;refine aL (cC rfl (.inr rfl) rfl ?_);exact (by rfl)

theorem tA (v:(A3 Rt)) (b:W) :
    Ret Tryz.prog 41 [AV [pI v.x.n,pI v.x.d,pI v.y.n,pI v.y.d,pI v.z.n,pI v.z.d],.int .i64 b.1] (.bool (dY v b)):=by
 refine cM (N:=16) Tryz.func41 rfl rfl (by simp) (fun w0=>?_);simp only [cS,Nat.reduceAdd];refine Rs fun K J=>bA rfl (cH rfl rfl (fun b1 hb1=>sE rfl (nl J (Sq fun K1 J1=>Rs fun K J=>sE rfl (nl J (aJ (v7 5 (fE (fun K2 J2=>Sq fun K3 J3=>Rs fun K J=>sE rfl (sV (.bool true) rfl rfl (nl J (dE rfl (aG (J3 _ _ (Sq fun K4 J4=>?_)))))))))))))));refine aJ (Rs fun K J=>sE rfl (sQ (qA fC rfl rfl rfl) rfl (sQ (qL bD rfl m0 rfl) rfl (sE rfl (sQ (bZ YS (rH v.x b) rfl) rfl (sE rfl (nl J ?_)))))));rcases bt (fH v.x b) with h2 | h2
 ·refine W_f (iS h2) rfl (aG (J4 _ _ (Rk fun K J=>sE rfl (sV (.int .i64 1) rfl rfl (sE rfl (nl J (J2 _ _ (fE (fun K5 J5=>Sq fun K6 J6=>Rs fun K J=>sE rfl (sV (.bool true) rfl rfl (nl J (dE rfl (aG (J6 _ _ (Sq fun K7 J7=>aJ ?_)))))))))))))));refine Rs fun K J=>sE rfl (sQ (qA fC rfl rfl rfl) rfl (sQ (qL bD rfl m0 rfl) rfl (sE rfl (sQ (bZ YS (rH v.y b) rfl) rfl (sE rfl (nl J ?_))))));rcases bt (fH v.y b) with h3 | h3
  ·refine W_f (iS h3) rfl (aG (J7 _ _ (Rk fun K J=>sE rfl (sV (.int .i64 2) rfl rfl (sE rfl (nl J (J5 _ _ (fE (fun K8 J8=>Sq fun K9 J9=>Rs fun K J=>sE rfl (sV (.bool true) rfl rfl (nl J (dE rfl (aG (J9 _ _ (Sq fun K10 J10=>aJ ?_)))))))))))))));refine Rs fun K J=>sE rfl (sQ (qA fC rfl rfl rfl) rfl (sQ (qL bD rfl m0 rfl) rfl (sE rfl (sQ (bZ YS (rH v.z b) rfl) rfl (sE rfl (nl J ?_))))));rcases bt (fH v.z b) with h4 | h4
   ·refine W_f (iS h4) rfl (aG (J10 _ _ (Rk fun K J=>sE rfl (sV (.int .i64 3) rfl rfl (sE rfl (nl J (J8 _ _ (fE (fun K11 J11=>Sq fun K12 J12=>Rs fun K J=>sE rfl (sV (.bool false) rfl rfl (nl J (gJ rfl (dW (aU (aU (bJ (J1 _ _ (Rs fun K J=>sE rfl ?_))))))))))))))))));refine nl J (aL (cC rfl (.inr rfl) rfl ?_));exact (by exact congrArg vS2 (show _=(dY v b) from bI h2 (bI h3 (bI h4 rfl))))
   refine W_t (iT h4) rfl (Rs fun K J=>sE rfl (nl J (aL (aT (aB (aB (aT (aB (cC rfl (.inr rfl) rfl ?_)))))))));exact (by exact congrArg vS2 (show _=(dY v b) from bI h2 (bI h3 (aM h4 rfl))))
  refine W_t (iT h3) rfl (Rs fun K J=>sE rfl (nl J (aL (aT (aB (aB (aT (aB (cC rfl (.inr rfl) rfl ?_)))))))));exact (by exact congrArg vS2 (show _=(dY v b) from bI h2 (aM h3 rfl)))
 refine W_t (iT h2) rfl (Rs fun K J=>sE rfl (nl J (aL (aT (aB (aB (aT (aB (cC rfl (.inr rfl) rfl ?_)))))))));exact (by exact congrArg vS2 (show _=(dY v b) from aM h2 rfl))

end Go.Proofs.YtkjjponijamaoaaGreatDoor


namespace Go.Num
open Go Go.Kn
theorem eW_ (a b:A3 Rt):rU a b=lG a b:=by unfold rU lG;rw [PG,PG,PG]
theorem QD (a b:A3 Rt):lQ a b=jD a b:=by unfold lQ jD;rw [JZ,JZ,JZ]
theorem bJ_ (a:Rt) (b:A3 Rt):qU a b=jE a b:=by unfold qU jE;rw [PJ,PJ,PJ]
theorem UW (a b:A3 Rt):oD a b=nE a b:=by
  unfold oD nE;simp only [PJ,PG,IA];rw [gp_ (mY_ _ _)]
theorem bD_ (a b:A3 Rt):dC a b=j8 a b:=by
  unfold dC j8 k6;simp only [PJ,JZ]
theorem dy_ (a:A3 W):qG a=fM a:=rfl
theorem DD {u v:Int} (hu:gR u) (hv:gR v) (h:0<v):Z.quo (Z.of u) (Z.of v)=Z.of (u / v):=by
  rw [HV hu hv oo_,QT h]
theorem QB {a:Rt} {n d:Int} (h:a.Is n d):aH a=true:=qK_.2 ⟨n,d,h⟩
theorem n9_ {a:Rt} {n d:Int} (h:a.Is n d):Rt.Is (lA a) (-n) d:=by
  have e:lA a=⟨E (Z.of (-n)),E (Z.of d)⟩:=by
    unfold lA;rw [QB h,h.en,h.ed,eD,eo_ h.hn];rfl
  rw [e];refine ⟨rfl,rfl,?_,h.hd,h.pos,by rw [Int.neg_gcd];exact h.cop⟩;have:=h.hn;unfold gR at *;rw [Int.natAbs_neg];exact this
theorem qL_ {a:Rt} (h:aH a=true):∃ n d,Rt.Is a n d:=qK_.1 h
theorem m2_ {a:Rt} {n d:Int} (h:a.Is n d):∃ q:Rat,a.At q∧q.num=n∧(q.den:Int)=d:=by
  have hd:(d.toNat:Int)=d:=Int.toNat_of_nonneg (Int.le_of_lt h.pos)
  have hc:n.natAbs.Coprime d.toNat:=by
    have:=h.cop;unfold Int.gcd at this;rw [show d.natAbs=d.toNat by omega] at this;exact this
  refine ⟨⟨n,d.toNat,by have:=h.pos;omega,hc⟩,?_,rfl,hd⟩
  show a.Is n (d.toNat:Int)
  rw [hd];exact h
theorem fv_ {a:Rt} (h:aH a=true):∃ q,a.At q:=by
  obtain ⟨n,d,h1⟩:=qL_ h;obtain ⟨q,h2,_⟩:=m2_ h1;exact ⟨q,h2⟩
theorem nR {a:Rt} {q:Rat} (h:a.At q):aH a=true:=QB h
theorem PH {a b:Rt} {q:Rat} (ha:a.At q) (hb:b.At q):a=b:=Rt.ext (ha.en.trans hb.en.symm) (ha.ed.trans hb.ed.symm)
theorem UU {a:Rt} {p q:Rat} (ha:a.At p) (hb:a.At q):p=q:=by
  have h1:=WK ha.hn hb.hn (bz_ (ha.en.symm.trans hb.en));have h2:=WK ha.hd hb.hd (bz_ (ha.ed.symm.trans hb.ed));exact Rat.ext h1 oo_
theorem Sz.bn {q:Rat} {k:Nat} (h:Sz q k) (hk:k≤512):gR q.num:=vF h.n hk
theorem qI_ {a:Rt} {n d:Int} {q:Rat} (h:a.Is n d) (he:q.num * d=n * q.den):a.At q:=by
  obtain ⟨p,hp,h1,h2⟩:=m2_ h;have:p=q:=Rat.eq_iff_mul_eq_mul.2 (by rw [h1,h2];exact he.symm);rw [← this];exact hp
theorem CP {n d:Int} {q:Rat} (hn:gR n) (hd:gR d) (hp:0<d) (he:q.num * d=n * q.den):(cJ (E (Z.of n)) (E (Z.of d))).At q:=by
  refine qI_ (NJ hn hd hp) ?_;have g1:((Int.gcd n d:Nat):Int) ∣ n:=Int.gcd_dvd_left ..;have g2:((Int.gcd n d:Nat):Int) ∣ d:=Int.gcd_dvd_right ..
  have p1:0<((Int.gcd n d:Nat):Int):=by have:=Int.gcd_pos_of_ne_zero_right n (show d≠0 by omega);omega
  obtain ⟨x,hx⟩:=g1;obtain ⟨y,hy⟩:=g2;generalize ((Int.gcd n d:Nat):Int)=G at *
  have q1:n / G=x:=by rw [hx];exact Int.mul_ediv_cancel_left _ oo_
  have q2:d / G=y:=by rw [hy];exact Int.mul_ediv_cancel_left _ oo_
  rw [q1,q2];rw [hx,hy] at he;exact Int.eq_of_mul_eq_mul_left (show G≠0 by omega) (by grind)
theorem O0 (c:W):(aE c).At (c.1:Rat):=by
  unfold aE;rw [j3_];have:=c.2;unfold I64 at this;exact CP (vF (k:=64) oo_ dd_) B1 dd_ (by simp)
theorem du_ {a:Rt} {p:Rat} (h:a.At p):(lA a).At (-p):=n9_ h
theorem uA {q:Rat}:(0:Int)<q.den:=by have:=q.den_nz;omega
theorem hF_ {a b:Rt} {p q:Rat} (ha:a.At p) (hb:b.At q) (hn:gR (p * q).num) (hd:gR ((p * q).den:Int)):(cG a b).At (p * q):=by
  unfold cG;rw [nR ha,nR hb];obtain ⟨x,y,r,s,e1,e2,b1,b2,b3,b4,h1,h2,hc,he⟩:=UX ha hb;simp only [Bool.not_true,Bool.or_false,cond_false,e1,e2,eD];rw [qV b1 b3,qV b2 b4];have hps:0<y * s:=Int.mul_pos h1 h2
  have hpq:p * q=Rat.divInt (x * r) (y * s):=by
    rw [← Rat.num_divInt_den p,← Rat.num_divInt_den q,Rat.divInt_mul_divInt];exact (Rat.divInt_eq_divInt_iff (by have:=@uA p;have:=@uA q;exact Int.mul_ne_zero oo_ oo_) oo_).2 (by rw [he])
  have hnum:(p * q).num=x * r:=by
    rw [hpq,Rat.num_divInt,Int.gcd_comm,hc,Int.sign_eq_one_of_pos hps];simp
  have hden:((p * q).den:Int)=y * s:=by
    rw [hpq,Rat.den_divInt,if_neg oo_,Int.gcd_comm,hc,Nat.div_one];omega
  rw [hnum] at hn;rw [hden] at hd;exact CP hn hd hps (by rw [hnum,hden])
theorem GD (a b c:I):kP [a,b,c]=eY a b c:=by
  show E (Z.mul (E (Z.mul a.dec b.dec)).dec c.dec)=_
  rw [eD];rfl
theorem U0 (a b:A3 Rt):dZ a b=bM a b:=by unfold dZ bM;rw [bD_]
theorem JQ (p:Pull):cL p=((gC p).v,(gC p).e):=by
  unfold cL gC;simp only [QD,GD,g4_,WW];rfl
theorem U6 {c:Bool} {t:A6 Rt×A6 Rt×W} {T:Cols} {x y:A6 Rt} {z:W} (h:t=(T.a,T.b,T.e)):(bif c then (x,y,z) else t)=((bif c then (⟨x,y,z⟩:Cols) else T).a,(bif c then (⟨x,y,z⟩:Cols) else T).b,(bif c then (⟨x,y,z⟩:Cols) else T).e):=by
  cases c
  · exact h
  rfl
theorem YE (p:Pull):dI p=((cU p).a,(cU p).b,(cU p).e):=by
  unfold dI cU;simp only [JQ,U0,dy_,bJ_,IA,pA];exact U6 (U6 (U6 (U6 (U6 (U6 (U6 rfl))))))
structure Az (q:Rat) (a b:Nat):Prop where
  n:q.num.natAbs<2 ^ a
  d:q.den<2 ^ b
theorem Sz.az {q:Rat} {k:Nat} (h:Sz q k):Az q k k:=⟨h.n,h.d⟩
theorem Az.sz {q:Rat} {a b k:Nat} (h:Az q a b) (h1:a≤k) (h2:b≤k):Sz q k:=⟨Nat.lt_of_lt_of_le h.n (EE h1),Nat.lt_of_lt_of_le h.d (EE h2)⟩
section
variable {p q:Rat} {a b a' b':Nat}
theorem Az.mono (h:Az q a b) (h1:a≤a') (h2:b≤b'):Az q a' b':=⟨Nat.lt_of_lt_of_le h.n (EE h1),Nat.lt_of_lt_of_le h.d (EE h2)⟩
theorem Az.bn (h:Az q a b) (hk:a≤512):gR q.num:=vF h.n hk
theorem Az.bd (h:Az q a b) (hk:b≤512):gR (q.den:Int):=vF (by simpa using h.d) hk
theorem Az.mul (h:Az p a b) (g:Az q a' b'):Az (p * q) (a+a') (b+b'):=by
  constructor
  · rw [Rat.num_mul]
    refine Nat.lt_of_le_of_lt (Int.natAbs_ediv_le_natAbs _ _) ?_;rw [Int.natAbs_mul];exact xX h.n g.n
  rw [Rat.den_mul];exact Nat.lt_of_le_of_lt (Nat.div_le_self _ _) (xX h.d g.d)
theorem Az.neg (h:Az p a b):Az (-p) a b:=⟨by rw [Rat.neg_num,Int.natAbs_neg];exact h.n,h.d⟩
theorem bN_ {n m:Int} {d e c:Nat} (h1:n.natAbs<2 ^ a) (h2:e<2 ^ b') (h3:m.natAbs<2 ^ a') (h4:d<2 ^ b) (k1:a+b'<c) (k2:a'+b<c):(n * e+m * d).natAbs<2 ^ c:=by
  obtain ⟨c,rfl⟩:∃ k,c=k+1:=⟨c - 1,by omega⟩;have x:=Nat.lt_of_lt_of_le (xX h1 h2) (EE (show a+b'≤c by omega));have y:=Nat.lt_of_lt_of_le (xX h3 h4) (EE (show a'+b≤c by omega));have z:=Int.natAbs_add_le (n * e) (m * d);rw [Int.natAbs_mul,Int.natAbs_mul,Int.natAbs_natCast,Int.natAbs_natCast] at z;rw [Nat.pow_succ];omega
theorem Az.add {c:Nat} (h:Az p a b) (g:Az q a' b') (k1:a+b'<c) (k2:a'+b<c):Az (p+q) c (b+b'):=by
  constructor
  · rw [Rat.num_add]
    exact Nat.lt_of_le_of_lt (Int.natAbs_ediv_le_natAbs _ _) (bN_ h.n g.d g.n h.d k1 k2)
  rw [Rat.den_add];exact Nat.lt_of_le_of_lt (Nat.div_le_self _ _) (xX h.d g.d)
theorem Az.sub {c:Nat} (h:Az p a b) (g:Az q a' b') (k1:a+b'<c) (k2:a'+b<c):Az (p - q) c (b+b'):=by rw [Rat.sub_eq_add_neg];exact h.add g.neg k1 k2
theorem Az.int {n:Int} (h:n.natAbs<2 ^ a):Az (n:Rat) a 1:=⟨h,(by show 1<2 ^ 1;decide)⟩
theorem E7 {x y:Rt} (hx:x.At p) (hy:y.At q) (hp:Az p a b) (hq:Az q a' b') (h:a+a'≤512) (h':b+b'≤512):(cG x y).At (p * q) :=
  hF_ hx hy ((hp.mul hq).bn h) ((hp.mul hq).bd h')
theorem CN {x' y':Rt} (ha:x'.At p) (hb:y'.At q) (hp:Az p a b) (hq:Az q a' b') (h1:a+b'<512) (h2:a'+b<512) (h3:b+b'≤512):(cT x' y').At (p+q):=by
  unfold cT;rw [nR ha,nR hb];simp only [Bool.not_true,Bool.or_false,cond_false];have ia:=At.is ha;have ib:=At.is hb;rw [ia.en,ia.ed,ib.en,ib.ed];simp only [eD];have hdp:=@uA p;have hdq:=@uA q
  have hg:0<((Int.gcd (p.den:Int) (q.den:Int):Nat):Int):=by
    have:=Int.gcd_pos_of_ne_zero_right (p.den:Int) (show (q.den:Int)≠0 by omega);omega
  have hbg:=VZ (u:=(p.den:Int)) ib.hd oo_;have g1:((Int.gcd (p.den:Int) (q.den:Int):Nat):Int) ∣ (p.den:Int):=Int.gcd_dvd_left ..;have g2:((Int.gcd (p.den:Int) (q.den:Int):Nat):Int) ∣ (q.den:Int):=Int.gcd_dvd_right ..;rw [EA ia.hd ib.hd,DD ib.hd hbg hg,DD ia.hd hbg hg];generalize ((Int.gcd (p.den:Int) (q.den:Int):Nat):Int)=G at *;obtain ⟨x,hx⟩:=g1;obtain ⟨y,hy⟩:=g2
  have q1:(p.den:Int) / G=x:=by rw [hx];exact Int.mul_ediv_cancel_left _ oo_
  have q2:(q.den:Int) / G=y:=by rw [hy];exact Int.mul_ediv_cancel_left _ oo_
  rw [q1,q2]
  have x0:0<x:=by rw [hx] at hdp;exact Int.pos_of_mul_pos_right hdp hg
  have y0:0<y:=by rw [hy] at hdq;exact Int.pos_of_mul_pos_right hdq hg
  have xl:x≤p.den:=by rw [hx];have:=Int.mul_le_mul_of_nonneg_right (show (1:Int)≤G by omega) (Int.le_of_lt x0);omega
  have yl:y≤q.den:=by rw [hy];have:=Int.mul_le_mul_of_nonneg_right (show (1:Int)≤G by omega) (Int.le_of_lt y0);omega
  have x1:x.toNat<2 ^ b:=Nat.lt_of_le_of_lt oo_ hp.d;have y1:y.toNat<2 ^ b':=Nat.lt_of_le_of_lt oo_ hq.d
  have xe:x=(x.toNat:Int):=by omega
  have ye:y=(y.toNat:Int):=by omega
  have bx:gR x:=vF (k:=b) (by rw [xe,Int.natAbs_natCast];exact x1) oo_
  have by':gR y:=vF (k:=b') (by rw [ye,Int.natAbs_natCast];exact y1) oo_
  rw [qV ia.hn by',qV ib.hn bx,qV bx ib.hd]
  have t1:(p.num * y).natAbs<2 ^ (a+b'):=by rw [Int.natAbs_mul];exact xX hp.n oo_
  have t2:(q.num * x).natAbs<2 ^ (a'+b):=by rw [Int.natAbs_mul];exact xX hq.n oo_
  have t3:(x * (q.den:Int)).natAbs<2 ^ (b+b'):=by rw [Int.natAbs_mul];exact xX oo_ (by simpa using hq.d)
  rw [E8 (vF t1 oo_) (vF t2 oo_)]
  have t4:(p.num * y+q.num * x).natAbs<2 ^ (max (a+b') (a'+b)+1):=by
    have u1:=Nat.lt_of_lt_of_le t1 (EE (show a+b'≤max (a+b') (a'+b) by omega));have u2:=Nat.lt_of_lt_of_le t2 (EE (show a'+b≤max (a+b') (a'+b) by omega));rw [Nat.pow_succ];omega
  refine CP (vF t4 oo_) (vF t3 h3) (Int.mul_pos x0 hdq) ?_
  have key:p+q=Rat.divInt (p.num * y+q.num * x) (x * q.den):=by
    conv=>lhs;rw [← Rat.num_divInt_den p,← Rat.num_divInt_den q,Rat.divInt_add_divInt _ _ oo_ oo_]
    refine (Rat.divInt_eq_divInt_iff (Int.mul_ne_zero oo_ oo_) (Int.mul_ne_zero oo_ oo_)).2 ?_;rw [hx,hy];grind
  have h3:=Rat.num_divInt_den (p+q);rw [key] at h3 ⊢;have h4:=(Rat.divInt_eq_divInt_iff (by have:=@uA (Rat.divInt (p.num * y+q.num * x) (x * q.den));omega) (Int.mul_ne_zero oo_ oo_)).1 h3;exact h4
theorem Z6 {x y:Rt} (ha:x.At p) (hb:y.At q) (hp:Az p a b) (hq:Az q a' b') (h1:a+b'<512) (h2:a'+b<512) (h3:b+b'≤512):(cO x y).At (p - q):=by
  unfold cO;rw [Rat.sub_eq_add_neg];exact CN ha (du_ hb) hp hq.neg h1 h2 h3
end
end Go.Num


namespace Go.Num
class Rg (α:Type) [Add α] [Mul α] [OfNat α 0]:Prop where
  aa:∀ a b c:α,a+b+c=a+(b+c)
  ac:∀ a b:α,a+b=b+a
  a0:∀ a:α,a+0=a
  ma:∀ a b c:α,a * b * c=a * (b * c)
  mc:∀ a b:α,a * b=b * a
  md:∀ a b c:α,a * (b+c)=a * b+a * c
  m0:∀ a:α,a * 0=0
instance:Rg Int:=⟨Int.add_assoc,Int.add_comm,Int.add_zero,Int.mul_assoc,Int.mul_comm,Int.mul_add,Int.mul_zero⟩
instance:Rg Rat:=⟨Rat.add_assoc,Rat.add_comm,Rat.add_zero,Rat.mul_assoc,Rat.mul_comm,Rat.mul_add,Rat.mul_zero⟩
theorem Rg.zm {α:Type} [Add α] [Mul α] [OfNat α 0] [Rg α] (a:α):0 * a=0:=by rw [Rg.mc,Rg.m0]
def rD {α:Type} [Add α] [OfNat α 0] (f:Nat→α):Nat→α
  | 0=>0
  | n+1=>rD f n+f n
theorem xP {α:Type} [Add α] [Mul α] [OfNat α 0] [Rg α] {f:Nat→α}:∀ {n:Nat},(∀ i,i<n→f i=0)→rD f n=0
  | 0,_=>rfl
  | n+1,h=>by simp only [rD];rw [xP fun i hi=>h i (by omega),h n (by omega),Rg.a0]
theorem EM {α:Type} [Add α] [Mul α] [OfNat α 0] [Rg α] {f:Nat→α} {n:Nat} (h:∀ i,n≤i→f i=0):∀ m:Nat,n≤m→rD f m=rD f n
  | 0,hm=>by rw [show n=0 by omega]
  | m+1,hm=>by
    rcases Nat.lt_or_ge n (m+1) with g | g
    · rw [rD,h m (by omega),Rg.a0,EM h m (by omega)]
    rw [show n=m+1 by omega]
def conv {α:Type} [Add α] [Mul α] [OfNat α 0] (c d:Nat→α) (k:Nat):α:=rD (fun i=>c i * d (k - i)) (k+1)
theorem OB {α:Type} [Add α] [Mul α] [OfNat α 0] [Rg α] {c d:Nat→α} {n m:Nat} (hc:∀ i,n≤i→c i=0) (hd:∀ i,m≤i→d i=0) (k:Nat) (hk:n+m≤k+1):conv c d k=0:=by
  refine xP fun i hi=>?_;rcases Nat.lt_or_ge i n with h | h
  · rw [hd _ (by omega),Rg.m0]
  rw [hc _ h,Rg.zm]
theorem QX (q:Rat):q * ((q.den:Int):Rat)=((q.num:Int):Rat):=by
  have h:=Rat.num_divInt_den q;rw [Rat.divInt_eq_div,Rat.div_def] at h;have h0:(((q.den:Nat):Int):Rat)≠0:=fun h=>q.den_nz (by have:=Rat.intCast_eq_zero_iff.1 h;omega)
  have e:(((q.num:Int):Rat) * (((q.den:Nat):Int):Rat)⁻¹) * (((q.den:Nat):Int):Rat)=((q.num:Int):Rat):=by rw [Rat.mul_assoc,Rat.inv_mul_cancel _ h0,Rat.mul_one]
  rw [h] at e;exact e
open Go Go.Kn
theorem vI0:vI I0=0:=hs_ B0
structure Po (p:List I) (c:Nat→Int):Prop where
  g:p.all gdI=true
  s:tM p=p
  l:p.length≤25
  c:∀ k,vI (p.getD k I0)=c k
section
variable {p q:List I} {c d:Nat→Int}
theorem fu_ (h:p.all gdI=true) (k:Nat):gdI (p.getD k I0)=true:=by
  by_cases hk:k<p.length
  · rw [show p.getD k I0=p[k] by simp [List.getD,hk]]
    exact List.all_eq_true.1 h _ (List.getElem_mem hk)
  rw [C3 oo_];exact cs_ B0
theorem Po.get (h:Po p c) (k:Nat):p.getD k I0=E (Z.of (c k)):=by rw [← h.c k];exact (SX (fu_ h.g k)).1
theorem Po.B (h:Po p c) (k:Nat):gR (c k):=by rw [← h.c k];exact (SX (fu_ h.g k)).2
theorem Po.zero (h:Po p c) {k:Nat} (hk:p.length≤k):c k=0:=by rw [← h.c k,C3 hk,vI0]
theorem Po.last (h:Po p c) {n:Nat} (hn:p.length=n+1):c n≠0:=by
  rcases BZ p with rfl | ⟨m,x,rfl⟩
  · cases hn
  have h1:=P5 h.s
  have h2:n=m.length:=by simp at hn;omega
  have h3:=h.get n;rw [show (m ++ [x]).getD n I0=x by simp [h2]] at h3;rw [h3,mZ_ (h.B n)] at h1;exact of_decide_eq_false h1
theorem Po.short (h:Po p c) {n:Nat} (hz:∀ k,n≤k→c k=0):p.length≤n:=by
  rcases Nat.lt_or_ge n p.length with g | g
  · exact absurd (hz (p.length - 1) oo_) (h.last oo_)
  exact g
theorem Po.eq (h:Po p c) (g:Po q c):p=q:=by
  have e:p.length=q.length:=Nat.le_antisymm (h.short fun k hk=>g.zero hk) (g.short fun k hk=>h.zero hk);refine List.ext_getElem e fun k h1 h2=>?_;have a:=h.get k;rw [← g.get k] at a
  simpa [List.getD,h1,h2] using a
theorem Po.cast (h:Po p c) (e:∀ k,c k=d k):Po p d:=⟨h.g,h.s,h.l,fun k=>(h.c k).trans (e k)⟩
theorem Z5:Po [] (fun _=>0):=⟨rfl,rfl,by decide,fun k=>by rw [show ([]:List I).getD k I0=I0 by simp];exact vI0⟩
theorem Po.nil (h:Po p c) (hz:∀ k,c k=0):p=[]:=(h.cast hz).eq Z5
theorem Po.l3 (h:Po p c):p.length≤1000:=Nat.le_trans h.l dd_
theorem lk_ {v:Int} {k:Nat} (m:Nat) (hm:4294967296 ^ 16=2 ^ m) (h:v.natAbs<2 ^ k) (hk:k≤m):gR v:=by
  unfold gR;rw [hm];exact Nat.lt_of_lt_of_le h (Nat.pow_le_pow_right dd_ hk)
theorem xM {v:Int} {k:Nat} (h:v.natAbs<2 ^ k) (hk:k≤512):gR v:=lk_ 512 OU h hk
structure Bd (c:Nat→Int) (n b:Nat):Prop where
  z:∀ k,n≤k→c k=0
  b:∀ k,(c k).natAbs<2 ^ b
variable {n m b b':Nat}
theorem Bd.mono (h:Bd c n b) {n' b1:Nat} (hn:n≤n') (hb:b≤b1):Bd c n' b1:=⟨fun k hk=>h.z k oo_,fun k=>Nat.lt_of_lt_of_le (h.b k) (Nat.pow_le_pow_right dd_ hb)⟩
theorem Bd.B (h:Bd c n b) (hb:b≤512) (k:Nat):gR (c k):=xM (h.b k) hb
theorem Bd.add (h:Bd c n b) (g:Bd d m b):Bd (fun k=>c k+d k) (max n m) (b+1) :=
  ⟨fun k hk=>by show c k+d k=0;rw [h.z k oo_,g.z k oo_];rfl,fun k=>by
    show (c k+d k).natAbs<_
    have h1:=h.b k;have h2:=g.b k;have h3:=Int.natAbs_add_le (c k) (d k)
    rw [Nat.pow_succ];omega⟩
theorem pG {u v:Int} (h:u.natAbs<2 ^ b) (g:v.natAbs<2 ^ b'):(u * v).natAbs<2 ^ (b+b'):=by
  rw [Int.natAbs_mul,Nat.pow_add];exact Nat.mul_lt_mul_of_lt_of_le h (Nat.le_of_lt g) (Nat.pow_pos dd_)
theorem kT_ {f:Nat→Int} {A:Nat} (h:∀ i,(f i).natAbs≤A):∀ t:Nat,(rD f t).natAbs≤t * A
  | 0=>by simp [rD]
  | t+1=>by
    have h1:=kT_ h t;have h2:=h t;have h3:=Int.natAbs_add_le (rD f t) (f t);rw [Nat.succ_mul];show (rD f t+f t).natAbs≤_;omega
theorem kS_ {f:Nat→Int} {e:Nat} (h:∀ i,(f i).natAbs<2 ^ b) (hz:∀ i,n≤i→f i=0) (hn:n≤2 ^ e) (t:Nat):(rD f t).natAbs<2 ^ (b+e):=by
  have hb:0<2 ^ b:=Nat.pow_pos dd_
  have k1:∀ t,t≤n→(rD f t).natAbs<2 ^ (b+e):=fun t ht=>by
    have h1:=kT_ (f:=f) (A:=2 ^ b - 1) (fun i=>by have:=h i;omega) t;have h2:t * (2 ^ b - 1)≤2 ^ e * (2 ^ b - 1):=Nat.mul_le_mul_right _ oo_;have h3:2 ^ e * (2 ^ b - 1)<2 ^ e * 2 ^ b:=Nat.mul_lt_mul_of_pos_left oo_ (Nat.pow_pos dd_);rw [Nat.pow_add,Nat.mul_comm (2 ^ b)];omega
  rcases Nat.lt_or_ge n t with g | g
  · rw [EM hz t oo_];exact k1 n (Nat.le_refl _)
  exact k1 t g
theorem YK (h:Bd c n b) (g:Bd d m b') {e:Nat} (hn:n≤2 ^ e) (k t:Nat):(rD (fun i=>c i * d (k - i)) t).natAbs<2 ^ (b+b'+e) :=
  kS_ (n:=n) (fun i=>pG (h.b _) (g.b _)) (fun i hi=>by rw [h.z i hi,Int.zero_mul]) hn t
theorem Bd.conv (h:Bd c n b) (g:Bd d m b') {e:Nat} (hn:n≤2 ^ e):Bd (conv c d) (n+m - 1) (b+b'+e) :=
  ⟨fun k hk=>OB h.z g.z k oo_,fun k=>YK h g hn k (k+1)⟩
theorem Po.len (h:Po p c) (hb:Bd c n b):p.length≤n:=h.short hb.z
theorem e3_ {v:Int} (hv:gR v) {b:Int} (h:(Z.bitsW (Z.of v)).1≤b):v.natAbs<2 ^ b.toNat:=by
  have h1:((Z.of v).bits:Int)≤b:=h;unfold Z.bits at h1;rw [Z.of_some hv] at h1;simp only at h1;exact Nat.lt_of_lt_of_le (SQ _) (Nat.pow_le_pow_right dd_ oo_)
end
end Go.Num


namespace Go.Num
open Go Go.Kn
theorem rG_ {v:Int} (h:-2305843009213693952<v∧v<2305843009213693952):okW (Z.of v)=true:=by
  have hv:(W.cv v).1=v:=by
    show IntKind.i64.wrap v=v
    exact wi oo_
  exact (p3_ (w:=W.cv v) (by rw [hv]) (by rw [hv];exact h)).1
theorem nC_ {u v:Int} {b c:Nat} (h:u.natAbs<2 ^ b) (g:v.natAbs<2 ^ c):(u * v).natAbs<2 ^ (b+c):=by rw [Int.natAbs_mul];exact xX h g
structure Tg (n t u:A3 W):Prop where
  o1:n.x.1 * t.x.1+n.y.1 * t.y.1+n.z.1 * t.z.1=0
  o2:n.x.1 * u.x.1+n.y.1 * u.y.1+n.z.1 * u.z.1=0
  o3:t.x.1 * u.x.1+t.y.1 * u.y.1+t.z.1 * u.z.1=0
  t0:¬ (t.x.1=0∧t.y.1=0∧t.z.1=0)
  u0:¬ (u.x.1=0∧u.y.1=0∧u.z.1=0)
  tb:∀ A:Nat,1≤A→n.x.1.natAbs<2 ^ A→n.y.1.natAbs<2 ^ A→n.z.1.natAbs<2 ^ A→t.x.1.natAbs<2 ^ A∧t.y.1.natAbs<2 ^ A∧t.z.1.natAbs<2 ^ A
  ub:∀ A:Nat,1≤A→n.x.1.natAbs<2 ^ A→n.y.1.natAbs<2 ^ A→n.z.1.natAbs<2 ^ A→u.x.1.natAbs<2 ^ (2 * A+1)∧u.y.1.natAbs<2 ^ (2 * A+1)∧u.z.1.natAbs<2 ^ (2 * A+1)
  full:∀ f g h:Rat,let nn:Rat:=(n.x.1:Rat) * n.x.1+n.y.1 * n.y.1+n.z.1 * n.z.1
    let tt:Rat:=(t.x.1:Rat) * t.x.1+t.y.1 * t.y.1+t.z.1 * t.z.1
    let uu:Rat:=(u.x.1:Rat) * u.x.1+u.y.1 * u.y.1+u.z.1 * u.z.1
    let fn:Rat:=(n.x.1:Rat) * f+n.y.1 * g+n.z.1 * h
    let ft:Rat:=(t.x.1:Rat) * f+t.y.1 * g+t.z.1 * h
    let fu:Rat:=(u.x.1:Rat) * f+u.y.1 * g+u.z.1 * h
    f * (nn * tt * uu)=fn * n.x.1 * (tt * uu)+ft * t.x.1 * (nn * uu)+fu * u.x.1 * (nn * tt) ∧
    g * (nn * tt * uu)=fn * n.y.1 * (tt * uu)+ft * t.y.1 * (nn * uu)+fu * u.y.1 * (nn * tt) ∧
    h * (nn * tt * uu)=fn * n.z.1 * (tt * uu)+ft * t.z.1 * (nn * uu)+fu * u.z.1 * (nn * tt)
section
variable {n t:A3 W} {b c:Int}
end
structure V3 (a:A3 Rt) (x y z:Rat) (A B:Nat):Prop where
  hx:a.x.At x
  hy:a.y.At y
  hz:a.z.At z
  sx:Az x A B
  sy:Az y A B
  sz:Az z A B
section
variable {a b:A3 Rt} {x y z u v w:Rat} {A B C D:Nat}
theorem V3.mono (h:V3 a x y z A B) {A' B':Nat} (h1:A≤A') (h2:B≤B'):V3 a x y z A' B':=⟨h.hx,h.hy,h.hz,h.sx.mono h1 h2,h.sy.mono h1 h2,h.sz.mono h1 h2⟩
theorem of3 {n:A3 W} (hx:n.x.1.natAbs<2 ^ A) (hy:n.y.1.natAbs<2 ^ A) (hz:n.z.1.natAbs<2 ^ A):V3 (fM n) n.x.1 n.y.1 n.z.1 A 1:=⟨O0 _,O0 _,O0 _,.int hx,.int hy,.int hz⟩
theorem jx_ (ha:V3 a x y z A B) (hb:V3 b u v w C D) (h1:A+C+2 * (B+D)+2≤512) (h2:3 * (B+D)≤512):(nE a b).At (x * u+y * v+z * w)∧Az (x * u+y * v+z * w) (A+C+2 * (B+D)+2) (3 * (B+D)):=by
  have m1:=E7 ha.hx hb.hx ha.sx hb.sx oo_ oo_;have m2:=E7 ha.hy hb.hy ha.sy hb.sy oo_ oo_;have m3:=E7 ha.hz hb.hz ha.sz hb.sz oo_ oo_;have s1:=ha.sx.mul hb.sx;have s2:=ha.sy.mul hb.sy;have s3:=ha.sz.mul hb.sz;have p1:=CN m1 m2 s1 s2 oo_ oo_ oo_;have q1:=s1.add (c:=A+C+(B+D)+1) s2 oo_ oo_;have p2:=CN p1 m3 q1 s3 oo_ oo_ oo_;have q2:=q1.add (c:=A+C+2 * (B+D)+2) s3 oo_ oo_;exact ⟨p2,q2.mono (Nat.le_refl _) oo_⟩
theorem ag_ {a b c d:Rt} {p q r s:Rat} {A B C D:Nat} (ha:a.At p) (hb:b.At q) (hc:c.At r) (hd:d.At s) (sa:Az p A B) (sb:Az q C D) (sc:Az r A B) (sd:Az s C D) (h1:A+C+(B+D)+1≤512) (h2:2 * (B+D)≤512):(cO (cG a b) (cG c d)).At (p * q - r * s)∧Az (p * q - r * s) (A+C+(B+D)+1) (2 * (B+D)):=by
  have m1:=E7 ha hb sa sb oo_ oo_;have m2:=E7 hc hd sc sd oo_ oo_;have s1:=sa.mul sb;have s2:=sc.mul sd;exact ⟨Z6 m1 m2 s1 s2 oo_ oo_ oo_,(s1.sub (c:=A+C+(B+D)+1) s2 oo_ oo_).mono (Nat.le_refl _) oo_⟩
theorem ev_ (ha:V3 a x y z A B) (hb:V3 b u v w C D) (h1:A+C+(B+D)+1≤512) (h2:2 * (B+D)≤512):V3 (j8 a b) (y * w - z * v) (z * u - x * w) (x * v - y * u) (A+C+(B+D)+1) (2 * (B+D)):=by
  obtain ⟨p1,q1⟩:=ag_ ha.hy hb.hz ha.hz hb.hy ha.sy hb.sz ha.sz hb.sy h1 h2;obtain ⟨p2,q2⟩:=ag_ ha.hz hb.hx ha.hx hb.hz ha.sz hb.sx ha.sx hb.sz h1 h2;obtain ⟨p3,q3⟩:=ag_ ha.hx hb.hy ha.hy hb.hx ha.sx hb.sy ha.sy hb.sx h1 h2;exact ⟨p1,p2,p3,q1,q2,q3⟩
theorem kW_ {k:Rt} {q:Rat} (hk:k.At q) (sk:Az q C D) (ha:V3 a x y z A B) (h1:C+A≤512) (h2:D+B≤512):V3 (jE k a) (q * x) (q * y) (q * z) (C+A) (D+B) :=
  ⟨E7 hk ha.hx sk ha.sx h1 h2,E7 hk ha.hy sk ha.sy h1 h2,E7 hk ha.hz sk ha.sz h1 h2,sk.mul ha.sx,sk.mul ha.sy,sk.mul ha.sz⟩
theorem rL_ {E:Nat} (ha:V3 a x y z A B) (hb:V3 b u v w C D) (h1:A+D<E) (h2:C+B<E) (hE:E≤512) (h3:B+D≤512):V3 (lG a b) (x+u) (y+v) (z+w) E (B+D) :=
  ⟨CN ha.hx hb.hx ha.sx hb.sx oo_ oo_ h3,CN ha.hy hb.hy ha.sy hb.sy oo_ oo_ h3,CN ha.hz hb.hz ha.sz hb.sz oo_ oo_ h3,ha.sx.add hb.sx h1 h2,ha.sy.add hb.sy h1 h2,ha.sz.add hb.sz h1 h2⟩
theorem aN_ {E:Nat} (ha:V3 a x y z A B) (hb:V3 b u v w C D) (h1:A+D<E) (h2:C+B<E) (hE:E≤512) (h3:B+D≤512):V3 (jD a b) (x - u) (y - v) (z - w) E (B+D) :=
  ⟨Z6 ha.hx hb.hx ha.sx hb.sx oo_ oo_ h3,Z6 ha.hy hb.hy ha.sy hb.sy oo_ oo_ h3,Z6 ha.hz hb.hz ha.sz hb.sz oo_ oo_ h3,ha.sx.sub hb.sx h1 h2,ha.sy.sub hb.sy h1 h2,ha.sz.sub hb.sz h1 h2⟩
end
end Go.Num


namespace Go.Num
open Go Go.Kn
theorem GG {x:Rt} {b:W} (h:fH x b=true):∃ q,x.At q∧Sz q b.1.toNat:=by
  unfold fH at h;simp only [Bool.and_eq_true,decide_eq_true_eq] at h;obtain ⟨g,h1,h2⟩:=h;obtain ⟨q,hq⟩:=fv_ g;have i:=At.is hq;rw [i.en,eD] at h1;rw [i.ed,eD] at h2;refine ⟨q,hq,e3_ i.hn h1,?_⟩;have:=e3_ i.hd h2
  rwa [Int.natAbs_natCast] at this
theorem cl_ {v:A3 Rt} {b:W} (h:dY v b=true):∃ x y z,V3 v x y z b.1.toNat b.1.toNat:=by
  unfold dY at h
  cases h1:fH v.x b
  · rw [h1] at h;cases h
  cases h2:fH v.y b
  · rw [h1,h2] at h;cases h
  cases h3:fH v.z b
  · rw [h1,h2,h3] at h;cases h
  obtain ⟨x,hx,sx⟩:=GG h1;obtain ⟨y,hy,sy⟩:=GG h2;obtain ⟨z,hz,sz⟩:=GG h3;exact ⟨x,y,z,hx,hy,hz,sx.az,sy.az,sz.az⟩
theorem SC (x:Rat):0≤x * x:=by
  rcases Rat.le_total (a:=0) (b:=x) with h | h
  · exact Rat.mul_nonneg h h
  have:=Rat.mul_nonneg (a:=-x) (b:=-x) (by grind) (by grind)
  grind
end Go.Num

