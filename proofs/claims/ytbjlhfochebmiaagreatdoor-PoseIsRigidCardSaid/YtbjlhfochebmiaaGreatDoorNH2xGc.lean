/- Lemmas: what they ask stands in their statements. -/
import Derived.Test.YtbjlhfochebmiaaGreatDoorNH2xGC
import Derived.Test.YtbjlhfochebmiaaGreatDoorNJe
import Derived.Test.YtbjlhfochebmiaaGreatDoorNTd
import Derived.Test.YtbjlhfochebmiaaGreatDoorNPf
set_option linter.unusedSimpArgs false
set_option linter.unusedVariables false
set_option maxHeartbeats 8000000
set_option maxRecDepth 20000
namespace Go.Proofs.YtbjlhfochebmiaaGreatDoor
open Go.Kn Go.Num Tryz
attribute [local irreducible] Go.Kn.W WL PL OpQ OpR OpS
theorem B3 (a:Rt) (b:Rt) :
    Ret prog 46 [AV [pI a.n,pI a.d],AV [pI b.n,pI b.d]] (.int .i64 ((jZ a b).1)):=by
 refine bJ (N:=95) func46 O O zz_ (fun w0=>?_);refine giI ?_;refine go2 ?_;intro b1 hb1;refine go_ ?_;intro b2 hb2;refine go4 ?_;refine sQ (aX aE (n7 a) O) O (go4 ?_);refine sQ (aX aE (n7 b) O) O (go3 ?_);refine gJv [17,18,19,20,21,22] [(22,.bool (!(aV a)||(!(aV b))))] (fun K2 J2=>?_) ?_
 ·refine go3 ?_;rcases bt (aV a) with h4|h4
  ·refine sB (fZ h4) O (go4 ?_);refine J2 _ _ pp_ s0 (bS (o8 h4 O))
  refine sB (gA h4) O (go4 ?_);refine J2 _ _ pp_ s0 (bS (tH h4))
 intro g5;refine aN _ O (fun h6=>?_) (fun h6=>?_)
 ·refine nK (sk (sk s0)) 8 [] [] (go2 ?_);refine pQ O (aX aE (vA a (aV a)) O) (go2 ?_);refine pQ O (aX aE (vA b (aV b)) O) ?_;obtain ⟨r7,hr7⟩:=nm ((Z.cmpW (fN a (aV a)).dec (fN b (aV b)).dec):W);refine pC (.int .i64 r7.1) aE (oQ (fN a (aV a)).1 (fN b (aV b)).1 (fN a (aV a)).2 (fN b (aV b)).2) O O (by rw [hr7];first|done|rfl) (go3 ?_);refine rt1 ?_;exact (by subst hr7;exact congrArg vS6 (show _=(jZ a b) from aC h6 O))
 refine wN ?_;intro b8 hb8;refine go9 ?_;intro b9 hb9;refine go3 ?_;refine cI (rg [4,7,10,11,12] 40 55) (fun g nn M=>∃ (o:W) (x:(A2 I)) (y:(A2 I)) (k:Nat),(g 7 = .int .i64 o.1)∧M=[⟨b9,124,aU [pI y.x,pI y.y]⟩,⟨b8,124,aU [pI x.x,pI x.y]⟩,⟨b2,35,aU [pI b.n,pI b.d]⟩,⟨b1,35,aU [pI a.n,pI a.d]⟩]∧nn=k∧(cf k o x.x x.y y.x y.y=cf (cfN a.d) (wl 1) a.n a.d b.n b.d∧cfP k x.y)) (cfN a.d) ?start ?round
 case start =>
  refine ⟨_,s0,(wl 1),(⟨a.n,a.d⟩:(A2 I)),(⟨b.n,b.d⟩:(A2 I)),(cfN a.d),?a7,rfl,rfl,⟨rfl,VL (ba_ h6)⟩⟩
  case a7=>rfl
 case round =>
  rintro nn g M ⟨o,x,y,k,hg7,rfl,hmeas,hinv⟩;subst nn;refine gS1 hg7 ?_;clear hg7;obtain ⟨m,rfl⟩:=OE hinv.2;refine go6 ?_;refine sC (AV [pI (E (Z.quo x.x.dec x.y.dec))]) aE (hZ x.x.1 x.y.1 x.x.2 x.y.2) O O O (go_ ?_);intro b10 hb10;refine go7 ?_;refine sC (AV [pI (E (Z.quo y.x.dec y.y.dec))]) aE (hZ y.x.1 y.y.1 y.x.2 y.y.2) O O O (go_ ?_);intro b11 hb11;refine go5 ?_;refine sC (.int .i64 ((Z.cmpW (Z.quo x.x.dec x.y.dec) (Z.quo y.x.dec y.y.dec)).1)) aE (oQ (E (Z.quo x.x.dec x.y.dec)).1 (E (Z.quo y.x.dec y.y.dec)).1 (E (Z.quo x.x.dec x.y.dec)).2 (E (Z.quo y.x.dec y.y.dec)).2) O O (cg2 (fun p q=>Value.int .i64 (Z.cmpW p q).1) (dQ _) (dQ _)) (go7 ?_);refine aN _ O (fun h12=>?_) (fun h12=>?_)
  ·refine go3 ?_;refine sV (.int .i64 ((W.mul o (Z.cmpW (Z.quo x.x.dec x.y.dec) (Z.quo y.x.dec y.y.dec))).1)) O O (go3 ?_);refine rt1 ?_;exact congrArg vS6 (show _=(jZ a b) from aH h6 (ed_ hinv.1 h12))
  refine go_ ?_;refine gds (sk (sk (sk (sd (sk (sk s0)))))) [0,4,8,12,16,20,24,28,33] [8] mix (by kernel_rfl) (go6 ?_);refine pC (AV [pI (E (Z.rem x.x.dec x.y.dec))]) aE (vG x.x.1 x.y.1 x.x.2 x.y.2) O O O (pQ O (dN zpT arT O (.cons [pI x.y] [pI x.y,pI I0] O O O O (.cons [pI (E (Z.rem x.x.dec x.y.dec))] [pI x.y,pI (E (Z.rem x.x.dec x.y.dec))] O O O O (.nil _)))) (go2 ?_));refine gds (sk (sk (sd (sk (sk (sk s0)))))) [0,4,8,12,16,20,24,28,33] [8] mix (by kernel_rfl) (go6 ?_);refine pC (AV [pI (E (Z.rem y.x.dec y.y.dec))]) aE (vG y.x.1 y.y.1 y.x.2 y.y.2) O O O (pQ O (dN zpT arT O (.cons [pI y.y] [pI y.y,pI I0] O O O O (.cons [pI (E (Z.rem y.x.dec y.y.dec))] [pI y.y,pI (E (Z.rem y.x.dec y.y.dec))] O O O O (.nil _)))) (go3 ?_));refine gJv (rg [] 74 10) [(83,.bool (((Z.signW (Z.rem x.x.dec x.y.dec)).1==0)||((Z.signW (Z.rem y.x.dec y.y.dec)).1==0)))] (fun K5 J5=>?_) ?_
  ·refine go3 ?_;refine sC (.int .i64 ((Z.signW (Z.rem x.x.dec x.y.dec)).1)) aE (fK (E (Z.rem x.x.dec x.y.dec)).1 (E (Z.rem x.x.dec x.y.dec)).2) O O (cg1 (fun p=>Value.int .i64 (Z.signW p).1) (dQ _)) (go_ ?_);refine sBB O (fun h14=>?_) (fun h14=>?_)
   ·refine go6 ?_;refine J5 _ _ pp_ s0 (bS (oH h14))
   refine go2 ?_;refine sC (.int .i64 ((Z.signW (Z.rem y.x.dec y.y.dec)).1)) aE (fK (E (Z.rem y.x.dec y.y.dec)).1 (E (Z.rem y.x.dec y.y.dec)).2) O O (cg1 (fun p=>Value.int .i64 (Z.signW p).1) (dQ _)) (go3 ?_);refine J5 _ _ pp_ s0 (bS (mO h14 O))
  intro g15;refine aN _ O (fun h16=>?_) (fun h16=>?_)
  ·refine gds (sk (sk (sk (sk (sk (sk s0)))))) [0,4,8,12,16,20,24,28,32,36] [] mix (by kernel_rfl) (go3 ?_);refine pC (.int .i64 ((Z.signW (Z.rem x.x.dec x.y.dec)).1)) aE (fK (E (Z.rem x.x.dec x.y.dec)).1 (E (Z.rem x.x.dec x.y.dec)).2) O O (cg1 (fun p=>Value.int .i64 (Z.signW p).1) (dQ _)) (go2 ?_);refine pC (.int .i64 ((Z.signW (Z.rem y.x.dec y.y.dec)).1)) aE (fK (E (Z.rem y.x.dec y.y.dec)).1 (E (Z.rem y.x.dec y.y.dec)).2) O O (cg1 (fun p=>Value.int .i64 (Z.signW p).1) (dQ _)) (pV (.int .i64 ((W.sub (Z.signW (Z.rem x.x.dec x.y.dec)) (Z.signW (Z.rem y.x.dec y.y.dec))).1)) O O (pV (.int .i64 ((W.mul o (W.sub (Z.signW (Z.rem x.x.dec x.y.dec)) (Z.signW (Z.rem y.x.dec y.y.dec)))).1)) O O (go3 ?_)));refine rt1 ?_;exact congrArg vS6 (show _=(jZ a b) from aH h6 (cP_ hinv.1 h12 h16))
  refine go3 ?_;refine sV (.int .i64 ((W.neg o).1)) O O (go2 ?_);refine ⟨pp_,_,_,(sd (sd s0)),(Nat.lt_succ_self m),(W.neg o),(⟨x.y,(E (Z.rem x.x.dec x.y.dec))⟩:(A2 I)),(⟨y.y,(E (Z.rem y.x.dec y.y.dec))⟩:(A2 I)),m,?s7,rfl,rfl,cO_ hinv h12 h16⟩
  case s7=>rfl
theorem u9 (a:Rt) :
   Ret prog 45 [AV [pI a.n,pI a.d]] (.int .i64 ((gW a).1)):=by
 refine bJ (N:=9) func45 O O zz_ (fun w0=>?_);refine giI ?_;refine go2 ?_;intro b1 hb1;refine go5 ?_;refine sQ (aX aE (n7 a) O) O (go2 ?_);rcases bt (aV a) with h2|h2
 ·refine W_f (fZ h2) O (go4 ?_);refine sC (.int .i64 ((Z.signW a.n.dec).1)) aE (fK a.n.1 a.n.2) O O O (go3 ?_);refine rt1 ?_;exact congrArg vS6 (show _=(gW a) from aC h2 O)
 refine W_t (gA h2) O (go4 ?_);refine rt1 ?_;exact congrArg vS6 (show _=(gW a) from aH h2 O)
end Go.Proofs.YtbjlhfochebmiaaGreatDoor
namespace Go.Num
open Go Go.Kn
def oN (a:(A3 Rt)) (b:(A3 Rt)):(A3 Rt) :=
 (⟨(i7 a.x b.x),(i7 a.y b.y),(i7 a.z b.z)⟩:(A3 Rt))
def rD (a:(A3 Rt)) (b:(A3 Rt)):Rt :=
 let r5:Rt:=(e7 (iC a.x b.x) (iC a.y b.y))
 let r6:Rt:=(e7 r5 (iC a.z b.z))
 r6
def DE (k:Nat) (l:(List I)):I :=
 (l.getD k I0)
def xZ (l:(List I)):(List I) :=
 (jH (l.length:Int) (fun (y:Nat)=>(DE y l)) (fun (y:I)=>(mM y)))
theorem H6 (p:List I):∀ (k i:Nat),p.length - i<k→(∃ j,fX p k i = .inl j∧(p.drop i).all gdI=true)∨(fX p k i = .inr true∧(p.drop i).all gdI=false)
 | 0,i,h=>absurd h (Nat.not_lt_zero _)
 | k+1,i,h=>by
  unfold fX
  by_cases hi:i<p.length
  ·rw [decide_eq_true oo_,cond_true,DY p hi,List.all_cons]
   show (∃ j,(bif gdI (p.getD i I0) then _ else _)=_∧_)∨((bif gdI (p.getD i I0) then _ else _)=_∧_)
   cases gdI (p.getD i I0)
   ·exact .inr ⟨rfl,rfl⟩
   simp only [cond_true,Bool.true_and];exact H6 p k (i+1) oo_
  rw [decide_eq_false oo_,cond_false,List.drop_of_length_le oo_];exact .inl ⟨i,rfl,rfl⟩
theorem SK (p:List I):dY p = !p.all gdI:=by
 unfold dY;rcases H6 p (p.length+1) 0 oo_ with ⟨j,h1,h2⟩|⟨h1,h2⟩
 ·rw [h1];rw [List.drop_zero] at h2;rw [h2];rfl
 rw [h1];rw [List.drop_zero] at h2;rw [h2];rfl
theorem S7 (l:List I):xZ l=mkP l:=by
 unfold xZ;rw [zB,Int.toNat_natCast]
 congr 1
 refine List.ext_getElem? fun k=>?_
 by_cases h:k<l.length
 ·simp [h,mM,DE]
 simp [h]
theorem WZ {v:Int} (h:e9 v):(E (Z.of v)).1.bad=false:=by
 have:=yQ h;unfold R.good at this;simp only [Bool.and_eq_true,Bool.not_eq_true'] at this;exact this.1
theorem cH_:(E Z.bad).1.bad=true:=rfl
theorem OY:(E Z.bad).1.good=false:=rfl
theorem C0 (v:Int):v.fdiv 1=v:=by rw [Int.fdiv_eq_ediv_of_nonneg _ dd_];exact Int.ediv_one v
theorem G6 {n d:Int} (hn:e9 n) (hd:e9 d) (hp:0<d) (hc:Int.gcd n d=1):bR (E (Z.of n)) (E (Z.of d))=⟨E (Z.of n),E (Z.of d)⟩:=by
 unfold bR
 have h1:((Z.signW (E (Z.of d)).dec).1==0)=false:=by rw [dQ,pA hd,Int.sign_eq_one_of_pos hp];rfl
 have h2:decide ((Z.signW (E (Z.of d)).dec).1<0)=false:=by rw [dQ,pA hd,Int.sign_eq_one_of_pos hp];rfl
 rw [yQ hn,yQ hd,h1,h2,dQ,dQ,B9 hn hd,hc];simp only [Bool.not_true,Bool.or_false,cond_false];rw [show ((1:Nat):Int)=1 from rfl,AN hn B1 dd_,AN hd B1 dd_,C0,C0]
theorem C3 (b:I):bR (E Z.bad) b=jY:=by unfold bR;rw [OY];rfl
theorem KW (a:I):bR a (E Z.bad)=jY:=by
 unfold bR;rw [OY]
 cases a.1.good<;>rfl
theorem HI {a b:Rt} {n d m e:Int} (ha:a.Is n d) (hb:b.Is m e) :
  ∃ p q r s:Int,bR a.n b.d=⟨E (Z.of p),E (Z.of q)⟩∧bR b.n a.d=⟨E (Z.of r),E (Z.of s)⟩∧e9 p∧e9 q∧e9 r∧e9 s∧0<q∧0<s∧Int.gcd (p*r) (q*s)=1∧n*m*(q*s)=p*r*(d*e):=by
 have h1:=CE ha.hn hb.hd hb.pos;have h2:=CE hb.hn ha.hd ha.pos;have g1:((Int.gcd n e:Nat):Int) ∣ n:=Int.gcd_dvd_left ..;have g2:((Int.gcd n e:Nat):Int) ∣ e:=Int.gcd_dvd_right ..;have g3:((Int.gcd m d:Nat):Int) ∣ m:=Int.gcd_dvd_left ..;have g4:((Int.gcd m d:Nat):Int) ∣ d:=Int.gcd_dvd_right ..;refine ⟨n / (Int.gcd n e:Nat),e / (Int.gcd n e:Nat),m / (Int.gcd m d:Nat),d / (Int.gcd m d:Nat),?_,?_,h1.hn,h1.hd,h2.hn,h2.hd,h1.pos,h2.pos,?_,?_⟩
 ·rw [ha.en,hb.ed];exact Rt.ext h1.en h1.ed
 ·rw [hb.en,ha.ed];exact Rt.ext h2.en h2.ed
 ·generalize hG:((Int.gcd n e:Nat):Int)=G at *
  generalize hH:((Int.gcd m d:Nat):Int)=H at *;have c1:Nat.Coprime (n / G).natAbs (e / G).natAbs:=h1.cop;have c2:Nat.Coprime (m / H).natAbs (d / H).natAbs:=h2.cop;have k1:Nat.Coprime n.natAbs d.natAbs:=ha.cop;have k2:Nat.Coprime m.natAbs e.natAbs:=hb.cop;have d1:(n / G).natAbs ∣ n.natAbs:=Int.natAbs_dvd_natAbs.2 (Int.ediv_dvd_of_dvd g1);have d2:(e / G).natAbs ∣ e.natAbs:=Int.natAbs_dvd_natAbs.2 (Int.ediv_dvd_of_dvd g2);have d3:(m / H).natAbs ∣ m.natAbs:=Int.natAbs_dvd_natAbs.2 (Int.ediv_dvd_of_dvd g3);have d4:(d / H).natAbs ∣ d.natAbs:=Int.natAbs_dvd_natAbs.2 (Int.ediv_dvd_of_dvd g4)
  show Nat.gcd (n / G*(m / H)).natAbs (e / G*(d / H)).natAbs=1
  rw [Int.natAbs_mul,Int.natAbs_mul];have x1:Nat.Coprime (n / G).natAbs (d / H).natAbs:=(k1.coprime_dvd_left d1).coprime_dvd_right d4;have x2:Nat.Coprime (m / H).natAbs (e / G).natAbs:=(k2.coprime_dvd_left d3).coprime_dvd_right d2;exact (Nat.Coprime.mul_right c1 x1).mul_left (Nat.Coprime.mul_right x2 c2)
 obtain ⟨x,hx⟩:=g1;obtain ⟨y,hy⟩:=g2;obtain ⟨z,hz⟩:=g3;obtain ⟨t,ht⟩:=g4
 have p1:0<((Int.gcd n e:Nat):Int):=by have:=Int.gcd_pos_of_ne_zero_right n (show e≠0 by have:=hb.pos;omega);omega
 have p2:0<((Int.gcd m d:Nat):Int):=by have:=Int.gcd_pos_of_ne_zero_right m (show d≠0 by have:=ha.pos;omega);omega
 generalize ((Int.gcd n e:Nat):Int)=G at *;generalize ((Int.gcd m d:Nat):Int)=H at *
 have q1:n / G=x:=by rw [hx];exact Int.mul_ediv_cancel_left _ oo_
 have q2:e / G=y:=by rw [hy];exact Int.mul_ediv_cancel_left _ oo_
 have q3:m / H=z:=by rw [hz];exact Int.mul_ediv_cancel_left _ oo_
 have q4:d / H=t:=by rw [ht];exact Int.mul_ediv_cancel_left _ oo_
 rw [q1,q2,q3,q4,hx,hy,hz,ht];grind
theorem WE (a b:Rt):fW a b=iC a b:=by
 unfold fW iC;rw [sH,sH,QJ,CV,CV]
 cases hga:aV a<;>cases hgb:aV b<;>simp only [Bool.not_true,Bool.not_false,Bool.or_true,Bool.true_or,Bool.or_false,cond_true,cond_false]
 obtain ⟨n,d,ha⟩:=d2_.1 hga;obtain ⟨m,e,hb⟩:=d2_.1 hgb;obtain ⟨p,q,r,s,e1,e2,hp,hq,hr,hs,q0,s0,hc,_⟩:=HI ha hb;rw [e1,e2];simp only [dQ,qE hp hr,qE hq hs]
 by_cases b1:e9 (p*r)
 ·by_cases b2:e9 (q*s)
  ·rw [G6 b1 b2 (Int.mul_pos q0 s0) hc,WZ b1,WZ b2];rfl
  rw [MZ b2,KW,cH_,Bool.or_true];rfl
 rw [MZ b1,C3];rfl
def Rt.Vld (a:Rt):Prop:=aV a=true∨a=jY
theorem UE {a:Rt} (h:a.Vld):e7 (fI (wl 0)) a=a:=by
 have h0:(fI (wl 0)).Is 0 1:=by
  have:fI (wl 0)=⟨E (Z.of 0),E (Z.of 1)⟩:=by
   show bR (E (Z.of 0)) F_skewbackref04_one=_
   rw [a9_,G6 B0 B1 dd_ dd_]
  rw [this];exact ⟨rfl,rfl,B0,B1,by decide,by decide⟩
 unfold e7;rw [d2_.2 ⟨_,_,h0⟩];rcases h with hg|hb
 ·obtain ⟨n,d,ha⟩:=d2_.1 hg
  have hd0:=ha.pos;simp only [hg,Bool.not_true,Bool.or_false,cond_false];rw [h0.en,h0.ed,ha.en,ha.ed];simp only [dQ];rw [B9 B1 ha.hd,Int.gcd_one_left]
  rw [show ((1:Nat):Int)=1 from rfl,AN ha.hd B1 dd_,AN B1 B1 dd_,C0,C0,qE B0 ha.hd,Int.zero_mul,qE ha.hn B1,Int.mul_one,DS B0 ha.hn,Int.zero_add,qE B1 ha.hd,Int.one_mul,
   G6 ha.hn ha.hd ha.pos ha.cop]
  exact Rt.ext ha.en.symm ha.ed.symm
 have hn:aV a=false:=by rw [hb];decide +kernel
 rw [hn];exact hb.symm
theorem ab_ {p q:Int} (hp:e9 p) (hq:e9 q) (h0:0<q) (hc:Int.gcd p q=1):Rt.Vld ⟨E (Z.of p),E (Z.of q)⟩:=.inl (d2_.2 ⟨p,q,rfl,rfl,hp,hq,h0,hc⟩)
theorem bI_ (a b:Rt):(iC a b).Vld:=by
 unfold iC
 cases hga:aV a<;>cases hgb:aV b<;>simp only [Bool.not_true,Bool.not_false,Bool.or_true,Bool.true_or,Bool.or_false,cond_true,cond_false]<;>try exact .inr O
 obtain ⟨n,d,ha⟩:=d2_.1 hga;obtain ⟨m,e,hb⟩:=d2_.1 hgb;obtain ⟨p,q,r,s,e1,e2,hp,hq,hr,hs,q0,s0,hc,_⟩:=HI ha hb;rw [e1,e2];simp only [dQ,qE hp hr,qE hq hs]
 by_cases b1:e9 (p*r)
 ·by_cases b2:e9 (q*s)
  ·rw [G6 b1 b2 (Int.mul_pos q0 s0) hc];exact ab_ b1 b2 (Int.mul_pos q0 s0) hc
  rw [MZ b2,KW];exact .inr O
 rw [MZ b1,C3];exact .inr O
end Go.Num
namespace Go.Proofs.YtbjlhfochebmiaaGreatDoor
open Go.Kn Go.Num Tryz
attribute [local irreducible] Go.Kn.W WL PL OpQ OpR OpS
theorem w7 (a:Path) :
   Ret prog 7 [AV [cw a.from_.x.x.1,cw a.from_.x.y.1,cw a.from_.x.z.1,cw a.from_.q.x.1,cw a.from_.q.y.1,cw a.from_.q.z.1,cw a.from_.q.t.1,cw a.to_.x.x.1,cw a.to_.x.y.1,cw a.to_.x.z.1,cw a.to_.q.x.1,cw a.to_.q.y.1,cw a.to_.q.z.1,cw a.to_.q.t.1]] (.int .i64 ((fT a).1)):=by
 refine bJ (N:=13) func7 O O zz_ (fun w0=>?_);refine giI ?_;refine go2 ?_;intro b1 hb1;refine go5 ?_;refine sQ (aX aE (qN a.from_) O) O (go7 ?_);refine aN _ O (fun h2=>?_) (fun h2=>?_)
 ·refine go5 ?_;refine rt1 ?_;exact congrArg vS6 (show _=(fT a) from aC h2 O)
 refine go4 ?_;refine sQ (aX aE (qN a.to_) O) O (go3 ?_);refine rt1 ?_;exact congrArg vS6 (show _=(fT a) from aH h2 O)
theorem BZ (va:Value) (n k:Nat) (hk:k≤1000000) (w:World) (hva:Sl w va (dl n)) :
  Calls prog 115 [va,.int .i64 (k:Int)].toArray w (fun e w'=>e = .returned (.int .i64 ((n / 2 ^ k % 2:Nat):Int))∧Ext w w'):=by
 refine dB (N:=13) func115 O O zz_ ?_;obtain ⟨w0,rfl⟩:=nm w;refine giI ?_;refine go6 ?_;refine sQ (aS (kJ O O dd_) (congrArg (Value.int .i64) (shq 16 dd_ oo_))) O (sQ (aS (dJ aE O (fun w hw=>gL va (dl n) (k / 16) w (SL.sl (M:=_) hva.old hw))) (congrArg (fun z:Nat=>Value.int .i64 (z:Int)) (CX n (k / 16)))) O (go_ ?_));refine sQ (aS (sF O O dd_) (congrArg (Value.int .i64) (shr 16 k))) O (sQ (wK O O (Int.natCast_nonneg _)) O (sQ (aS (sF O O dd_) (congrArg (Value.int .i64) (ay_ n k))) O (go3 ?_)));refine rt1 ?_;exact rfl
theorem AR (a:R) (ha:a.Ok) :
    Ret prog 48 [RV a] (.int .i64 (a.dec.bits:Int)):=by
 refine bJ (N:=25) func48 O O zz_ (fun w0=>?_);refine giI ?_;refine go_ ?_;refine bI O (jS O O (fun b1 hb1=>go4 ?_));refine sQ (bZ tyT O mm_ (cE ha)) O ?_;refine sQ (aX aE (bW a ha) O) O (go2 ?_);refine aN _ O (fun hg=>?_) (fun hg=>?_)
 ·replace hg:=cB_ hg
  refine go4 ?_;refine rt1 ?_;exact congrArg (fun z:Nat=>Value.int .i64 (z:Int)) (W2 (by simpa using hg)).symm
 replace hg:=cB_ hg
 refine go2 ?_;refine sQ (bZ tyT O mm_ (cE ha)) O ?_;refine bI O (fM aE O (fun w hw=>bX a ha w) (fun v L hv=>go3 ?_));have hl32:(dl (val a.w)).length≤32:=iF (by rw [← IM];have:=xV a.w ha.lim;rwa [ha.len] at this);refine go_ ?_;refine sQ (nU jC O (SL.sub hv.sl lZ)) O (sQ (aS (TJ O O) (congrArg (Value.int .i64) (ev_ (Nat.le_trans hl32 dd_)))) O (go4 ?_));refine cI (rg [4] 13 11) (fun g nn M=>∃ (k:Nat),(g 4 = .int .i64 (k:Int))∧M=L++[⟨b1,33,a.cells⟩]∧nn=k+0∧(k≤16*(dl (val a.w)).length∧val a.w<2 ^ k)) (16*(dl (val a.w)).length) ?start ?round
 case start =>
  refine ⟨_,(List.Sublist.refl _),16*(dl (val a.w)).length,?a4,?mem0,rfl,⟨Nat.le_refl _,QQ _⟩⟩
  case mem0=>rfl
  case a4=>rfl
 case round =>
  rintro nn g M ⟨k,hg4,rfl,hmeas,⟨hk,hlt⟩⟩;subst nn;refine gS1 hg4 ?_;clear hg4;refine go5 ?_
  cases hz:decide ((0:Int)<(k:Int))
  ·refine BN ?_;refine rt1 ?_;exact congrArg (fun z:Nat=>Value.int .i64 (z:Int)) (aA_ ha (by simpa using hg) hlt (by have:=of_decide_eq_false hz;omega)).symm
  have hz':=of_decide_eq_true hz;obtain ⟨m,rfl⟩:∃ m,k=m+1:=⟨k - 1,by omega⟩;refine go2 ?_;refine sQ (aS (o9 O O) (congrArg (Value.int .i64) (zP oo_))) O (sQ (dJ aE O (fun w hw=>BZ v (val a.w) m oo_ w (SL.sl (SL.sub hv.sl lZ) hw))) O (go3 ?_));refine aN _ O (fun h0=>?_) (fun h0=>?_)
  ·replace h0:=cB_ h0
   refine go4 ?_;refine sQ (aS (o9 O O) (congrArg (Value.int .i64) (zP oo_))) O (go2 ?_);refine ⟨pp_,_,_,(List.Sublist.refl _),oo_,m,?s4,?mem,rfl,⟨by omega,UK hlt oo_⟩⟩
   case mem=>rfl
   case s4=>rfl
  replace h0:=cB_ h0
  refine go6 ?_;refine rt1 ?_;exact congrArg (fun z:Nat=>Value.int .i64 (z:Int)) ((zA ha (by simpa using hg)).trans (aB_ hlt oo_)).symm
theorem uG (b:(A3 W)) :
    Ret prog 8 [AV [cw b.x.1,cw b.y.1,cw b.z.1]] (.bool (dZ b)):=by
 refine bJ (N:=18) func8 O O zz_ (fun w0=>?_);refine giI ?_;refine go2 ?_;intro b1 hb1;refine go7 ?_;refine rM 5 (go4 ?_);refine sV (.bool true) O O (go5 ?_);refine gJv (rg [] 8 10) [(17,.bool (decide (262144<b.x.1)||decide (b.x.1<(-262144))))] (fun K5 J5=>?_) ?_
 ·refine go5 ?_;refine sBB O (fun h3=>?_) (fun h3=>?_)
  ·have ph3:=of_decide_eq_true h3;refine go6 ?_;refine J5 _ _ pp_ s0 (bS (oH h3))
  have ph3:=of_decide_eq_false h3;refine go6 ?_;refine J5 _ _ pp_ s0 (bS (mO h3 O))
 intro g4;refine aN _ O (fun h5=>?_) (fun h5=>?_)
 ·refine go4 ?_;refine rt1 ?_;exact congrArg vS1 (show _=(dZ b) from aC h5 O)
 refine go3 ?_;refine sV (.int .i64 1) O O (go6 ?_);refine sV (.bool true) O O (go5 ?_);refine gJv (rg [] 8 10) [(17,.bool (decide (262144<b.y.1)||decide (b.y.1<(-262144))))] (fun K9 J9=>?_) ?_
 ·refine go5 ?_;refine sBB O (fun h7=>?_) (fun h7=>?_)
  ·have ph7:=of_decide_eq_true h7;refine go6 ?_;refine J9 _ _ pp_ s0 (bS (oH h7))
  have ph7:=of_decide_eq_false h7;refine go6 ?_;refine J9 _ _ pp_ s0 (bS (mO h7 O))
 intro g8;refine aN _ O (fun h9=>?_) (fun h9=>?_)
 ·refine go4 ?_;refine rt1 ?_;exact congrArg vS1 (show _=(dZ b) from aH h5 (aC h9 O))
 refine go3 ?_;refine sV (.int .i64 2) O O (go6 ?_);refine sV (.bool true) O O (go5 ?_);refine gJv (rg [] 8 10) [(17,.bool (decide (262144<b.z.1)||decide (b.z.1<(-262144))))] (fun K13 J13=>?_) ?_
 ·refine go5 ?_;refine sBB O (fun h11=>?_) (fun h11=>?_)
  ·have ph11:=of_decide_eq_true h11;refine go6 ?_;refine J13 _ _ pp_ s0 (bS (oH h11))
  have ph11:=of_decide_eq_false h11;refine go6 ?_;refine J13 _ _ pp_ s0 (bS (mO h11 O))
 intro g12;refine aN _ O (fun h13=>?_) (fun h13=>?_)
 ·refine go4 ?_;refine rt1 ?_;exact congrArg vS1 (show _=(dZ b) from aH h5 (aH h9 (aC h13 O)))
 refine go3 ?_;refine sV (.int .i64 3) O O (go6 ?_);refine sV (.bool false) O O (go7 ?_);refine rt1 ?_;exact congrArg vS1 (show _=(dZ b) from aH h5 (aH h9 (aH h13 O)))
theorem y6 (x:Rt) :
    Ret prog 9 [AV [pI x.n,pI x.d]] (.bool (jK x)):=by
 refine bJ (N:=24) func9 O O zz_ (fun w0=>?_);refine giI ?_;refine go2 ?_;intro b1 hb1;refine go4 ?_;refine sQ (aX aE (n7 x) O) O (go2 ?_);refine gJv (rg [2] 6 18) [(2,.bool ((aV x)&&(decide (0≤(gW x).1)&&(decide ((jZ x (fI (wl 1))).1≤0)&&decide ((Z.bitsW x.d.dec).1≤12)))))] (fun K1 J1=>?_) ?_
 ·refine gdr s0 [0,4,8,12,16,20,24,28,32,36,40,44,48,52,56,60,64,68,72] [] mix (by kernel_rfl) (go_ ?_);refine pBB O (fun h5=>?_) (fun h5=>?_)
  ·refine go_ ?_;refine pQ O (aX aE (u9 x) O) (go2 ?_);refine pBB O (fun h6=>?_) (fun h6=>?_)
   ·have ph6:=of_decide_eq_true h6;refine go_ ?_;refine pQ O (aX aE (CN (wl 1)) O) ?_;refine pQ O (aX aE (B3 x (fI (wl 1))) O) ?_;refine go2 ?_;refine pBB O (fun h7=>?_) (fun h7=>?_)
    ·have ph7:=of_decide_eq_true h7;refine go2 ?_;refine pC (.int .i64 ((Z.bitsW x.d.dec).1)) aE (AR x.d.1 x.d.2) O O O (go4 ?_);refine J1 _ _ pp_ s0 (bS (k6 h5 (k6 h6 (k6 h7 O))))
    have ph7:=of_decide_eq_false h7;refine go7 ?_;refine J1 _ _ pp_ s0 (bS (k6 h5 (k6 h6 (oB h7))))
   have ph6:=of_decide_eq_false h6;refine H1 ?_;refine J1 _ _ pp_ s0 (bS (k6 h5 (oB h6)))
  refine Q4 ?_;refine J1 _ _ pp_ s0 (bS (oB h5))
 intro g8;refine go_ ?_;refine rt1 ?_;exact (by rfl)
theorem z5 (a:(A3 Rt)) (b:(A3 Rt)) :
  Ret prog 39 [AV [pI a.x.n,pI a.x.d,pI a.y.n,pI a.y.d,pI a.z.n,pI a.z.d],AV [pI b.x.n,pI b.x.d,pI b.y.n,pI b.y.d,pI b.z.n,pI b.z.d]] (AV [pI ((fJ a b).n),pI ((fJ a b).d)]):=by
 refine bJ (N:=22) func39 O O zz_ (fun w0=>?_);refine giI ?_;refine go2 ?_;intro b1 hb1;refine go_ ?_;intro b2 hb2;refine go_ ?_;intro b3 hb3;refine go2 ?_;refine sQ (aX aE (bV (wl 0)) O) O ?_;refine go_ ?_;intro b4 hb4;refine go7 ?_;refine rM 5 (go2 ?_);refine sV (.bool true) O O (iK ?_);refine mB (sd (sk (sk (sk s0)))) 10 [9] [9] (go7 ?_);refine pQ O (aX aE (wA a.x b.x) O) ?_;obtain ⟨r5,hr5⟩:=nm ((jD (aJ (wl 0)) (fW a.x b.x)):Rt);refine pC (AV [pI r5.n,pI r5.d]) aE (pK (aJ (wl 0)) (fW a.x b.x)) O O (by rw [hr5]) ?_;refine go3 ?_;refine sV (.int .i64 1) O O (go4 ?_);refine sV (.bool true) O O (iK ?_);refine mB (sd (sk (sk (sk s0)))) 10 [9] [9] (go7 ?_);refine pQ O (aX aE (wA a.y b.y) O) ?_;obtain ⟨r6,hr6⟩:=nm ((jD r5 (fW a.y b.y)):Rt);refine pC (AV [pI r6.n,pI r6.d]) aE (pK r5 (fW a.y b.y)) O O (by rw [hr6]) (go3 ?_);refine sV (.int .i64 2) O O (go4 ?_);refine sV (.bool true) O O (iK ?_);refine mB (sd (sk (sk (sk s0)))) 10 [9] [9] (go7 ?_);refine pQ O (aX aE (wA a.z b.z) O) ?_;obtain ⟨r7,hr7⟩:=nm ((jD r6 (fW a.z b.z)):Rt);refine pC (AV [pI r7.n,pI r7.d]) aE (pK r6 (fW a.z b.z)) O O (by rw [hr7]) (go3 ?_);refine sV (.int .i64 3) O O (go4 ?_);refine sV (.bool false) O O (go9 ?_);refine rtX O (fF O m1 tyT O) ?_;exact (by subst_vars;rfl)
theorem FP (a:(A3 Rt)) (b:(A3 Rt)) :
  Ret prog 38 [AV [pI a.x.n,pI a.x.d,pI a.y.n,pI a.y.d,pI a.z.n,pI a.z.d],AV [pI b.x.n,pI b.x.d,pI b.y.n,pI b.y.d,pI b.z.n,pI b.z.d]] (AV [pI (((jQ a b).x).n),pI (((jQ a b).x).d),pI (((jQ a b).y).n),pI (((jQ a b).y).d),pI (((jQ a b).z).n),pI (((jQ a b).z).d)]):=by
 refine bJ (N:=20) func38 O O zz_ (fun w0=>?_);refine giI ?_;refine go2 ?_;intro b1 hb1;refine go_ ?_;intro b2 hb2;refine go_ ?_;intro b3 hb3;refine go6 ?_;refine rM 5 (go2 ?_);refine sV (.bool true) O O (iK ?_);refine mB (sk (sk (sd s0))) 10 [9] [9] (go7 ?_);refine pQ O (aX aE (nD a.x b.x) O) (go4 ?_);refine sV (.int .i64 1) O O (go4 ?_);refine sV (.bool true) O O (iK ?_);refine mB (sk (sk (sd s0))) 10 [9] [9] (go7 ?_);refine pQ O (aX aE (nD a.y b.y) O) (go4 ?_);refine sV (.int .i64 2) O O (go4 ?_);refine sV (.bool true) O O (iK ?_);refine mB (sk (sk (sd s0))) 10 [9] [9] (go7 ?_);refine pQ O (aX aE (nD a.z b.z) O) (go4 ?_);refine sV (.int .i64 3) O O (go4 ?_);refine sV (.bool false) O O (go9 ?_);refine rtX O (fF O m0 tyT O) ?_;exact (by rfl)
theorem zU (vp:Value) (p:(List I)) (w:World) (hp:Slr w elI vp p) :
    Calls prog 143 [vp].toArray w (fun e w'=>e = .returned (.bool (dY p))∧Ext w w'):=by
 obtain ⟨p_p,c_p,rfl⟩:=hp.form;refine dB (N:=18) func143 O O zz_ ?_;obtain ⟨w0,rfl⟩:=nm w;have Hp:=hp.old;have hm_p:=hp.max;refine giI ?_;refine go7 ?_;refine gJ3 (rg [] 2 16) (fun g M=>∃ (i:Nat),(fX p (p.length+1) 0) = .inl i∧(g 3 = .int .i64 (i:Int))∧M=[]) (fun K_u1 hK_u1=>?_) ?_
 ·refine go_ ?_;refine cI (rg [] 2 16) (fun g nn M=>∃ (i:Nat),(fX p nn i)=(fX p (p.length+1) 0)∧p.length - i<nn∧(i≤p.length)∧(g 3 = .int .i64 (i:Int))∧M=[]) (p.length+1) ?start ?round
  case start=>exact ⟨_,s0,0,rfl,o1_,o1_,rfl,rfl⟩
  case round =>
   rintro nn g M ⟨i,hT0,hq0,hinv0,hg3,rfl⟩;obtain ⟨k0,rfl⟩:∃ m,nn=m+1:=⟨nn - 1,by omega⟩;refine gS1 hg3 ?_;clear hg3;refine go4 ?_;refine sQ (eK mF O (SLe.sub Hp sn)) O (go2 ?_);refine aN _ O (fun h6=>?_) (fun h6=>?_)
   ·have ph6:=of_decide_eq_true h6;refine go6 ?_;refine sQ (aS (v':=.pointer (some (slb (.slice p_p p.length c_p) (i*18+0)))) (eY (e:=elI) (l:=p) (k:=i) mF O O (SLe.sub Hp sn) o2_) O) O ?_;refine sQ (iS (e:=elI) (l:=p) (k:=i) (o:=0) tyT O (SLe.sub Hp sn) (cL I0 o2_) O) O ?_;refine sQ (aX aE (n8 (p.getD i I0)) O) O (go6 ?_);rcases bt (fO (p.getD i I0)) with h7|h7
    ·refine W_f (fZ h7) O (go3 ?_);refine sWi (((i+1):Nat):Int) O (go2 ?_);refine ⟨pp_,_,_,s0,(Nat.lt_succ_self _),(i+1),(by exact (hT0.symm.trans (Eq.symm (aC h6 (aC h7 O)))).symm),(Nat.lt_of_lt_of_le o1_ (Nat.le_of_lt_succ hq0)),o1_,rfl,rfl⟩
    refine W_t (gA h7) O (go4 ?_);refine rt1 ?_;exact congrArg vS1 (show _=(dY p) from (wQ O (hT0.symm.trans (Eq.symm (aC h6 (aH h7 O))))))
   have ph6:=of_decide_eq_false h6;refine go_ ?_;refine hK_u1 _ _ pp_ ⟨_,s0,i,(by exact hT0.symm.trans (Eq.symm (aH h6 O))),rfl,rfl⟩
 rintro g M ⟨i,hCu1,hg3,rfl⟩;refine gS1 hg3 ?_;clear hg3;refine go4 ?_;refine rt1 ?_;exact congrArg vS1 (show _=(dY p) from trs (Eq.symm (smS hCu1)) O)
theorem uE (n:I) (k:Int) (w:World)  (hpre:k≤200) :
    Calls prog 155 [AV [pI n],.int .i64 k].toArray w (fun e w'=>e = .returned (AV [pI (fU n k)])∧Ext w w'):=by
 refine dB (N:=17) func155 O O zz_ ?_;obtain ⟨w0,rfl⟩:=nm w;refine giI ?_;refine go2 ?_;intro b1 hb1;refine go_ ?_;intro b2 hb2;refine go2 ?_;refine sC (AV [pI (E (Z.of 1))]) aE (dO (wl 1).1 (wl 1).2) O O O ?_;refine go_ ?_;intro b3 hb3;refine go6 ?_;refine gJ3 (rg [6] 8 8) (fun g M=>∃ (i:Nat) (mb3:I),(gT n k (k.toNat+1) 0 (E (Z.of 1)))=(i,mb3)∧(g 6 = .int .i64 (i:Int))∧M=[⟨b3,33,aU [pI mb3]⟩,⟨b2,33,aU [pI I0]⟩,⟨b1,33,aU [pI n]⟩]) (fun K_u4 hK_u4=>?_) ?_
 ·refine go_ ?_;refine cI (rg [6] 8 8) (fun g nn M=>∃ (i:Nat) (mb3:I),(gT n k nn i mb3)=(gT n k (k.toNat+1) 0 (E (Z.of 1)))∧k.toNat - i<nn∧(i≤k.toNat)∧(g 6 = .int .i64 (i:Int))∧M=[⟨b3,33,aU [pI mb3]⟩,⟨b2,33,aU [pI I0]⟩,⟨b1,33,aU [pI n]⟩]) (k.toNat+1) ?start ?round
  case start=>exact ⟨_,s0,0,(E (Z.of 1)),rfl,o1_,o1_,rfl,rfl⟩
  case round =>
   rintro nn g M ⟨i,mb3,hT0,hq0,hinv0,hg6,rfl⟩;obtain ⟨k0,rfl⟩:∃ m,nn=m+1:=⟨nn - 1,by omega⟩;refine gS1 hg6 ?_;clear hg6;refine go6 ?_;refine aN _ O (fun h7=>?_) (fun h7=>?_)
   ·have ph7:=of_decide_eq_true h7;refine go6 ?_;refine sC (AV [pI (E (Z.mul mb3.dec n.dec))]) aE (rG mb3.1 n.1 mb3.2 n.2) O O O (go4 ?_);refine sWi (((i+1):Nat):Int) O (go2 ?_);refine ⟨pp_,_,_,s0,(Nat.lt_succ_self _),(i+1),(E (Z.mul mb3.dec n.dec)),(by exact (hT0.symm.trans (Eq.symm (aC h7 O))).symm),(Nat.lt_of_lt_of_le o1_ (Nat.le_of_lt_succ hq0)),o1_,rfl,rfl⟩
   have ph7:=of_decide_eq_false h7;refine go_ ?_;refine hK_u4 _ _ pp_ ⟨_,s0,i,mb3,(by exact hT0.symm.trans (Eq.symm (aH h7 O))),rfl,rfl⟩
 rintro g M ⟨i,mb3,hCu4,hg6,rfl⟩;refine gS1 hg6 ?_;clear hg6;refine go5 ?_;refine rtX O (fF O m1 tyT O) ?_;exact congrArg vS3 (show _=(fU n k) from (by unfold fU;exact trs (Eq.symm (apS hCu4)) O))
theorem AZ (a:Rt) :
    Ret prog 202 [AV [pI a.n,pI a.d]] (.bool (kB a)):=by
 refine bJ (N:=26) func202 O O zz_ (fun w0=>?_);refine giI ?_;refine go2 ?_;intro b1 hb1;refine go3 ?_;refine gJv (rg [] 3 16) [(18,.bool (!(fO a.n)||(!(fO a.d)||decide ((Z.signW a.d.dec).1≤0))))] (fun K2 J2=>?_) ?_
 ·refine go3 ?_;refine sQ (aX aE (n8 a.n) O) O (go_ ?_);rcases bt (fO a.n) with h4|h4
  ·refine sB (fZ h4) O (go2 ?_);refine sQ (aX aE (n8 a.d) O) O (go2 ?_);rcases bt (fO a.d) with h5|h5
   ·refine sB (fZ h5) O (go2 ?_);refine sC (.int .i64 ((Z.signW a.d.dec).1)) aE (fK a.d.1 a.d.2) O O O (go3 ?_);refine J2 _ _ pp_ s0 (bS (o8 h4 (o8 h5 O)))
   refine sB (gA h5) O (go6 ?_);refine J2 _ _ pp_ s0 (bS (o8 h4 (tH h5)))
  refine sB (gA h4) O (yP ?_);refine J2 _ _ pp_ s0 (bS (tH h4))
 intro g6;refine aN _ O (fun h7=>?_) (fun h7=>?_)
 ·refine go4 ?_;refine rt1 ?_;exact congrArg vS1 (show _=(kB a) from aC h7 O)
 refine go6 ?_;refine sC (AV [pI (E (Z.gcd a.n.dec a.d.dec))]) aE (k9 a.n.1 a.d.1 a.n.2 a.d.2) O O O (sC (AV [pI (E (Z.of 1))]) aE (dO (wl 1).1 (wl 1).2) O O O ?_);refine sQ (gI (r:=decide ((E (Z.gcd a.n.dec a.d.dec))=(E (Z.of 1)))) O O (dR 8 dd_ SS S6 (cM bG) (cM bG) (eJ cY))) O (go3 ?_);refine rt1 ?_;exact congrArg vS1 (show _=(kB a) from aH h7 O)
theorem zV (vp:Value) (p:(List I)) (x:Rt) (w:World) (hp:Slr w elI vp p) (hpre:p.length≤100) :
    Calls prog 154 [vp,AV [pI x.n,pI x.d]].toArray w (fun e w'=>e = .returned (AV [pI (gM p x)])∧Ext w w'):=by
 obtain ⟨p_p,c_p,rfl⟩:=hp.form;refine dB (N:=42) func154 O O zz_ ?_;obtain ⟨w0,rfl⟩:=nm w;have Hp:=hp.old;have hm_p:=hp.max;refine giI ?_;refine go2 ?_;intro b1 hb1;refine go_ ?_;intro b2 hb2;refine go2 ?_;refine gJv [7,8,9,10,11,12,13] [(13,.bool ((dY p)||(!(kB x))))] (fun K2 J2=>?_) ?_
 ·refine go2 ?_;refine sFc (.bool (dY p)) O (c1_ (zU _ p) Hp sn) O O ?_;refine sBB O (fun h4=>?_) (fun h4=>?_)
  ·refine go5 ?_;refine J2 _ _ pp_ s0 (bS (oH h4))
  refine go_ ?_;refine sQ (aX aE (AZ x) O) O (go3 ?_);refine J2 _ _ pp_ s0 (bS (mO h4 O))
 intro g5;refine aN _ O (fun h6=>?_) (fun h6=>?_)
 ·refine go_ ?_;refine sC (AV [pI (E Z.bad)]) aE eA O O O (go3 ?_);refine rtX O (fF O m0 tyT O) ?_;exact congrArg vS3 (show _=(gM p x) from aC h6 O)
 refine go4 ?_;intro b7 hb7;refine go5 ?_;refine sQ (eK mF O (SLe.sub Hp sn)) O (sWi ((p.length:Int) - 1) O (go2 ?_));refine gJ3 (rg [6] 19 22) (fun g M=>∃ (i:Int) (mb7:I),(gU p x (p.length+1) ((p.length:Int) - 1) I0)=(i,mb7)∧(g 6 = .int .i64 i)∧M=[⟨b7,33,aU [pI mb7]⟩,⟨b2,33,aU [pI I0]⟩,⟨b1,35,aU [pI x.n,pI x.d]⟩]) (fun K_u8 hK_u8=>?_) ?_
 ·refine go_ ?_;refine cI (rg [6] 19 22) (fun g nn M=>∃ (i:Int) (mb7:I),(gU p x nn i mb7)=(gU p x (p.length+1) ((p.length:Int) - 1) I0)∧(i+1).toNat<nn∧(i<(p.length:Int)∧-1≤i)∧(g 6 = .int .i64 i)∧M=[⟨b7,33,aU [pI mb7]⟩,⟨b2,33,aU [pI I0]⟩,⟨b1,35,aU [pI x.n,pI x.d]⟩]) (p.length+1) ?start ?round
  case start=>exact ⟨_,s0,((p.length:Int) - 1),I0,rfl,o1_,o1_,rfl,rfl⟩
  case round =>
   rintro nn g M ⟨i,mb7,hT0,hq0,hinv0,hg6,rfl⟩;obtain ⟨k0,rfl⟩:∃ m,nn=m+1:=⟨nn - 1,by omega⟩;refine gS1 hg6 ?_;clear hg6;refine go5 ?_;refine aN _ O (fun h13=>?_) (fun h13=>?_)
   ·have ph13:=of_decide_eq_true h13;refine go3 ?_;refine gdr (sd s0) [0,4,8,12,16,20,24,28,32,36,40,44,48,52,56,60,64,68,73] [18] mix (by kernel_rfl) (go3 ?_);refine pC (AV [pI (E (Z.mul mb7.dec x.n.dec))]) aE (rG mb7.1 x.n.1 mb7.2 x.n.2) O O O (go2 ?_);refine pQ O (aS (v':=.pointer (some (slb (.slice p_p p.length c_p) ((i.toNat)*18+0)))) (AL (e:=elI) (l:=p) (k:=(i).toNat) mF O O oo_ (SLe.sub Hp sn) o2_) O) ?_;refine pQ O (iS (e:=elI) (l:=p) (k:=(i).toNat) (o:=0) tyT O (SLe.sub Hp sn) (cL I0 o2_) O) ?_;refine go3 ?_;refine pQ O (eK mF O (SLe.sub Hp sn)) (pV (.int .i64 ((p.length:Int) - 1)) O wxo (go_ ?_));refine pV (.int .i64 (((p.length:Int) - 1) - i)) O wxo (pQ O (aS (v':=AV [pI (fU x.d (((p.length:Int) - 1) - i))]) (dJ aE O (fun w hw=>uE x.d (((p.length:Int) - 1) - i) w oo_)) O) ?_);obtain ⟨r14,hr14⟩:=nm ((E (Z.mul (p.getD (i.toNat) I0).dec (fU x.d (((p.length:Int) - 1) - i)).dec)):I);refine pC (AV [pI r14]) aE (rG (p.getD (i.toNat) I0).1 (fU x.d (((p.length:Int) - 1) - i)).1 (p.getD (i.toNat) I0).2 (fU x.d (((p.length:Int) - 1) - i)).2) O O (by subst hr14;rfl) (pC (AV [pI (E (Z.add (Z.mul mb7.dec x.n.dec) r14.dec))]) aE (BS (E (Z.mul mb7.dec x.n.dec)).1 r14.1 (E (Z.mul mb7.dec x.n.dec)).2 r14.2) O O (cg2 (fun p q=>AV [pI (E (Z.add p q))]) (dQ _) O) (go4 ?_));refine sWi (i - 1) O (go2 ?_);refine ⟨pp_,_,_,s0,(Nat.lt_succ_self _),(i - 1),(E (Z.add (Z.mul mb7.dec x.n.dec) r14.dec)),(by subst hr14;exact (hT0.symm.trans (Eq.symm (aC h13 O))).symm),(Nat.lt_of_lt_of_le o1_ (Nat.le_of_lt_succ hq0)),o1_,rfl,rfl⟩
   have ph13:=of_decide_eq_false h13;refine go_ ?_;refine hK_u8 _ _ pp_ ⟨_,s0,i,mb7,(by exact hT0.symm.trans (Eq.symm (aH h13 O))),rfl,rfl⟩
 rintro g M ⟨i,mb7,hCu8,hg6,rfl⟩;refine gS1 hg6 ?_;clear hg6;refine go5 ?_;refine rtX O (fF O m1 tyT O) ?_;exact congrArg vS3 (show _=(gM p x) from aH h6 (trs (Eq.symm (apS hCu8)) O))
theorem AU (vp:Value) (p:(List I)) (x:Rt) (w:World) (hp:Slr w elI vp p) (hpre:p.length≤100) :
  Calls prog 82 [vp,AV [pI x.n,pI x.d]].toArray w (fun e w'=>e = .returned (AV [pI ((jE p x).n),pI ((jE p x).d)])∧Ext w w'):=by
 obtain ⟨p_p,c_p,rfl⟩:=hp.form;refine dB (N:=16) func82 O O zz_ ?_;obtain ⟨w0,rfl⟩:=nm w;have Hp:=hp.old;have hm_p:=hp.max;refine giI ?_;refine go2 ?_;intro b1 hb1;refine go_ ?_;intro b2 hb2;refine go_ ?_;refine nK (sd s0) 12 [11] [11] (go2 ?_);refine pQ O (aS (v':=AV [pI (gM p x)]) (dJ aE O (fun w hw=>zV _ p x w (aR hw Hp sn) oo_)) O) (go3 ?_);refine pQ O (eK mF O (SLe.sub Hp sn)) (pV (.int .i64 ((p.length:Int) - 1)) O wxo (pQ O (aS (v':=.int .i64 (((p.length:Int) - 1).toNat:Int)) (nV O O) (congrArg (Value.int .i64) oo_)) ?_));obtain ⟨r3,hr3⟩:=nm ((fU x.d (((p.length:Int) - 1).toNat:Int)):I);refine pQ O (aS (v':=AV [pI r3]) (dJ aE O (fun w hw=>uE x.d (((p.length:Int) - 1).toNat:Int) w oo_)) (by subst hr3;rfl)) ?_;obtain ⟨r4,hr4⟩:=nm ((bR (gM p x) r3):Rt);refine pC (AV [pI r4.n,pI r4.d]) aE (u7 (gM p x) r3) O O (by rw [hr4]) (go3 ?_);refine rtX O (fF O m0 tyT O) ?_;exact (by subst_vars;rfl)
theorem xP (vp:Value) (p:(List I)) (x:Rt) (w:World) (hp:Slr w elI vp p) (hpre:p.length≤100) :
  Calls prog 41 [vp,AV [pI x.n,pI x.d]].toArray w (fun e w'=>e = .returned (.bool (iU p x))∧Ext w w'):=by
 obtain ⟨p_p,c_p,rfl⟩:=hp.form;refine dB (N:=10) func41 O O zz_ ?_;obtain ⟨w0,rfl⟩:=nm w;have Hp:=hp.old;have hm_p:=hp.max;refine giI ?_;refine go2 ?_;intro b1 hb1;refine go5 ?_;refine sFc (AV [pI ((jE p x).n),pI ((jE p x).d)]) O (fun w hw=>AU _ p x w (aR hw Hp sn) oo_) O O (sQ (aX aE (u9 (jE p x)) O) O (go4 ?_));refine rt1 ?_;exact (by rfl)
theorem F7 (h:Path) (b:(A3 W)) (u:(A3 W)) (p_c:Option Addr) (c_c:Nat) (c:(List (A3 W))) (x:Rt) (w:World) (hc:Slr w elV (.slice p_c c.length c_c) c) :
    Calls prog 5 [AV [cw h.from_.x.x.1,cw h.from_.x.y.1,cw h.from_.x.z.1,cw h.from_.q.x.1,cw h.from_.q.y.1,cw h.from_.q.z.1,cw h.from_.q.t.1,cw h.to_.x.x.1,cw h.to_.x.y.1,cw h.to_.x.z.1,cw h.to_.q.x.1,cw h.to_.q.y.1,cw h.to_.q.z.1,cw h.to_.q.t.1],AV [cw b.x.1,cw b.y.1,cw b.z.1],AV [cw u.x.1,cw u.y.1,cw u.z.1],AV [csl p_c c.length c_c],AV [pI x.n,pI x.d]].toArray w (fun e w'=>e = .returned (.bool (fB h b u c x))∧Ext w w'):=by
 refine dB (N:=125) func5 O O zz_ ?_;obtain ⟨w0,rfl⟩:=nm w;have Hc:=hc.old;have hm_c:=hc.max;refine giI ?_;refine go2 ?_;intro b1 hb1;refine go_ ?_;intro b2 hb2;refine go_ ?_;intro b3 hb3;refine go_ ?_;intro b4 hb4;refine go_ ?_;intro b5 hb5;refine go3 ?_;refine gJv (rg [] 19 23) [(41,.bool (((fT h).1 != 0)||(!(dZ b)||(!(dZ u)||(!(jK x)||(!(e8 c)))))))] (fun K2 J2=>?_) ?_
 ·refine go2 ?_;refine sQ (aX aE (w7 h) O) O (go_ ?_);refine sBB O (fun h10=>?_) (fun h10=>?_)
  ·refine en_ ?_;refine J2 _ _ pp_ s0 (bS (oH h10))
  refine go_ ?_;refine sQ (aX aE (uG b) O) O (go2 ?_);rcases bt (dZ b) with h11|h11
  ·refine sB (fZ h11) O (go_ ?_);refine sQ (aX aE (uG u) O) O (go2 ?_);rcases bt (dZ u) with h12|h12
   ·refine sB (fZ h12) O (go_ ?_);refine sQ (aX aE (y6 x) O) O (go2 ?_);rcases bt (jK x) with h13|h13
    ·refine sB (fZ h13) O (go_ ?_);refine sFc (.bool (e8 c)) O (c1_ (vJ _ _ c) Hc sn) O O (go3 ?_);refine J2 _ _ pp_ s0 (bS (mO h10 (o8 h11 (o8 h12 (o8 h13 O)))))
    refine sB (gA h13) O (go5 ?_);refine J2 _ _ pp_ s0 (bS (mO h10 (o8 h11 (o8 h12 (tH h13)))))
   refine sB (gA h12) O (iK ?_);refine J2 _ _ pp_ s0 (bS (mO h10 (o8 h11 (tH h12))))
  refine sB (gA h11) O (xK ?_);refine J2 _ _ pp_ s0 (bS (mO h10 (tH h11)))
 intro g14;refine aN _ O (fun h15=>?_) (fun h15=>?_)
 ·refine go_ ?_;refine sQ (aX aE nE  rfl) O (go3 ?_);refine rt1 ?_;exact congrArg vS1 (show _=(fB h b u c x) from aC h15 O)
 refine go_ ?_;refine nK s0 11 [9,10] [10] (go3 ?_);obtain ⟨r16,hr16⟩:=nm ((i8 h b x):(A3 Rt));refine pC (AV [pI r16.x.n,pI r16.x.d,pI r16.y.n,pI r16.y.d,pI r16.z.n,pI r16.z.d]) aE (yG h b x) O O (by rw [hr16]) (go3 ?_);obtain ⟨r17,hr17⟩:=nm ((i8 h u x):(A3 Rt));refine pC (AV [pI r17.x.n,pI r17.x.d,pI r17.y.n,pI r17.y.d,pI r17.z.n,pI r17.z.d]) aE (yG h u x) O O (by rw [hr17]) ?_;obtain ⟨r18,hr18⟩:=nm ((jQ r16 r17):(A3 Rt));refine pC (AV [pI r18.x.n,pI r18.x.d,pI r18.y.n,pI r18.y.d,pI r18.z.n,pI r18.z.d]) aE (FP r16 r17) O O (by rw [hr18]) (dF O O (eQ zpT (fun b19 hb19=>⟨(fun _=>sd s0),(sd s0),?_⟩)));refine go7 ?_;refine sV (.int .i64 ((W.sub b.x u.x).1)) O O (go4 ?_);refine sV (.int .i64 ((W.sub b.y u.y).1)) O O (go4 ?_);refine sV (.int .i64 ((W.sub b.z u.z).1)) O O (go_ ?_);obtain ⟨r20,hr20⟩:=nm ((kG (⟨(W.sub b.x u.x),(W.sub b.y u.y),(W.sub b.z u.z)⟩:(A3 W))):(A3 Rt));refine sC (AV [pI r20.x.n,pI r20.x.d,pI r20.y.n,pI r20.y.d,pI r20.z.n,pI r20.z.d]) aE (DM (⟨(W.sub b.x u.x),(W.sub b.y u.y),(W.sub b.z u.z)⟩:(A3 W))) O O (by rw [hr20]) (go_ ?_);intro b21 hb21;refine go2 ?_;refine oA (sk (sk (sk (sk (sd (sd s0)))))) ?_;refine go_ ?_;refine nK s0 7 [] [] (go2 ?_);refine pQ O (aX aE (z5 r18 r18) O) (go2 ?_);refine pQ O (aX aE (z5 r20 r20) O) ?_;refine pQ O (yW (r:=(decide (((fJ r18 r18).n)=((fJ r20 r20).n))&&decide (((fJ r18 r18).d)=((fJ r20 r20).d)))) O O (dR 8 dd_ el_ es_ (aD bG (cM bG)) (aD bG (cM bG)) (aQ O cY (eJ cY)))) (go_ ?_);rcases bt (decide (((fJ r18 r18).n)=((fJ r20 r20).n))&&decide (((fJ r18 r18).d)=((fJ r20 r20).d))) with h22|h22
 ·refine W_f (fZ h22) O (go_ ?_);refine oA (sd (sd s0)) ?_;refine go3 ?_;refine sFc (.tuple #[AV [cw ((((aP h c).1).x).1),cw ((((aP h c).1).y).1),cw ((((aP h c).1).z).1)],AV [cw ((((aP h c).2).x).1),cw ((((aP h c).2).y).1),cw ((((aP h c).2).z).1)]]) O (c1_ (AJ h _ _ c) Hc sn) O O (go4 ?_);intro b23 hb23;refine go_ ?_;intro b24 hb24;refine go7 ?_;refine sQ (eK iY O (SLe.sub Hc sn)) O (go2 ?_);refine gJ3 (rg [10,16,17,18] 85 33) (fun g M=>(fC h b u c x r16 r17 r18 r20 c) = .inl ()∧(True)∧M=[⟨b24,23,aU [cw ((((aP h c).2).x).1),cw ((((aP h c).2).y).1),cw ((((aP h c).2).z).1)]⟩,⟨b23,23,aU [cw ((((aP h c).1).x).1),cw ((((aP h c).1).y).1),cw ((((aP h c).1).z).1)]⟩,⟨b5,35,aU [pI x.n,pI x.d]⟩,⟨b4,52,aU [csl p_c c.length c_c]⟩,⟨b1,29,aU [cw h.from_.x.x.1,cw h.from_.x.y.1,cw h.from_.x.z.1,cw h.from_.q.x.1,cw h.from_.q.y.1,cw h.from_.q.z.1,cw h.from_.q.t.1,cw h.to_.x.x.1,cw h.to_.x.y.1,cw h.to_.x.z.1,cw h.to_.q.x.1,cw h.to_.q.y.1,cw h.to_.q.z.1,cw h.to_.q.t.1]⟩]) (fun K_u25 hK_u25=>?_) ?_
  ·refine go_ ?_;have hmx0:(c).length≤9223372036854775807:=hm_c;refine cI (rg [10,16,17,18] 85 33) (fun g nn M=>∃ (i0:Nat) (l0:List (A3 W)),(fC h b u c x r16 r17 r18 r20 l0)=(fC h b u c x r16 r17 r18 r20 c)∧(c).drop i0=l0∧l0.length=nn∧g 85 = .int .i64 (i0:Int)∧(True)∧M=[⟨b24,23,aU [cw ((((aP h c).2).x).1),cw ((((aP h c).2).y).1),cw ((((aP h c).2).z).1)]⟩,⟨b23,23,aU [cw ((((aP h c).1).x).1),cw ((((aP h c).1).y).1),cw ((((aP h c).1).z).1)]⟩,⟨b5,35,aU [pI x.n,pI x.d]⟩,⟨b4,52,aU [csl p_c c.length c_c]⟩,⟨b1,29,aU [cw h.from_.x.x.1,cw h.from_.x.y.1,cw h.from_.x.z.1,cw h.from_.q.x.1,cw h.from_.q.y.1,cw h.from_.q.z.1,cw h.from_.q.t.1,cw h.to_.x.x.1,cw h.to_.x.y.1,cw h.to_.x.z.1,cw h.to_.q.x.1,cw h.to_.q.y.1,cw h.to_.q.z.1,cw h.to_.q.t.1]⟩]) c.length ?start ?round
   case start=>exact ⟨_,s0,0,c,rfl,rfl,rfl,rfl,trivial,rfl⟩
   case round =>
    rintro nn g M ⟨i0,l0,hT0,hr0,rfl,hgi,-,rfl⟩;refine gS1 hgi ?_;clear hgi;refine go4 ?_;rcases l0 with _|⟨x0,l0⟩
    ·have h68:=yD hr0;refine W_f h68 O (go_ ?_);refine hK_u25 _ _ pp_ ⟨_,s0,(by exact hT0.symm.trans (Eq.symm rfl)),trivial,rfl⟩
    have h69:=wH hr0;have g70:=sK hr0;refine W_t h69 O (go4 ?_);refine sQ (aS (v':=.pointer (some (slb (.slice p_c c.length c_c) (i0*3+0)))) (eY (e:=elV) (l:=c) (k:=i0) iY O O (SLe.sub Hc sn) g70.2.1) O) O (sQ (iS (e:=elV) (l:=c) (k:=i0) (o:=0) tyT O (SLe.sub Hc sn) g70.1 O) O (go_ ?_));intro b71 hb71;refine go6 ?_;obtain ⟨r72,hr72⟩:=nm ((i8 h x0 x):(A3 Rt));refine sC (AV [pI r72.x.n,pI r72.x.d,pI r72.y.n,pI r72.y.d,pI r72.z.n,pI r72.z.d]) aE (yG h x0 x) O O (by rw [hr72]) (go_ ?_);intro b73 hb73;refine go6 ?_;refine rM 5 (go2 ?_);refine sV (.bool true) O O (iK ?_);refine gJv (rg [] 96 20) [(115,.bool (decide (0<(cH (aJ (((aP h c).1).x)) r72.x).1)||decide (0<(cH r72.x (aJ (((aP h c).2).x))).1)))] (fun K42 J42=>?_) ?_
    ·refine gdr s0 [0,4,8,12,16,20,24,28,32,36,40,44,48,52,56,60,64,68,72,76] [] mix (by kernel_rfl) (go3 ?_);refine pQ O (aX aE (bV (((aP h c).1).x)) O) (go3 ?_);refine pQ O (aX aE (iV (aJ (((aP h c).1).x)) r72.x) O) (go_ ?_);refine pBB O (fun h76=>?_) (fun h76=>?_)
     ·have ph76:=of_decide_eq_true h76;refine wN ?_;refine J42 _ _ pp_ s0 (bS (oH h76))
     have ph76:=of_decide_eq_false h76;refine go6 ?_;refine pQ O (aX aE (bV (((aP h c).2).x)) O) (pQ O (aX aE (iV r72.x (aJ (((aP h c).2).x))) O) (go3 ?_));refine J42 _ _ pp_ s0 (bS (mO h76 O))
    intro g77;refine aN _ O (fun h78=>?_) (fun h78=>?_)
    ·refine go4 ?_;refine rt1 ?_;exact (by obtain rfl:=hr72.symm;obtain rfl:=hr20.symm;obtain rfl:=hr18.symm;obtain rfl:=hr17.symm;obtain rfl:=hr16.symm;exact congrArg vS1 (show _=(fB h b u c x) from aH h15 (aC h22 (wQ O (hT0.symm.trans (Eq.symm (aC h78 O)))))))
    refine go2 ?_;refine sV (.int .i64 1) O O (go4 ?_);refine sV (.bool true) O O (iK ?_);refine gJv (rg [] 96 20) [(115,.bool (decide (0<(cH (aJ (((aP h c).1).y)) r72.y).1)||decide (0<(cH r72.y (aJ (((aP h c).2).y))).1)))] (fun K46 J46=>?_) ?_
    ·refine gdr s0 [0,4,8,12,16,20,24,28,32,36,40,44,48,52,56,60,64,68,72,76] [] mix (by kernel_rfl) (go3 ?_);refine pQ O (aX aE (bV (((aP h c).1).y)) O) (go3 ?_);refine pQ O (aX aE (iV (aJ (((aP h c).1).y)) r72.y) O) (go_ ?_);refine pBB O (fun h81=>?_) (fun h81=>?_)
     ·have ph81:=of_decide_eq_true h81;refine wN ?_;refine J46 _ _ pp_ s0 (bS (oH h81))
     have ph81:=of_decide_eq_false h81;refine go6 ?_;refine pQ O (aX aE (bV (((aP h c).2).y)) O) (pQ O (aX aE (iV r72.y (aJ (((aP h c).2).y))) O) (go3 ?_));refine J46 _ _ pp_ s0 (bS (mO h81 O))
    intro g82;refine aN _ O (fun h83=>?_) (fun h83=>?_)
    ·refine go4 ?_;refine rt1 ?_;exact (by obtain rfl:=hr72.symm;obtain rfl:=hr20.symm;obtain rfl:=hr18.symm;obtain rfl:=hr17.symm;obtain rfl:=hr16.symm;exact congrArg vS1 (show _=(fB h b u c x) from aH h15 (aC h22 (wQ O (hT0.symm.trans (Eq.symm (aH h78 (aC h83 O))))))))
    refine go2 ?_;refine sV (.int .i64 2) O O (go4 ?_);refine sV (.bool true) O O (iK ?_);refine gJv (rg [] 96 20) [(115,.bool (decide (0<(cH (aJ (((aP h c).1).z)) r72.z).1)||decide (0<(cH r72.z (aJ (((aP h c).2).z))).1)))] (fun K50 J50=>?_) ?_
    ·refine gdr s0 [0,4,8,12,16,20,24,28,32,36,40,44,48,52,56,60,64,68,72,76] [] mix (by kernel_rfl) (go3 ?_);refine pQ O (aX aE (bV (((aP h c).1).z)) O) (go3 ?_);refine pQ O (aX aE (iV (aJ (((aP h c).1).z)) r72.z) O) (go_ ?_);refine pBB O (fun h86=>?_) (fun h86=>?_)
     ·have ph86:=of_decide_eq_true h86;refine wN ?_;refine J50 _ _ pp_ s0 (bS (oH h86))
     have ph86:=of_decide_eq_false h86;refine go6 ?_;refine pQ O (aX aE (bV (((aP h c).2).z)) O) (pQ O (aX aE (iV r72.z (aJ (((aP h c).2).z))) O) (go3 ?_));refine J50 _ _ pp_ s0 (bS (mO h86 O))
    intro g87;refine aN _ O (fun h88=>?_) (fun h88=>?_)
    ·refine go4 ?_;refine rt1 ?_;exact (by obtain rfl:=hr72.symm;obtain rfl:=hr20.symm;obtain rfl:=hr18.symm;obtain rfl:=hr17.symm;obtain rfl:=hr16.symm;exact congrArg vS1 (show _=(fB h b u c x) from aH h15 (aC h22 (wQ O (hT0.symm.trans (Eq.symm (aH h78 (aH h83 (aC h88 O)))))))))
    refine go2 ?_;refine sV (.int .i64 3) O O (go4 ?_);refine sV (.bool false) O O (go5 ?_);refine sV (.int .i64 ((i0+1:Nat):Int)) O (congrArg (Value.int .i64) (nxt g70.2.1 hmx0)) (go2 ?_);refine ⟨pp_,_,_,(sd (sd s0)),(Nat.lt_succ_self _),i0+1,l0,(by obtain rfl:=hr72.symm;exact (hT0.symm.trans (Eq.symm (aH h78 (aH h83 (aH h88 O))))).symm),g70.2.2,rfl,rfl,trivial,rfl⟩
  rintro g M ⟨hCu25,-,rfl⟩;refine gS0 ?_;refine gJv (rg [10] 118 7) [(10,.bool (fH&&(iU (eT h) x)))] (fun K53 J53=>?_) ?_
  ·refine gdr s0 [0,4,8,16,13,20,24,28] [] mix (by kernel_rfl) (pQ O (aX aE nE  rfl) ?_);refine pBB O (fun h95=>?_) (fun h95=>?_)
   ·refine go2 ?_;refine dF O O (cG (E:=33) (e:=elI) (l:=(eT h)) (fun v=>v) aE O (fun w hw=>nN h w) (fun p96 c97 L98 hF99=>⟨(fun _=>sR s0),(sR s0),?_⟩));have hb100:=(lD h);refine pQ O (aS (v':=.bool (iU (eT h) x)) (dJ aE O (fun w hw=>xP _ (eT h) x w (aO hw hF99 lZ) oo_)) O) (go3 ?_);refine J53 _ _ pp_ (sR s0) (bS (k6 h95 O))
   refine go7 ?_;refine J53 _ _ pp_ s0 (bS (oB h95))
  intro g101;refine go_ ?_;refine rt1 ?_;exact (by obtain rfl:=hr20.symm;obtain rfl:=hr18.symm;obtain rfl:=hr17.symm;obtain rfl:=hr16.symm;exact congrArg vS1 (show _=(fB h b u c x) from aH h15 (aC h22 (trs (Eq.symm (smS hCu25)) O))))
 refine W_t (gA h22) O (oA (sd (sd s0)) ?_);refine go4 ?_;refine rt1 ?_;exact (by obtain rfl:=hr20.symm;obtain rfl:=hr18.symm;obtain rfl:=hr17.symm;obtain rfl:=hr16.symm;exact congrArg vS1 (show _=(fB h b u c x) from aH h15 (aH h22 O)))
end Go.Proofs.YtbjlhfochebmiaaGreatDoor
namespace Go.Num
open Go Go.Kn
theorem WD (a b:A3 Rt):jQ a b=oN a b:=by unfold jQ oN;rw [HJ,HJ,HJ]
theorem N0 (a b:A3 Rt):fJ a b=rD a b:=by
 unfold fJ rD;simp only [WE,HG,N1];rw [UE (bI_ _ _)]
theorem ai_ (a b:Rt):cH a b=jZ a b:=by
 unfold cH jZ fN;rw [sH,sH]
 cases aV a<;>cases aV b<;>simp only [Bool.not_true,Bool.not_false,Bool.or_true,Bool.true_or,Bool.or_false,Bool.and_true,Bool.and_false,Bool.false_and,Bool.true_and,cond_true,cond_false,dQ]<;>rfl
theorem d3_ {a:Rt} (h:aV a=true):∃ n d,Rt.Is a n d:=d2_.1 h
theorem ZN {x:Int}:x.sign≤0 ↔ x≤0:=Int.sign_nonpos_iff
theorem ZM {x:Int}:0<x.sign ↔ 0<x:=Int.sign_pos_iff
theorem aU_ {a:Rt} (h:aV a=true):∃ q,a.At q:=by
 obtain ⟨n,d,h1⟩:=d3_ h;obtain ⟨q,h2,_⟩:=bL_ h1;exact ⟨q,h2⟩
theorem WA {a b:Rt} {p q:Rat} (ha:a.At p) (hb:b.At q):0<(cH a b).1 ↔ q<p:=by
 rw [QK ha hb,ZM,Rat.lt_iff];omega
theorem co_ {a b:Rt} {p q:Rat} (ha:a.At p) (hb:b.At q):(cH a b).1≤0 ↔ p≤q:=by
 rw [QK ha hb,ZN,Rat.le_iff];omega
theorem Sz.bn {q:Rat} {k:Nat} (h:Sz q k) (hk:k≤512):e9 q.num:=uI h.n hk
theorem Sz.inv {p:Rat} {k:Nat} (h:Sz p k) (h0:p≠0):Sz p⁻¹ k:=by
 have hn:p.num≠0:=fun h=>h0 (Rat.num_eq_zero.1 h)
 constructor
 ·rw [Rat.num_inv,Int.natAbs_mul,Int.natAbs_sign_of_ne_zero hn,Nat.one_mul,Int.natAbs_natCast];exact h.d
 rw [Rat.den_inv,if_neg hn];exact h.n
theorem cr_ {a b:Rt} {p q:Rat} (ha:a.At p) (hb:b.At q) (hn:e9 (p*q).num) (hd:e9 ((p*q).den:Int)):(iC a b).At (p*q):=by
 unfold iC;rw [wT ha,wT hb];obtain ⟨x,y,r,s,e1,e2,b1,b2,b3,b4,h1,h2,hc,he⟩:=HI ha hb;simp only [Bool.not_true,Bool.or_false,cond_false,e1,e2,dQ];rw [qE b1 b3,qE b2 b4];have hps:0<y*s:=Int.mul_pos h1 h2
 have hpq:p*q=Rat.divInt (x*r) (y*s):=by
  rw [← Rat.num_divInt_den p,← Rat.num_divInt_den q,Rat.divInt_mul_divInt];exact (Rat.divInt_eq_divInt_iff (by have:=@uT p;have:=@uT q;exact Int.mul_ne_zero oo_ oo_) oo_).2 (by rw [he])
 have hnum:(p*q).num=x*r:=by
  rw [hpq,Rat.num_divInt,Int.gcd_comm,hc,Int.sign_eq_one_of_pos hps];simp
 have hden:((p*q).den:Int)=y*s:=by
  rw [hpq,Rat.den_divInt,if_neg oo_,Int.gcd_comm,hc,Nat.div_one];omega
 rw [hnum] at hn;rw [hden] at hd;exact x9 hn hd hps (by rw [hnum,hden])
theorem YC {n d:Int} (hn:e9 n) (hd:e9 d) (hp:d<0):bR (E (Z.of n)) (E (Z.of d))=bR (E (Z.of (-n))) (E (Z.of (-d))):=by
 have hn':e9 (-n):=by unfold e9 at *;rw [Int.natAbs_neg];exact hn
 have hd':e9 (-d):=by unfold e9 at *;rw [Int.natAbs_neg];exact hd
 rw [O7 hn' hd' oo_];unfold bR
 have h1:((Z.signW (E (Z.of d)).dec).1==0)=false:=by rw [dQ,pA hd,Int.sign_eq_neg_one_of_neg hp];rfl
 have h2:decide ((Z.signW (E (Z.of d)).dec).1<0)=true:=by rw [dQ,pA hd,Int.sign_eq_neg_one_of_neg hp];rfl
 have hg:0<((Int.gcd n d:Nat):Int):=by
  have:=Int.gcd_pos_of_ne_zero_right n (show d≠0 by omega);omega
 have hb:=OR (u:=n) hd oo_
 have hb':e9 (-((Int.gcd n d:Nat):Int)):=by unfold e9 at *;rw [Int.natAbs_neg];exact hb
 rw [yQ hn,yQ hd,h1,h2,dQ,dQ,B9 hn hd,RD hb];simp only [Bool.not_true,Bool.or_false,cond_false,cond_true];rw [AN hn hb' oo_,AN hd hb' oo_,Int.neg_gcd,Int.gcd_neg]
 have e:∀ u:Int,u.fdiv (-((Int.gcd n d:Nat):Int))=(-u) / ((Int.gcd n d:Nat):Int):=fun u=>by
  rw [← EL hg,← Int.neg_fdiv_neg,Int.neg_neg]
 rw [e,e]
theorem cq_ {b:Rt} {q:Rat} (hb:b.At q) (h0:q≠0):(bR b.d b.n).At q⁻¹:=by
 have ib:=At.is hb;rw [ib.en,ib.ed];have hn:q.num≠0:=fun h=>h0 (Rat.num_eq_zero.1 h);have hd:=@uT q;have e1:=Rat.num_inv q;have e2:=Rat.den_inv q;rw [if_neg hn] at e2;rcases Int.lt_or_gt_of_ne hn with h|h
 ·rw [YC ib.hd ib.hn h]
  rw [Int.sign_eq_neg_one_of_neg h] at e1
  have b1:e9 (-(q.den:Int)):=by have:=ib.hd;unfold e9 at *;rw [Int.natAbs_neg];exact this
  have b2:e9 (-q.num):=by have:=ib.hn;unfold e9 at *;rw [Int.natAbs_neg];exact this
  have e3:(q.num.natAbs:Int) = -q.num:=by omega
  exact x9 b1 b2 oo_ (by rw [e1,e2,e3];grind)
 rw [Int.sign_eq_one_of_pos h] at e1
 have e3:(q.num.natAbs:Int)=q.num:=by omega
 exact x9 ib.hd ib.hn h (by rw [e1,e2,e3];grind)
theorem UF (a:Pose):cZ a=wl 0∨cZ a=wl 1:=by
 unfold cZ
 repeat' (rename_i x;revert x)
 generalize (decide (140737488355328≤a.x.x.1)||decide (a.x.x.1≤(-140737488355328)))=c1;generalize (decide (140737488355328≤a.x.y.1)||decide (a.x.y.1≤(-140737488355328)))=c2;generalize (decide (140737488355328≤a.x.z.1)||decide (a.x.z.1≤(-140737488355328)))=c3;generalize fD a.q=c4
 cases c1<;>cases c2<;>cases c3<;>cases c4<;>first|exact .inl O|exact .inr O
end Go.Num
