/- Lemmas: what they ask stands in their statements. -/
import Derived.Test.YtokjfhfiodopdaaGreatUH2xGC
import Derived.Test.YtokjfhfiodopdaaGreatUGa
set_option linter.unusedSimpArgs false
set_option linter.unusedVariables false
set_option maxHeartbeats 8000000
set_option maxRecDepth 20000
namespace Go.Num
open Go Go.Kn
def fX (p:(List I)) (x:Iv) (k:Int):Nat→Nat→Iv→(Nat×Iv) ⊕ (Fnd9)
  | 0,i,mb1=>.inl (i,mb1)
  | k0+1,i,mb1=>bif decide (((i:Nat):Int)<k) then (let r23:Iv:=(dB ((bA p).1) mb1).1
  bif (dB ((bA p).1) mb1).2 then ((fX p x k k0 (i+1) r23)) else (.inr ((⟨(⟨(⟨I0,I0⟩:Rt),(⟨I0,I0⟩:Rt)⟩:Iv),false,(wl 30)⟩:Fnd9)))) else (.inl (i,mb1))
def cS (p:(List I)) (x:Iv) (k:Int):Fnd9 :=
  bif (decide (k<0)||decide (64<k)) then ((⟨(⟨(⟨I0,I0⟩:Rt),(⟨I0,I0⟩:Rt)⟩:Iv),false,(wl 1)⟩:Fnd9)) else (bif (((aY p x.lo x.hi).e).1 != 0) then ((⟨(⟨(⟨I0,I0⟩:Rt),(⟨I0,I0⟩:Rt)⟩:Iv),false,(aY p x.lo x.hi).e⟩:Fnd9)) else (bif (((aY p x.lo x.hi).n).1 != 1) then ((⟨(⟨(⟨I0,I0⟩:Rt),(⟨I0,I0⟩:Rt)⟩:Iv),false,(wl 1)⟩:Fnd9)) else (sm (fun (s:Nat×Iv)=>let i:Nat:=s.1
  let mb1:Iv:=s.2
  (⟨mb1,true,(wl 0)⟩:Fnd9)) (fun r=>r) (fX p x k ((k.toNat+1)) 0 x))))
def gN (q:(List I)) (p:(List I)) (x:Iv) (r4:Fnd9):Nat→Nat→Iv→(Nat×Iv) ⊕ (Num9)
  | 0,i,mb1=>.inl (i,mb1)
  | k0+1,i,mb1=>bif decide (((i:Nat):Int)<500) then (let r60:Num9:=(aY q mb1.lo mb1.hi)
  bif (r60.e.1 != 0) then (.inr ((⟨(wl 0),(wl 30)⟩:Num9))) else (bif (r60.n.1==0) then (bif (d7 q mb1.hi).ok then (.inr ((⟨(d7 q mb1.hi).s,(wl 0)⟩:Num9))) else (.inr ((⟨(wl 0),(wl 30)⟩:Num9)))) else (let r66:Iv:=(dB ((bA p).1) mb1).1
  bif (dB ((bA p).1) mb1).2 then ((gN q p x r4 k0 (i+1) r66)) else (.inr ((⟨(wl 0),(wl 30)⟩:Num9)))))) else (.inl (i,mb1))
def bX (q:(List I)) (p:(List I)) (x:Iv):Num9 :=
  bif (aP q) then ((⟨(wl 0),(wl 1)⟩:Num9)) else (let r4:Fnd9:=(cS p x 0)
  bif (r4.e.1 != 0) then ((⟨(wl 0),r4.e⟩:Num9)) else (bif ((((q).length:Nat):Int)==0) then ((⟨(wl 0),(wl 0)⟩:Num9)) else (bif (((aY (aK p q) x.lo x.hi).e).1 != 0) then ((⟨(wl 0),(wl 30)⟩:Num9)) else (bif decide (0<((aY (aK p q) x.lo x.hi).n).1) then ((⟨(wl 0),(wl 0)⟩:Num9)) else (sm (fun (s:Nat×Iv)=>let i:Nat:=s.1
  let mb1:Iv:=s.2
  (⟨(wl 0),(wl 30)⟩:Num9)) (fun r=>r) (gN q p x r4 ((500+1)) 0 x))))))
end Go.Num
namespace Go.Proofs.YtokjfhfiodopdaaGreat
open Go.Kn Go.Num Tryz
attribute [local irreducible] Go.Kn.W WL PL OpQ OpR OpS
theorem tQ (n:Int) :
    Ret prog 135 [.int .i64 n] (.bool (decide (n<2147483648)&&decide (-2147483648<n))):=by
 refine cL (N:=9) func135 rfl rfl (by simp) (fun w0=>?_);simp only [bS,Nat.reduceAdd];refine go7 ?_
 cases h1:decide (n<2147483648)
 ·refine go6 ?_;refine bP rfl (.inr rfl) rfl ?_
  simp [*]
 refine go6 ?_;refine bP rfl (.inr rfl) rfl ?_
 simp [*]
end Go.Proofs.YtokjfhfiodopdaaGreat
namespace Go.Num
open Go Go.Kn
theorem fl_ {a b:I} (h:(!a.1.good||(!b.1.good))=true):a.1.dec.o=none∨b.1.dec.o=none:=by
  cases ha:a.1.good
  · exact .inl (F6 ha)
  · cases hb:b.1.good
    · exact .inr (F6 hb)
    rw [ha,hb] at h;cases h
theorem ZG {a b:I} (h:(!a.1.good||(!b.1.good))=false):a.1.good=true∧b.1.good=true:=by
  cases ha:a.1.good<;>cases hb:b.1.good<;>rw [ha,hb] at h<;>first|exact ⟨rfl,rfl⟩|cases h
theorem yH (a b:I):jP a b=E (Z.add a.dec b.dec):=by
  unfold jP
  show _=E (Z.add a.1.dec b.1.dec)
  cases hw:(iR a.1&&iR b.1)
  · rw [cond_false]
    cases hg:(!a.1.good||(!b.1.good))
    · obtain ⟨ga,gb⟩:=ZG hg
      rw [cond_false]
      cases hn:(a.1.neg==b.1.neg)
      · rw [cond_false]
        have hn':a.1.neg≠b.1.neg:=by simpa using hn
        cases hl:decide (val a.1.w<val b.1.w)
        · rw [cond_false,dF_ a.2 b.2 ga gb hn' (of_decide_eq_false hl)]
        rw [cond_true,dG_ a.2 b.2 ga gb hn' (of_decide_eq_true hl)]
      rw [cond_true,bp_ a.2 b.2 ga gb (by simpa using hn)]
    rw [cond_true,Z.add,jJ (fl_ hg)]
  rw [cond_true];rw [Bool.and_eq_true] at hw
  show E (Z.of (IntKind.i64.wrap (jV a.1+jV b.1)))=_
  rw [(wadd (lU a.2 hw.1).2.2.2 (lU b.2 hw.2).2.2.2).1,VT a.2 b.2 hw.1 hw.2]
theorem yN (a b:I):vG a b=E (Z.sub a.dec b.dec):=rfl
theorem yJ (a b:I):lW a b=E (Z.mul a.dec b.dec):=by
  unfold lW
  show _=E (Z.mul a.1.dec b.1.dec)
  cases hw:(iR a.1&&(iR b.1&&((decide ((eE a).1<2147483648)&&decide (-2147483648<(eE a).1))&&(decide ((eE b).1<2147483648)&&decide (-2147483648<(eE b).1)))))
  · rw [cond_false]
    cases hg:(!a.1.good||(!b.1.good))
    · obtain ⟨ga,gb⟩:=ZG hg
      rw [cond_false,em_ a.2 b.2 ga gb]
    rw [cond_true,Z.mul,jJ (fl_ hg)]
  rw [cond_true];rw [Bool.and_eq_true,Bool.and_eq_true,Bool.and_eq_true] at hw;obtain ⟨h1,h2,h3,h4⟩:=hw
  show E (Z.of (IntKind.i64.wrap (jV a.1*jV b.1)))=_
  rw [(g6_ (x:=jV a.1) (y:=jV b.1) (UA h3) (UA h4)).1,WJ a.2 b.2 h1 h2]
end Go.Num
namespace Go.Proofs.YtokjfhfiodopdaaGreat
open Go.Kn Go.Num Tryz
attribute [local irreducible] Go.Kn.W WL PL OpQ OpR OpS
theorem zT (a:I) (b:I) :
    Ret prog 76 [AV [pI a],AV [pI b]] (AV [pI (jP a b)]):=by
 refine cL (N:=70) func76 rfl rfl (by simp) (fun w0=>?_);simp only [bS,Nat.reduceAdd];refine go2 ?_;intro b1 hb1;refine go_ ?_;intro b2 hb2;refine go_ ?_;intro b3 hb3;refine go3 ?_;refine sC (.tuple #[.int .i64 ((eE a).1),.bool (iR a.1)]) aJ (gJ a.1 a.2) rfl rfl rfl (go8 ?_);refine sC (.tuple #[.int .i64 ((eE b).1),.bool (iR b.1)]) aJ (gJ b.1 b.2) rfl rfl rfl (go7 ?_);refine gJv [22,23,24,25] [(25,.bool ((iR a.1)&&(iR b.1)))] (fun K2 J2=>?_) ?_
 ·refine go2 ?_;refine sBB rfl (fun h5=>?_) (fun h5=>?_)
  ·refine go3 ?_;refine J2 _ _ pp_ s0 (bI (cU h5 rfl))
  refine go3 ?_;refine J2 _ _ pp_ s0 (bI (iQ h5))
 intro g6;refine aT _ rfl (fun h7=>?_) (fun h7=>?_)
 ·refine go3 ?_;refine sV (.int .i64 ((W.add (eE a) (eE b)).1)) rfl rfl (sC (AV [pI (E (Z.of (W.add (eE a) (eE b)).1))]) aJ (dY (W.add (eE a) (eE b)).1 (W.add (eE a) (eE b)).2) rfl rfl rfl (go3 ?_));refine bP rfl (.inr rfl) (fQ rfl m0 tyT rfl) ?_;exact congrArg vS2 (show _=(jP a b) from bE h7 rfl)
 refine go2 ?_;refine gJv [30,31,32,33,34,35,36,37] [(37,.bool (!a.1.good||(!b.1.good)))] (fun K4 J4=>?_) ?_
 ·refine go2 ?_;refine sC (.bool a.1.good) aJ (cF a.1 a.2) rfl rfl rfl (go_ ?_);rcases bt a.1.good with h9|h9
  ·refine sB (gG h9) rfl (go_ ?_);refine sC (.bool b.1.good) aJ (cF b.1 b.2) rfl rfl rfl (go3 ?_);refine J4 _ _ pp_ s0 (bI (lE h9 rfl))
  refine sB (gD h9) rfl (go5 ?_);refine J4 _ _ pp_ s0 (bI (nI h9))
 intro g10;refine aT _ rfl (fun h11=>?_) (fun h11=>?_)
 ·refine go_ ?_;refine sC (AV [pI (E Z.bad)]) aJ eB rfl rfl rfl (go3 ?_);refine bP rfl (.inr rfl) (fQ rfl m0 tyT rfl) ?_;exact congrArg vS2 (show _=(jP a b) from aN h7 (bE h11 rfl))
 refine go3 ?_;refine bJ rfl (fS aJ rfl (fun w hw=>cE a.1 a.2 w) (fun vl12 Ll12 kl12=>?_))
 try simp only [gP,lO] at kl12
 refine go4 ?_;refine bJ rfl (fS aJ rfl (fun w hw=>cE b.1 b.2 w) (fun vl13 Ll13 kl13=>?_))
 try simp only [gP,lO] at kl13
 refine go8 ?_;refine sQ (aV (v':=.bool (a.1.neg==b.1.neg)) (am_ CD rfl rfl) rfl) rfl (go_ ?_);refine aT _ rfl (fun h14=>?_) (fun h14=>?_)
 ·refine rX sn 7 [4,6] [6] (go4 ?_);refine fT rfl rfl (fS aJ rfl (fun w hw=>o7 vl12 vl13 (dl (val a.1.w)) (dl (val b.1.w)) (kL _) (kL _) (Nat.le_trans (iV (k:=32) (pL a.2)) dd_) (Nat.le_trans (iV (k:=32) (pL b.2)) dd_) w (SL.sl (SL.sub kl12.sl (sR lZ)) hw) (SL.sl (SL.sub kl13.sl lZ) hw)) (fun vl15 Ll15 kl15=>⟨(fun _=>sR s0),sn,?_⟩))
  try simp only [gP,lO] at kl15
  refine pQ rfl (aV (v':=AV [pI (E (Z.of (sgn a.1.neg ((val a.1.w)+(val b.1.w)))))]) (bN aJ rfl (fun w hw=>d5 a.1.neg vl15 (dl ((val a.1.w)+(val b.1.w))) (kL _) (Nat.le_trans (iV (k:=33) (fq_ (k:=32) (pL a.2) (pL b.2))) dd_) w (SL.sl (SL.sub kl15.sl lZ) hw))) (by rw [(gP _)];rfl)) (go3 ?_);refine bP rfl (.inr rfl) (fQ rfl (mA (mA (mA mZ))) tyT rfl) ?_;exact congrArg vS2 (show _=(jP a b) from aN h7 (aN h11 (bE h14 rfl)))
 refine go4 ?_;refine sQ (aV (v':=.bool (decide ((val a.1.w)<(val b.1.w)))) (bN aJ rfl (fun w hw=>kF vl12 vl13 (dl (val a.1.w)) (dl (val b.1.w)) (kL _) (kL _) (Nat.le_trans (iV (k:=32) (pL a.2)) dd_) (Nat.le_trans (iV (k:=32) (pL b.2)) dd_) w (SL.sl (SL.sub kl12.sl (sR lZ)) hw) (SL.sl (SL.sub kl13.sl lZ) hw))) (by rw [(gP _),(gP _)])) rfl (go6 ?_);refine aT _ rfl (fun h16=>?_) (fun h16=>?_)
 ·refine rX sn 7 [4,6] [6] (go4 ?_);refine fT rfl rfl (fS aJ rfl (fun w hw=>lF vl13 vl12 (dl (val b.1.w)) (dl (val a.1.w)) (kL _) (kL _) (Nat.le_trans (iV (k:=32) (pL b.2)) dd_) (Nat.le_trans (iV (k:=32) (pL a.2)) dd_) (by simp only [gP,lO];exact (Nat.le_of_lt (of_decide_eq_true h16))) w (SL.sl (SL.sub kl13.sl lZ) hw) (SL.sl (SL.sub kl12.sl (sR lZ)) hw)) (fun vl17 Ll17 kl17=>⟨(fun _=>sR s0),sn,?_⟩))
  try simp only [gP,lO] at kl17
  refine pQ rfl (aV (v':=AV [pI (E (Z.of (sgn b.1.neg ((val b.1.w) - (val a.1.w)))))]) (bN aJ rfl (fun w hw=>d5 b.1.neg vl17 (dl ((val b.1.w) - (val a.1.w))) (kL _) (Nat.le_trans (iV (k:=32) (dZ_ (pL b.2))) dd_) w (SL.sl (SL.sub kl17.sl lZ) hw))) (by rw [(gP _)];rfl)) (go3 ?_);refine bP rfl (.inr rfl) (fQ rfl (mA (mA (mA mZ))) tyT rfl) ?_;exact congrArg vS2 (show _=(jP a b) from aN h7 (aN h11 (aN h14 (bE h16 rfl))))
 refine go_ ?_;refine rX sn 7 [4,6] [6] (go4 ?_);refine fT rfl rfl (fS aJ rfl (fun w hw=>lF vl12 vl13 (dl (val a.1.w)) (dl (val b.1.w)) (kL _) (kL _) (Nat.le_trans (iV (k:=32) (pL a.2)) dd_) (Nat.le_trans (iV (k:=32) (pL b.2)) dd_) (by simp only [gP,lO];exact (Nat.le_of_not_lt (of_decide_eq_false h16))) w (SL.sl (SL.sub kl12.sl (sR lZ)) hw) (SL.sl (SL.sub kl13.sl lZ) hw)) (fun vl18 Ll18 kl18=>⟨(fun _=>sR s0),sn,?_⟩))
 try simp only [gP,lO] at kl18
 refine pQ rfl (aV (v':=AV [pI (E (Z.of (sgn a.1.neg ((val a.1.w) - (val b.1.w)))))]) (bN aJ rfl (fun w hw=>d5 a.1.neg vl18 (dl ((val a.1.w) - (val b.1.w))) (kL _) (Nat.le_trans (iV (k:=32) (dZ_ (pL a.2))) dd_) w (SL.sl (SL.sub kl18.sl lZ) hw))) (by rw [(gP _)];rfl)) (go3 ?_);refine bP rfl (.inr rfl) (fQ rfl (mA (mA (mA mZ))) tyT rfl) ?_;exact congrArg vS2 (show _=(jP a b) from aN h7 (aN h11 (aN h14 (aN h16 rfl))))
theorem pN (a b:R) (ha:a.Ok) (hb:b.Ok):Ret prog 76 [RV a,RV b] (RV (Z.add a.dec b.dec).enc):=by
  have h:=zT ⟨a,ha⟩ ⟨b,hb⟩;rw [yH] at h;exact h
theorem zZ (a:I) (b:I) :
    Ret prog 155 [AV [pI a],AV [pI b]] (AV [pI (vG a b)]):=by
 refine cL (N:=9) func155 rfl rfl (by simp) (fun w0=>?_);simp only [bS,Nat.reduceAdd];refine go2 ?_;intro b1 hb1;refine go_ ?_;intro b2 hb2;refine go_ ?_;intro b3 hb3;refine go_ ?_;refine rX (sd (sk (sk (s0)))) 5 [4] [4] (go2 ?_);refine pC (AV [pI (E (Z.neg b.dec))]) aJ (uA b.1 b.2) rfl rfl rfl (pC (AV [pI (E (Z.add a.dec (Z.neg b.dec)))]) aJ (pN a.1 (E (Z.neg b.dec)).1 a.2 (E (Z.neg b.dec)).2) rfl rfl (cg2 (fun p q=>AV [pI (E (Z.add p q))]) rfl (cZ _)) (go3 ?_));refine bP rfl (.inr rfl) (fQ rfl m0 tyT rfl) ?_;exact (by rfl)
theorem uC (a b:R) (ha:a.Ok) (hb:b.Ok):Ret prog 155 [RV a,RV b] (RV (Z.sub a.dec b.dec).enc):=by
  have h:=zZ ⟨a,ha⟩ ⟨b,hb⟩;rw [yN] at h;exact h
theorem zV (a:I) (b:I) :
    Ret prog 79 [AV [pI a],AV [pI b]] (AV [pI (lW a b)]):=by
 refine cL (N:=55) func79 rfl rfl (by simp) (fun w0=>?_);simp only [bS,Nat.reduceAdd];refine go2 ?_;intro b1 hb1;refine go_ ?_;intro b2 hb2;refine go_ ?_;intro b3 hb3;refine go3 ?_;refine sC (.tuple #[.int .i64 ((eE a).1),.bool (iR a.1)]) aJ (gJ a.1 a.2) rfl rfl rfl (go8 ?_);refine sC (.tuple #[.int .i64 ((eE b).1),.bool (iR b.1)]) aJ (gJ b.1 b.2) rfl rfl rfl (go7 ?_);refine gJv [19,20,21,22,23,24,25,26,27,28,29,30] [(30,.bool ((iR a.1)&&((iR b.1)&&((decide ((eE a).1<2147483648)&&decide (-2147483648<(eE a).1))&&(decide ((eE b).1<2147483648)&&decide (-2147483648<(eE b).1))))))] (fun K2 J2=>?_) ?_
 ·refine go2 ?_;refine sBB rfl (fun h7=>?_) (fun h7=>?_)
  ·refine go2 ?_;refine sBB rfl (fun h8=>?_) (fun h8=>?_)
   ·refine go_ ?_;refine sC (.bool (decide ((eE a).1<2147483648)&&decide (-2147483648<(eE a).1))) aJ (tQ (eE a).1) rfl rfl rfl (go_ ?_);refine sBB rfl (fun h9=>?_) (fun h9=>?_)
    ·refine go_ ?_;refine sC (.bool (decide ((eE b).1<2147483648)&&decide (-2147483648<(eE b).1))) aJ (tQ (eE b).1) rfl rfl rfl (go2 ?_);refine J2 _ _ pp_ s0 (bI (cU h7 (cU h8 (cU h9 rfl))))
    refine go4 ?_;refine J2 _ _ pp_ s0 (bI (cU h7 (cU h8 (iQ h9))))
   refine go8 ?_;refine J2 _ _ pp_ s0 (bI (cU h7 (iQ h8)))
  refine vK ?_;refine J2 _ _ pp_ s0 (bI (iQ h7))
 intro g10;refine aT _ rfl (fun h11=>?_) (fun h11=>?_)
 ·refine go3 ?_;refine sV (.int .i64 ((W.mul (eE a) (eE b)).1)) rfl rfl (sC (AV [pI (E (Z.of (W.mul (eE a) (eE b)).1))]) aJ (dY (W.mul (eE a) (eE b)).1 (W.mul (eE a) (eE b)).2) rfl rfl rfl (go3 ?_));refine bP rfl (.inr rfl) (fQ rfl m0 tyT rfl) ?_;exact congrArg vS2 (show _=(lW a b) from bE h11 rfl)
 refine go2 ?_;refine gJv [35,36,37,38,39,40,41,42] [(42,.bool (!a.1.good||(!b.1.good)))] (fun K4 J4=>?_) ?_
 ·refine go2 ?_;refine sC (.bool a.1.good) aJ (cF a.1 a.2) rfl rfl rfl (go_ ?_);rcases bt a.1.good with h13|h13
  ·refine sB (gG h13) rfl (go_ ?_);refine sC (.bool b.1.good) aJ (cF b.1 b.2) rfl rfl rfl (go3 ?_);refine J4 _ _ pp_ s0 (bI (lE h13 rfl))
  refine sB (gD h13) rfl (go5 ?_);refine J4 _ _ pp_ s0 (bI (nI h13))
 intro g14;refine aT _ rfl (fun h15=>?_) (fun h15=>?_)
 ·refine go_ ?_;refine sC (AV [pI (E Z.bad)]) aJ eB rfl rfl rfl (go3 ?_);refine bP rfl (.inr rfl) (fQ rfl m0 tyT rfl) ?_;exact congrArg vS2 (show _=(lW a b) from aN h11 (bE h15 rfl))
 refine go_ ?_;refine gds sn [0,4,8,12,16,20,28,25,33,37,40,45] [11] mix (by kernel_rfl) (go4 ?_);refine pQ rfl (aV (v':=.bool (a.1.neg != b.1.neg)) (uM CD rfl rfl) rfl) (go2 ?_);refine fT rfl rfl (fS aJ rfl (fun w hw=>cE a.1 a.2 w) (fun vl16 Ll16 kl16=>⟨(fun _=>sR s0),sn,?_⟩))
 try simp only [gP,lO] at kl16
 refine fT rfl rfl (fS aJ rfl (fun w hw=>cE b.1 b.2 w) (fun vl17 Ll17 kl17=>⟨(fun _=>sR s0),sn,?_⟩))
 try simp only [gP,lO] at kl17
 refine fT rfl rfl (fS aJ rfl (fun w hw=>sK vl16 vl17 (dl (val a.1.w)) (dl (val b.1.w)) (kL _) (kL _) (Nat.le_trans (iV (k:=32) (pL a.2)) dd_) (Nat.le_trans (iV (k:=32) (pL b.2)) dd_) w (SL.sl (SL.sub kl16.sl (sR lZ)) hw) (SL.sl (SL.sub kl17.sl lZ) hw)) (fun vl18 Ll18 kl18=>⟨(fun _=>sR s0),sn,?_⟩))
 try simp only [gP,lO] at kl18
 refine pQ rfl (aV (v':=AV [pI (E (Z.of (sgn (a.1.neg != b.1.neg) ((val a.1.w)*(val b.1.w)))))]) (bN aJ rfl (fun w hw=>d5 (a.1.neg != b.1.neg) vl18 (dl ((val a.1.w)*(val b.1.w))) (kL _) (Nat.le_trans (iV (k:=64) (gJ_ (i:=32) (k:=32) (pL a.2) (pL b.2))) dd_) w (SL.sl (SL.sub kl18.sl lZ) hw))) (by rw [(gP _)];rfl)) (go3 ?_);refine bP rfl (.inr rfl) (fQ rfl (mA (mA (mA mZ))) tyT rfl) ?_;exact congrArg vS2 (show _=(lW a b) from aN h11 (aN h15 rfl))
theorem eZ (a b:R) (ha:a.Ok) (hb:b.Ok):Ret prog 79 [RV a,RV b] (RV (Z.mul a.dec b.dec).enc):=by
  have h:=zV ⟨a,ha⟩ ⟨b,hb⟩;rw [yJ] at h;exact h
theorem sL (a:Rt) :
    Ret prog 37 [AV [pI a.n,pI a.d]] (.bool (l8 a)):=by
 refine cL (N:=12) func37 rfl rfl (by simp) (fun w0=>?_);simp only [bS,Nat.reduceAdd];refine go2 ?_;intro b1 hb1;refine go4 ?_;refine sQ (bZ aJ (i4 a) rfl) rfl (go2 ?_);refine gJv [2,6,7,8,9,10,11] [(2,.bool ((aZ a)||(decide (a.n=jQ.n)&&decide (a.d=jQ.d))))] (fun K1 J1=>?_) ?_
 ·refine rE (sk (s0)) 7 [] [] (go_ ?_);refine pBB rfl (fun h3=>?_) (fun h3=>?_)
  ·refine go6 ?_;refine J1 _ _ pp_ s0 (bI (mS h3))
  refine go_ ?_;refine pQ rfl (bZ aJ nS  rfl) ?_;refine pQ rfl (xI (r:=(decide (a.n=jQ.n)&&decide (a.d=jQ.d))) rfl rfl (oA 8 dd_ cP_ cX_ (jW jU (oT jU)) (jW jU (oT jU)) (oB rfl pU (uR pU)))) (go3 ?_);refine J1 _ _ pp_ s0 (bI (kX h3 rfl))
 intro g4;refine go_ ?_;refine bP rfl (.inr rfl) rfl ?_;exact (by rfl)
theorem z5 (a:Rt) (b:Rt) :
    Ret prog 81 [AV [pI a.n,pI a.d],AV [pI b.n,pI b.d]] (AV [pI ((eW a b).n),pI ((eW a b).d)]):=by
 refine cL (N:=44) func81 rfl rfl (by simp) (fun w0=>?_);simp only [bS,Nat.reduceAdd];refine go2 ?_;intro b1 hb1;refine go_ ?_;intro b2 hb2;refine go_ ?_;intro b3 hb3;refine go2 ?_;refine gJv [8,9,10,11,12,13,14,15] [(15,.bool (!(aZ a)||(!(aZ b))))] (fun K2 J2=>?_) ?_
 ·refine go2 ?_;refine sQ (bZ aJ (i4 a) rfl) rfl (go_ ?_);rcases bt (aZ a) with h5|h5
  ·refine sB (gG h5) rfl (go_ ?_);refine sQ (bZ aJ (i4 b) rfl) rfl (go3 ?_);refine J2 _ _ pp_ s0 (bI (lE h5 rfl))
  refine sB (gD h5) rfl (go5 ?_);refine J2 _ _ pp_ s0 (bI (nI h5))
 intro g6;refine aT _ rfl (fun h7=>?_) (fun h7=>?_)
 ·refine go_ ?_;refine sQ (bZ aJ nS  rfl) rfl (go3 ?_);refine bP rfl (.inr rfl) (fQ rfl m0 tyT rfl) ?_;exact congrArg vS6 (show _=(eW a b) from bE h7 rfl)
 refine go6 ?_;refine sC (AV [pI (E (Z.gcd a.d.dec b.d.dec))]) aJ (mD a.d.1 b.d.1 a.d.2 b.d.2) rfl rfl rfl (go_ ?_);intro b8 hb8;refine go6 ?_;refine sC (AV [pI (E (Z.quo a.d.dec (Z.gcd a.d.dec b.d.dec)))]) aJ (gS a.d.1 (E (Z.gcd a.d.dec b.d.dec)).1 a.d.2 (E (Z.gcd a.d.dec b.d.dec)).2) rfl rfl (cg2 (fun p q=>AV [pI (E (Z.quo p q))]) rfl (cZ _)) (go_ ?_);intro b9 hb9;refine go6 ?_;refine sC (AV [pI (E (Z.quo b.d.dec (Z.gcd a.d.dec b.d.dec)))]) aJ (gS b.d.1 (E (Z.gcd a.d.dec b.d.dec)).1 b.d.2 (E (Z.gcd a.d.dec b.d.dec)).2) rfl rfl (cg2 (fun p q=>AV [pI (E (Z.quo p q))]) rfl (cZ _)) (go_ ?_);intro b10 hb10;refine go2 ?_;refine gds (sk (sk (sk (sd (sk (sk (s0))))))) [0,4,8,12,16,20,24,28,32,36,40,44,48,52,57] [14] mix (by kernel_rfl) (go3 ?_);refine pC (AV [pI (E (Z.mul a.n.dec (Z.quo b.d.dec (Z.gcd a.d.dec b.d.dec))))]) aJ (eZ a.n.1 (E (Z.quo b.d.dec (Z.gcd a.d.dec b.d.dec))).1 a.n.2 (E (Z.quo b.d.dec (Z.gcd a.d.dec b.d.dec))).2) rfl rfl (cg2 (fun p q=>AV [pI (E (Z.mul p q))]) rfl (cZ _)) (go3 ?_);refine pC (AV [pI (E (Z.mul b.n.dec (Z.quo a.d.dec (Z.gcd a.d.dec b.d.dec))))]) aJ (eZ b.n.1 (E (Z.quo a.d.dec (Z.gcd a.d.dec b.d.dec))).1 b.n.2 (E (Z.quo a.d.dec (Z.gcd a.d.dec b.d.dec))).2) rfl rfl (cg2 (fun p q=>AV [pI (E (Z.mul p q))]) rfl (cZ _)) ?_;obtain ⟨r11,hr11⟩:=nm ((E (Z.add (Z.mul a.n.dec (Z.quo b.d.dec (Z.gcd a.d.dec b.d.dec))) (Z.mul b.n.dec (Z.quo a.d.dec (Z.gcd a.d.dec b.d.dec))))):I);refine pC (AV [pI r11]) aJ (pN (E (Z.mul a.n.dec (Z.quo b.d.dec (Z.gcd a.d.dec b.d.dec)))).1 (E (Z.mul b.n.dec (Z.quo a.d.dec (Z.gcd a.d.dec b.d.dec)))).1 (E (Z.mul a.n.dec (Z.quo b.d.dec (Z.gcd a.d.dec b.d.dec)))).2 (E (Z.mul b.n.dec (Z.quo a.d.dec (Z.gcd a.d.dec b.d.dec)))).2) rfl rfl ((cg2 (fun p q=>AV [pI (E (Z.add p q))]) (cZ _) (cZ _)).trans (by rw [hr11])) (go3 ?_);refine pC (AV [pI (E (Z.mul (Z.quo a.d.dec (Z.gcd a.d.dec b.d.dec)) b.d.dec))]) aJ (eZ (E (Z.quo a.d.dec (Z.gcd a.d.dec b.d.dec))).1 b.d.1 (E (Z.quo a.d.dec (Z.gcd a.d.dec b.d.dec))).2 b.d.2) rfl rfl (cg2 (fun p q=>AV [pI (E (Z.mul p q))]) (cZ _) rfl) ?_;obtain ⟨r12,hr12⟩:=nm ((bL r11 (E (Z.mul (Z.quo a.d.dec (Z.gcd a.d.dec b.d.dec)) b.d.dec))):Rt);refine pC (AV [pI r12.n,pI r12.d]) aJ (kG r11 (E (Z.mul (Z.quo a.d.dec (Z.gcd a.d.dec b.d.dec)) b.d.dec))) rfl rfl (by rw [hr12]) (go3 ?_);refine bP rfl (.inr rfl) (fQ rfl m3 tyT rfl) ?_
 subst_vars;exact congrArg vS6 (show _=(eW a b) from aN h7 rfl)
theorem z7 (a:Rt) (b:Rt) :
    Ret prog 35 [AV [pI a.n,pI a.d],AV [pI b.n,pI b.d]] (AV [pI ((fA a b).n),pI ((fA a b).d)]):=by
 refine cL (N:=41) func35 rfl rfl (by simp) (fun w0=>?_);simp only [bS,Nat.reduceAdd];refine go2 ?_;intro b1 hb1;refine go_ ?_;intro b2 hb2;refine go_ ?_;intro b3 hb3;refine go2 ?_;refine gJv [9,10,11,12,13,14,15,16] [(16,.bool (!(aZ a)||(!(aZ b))))] (fun K2 J2=>?_) ?_
 ·refine go2 ?_;refine sQ (bZ aJ (i4 a) rfl) rfl (go_ ?_);rcases bt (aZ a) with h5|h5
  ·refine sB (gG h5) rfl (go_ ?_);refine sQ (bZ aJ (i4 b) rfl) rfl (go3 ?_);refine J2 _ _ pp_ s0 (bI (lE h5 rfl))
  refine sB (gD h5) rfl (go5 ?_);refine J2 _ _ pp_ s0 (bI (nI h5))
 intro g6;refine aT _ rfl (fun h7=>?_) (fun h7=>?_)
 ·refine go_ ?_;refine sQ (bZ aJ nS  rfl) rfl (go3 ?_);refine bP rfl (.inr rfl) (fQ rfl m0 tyT rfl) ?_;exact congrArg vS6 (show _=(fA a b) from bE h7 rfl)
 refine go6 ?_;refine sQ (bZ aJ (kG a.n b.d) rfl) rfl (go_ ?_);intro b8 hb8;refine go7 ?_;refine sQ (bZ aJ (kG b.n a.d) rfl) rfl (go_ ?_);intro b9 hb9;refine go7 ?_;obtain ⟨r10,hr10⟩:=nm ((E (Z.mul ((bL a.n b.d).n).dec ((bL b.n a.d).n).dec)):I);refine sC (AV [pI r10]) aJ (eZ ((bL a.n b.d).n).1 ((bL b.n a.d).n).1 ((bL a.n b.d).n).2 ((bL b.n a.d).n).2) rfl rfl (by subst hr10;rfl) (go_ ?_);intro b11 hb11;refine go7 ?_;obtain ⟨r12,hr12⟩:=nm ((E (Z.mul ((bL a.n b.d).d).dec ((bL b.n a.d).d).dec)):I);refine sC (AV [pI r12]) aJ (eZ ((bL a.n b.d).d).1 ((bL b.n a.d).d).1 ((bL a.n b.d).d).2 ((bL b.n a.d).d).2) rfl rfl (by subst hr12;rfl) (go_ ?_);intro b13 hb13;refine go5 ?_;refine sQ (bZ aJ (kG r10 r12) rfl) rfl (go3 ?_);refine bP rfl (.inr rfl) (fQ rfl m4 tyT rfl) ?_
 subst_vars;exact congrArg vS6 (show _=(fA a b) from aN h7 rfl)
end Go.Proofs.YtokjfhfiodopdaaGreat
