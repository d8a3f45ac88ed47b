/- Lemmas: what they ask stands in their statements. -/
import Derived.Test.YtokjfhfiodopdaaGreatUSb
set_option linter.unusedSimpArgs false
set_option linter.unusedVariables false
set_option maxHeartbeats 8000000
set_option maxRecDepth 20000
namespace Go.Proofs.YtokjfhfiodopdaaGreat
open Go.Kn Go.Num Tryz
attribute [local irreducible] Go.Kn.W WL PL OpQ OpR OpS
theorem zW (a:I) :
    Ret prog 132 [AV [pI a]] (AV [pI (nB a)]):=by
 refine cL (N:=13) func132 rfl rfl (by simp) (fun w0=>?_);simp only [bS,Nat.reduceAdd];refine go2 ?_;intro b1 hb1;refine go_ ?_;intro b2 hb2;refine go4 ?_;refine sC (.bool a.1.good) aJ (cF a.1 a.2) rfl rfl rfl (go2 ?_);rcases bt a.1.good with h3 | h3
 ·refine W_f (gG h3) rfl (go_ ?_);refine rX sn 7 [4,6] [6] (go4 ?_);refine fT rfl rfl (fS aJ rfl (fun w hw=>cE a.1 a.2 w) (fun vl4 Ll4 kl4=>⟨(fun _=>sR s0),sn,?_⟩))
  try simp only [gP,lO] at kl4
  refine pQ rfl (aV (v':=AV [pI (E (Z.of (sgn (!a.1.neg) (val a.1.w))))]) (bN aJ rfl (fun w hw=>d5 (!a.1.neg) vl4 (dl (val a.1.w)) (kL _) (Nat.le_trans (iV (k:=32) (pL a.2)) dd_) w (SL.sl (SL.sub kl4.sl lZ) hw))) (by rw [(gP _)];rfl)) (go3 ?_);refine bP rfl (.inr rfl) (fQ rfl (mA mZ) tyT rfl) ?_;exact congrArg vS2 (show _=(nB a) from bE h3 rfl)
 refine W_t (gD h3) rfl (go_ ?_);refine sC (AV [pI (E Z.bad)]) aJ eB rfl rfl rfl (go3 ?_);refine bP rfl (.inr rfl) (fQ rfl m0 tyT rfl) ?_;exact congrArg vS2 (show _=(nB a) from aN h3 rfl)
theorem uA (a:R) (ha:a.Ok):Ret prog 132 [RV a] (RV (Z.neg a.dec).enc):=by
  have h:=zW ⟨a,ha⟩;rw [yK] at h;exact h
theorem zS (a:I) :
    Ret prog 157 [AV [pI a]] (AV [pI (nA a)]):=by
 refine cL (N:=10) func157 rfl rfl (by simp) (fun w0=>?_);simp only [bS,Nat.reduceAdd];refine go2 ?_;intro b1 hb1;refine go_ ?_;intro b2 hb2;refine go4 ?_;refine sC (.bool a.1.good) aJ (cF a.1 a.2) rfl rfl rfl (go2 ?_);rcases bt a.1.good with h3 | h3
 ·refine W_f (gG h3) rfl (go3 ?_);refine bJ rfl (fS aJ rfl (fun w hw=>cE a.1 a.2 w) (fun vl4 Ll4 kl4=>?_))
  try simp only [gP,lO] at kl4
  refine sQ (aV (v':=AV [pI (E (Z.of (sgn false (val a.1.w))))]) (bN aJ rfl (fun w hw=>d5 false vl4 (dl (val a.1.w)) (kL _) (Nat.le_trans (iV (k:=32) (pL a.2)) dd_) w (SL.sl (SL.sub kl4.sl lZ) hw))) (by rw [(gP _)];rfl)) rfl (go3 ?_);refine bP rfl (.inr rfl) (fQ rfl (mA mZ) tyT rfl) ?_;exact congrArg vS2 (show _=(nA a) from bE h3 rfl)
 refine W_t (gD h3) rfl (go_ ?_);refine sC (AV [pI (E Z.bad)]) aJ eB rfl rfl rfl (go3 ?_);refine bP rfl (.inr rfl) (fQ rfl m0 tyT rfl) ?_;exact congrArg vS2 (show _=(nA a) from aN h3 rfl)
theorem t8 (a:R) (ha:a.Ok):Ret prog 157 [RV a] (RV (Z.abs a.dec).enc):=by
  have h:=zS ⟨a,ha⟩;rw [yG] at h;exact h
theorem y6 (a:I) :
    Ret prog 69 [AV [pI a]] (.int .i64 ((lD a).1)):=by
 refine cL (N:=14) func69 rfl rfl (by simp) (fun w0=>?_);simp only [bS,Nat.reduceAdd];refine go2 ?_;intro b1 hb1;refine go3 ?_;refine gJv [3,4,5,6,7,8,9,10,11] [(11,.bool (!a.1.good||((((dl (val a.1.w)).length:Nat):Int)==0)))] (fun K2 J2=>?_) ?_
 ·refine go2 ?_;refine sC (.bool a.1.good) aJ (cF a.1 a.2) rfl rfl rfl (go_ ?_);rcases bt a.1.good with h4 | h4
  ·refine sB (gG h4) rfl (go_ ?_);refine bJ rfl (fS aJ rfl (fun w hw=>cE a.1 a.2 w) (fun vl5 Ll5 kl5=>?_))
   try simp only [gP,lO] at kl5
   refine sQ (aV (v':=.int .i64 (((dl (val a.1.w)).length:Nat):Int)) (m8 kR rfl (SL.sub kl5.sl lZ)) rfl) rfl (go3 ?_);refine J2 _ _ pp_ (sR (s0)) (bI (lE h4 rfl))
  refine sB (gD h4) rfl (go6 ?_);refine J2 _ _ pp_ s0 (bI (nI h4))
 intro g6;refine aT _ rfl (fun h7=>?_) (fun h7=>?_)
 ·refine go4 ?_;refine bP rfl (.inr rfl) rfl ?_;exact congrArg vS7 (show _=(lD a) from bE h7 rfl)
 refine go6 ?_;refine aT _ rfl (fun h8=>?_) (fun h8=>?_)
 ·refine go4 ?_;refine bP rfl (.inr rfl) rfl ?_;exact congrArg vS7 (show _=(lD a) from aN h7 (bE h8 rfl))
 refine go5 ?_;refine bP rfl (.inr rfl) rfl ?_;exact congrArg vS7 (show _=(lD a) from aN h7 (aN h8 rfl))
theorem eT (a:R) (ha:a.Ok):Ret prog 69 [RV a] (.int .i64 a.dec.sign):=by
  have h:=y6 ⟨a,ha⟩;rw [xN] at h;exact h
theorem zU (a:I) (b:I) :
    Ret prog 65 [AV [pI a],AV [pI b]] (.int .i64 ((fL a b).1)):=by
 refine cL (N:=48) func65 rfl rfl (by simp) (fun w0=>?_);simp only [bS,Nat.reduceAdd];refine go2 ?_;intro b1 hb1;refine go_ ?_;intro b2 hb2;refine go3 ?_;refine gJv [9,10,11,12,13,14,15,16] [(16,.bool (!a.1.good&&(!b.1.good)))] (fun K2 J2=>?_) ?_
 ·refine go2 ?_;refine sC (.bool a.1.good) aJ (cF a.1 a.2) rfl rfl rfl (go_ ?_);rcases bt a.1.good with h4 | h4
  ·refine sB (gG h4) rfl (go5 ?_);refine J2 _ _ pp_ s0 (bI (xF h4))
  refine sB (gD h4) rfl (go_ ?_);refine sC (.bool b.1.good) aJ (cF b.1 b.2) rfl rfl rfl (go3 ?_);refine J2 _ _ pp_ s0 (bI (o6 h4 rfl))
 intro g5;refine aT _ rfl (fun h6=>?_) (fun h6=>?_)
 ·refine go4 ?_;refine bP rfl (.inr rfl) rfl ?_;exact congrArg vS7 (show _=(fL a b) from bE h6 rfl)
 refine go4 ?_;refine sC (.bool a.1.good) aJ (cF a.1 a.2) rfl rfl rfl (go2 ?_);rcases bt a.1.good with h7 | h7
 ·refine W_f (gG h7) rfl (go4 ?_);refine sC (.bool b.1.good) aJ (cF b.1 b.2) rfl rfl rfl (go2 ?_);rcases bt b.1.good with h8 | h8
  ·refine W_f (gG h8) rfl (go7 ?_);refine sQ (aV (v':=.bool (a.1.neg != b.1.neg)) (uM CD rfl rfl) rfl) rfl (go_ ?_);refine aT _ rfl (fun h9=>?_) (fun h9=>?_)
   ·refine go5 ?_;refine aT _ rfl (fun h10=>?_) (fun h10=>?_)
    ·refine go4 ?_;refine bP rfl (.inr rfl) rfl ?_;exact congrArg vS7 (show _=(fL a b) from aN h6 (bE h7 (bE h8 (bE h9 (bE h10 rfl)))))
    refine go5 ?_;refine bP rfl (.inr rfl) rfl ?_;exact congrArg vS7 (show _=(fL a b) from aN h6 (bE h7 (bE h8 (bE h9 (aN h10 rfl)))))
   refine go3 ?_;refine bJ rfl (fS aJ rfl (fun w hw=>cE a.1 a.2 w) (fun vl11 Ll11 kl11=>?_))
   try simp only [gP,lO] at kl11
   refine go4 ?_;refine bJ rfl (fS aJ rfl (fun w hw=>cE b.1 b.2 w) (fun vl12 Ll12 kl12=>?_))
   try simp only [gP,lO] at kl12
   refine go7 ?_;refine aT _ rfl (fun h13=>?_) (fun h13=>?_)
   ·refine go2 ?_;refine bJ rfl (fS aJ rfl (fun w hw=>cE b.1 b.2 w) (fun vl14 Ll14 kl14=>?_))
    try simp only [gP,lO] at kl14
    refine go4 ?_;refine bJ rfl (fS aJ rfl (fun w hw=>cE a.1 a.2 w) (fun vl15 Ll15 kl15=>?_))
    try simp only [gP,lO] at kl15
    refine go5 ?_;refine sQ (aV (v':=.bool (decide ((val b.1.w)<(val a.1.w)))) (bN aJ rfl (fun w hw=>kF vl14 vl15 (dl (val b.1.w)) (dl (val a.1.w)) (kL _) (kL _) (Nat.le_trans (iV (k:=32) (pL b.2)) dd_) (Nat.le_trans (iV (k:=32) (pL a.2)) dd_) w (SL.sl (SL.sub kl14.sl (sR lZ)) hw) (SL.sl (SL.sub kl15.sl lZ) hw))) (by rw [(gP _),(gP _)])) rfl (go5 ?_);refine sQ (aV (v':=.bool (decide ((val a.1.w)<(val b.1.w)))) (bN aJ rfl (fun w hw=>kF vl15 vl14 (dl (val a.1.w)) (dl (val b.1.w)) (kL _) (kL _) (Nat.le_trans (iV (k:=32) (pL a.2)) dd_) (Nat.le_trans (iV (k:=32) (pL b.2)) dd_) w (SL.sl (SL.sub kl15.sl lZ) hw) (SL.sl (SL.sub kl14.sl (sR lZ)) hw))) (by rw [(gP _),(gP _)])) rfl (go6 ?_);refine aT _ rfl (fun h16=>?_) (fun h16=>?_)
    ·refine go4 ?_;refine bP rfl (.inr rfl) rfl ?_;exact congrArg vS7 (show _=(fL a b) from aN h6 (bE h7 (bE h8 (aN h9 (bE h13 (bE h16 rfl))))))
    refine go5 ?_;refine aT _ rfl (fun h17=>?_) (fun h17=>?_)
    ·refine go4 ?_;refine bP rfl (.inr rfl) rfl ?_;exact congrArg vS7 (show _=(fL a b) from aN h6 (bE h7 (bE h8 (aN h9 (bE h13 (aN h16 (bE h17 rfl)))))))
    refine go5 ?_;refine bP rfl (.inr rfl) rfl ?_;exact congrArg vS7 (show _=(fL a b) from aN h6 (bE h7 (bE h8 (aN h9 (bE h13 (aN h16 (aN h17 rfl)))))))
   refine go4 ?_;refine sQ (aV (v':=.bool (decide ((val a.1.w)<(val b.1.w)))) (bN aJ rfl (fun w hw=>kF vl11 vl12 (dl (val a.1.w)) (dl (val b.1.w)) (kL _) (kL _) (Nat.le_trans (iV (k:=32) (pL a.2)) dd_) (Nat.le_trans (iV (k:=32) (pL b.2)) dd_) w (SL.sl (SL.sub kl11.sl (sR lZ)) hw) (SL.sl (SL.sub kl12.sl lZ) hw))) (by rw [(gP _),(gP _)])) rfl (go5 ?_);refine sQ (aV (v':=.bool (decide ((val b.1.w)<(val a.1.w)))) (bN aJ rfl (fun w hw=>kF vl12 vl11 (dl (val b.1.w)) (dl (val a.1.w)) (kL _) (kL _) (Nat.le_trans (iV (k:=32) (pL b.2)) dd_) (Nat.le_trans (iV (k:=32) (pL a.2)) dd_) w (SL.sl (SL.sub kl12.sl lZ) hw) (SL.sl (SL.sub kl11.sl (sR lZ)) hw))) (by rw [(gP _),(gP _)])) rfl (go6 ?_);refine aT _ rfl (fun h18=>?_) (fun h18=>?_)
   ·refine go4 ?_;refine bP rfl (.inr rfl) rfl ?_;exact congrArg vS7 (show _=(fL a b) from aN h6 (bE h7 (bE h8 (aN h9 (aN h13 (bE h18 rfl))))))
   refine go5 ?_;refine aT _ rfl (fun h19=>?_) (fun h19=>?_)
   ·refine go4 ?_;refine bP rfl (.inr rfl) rfl ?_;exact congrArg vS7 (show _=(fL a b) from aN h6 (bE h7 (bE h8 (aN h9 (aN h13 (aN h18 (bE h19 rfl)))))))
   refine go5 ?_;refine bP rfl (.inr rfl) rfl ?_;exact congrArg vS7 (show _=(fL a b) from aN h6 (bE h7 (bE h8 (aN h9 (aN h13 (aN h18 (aN h19 rfl)))))))
  refine W_t (gD h8) rfl (go4 ?_);refine bP rfl (.inr rfl) rfl ?_;exact congrArg vS7 (show _=(fL a b) from aN h6 (bE h7 (aN h8 rfl)))
 refine W_t (gD h7) rfl (go4 ?_);refine bP rfl (.inr rfl) rfl ?_;exact congrArg vS7 (show _=(fL a b) from aN h6 (aN h7 rfl))
theorem t9 (a b:R) (ha:a.Ok) (hb:b.Ok):Ret prog 65 [RV a,RV b] (.int .i64 (Z.cmp a.dec b.dec)):=by
  have h:=zU ⟨a,ha⟩ ⟨b,hb⟩;rw [yI] at h;exact h
theorem zX (a:I) (b:I) :
    Ret prog 67 [AV [pI a],AV [pI b]] (AV [pI (kM a b)]):=by
 refine cL (N:=76) func67 rfl rfl (by simp) (fun w0=>?_);simp only [bS,Nat.reduceAdd];refine go2 ?_;intro b1 hb1;refine go_ ?_;intro b2 hb2;refine go_ ?_;intro b3 hb3;refine go3 ?_;refine sC (.tuple #[.int .i64 ((eE a).1),.bool (iR a.1)]) aJ (gJ a.1 a.2) rfl rfl rfl (go8 ?_);refine sC (.tuple #[.int .i64 ((eE b).1),.bool (iR b.1)]) aJ (gJ b.1 b.2) rfl rfl rfl (go7 ?_);refine gJv [21,22,23,24,25,26,27,28] [(28,.bool ((iR a.1)&&((iR b.1)&&((eE b).1 != 0))))] (fun K2 J2=>?_) ?_
 ·refine go2 ?_;refine sBB rfl (fun h6=>?_) (fun h6=>?_)
  ·refine go2 ?_;refine sBB rfl (fun h7=>?_) (fun h7=>?_)
   ·refine go4 ?_;refine J2 _ _ pp_ s0 (bI (cU h6 (cU h7 rfl)))
   refine go4 ?_;refine J2 _ _ pp_ s0 (bI (cU h6 (iQ h7)))
  refine go7 ?_;refine J2 _ _ pp_ s0 (bI (iQ h6))
 intro g8;refine aT _ rfl (fun h9=>?_) (fun h9=>?_)
 ·refine go3 ?_;have hfl:=NJ h9;refine sC (.int .i64 ((W.fdiv (eE a) (eE b)).1)) aJ (sJ (eE a).1 (eE b).1 (eE a).2 hfl.1 hfl.2.1) rfl rfl (congrArg (Value.int .i64) hfl.2.2) (sC (AV [pI (E (Z.of (W.fdiv (eE a) (eE b)).1))]) aJ (dY (W.fdiv (eE a) (eE b)).1 (W.fdiv (eE a) (eE b)).2) rfl rfl rfl (go3 ?_));refine bP rfl (.inr rfl) (fQ rfl m0 tyT rfl) ?_;exact congrArg vS2 (show _=(kM a b) from bE h9 rfl)
 refine go2 ?_;refine gJv [33,34,35,36,37,38,39,40,41,42,43,44,45,46] [(46,.bool (!a.1.good||(!b.1.good||((((dl (val b.1.w)).length:Nat):Int)==0))))] (fun K4 J4=>?_) ?_
 ·refine go2 ?_;refine sC (.bool a.1.good) aJ (cF a.1 a.2) rfl rfl rfl (go_ ?_);rcases bt a.1.good with h13 | h13
  ·refine sB (gG h13) rfl (go_ ?_);refine sC (.bool b.1.good) aJ (cF b.1 b.2) rfl rfl rfl (go2 ?_);rcases bt b.1.good with h14 | h14
   ·refine sB (gG h14) rfl (go_ ?_);refine bJ rfl (fS aJ rfl (fun w hw=>cE b.1 b.2 w) (fun vl15 Ll15 kl15=>?_))
    try simp only [gP,lO] at kl15
    refine sQ (aV (v':=.int .i64 (((dl (val b.1.w)).length:Nat):Int)) (m8 kR rfl (SL.sub kl15.sl lZ)) rfl) rfl (go3 ?_);refine J4 _ _ pp_ (sR (s0)) (bI (lE h13 (lE h14 rfl)))
   refine sB (gD h14) rfl (go6 ?_);refine J4 _ _ pp_ s0 (bI (lE h13 (nI h14)))
  refine sB (gD h13) rfl (vK ?_);refine J4 _ _ pp_ s0 (bI (nI h13))
 intro g16;refine aT _ rfl (fun h17=>?_) (fun h17=>?_)
 ·refine go_ ?_;refine sC (AV [pI (E Z.bad)]) aJ eB rfl rfl rfl (go3 ?_);refine bP rfl (.inr rfl) (fQ rfl m0 tyT rfl) ?_;exact congrArg vS2 (show _=(kM a b) from aN h9 (bE h17 rfl))
 refine go_ ?_;refine gds sn [0,8,5,13,17,20,24,28,32,36] [] mix (by kernel_rfl) (go2 ?_);refine fT rfl rfl (fS aJ rfl (fun w hw=>cE a.1 a.2 w) (fun vl18 Ll18 kl18=>⟨(fun _=>sR s0),sn,?_⟩))
 try simp only [gP,lO] at kl18
 refine fT rfl rfl (fS aJ rfl (fun w hw=>cE b.1 b.2 w) (fun vl19 Ll19 kl19=>⟨(fun _=>sR s0),sn,?_⟩))
 try simp only [gP,lO] at kl19
 have hB:=cS_ h17;refine fT rfl rfl (BQ aJ rfl (fun w hw=>mM vl18 vl19 (val a.1.w) (val b.1.w) hB (Nat.le_trans (iV (k:=32) (pL a.2)) dd_) (Nat.le_trans (iV (k:=32) (pL b.2)) dd_) w (SL.sl (SL.sub kl18.sl (sR lZ)) hw) (SL.sl (SL.sub kl19.sl lZ) hw)) (fun vl20_0 vl20_1 Ll20 kl20_0 kl20_1=>⟨(fun _=>sR s0),sn,?_⟩))
 try simp only [gP,lO] at kl20_0 kl20_1
 refine go7 ?_;refine gJv [56,57,58,59,60,61,62,63,64,65] [(65,.bool ((a.1.neg != b.1.neg)&&decide (0<(((dl ((val a.1.w) % (val b.1.w))).length:Nat):Int))))] (fun K6 J6=>?_) ?_
 ·refine go5 ?_;refine sQ (aV (v':=.bool (a.1.neg != b.1.neg)) (uM CD rfl rfl) rfl) rfl ?_;refine sBB rfl (fun h22=>?_) (fun h22=>?_)
  ·refine go_ ?_;refine sQ (aV (v':=.int .i64 (((dl ((val a.1.w) % (val b.1.w))).length:Nat):Int)) (m8 kR rfl (SL.sub kl20_1 lZ)) rfl) rfl (go3 ?_);refine J6 _ _ pp_ s0 (bI (cU h22 rfl))
  refine go5 ?_;refine J6 _ _ pp_ s0 (bI (iQ h22))
 intro g23;refine aT _ rfl (fun h24=>?_) (fun h24=>?_)
 ·refine go2 ?_;refine bJ rfl (jS pF z_3 z8 rfl dd_ rfl (CG 1) (fun b25 hb25=>bJ rfl (fS aJ rfl (fun w hw=>o7 vl20_0 _ (dl ((val a.1.w) / (val b.1.w))) [1] (kL _) (DL.one dd_) (Nat.le_trans (iV (k:=32) (dU_ (pL a.2))) dd_) (by simp) w (SL.sl (SL.sub kl20_0 (sd lZ)) hw) (SL.sl (SL.sub (SL.mine (l:=[1]) List.mem_cons_self (Nat.le_refl _)) (sk sn)) hw)) (fun vl26 Ll26 kl26=>?_))))
  try simp only [gP,lO] at kl26
  refine go7 ?_;refine sQ (aV (v':=.bool (a.1.neg != b.1.neg)) (uM CD rfl rfl) rfl) rfl (go_ ?_);refine sQ (aV (v':=AV [pI (E (Z.of (sgn (a.1.neg != b.1.neg) (((val a.1.w) / (val b.1.w))+1))))]) (bN aJ rfl (fun w hw=>d5 (a.1.neg != b.1.neg) vl26 (dl (((val a.1.w) / (val b.1.w))+1)) (kL _) (Nat.le_trans (iV (k:=33) (fq_ (k:=32) (dU_ (pL a.2)) (Nat.lt_of_lt_of_le (show 1<65536 ^ 1 by decide) (Nat.pow_le_pow_right (show 0<65536 by decide) (show 1≤32 by decide))))) dd_) w (SL.sl (SL.sub kl26.sl lZ) hw))) (by rw [(gP _)];rfl)) rfl (go3 ?_);refine bP rfl (.inr rfl) (fQ rfl (mA (mC (mA (mA (mA mZ))))) tyT rfl) ?_;exact congrArg vS2 (show _=(kM a b) from aN h9 (aN h17 (bE h24 rfl)))
 refine go6 ?_;refine sQ (aV (v':=.bool (a.1.neg != b.1.neg)) (uM CD rfl rfl) rfl) rfl (go_ ?_);refine sQ (aV (v':=AV [pI (E (Z.of (sgn (a.1.neg != b.1.neg) ((val a.1.w) / (val b.1.w)))))]) (bN aJ rfl (fun w hw=>d5 (a.1.neg != b.1.neg) vl20_0 (dl ((val a.1.w) / (val b.1.w))) (kL _) (Nat.le_trans (iV (k:=32) (dU_ (pL a.2))) dd_) w (SL.sl (SL.sub kl20_0 lZ) hw))) (by rw [(gP _)];rfl)) rfl (go3 ?_);refine bP rfl (.inr rfl) (fQ rfl (mA (mA (mA mZ))) tyT rfl) ?_;exact congrArg vS2 (show _=(kM a b) from aN h9 (aN h17 (aN h24 rfl)))
theorem gS (a b:R) (ha:a.Ok) (hb:b.Ok):Ret prog 67 [RV a,RV b] (RV (Z.quo a.dec b.dec).enc):=by
  have h:=zX ⟨a,ha⟩ ⟨b,hb⟩;rw [yL] at h;exact h
theorem mD (a b:R) (ha:a.Ok) (hb:b.Ok) :
    Ret prog 123 [RV a,RV b] (RV (Z.gcd a.dec b.dec).enc):=by
 refine cL (N:=64) func123 rfl rfl (by simp) (fun w0=>?_);simp only [bS,Nat.reduceAdd];have hla:=cV_ ha;have hlb:=cV_ hb;refine go_ ?_;refine bJ rfl (kC rfl rfl (fun b2 hb2=>bJ rfl (kC rfl rfl (fun b3 hb3=>bJ rfl (fB lH (fun b4 hb4=>go2 ?_))))));refine sQ (dF tyT rfl mm_ (dQ ha)) rfl ?_;refine sQ (bZ aJ (gJ a ha) rfl) rfl (go7 ?_);refine sQ (dF tyT rfl mm_ (dQ hb)) rfl ?_;refine sQ (bZ aJ (gJ b hb) rfl) rfl (oS ?_)
 cases w1:iR a
 ·refine go7 ?_;refine sQ (dF tyT rfl mm_ (dQ ha)) rfl ?_;refine sQ (bZ aJ (cF a ha) rfl) rfl (go2 ?_)
  cases ga:a.good
  ·refine go7 ?_;refine sQ (bZ aJ eB rfl) rfl (bJ rfl (cG tyT rfl rfl uu_ (aS _) rfl (bW _) (.inl (by assumption)) ?_));refine go2 ?_;refine bP rfl (.inr rfl) ⟨_,_,_,_,_,_,rfl,mm_,tyT,_,(eH (aS _)),(aS _),rfl⟩ ?_
   (rw [Z.gcd,jJ (.inl (F6 ga))];rfl)
  refine sQ (dF tyT rfl mm_ (dQ hb)) rfl ?_;refine sQ (bZ aJ (cF b hb) rfl) rfl (go3 ?_);refine aT _ rfl (fun gb=>?_) (fun gb=>?_)
  ·replace gb:=cB_ gb
   refine go_ ?_;refine sQ (bZ aJ eB rfl) rfl (bJ rfl (cG tyT rfl rfl uu_ (aS _) rfl (bW _) (.inl (by assumption)) ?_));refine go2 ?_;refine bP rfl (.inr rfl) ⟨_,_,_,_,_,_,rfl,mm_,tyT,_,(eH (aS _)),(aS _),rfl⟩ ?_
   (rw [Z.gcd,jJ (.inr (F6 gb))];rfl)
  replace gb:=cB_ gb
  refine go2 ?_;refine sQ (dF tyT rfl mm_ (dQ ha)) rfl ?_;refine bJ rfl (fS aJ rfl (fun w hw=>cE a ha w) (fun v5 L5 h5=>go3 ?_));refine sQ (dF tyT rfl mm_ (dQ hb)) rfl ?_;refine bJ rfl (fS aJ rfl (fun w hw=>cE b hb w) (fun v6 L6 h6=>go4 ?_));refine cO [10,11,12,13,51,52,53,54,55,56,57,58,59,60,61] (fun g nn M=>∃ (X Y:Nat) (vx vy:Value) (Lx Ly:List Blk),(g 10=vx∧g 11=vy)∧M=Ly ++ (Lx ++ [⟨b4,27,zR⟩,⟨b3,27,b.cells⟩,⟨b2,27,a.cells⟩])∧nn=Y∧((X<65536 ^ 32∧Y<65536 ^ 32)∧Nat.gcd X Y=Nat.gcd (val a.w) (val b.w)∧SL w0 [] Lx vx (dl X)∧SL w0 [] Ly vy (dl Y))) (val b.w) ?start ?round
  case start =>
   refine ⟨_,(List.Sublist.refl _),val a.w,val b.w,v5,v6,L5,L6,⟨?a10,?a11⟩,?mem0,rfl,⟨⟨UH ha,UH hb⟩,rfl,h5.sl,h6.sl⟩⟩
   case mem0=>rfl
   case a10=>rfl
   case a11=>rfl
  case round =>
   rintro nn g M ⟨X,Y,vx,vy,Lx,Ly,⟨hg10,hg11⟩,rfl,hmeas,⟨hb3,hgc,hX,hY⟩⟩;subst nn;simp only [eO,hg10,hg11];clear hg10 hg11;refine go3 ?_;refine sQ (m8 kR rfl (hY.sub lZ)) rfl (go2 ?_);refine aT _ rfl (fun h53=>?_) (fun h53=>?_)
   ·replace h53:=cB_ h53
    have hYp:0<Y:=UG h53;refine go5 ?_;refine bJ rfl (BQ aJ rfl (fun w hw=>mM vx vy X Y hYp (EU hb3.1) (EU hb3.2) w (SL.sl (hX.sub (.trans lZ (List.sublist_append_right _ _))) hw) (SL.sl (hY.sub lZ) hw)) (fun vq vr Lr hq hr=>HW ?_));refine ⟨pp_,_,_,(List.Sublist.append (List.Sublist.refl _) (List.Sublist.append (List.Sublist.refl _) (List.sublist_append_right _ _))),(Nat.mod_lt _ hYp),Y,X % Y,vy,vr,Ly,Lr,⟨?s10,?s11⟩,?mem,rfl,⟨⟨hb3.2,Nat.lt_of_le_of_lt (Nat.mod_le _ _) hb3.1⟩,by rw [← hgc];exact NE X Y,hY,hr⟩⟩
    case mem=>rfl
    case s10=>rfl
    case s11=>rfl
   replace h53:=cB_ h53
   have hY0:Y=0:=P1 h53;refine go3 ?_;refine sQ (bN aJ rfl (fun w hw=>d5 false _ _ (kL _) (Nat.le_trans (EU hb3.1) dd_) w (SL.sl (hX.sub (.trans lZ (List.sublist_append_right _ _))) hw))) rfl (bJ rfl (cG tyT rfl rfl uu_ (aS _) rfl (bW _) (.inl (by assumption)) ?_));refine go2 ?_;refine bP rfl (.inr rfl) ⟨_,_,_,_,_,_,rfl,mm_,tyT,_,(eH (aS _)),(aS _),rfl⟩ ?_
   (rw [ZD ha hb ga gb (by rw [← hgc,hY0,Nat.gcd_zero_right]),gP];rfl)
 refine go3 ?_;refine aT _ rfl (fun w2=>?_) (fun w2=>?_)
 ·replace w2:=cB_ w2
  refine go2 ?_;refine cO [5,7,9,28,29,30,31,32,33,34] (fun g nn M=>∃ (x y:Int),(g 5 = .int .i64 x∧g 7 = .int .i64 y)∧M=[⟨b4,27,zR⟩,⟨b3,27,b.cells⟩,⟨b2,27,a.cells⟩]∧nn=y.natAbs∧((-4611686018427387904<x∧x<4611686018427387904)∧(-4611686018427387904<y∧y<4611686018427387904)∧Int.gcd x y=Int.gcd (jV a) (jV b))) ((jV b).natAbs) ?start ?round
  case start =>
   refine ⟨_,(List.Sublist.refl _),jV a,jV b,⟨?a5,?a7⟩,?mem0,rfl,⟨(lU ha w1).2.2.2,(lU hb w2).2.2.2,rfl⟩⟩
   case mem0=>rfl
   case a5=>rfl
   case a7=>rfl
  case round =>
   rintro nn g M ⟨x,y,⟨hg5,hg7⟩,rfl,hmeas,⟨hx,hy,hgc⟩⟩;subst nn;simp only [eO,hg5,hg7];clear hg5 hg7;refine go5 ?_;refine aT _ rfl (fun h29=>?_) (fun h29=>?_)
   ·replace h29:=cB_ h29
    refine go5 ?_;refine sQ (t7 rfl rfl h29) rfl (oS ?_);refine ⟨pp_,_,_,(List.Sublist.refl _),(uO (by simpa using h29)).1,y,x.tmod y,⟨?s5,?s7⟩,?mem,rfl,⟨hy,eb_ hx,by rw [← hgc];exact ZM x y⟩⟩
    case mem=>rfl
    case s5=>rfl
    case s7=>rfl
   replace h29:=cB_ h29
   have hy0:y=0:=by simpa using h29
   refine go3 ?_;refine sQ (bZ aJ (dY x (ea_ hx)) rfl) rfl (sQ (bZ aJ (t8 (Z.of x).enc (Z.enc_ok _)) rfl) rfl (bJ rfl (cG tyT rfl rfl uu_ (aS _) rfl (bW _) (.inl (by assumption)) ?_)));refine go2 ?_;refine bP rfl (.inr rfl) ⟨_,_,_,_,_,_,rfl,mm_,tyT,_,(eH (aS _)),(aS _),rfl⟩ ?_
   (rw [yP,V6 ha hb w1 w2 hgc hy0];rfl)
 replace w2:=cB_ w2
 refine go3 ?_;refine sQ (dF tyT rfl mm_ (dQ ha)) rfl ?_;refine sQ (bZ aJ (cF a ha) rfl) rfl (go2 ?_)
 cases ga:a.good
 ·refine go7 ?_;refine sQ (bZ aJ eB rfl) rfl (bJ rfl (cG tyT rfl rfl uu_ (aS _) rfl (bW _) (.inl (by assumption)) ?_));refine go2 ?_;refine bP rfl (.inr rfl) ⟨_,_,_,_,_,_,rfl,mm_,tyT,_,(eH (aS _)),(aS _),rfl⟩ ?_
  (rw [Z.gcd,jJ (.inl (F6 ga))];rfl)
 refine sQ (dF tyT rfl mm_ (dQ hb)) rfl ?_;refine sQ (bZ aJ (cF b hb) rfl) rfl (go3 ?_);refine aT _ rfl (fun gb=>?_) (fun gb=>?_)
 ·replace gb:=cB_ gb
  refine go_ ?_;refine sQ (bZ aJ eB rfl) rfl (bJ rfl (cG tyT rfl rfl uu_ (aS _) rfl (bW _) (.inl (by assumption)) ?_));refine go2 ?_;refine bP rfl (.inr rfl) ⟨_,_,_,_,_,_,rfl,mm_,tyT,_,(eH (aS _)),(aS _),rfl⟩ ?_
  (rw [Z.gcd,jJ (.inr (F6 gb))];rfl)
 replace gb:=cB_ gb
 refine go2 ?_;refine sQ (dF tyT rfl mm_ (dQ ha)) rfl ?_;refine bJ rfl (fS aJ rfl (fun w hw=>cE a ha w) (fun v5 L5 h5=>go3 ?_));refine sQ (dF tyT rfl mm_ (dQ hb)) rfl ?_;refine bJ rfl (fS aJ rfl (fun w hw=>cE b hb w) (fun v6 L6 h6=>go4 ?_));refine cO [10,11,12,13,51,52,53,54,55,56,57,58,59,60,61] (fun g nn M=>∃ (X Y:Nat) (vx vy:Value) (Lx Ly:List Blk),(g 10=vx∧g 11=vy)∧M=Ly ++ (Lx ++ [⟨b4,27,zR⟩,⟨b3,27,b.cells⟩,⟨b2,27,a.cells⟩])∧nn=Y∧((X<65536 ^ 32∧Y<65536 ^ 32)∧Nat.gcd X Y=Nat.gcd (val a.w) (val b.w)∧SL w0 [] Lx vx (dl X)∧SL w0 [] Ly vy (dl Y))) (val b.w) ?start ?round
 case start =>
  refine ⟨_,(List.Sublist.refl _),val a.w,val b.w,v5,v6,L5,L6,⟨?a10,?a11⟩,?mem0,rfl,⟨⟨UH ha,UH hb⟩,rfl,h5.sl,h6.sl⟩⟩
  case mem0=>rfl
  case a10=>rfl
  case a11=>rfl
 case round =>
  rintro nn g M ⟨X,Y,vx,vy,Lx,Ly,⟨hg10,hg11⟩,rfl,hmeas,⟨hb3,hgc,hX,hY⟩⟩;subst nn;simp only [eO,hg10,hg11];clear hg10 hg11;refine go3 ?_;refine sQ (m8 kR rfl (hY.sub lZ)) rfl (go2 ?_);refine aT _ rfl (fun h53=>?_) (fun h53=>?_)
  ·replace h53:=cB_ h53
   have hYp:0<Y:=UG h53;refine go5 ?_;refine bJ rfl (BQ aJ rfl (fun w hw=>mM vx vy X Y hYp (EU hb3.1) (EU hb3.2) w (SL.sl (hX.sub (.trans lZ (List.sublist_append_right _ _))) hw) (SL.sl (hY.sub lZ) hw)) (fun vq vr Lr hq hr=>HW ?_));refine ⟨pp_,_,_,(List.Sublist.append (List.Sublist.refl _) (List.Sublist.append (List.Sublist.refl _) (List.sublist_append_right _ _))),(Nat.mod_lt _ hYp),Y,X % Y,vy,vr,Ly,Lr,⟨?s10,?s11⟩,?mem,rfl,⟨⟨hb3.2,Nat.lt_of_le_of_lt (Nat.mod_le _ _) hb3.1⟩,by rw [← hgc];exact NE X Y,hY,hr⟩⟩
   case mem=>rfl
   case s10=>rfl
   case s11=>rfl
  replace h53:=cB_ h53
  have hY0:Y=0:=P1 h53;refine go3 ?_;refine sQ (bN aJ rfl (fun w hw=>d5 false _ _ (kL _) (Nat.le_trans (EU hb3.1) dd_) w (SL.sl (hX.sub (.trans lZ (List.sublist_append_right _ _))) hw))) rfl (bJ rfl (cG tyT rfl rfl uu_ (aS _) rfl (bW _) (.inl (by assumption)) ?_));refine go2 ?_;refine bP rfl (.inr rfl) ⟨_,_,_,_,_,_,rfl,mm_,tyT,_,(eH (aS _)),(aS _),rfl⟩ ?_
  (rw [ZD ha hb ga gb (by rw [← hgc,hY0,Nat.gcd_zero_right]),gP];rfl)
theorem vE (r:R) (h:r.Ok) :
    Ret prog 140 [RV r] (.bool r.valid):=by
 refine cL (N:=23) func140 rfl rfl (by simp) (fun w0=>?_);simp only [bS,Nat.reduceAdd];refine go_ ?_;refine bJ rfl (kC rfl rfl (fun b1 hb1=>go3 ?_));refine sQ (dA fdT dd_ rfl) rfl (sQ (iZ (vs:=uw r.w) tyT rfl mm_ (lI h.len) ((iE _).trans h.len)) rfl ?_);refine sQ (oV pS arT rfl (.nil _)) rfl ?_;refine sQ (xI (r:=r.zero) rfl rfl (oA 8 dd_ HK H6 (nO h.len) (nO (by simp)) h.zero_iff)) rfl ?_;refine go4 ?_;refine sQ (dA fdT dd_ rfl) rfl (sQ (d8 tyT rfl mm_ rfl) rfl ?_);refine go_ ?_;refine aT _ rfl (fun hb=>?_) (fun hb=>?_)
 ·replace hb:=cB_ hb
  refine go3 ?_
  cases hz:r.zero
  ·refine go7 ?_;refine bP rfl (.inr rfl) rfl ?_
   simp [R.valid, *]
  refine sQ (dA fdT dd_ rfl) rfl (sQ (d8 tyT rfl mm_ rfl) rfl ?_);refine go5 ?_;refine bP rfl (.inr rfl) rfl ?_
  simp [R.valid, *]
 replace hb:=cB_ hb
 refine go5 ?_
 cases hz:r.zero
 ·refine go7 ?_;refine bP rfl (.inr rfl) rfl ?_
  simp [R.valid, *]
 refine sQ (dA fdT dd_ rfl) rfl (sQ (d8 tyT rfl mm_ rfl) rfl ?_);refine go5 ?_;refine bP rfl (.inr rfl) rfl ?_
 simp [R.valid, *]
theorem jF  :
    Ret prog 161 [] (RV Z.bad.enc):=by
 refine cL (N:=2) func161 rfl rfl (by simp) (fun w0=>?_);simp only [bS,Nat.reduceAdd];refine go_ ?_;refine bJ rfl (fB lH (fun b0 hb0=>go2 ?_));refine sQ (wB lH plT rfl (.cons rfl (vs:=[.bool true]) rfl rfl (by simp [zR]) (z':=Z.bad.enc.cells) rfl (.nil _))) rfl ?_;refine bJ rfl (cG tyT rfl rfl uu_ rfl rfl (bW Z.bad.enc) (.inl (by assumption)) ?_);refine go2 ?_;refine bP rfl (.inr rfl) ⟨_,_,_,_,_,_,rfl,mm_,tyT,_,(eH rfl),rfl,rfl⟩ ?_;exact rfl
theorem gI (neg:Bool) (w:List Nat) (hw:w.length=16) (hlim:Lim w) :
    Ret prog 153 [.bool neg,UV w] (RV ⟨false,neg && !(val w==0),w⟩):=by
 refine cL (N:=13) func153 rfl rfl (by simp) (fun w0=>?_);simp only [bS,Nat.reduceAdd]
 have hlw:(uw w).length=16:=by rw [iE,hw]
 refine go_ ?_;refine bJ rfl (kC rfl rfl (fun b3 hb3=>bJ rfl (fB lH (fun b4 hb4=>go2 ?_))));refine rE (sd (sk (s0))) 9 [8] [8] (go2 ?_)
 cases neg
 ·refine go4 ?_;refine pQ rfl (dF tyT rfl mm_ hlw) ?_;refine pQ rfl (wB lH plT rfl (ZA hw)) ?_;refine fT rfl rfl (cG tyT rfl rfl uu_ (by simp [R.cells,hlw]) rfl (bW _) (.inl (by assumption)) ⟨nf,ss_,?_⟩);refine go2 ?_;refine bP rfl (.inr rfl) ⟨_,_,_,_,_,_,rfl,mm_,tyT,_,(eH (by simp [R.cells,hlw])),(by simp [R.cells,hlw]),rfl⟩ ?_;rfl
 refine pQ rfl (dF tyT rfl mm_ hlw) ?_;refine pQ rfl (oV pS arT rfl (.nil _)) ?_;refine pQ rfl (CO (r:=(val w==0)) rfl rfl (oA 8 dd_ HK H6 (nO hw) (nO (by simp)) (BW hw hlim))) ?_;refine go_ ?_;refine pQ rfl (dF tyT rfl mm_ hlw) ?_;refine pQ rfl (wB lH plT rfl (ZA hw)) ?_;refine fT rfl rfl (cG tyT rfl rfl uu_ (by simp [R.cells,hlw]) rfl (bW _) (.inl (by assumption)) ⟨nf,ss_,?_⟩);refine go2 ?_;refine bP rfl (.inr rfl) ⟨_,_,_,_,_,_,rfl,mm_,tyT,_,(eH (by simp [R.cells,hlw])),(by simp [R.cells,hlw]),rfl⟩ ?_;rfl
theorem jC (rs:List R) (hrs:∀ r∈rs,r.Ok) (b T:Nat) (w:World) (hb:w.heap[b]? = some (.cells (rs.flatMap R.cells).toArray T (0,0))) (hn:rs.length≤1000) :
    Calls prog 121 [.slice (some ⟨b,0,none⟩) rs.length rs.length].toArray w (fun e w'=>e = .returned (.bool (rs.all R.good))∧Ext w w'):=by
 refine cT (N:=19) func121 rfl rfl (by simp) ?_;obtain ⟨w0,rfl⟩:∃ w0,w0=w:=⟨_,rfl⟩;simp only [bS,Nat.reduceAdd];refine go6 ?_;refine sQ (UT m6 rfl) rfl (go3 ?_);refine cO [2,4,7,8,9,10,11,12,13,14,15,16,17,18] (fun g nn M=>∃ (k:Nat),(g 7 = .int .i64 (k:Int))∧M=[]∧nn=rs.length - k∧(k≤rs.length∧(rs.take k).all R.good=true)) (rs.length - 0) ?start ?round
 case start =>
  refine ⟨_,(List.Sublist.refl _),0,?a7,?mem0,rfl,⟨Nat.zero_le _,rfl⟩⟩
  case mem0=>rfl
  case a7=>rfl
 case round =>
  rintro nn g M ⟨k,hg7,rfl,hmeas,⟨hk,hall⟩⟩;subst nn;simp only [eO,hg7];clear hg7;refine go4 ?_;refine aT _ rfl (fun hc=>?_) (fun hc=>?_)
  ·replace hc:=cB_ hc
   obtain ⟨r,hr⟩:∃ r,rs[k]? = some r:=⟨_,List.getElem?_eq_getElem oo_⟩;have hrok:=hrs r (List.mem_of_getElem? hr);refine go4 ?_;refine sQ (CN m6 rfl rfl oo_ oo_) rfl (sQ (QK (vs:=r.cells) tyT rfl hb (by simp) (by rw [show (0+(k:Int).toNat * 18)=k * 18 by omega];exact D5 R.cells 18 rs k r (fun y hy=>dQ (hrs y hy)) hr) (dQ hrok)) rfl ?_);refine bJ rfl (fB lH (fun b4 hb4=>bJ rfl (cG tyT rfl rfl uu_ (dQ hrok) rfl (bW _) (.inl (by assumption)) ?_)));refine go2 ?_;refine sQ (dA fdT dd_ rfl) rfl (sQ (d8 tyT rfl mm_ rfl) rfl ?_);refine go_ ?_
   cases hbad:r.bad
   ·refine sQ (dF tyT rfl mm_ (dQ hrok)) rfl ?_;refine sQ (bZ aJ (vE r hrok) rfl) rfl (go3 ?_);refine aT _ rfl (fun hx=>?_) (fun hx=>?_)
    ·replace hx:=cB_ hx
     skip
     refine go4 ?_;refine bP rfl (.inr rfl) rfl ?_;exact congrArg Value.bool (C0 hr (by simp [R.good,hbad,hx]))
    replace hx:=cB_ hx
    skip
    refine go5 ?_;refine ⟨pp_,_,_,(List.Sublist.cons _ (List.Sublist.refl _)),oo_,k+1,?s7,?mem,rfl,⟨by omega,by rw [KB oo_ hr];simp [hall,R.good,hbad,hx]⟩⟩
    case mem=>rfl
    case s7=>(show Value.int .i64 _=_;rw [cJ (by unfold I64;omega)];rfl)
   refine oS ?_;refine bP rfl (.inr rfl) rfl ?_;exact congrArg Value.bool (C0 hr (by simp [R.good,hbad]))
  replace hc:=cB_ hc
  have hke:k=rs.length:=by omega
  refine go5 ?_;refine bP rfl (.inr rfl) rfl ?_
  (subst hke;rw [List.take_length] at hall;exact congrArg Value.bool hall.symm)
theorem JK (xs ys:List Nat) (hx:xs.length=16) (hy:ys.length=16) (lx:Lim xs) (ly:Lim ys) :
    Ret prog 168 [UV xs,UV ys] (.tuple #[UV (toL 16 (val xs+val ys)),.bool (((cy (val xs) (val ys) 16:Nat):Int)==0)]):=by
 refine cL (N:=33) func168 rfl rfl (by simp) (fun w0=>?_);simp only [bS,Nat.reduceAdd];refine go_ ?_;refine bJ rfl (kC rfl rfl (fun b2 hb2=>bJ rfl (kC rfl rfl (fun b3 hb3=>bJ rfl (fB pS (fun b4 hb4=>go3 ?_))))));refine bJ rfl (fB pS (fun b6 hb6=>go9 ?_));refine cO [7,8,9,10,11,12,13,14,15,16,17,18,19,20,21,22,23,24,25,26,27,28,29] (fun g nn M=>∃ (k:Nat),(g 7 = .int .u64 ((cy (val xs) (val ys) k:Nat):Int)∧g 9 = .int .i64 (k:Int))∧M=[⟨b6,25,uw (xO k (val xs+val ys) 16)⟩,⟨b4,25,uw (List.replicate 16 0)⟩,⟨b3,25,uw ys⟩,⟨b2,25,uw xs⟩]∧nn=16 - k∧(k≤16)) (16) ?start ?round
 case start =>
  refine ⟨_,(List.Sublist.refl _),0,⟨?a7,?a9⟩,?mem0,rfl,Nat.zero_le _⟩
  case mem0=>rw [yQ]
  case a7=>rw [bC_];rfl
  case a9=>rfl
 case round =>
  rintro nn g M ⟨k,⟨hg7,hg9⟩,rfl,hmeas,hk⟩;subst nn;simp only [eO,hg7,hg9];clear hg7 hg9;refine go4 ?_;refine aT _ rfl (fun hc=>?_) (fun hc=>?_)
  ·replace hc:=cB_ hc
   have hc:k<16:=by omega
   have hcy:=fp_ (val xs) (val ys) k;refine go8 ?_;refine rE (sk (sk (sk (sk (s0))))) 12 [] [] (go2 ?_);refine pQ rfl (fI arT rfl rfl oo_ oo_) (pQ rfl (d8 tyT rfl mm_ (tZ oo_)) ?_);refine pQ rfl (eX iF fY rfl) (go_ ?_);refine pQ rfl (fI arT rfl rfl oo_ oo_) (pQ rfl (d8 tyT rfl mm_ (tZ oo_)) ?_);refine pQ rfl (eX iF fY rfl) (go_ ?_);refine pQ rfl (aV (jE rfl rfl) (congrArg (Value.int .u64) (ey_ hcy (eG lx k) (eG ly k)))) (go5 ?_);refine sQ (aV (eX fY iF rfl) (oP _)) rfl (sQ (fI arT rfl rfl oo_ oo_) rfl (bJ rfl (nM tyT rfl rfl uu_ (by rw [jO _ hk];exact hc) (.inl (by assumption)) ?_)));refine go3 ?_;refine sQ (aV (u5 rfl rfl dd_) (congrArg (Value.int .u64) (rA _ 32))) rfl (go6 ?_);refine ⟨pp_,_,_,(List.Sublist.refl _),oo_,k+1,⟨?s7,?s9⟩,?mem,rfl,oo_⟩
   case mem=>rw [fK xs k lx,fK ys k ly,SO,xP _ hc]
   case s7=>rw [← SN,← fK xs k lx,← fK ys k ly];rfl
   case s9=>exact congrArg (Value.int .i64) (cJ (n:=(k:Int)+1) (by unfold I64;omega))
  replace hc:=cB_ hc
  obtain rfl:k=16:=by omega
  refine go2 ?_;refine sQ (dF tyT rfl mm_ (by simp [uw,jO])) rfl ?_;refine go2 ?_;refine bJ rfl (cG tyT rfl rfl uu_ (by simp [uw,jO]) rfl (i6 _) (.inl (by assumption)) ?_);refine go3 ?_;refine i7 rfl (.inr rfl) ⟨_,_,_,_,_,_,rfl,mm_,tyT,_,(eH (by simp [uw,jO])),(by simp [uw,jO]),rfl⟩ rfl ?_;rw [BI];rfl
theorem vF (xs ys:List Nat) (hx:xs.length=16) (hy:ys.length=16) (lx:Lim xs) (ly:Lim ys) (hle:val ys≤val xs) :
    Ret prog 170 [UV xs,UV ys] (UV (toL 16 (val xs - val ys))):=by
 refine cL (N:=31) func170 rfl rfl (by simp) (fun w0=>?_);simp only [bS,Nat.reduceAdd];refine go_ ?_;refine bJ rfl (kC rfl rfl (fun b2 hb2=>bJ rfl (kC rfl rfl (fun b3 hb3=>bJ rfl (fB pS (fun b4 hb4=>go2 ?_))))));refine bJ rfl (fB pS (fun b5 hb5=>go9 ?_));refine cO [6,7,8,9,10,11,12,13,14,15,16,17,18,19,20,21,22,23,24,25,26,27,28,29] (fun g nn M=>∃ (k:Nat),(g 6 = .int .u64 ((bw (val xs) (val ys) k:Nat):Int)∧g 9 = .int .i64 (k:Int))∧M=[⟨b5,25,uw (xO k (val xs - val ys) 16)⟩,⟨b4,25,uw (List.replicate 16 0)⟩,⟨b3,25,uw ys⟩,⟨b2,25,uw xs⟩]∧nn=16 - k∧(k≤16)) (16) ?start ?round
 case start =>
  refine ⟨_,(List.Sublist.refl _),0,⟨?a6,?a9⟩,?mem0,rfl,Nat.zero_le _⟩
  case mem0=>rw [yQ]
  case a6=>rw [bx_];rfl
  case a9=>rfl
 case round =>
  rintro nn g M ⟨k,⟨hg6,hg9⟩,rfl,hmeas,hk⟩;subst nn;simp only [eO,hg6,hg9];clear hg6 hg9;refine go4 ?_;refine aT _ rfl (fun hc=>?_) (fun hc=>?_)
  ·replace hc:=cB_ hc
   have hc:k<16:=by omega
   have hbw:=fm_ (val xs) (val ys) k;refine go8 ?_;refine rE (sk (sk (sk (sk (s0))))) 12 [] [] (go_ ?_);refine pQ rfl (fI arT rfl rfl oo_ oo_) (pQ rfl (d8 tyT rfl mm_ (tZ oo_)) ?_);refine pQ rfl (eX iF fY rfl) (go_ ?_);refine pQ rfl (fI arT rfl rfl oo_ oo_) (pQ rfl (d8 tyT rfl mm_ (tZ oo_)) ?_);refine pQ rfl (eX iF fY rfl) (go2 ?_);refine pQ rfl (aV (oD rfl rfl) (congrArg (Value.int .u64) (UL hbw (eG lx k) (eG ly k)))) (go5 ?_);refine sQ (aV (eX fY iF rfl) (oP _)) rfl (sQ (fI arT rfl rfl oo_ oo_) rfl (bJ rfl (nM tyT rfl rfl uu_ (by rw [jO _ hk];exact hc) (.inl (by assumption)) ?_)));refine go3 ?_;refine sQ (aV (u5 rfl rfl dd_) (congrArg (Value.int .u64) (rA _ 63))) rfl (go6 ?_);refine ⟨pp_,_,_,(List.Sublist.refl _),oo_,k+1,⟨?s6,?s9⟩,?mem,rfl,oo_⟩
   case mem=>rw [fK xs k lx,fK ys k ly,P3 k hle,xP _ hc]
   case s6=>rw [← NN,← fK xs k lx,← fK ys k ly];rfl
   case s9=>exact congrArg (Value.int .i64) (cJ (n:=(k:Int)+1) (by unfold I64;omega))
  replace hc:=cB_ hc
  obtain rfl:k=16:=by omega
  refine go2 ?_;refine sQ (dF tyT rfl mm_ (by simp [uw,jO])) rfl ?_;refine bJ rfl (cG tyT rfl rfl uu_ (by simp [uw,jO]) rfl (i6 _) (.inl (by assumption)) ?_);refine go2 ?_;refine bP rfl (.inr rfl) ⟨_,_,_,_,_,_,rfl,mm_,tyT,_,(eH (by simp [uw,jO])),(by simp [uw,jO]),rfl⟩ ?_;rw [BI];rfl
theorem FS (x:Nat) :
    Ret prog 195 [U32 x] (.bool false):=by
 refine cL (N:=6) func195 rfl rfl (by simp) (fun w0=>?_);simp only [bS,Nat.reduceAdd];refine go6 ?_;refine sQ (aV (c5_ rfl rfl) (congrArg Value.bool (bne_self_eq_false _))) rfl (go3 ?_);refine bP rfl (.inr rfl) rfl ?_;exact rfl
theorem VY (x y:Nat) :
    Ret prog 185 [U32 x,U32 y] (.int .i64 (v4 x y)):=by
 refine cL (N:=20) func185 rfl rfl (by simp) (fun w0=>?_);simp only [bS,Nat.reduceAdd];refine go5 ?_;refine sQ (bZ aJ (FS x) rfl) rfl (go4 ?_);refine sQ (bZ aJ (FS y) rfl) rfl (fA_ ?_);refine aT _ rfl (fun h1=>?_) (fun h1=>?_)
 ·replace h1:=cB_ h1
  refine go4 ?_;refine bP rfl (.inr rfl) rfl ?_;exact congrArg _ (wX h1).symm
 replace h1:=cB_ h1
 refine go7 ?_;refine aT _ rfl (fun h2=>?_) (fun h2=>?_)
 ·replace h2:=cB_ h2
  refine go4 ?_;refine bP rfl (.inr rfl) rfl ?_;exact congrArg _ (wW h2).symm
 replace h2:=cB_ h2
 refine go5 ?_;refine bP rfl (.inr rfl) rfl ?_
 (obtain rfl:x=y:=by omega);exact congrArg _ (C5 _).symm
theorem n5 (xs ys:List Nat) (hx:xs.length=16) (hy:ys.length=16) (lx:Lim xs) (ly:Lim ys) :
    Ret prog 169 [UV xs,UV ys] (.int .i64 (v4 (val xs) (val ys))):=by
 refine cL (N:=24) func169 rfl rfl (by simp) (fun w0=>?_);simp only [bS,Nat.reduceAdd];refine go_ ?_;refine bJ rfl (kC rfl rfl (fun b2 hb2=>bJ rfl (kC rfl rfl (fun b3 hb3=>go7 ?_))));refine cO [4,5,6,7,8,9,10,11,12,13,14,15,16,17,18,19,20,21,22,23] (fun g nn M=>∃ (k:Nat),(g 5 = .int .i64 ((k:Int) - 1))∧M=[⟨b3,25,uw ys⟩,⟨b2,25,uw xs⟩]∧nn=k+0∧(k≤16∧xs.drop k=ys.drop k)) (16) ?start ?round
 case start =>
  refine ⟨_,(List.Sublist.refl _),16,?a5,?mem0,rfl,⟨Nat.le_refl _,by rw [List.drop_eq_nil_of_le oo_,List.drop_eq_nil_of_le oo_]⟩⟩
  case mem0=>rfl
  case a5=>rfl
 case round =>
  rintro nn g M ⟨k,hg5,rfl,hmeas,⟨hk,hd⟩⟩;subst nn;simp only [eO,hg5];clear hg5;refine go5 ?_;refine aT _ rfl (fun hc=>?_) (fun hc=>?_)
  ·replace hc:=cB_ hc
   obtain ⟨m,rfl⟩:∃ m,k=m+1:=⟨k - 1,by omega⟩;refine go4 ?_;refine rE (sk (sk (s0))) 7 [] [] (pQ rfl (aV (kE rfl) (congrArg (Value.int .i64) (show (((m+1:Nat):Int) - 1)=(m:Int) by omega))) (pQ rfl (fI arT rfl rfl oo_ oo_) (pQ rfl (d8 tyT rfl mm_ (tZ oo_)) ?_)));refine pQ rfl (aV (kE rfl) (congrArg (Value.int .i64) (show (((m+1:Nat):Int) - 1)=(m:Int) by omega))) (pQ rfl (fI arT rfl rfl oo_ oo_) (pQ rfl (d8 tyT rfl mm_ (tZ oo_)) ?_));refine go2 ?_;refine aT _ rfl (fun hne=>?_) (fun hne=>?_)
   ·replace hne:=cB_ hne
    refine go_ ?_;refine rE (sk (sk (s0))) 8 [] [] (pQ rfl (aV (kE rfl) (congrArg (Value.int .i64) (show (((m+1:Nat):Int) - 1)=(m:Int) by omega))) (pQ rfl (fI arT rfl rfl oo_ oo_) (pQ rfl (d8 tyT rfl mm_ (tZ oo_)) ?_)));refine pQ rfl (aV (kE rfl) (congrArg (Value.int .i64) (show (((m+1:Nat):Int) - 1)=(m:Int) by omega))) (pQ rfl (fI arT rfl rfl oo_ oo_) (pQ rfl (d8 tyT rfl mm_ (tZ oo_)) ?_));refine pQ rfl (bZ aJ (VY _ _) rfl) (go3 ?_);refine bP rfl (.inr rfl) rfl ?_;exact congrArg _ (SK lx ly oo_ hd oo_)
   replace hne:=cB_ hne
   refine go2 ?_;refine sQ (aV (kE rfl) (congrArg (Value.int .i64) (show (((m+1:Nat):Int) - 1)=(m:Int) by omega))) rfl (go3 ?_);refine ⟨pp_,_,_,(List.Sublist.refl _),oo_,m,?s5,?mem,rfl,⟨by omega,M4 oo_ hd oo_ oo_⟩⟩
   case mem=>rfl
   case s5=>exact congrArg (Value.int .i64) (cJ (n:=(m:Int) - 1) (by unfold I64;omega))
  replace hc:=cB_ hc
  obtain rfl:k=0:=by omega
  refine go5 ?_;refine bP rfl (.inr rfl) rfl ?_
  (rw [List.drop_zero,List.drop_zero] at hd;subst hd;exact congrArg _ (C5 _).symm)
theorem nP (xs:List Nat) (hx:xs.length=16) :
    Ret prog 171 [UV xs] (.int .i64 ((szL xs:Nat):Int)):=by
 refine cL (N:=16) func171 rfl rfl (by simp) (fun w0=>?_);simp only [bS,Nat.reduceAdd];refine go_ ?_;refine bJ rfl (kC rfl rfl (fun b1 hb1=>go7 ?_));refine cO [3,4,5,6,7,8,9,10,11,12,13,14] (fun g nn M=>∃ (k:Nat),(g 3 = .int .i64 (k:Int))∧M=[⟨b1,25,uw xs⟩]∧nn=k+0∧(k≤16∧∀ j,k≤j→xs.getD j 0=0)) (16) ?start ?round
 case start =>
  refine ⟨_,(List.Sublist.refl _),16,?a3,?mem0,rfl,⟨Nat.le_refl _,fun j hj=>by simp [List.getD,List.getElem?_eq_none (show xs.length≤j by omega)]⟩⟩
  case mem0=>rfl
  case a3=>rfl
 case round =>
  rintro nn g M ⟨k,hg3,rfl,hmeas,⟨hk,hhi⟩⟩;subst nn;simp only [eO,hg3];clear hg3;refine go5 ?_
  cases hz:decide ((0:Int)<(k:Int))
  ·refine HW ?_;refine bP rfl (.inr rfl) rfl ?_;exact congrArg (fun n:Nat=>Value.int .i64 (n:Int)) (OH hhi (.inl (by have:=of_decide_eq_false hz;omega))).symm
  have hz':=of_decide_eq_true hz;obtain ⟨m,rfl⟩:∃ m,k=m+1:=⟨k - 1,by omega⟩;refine go_ ?_;refine sQ (aV (oD rfl rfl) (congrArg (Value.int .i64) (xX oo_))) rfl (sQ (fI arT rfl rfl oo_ oo_) rfl (sQ (d8 tyT rfl mm_ (tZ oo_)) rfl ?_));refine go3 ?_;refine aT _ rfl (fun h0=>?_) (fun h0=>?_)
  ·replace h0:=cB_ h0
   refine go4 ?_;refine sQ (aV (oD rfl rfl) (congrArg (Value.int .i64) (xX oo_))) rfl (go2 ?_);refine ⟨pp_,_,_,(List.Sublist.refl _),oo_,m,?s3,?mem,rfl,⟨by omega,fun j hj=>by rcases Nat.eq_or_lt_of_le hj with rfl | hj;omega;exact hhi j hj⟩⟩
   case mem=>rfl
   case s3=>rfl
  replace h0:=cB_ h0
  refine go6 ?_;refine bP rfl (.inr rfl) rfl ?_;exact congrArg (fun n:Nat=>Value.int .i64 (n:Int)) (OH hhi (.inr (by simp only [Nat.add_sub_cancel];omega))).symm
end Go.Proofs.YtokjfhfiodopdaaGreat
