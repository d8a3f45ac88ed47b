/- Lemmas: what they ask stands in their statements. -/
import Derived.Test.YtokjfhfiodopdaaGreatWWe
set_option linter.unusedSimpArgs false
set_option linter.unusedVariables false
set_option maxHeartbeats 8000000
set_option maxRecDepth 20000
namespace Go.Proofs.YtokjfhfiodopdaaGreat
open Go.Kn Go.Num Tryz
attribute [local irreducible] Go.Kn.W WL PL OpQ OpR OpS
theorem HH (a:R) (ha:a.Ok) :
    Ret prog 196 [RV a] (.int .i64 ((a.dec.bits:Nat):Int)):=by
 refine bT (N:=25) func196 rfl rfl (by simp) (fun w0=>?_);simp only [bK,Nat.reduceAdd];refine go_ ?_;refine bC rfl (jN rfl rfl (fun b1 hb1=>go3 ?_));refine sQ (cC fdT dd_ rfl) rfl (sQ (hZ (vs:=uw a.w) tyT rfl mm_ (kH ha.len) ((gI _).trans ha.len)) rfl ?_);refine sQ (bM aJ (mL a.w ha.len) rfl) rfl (go4 ?_);refine sQ (cJ tyT rfl mm_ (cX ha)) rfl ?_;refine bC rfl (jA nM kR nU rfl dd_ rfl (wZ ha) (fun b8 hb8=>sQ (bE aJ rfl (fun w hw=>iN [a] (ok1 ha) b8 27 w (hw.mem _ m0) (by simp))) rfl ?_));refine go2 ?_
 cases hg:[a].all R.good
 ·refine go9 ?_;refine bG rfl (.inr rfl) rfl ?_;exact congrArg (fun n:Nat=>Value.int .i64 (n:Int)) (WH (by simpa using hg))
 refine go4 ?_;refine aQ _ rfl (fun hz=>?_) (fun hz=>?_)
 ·replace hz:=cB_ hz
  refine go4 ?_;refine bG rfl (.inr rfl) rfl ?_;exact congrArg (fun n:Nat=>Value.int .i64 (n:Int)) (UB ha (by simpa using hg) oo_)
 replace hz:=cB_ hz
 refine go2 ?_
 have hs1:1≤szL a.w:=by omega
 have hs16:szL a.w≤16:=by have:=tS a.w;rw [ha.len] at this;exact this
 refine go_ ?_;refine sQ (aS (nF rfl rfl) (congrArg (Value.int .i64) (rY (b:=1) rfl oo_ oo_))) rfl (sQ (aS (S7 rfl rfl) (congrArg (Value.int .i64) (eZ_ rfl oo_))) rfl (go_ ?_));refine sQ (aS (nF rfl rfl) (congrArg (Value.int .i64) (rY (b:=1) rfl oo_ oo_))) rfl (sQ (cC fdT dd_ rfl) rfl (sQ (eK arT rfl rfl oo_ oo_) rfl (sQ (dJ tyT rfl mm_ (mO (r:=a) (k:=szL a.w - 1) (by rw [ha.len];omega))) rfl ?_)));refine sQ (bM aJ (IT _ (dR ha.lim _)) rfl) rfl (sQ (aS (iO rfl rfl) (congrArg (Value.int .i64) (nA (by have:=uI (k:=32) (dR ha.lim (szL a.w - 1));omega)))) rfl (go3 ?_));refine bG rfl (.inr rfl) rfl ?_;exact congrArg (fun n:Nat=>Value.int .i64 (n:Int)) (WJ ha (by simpa using hg) hs1)
theorem xR (a:R) (ha:a.Ok) :
    Ret prog 186 [RV a] (.tuple #[.int .i64 a.dec.small.1,.bool a.dec.small.2]):=by
 refine bT (N:=44) func186 rfl rfl (by simp) (fun w0=>?_);simp only [bK,Nat.reduceAdd];refine go_ ?_;refine bC rfl (jN rfl rfl (fun b1 hb1=>go5 ?_));refine sQ (cJ tyT rfl mm_ (cX ha)) rfl ?_;refine bC rfl (jA nM kR nU rfl dd_ rfl (wZ ha) (fun b6 hb6=>sQ (bE aJ rfl (fun w hw=>iN [a] (ok1 ha) b6 27 w (hw.mem _ m0) (by simp))) rfl ?_));refine go2 ?_
 cases hg:[a].all R.good
 ·refine vK ?_;refine iY rfl (.inr rfl) rfl rfl ?_;exact VE (by simpa using hg)
 refine sQ (cJ tyT rfl mm_ (cX ha)) rfl ?_;refine sQ (bM aJ (HH a ha) rfl) rfl (go3 ?_);refine aQ _ rfl (fun hb=>?_) (fun hb=>?_)
 ·replace hb:=cB_ hb
  refine go5 ?_;refine iY rfl (.inr rfl) rfl rfl ?_;exact Q9 ha (by simpa using hg) hb
 replace hb:=cB_ hb
 have h64:=c0_ ha (by simpa using hg) hb;refine go2 ?_;refine sQ (cC fdT dd_ rfl) rfl (sQ (eK arT rfl rfl dd_ dd_) rfl (sQ (dJ tyT rfl mm_ (mO (r:=a) (k:=1) (by rw [ha.len];omega))) rfl ?_));refine sQ (aS (dY gJ fD rfl) (uZ (dR ha.lim _))) rfl (sQ (aS (AD rfl rfl dd_) (congrArg (Value.int .u64) (vE (dR ha.lim _)))) rfl (sQ (cC fdT dd_ rfl) rfl (sQ (eK arT rfl rfl dd_ dd_) rfl (sQ (dJ tyT rfl mm_ (mO (r:=a) (k:=0) (by rw [ha.len];omega))) rfl ?_))));refine sQ (aS (dY gJ fD rfl) (uZ (dR ha.lim _))) rfl (sQ (aS (LR rfl rfl) (congrArg (Value.int .u64) ((OF (dR ha.lim _) (dR ha.lim _)).trans (congrArg (fun m:Nat=>(m:Int)) (BC ha h64))))) rfl (go5 ?_));refine sQ (cC fdT dd_ rfl) rfl (sQ (dJ tyT rfl mm_ rfl) rfl ?_);refine go_ ?_
 cases hn:a.neg
 ·refine go7 ?_;refine sQ (cC fdT dd_ rfl) rfl (sQ (dJ tyT rfl mm_ rfl) rfl ?_);refine go_ ?_;rw [hn];refine go6 ?_;refine aQ _ rfl (fun hlt=>?_) (fun hlt=>?_)
  ·replace hlt:=cB_ hlt
   refine go2 ?_;refine sQ (aS (dY fD BS rfl) (congrArg (Value.int .i64) (VG oo_))) rfl (go4 ?_);refine iY rfl (.inr rfl) rfl rfl ?_;exact O7 ha (by simpa using hg) (by rw [hn];rfl) (by rw [hn,qY];omega)
  replace hlt:=cB_ hlt
  refine go6 ?_;refine iY rfl (.inr rfl) rfl rfl ?_;exact DH ha (by simpa using hg) (by rw [hn,qY];omega)
 refine go5 ?_;refine aQ _ rfl (fun hle=>?_) (fun hle=>?_)
 ·replace hle:=cB_ hle
  refine go3 ?_;refine sQ (aS (dY fD BS rfl) (congrArg (Value.int .i64) (VF oo_))) rfl (go4 ?_);refine iY rfl (.inr rfl) rfl rfl ?_;exact O7 ha (by simpa using hg) (by rw [hn];rfl) (by rw [hn,rV];omega)
 replace hle:=cB_ hle
 refine go_ ?_;refine sQ (cC fdT dd_ rfl) rfl (sQ (dJ tyT rfl mm_ rfl) rfl ?_);refine go_ ?_;rw [hn];refine FV ?_;refine iY rfl (.inr rfl) rfl rfl ?_;exact DH ha (by simpa using hg) (by rw [hn,rV];omega)
theorem vH (a b:R) (ha:a.Ok) (hb:b.Ok) :
    Ret prog 172 [RV a,RV b] (.tuple #[RV (Z.quo a.dec b.dec).enc,RV (Z.rem a.dec b.dec).enc]):=by
 refine bT (N:=108) func172 rfl rfl (by simp) (fun w0=>?_);simp only [bK,Nat.reduceAdd];refine go_ ?_;refine bC rfl (jN rfl rfl (fun b2 hb2=>bC rfl (jN rfl rfl (fun b3 hb3=>bC rfl (eD kR (fun b4 hb4=>bC rfl (eD kR (fun b5 hb5=>go3 ?_))))))));refine sQ (cJ tyT rfl mm_ (cX ha)) rfl ?_;refine sQ (cJ tyT rfl mm_ (cX hb)) rfl ?_;refine bC rfl (jA nM kR nU rfl dd_ rfl (KN ha hb) (fun b17 hb17=>sQ (bE aJ rfl (fun w hw=>iN [a,b] (ok2 ha hb) b17 27 w (hw.mem _ m0) (by simp))) rfl ?_));refine go2 ?_
 cases hg:[a,b].all R.good
 ·refine go7 ?_;refine sQ (bM aJ iQ rfl) rfl (sQ (bM aJ iQ rfl) rfl (bC rfl (bO tyT rfl rfl uu_ (aL _) rfl (bI _) (.inl (by assumption)) ?_)));refine bC rfl (bO tyT rfl rfl uu_ (aL _) rfl (bI _) (.inl (by assumption)) ?_);refine go2 ?_;refine iY rfl (.inr rfl) ⟨_,_,_,_,_,_,rfl,mm_,tyT,_,(dS (aL _)),(aL _),rfl⟩ ⟨_,_,_,_,_,_,rfl,mm_,tyT,_,(dS (aL _)),(aL _),rfl⟩ ?_;exact bs_ (BY hg)
 have hg:=all2.1 hg;refine sQ (cJ tyT rfl mm_ (cX hb)) rfl ?_;refine sQ (bM aJ (gM b hb) rfl) rfl (go3 ?_);refine aQ _ rfl (fun hs0=>?_) (fun hs0=>?_)
 ·replace hs0:=cB_ hs0
  refine go_ ?_;refine sQ (bM aJ iQ rfl) rfl (sQ (bM aJ iQ rfl) rfl (bC rfl (bO tyT rfl rfl uu_ (aL _) rfl (bI _) (.inl (by assumption)) ?_)));refine bC rfl (bO tyT rfl rfl uu_ (aL _) rfl (bI _) (.inl (by assumption)) ?_);refine go2 ?_;refine iY rfl (.inr rfl) ⟨_,_,_,_,_,_,rfl,mm_,tyT,_,(dS (aL _)),(aL _),rfl⟩ ⟨_,_,_,_,_,_,rfl,mm_,tyT,_,(dS (aL _)),(aL _),rfl⟩ ?_;exact ZD ha hb hg.1 hg.2 hs0
 replace hs0:=cB_ hs0
 have hs0:b.dec.sign≠0:=hs0;have hp:=ED hb hg.2 hs0;refine go_ ?_;refine tQ [6,7,8,9,10,11,27,28,29,30,31,32,33,34,35,36,37,38,39,40,41,42,43,44,45,46,47,48,49,50,51,52,53,54,55,56,57,58,59,60,61,62,63,64,65,66,67,68,69,70] (fun g M=>(True)∧M=[⟨b5,27,zR⟩,⟨b4,27,zR⟩,⟨b3,27,b.cells⟩,⟨b2,27,a.cells⟩]∧(True)) (fun K6 J6=>?_) ?_
 ·refine go_ ?_;refine sQ (cJ tyT rfl mm_ (cX ha)) rfl ?_;refine sQ (bM aJ (xR a ha) rfl) rfl (go9 ?_)
  cases hsa:a.dec.small.2
  ·refine go6 ?_;refine J6 _ _ pp_ ⟨_,(List.Sublist.cons _ (List.Sublist.refl _)),trivial,?mem,trivial⟩
   case mem=>rfl
  refine go4 ?_;refine aQ _ rfl (fun hma=>?_) (fun hma=>?_)
  ·replace hma:=cB_ hma
   have ea:=GY hsa;refine go_ ?_;refine sQ (cJ tyT rfl mm_ (cX hb)) rfl ?_;refine sQ (bM aJ (xR b hb) rfl) rfl (go9 ?_)
   cases hsb:b.dec.small.2
   ·refine go6 ?_;refine J6 _ _ pp_ ⟨_,(List.Sublist.cons _ (List.Sublist.refl _)),trivial,?mem,trivial⟩
    case mem=>rfl
   refine go4 ?_;refine aQ _ rfl (fun hmb=>?_) (fun hmb=>?_)
   ·replace hmb:=cB_ hmb
    have eb:=GY hsb;have hy0:=MB eb.1 hs0;have hq64:I64 (a.dec.small.1.tdiv b.dec.small.1):=Q3 ea.2 hma;have hr64:=dW_ (x:=a.dec.small.1) hy0 eb.2;refine go_ ?_;refine rK (sk (sk (sk (sk (sk (s0)))))) 8 [] [] (go2 ?_);refine pQ rfl (aS (rS rfl rfl hy0) (congrArg (Value.int .i64) (bQ (Q3 ea.2 hma)))) (go2 ?_);refine pQ rfl (rT rfl rfl hy0) (go8 ?_)
    cases hr0:(a.dec.small.1.tmod b.dec.small.1 != 0)
    ·refine vK ?_;refine sQ (bM aJ (gF _ (by first | exact hI1 | exact hq64)) rfl) rfl ?_;refine go_ ?_;refine sQ (bM aJ (gF _ (by first | exact hI2 | exact hr64)) rfl) rfl ?_;refine bC rfl (bO tyT rfl rfl uu_ (aL _) rfl (bI _) (.inl (by assumption)) ?_);refine bC rfl (bO tyT rfl rfl uu_ (aL _) rfl (bI _) (.inl (by assumption)) ?_);refine go2 ?_;refine iY rfl (.inr rfl) ⟨_,_,_,_,_,_,rfl,mm_,tyT,_,(dS (aL _)),(aL _),rfl⟩ ⟨_,_,_,_,_,_,rfl,mm_,tyT,_,(dS (aL _)),(aL _),rfl⟩ ?_;exact DF ea.1 eb.1 hs0 (BQ hy0 (.inl (by simpa using hr0)))
    refine go4 ?_;refine sQ (qQ xS rfl rfl) rfl (go2 ?_);refine aQ _ rfl (fun hsg=>?_) (fun hsg=>?_)
    ·replace hsg:=cB_ hsg
     have hI1:I64 (a.dec.small.1.tdiv b.dec.small.1 - 1):=ZA ea.2 hma;have hI2:=dX_ hy0 eb.2 (bne_iff_ne.2 hsg);refine go2 ?_;refine sQ (aS (nF rfl rfl) (congrArg (Value.int .i64) (bQ hI1))) rfl (go2 ?_);refine sQ (aS (iO rfl rfl) (congrArg (Value.int .i64) (bQ hI2))) rfl (go5 ?_);refine sQ (bM aJ (gF _ (by first | exact hI1 | exact hq64)) rfl) rfl ?_;refine go_ ?_;refine sQ (bM aJ (gF _ (by first | exact hI2 | exact hr64)) rfl) rfl ?_;refine bC rfl (bO tyT rfl rfl uu_ (aL _) rfl (bI _) (.inl (by assumption)) ?_);refine bC rfl (bO tyT rfl rfl uu_ (aL _) rfl (bI _) (.inl (by assumption)) ?_);refine go2 ?_;refine iY rfl (.inr rfl) ⟨_,_,_,_,_,_,rfl,mm_,tyT,_,(dS (aL _)),(aL _),rfl⟩ ⟨_,_,_,_,_,_,rfl,mm_,tyT,_,(dS (aL _)),(aL _),rfl⟩ ?_;exact DF ea.1 eb.1 hs0 (P7 hy0 (by simpa using hr0) (bne_iff_ne.2 hsg))
    replace hsg:=cB_ hsg
    refine go3 ?_;refine sQ (bM aJ (gF _ (by first | exact hI1 | exact hq64)) rfl) rfl ?_;refine go_ ?_;refine sQ (bM aJ (gF _ (by first | exact hI2 | exact hr64)) rfl) rfl ?_;refine bC rfl (bO tyT rfl rfl uu_ (aL _) rfl (bI _) (.inl (by assumption)) ?_);refine bC rfl (bO tyT rfl rfl uu_ (aL _) rfl (bI _) (.inl (by assumption)) ?_);refine go2 ?_;refine iY rfl (.inr rfl) ⟨_,_,_,_,_,_,rfl,mm_,tyT,_,(dS (aL _)),(aL _),rfl⟩ ⟨_,_,_,_,_,_,rfl,mm_,tyT,_,(dS (aL _)),(aL _),rfl⟩ ?_;exact DF ea.1 eb.1 hs0 (BQ hy0 (.inr (by simpa using hsg)))
   replace hmb:=cB_ hmb
   refine go_ ?_;refine J6 _ _ pp_ ⟨_,(List.Sublist.cons _ (List.Sublist.refl _)),trivial,?mem,trivial⟩
   case mem=>rfl
  replace hma:=cB_ hma
  refine go_ ?_;refine J6 _ _ pp_ ⟨_,(List.Sublist.cons _ (List.Sublist.refl _)),trivial,?mem,trivial⟩
  case mem=>rfl
 rintro g M ⟨-,rfl,-⟩;simp only [eH];refine go_ ?_;refine sQ (cC fdT dd_ rfl) rfl (sQ (hZ (vs:=uw a.w) tyT rfl mm_ (kH ha.len) ((gI _).trans ha.len)) rfl ?_);refine sQ (cC fdT dd_ rfl) rfl (sQ (hZ (vs:=uw b.w) tyT rfl mm_ (kH hb.len) ((gI _).trans hb.len)) rfl ?_);refine sQ (bM aJ (qR a.w b.w ha.len hb.len ha.lim hb.lim hp) rfl) rfl (go3 ?_);refine bC rfl (eD oZ (fun b12 hb12=>bC rfl (eD oZ (fun b13 hb13=>bC rfl (bO tyT rfl rfl uu_ (by simp [uw,dB]) (by simp [uw]) (iG _) (.inl (by assumption)) ?_)))));refine bC rfl (bO tyT rfl rfl uu_ (by simp [uw,dB]) (by simp [uw]) (iG _) (.inl (by assumption)) ?_);refine go2 ?_;refine sQ (cC fdT dd_ rfl) rfl (sQ (dJ tyT rfl mm_ rfl) rfl ?_);refine sQ (cC fdT dd_ rfl) rfl (sQ (dJ tyT rfl mm_ rfl) rfl ?_);refine sQ (qQ xS rfl rfl) rfl (sQ (cJ tyT rfl mm_ (by simp [uw,dB])) rfl ?_);refine sQ (aS (bM aJ (fH (a.neg != b.neg) _ (dB _ _) (lO _ _)) rfl) (congrArg RV (n6 _ (ZC ha)))) rfl (bC rfl (eD kR (fun b14 hb14=>bC rfl (bO tyT rfl rfl uu_ (aL _) rfl (bI _) (.inl (by assumption)) ?_))));refine go_ ?_;refine tQ [86,87,88,89,90,91,92,93,94,95,96,97,98,99,100,101,102] (fun g M=>∃ (z:Z) (l:List Nat),(True)∧M=[⟨b14,27,z.enc.cells⟩,⟨b13,25,uw l⟩,⟨b12,25,uw (toL 16 (val a.w / val b.w))⟩,⟨b5,27,zR⟩,⟨b4,27,zR⟩,⟨b3,27,b.cells⟩,⟨b2,27,a.cells⟩]∧(l.length=16∧Lim l∧z=Z.quo a.dec b.dec∧R.mk false (b.neg && !(val l==0)) l=(Z.rem a.dec b.dec).enc)) (fun K19 J19=>?_) ?_
 ·refine go_ ?_;refine sQ (cJ tyT rfl mm_ (by simp [uw,dB])) rfl ?_;refine sQ (nR oZ arT rfl (.nil _)) rfl ?_;refine sQ (A5 (r:=(val a.w % val b.w==0)) rfl rfl (mQ 8 dd_ FK F7 (mK (dB _ _)) (mK (by simp)) (ZI ha))) rfl ?_;refine go_ ?_
  cases hr1:(val a.w % val b.w==0)
  ·refine sQ (cC fdT dd_ rfl) rfl (sQ (dJ tyT rfl mm_ rfl) rfl ?_);refine sQ (cC fdT dd_ rfl) rfl (sQ (dJ tyT rfl mm_ rfl) rfl ?_);refine sQ (qQ xS rfl rfl) rfl (go2 ?_);refine aQ _ rfl (fun hne=>?_) (fun hne=>?_)
   ·replace hne:=cB_ hne
    refine gdr (sd (sd (sk (sk (sk (sk (sk (s0)))))))) [0,4,8,12,16,20,24,29,33] [7,8] mix (by kernel_rfl) (pQ rfl (cJ tyT rfl mm_ (aL _)) ?_);refine pQ rfl (bM aJ (gF 1 (by unfold I64;decide)) rfl) (pQ rfl (bM aJ (qM (Z.of (sgn (a.neg != b.neg) (val a.w / val b.w))).enc (Z.of 1).enc (Z.enc_ok _) (Z.enc_ok _)) rfl) (pQ rfl (cC fdT dd_ rfl) (pQ rfl (hZ (vs:=uw b.w) tyT rfl mm_ (kH hb.len) ((gI _).trans hb.len)) ?_)));refine pQ rfl (cJ tyT rfl mm_ (by simp [uw,dB])) ?_;refine pQ rfl (bM aJ (tU b.w _ hb.len (dB _ _) hb.lim (lO _ _) (dZ_ ha hp)) rfl) ?_;refine fM rfl rfl (bO tyT rfl rfl uu_ (aL _) (aL _) (bI _) (.inl (by assumption)) ⟨nf,ss_,?_⟩);refine fM rfl rfl (bO tyT rfl rfl uu_ (by simp [uw,dB]) (by simp [uw,dB]) (iG _) (.inl (by assumption)) ⟨nf,ss_,?_⟩);refine go_ ?_;refine J19 _ _ pp_ ⟨_,(List.Sublist.refl _),_,_,trivial,?mem,aR_ ha hb hg.1 hg.2 hp (by simpa using hr1) hne⟩
    case mem=>rfl
   replace hne:=cB_ hne
   refine go_ ?_;refine J19 _ _ pp_ ⟨_,(List.Sublist.refl _),_,_,trivial,?mem,NJ ha hb hg.1 hg.2 hp (.inr (by simpa using hne))⟩
   case mem=>rfl
  refine go9 ?_;refine J19 _ _ pp_ ⟨_,(List.Sublist.refl _),_,_,trivial,?mem,NJ ha hb hg.1 hg.2 hp (.inl (by simpa using hr1))⟩
  case mem=>rfl
 rintro g M ⟨z,l,-,rfl,⟨hl16,hlim,hzq,hzr⟩⟩;simp only [eH];refine go_ ?_;refine gdr (sk (sk (sk (sd (sd (sk (sk (s0)))))))) [0,4,8,12,16,21,25] [5,6] mix (by kernel_rfl) (pQ rfl (cJ tyT rfl mm_ (aL _)) ?_);refine pQ rfl (cC fdT dd_ rfl) (pQ rfl (dJ tyT rfl mm_ rfl) ?_);refine pQ rfl (cJ tyT rfl mm_ (by rw [gI,hl16])) ?_;refine pQ rfl (bM aJ (fH b.neg l hl16 hlim) rfl) ?_;refine fM rfl rfl (bO tyT rfl rfl uu_ (aL _) rfl (bI _) (.inl (by assumption)) ⟨nf,ss_,?_⟩);refine fM rfl rfl (bO tyT rfl rfl uu_ (kI hl16) rfl (bI _) (.inl (by assumption)) ⟨nf,ss_,?_⟩);refine go2 ?_;refine iY rfl (.inr rfl) ⟨_,_,_,_,_,_,rfl,mm_,tyT,_,(dS (aL _)),(aL _),rfl⟩ ⟨_,_,_,_,_,_,rfl,mm_,tyT,_,(dS (kI hl16)),(kI hl16),rfl⟩ ?_
 (subst hzq;exact congrArg (fun r:R=>Value.tuple #[RV (Z.quo a.dec b.dec).enc,RV r]) hzr)
theorem jL (a b:R) (ha:a.Ok) (hb:b.Ok) :
    Ret prog 120 [RV a,RV b] (RV (Z.quo a.dec b.dec).enc):=by
 refine bT (N:=14) func120 rfl rfl (by simp) (fun w0=>?_);simp only [bK,Nat.reduceAdd];refine go_ ?_;refine bC rfl (jN rfl rfl (fun b2 hb2=>bC rfl (jN rfl rfl (fun b3 hb3=>bC rfl (eD kR (fun b4 hb4=>go2 ?_))))));refine sQ (cJ tyT rfl mm_ (cX ha)) rfl ?_;refine sQ (cJ tyT rfl mm_ (cX hb)) rfl ?_;refine sQ (bM aJ (vH a b ha hb) rfl) rfl (go3 ?_);refine bC rfl (eD kR (fun b5 hb5=>bC rfl (eD kR (fun b6 hb6=>bC rfl (bO tyT rfl rfl uu_ (aL _) rfl (bI _) (.inl (by assumption)) ?_)))));refine bC rfl (bO tyT rfl rfl uu_ (aL _) rfl (bI _) (.inl (by assumption)) ?_);refine go2 ?_;refine sQ (cJ tyT rfl mm_ (aL _)) rfl ?_;refine bC rfl (bO tyT rfl rfl uu_ (aL _) rfl (bI _) (.inl (by assumption)) ?_);refine go2 ?_;refine bG rfl (.inr rfl) ⟨_,_,_,_,_,_,rfl,mm_,tyT,_,(dS (aL _)),(aL _),rfl⟩ ?_;exact rfl
theorem AH (a b:R) (ha:a.Ok) (hb:b.Ok) :
    Ret prog 143 [RV a,RV b] (RV (Z.rem a.dec b.dec).enc):=by
 refine bT (N:=14) func143 rfl rfl (by simp) (fun w0=>?_);simp only [bK,Nat.reduceAdd];refine go_ ?_;refine bC rfl (jN rfl rfl (fun b2 hb2=>bC rfl (jN rfl rfl (fun b3 hb3=>bC rfl (eD kR (fun b4 hb4=>go2 ?_))))));refine sQ (cJ tyT rfl mm_ (cX ha)) rfl ?_;refine sQ (cJ tyT rfl mm_ (cX hb)) rfl ?_;refine sQ (bM aJ (vH a b ha hb) rfl) rfl (go3 ?_);refine bC rfl (eD kR (fun b5 hb5=>bC rfl (eD kR (fun b6 hb6=>bC rfl (bO tyT rfl rfl uu_ (aL _) rfl (bI _) (.inl (by assumption)) ?_)))));refine bC rfl (bO tyT rfl rfl uu_ (aL _) rfl (bI _) (.inl (by assumption)) ?_);refine go2 ?_;refine sQ (cJ tyT rfl mm_ (aL _)) rfl ?_;refine bC rfl (bO tyT rfl rfl uu_ (aL _) rfl (bI _) (.inl (by assumption)) ?_);refine go2 ?_;refine bG rfl (.inr rfl) ⟨_,_,_,_,_,_,rfl,mm_,tyT,_,(dS (aL _)),(aL _),rfl⟩ ?_;exact rfl
theorem H2 (a b:R) (ha:a.Ok) (hb:b.Ok) :
    Ret prog 142 [RV a,RV b] (.int .i64 (Z.cmp a.dec b.dec)):=by
 refine bT (N:=47) func142 rfl rfl (by simp) (fun w0=>?_);simp only [bK,Nat.reduceAdd];refine go_ ?_;refine bC rfl (jN rfl rfl (fun b2 hb2=>bC rfl (jN rfl rfl (fun b3 hb3=>go3 ?_))));refine gDk (sk (sk (s0))) (.quiet 0 [1,2,5,6,7] (.quiet 3 [4,5,6,7] (.both 1 (.quiet 2 [5,6,7] (.only 4 (.quiet 5 [6,7] (.quiet 6 [7] (.quiet 7 [] (.fin)))))) 4 (.only 1 (.quiet 2 [5,6,7] (.quiet 5 [6,7] (.quiet 6 [7] (.quiet 7 [] (.fin))))))))) [0,1,2,3,4,5,6,7] mix (by kernel_rfl) (by kernel_rfl) (pQ rfl (cJ tyT rfl mm_ (cX ha)) ?_);refine pQ rfl (cJ tyT rfl mm_ (cX hb)) ?_;refine HP ?_ ?_
 ·refine fM rfl rfl (jA nM kR nU rfl dd_ rfl (wZ ha) (fun b8 hb8=>⟨(fun _=>by first | exact sd s0 | exact s0),ss_,?_⟩));refine pQ rfl (bE aJ rfl (fun w hw=>iN [a] (ok1 ha) b8 27 w (hw.mem ⟨b8,27,_⟩ (by first | exact m0 | exact m1)) (by simp))) ?_;refine fM rfl rfl (jA nM kR nU rfl dd_ rfl (wZ hb) (fun b11 hb11=>⟨(fun _=>by first | exact sd s0 | exact s0),ss_,?_⟩));refine pQ rfl (bE aJ rfl (fun w hw=>iN [b] (ok1 hb) b11 27 w (hw.mem ⟨b11,27,_⟩ (by first | exact m0 | exact m1)) (by simp))) ?_;refine go9 ?_
  cases hga:[a].all R.good
  ·refine go5 ?_;refine aQ _ rfl (fun hgb=>?_) (fun hgb=>?_)
   ·replace hgb:=cB_ hgb
    refine go4 ?_;refine bG rfl (.inr rfl) rfl ?_;exact congrArg _ (PW (by simpa using hga) (by simpa using hgb))
   replace hgb:=cB_ hgb
   refine pO ?_;refine bG rfl (.inr rfl) rfl ?_;exact congrArg _ (PX (by simpa using hga) hb (by simpa using hgb))
  refine UJ ?_;refine aQ _ rfl (fun hgb=>?_) (fun hgb=>?_)
  ·replace hgb:=cB_ hgb
   refine go4 ?_;refine bG rfl (.inr rfl) rfl ?_;exact congrArg _ (PY ha (by simpa using hga) (by simpa using hgb))
  replace hgb:=cB_ hgb
  refine go_ ?_;refine sQ (cC fdT dd_ rfl) rfl (sQ (dJ tyT rfl mm_ rfl) rfl ?_);refine sQ (cC fdT dd_ rfl) rfl (sQ (dJ tyT rfl mm_ rfl) rfl ?_);refine sQ (qQ xS rfl rfl) rfl (go2 ?_);refine aQ _ rfl (fun hn=>?_) (fun hn=>?_)
  ·replace hn:=cB_ hn
   refine go2 ?_;refine sQ (cC fdT dd_ rfl) rfl (sQ (dJ tyT rfl mm_ rfl) rfl ?_);refine go_ ?_;refine aQ _ rfl (fun hs=>?_) (fun hs=>?_)
   ·replace hs:=cB_ hs
    refine go4 ?_;refine bG rfl (.inr rfl) rfl ?_;exact congrArg _ (WS ha hb (by simpa using hga) (by simpa using hgb) hn hs)
   replace hs:=cB_ hs
   refine go5 ?_;refine bG rfl (.inr rfl) rfl ?_;exact congrArg _ (WR ha hb (by simpa using hga) (by simpa using hgb) hn (by simpa using hs))
  replace hn:=cB_ hn
  refine go_ ?_;refine sQ (cC fdT dd_ rfl) rfl (sQ (dJ tyT rfl mm_ rfl) rfl ?_);refine go2 ?_;refine aQ _ rfl (fun hs=>?_) (fun hs=>?_)
  ·replace hs:=cB_ hs
   refine go_ ?_;refine sQ (cC fdT dd_ rfl) rfl (sQ (hZ (vs:=uw b.w) tyT rfl mm_ (kH hb.len) ((gI _).trans hb.len)) rfl ?_);refine sQ (cC fdT dd_ rfl) rfl (sQ (hZ (vs:=uw a.w) tyT rfl mm_ (kH ha.len) ((gI _).trans ha.len)) rfl ?_);refine sQ (bM aJ (m9 b.w a.w hb.len ha.len hb.lim ha.lim) rfl) rfl (go3 ?_);refine bG rfl (.inr rfl) rfl ?_;exact congrArg _ (WT ha hb (by simpa using hga) (by simpa using hgb) hn hs)
  replace hs:=cB_ hs
  refine go2 ?_;refine sQ (cC fdT dd_ rfl) rfl (sQ (hZ (vs:=uw a.w) tyT rfl mm_ (kH ha.len) ((gI _).trans ha.len)) rfl ?_);refine sQ (cC fdT dd_ rfl) rfl (sQ (hZ (vs:=uw b.w) tyT rfl mm_ (kH hb.len) ((gI _).trans hb.len)) rfl ?_);refine sQ (bM aJ (m9 a.w b.w ha.len hb.len ha.lim hb.lim) rfl) rfl (go3 ?_);refine bG rfl (.inr rfl) rfl ?_;exact congrArg _ (WU ha hb (by simpa using hga) (by simpa using hgb) hn (by simpa using hs))
 refine fM rfl rfl (jA nM kR nU rfl dd_ rfl (wZ hb) (fun b11 hb11=>⟨(fun _=>by first | exact sd s0 | exact s0),ss_,?_⟩));refine fM rfl rfl (jA nM kR nU rfl dd_ rfl (wZ ha) (fun b8 hb8=>⟨(fun _=>by first | exact sd s0 | exact s0),ss_,?_⟩));refine pQ rfl (bE aJ rfl (fun w hw=>iN [a] (ok1 ha) b8 27 w (hw.mem ⟨b8,27,_⟩ (by first | exact m0 | exact m1)) (by simp))) ?_;refine pQ rfl (bE aJ rfl (fun w hw=>iN [b] (ok1 hb) b11 27 w (hw.mem ⟨b11,27,_⟩ (by first | exact m0 | exact m1)) (by simp))) ?_;refine go9 ?_
 cases hga:[a].all R.good
 ·refine go5 ?_;refine aQ _ rfl (fun hgb=>?_) (fun hgb=>?_)
  ·replace hgb:=cB_ hgb
   refine go4 ?_;refine bG rfl (.inr rfl) rfl ?_;exact congrArg _ (PW (by simpa using hga) (by simpa using hgb))
  replace hgb:=cB_ hgb
  refine pO ?_;refine bG rfl (.inr rfl) rfl ?_;exact congrArg _ (PX (by simpa using hga) hb (by simpa using hgb))
 refine UJ ?_;refine aQ _ rfl (fun hgb=>?_) (fun hgb=>?_)
 ·replace hgb:=cB_ hgb
  refine go4 ?_;refine bG rfl (.inr rfl) rfl ?_;exact congrArg _ (PY ha (by simpa using hga) (by simpa using hgb))
 replace hgb:=cB_ hgb
 refine go_ ?_;refine sQ (cC fdT dd_ rfl) rfl (sQ (dJ tyT rfl mm_ rfl) rfl ?_);refine sQ (cC fdT dd_ rfl) rfl (sQ (dJ tyT rfl mm_ rfl) rfl ?_);refine sQ (qQ xS rfl rfl) rfl (go2 ?_);refine aQ _ rfl (fun hn=>?_) (fun hn=>?_)
 ·replace hn:=cB_ hn
  refine go2 ?_;refine sQ (cC fdT dd_ rfl) rfl (sQ (dJ tyT rfl mm_ rfl) rfl ?_);refine go_ ?_;refine aQ _ rfl (fun hs=>?_) (fun hs=>?_)
  ·replace hs:=cB_ hs
   refine go4 ?_;refine bG rfl (.inr rfl) rfl ?_;exact congrArg _ (WS ha hb (by simpa using hga) (by simpa using hgb) hn hs)
  replace hs:=cB_ hs
  refine go5 ?_;refine bG rfl (.inr rfl) rfl ?_;exact congrArg _ (WR ha hb (by simpa using hga) (by simpa using hgb) hn (by simpa using hs))
 replace hn:=cB_ hn
 refine go_ ?_;refine sQ (cC fdT dd_ rfl) rfl (sQ (dJ tyT rfl mm_ rfl) rfl ?_);refine go2 ?_;refine aQ _ rfl (fun hs=>?_) (fun hs=>?_)
 ·replace hs:=cB_ hs
  refine go_ ?_;refine sQ (cC fdT dd_ rfl) rfl (sQ (hZ (vs:=uw b.w) tyT rfl mm_ (kH hb.len) ((gI _).trans hb.len)) rfl ?_);refine sQ (cC fdT dd_ rfl) rfl (sQ (hZ (vs:=uw a.w) tyT rfl mm_ (kH ha.len) ((gI _).trans ha.len)) rfl ?_);refine sQ (bM aJ (m9 b.w a.w hb.len ha.len hb.lim ha.lim) rfl) rfl (go3 ?_);refine bG rfl (.inr rfl) rfl ?_;exact congrArg _ (WT ha hb (by simpa using hga) (by simpa using hgb) hn hs)
 replace hs:=cB_ hs
 refine go2 ?_;refine sQ (cC fdT dd_ rfl) rfl (sQ (hZ (vs:=uw a.w) tyT rfl mm_ (kH ha.len) ((gI _).trans ha.len)) rfl ?_);refine sQ (cC fdT dd_ rfl) rfl (sQ (hZ (vs:=uw b.w) tyT rfl mm_ (kH hb.len) ((gI _).trans hb.len)) rfl ?_);refine sQ (bM aJ (m9 a.w b.w ha.len hb.len ha.lim hb.lim) rfl) rfl (go3 ?_);refine bG rfl (.inr rfl) rfl ?_;exact congrArg _ (WU ha hb (by simpa using hga) (by simpa using hgb) hn (by simpa using hs))
theorem HI (n:Nat) (IH:∀ (a b:R),a.Ok→b.Ok→val b.w<n→Ret prog 160 [RV a,RV b] (RV (Z.gcd a.dec b.dec).enc)) (a b:R) (ha:a.Ok) (hb:b.Ok) (hn:val b.w=n) :
    Ret prog 160 [RV a,RV b] (RV (Z.gcd a.dec b.dec).enc):=by
 refine bT (N:=80) func160 rfl rfl (by simp) (fun w0=>?_);simp only [bK,Nat.reduceAdd];refine go_ ?_;refine bC rfl (jN rfl rfl (fun b2 hb2=>bC rfl (jN rfl rfl (fun b3 hb3=>bC rfl (eD kR (fun b4 hb4=>go3 ?_))))));refine sQ (cJ tyT rfl mm_ (cX ha)) rfl ?_;refine sQ (cJ tyT rfl mm_ (cX hb)) rfl ?_;refine bC rfl (jA nM kR nU rfl dd_ rfl (KN ha hb) (fun b13 hb13=>sQ (bE aJ rfl (fun w hw=>iN [a,b] (ok2 ha hb) b13 27 w (hw.mem _ m0) (by simp))) rfl ?_));refine go2 ?_;refine aQ _ rfl (fun hg=>?_) (fun hg=>?_)
 ·replace hg:=cB_ hg
  refine go_ ?_;refine sQ (bM aJ iQ rfl) rfl (bC rfl (bO tyT rfl rfl uu_ (aL _) rfl (bI _) (.inl (by assumption)) ?_));refine go2 ?_;refine bG rfl (.inr rfl) ⟨_,_,_,_,_,_,rfl,mm_,tyT,_,(dS (aL _)),(aL _),rfl⟩ ?_;exact congrArg RV (aZ_ hg)
 replace hg:=cB_ hg
 have hg:=all2.1 hg;refine go_ ?_;refine tQ [5,6,17,18,19,20,21,22,23,24,25,26,27,28,29,30,31,32,33,34,35,36,37,38,39,40,41,42,43,44,45,46,47,48,49,50,51,52,53,54,55,56,57,58,59] (fun g M=>(True)∧M=[⟨b4,27,zR⟩,⟨b3,27,b.cells⟩,⟨b2,27,a.cells⟩]∧(True)) (fun K5 J5=>?_) ?_
 ·refine go_ ?_;refine sQ (cC fdT dd_ rfl) rfl (sQ (hZ (vs:=uw a.w) tyT rfl mm_ (kH ha.len) ((gI _).trans ha.len)) rfl ?_);refine sQ (bM aJ (mL a.w ha.len) rfl) rfl (go2 ?_)
  cases hsz:decide ((szL a.w:Int)≤2)
  ·refine go8 ?_;refine J5 _ _ pp_ ⟨_,(List.Sublist.cons _ (List.Sublist.refl _)),trivial,?mem,trivial⟩
   case mem=>rfl
  refine sQ (cC fdT dd_ rfl) rfl (sQ (hZ (vs:=uw b.w) tyT rfl mm_ (kH hb.len) ((gI _).trans hb.len)) rfl ?_);refine sQ (bM aJ (mL b.w hb.len) rfl) rfl (go3 ?_);refine aQ _ rfl (fun hsz2=>?_) (fun hsz2=>?_)
  ·replace hsz2:=cB_ hsz2
   have hA64:=sz2 ha (by have:=of_decide_eq_true hsz;omega);have hB64:=sz2 hb oo_;refine go_ ?_;refine gdr (sk (sk (sk (sk (s0))))) [0,4,8,12,16,20,24,28,32,36,40,44,48,52,56,60,64,68,72,76,80,84] [] mix (by kernel_rfl) (pQ rfl (cC fdT dd_ rfl) (pQ rfl (eK arT rfl rfl dd_ dd_) (pQ rfl (dJ tyT rfl mm_ (mO (r:=a) (k:=1) (by rw [ha.len];omega))) ?_)));refine pQ rfl (aS (dY gJ fD rfl) (uZ (dR ha.lim _))) (pQ rfl (aS (AD rfl rfl dd_) (congrArg (Value.int .u64) (vE (dR ha.lim _)))) (pQ rfl (cC fdT dd_ rfl) (pQ rfl (eK arT rfl rfl dd_ dd_) (pQ rfl (dJ tyT rfl mm_ (mO (r:=a) (k:=0) (by rw [ha.len];omega))) ?_))));refine pQ rfl (aS (dY gJ fD rfl) (uZ (dR ha.lim _))) (pQ rfl (aS (LR rfl rfl) (congrArg (Value.int .u64) ((OF (dR ha.lim _) (dR ha.lim _)).trans (congrArg (fun m:Nat=>(m:Int)) (BC ha hA64))))) (pQ rfl (cC fdT dd_ rfl) (pQ rfl (eK arT rfl rfl dd_ dd_) (pQ rfl (dJ tyT rfl mm_ (mO (r:=b) (k:=1) (by rw [hb.len];omega))) ?_))));refine pQ rfl (aS (dY gJ fD rfl) (uZ (dR hb.lim _))) (pQ rfl (aS (AD rfl rfl dd_) (congrArg (Value.int .u64) (vE (dR hb.lim _)))) (pQ rfl (cC fdT dd_ rfl) (pQ rfl (eK arT rfl rfl dd_ dd_) (pQ rfl (dJ tyT rfl mm_ (mO (r:=b) (k:=0) (by rw [hb.len];omega))) ?_))));refine pQ rfl (aS (dY gJ fD rfl) (uZ (dR hb.lim _))) (pQ rfl (aS (LR rfl rfl) (congrArg (Value.int .u64) ((OF (dR hb.lim _) (dR hb.lim _)).trans (congrArg (fun m:Nat=>(m:Int)) (BC hb hB64))))) (go5 ?_));refine cF [5,6,47,48,49,50,51,52] (fun g nn M=>∃ (x y:Nat),(g 5 = .int .u64 (x:Int)∧g 6 = .int .u64 (y:Int))∧M=[⟨b4,27,zR⟩,⟨b3,27,b.cells⟩,⟨b2,27,a.cells⟩]∧nn=y∧(x<18446744073709551616∧y<18446744073709551616∧Nat.gcd x y=Nat.gcd (val a.w) (val b.w))) (val b.w) ?start ?round
   case start =>
    refine ⟨_,(List.Sublist.cons _ (List.Sublist.refl _)),_,_,⟨?a5,?a6⟩,?mem0,rfl,⟨hA64,hB64,rfl⟩⟩
    case mem0=>rfl
    case a5=>rfl
    case a6=>rfl
   case round =>
    rintro nn g M ⟨x,y,⟨hg5,hg6⟩,rfl,hmeas,⟨hx64,hy64,hgc⟩⟩;subst nn;simp only [eH,hg5,hg6];clear hg5 hg6;refine go5 ?_;refine aQ _ rfl (fun hy0=>?_) (fun hy0=>?_)
    ·replace hy0:=cB_ hy0
     refine go2 ?_;refine rK (sk (sk (sk (s0)))) 6 [] [] (go3 ?_);refine pQ rfl (aS (rT rfl rfl oo_) (congrArg (Value.int .u64) (zS _ _))) (go3 ?_);refine ⟨pp_,_,_,(List.Sublist.refl _),(Nat.mod_lt _ oo_),y,x % y,⟨?s5,?s6⟩,?mem,rfl,⟨hy64,Nat.lt_of_le_of_lt (Nat.mod_le _ _) hx64,by rw [Nat.gcd_comm,← Nat.gcd_rec,Nat.gcd_comm];exact hgc⟩⟩
     case mem=>rfl
     case s5=>rfl
     case s6=>rfl
    replace hy0:=cB_ hy0
    refine go3 ?_;refine sQ (dY fD gJ rfl) rfl (go_ ?_);refine sQ (aS (tJ rfl rfl dd_) (congrArg (Value.int .u64) (pR _ 32))) rfl (sQ (dY fD gJ rfl) rfl (sQ (nR oZ arT rfl (dh_ hx64)) rfl (sQ (bM aJ (fH false _ (by simp) (X9 (Nat.mod_lt _ dd_) oo_ 14)) rfl) rfl ?_)));refine bC rfl (bO tyT rfl rfl uu_ (kI (by simp)) rfl (bI _) (.inl (by assumption)) ?_);refine go2 ?_;refine bG rfl (.inr rfl) ⟨_,_,_,_,_,_,rfl,mm_,tyT,_,(dS (kI (by simp))),(kI (by simp)),rfl⟩ ?_;exact a0_ ha hb hg.1 hg.2 hx64 (a1_ hx64 hgc oo_)
  replace hsz2:=cB_ hsz2
  refine go_ ?_;refine J5 _ _ pp_ ⟨_,(List.Sublist.cons _ (List.Sublist.refl _)),trivial,?mem,trivial⟩
  case mem=>rfl
 rintro g M ⟨-,rfl,-⟩;simp only [eH];refine go2 ?_;refine gDk (sk (sk (sk (s0)))) (.quiet 0 [1,6,7] (.quiet 1 [6,7] (.still 2 [3,7] (.still 3 [7] (.both 4 (.only 5 (.only 6 (.only 7 (.fin)))) 5 (.only 4 (.only 6 (.only 7 (.fin))))))))) [0,1,2,3,4,5] mix (by kernel_rfl) (by kernel_rfl) (pQ rfl (cC fdT dd_ rfl) (pQ rfl (hZ (vs:=uw a.w) tyT rfl mm_ (kH ha.len) ((gI _).trans ha.len)) ?_));refine E6 rfl rfl (cC fdT dd_ rfl) (E6 rfl rfl (hZ (vs:=uw b.w) tyT rfl mm_ (kH hb.len) ((gI _).trans hb.len)) ?_);refine HP ?_ ?_
 ·refine fM rfl rfl (eD oZ (fun b7 hb7=>⟨(fun _=>by first | exact sd s0 | exact s0),ss_,?_⟩));refine fM rfl rfl (eD oZ (fun b8 hb8=>⟨(fun _=>by first | exact sd s0 | exact s0),ss_,?_⟩));refine fM rfl rfl (bO tyT rfl rfl uu_ (by simp [uw,ha.len]) (by simp [uw]) (iG _) (.inl (by assumption)) ⟨nf,ss_,?_⟩);refine fM rfl rfl (bO tyT rfl rfl uu_ (by simp [uw,hb.len]) (by simp [uw]) (iG _) (.inl (by assumption)) ⟨nf,ss_,?_⟩);refine go2 ?_;refine sQ (cJ tyT rfl mm_ (by simp [uw,hb.len])) rfl ?_;refine sQ (nR oZ arT rfl (.nil _)) rfl ?_;refine sQ (A5 (r:=(val b.w==0)) rfl rfl (mQ 8 dd_ FK F7 (mK hb.len) (mK (by simp)) (z4 hb.len hb.lim))) rfl ?_;refine go_ ?_;refine aQ _ rfl (fun hb0=>?_) (fun hb0=>?_)
  ·replace hb0:=cB_ hb0
   have hp:0<val b.w:=Nat.pos_of_ne_zero (by simpa using hb0);refine go_ ?_;refine sQ (cJ tyT rfl mm_ (by simp [uw,ha.len])) rfl ?_;refine sQ (cJ tyT rfl mm_ (by simp [uw,hb.len])) rfl ?_;refine sQ (bM aJ (qR a.w b.w ha.len hb.len ha.lim hb.lim hp) rfl) rfl (go3 ?_);refine bC rfl (eD oZ (fun b9 hb9=>bC rfl (eD oZ (fun b10 hb10=>bC rfl (bO tyT rfl rfl uu_ (by simp [uw,dB]) (by simp [uw]) (iG _) (.inl (by assumption)) ?_)))));refine bC rfl (bO tyT rfl rfl uu_ (by simp [uw,dB]) (by simp [uw]) (iG _) (.inl (by assumption)) ?_);refine go2 ?_;refine gdr (sk (sk (sk (sk (sd (sk (sk (s0)))))))) [0,4,8,12,16,21] [5] mix (by kernel_rfl) (pQ rfl (cJ tyT rfl mm_ (by simp [uw,hb.len])) ?_);refine pQ rfl (aS (bM aJ (fH false b.w hb.len hb.lim) rfl) (DS hb.len hb.lim false)) (pQ rfl (cJ tyT rfl mm_ (by simp [uw,dB])) ?_);refine pQ rfl (aS (bM aJ (fH false _ (dB _ _) (lO _ _)) rfl) (congrArg RV (n6 false (rN ha)))) (pQ rfl (bM aJ (IH (Z.of (sgn false (val b.w))).enc (Z.of (sgn false (val a.w % val b.w))).enc (Z.enc_ok _) (Z.enc_ok _) (by rw [R3 (rN ha),← hn];exact Nat.mod_lt _ hp)) rfl) ?_);refine fM rfl rfl (bO tyT rfl rfl uu_ (aL _) rfl (bI _) (.inl (by assumption)) ⟨nf,ss_,?_⟩);refine go2 ?_;refine bG rfl (.inr rfl) ⟨_,_,_,_,_,_,rfl,mm_,tyT,_,(dS (aL _)),(aL _),rfl⟩ ?_;exact NX ha hb hg.1 hg.2
  replace hb0:=cB_ hb0
  refine go2 ?_;refine sQ (cJ tyT rfl mm_ (cX ha)) rfl ?_;refine sQ (bM aJ (vQ a ha) rfl) rfl (bC rfl (bO tyT rfl rfl uu_ (aL _) rfl (bI _) (.inl (by assumption)) ?_));refine go2 ?_;refine bG rfl (.inr rfl) ⟨_,_,_,_,_,_,rfl,mm_,tyT,_,(dS (aL _)),(aL _),rfl⟩ ?_;exact NY ha hb hg.1 hg.2 (by simpa using hb0)
 refine fM rfl rfl (eD oZ (fun b8 hb8=>⟨(fun _=>by first | exact sd s0 | exact s0),ss_,?_⟩));refine fM rfl rfl (eD oZ (fun b7 hb7=>⟨(fun _=>by first | exact sd s0 | exact s0),ss_,?_⟩));refine fM rfl rfl (bO tyT rfl rfl uu_ (by simp [uw,ha.len]) (by simp [uw]) (iG _) (.inl (by assumption)) ⟨nf,ss_,?_⟩);refine fM rfl rfl (bO tyT rfl rfl uu_ (by simp [uw,hb.len]) (by simp [uw]) (iG _) (.inl (by assumption)) ⟨nf,ss_,?_⟩);refine go2 ?_;refine sQ (cJ tyT rfl mm_ (by simp [uw,hb.len])) rfl ?_;refine sQ (nR oZ arT rfl (.nil _)) rfl ?_;refine sQ (A5 (r:=(val b.w==0)) rfl rfl (mQ 8 dd_ FK F7 (mK hb.len) (mK (by simp)) (z4 hb.len hb.lim))) rfl ?_;refine go_ ?_;refine aQ _ rfl (fun hb0=>?_) (fun hb0=>?_)
 ·replace hb0:=cB_ hb0
  have hp:0<val b.w:=Nat.pos_of_ne_zero (by simpa using hb0);refine go_ ?_;refine sQ (cJ tyT rfl mm_ (by simp [uw,ha.len])) rfl ?_;refine sQ (cJ tyT rfl mm_ (by simp [uw,hb.len])) rfl ?_;refine sQ (bM aJ (qR a.w b.w ha.len hb.len ha.lim hb.lim hp) rfl) rfl (go3 ?_);refine bC rfl (eD oZ (fun b9 hb9=>bC rfl (eD oZ (fun b10 hb10=>bC rfl (bO tyT rfl rfl uu_ (by simp [uw,dB]) (by simp [uw]) (iG _) (.inl (by assumption)) ?_)))));refine bC rfl (bO tyT rfl rfl uu_ (by simp [uw,dB]) (by simp [uw]) (iG _) (.inl (by assumption)) ?_);refine go2 ?_;refine gdr (sk (sk (sk (sk (sd (sk (sk (s0)))))))) [0,4,8,12,16,21] [5] mix (by kernel_rfl) (pQ rfl (cJ tyT rfl mm_ (by simp [uw,hb.len])) ?_);refine pQ rfl (aS (bM aJ (fH false b.w hb.len hb.lim) rfl) (DS hb.len hb.lim false)) (pQ rfl (cJ tyT rfl mm_ (by simp [uw,dB])) ?_);refine pQ rfl (aS (bM aJ (fH false _ (dB _ _) (lO _ _)) rfl) (congrArg RV (n6 false (rN ha)))) (pQ rfl (bM aJ (IH (Z.of (sgn false (val b.w))).enc (Z.of (sgn false (val a.w % val b.w))).enc (Z.enc_ok _) (Z.enc_ok _) (by rw [R3 (rN ha),← hn];exact Nat.mod_lt _ hp)) rfl) ?_);refine fM rfl rfl (bO tyT rfl rfl uu_ (aL _) rfl (bI _) (.inl (by assumption)) ⟨nf,ss_,?_⟩);refine go2 ?_;refine bG rfl (.inr rfl) ⟨_,_,_,_,_,_,rfl,mm_,tyT,_,(dS (aL _)),(aL _),rfl⟩ ?_;exact NX ha hb hg.1 hg.2
 replace hb0:=cB_ hb0
 refine go2 ?_;refine sQ (cJ tyT rfl mm_ (cX ha)) rfl ?_;refine sQ (bM aJ (vQ a ha) rfl) rfl (bC rfl (bO tyT rfl rfl uu_ (aL _) rfl (bI _) (.inl (by assumption)) ?_));refine go2 ?_;refine bG rfl (.inr rfl) ⟨_,_,_,_,_,_,rfl,mm_,tyT,_,(dS (aL _)),(aL _),rfl⟩ ?_;exact NY ha hb hg.1 hg.2 (by simpa using hb0)
theorem tG (a b:R) (ha:a.Ok) (hb:b.Ok):Ret prog 160 [RV a,RV b] (RV (Z.gcd a.dec b.dec).enc):=by
  generalize hn:val b.w=n
  induction n using Nat.strongRecOn generalizing a b with
  | ind n ih=>exact HI n (fun a b ha hb h=>ih _ h a b ha hb rfl) a b ha hb hn
end Go.Proofs.YtokjfhfiodopdaaGreat
