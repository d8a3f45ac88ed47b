/- Lemmas: what they ask stands in their statements. -/
import Derived.Test.YtkjjponijamaoaaGreatDoorYSh
set_option linter.unusedSimpArgs false
set_option linter.unusedVariables false
set_option maxHeartbeats 8000000
set_option maxRecDepth 20000
namespace Go.Proofs.YtkjjponijamaoaaGreatDoor
open Go.Kn Go.Num
theorem H7 (a:R) (ha:a.Ok) :
    Ret Tryz.prog 125 [RV a] (RV (Z.neg a.dec).enc):=by
 refine cM (N:=14) Tryz.func125 rfl rfl (by simp) (fun w0=>?_);simp only [cS,Nat.reduceAdd];refine Sq fun K1 J1=>Rk fun K J=>bA rfl (qR rfl rfl (fun b1 hb1=>bA rfl (i1 oM (fun b2 hb2=>nl J (J1 _ _ (Sq fun K2 J2=>Sq fun K3 J3=>Rk fun K J=>sQ (eG aD rfl mm_ (eO ha)) rfl ?_))))));refine bA rfl (pW oV oM pX rfl dd_ rfl (F8 ha) (fun b4 hb4=>sQ (dA BH rfl (fun w hw=>oE [a] (ok1 ha) b4 31 w (hw.mem _ m0) (by simp))) rfl ?_));refine sE rfl (nl J (J3 _ _ ?_));refine fN _ rfl (fun hg=>?_) (fun hg=>?_)
 ·replace hg:=cB_ hg
  refine Sq fun K4 J4=>Rk fun K J=>sQ (bZ BB kO rfl) rfl (bA rfl (dX aD rfl rfl uu_ (aS _) rfl (dL _) (.inl (by assumption)) ?_));refine nl J (J4 _ _ (aL (aB (cC rfl (.inr rfl) ⟨_,_,_,_,_,_,rfl,mm_,aD,_,(gS (aS _)),(aS _),rfl⟩ ?_))))
  (rw [Z.neg,IQ (cH_ hg)];rfl)
 replace hg:=cB_ hg
 refine aG (J2 _ _ (Sq fun K5 J5=>Rk fun K J=>sQ (eX jC dd_ rfl) rfl (sQ (iA mF rfl mm_ rfl) rfl ?_)));refine sE rfl (sQ (eX jY dd_ rfl) rfl (sQ (oZ (vs:=uw a.w) iJ rfl mm_ (t9 ha.len) ((nW _).trans ha.len)) rfl ?_));refine sQ (bZ zY (kA (!a.neg) a.w ha.len ha.lim) rfl) rfl (bA rfl (dX aD rfl rfl uu_ (o5 ha.len) rfl (dL _) (.inl (by assumption)) ?_));refine nl J (J5 _ _ (aL (cC rfl (.inr rfl) ⟨_,_,_,_,_,_,rfl,mm_,aD,_,(gS (o5 ha.len)),(o5 ha.len),rfl⟩ ?_)));exact congrArg RV (pZ_ ha (by simpa using hg))

theorem PC (a:R) (ha:a.Ok) :
    Ret Tryz.prog 207 [RV a] (RV (Z.abs a.dec).enc):=by
 refine cM (N:=11) Tryz.func207 rfl rfl (by simp) (fun w0=>?_);simp only [cS,Nat.reduceAdd];refine Sq fun K1 J1=>Rk fun K J=>bA rfl (qR rfl rfl (fun b1 hb1=>bA rfl (i1 oM (fun b2 hb2=>nl J (J1 _ _ (Sq fun K2 J2=>Sq fun K3 J3=>Rk fun K J=>sQ (eG aD rfl mm_ (eO ha)) rfl ?_))))));refine bA rfl (pW oV oM pX rfl dd_ rfl (F8 ha) (fun b4 hb4=>sQ (dA BH rfl (fun w hw=>oE [a] (ok1 ha) b4 31 w (hw.mem _ m0) (by simp))) rfl ?_));refine sE rfl (nl J (J3 _ _ ?_));refine fN _ rfl (fun hg=>?_) (fun hg=>?_)
 ·replace hg:=cB_ hg
  refine Sq fun K4 J4=>Rk fun K J=>sQ (bZ BB kO rfl) rfl (bA rfl (dX aD rfl rfl uu_ (aS _) rfl (dL _) (.inl (by assumption)) ?_));refine nl J (J4 _ _ (aL (aB (cC rfl (.inr rfl) ⟨_,_,_,_,_,_,rfl,mm_,aD,_,(gS (aS _)),(aS _),rfl⟩ ?_))))
  (rw [Z.abs,IQ (cH_ hg)];rfl)
 replace hg:=cB_ hg
 refine aG (J2 _ _ (Sq fun K5 J5=>Rk fun K J=>sQ (eX jY dd_ rfl) rfl (sQ (oZ (vs:=uw a.w) iJ rfl mm_ (t9 ha.len) ((nW _).trans ha.len)) rfl ?_)));refine sQ (bZ zY (kA false a.w ha.len ha.lim) rfl) rfl (bA rfl (dX aD rfl rfl uu_ (o5 ha.len) rfl (dL _) (.inl (by assumption)) ?_));refine nl J (J5 _ _ (aL (cC rfl (.inr rfl) ⟨_,_,_,_,_,_,rfl,mm_,aD,_,(gS (o5 ha.len)),(o5 ha.len),rfl⟩ ?_)));exact congrArg RV (oe_ ha (by simpa using hg))

theorem rW (a b:R) (ha:a.Ok) (hb:b.Ok) :
    Ret Tryz.prog 38 [RV a,RV b] (RV (Z.add a.dec b.dec).enc):=by
 refine cM (N:=55) Tryz.func38 rfl rfl (by simp) (fun w0=>?_);simp only [cS,Nat.reduceAdd];refine Sq fun K1 J1=>Rk fun K J=>bA rfl (qR rfl rfl (fun b2 hb2=>bA rfl (qR rfl rfl (fun b3 hb3=>bA rfl (i1 oM (fun b4 hb4=>nl J (J1 _ _ (Sq fun K2 J2=>Sq fun K3 J3=>Rk fun K J=>sQ (eG aD rfl mm_ (eO ha)) rfl ?_))))))));refine sQ (eG aD rfl mm_ (eO hb)) rfl ?_;refine bA rfl (pW oV oM pX rfl dd_ rfl (aF_ ha hb) (fun b9 hb9=>sQ (dA BH rfl (fun w hw=>oE [a,b] (ok2 ha hb) b9 31 w (hw.mem _ m0) (by simp))) rfl ?_));refine sE rfl (nl J (J3 _ _ ?_));refine fN _ rfl (fun hg=>?_) (fun hg=>?_)
 ·replace hg:=cB_ hg
  refine Sq fun K4 J4=>Rk fun K J=>sQ (bZ BB kO rfl) rfl (bA rfl (dX aD rfl rfl uu_ (aS _) rfl (dL _) (.inl (by assumption)) ?_));refine nl J (J4 _ _ (aL (aB (cC rfl (.inr rfl) ⟨_,_,_,_,_,_,rfl,mm_,aD,_,(gS (aS _)),(aS _),rfl⟩ ?_))))
  (rw [Z.add,uU (QY hg)];rfl)
 replace hg:=cB_ hg
 have hg:=all2.1 hg;refine aG (J2 _ _ (Sq fun K5 J5=>Sq fun K6 J6=>Rk fun K J=>sQ (eX jC dd_ rfl) rfl (sQ (iA mF rfl mm_ rfl) rfl ?_)));refine sQ (eX jC dd_ rfl) rfl (sQ (iA mF rfl mm_ rfl) rfl ?_);refine sQ (KT GS rfl rfl) rfl (nl J (J6 _ _ ?_));refine fN _ rfl (fun hn=>?_) (fun hn=>?_)
 ·replace hn:=cB_ hn
  refine Sq fun K7 J7=>Rk fun K J=>sQ (eX jY dd_ rfl) rfl (sQ (oZ (vs:=uw a.w) iJ rfl mm_ (t9 ha.len) ((nW _).trans ha.len)) rfl ?_);refine sQ (eX jY dd_ rfl) rfl (sQ (oZ (vs:=uw b.w) iJ rfl mm_ (t9 hb.len) ((nW _).trans hb.len)) rfl ?_);refine sQ (bZ oD_ (XU a.w b.w ha.len hb.len ha.lim hb.lim) rfl) rfl (sE rfl (sE rfl (sE rfl (bA rfl (i1 y6 (fun b5 hb5=>bA rfl (dX iJ rfl rfl uu_ (by rw [nW,fT]) rfl (oQ _) (.inl (by assumption)) ?_)))))));refine sE rfl (nl J (J7 _ _ (Sq fun K8 J8=>Sq fun K9 J9=>Rk fun K J=>sE rfl (sE rfl (nl J (J9 _ _ ?_))))));refine fN _ rfl (fun hc=>?_) (fun hc=>?_)
  ·replace hc:=cB_ hc
   refine Sq fun K10 J10=>Rk fun K J=>sQ (bZ BB kO rfl) rfl (bA rfl (dX aD rfl rfl uu_ (aS _) rfl (dL _) (.inl (by assumption)) ?_));refine nl J (J10 _ _ (aL (aB (aB (cC rfl (.inr rfl) ⟨_,_,_,_,_,_,rfl,mm_,aD,_,(gS (aS _)),(aS _),rfl⟩ ?_)))));exact congrArg RV (hW_ ha hb hg.1 hg.2 hn oo_)
  replace hc:=cB_ hc
  refine aG (J8 _ _ (Sq fun K11 J11=>Rk fun K J=>sQ (eX jC dd_ rfl) rfl (sQ (iA mF rfl mm_ rfl) rfl ?_)));refine sQ (eG iJ rfl mm_ (by rw [nW,fT])) rfl ?_;refine sQ (bZ zY (kA a.neg _ (fT _ _) (uP _ _)) rfl) rfl (bA rfl (dX aD rfl rfl uu_ (o5 (fT _ _)) rfl (dL _) (.inl (by assumption)) ?_));refine nl J (J11 _ _ (aL (aB (cC rfl (.inr rfl) ⟨_,_,_,_,_,_,rfl,mm_,aD,_,(gS (o5 (fT _ _))),(o5 (fT _ _)),rfl⟩ ?_))));exact congrArg RV (hX_ ha hb hg.1 hg.2 hn oo_)
 replace hn:=cB_ hn
 refine aG (J5 _ _ (Sq fun K12 J12=>Sq fun K13 J13=>Rk fun K J=>sQ (eX jY dd_ rfl) rfl (sQ (oZ (vs:=uw a.w) iJ rfl mm_ (t9 ha.len) ((nW _).trans ha.len)) rfl ?_)));refine sQ (eX jY dd_ rfl) rfl (sQ (oZ (vs:=uw b.w) iJ rfl mm_ (t9 hb.len) ((nW _).trans hb.len)) rfl ?_);refine sQ (bZ RU (xR a.w b.w ha.len hb.len ha.lim hb.lim) rfl) rfl (sE rfl (nl J (J13 _ _ ?_)));refine fN _ rfl (fun ho=>?_) (fun ho=>?_)
 ·replace ho:=cB_ ho
  have hle:val b.w≤val a.w:=e9_ ho;refine Sq fun K14 J14=>dr (sk (sd (sk (sk (s0))))) [0,4,8,12,16,20,24,28,33] [8] mix (by kernel_rfl) (fun K J=>pQ rfl (eX jC dd_ rfl) (pQ rfl (iA mF rfl mm_ rfl) ?_));refine pQ rfl (eX jY dd_ rfl) (pQ rfl (oZ (vs:=uw a.w) iJ rfl mm_ (t9 ha.len) ((nW _).trans ha.len)) ?_);refine pQ rfl (eX jY dd_ rfl) (pQ rfl (oZ (vs:=uw b.w) iJ rfl mm_ (t9 hb.len) ((nW _).trans hb.len)) ?_);refine pQ rfl (bZ dM_ (FE a.w b.w ha.len hb.len ha.lim hb.lim hle) rfl) (pQ rfl (bZ zY (kA a.neg _ (fT _ _) (uP _ _)) rfl) ?_);refine d7 rfl rfl (dX aD rfl rfl uu_ (o5 (fT _ _)) rfl (dL _) (.inl (by assumption)) ⟨nf,ss_,?_⟩);refine fl J (J14 _ _ (aL (aB (cC rfl (.inr rfl) ⟨_,_,_,_,_,_,rfl,mm_,aD,_,(gS (o5 (fT _ _))),(o5 (fT _ _)),rfl⟩ ?_))));exact congrArg RV (hY_ ha hb hg.1 hg.2 hn hle)
 replace ho:=cB_ ho
 have hle:val a.w≤val b.w:=ia_ ho;refine aG (J12 _ _ (Sq fun K15 J15=>dr (sk (sd (sk (sk (s0))))) [0,4,8,12,16,20,24,28,33] [8] mix (by kernel_rfl) (fun K J=>pQ rfl (eX jC dd_ rfl) (pQ rfl (iA mF rfl mm_ rfl) ?_))));refine pQ rfl (eX jY dd_ rfl) (pQ rfl (oZ (vs:=uw b.w) iJ rfl mm_ (t9 hb.len) ((nW _).trans hb.len)) ?_);refine pQ rfl (eX jY dd_ rfl) (pQ rfl (oZ (vs:=uw a.w) iJ rfl mm_ (t9 ha.len) ((nW _).trans ha.len)) ?_);refine pQ rfl (bZ dM_ (FE b.w a.w hb.len ha.len hb.lim ha.lim hle) rfl) (pQ rfl (bZ zY (kA b.neg _ (fT _ _) (uP _ _)) rfl) ?_);refine d7 rfl rfl (dX aD rfl rfl uu_ (o5 (fT _ _)) rfl (dL _) (.inl (by assumption)) ⟨nf,ss_,?_⟩);refine fl J (J15 _ _ (aL (cC rfl (.inr rfl) ⟨_,_,_,_,_,_,rfl,mm_,aD,_,(gS (o5 (fT _ _))),(o5 (fT _ _)),rfl⟩ ?_)));exact congrArg RV (hZ_ ha hb hg.1 hg.2 hn hle)

theorem EX (a b:R) (ha:a.Ok) (hb:b.Ok) :
    Ret Tryz.prog 39 [RV a,RV b] (RV (Z.sub a.dec b.dec).enc):=by
 refine cM (N:=9) Tryz.func39 rfl rfl (by simp) (fun w0=>?_);simp only [cS,Nat.reduceAdd];refine Sq fun K1 J1=>Rk fun K J=>bA rfl (qR rfl rfl (fun b2 hb2=>bA rfl (qR rfl rfl (fun b3 hb3=>bA rfl (i1 oM (fun b4 hb4=>nl J (J1 _ _ (Sq fun K2 J2=>dr (sd (sk (sk (s0)))) [0,4,8,12,17] [4] mix (by kernel_rfl) (fun K J=>pQ rfl (eG aD rfl mm_ (eO ha)) ?_)))))))));refine pQ rfl (eG aD rfl mm_ (eO hb)) ?_;refine pQ rfl (bZ dN_ (H7 b hb) rfl) (pQ rfl (bZ LQ (rW a (Z.neg b.dec).enc ha (Z.enc_ok _)) rfl) ?_);refine d7 rfl rfl (dX aD rfl rfl uu_ (aS _) rfl (dL _) (.inl (by assumption)) ⟨nf,ss_,?_⟩);refine fl J (J2 _ _ (aL (cC rfl (.inr rfl) ⟨_,_,_,_,_,_,rfl,mm_,aD,_,(gS (aS _)),(aS _),rfl⟩ ?_)))
 (rw [G9];rfl)

theorem k9 (a:R) (ha:a.Ok) :
    Ret Tryz.prog 40 [RV a] (.int .i64 a.dec.sign):=by
 refine cM (N:=17) Tryz.func40 rfl rfl (by simp) (fun w0=>?_);simp only [cS,Nat.reduceAdd];refine Sq fun K1 J1=>Rk fun K J=>bA rfl (qR rfl rfl (fun b1 hb1=>sE rfl (nl J (J1 _ _ (Sq fun K2 J2=>aJ (Sq fun K3 J3=>Rk fun K J=>sQ (eG aD rfl mm_ (eO ha)) rfl ?_))))));refine bA rfl (pW oV oM pX rfl dd_ rfl (F8 ha) (fun b5 hb5=>sQ (dA BH rfl (fun w hw=>oE [a] (ok1 ha) b5 31 w (hw.mem _ m0) (by simp))) rfl ?_));refine sE rfl (sE rfl ?_)
 cases hg:[a].all R.good
 ·refine aI rfl (aI rfl (aI rfl (aI rfl (sE rfl (sE rfl (nl J (J3 _ _ (dE rfl (Sq fun K4 J4=>Rk fun K J=>sE rfl (nl J (J4 _ _ (aL (aT (aB (cC rfl (.inr rfl) rfl ?_)))))))))))))));exact congrArg _ (OS ha (.inl (by simpa using hg)))
 refine sQ (eX jY dd_ rfl) rfl (sQ (oZ (vs:=uw a.w) iJ rfl mm_ (t9 ha.len) ((nW _).trans ha.len)) rfl ?_);refine sQ (yU y6 mI rfl (.nil _)) rfl ?_;refine sQ (rG (r:=a.zero) rfl rfl (kR 8 dd_ VE WD (xC ha.len) (xC (by simp)) ha.zero_iff)) rfl ?_;refine sE rfl (sE rfl (nl J (J3 _ _ ?_)));refine fN _ rfl (fun hz=>?_) (fun hz=>?_)
 ·replace hz:=cB_ hz
  refine Sq fun K5 J5=>Rk fun K J=>sE rfl (nl J (J5 _ _ (aL (aT (aB (cC rfl (.inr rfl) rfl ?_))))));exact congrArg _ (OS ha (.inr hz))
 replace hz:=cB_ hz
 refine Sq fun K6 J6=>Rk fun K J=>sQ (eX jC dd_ rfl) rfl (sQ (iA mF rfl mm_ rfl) rfl ?_);refine sE rfl (nl J (J6 _ _ ?_));refine fN _ rfl (fun hn=>?_) (fun hn=>?_)
 ·replace hn:=cB_ hn
  refine Sq fun K7 J7=>Rk fun K J=>sE rfl (nl J (J7 _ _ (aL (aT (aB (cC rfl (.inr rfl) rfl ?_))))));exact congrArg _ (c8_ ha (by simpa using hg) hz hn)
 replace hn:=cB_ hn
 refine aG (J2 _ _ (Sq fun K8 J8=>Rk fun K J=>sE rfl (nl J (J8 _ _ (aL (cC rfl (.inr rfl) rfl ?_))))));exact congrArg _ (c9_ ha (by simpa using hg) hz hn)

theorem fK (n:Int) (hn:I64 n) :
    Ret Tryz.prog 37 [.int .i64 n] (RV (Z.of n).enc):=by
 refine cM (N:=19) Tryz.func37 rfl rfl (by simp) (fun w0=>?_);simp only [cS,Nat.reduceAdd];refine Sq fun K1 J1=>Rk fun K J=>bA rfl (i1 oM (fun b2 hb2=>nl J (J1 _ _ (Sq fun K2 J2=>Rk fun K J=>sE rfl (sQ (i7 OW kV rfl) rfl (sE rfl (nl J (J2 _ _ (Sq fun K3 J3=>Sq fun K4 J4=>Rk fun K J=>sE rfl (sE rfl (nl J (J4 _ _ ?_))))))))))));refine fN _ rfl (fun h0=>?_) (fun h0=>?_)
 ·replace h0:=cB_ h0
  refine Rk fun K J=>sE rfl (sQ (aZ (kn_ rfl) (congrArg (Value.int .u64) (p2_ hn h0))) rfl (sE rfl (nl J (J3 _ _ (Sq fun K5 J5=>Rk fun K J=>sE rfl (sE rfl (sQ (aZ (rS rfl) (show _=Value.int .u64 ((n.natAbs:Nat):Int) from by first | rfl | exact congrArg (Value.int .u64) (aU_ hn h0))) rfl ?_)))))));refine sQ (i7 kV nP rfl) rfl (sQ (aZ (rS rfl) (show _=Value.int .u64 ((n.natAbs:Nat):Int) from by first | rfl | exact congrArg (Value.int .u64) (aU_ hn h0))) rfl ?_);refine sQ (aZ (E3 rfl rfl dd_) (congrArg (Value.int .u64) (A5 _ 32))) rfl (sQ (i7 kV nP rfl) rfl (sQ (yU y6 mI rfl (jf_ (j2_ _) (j1_ (by unfold I64 at hn;omega)))) rfl (sQ (bZ zY (kA (decide (n<0)) _ (by simp) (jD_ (Nat.mod_lt _ dd_) (by unfold I64 at hn;omega) 14)) rfl) rfl ?_)));refine bA rfl (dX aD rfl rfl uu_ (o5 (by simp)) rfl (dL _) (.inl (by assumption)) ?_);refine nl J (J5 _ _ (aL (cC rfl (.inr rfl) ⟨_,_,_,_,_,_,rfl,mm_,aD,_,(gS (o5 (by simp))),(o5 (by simp)),rfl⟩ ?_)));exact congrArg RV (j0_ hn rfl rfl)
 replace h0:=cB_ h0
 refine aG (J3 _ _ (Sq fun K6 J6=>Rk fun K J=>sE rfl (sE rfl (sQ (aZ (rS rfl) (show _=Value.int .u64 ((n.natAbs:Nat):Int) from by first | rfl | exact congrArg (Value.int .u64) (aU_ hn h0))) rfl ?_))));refine sQ (i7 kV nP rfl) rfl (sQ (aZ (rS rfl) (show _=Value.int .u64 ((n.natAbs:Nat):Int) from by first | rfl | exact congrArg (Value.int .u64) (aU_ hn h0))) rfl ?_);refine sQ (aZ (E3 rfl rfl dd_) (congrArg (Value.int .u64) (A5 _ 32))) rfl (sQ (i7 kV nP rfl) rfl (sQ (yU y6 mI rfl (jf_ (j2_ _) (j1_ (by unfold I64 at hn;omega)))) rfl (sQ (bZ zY (kA (decide (n<0)) _ (by simp) (jD_ (Nat.mod_lt _ dd_) (by unfold I64 at hn;omega) 14)) rfl) rfl ?_)));refine bA rfl (dX aD rfl rfl uu_ (o5 (by simp)) rfl (dL _) (.inl (by assumption)) ?_);refine nl J (J6 _ _ (aL (cC rfl (.inr rfl) ⟨_,_,_,_,_,_,rfl,mm_,aD,_,(gS (o5 (by simp))),(o5 (by simp)),rfl⟩ ?_)));exact congrArg RV (j0_ hn rfl rfl)
theorem iF (a b:R) (ha:a.Ok) (hb:b.Ok) :
    Ret Tryz.prog 36 [RV a,RV b] (RV (Z.mul a.dec b.dec).enc):=by
 refine cM (N:=82) Tryz.func36 rfl rfl (by simp) (fun w0=>?_);simp only [cS,Nat.reduceAdd];refine Sq fun K1 J1=>Rk fun K J=>bA rfl (qR rfl rfl (fun b2 hb2=>bA rfl (qR rfl rfl (fun b3 hb3=>bA rfl (i1 oM (fun b4 hb4=>nl J (J1 _ _ (Sq fun K2 J2=>Sq fun K3 J3=>Rk fun K J=>sQ (eG aD rfl mm_ (eO ha)) rfl ?_))))))));refine sQ (eG aD rfl mm_ (eO hb)) rfl ?_;refine bA rfl (pW oV oM pX rfl dd_ rfl (aF_ ha hb) (fun b13 hb13=>sQ (dA BH rfl (fun w hw=>oE [a,b] (ok2 ha hb) b13 31 w (hw.mem _ m0) (by simp))) rfl ?_));refine sE rfl (nl J (J3 _ _ ?_));refine fN _ rfl (fun hg=>?_) (fun hg=>?_)
 ·replace hg:=cB_ hg
  refine Sq fun K4 J4=>Rk fun K J=>sQ (bZ BB kO rfl) rfl (bA rfl (dX aD rfl rfl uu_ (aS _) rfl (dL _) (.inl (by assumption)) ?_));refine nl J (J4 _ _ (aL (aB (cC rfl (.inr rfl) ⟨_,_,_,_,_,_,rfl,mm_,aD,_,(gS (aS _)),(aS _),rfl⟩ ?_))))
  (rw [Z.mul,uU (QY hg)];rfl)
 replace hg:=cB_ hg
 have hg:=all2.1 hg;refine aG (J2 _ _ (Sq fun K5 J5=>Rk fun K J=>bA rfl (i1 sg_ (fun b5 hb5=>nl J (J5 _ _ (Sq fun K6 J6=>?_))))));have hsa:=FD a.w;have hsb:=FD b.w;rw [ha.len] at hsa;rw [hb.len] at hsb;refine dr (sk (sk (sk (sk (sk (s0)))))) [0,4,8,12,16,20,24,28] [] mix (by kernel_rfl) (fun K J=>pQ rfl (eX jY dd_ rfl) (pQ rfl (oZ (vs:=uw a.w) iJ rfl mm_ (t9 ha.len) ((nW _).trans ha.len)) ?_));refine pQ rfl (bZ PQ (xD a.w ha.len) rfl) (pQ rfl (eX jY dd_ rfl) (pQ rfl (oZ (vs:=uw b.w) iJ rfl mm_ (t9 hb.len) ((nW _).trans hb.len)) ?_));refine pQ rfl (bZ PQ (xD b.w hb.len) rfl) (pE rfl (pE rfl (fl J (J6 _ _ (Sq fun K7 J7=>Sq fun K8 J8=>Rk fun K J=>sE rfl (sE rfl (nl J (J8 _ _ (aJ ?_)))))))));refine eA [8,9,10,24,25,26,27,28,29,30,31,32,33,34,35,36,37,38,39,40,41,42,43,44,45,46,47,48,49,50,51,52,53,54,55,56,57,58,59,60,61,62,63,64,65,66] (fun g nn M=>∃ (i:Nat) (l:List Nat),(g 24 = .int .i64 (i:Int))∧M=[⟨b5,162,uw l⟩,⟨b4,31,zR⟩,⟨b3,31,b.cells⟩,⟨b2,31,a.cells⟩]∧nn=szL a.w - i∧(i≤szL a.w∧MulOut (val a.w) (val b.w) (szL b.w) i l)) (szL a.w - 0) ?start ?round
 case start =>
  refine ⟨_,(List.Sublist.cons_cons _ (List.Sublist.cons _ (List.Sublist.refl _))),0,_,?a24,?mem0,rfl,⟨Nat.zero_le _,MulOut.start _ _ _⟩⟩
  case mem0=>rfl
  case a24=>rfl
 case round =>
  rintro nn g M ⟨i,l,hg24,rfl,hmeas,⟨hile,hM⟩⟩;subst nn;simp only [dQ,hg24];clear hg24;refine Sq fun K9 J9=>Rk fun K J=>sE rfl (nl J (J9 _ _ (Sq fun K10 J10=>?_)));refine fN _ rfl (fun hi=>?_) (fun hi=>?_)
  ·replace hi:=cB_ hi
   have hia:i<a.w.length:=by rw [ha.len];omega
   refine aG (J10 _ _ (Sq fun K11 J11=>aJ (Sq fun K12 J12=>Rk fun K J=>sE rfl (sE rfl (nl J (J12 _ _ (Sq fun K13 J13=>Rk fun K J=>sE rfl (nl J (J13 _ _ (Sq fun K14 J14=>Sq fun K15 J15=>Rk fun K J=>sE rfl (sE rfl ?_)))))))))));refine nl J (J15 _ _ (aJ ?_));refine eA [9,10,28,29,30,31,32,33,34,35,36,37,38,39,40,41,42,43,44,45,46,47,48,49,50,51,52,53,54,55,56,57,58,59] (fun g nn M=>∃ (k:Nat) (l:List Nat) (c:Nat),(g 9 = .int .u64 (c:Int)∧g 28 = .int .i64 (k:Int))∧M=[⟨b5,162,uw l⟩,⟨b4,31,zR⟩,⟨b3,31,b.cells⟩,⟨b2,31,a.cells⟩]∧nn=szL b.w - k∧(k≤szL b.w∧MulIn (val a.w) (val b.w) (szL b.w) i k l c)) (szL b.w - 0) ?start ?round
   case start =>
    refine ⟨_,(List.Sublist.refl _),0,l,0,⟨?a9,?a28⟩,?mem0,rfl,⟨Nat.zero_le _,hM.row⟩⟩
    case mem0=>rfl
    case a9=>rfl
    case a28=>rfl
   case round =>
    rintro nn g M ⟨k,l,c,⟨hg9,hg28⟩,rfl,hmeas,⟨hkle,hM⟩⟩;subst nn;simp only [dQ,hg9,hg28];clear hg9 hg28;refine Sq fun K16 J16=>Rk fun K J=>sE rfl (nl J (J16 _ _ (Sq fun K17 J17=>?_)));refine fN _ rfl (fun hk=>?_) (fun hk=>?_)
    ·replace hk:=cB_ hk
     have hkb:k<b.w.length:=by rw [hb.len];omega
     refine aG (J17 _ _ (Sq fun K18 J18=>aJ (Sq fun K19 J19=>Rk fun K J=>sE rfl (sE rfl (nl J (J19 _ _ (Sq fun K20 J20=>dr (sk (sk (sk (sk (s0))))) [0,4,8,12,16,20,24,28,32,36,40,44,48,52,56,60,64,68,72,76,80] [] mix (by kernel_rfl) (fun K J=>pE rfl (pE rfl (pQ rfl (eX jY dd_ rfl) (pQ rfl (j7 mI rfl rfl oo_ oo_) (pQ rfl (iA n9 rfl mm_ (wA hia)) ?_))))))))))));refine pQ rfl (i7 nP kV rfl) (pE rfl (pQ rfl (eX jY dd_ rfl) (pQ rfl (j7 mI rfl rfl oo_ oo_) (pQ rfl (iA n9 rfl mm_ (wA hkb)) ?_))));refine pQ rfl (i7 nP kV rfl) (pE rfl (pE rfl (pE rfl (pQ rfl (aZ (pH rfl rfl) (congrArg (Value.int .i64) (xV oo_))) (pQ rfl (j7 U5 rfl rfl oo_ oo_) (pQ rfl (iA n9 rfl mm_ (DW (by rw [hM.len];omega))) ?_))))));refine pQ rfl (i7 nP kV rfl) (pE rfl (pQ rfl (aZ (pH rfl rfl) (congrArg (Value.int .u64) (rF_ (iZ ha.lim i) (iZ hb.lim k) (iZ hM.lim (i+k)) hM.clt))) (pE rfl (fl J (J20 _ _ (Sq fun K21 J21=>Rk fun K J=>sE rfl (sE rfl (sQ (aZ (pH rfl rfl) (congrArg (Value.int .i64) (xV oo_))) rfl (sE rfl (sQ (aZ (i7 kV nP rfl) (yM _)) rfl (sQ (j7 U5 rfl rfl oo_ oo_) rfl (bA rfl (w7 n9 rfl rfl uu_ (by rw [hM.len];omega) (.inl (by assumption)) ?_)))))))))))));refine nl J (J21 _ _ (Rk fun K J=>sE rfl (sQ (aZ (E3 rfl rfl dd_) (congrArg (Value.int .u64) (A5 _ 32))) rfl (sE rfl (nl J (J18 _ _ (Rk fun K J=>sQ (aZ (pH rfl rfl) (congrArg (Value.int .i64) (rF oo_))) rfl (sE rfl (nl J ?_)))))))));refine ⟨pp_,_,_,(List.Sublist.refl _),oo_,k+1,_,_,⟨?s9,?s28⟩,?mem,rfl,⟨by omega,gV_ hM ha.lim hb.lim oo_ oo_⟩⟩
     case mem=>rfl
     case s9=>rfl
     case s28=>rfl
    replace hk:=cB_ hk
    obtain rfl:k=szL b.w:=by omega
    refine dW (aU (aU (bJ (J14 _ _ (Rk fun K J=>sE rfl (sE rfl (sQ (aZ (pH rfl rfl) (congrArg (Value.int .i64) (xV oo_))) rfl (sE rfl (sQ (aZ (i7 kV nP rfl) (qC_ hM.clt)) rfl (sQ (j7 U5 rfl rfl oo_ oo_) rfl (bA rfl (w7 n9 rfl rfl uu_ (by rw [hM.len];omega) (.inl (by assumption)) ?_))))))))))));refine nl J (J11 _ _ (Rk fun K J=>sQ (aZ (pH rfl rfl) (congrArg (Value.int .i64) (rF oo_))) rfl (sE rfl (nl J ?_))));refine ⟨pp_,_,_,(List.Sublist.refl _),oo_,i+1,_,?s24,?mem,rfl,⟨by omega,hM.done oo_ (EO hb.lim)⟩⟩
    case mem=>rfl
    case s24=>rfl
  replace hi:=cB_ hi
  obtain rfl:i=szL a.w:=by omega
  refine dW (aU (aU (bJ (J7 _ _ (Sq fun K22 J22=>Sq fun K23 J23=>Rk fun K J=>sQ (EI U5 rfl rfl rfl dd_ dd_ dd_ dd_) rfl (sQ (ko_ mI rfl dd_) rfl (sQ (oZ (vs:=uw (l.drop 16)) iJ rfl mm_ (sc_ hM.len) (by simp [uw,hM.len])) rfl ?_)))))));refine sQ (yU y6 mI rfl (.nil _)) rfl ?_;refine sQ (EG (r:=decide (l.drop 16=List.replicate 16 0)) rfl rfl (kR 8 dd_ VE WD (xC (by simp [hM.len])) (xC (by simp)) (ow_ _ _))) rfl ?_;refine nl J (J23 _ _ ?_);refine fN _ rfl (fun h71=>?_) (fun h71=>?_)
  ·replace h71:=cB_ h71
   refine Sq fun K24 J24=>Rk fun K J=>sQ (bZ BB kO rfl) rfl (bA rfl (dX aD rfl rfl uu_ (aS _) rfl (dL _) (.inl (by assumption)) ?_));refine nl J (J24 _ _ (aL (aB (cC rfl (.inr rfl) ⟨_,_,_,_,_,_,rfl,mm_,aD,_,(gS (aS _)),(aS _),rfl⟩ ?_))));exact congrArg RV (mg_ ha hb hg.1 hg.2 hM.len hM.lim (WH hM ha) (by simpa using h71))
  replace h71:=cB_ h71
  refine aG (J22 _ _ (Sq fun K25 J25=>dr (sk (sd (sk (sk (s0))))) [0,4,8,12,16,20,24,28,32,37] [9] mix (by kernel_rfl) (fun K J=>pQ rfl (eX jC dd_ rfl) (pQ rfl (iA mF rfl mm_ rfl) ?_))));refine pQ rfl (eX jC dd_ rfl) (pQ rfl (iA mF rfl mm_ rfl) ?_);refine pQ rfl (EH GS rfl rfl) (pQ rfl (EI U5 rfl rfl rfl dd_ dd_ dd_ dd_) (pQ rfl (ko_ mI rfl dd_) (pQ rfl (oZ (vs:=uw (l.take 16)) iJ rfl mm_ (sd_ hM.len) (by simp [uw,hM.len])) ?_)));refine pQ rfl (bZ zY (kA (a.neg != b.neg) (l.take 16) (by simp [hM.len]) (hM.lim.take 16)) rfl) ?_;refine d7 rfl rfl (dX aD rfl rfl uu_ (o5 (by simp [hM.len])) rfl (dL _) (.inl (by assumption)) ⟨nf,ss_,?_⟩);refine fl J (J25 _ _ (aL (cC rfl (.inr rfl) ⟨_,_,_,_,_,_,rfl,mm_,aD,_,(gS (o5 (by simp [hM.len]))),(o5 (by simp [hM.len])),rfl⟩ ?_)));exact congrArg RV (mh_ ha hb hg.1 hg.2 hM.len hM.lim (WH hM ha) (by simpa using h71))

theorem TW (us vs:List Nat) (n j:Nat) (H:QH us vs n j) (bu T:Nat) (w:World) (hbu:w.heap[bu]? = some (.cells (uw us).toArray T (0,0))) :
    Calls Tryz.prog 253 [.pointer (some ⟨bu,0,none⟩),UV vs,.int .i64 (n:Int),.int .i64 (j:Int)].toArray w (fun e w'=>∃ x:Nat,e = .returned (.int .u64 (x:Int))∧Ext w w'∧bA_ us vs j x):=by
 refine bX_ (N:=77) (g:=fun x:Nat=>.int .u64 (x:Int)) (Q:=fun x:Nat=>bA_ us vs j x) Tryz.func253 rfl rfl (by simp) ?_;obtain ⟨w0,rfl⟩:∃ w0,w0=w:=⟨_,rfl⟩;simp only [cS,Nat.reduceAdd];have G:=H.gh;have hn2:=H.n2;have hjn:=H.jn;have hul:=H.ulen;have hvl:=H.vlen;refine Sq fun K1 J1=>Rk fun K J=>bA rfl (qR rfl rfl (fun b5 hb5=>sE rfl (nl J (J1 _ _ (Sq fun K2 J2=>dr (sk (s0)) [0,4,8,12,16,20,24,28,32,36,40,44,48,52,56,60,64,68,72,76] [] mix (by kernel_rfl) (fun K J=>pE rfl (pE rfl (pE rfl (pQ rfl (aZ (pH rfl rfl) (congrArg (Value.int .i64) (xV oo_))) (pE rfl (pQ rfl (j7 CR rfl rfl oo_ oo_) (pQ rfl (UH n9 rfl hbu (by simp) (DW oo_)) ?_))))))))))));refine pQ rfl (aZ (i7 nP kV rfl) (GL (iZ H.ulim _))) (pQ rfl (aZ (LX rfl rfl dd_) (congrArg (Value.int .u64) (HI (iZ H.ulim _)))) (pE rfl (pE rfl (pE rfl (pQ rfl (aZ (pH rfl rfl) (congrArg (Value.int .i64) (xV oo_))) (pQ rfl (aZ (x9 rfl rfl) (congrArg (Value.int .i64) (DS (b:=1) rfl oo_ oo_))) (pE rfl (pQ rfl (j7 CR rfl rfl oo_ oo_) (pQ rfl (UH n9 rfl hbu (by simp) (DW oo_)) ?_)))))))));refine pQ rfl (aZ (i7 nP kV rfl) (GL (iZ H.ulim _))) (pQ rfl (aZ (a2_ rfl rfl) (congrArg (Value.int .u64) (cL_ (iZ H.ulim _) (iZ H.ulim _)))) (pE rfl (fl J (J2 _ _ (Sq fun K3 J3=>Rk fun K J=>sE rfl (sQ (aZ (x9 rfl rfl) (congrArg (Value.int .i64) (DS (b:=1) rfl oo_ oo_))) rfl (sQ (j7 mI rfl rfl oo_ oo_) rfl (sQ (iA n9 rfl mm_ (DW oo_)) rfl ?_))))))));refine sQ (aZ (i7 nP kV rfl) (GL (iZ H.vlim _))) rfl (sE rfl (nl J (J3 _ _ (Sq fun K4 J4=>dr (sk (s0)) [0,4,8,12,16,20,24,28] [] mix (by kernel_rfl) (fun K J=>pE rfl (pE rfl (pQ rfl (aZ (rA rfl rfl (by have:=G.f0;omega)) (congrArg (Value.int .u64) (mw_ (by have:=G.topLt;have:=G.f1;omega)))) (pE rfl (pE rfl (pQ rfl (aZ (w6 rfl rfl (by have:=G.f0;omega)) (congrArg (Value.int .u64) (OO _ _))) (pE rfl (pE rfl (fl J (J4 _ _ (Sq fun K5 J5=>aJ ?_)))))))))))))));refine eA [11,12,43,44,45,46,47,48,49,50,51,52,53,54,55,56,57,58,59,60,61,62,63,64,65,66,67,68,69,70,71,72,73,74,75] (fun g nn M=>∃ (d rest:Nat),(g 11 = .int .u64 (d:Int)∧g 12 = .int .u64 (rest:Int))∧M=[⟨b5,29,uw vs⟩]∧nn=d∧(GI (vs.getD (n - 1) 0) (us.getD (j+n) 0 * 4294967296+us.getD (j+n - 1) 0) (val us / (val vs * 4294967296 ^ j)) d rest)) ((us.getD (j+n) 0 * 4294967296+us.getD (j+n - 1) 0) / vs.getD (n - 1) 0) ?start ?round
 case start =>
  refine ⟨_,(List.Sublist.refl _),_,_,⟨?a11,?a12⟩,?mem0,rfl,GI.start G⟩
  case mem0=>rfl
  case a11=>rfl
  case a12=>rfl
 case round =>
  rintro nn g M ⟨d,rest,⟨hg11,hg12⟩,rfl,hmeas,hG⟩;subst nn;simp only [dQ,hg11,hg12];clear hg11 hg12;refine Sq fun K6 J6=>Sq fun K7 J7=>dr (sk (s0)) [0,4,8,12,16,20,24,28,32,36,40,44,48,52,56,60,64,68,72,76,80,84,88,92,96,100,104,108] [] mix (by kernel_rfl) (fun K J=>pE rfl (pE rfl (pE rfl ?_)))
  cases h2:decide ((rest:Int)<4294967296)
  ·refine aP rfl rfl (aP rfl rfl (aP rfl rfl (aP rfl rfl (aP rfl rfl (aP rfl rfl (aP rfl rfl (aP rfl rfl (aP rfl rfl (aP rfl rfl (aP rfl rfl (aP rfl rfl (aP rfl rfl (aP rfl rfl (aP rfl rfl (aP rfl rfl (aP rfl rfl (aP rfl rfl (aP rfl rfl (aP rfl rfl ?_)))))))))))))))))));refine aP rfl rfl (aP rfl rfl (aP rfl rfl (aP rfl rfl (pE rfl (fl J (J7 _ _ (gJ rfl (dW (aU (aU (bJ (J5 _ _ (Sq fun K8 J8=>Rk fun K J=>sE rfl (sE rfl (nl J (J8 _ _ (aL (cC rfl (.inr rfl) rfl ?_))))))))))))))))));exact ⟨d,rfl,YZ H hG (.inl (by have:=of_decide_eq_false h2;omega))⟩
  refine pE rfl (pE rfl (pE rfl ?_))
  cases h5:decide ((4294967296:Int)≤(d:Int))
  ·refine pE rfl (pE rfl (pQ rfl (aZ (x9 rfl rfl) (congrArg (Value.int .i64) (DS (b:=2) rfl oo_ oo_))) (pQ rfl (j7 mI rfl rfl oo_ oo_) (pQ rfl (iA n9 rfl mm_ (DW oo_)) ?_))));refine pQ rfl (aZ (i7 nP kV rfl) (GL (iZ H.vlim _))) (pQ rfl (aZ (fS_ rfl rfl) (congrArg (Value.int .u64) (fH_ (fE_ (by have:=of_decide_eq_false h5;omega) (iZ H.vlim _))))) (pE rfl (pQ rfl (aZ (LX rfl rfl dd_) (congrArg (Value.int .u64) (HI (by have:=of_decide_eq_true h2;omega)))) (pE rfl (pE rfl (pE rfl (pQ rfl (aZ (pH rfl rfl) (congrArg (Value.int .i64) (xV oo_))) (pQ rfl (aZ (x9 rfl rfl) (congrArg (Value.int .i64) (DS (b:=2) rfl oo_ oo_))) (pE rfl (pQ rfl (j7 CR rfl rfl oo_ oo_) (pQ rfl (UH n9 rfl hbu (by simp) (DW oo_)) ?_)))))))))));refine pQ rfl (aZ (i7 nP kV rfl) (GL (iZ H.ulim _))) (pQ rfl (aZ (a2_ rfl rfl) (congrArg (Value.int .u64) (cL_ (by have:=of_decide_eq_true h2;omega) (iZ H.ulim _)))) (pE rfl (pE rfl (pE rfl (fl J (J7 _ _ ?_))))));refine fN _ rfl (fun h68=>?_) (fun h68=>?_)
   ·replace h68:=cB_ h68
    refine aG (J6 _ _ (aJ (Sq fun K9 J9=>?_)));have hmore:=GI.more G hG (by have:=of_decide_eq_true h2;omega) (by first | exact .inl (by have:=of_decide_eq_true h5;omega) | exact .inr (by exact_mod_cast h68));refine Rk fun K J=>sE rfl (sQ (aZ (x9 rfl rfl) (congrArg (Value.int .u64) (W9 rfl hmore.1 (by have:=GI.dlt G hG;omega)))) rfl (sE rfl (nl J (J9 _ _ (Rk fun K J=>sE rfl (sE rfl (sQ (aZ (pH rfl rfl) (congrArg (Value.int .u64) (ac_ (by have:=hG.rlt;have:=G.f1;omega)))) rfl (sE rfl (nl J ?_)))))))));refine ⟨pp_,_,_,(List.Sublist.refl _),(by have:=hmore.1;omega),d - 1,rest+vs.getD (n - 1) 0,⟨?s11,?s12⟩,?mem,rfl,hmore.2⟩
    case mem=>rfl
    case s11=>rfl
    case s12=>rfl
   replace h68:=cB_ h68
   refine dW (aU (aU (bJ (J5 _ _ (Sq fun K10 J10=>Rk fun K J=>sE rfl (sE rfl (nl J (J10 _ _ (aL (cC rfl (.inr rfl) rfl ?_))))))))));exact ⟨d,rfl,YZ H hG (.inr ⟨by have:=of_decide_eq_false h5;omega,by have h69:=Int.not_lt.1 h68;exact_mod_cast h69⟩)⟩
  refine aP rfl rfl (aP rfl rfl (aP rfl rfl (aP rfl rfl (aP rfl rfl (aP rfl rfl (aP rfl rfl (aP rfl rfl (aP rfl rfl (aP rfl rfl (aP rfl rfl (aP rfl rfl (aP rfl rfl (aP rfl rfl (aP rfl rfl (aP rfl rfl (aP rfl rfl (aP rfl rfl (aP rfl rfl (aP rfl rfl ?_)))))))))))))))))));refine pE rfl (pE rfl (fl J (J7 _ _ (dE rfl (aG (J6 _ _ (aJ (Sq fun K11 J11=>?_))))))));have hmore:=GI.more G hG (by have:=of_decide_eq_true h2;omega) (by first | exact .inl (by have:=of_decide_eq_true h5;omega) | exact .inr (by exact_mod_cast h68));refine Rk fun K J=>sE rfl (sQ (aZ (x9 rfl rfl) (congrArg (Value.int .u64) (W9 rfl hmore.1 (by have:=GI.dlt G hG;omega)))) rfl (sE rfl (nl J (J11 _ _ (Rk fun K J=>sE rfl (sE rfl (sQ (aZ (pH rfl rfl) (congrArg (Value.int .u64) (ac_ (by have:=hG.rlt;have:=G.f1;omega)))) rfl (sE rfl (nl J ?_)))))))));refine ⟨pp_,_,_,(List.Sublist.refl _),(by have:=hmore.1;omega),d - 1,rest+vs.getD (n - 1) 0,⟨?s11,?s12⟩,?mem,rfl,hmore.2⟩
  case mem=>rfl
  case s11=>rfl
  case s12=>rfl

theorem XV (us vs:List Nat) (n j d:Nat) (hu:us.length=17) (lu:Lim us) (hv:vs.length=16) (lv:Lim vs) (hV:val vs<4294967296 ^ n) (hjn:j+n≤16) (hsm:val us<4294967296 ^ (j+n+1)) (hd:d<4294967296) (bu T:Nat) (w:World) (hbu:w.heap[bu]? = some (.cells (uw us).toArray T (0,0))) :
    Calls Tryz.prog 254 [.pointer (some ⟨bu,0,none⟩),UV vs,.int .i64 (n:Int),.int .i64 (j:Int),.int .u64 (d:Int)].toArray w (fun e w'=>∃ x:List Nat×Nat,e = .returned (.bool (((x.2:Nat):Int)==1))∧ExtX [bu] w w'∧w'.heap[bu]? = some (.cells (uw x.1).toArray T (0,0))∧Took us (val vs) d j n x):=by
 refine bW_ (N:=78) (g:=fun x:List Nat×Nat=>.bool (((x.2:Nat):Int)==1)) (cs':=fun x:List Nat×Nat=>uw x.1) (Q:=fun x:List Nat×Nat=>Took us (val vs) d j n x) Tryz.func254 rfl rfl (by simp) hbu ?_;obtain ⟨w0,rfl⟩:∃ w0,w0=w:=⟨_,rfl⟩;simp only [cS,Nat.reduceAdd];refine Sq fun K1 J1=>Rk fun K J=>bA rfl (qR rfl rfl (fun b6 hb6=>sE rfl (nl J (J1 _ _ (Sq fun K2 J2=>Rk fun K J=>sE rfl (sE rfl (nl J (J2 _ _ (Sq fun K3 J3=>Sq fun K4 J4=>Rk fun K J=>sE rfl (sE rfl (nl J (J4 _ _ (aJ ?_)))))))))))));refine eA [11,12,13,14,17,18,19,20,21,22,23,24,25,26,27,28,29,30,31,32,33,34,35,36,37,38,39,40,41,42,43,44,45,46,47,48,49,50,51,52,53,54] (fun g nn M=>∃ (i:Nat) (l:List Nat) (c bo:Nat),(g 11 = .int .u64 (c:Int)∧g 12 = .int .u64 (bo:Int)∧g 17 = .int .i64 (i:Int))∧M=[⟨b6,29,uw vs⟩,⟨bu,T,uw l⟩]∧nn=n - i∧(i≤n∧TakeIn us (val vs) d j i l c bo)) (n - 0) ?start ?round
 case start =>
  refine ⟨_,(List.Sublist.refl _),0,us,0,0,⟨?a11,?a12,?a17⟩,?mem0,rfl,⟨Nat.zero_le _,TakeIn.start hu lu _ _ _⟩⟩
  case mem0=>rfl
  case a11=>rfl
  case a12=>rfl
  case a17=>rfl
 case round =>
  rintro nn g M ⟨i,l,c,bo,⟨hg11,hg12,hg17⟩,rfl,hmeas,⟨hi,hT⟩⟩;subst nn;simp only [dQ,hg11,hg12,hg17];clear hg11 hg12 hg17;refine Sq fun K5 J5=>Rk fun K J=>sE rfl (nl J (J5 _ _ (Sq fun K6 J6=>?_)));refine fN _ rfl (fun hc=>?_) (fun hc=>?_)
  ·replace hc:=cB_ hc
   have hc:i<n:=by omega
   refine aG (J6 _ _ (Sq fun K7 J7=>aJ (Sq fun K8 J8=>Rk fun K J=>sE rfl (sE rfl (nl J (J8 _ _ (Sq fun K9 J9=>Rk fun K J=>sE rfl (sE rfl (sE rfl (sQ (j7 mI rfl rfl oo_ oo_) rfl (sQ (iA n9 rfl mm_ (DW oo_)) rfl ?_)))))))))));refine sQ (i7 nP kV rfl) rfl (sE rfl (sQ (aZ (pH rfl rfl) (congrArg (Value.int .u64) (qz_ hT.clt hd (iZ lv i)))) rfl (sE rfl (nl J (J9 _ _ (Sq fun K10 J10=>Rk fun K J=>sE rfl (sE rfl (sE rfl (sQ (aZ (pH rfl rfl) (congrArg (Value.int .i64) (xV oo_))) rfl (sE rfl (sQ (j7 CR rfl rfl oo_ oo_) rfl (sQ (iA n9 rfl mm_ (DW (by rw [hT.len];omega))) rfl ?_))))))))))));refine sQ (i7 nP kV rfl) rfl (sE rfl (sQ (aZ (i7 kV nP rfl) (yM _)) rfl (sQ (i7 nP kV rfl) rfl (sE rfl (sE rfl (sQ (aZ (x9 rfl rfl) (congrArg (Value.int .u64) (nU_ hT.ble (iZ hT.lim _) (Nat.mod_lt _ dd_)))) rfl (sE rfl (nl J (J10 _ _ (Sq fun K11 J11=>Rk fun K J=>sE rfl (sE rfl (sE rfl (sQ (aZ (pH rfl rfl) (congrArg (Value.int .i64) (xV oo_))) rfl (sE rfl (sQ (aZ (i7 kV nP rfl) (yM _)) rfl (sE rfl (sQ (j7 CR rfl rfl oo_ oo_) rfl ?_)))))))))))))))));refine bA rfl (w7 n9 rfl rfl uu_ (by rw [hT.len];omega) (by first | exact .inl (by assumption) | exact .inr (List.mem_singleton.2 rfl)) ?_);refine nl J (J11 _ _ (Sq fun K12 J12=>Rk fun K J=>sE rfl (sQ (aZ (E3 rfl rfl dd_) (congrArg (Value.int .u64) (A5 _ 63))) rfl (sE rfl (nl J (J12 _ _ (Rk fun K J=>sE rfl (sQ (aZ (E3 rfl rfl dd_) (congrArg (Value.int .u64) (A5 _ 32))) rfl (sE rfl (nl J (J7 _ _ (Rk fun K J=>sQ (aZ (pH rfl rfl) (congrArg (Value.int .i64) (rF oo_))) rfl (sE rfl (nl J ?_))))))))))))));refine ⟨pp_,_,_,(List.Sublist.refl _),oo_,i+1,_,_,_,⟨?s11,?s12,?s17⟩,?mem,rfl,⟨by omega,eP_ hT lv oo_ hd⟩⟩
   case mem=>rfl
   case s11=>rfl
   case s12=>rfl
   case s17=>rfl
  replace hc:=cB_ hc
  obtain rfl:n=i:=by omega
  refine dW (aU (aU (bJ (J3 _ _ (Sq fun K13 J13=>Rk fun K J=>sE rfl (sE rfl (sE rfl (sQ (aZ (pH rfl rfl) (congrArg (Value.int .i64) (xV oo_))) rfl (sE rfl (sQ (j7 CR rfl rfl oo_ oo_) rfl (sQ (iA n9 rfl mm_ (DW (by rw [hT.len];omega))) rfl ?_)))))))))));refine sQ (i7 nP kV rfl) rfl (sE rfl (sE rfl (sE rfl (sQ (aZ (x9 rfl rfl) (congrArg (Value.int .u64) (qx_ hT.ble (iZ hT.lim _) hT.clt))) rfl (sE rfl (nl J (J13 _ _ (Sq fun K14 J14=>Rk fun K J=>sE rfl (sE rfl (sE rfl (sQ (aZ (pH rfl rfl) (congrArg (Value.int .i64) (xV oo_))) rfl (sE rfl (sQ (aZ (i7 kV nP rfl) (yM _)) rfl (sE rfl (sQ (j7 CR rfl rfl oo_ oo_) rfl (bA rfl (w7 n9 rfl rfl uu_ (by rw [hT.len];omega) (by first | exact .inl (by assumption) | exact .inr (List.mem_singleton.2 rfl)) ?_)))))))))))))))));refine nl J (J14 _ _ (Sq fun K15 J15=>Rk fun K J=>sE rfl (sQ (aZ (E3 rfl rfl dd_) (congrArg (Value.int .u64) (A5 _ 63))) rfl (sE rfl (sE rfl (nl J (J15 _ _ (aL (cC rfl (.inr rfl) rfl ?_)))))))));exact ⟨(_,_),rfl,by first | exact .tail _ (.head _) | exact .head _,TakeIn.took hT oo_ hV lu hsm⟩

theorem XS (us vs:List Nat) (n j:Nat) (hu:us.length=17) (lu:Lim us) (hv:vs.length=16) (lv:Lim vs) (hV:val vs<4294967296 ^ n) (hjn:j+n≤16) (hsm:val us<4294967296 ^ (j+n+1)) (bu T:Nat) (w:World) (hbu:w.heap[bu]? = some (.cells (uw us).toArray T (0,0))) :
    Calls Tryz.prog 255 [.pointer (some ⟨bu,0,none⟩),UV vs,.int .i64 (n:Int),.int .i64 (j:Int)].toArray w (fun e w'=>∃ x:List Nat,e = .returned (.tuple #[])∧ExtX [bu] w w'∧w'.heap[bu]? = some (.cells (uw x).toArray T (0,0))∧Gave us (val vs) j n x):=by
 refine bW_ (N:=52) (g:=fun x:List Nat=>.tuple #[]) (cs':=fun x:List Nat=>uw x) (Q:=fun x:List Nat=>Gave us (val vs) j n x) Tryz.func255 rfl rfl (by simp) hbu ?_;obtain ⟨w0,rfl⟩:∃ w0,w0=w:=⟨_,rfl⟩;simp only [cS,Nat.reduceAdd];refine Sq fun K1 J1=>Rk fun K J=>bA rfl (qR rfl rfl (fun b5 hb5=>nl J (J1 _ _ (Sq fun K2 J2=>Rk fun K J=>sE rfl (nl J (J2 _ _ (Sq fun K3 J3=>Sq fun K4 J4=>Rk fun K J=>sE rfl (sE rfl (nl J (J4 _ _ (aJ ?_)))))))))));refine eA [8,9,11,12,13,14,15,16,17,18,19,20,21,22,23,24,25,26,27,28,29,30,31,32,33,34,35,36,37,38,39] (fun g nn M=>∃ (i:Nat) (l:List Nat) (c:Nat),(g 8 = .int .u64 (c:Int)∧g 11 = .int .i64 (i:Int))∧M=[⟨b5,29,uw vs⟩,⟨bu,T,uw l⟩]∧nn=n - i∧(i≤n∧GiveIn us (val vs) j i l c)) (n - 0) ?start ?round
 case start =>
  refine ⟨_,(List.Sublist.refl _),0,us,0,⟨?a8,?a11⟩,?mem0,rfl,⟨Nat.zero_le _,GiveIn.start hu lu _ _⟩⟩
  case mem0=>rfl
  case a8=>rfl
  case a11=>rfl
 case round =>
  rintro nn g M ⟨i,l,c,⟨hg8,hg11⟩,rfl,hmeas,⟨hi,hT⟩⟩;subst nn;simp only [dQ,hg8,hg11];clear hg8 hg11;refine Sq fun K5 J5=>Rk fun K J=>sE rfl (nl J (J5 _ _ (Sq fun K6 J6=>?_)));refine fN _ rfl (fun hc=>?_) (fun hc=>?_)
  ·replace hc:=cB_ hc
   have hc:i<n:=by omega
   refine aG (J6 _ _ (Sq fun K7 J7=>aJ (Sq fun K8 J8=>Rk fun K J=>sE rfl (sE rfl (nl J (J8 _ _ (Sq fun K9 J9=>dr (sk (sk (s0))) [0,4,8,12,16,20,24,28,32,36,40,44,48,52,56,60] [] mix (by kernel_rfl) (fun K J=>pE rfl (pE rfl (pE rfl (pE rfl (pQ rfl (aZ (pH rfl rfl) (congrArg (Value.int .i64) (xV oo_))) (pE rfl (pQ rfl (j7 CR rfl rfl oo_ oo_) (pQ rfl (iA n9 rfl mm_ (DW (by rw [hT.len];omega))) ?_)))))))))))))));refine pQ rfl (i7 nP kV rfl) (pE rfl (pQ rfl (j7 mI rfl rfl oo_ oo_) (pQ rfl (iA n9 rfl mm_ (DW oo_)) ?_)));refine pQ rfl (i7 nP kV rfl) (pE rfl (pQ rfl (aZ (pH rfl rfl) (congrArg (Value.int .u64) (pM_ hT.cle (iZ hT.lim _) (iZ lv i)))) (pE rfl (fl J (J9 _ _ (Sq fun K10 J10=>Rk fun K J=>sE rfl (sE rfl (sE rfl (sQ (aZ (pH rfl rfl) (congrArg (Value.int .i64) (xV oo_))) rfl (sE rfl (sQ (aZ (i7 kV nP rfl) (yM _)) rfl (sE rfl (sQ (j7 CR rfl rfl oo_ oo_) rfl (bA rfl (w7 n9 rfl rfl uu_ (by rw [hT.len];omega) (by first | exact .inl (by assumption) | exact .inr (List.mem_singleton.2 rfl)) ?_)))))))))))))));refine nl J (J10 _ _ (Rk fun K J=>sE rfl (sQ (aZ (E3 rfl rfl dd_) (congrArg (Value.int .u64) (A5 _ 32))) rfl (sE rfl (nl J (J7 _ _ (Rk fun K J=>sQ (aZ (pH rfl rfl) (congrArg (Value.int .i64) (rF oo_))) rfl (sE rfl (nl J ?_)))))))));refine ⟨pp_,_,_,(List.Sublist.refl _),oo_,i+1,_,_,⟨?s8,?s11⟩,?mem,rfl,⟨by omega,ed_ hT lv oo_⟩⟩
   case mem=>rfl
   case s8=>rfl
   case s11=>rfl
  replace hc:=cB_ hc
  obtain rfl:n=i:=by omega
  refine dW (aU (aU (bJ (J3 _ _ (dr (sk (sd (s0))) [0,4,8,12,16,20,24,28,32,36,40,44,49] [12] mix (by kernel_rfl) (fun K J=>pE rfl (pE rfl (pE rfl (pQ rfl (aZ (pH rfl rfl) (congrArg (Value.int .i64) (xV oo_))) (pE rfl (pQ rfl (j7 CR rfl rfl oo_ oo_) (pQ rfl (iA n9 rfl mm_ (DW (by rw [hT.len];omega))) ?_))))))))))));refine pE rfl (pQ rfl (i7 kV nP rfl) (pQ rfl (aZ (pH rfl rfl) (pL_ (iZ hT.lim _) hT.cle)) (pE rfl (pQ rfl (j7 CR rfl rfl oo_ oo_) ?_))));refine d7 rfl rfl (w7 n9 rfl rfl uu_ (by rw [hT.len];omega) (by first | exact .inl (by assumption) | exact .inr (List.mem_singleton.2 rfl)) ⟨nf,ss_,?_⟩);refine fl J (sK_ rfl (.inl rfl) ?_);exact ⟨_,rfl,by first | exact .tail _ (.head _) | exact .head _,GiveIn.gave hT oo_ hV lu hsm⟩
end Go.Proofs.YtkjjponijamaoaaGreatDoor

