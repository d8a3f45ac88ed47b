/- Lemmas: what they ask stands in their statements. -/
import Derived.Test.YtkjjponijamaoaaGreatDoorYWd
set_option linter.unusedSimpArgs false
set_option linter.unusedVariables false
set_option maxHeartbeats 8000000
set_option maxRecDepth 20000
namespace Go.Proofs.YtkjjponijamaoaaGreatDoor
open Go.Kn Go.Num
theorem GP (a:R) (ha:a.Ok) :
    Ret Tryz.prog 155 [RV a] (.int .i64 ((a.dec.bits:Nat):Int)):=by
 refine cM (N:=25) Tryz.func155 rfl rfl (by simp) (fun w0=>?_);simp only [cS,Nat.reduceAdd];refine Sq fun K1 J1=>Rk fun K J=>bA rfl (qR rfl rfl (fun b1 hb1=>sE rfl (nl J (J1 _ _ (Sq fun K2 J2=>Rk fun K J=>sQ (eX jY dd_ rfl) rfl (sQ (oZ (vs:=uw a.w) iJ rfl mm_ (t9 ha.len) ((nW _).trans ha.len)) rfl ?_))))));refine sQ (bZ PQ (xD a.w ha.len) rfl) rfl (sE rfl (nl J (J2 _ _ (Sq fun K3 J3=>Sq fun K4 J4=>Rk fun K J=>sQ (eG aD rfl mm_ (eO ha)) rfl ?_))));refine bA rfl (pW oV oM pX rfl dd_ rfl (F8 ha) (fun b8 hb8=>sQ (dA BH rfl (fun w hw=>oE [a] (ok1 ha) b8 31 w (hw.mem _ m0) (by simp))) rfl ?_));refine sE rfl (sE rfl ?_)
 cases hg:[a].all R.good
 ·refine aI rfl (aI rfl (sE rfl (nl J (J4 _ _ (dE rfl (Sq fun K5 J5=>Rk fun K J=>sE rfl (nl J (J5 _ _ (aL (aB (cC rfl (.inr rfl) rfl ?_)))))))))));exact congrArg (fun n:Nat=>Value.int .i64 (n:Int)) (h5_ (by simpa using hg))
 refine sE rfl (sE rfl (sE rfl (nl J (J4 _ _ ?_))));refine fN _ rfl (fun hz=>?_) (fun hz=>?_)
 ·replace hz:=cB_ hz
  refine Sq fun K6 J6=>Rk fun K J=>sE rfl (nl J (J6 _ _ (aL (aB (cC rfl (.inr rfl) rfl ?_)))));exact congrArg (fun n:Nat=>Value.int .i64 (n:Int)) (gA_ ha (by simpa using hg) oo_)
 replace hz:=cB_ hz
 refine aG (J3 _ _ (Sq fun K7 J7=>?_))
 have hs1:1≤szL a.w:=by omega
 have hs16:szL a.w≤16:=by have:=FD a.w;rw [ha.len] at this;exact this
 refine Rk fun K J=>sE rfl (sQ (aZ (x9 rfl rfl) (congrArg (Value.int .i64) (DS (b:=1) rfl oo_ oo_))) rfl (sQ (aZ (fS_ rfl rfl) (congrArg (Value.int .i64) (rE_ rfl oo_))) rfl (sE rfl (sQ (aZ (x9 rfl rfl) (congrArg (Value.int .i64) (DS (b:=1) rfl oo_ oo_))) rfl (sQ (eX jY dd_ rfl) rfl (sQ (j7 mI rfl rfl oo_ oo_) rfl (sQ (iA n9 rfl mm_ (wA (r:=a) (k:=szL a.w - 1) (by rw [ha.len];omega))) rfl ?_)))))));refine sQ (bZ iQ_ (Y2 _ (iZ ha.lim _)) rfl) rfl (sQ (aZ (pH rfl rfl) (congrArg (Value.int .i64) (xV (by have:=FZ (k:=32) (iZ ha.lim (szL a.w - 1));omega)))) rfl (sE rfl (nl J (J7 _ _ (aL (cC rfl (.inr rfl) rfl ?_))))));exact congrArg (fun n:Nat=>Value.int .i64 (n:Int)) (h7_ ha (by simpa using hg) hs1)

theorem zQ (a:R) (ha:a.Ok) :
    Ret Tryz.prog 156 [RV a] (.tuple #[.int .i64 a.dec.small.1,.bool a.dec.small.2]):=by
 refine cM (N:=44) Tryz.func156 rfl rfl (by simp) (fun w0=>?_);simp only [cS,Nat.reduceAdd];refine Sq fun K1 J1=>Rk fun K J=>bA rfl (qR rfl rfl (fun b1 hb1=>sE rfl (sE rfl (nl J (J1 _ _ (Sq fun K2 J2=>Sq fun K3 J3=>Rk fun K J=>sQ (eG aD rfl mm_ (eO ha)) rfl ?_))))));refine bA rfl (pW oV oM pX rfl dd_ rfl (F8 ha) (fun b6 hb6=>sQ (dA BH rfl (fun w hw=>oE [a] (ok1 ha) b6 31 w (hw.mem _ m0) (by simp))) rfl ?_));refine sE rfl (sE rfl ?_)
 cases hg:[a].all R.good
 ·refine aI rfl (aI rfl (aI rfl (sE rfl (nl J (J3 _ _ (dE rfl (Sq fun K4 J4=>Rk fun K J=>sE rfl (sE rfl (nl J (J4 _ _ (aL (aB (o6 rfl (.inr rfl) rfl rfl ?_)))))))))))));exact ZG (by simpa using hg)
 refine sQ (eG aD rfl mm_ (eO ha)) rfl ?_;refine sQ (bZ dS_ (GP a ha) rfl) rfl (sE rfl (sE rfl (nl J (J3 _ _ ?_))));refine fN _ rfl (fun hb=>?_) (fun hb=>?_)
 ·replace hb:=cB_ hb
  refine Sq fun K5 J5=>Rk fun K J=>sE rfl (sE rfl (nl J (J5 _ _ (aL (aB (o6 rfl (.inr rfl) rfl rfl ?_))))));exact eL_ ha (by simpa using hg) hb
 replace hb:=cB_ hb
 have h64:=om_ ha (by simpa using hg) hb;refine aG (J2 _ _ (Sq fun K6 J6=>Rk fun K J=>sQ (eX jY dd_ rfl) rfl (sQ (j7 mI rfl rfl dd_ dd_) rfl (sQ (iA n9 rfl mm_ (wA (r:=a) (k:=1) (by rw [ha.len];omega))) rfl ?_))));refine sQ (aZ (i7 nP kV rfl) (GL (iZ ha.lim _))) rfl (sQ (aZ (LX rfl rfl dd_) (congrArg (Value.int .u64) (HI (iZ ha.lim _)))) rfl (sQ (eX jY dd_ rfl) rfl (sQ (j7 mI rfl rfl dd_ dd_) rfl (sQ (iA n9 rfl mm_ (wA (r:=a) (k:=0) (by rw [ha.len];omega))) rfl ?_))));refine sQ (aZ (i7 nP kV rfl) (GL (iZ ha.lim _))) rfl (sQ (aZ (a2_ rfl rfl) (congrArg (Value.int .u64) ((cL_ (iZ ha.lim _) (iZ ha.lim _)).trans (congrArg (fun m:Nat=>(m:Int)) (LG ha h64))))) rfl (sE rfl (nl J (J6 _ _ (Sq fun K7 J7=>aJ (Sq fun K8 J8=>Rk fun K J=>sQ (eX jC dd_ rfl) rfl (sQ (iA mF rfl mm_ rfl) rfl ?_)))))));refine sE rfl ?_
 cases hn:a.neg
 ·refine aI rfl (aI rfl (sE rfl (sE rfl (nl J (J8 _ _ (gJ rfl (Sq fun K9 J9=>Rk fun K J=>sQ (eX jC dd_ rfl) rfl (sQ (iA mF rfl mm_ rfl) rfl ?_))))))));refine sE rfl ?_;rw [hn];refine sE rfl (sE rfl (sE rfl (sE rfl (sE rfl (nl J (J9 _ _ ?_))))));refine fN _ rfl (fun hlt=>?_) (fun hlt=>?_)
  ·replace hlt:=cB_ hlt
   refine Sq fun K10 J10=>Rk fun K J=>sE rfl (sQ (aZ (i7 kV OW rfl) (congrArg (Value.int .i64) (hk_ oo_))) rfl (sE rfl (sE rfl (nl J (J10 _ _ (aL (aT (aB (o6 rfl (.inr rfl) rfl rfl ?_)))))))));exact RA ha (by simpa using hg) (by rw [hn];rfl) (by rw [hn,BD];omega)
  replace hlt:=cB_ hlt
  refine aG (J7 _ _ (Sq fun K11 J11=>Rk fun K J=>sE rfl (sE rfl (nl J (J11 _ _ (aL (o6 rfl (.inr rfl) rfl rfl ?_)))))));exact JK ha (by simpa using hg) (by rw [hn,BD];omega)
 refine sE rfl (sE rfl (sE rfl (sE rfl (nl J (J8 _ _ ?_)))));refine fN _ rfl (fun hle=>?_) (fun hle=>?_)
 ·replace hle:=cB_ hle
  refine Sq fun K12 J12=>Rk fun K J=>sE rfl (sE rfl (sQ (aZ (i7 kV OW rfl) (congrArg (Value.int .i64) (hh_ oo_))) rfl (sE rfl (sE rfl (nl J (J12 _ _ (aL (aT (aB (o6 rfl (.inr rfl) rfl rfl ?_))))))))));exact RA ha (by simpa using hg) (by rw [hn];rfl) (by rw [hn,BO];omega)
 replace hle:=cB_ hle
 refine Sq fun K13 J13=>Rk fun K J=>sQ (eX jC dd_ rfl) rfl (sQ (iA mF rfl mm_ rfl) rfl ?_);refine sE rfl ?_;rw [hn];refine sE rfl (aI rfl (aI rfl (sE rfl (sE rfl (nl J (J13 _ _ (gJ rfl (aG (J7 _ _ (Sq fun K14 J14=>Rk fun K J=>sE rfl (sE rfl (nl J (J14 _ _ (aL (o6 rfl (.inr rfl) rfl rfl ?_)))))))))))))));exact JK ha (by simpa using hg) (by rw [hn,BO];omega)

theorem HL (a b:R) (ha:a.Ok) (hb:b.Ok) :
    Ret Tryz.prog 183 [RV a,RV b] (.tuple #[RV (Z.quo a.dec b.dec).enc,RV (Z.rem a.dec b.dec).enc]):=by
 refine cM (N:=108) Tryz.func183 rfl rfl (by simp) (fun w0=>?_);simp only [cS,Nat.reduceAdd];refine Sq fun K1 J1=>Rk fun K J=>bA rfl (qR rfl rfl (fun b2 hb2=>bA rfl (qR rfl rfl (fun b3 hb3=>bA rfl (i1 oM (fun b4 hb4=>bA rfl (i1 oM (fun b5 hb5=>nl J (J1 _ _ (Sq fun K2 J2=>Sq fun K3 J3=>Rk fun K J=>sQ (eG aD rfl mm_ (eO ha)) rfl ?_))))))))));refine sQ (eG aD rfl mm_ (eO hb)) rfl ?_;refine bA rfl (pW oV oM pX rfl dd_ rfl (aF_ ha hb) (fun b17 hb17=>sQ (dA BH rfl (fun w hw=>oE [a,b] (ok2 ha hb) b17 31 w (hw.mem _ m0) (by simp))) rfl ?_));refine sE rfl (sE rfl ?_)
 cases hg:[a,b].all R.good
 ·refine aI rfl (aI rfl (aI rfl (sE rfl (nl J (J3 _ _ (dE rfl (Sq fun K4 J4=>Rk fun K J=>sQ (bZ BB kO rfl) rfl (sQ (bZ BB kO rfl) rfl (bA rfl (dX aD rfl rfl uu_ (aS _) rfl (dL _) (.inl (by assumption)) ?_))))))))));refine bA rfl (dX aD rfl rfl uu_ (aS _) rfl (dL _) (.inl (by assumption)) ?_);refine nl J (J4 _ _ (aL (aB (o6 rfl (.inr rfl) ⟨_,_,_,_,_,_,rfl,mm_,aD,_,(gS (aS _)),(aS _),rfl⟩ ⟨_,_,_,_,_,_,rfl,mm_,aD,_,(gS (aS _)),(aS _),rfl⟩ ?_))));exact mt_ (QY hg)
 have hg:=all2.1 hg;refine sQ (eG aD rfl mm_ (eO hb)) rfl ?_;refine sQ (bZ C0 (k9 b hb) rfl) rfl (sE rfl (sE rfl (nl J (J3 _ _ ?_))));refine fN _ rfl (fun hs0=>?_) (fun hs0=>?_)
 ·replace hs0:=cB_ hs0
  refine Sq fun K5 J5=>Rk fun K J=>sQ (bZ BB kO rfl) rfl (sQ (bZ BB kO rfl) rfl (bA rfl (dX aD rfl rfl uu_ (aS _) rfl (dL _) (.inl (by assumption)) ?_)));refine bA rfl (dX aD rfl rfl uu_ (aS _) rfl (dL _) (.inl (by assumption)) ?_);refine nl J (J5 _ _ (aL (aB (o6 rfl (.inr rfl) ⟨_,_,_,_,_,_,rfl,mm_,aD,_,(gS (aS _)),(aS _),rfl⟩ ⟨_,_,_,_,_,_,rfl,mm_,aD,_,(gS (aS _)),(aS _),rfl⟩ ?_))));exact ku_ ha hb hg.1 hg.2 hs0
 replace hs0:=cB_ hs0
 have hs0:b.dec.sign≠0:=hs0;have hp:=MA hb hg.2 hs0;refine aG (J2 _ _ ?_);refine dH [6,7,8,9,10,11,27,28,29,30,31,32,33,34,35,36,37,38,39,40,41,42,43,44,45,46,47,48,49,50,51,52,53,54,55,56,57,58,59,60,61,62,63,64,65,66,67,68,69,70] (fun g M=>(True)∧M=[⟨b5,31,zR⟩,⟨b4,31,zR⟩,⟨b3,31,b.cells⟩,⟨b2,31,a.cells⟩]∧(True)) (fun K6 J6=>?_) ?_
 ·refine Sq fun K7 J7=>Rk fun K J=>sQ (eG aD rfl mm_ (eO ha)) rfl ?_;refine sQ (bZ VI (zQ a ha) rfl) rfl (sE rfl (sE rfl (sE rfl (sE rfl (sE rfl (nl J (J7 _ _ (Sq fun K8 J8=>Rk fun K J=>sE rfl (sE rfl ?_)))))))))
  cases hsa:a.dec.small.2
  ·refine aI rfl (aI rfl (sE rfl (nl J (J8 _ _ (gJ rfl (aG ?_))))));refine J6 _ _ pp_ ⟨_,(List.Sublist.cons _ (List.Sublist.refl _)),trivial,?mem,trivial⟩
   case mem=>rfl
  refine sE rfl (sE rfl (sE rfl (nl J (J8 _ _ ?_))));refine fN _ rfl (fun hma=>?_) (fun hma=>?_)
  ·replace hma:=cB_ hma
   have ea:=W4 hsa;refine Sq fun K9 J9=>Rk fun K J=>sQ (eG aD rfl mm_ (eO hb)) rfl ?_;refine sQ (bZ VI (zQ b hb) rfl) rfl (sE rfl (sE rfl (sE rfl (sE rfl (sE rfl (nl J (J9 _ _ (Sq fun K10 J10=>Rk fun K J=>sE rfl (sE rfl ?_)))))))))
   cases hsb:b.dec.small.2
   ·refine aI rfl (aI rfl (sE rfl (nl J (J10 _ _ (gJ rfl (aG ?_))))));refine J6 _ _ pp_ ⟨_,(List.Sublist.cons _ (List.Sublist.refl _)),trivial,?mem,trivial⟩
    case mem=>rfl
   refine sE rfl (sE rfl (sE rfl (nl J (J10 _ _ ?_))));refine fN _ rfl (fun hmb=>?_) (fun hmb=>?_)
   ·replace hmb:=cB_ hmb
    have eb:=W4 hsb;have hy0:=bg_ eb.1 hs0;have hq64:I64 (a.dec.small.1.tdiv b.dec.small.1):=eA_ ea.2 hma;have hr64:=qh_ (x:=a.dec.small.1) hy0 eb.2;refine Sq fun K11 J11=>dr (sk (sk (sk (sk (sk (s0)))))) [0,4,8,12,16,20,24,28] [] mix (by kernel_rfl) (fun K J=>pE rfl (pE rfl (pQ rfl (aZ (rA rfl rfl hy0) (congrArg (Value.int .i64) (eM (eA_ ea.2 hma)))) (pE rfl (pE rfl (pQ rfl (w6 rfl rfl hy0) (pE rfl (pE rfl (fl J (J11 _ _ (Sq fun K12 J12=>Sq fun K13 J13=>Rk fun K J=>sE rfl (sE rfl (sE rfl ?_)))))))))))))
    cases hr0:(a.dec.small.1.tmod b.dec.small.1 != 0)
    ·refine aI rfl (aI rfl (aI rfl (aI rfl (aI rfl (sE rfl (nl J (J13 _ _ (gJ rfl (aG (J12 _ _ (Sq fun K14 J14=>Rk fun K J=>sE rfl (sQ (bZ sY (fK _ (by first | exact hI1 | exact hq64)) rfl) rfl ?_))))))))))));refine sE rfl (sQ (bZ sY (fK _ (by first | exact hI2 | exact hr64)) rfl) rfl ?_);refine bA rfl (dX aD rfl rfl uu_ (aS _) rfl (dL _) (.inl (by assumption)) ?_);refine bA rfl (dX aD rfl rfl uu_ (aS _) rfl (dL _) (.inl (by assumption)) ?_);refine nl J (J14 _ _ (aL (aB (o6 rfl (.inr rfl) ⟨_,_,_,_,_,_,rfl,mm_,aD,_,(gS (aS _)),(aS _),rfl⟩ ⟨_,_,_,_,_,_,rfl,mm_,aD,_,(gS (aS _)),(aS _),rfl⟩ ?_))));exact SG ea.1 eb.1 hs0 (QU hy0 (.inl (by simpa using hr0)))
    refine sE rfl (sE rfl (sE rfl (sE rfl (sQ (EH GS rfl rfl) rfl (sE rfl (nl J (J13 _ _ ?_)))))));refine fN _ rfl (fun hsg=>?_) (fun hsg=>?_)
    ·replace hsg:=cB_ hsg
     have hI1:I64 (a.dec.small.1.tdiv b.dec.small.1 - 1):=kr_ ea.2 hma;have hI2:=qi_ hy0 eb.2 (bne_iff_ne.2 hsg);refine Rk fun K J=>sE rfl (sQ (aZ (x9 rfl rfl) (congrArg (Value.int .i64) (eM hI1))) rfl (sE rfl (sE rfl (sQ (aZ (pH rfl rfl) (congrArg (Value.int .i64) (eM hI2))) rfl (sE rfl (sE rfl (nl J (J12 _ _ (Sq fun K15 J15=>Rk fun K J=>sE rfl (sQ (bZ sY (fK _ (by first | exact hI1 | exact hq64)) rfl) rfl ?_))))))))));refine sE rfl (sQ (bZ sY (fK _ (by first | exact hI2 | exact hr64)) rfl) rfl ?_);refine bA rfl (dX aD rfl rfl uu_ (aS _) rfl (dL _) (.inl (by assumption)) ?_);refine bA rfl (dX aD rfl rfl uu_ (aS _) rfl (dL _) (.inl (by assumption)) ?_);refine nl J (J15 _ _ (aL (aB (o6 rfl (.inr rfl) ⟨_,_,_,_,_,_,rfl,mm_,aD,_,(gS (aS _)),(aS _),rfl⟩ ⟨_,_,_,_,_,_,rfl,mm_,aD,_,(gS (aS _)),(aS _),rfl⟩ ?_))));exact SG ea.1 eb.1 hs0 (d8_ hy0 (by simpa using hr0) (bne_iff_ne.2 hsg))
    replace hsg:=cB_ hsg
    refine aG (J12 _ _ (Sq fun K16 J16=>Rk fun K J=>sE rfl (sQ (bZ sY (fK _ (by first | exact hI1 | exact hq64)) rfl) rfl ?_)));refine sE rfl (sQ (bZ sY (fK _ (by first | exact hI2 | exact hr64)) rfl) rfl ?_);refine bA rfl (dX aD rfl rfl uu_ (aS _) rfl (dL _) (.inl (by assumption)) ?_);refine bA rfl (dX aD rfl rfl uu_ (aS _) rfl (dL _) (.inl (by assumption)) ?_);refine nl J (J16 _ _ (aL (aB (o6 rfl (.inr rfl) ⟨_,_,_,_,_,_,rfl,mm_,aD,_,(gS (aS _)),(aS _),rfl⟩ ⟨_,_,_,_,_,_,rfl,mm_,aD,_,(gS (aS _)),(aS _),rfl⟩ ?_))));exact SG ea.1 eb.1 hs0 (QU hy0 (.inr (by simpa using hsg)))
   replace hmb:=cB_ hmb
   refine aG ?_;refine J6 _ _ pp_ ⟨_,(List.Sublist.cons _ (List.Sublist.refl _)),trivial,?mem,trivial⟩
   case mem=>rfl
  replace hma:=cB_ hma
  refine aG ?_;refine J6 _ _ pp_ ⟨_,(List.Sublist.cons _ (List.Sublist.refl _)),trivial,?mem,trivial⟩
  case mem=>rfl
 rintro g M ⟨-,rfl,-⟩;simp only [dQ];refine Sq fun K17 J17=>Rk fun K J=>sQ (eX jY dd_ rfl) rfl (sQ (oZ (vs:=uw a.w) iJ rfl mm_ (t9 ha.len) ((nW _).trans ha.len)) rfl ?_);refine sQ (eX jY dd_ rfl) rfl (sQ (oZ (vs:=uw b.w) iJ rfl mm_ (t9 hb.len) ((nW _).trans hb.len)) rfl ?_);refine sQ (bZ d1_ (B4 a.w b.w ha.len hb.len ha.lim hb.lim hp) rfl) rfl (sE rfl (sE rfl (sE rfl (bA rfl (i1 y6 (fun b12 hb12=>bA rfl (i1 y6 (fun b13 hb13=>bA rfl (dX iJ rfl rfl uu_ (by simp [uw,fT]) (by simp [uw]) (oQ _) (.inl (by assumption)) ?_)))))))));refine bA rfl (dX iJ rfl rfl uu_ (by simp [uw,fT]) (by simp [uw]) (oQ _) (.inl (by assumption)) ?_);refine nl J (J17 _ _ (Sq fun K18 J18=>Rk fun K J=>sQ (eX jC dd_ rfl) rfl (sQ (iA mF rfl mm_ rfl) rfl ?_)));refine sQ (eX jC dd_ rfl) rfl (sQ (iA mF rfl mm_ rfl) rfl ?_);refine sQ (EH GS rfl rfl) rfl (sQ (eG iJ rfl mm_ (by simp [uw,fT])) rfl ?_);refine sQ (aZ (bZ zY (kA (a.neg != b.neg) _ (fT _ _) (uP _ _)) rfl) (congrArg RV (wY _ (kt_ ha)))) rfl (bA rfl (i1 oM (fun b14 hb14=>bA rfl (dX aD rfl rfl uu_ (aS _) rfl (dL _) (.inl (by assumption)) ?_))));refine nl J (J18 _ _ ?_);refine dH [86,87,88,89,90,91,92,93,94,95,96,97,98,99,100,101,102] (fun g M=>∃ (z:Z) (l:List Nat),(True)∧M=[⟨b14,31,z.enc.cells⟩,⟨b13,29,uw l⟩,⟨b12,29,uw (toL 16 (val a.w / val b.w))⟩,⟨b5,31,zR⟩,⟨b4,31,zR⟩,⟨b3,31,b.cells⟩,⟨b2,31,a.cells⟩]∧(l.length=16∧Lim l∧z=Z.quo a.dec b.dec∧R.mk false (b.neg && !(val l==0)) l=(Z.rem a.dec b.dec).enc)) (fun K19 J19=>?_) ?_
 ·refine Sq fun K20 J20=>Rk fun K J=>sQ (eG iJ rfl mm_ (by simp [uw,fT])) rfl ?_;refine sQ (yU y6 mI rfl (.nil _)) rfl ?_;refine sQ (EG (r:=(val a.w % val b.w==0)) rfl rfl (kR 8 dd_ VE WD (xC (fT _ _)) (xC (by simp)) (kx_ ha))) rfl ?_;refine sE rfl ?_
  cases hr1:(val a.w % val b.w==0)
  ·refine sQ (eX jC dd_ rfl) rfl (sQ (iA mF rfl mm_ rfl) rfl ?_);refine sQ (eX jC dd_ rfl) rfl (sQ (iA mF rfl mm_ rfl) rfl ?_);refine sQ (EH GS rfl rfl) rfl (sE rfl (nl J (J20 _ _ ?_)));refine fN _ rfl (fun hne=>?_) (fun hne=>?_)
   ·replace hne:=cB_ hne
    refine dr (sd (sd (sk (sk (sk (sk (sk (s0)))))))) [0,4,8,12,16,20,24,29,33] [7,8] mix (by kernel_rfl) (fun K J=>pQ rfl (eG aD rfl mm_ (aS _)) ?_);refine pQ rfl (bZ sY (fK 1 (by unfold I64;decide)) rfl) (pQ rfl (bZ fj_ (EX (Z.of (sgn (a.neg != b.neg) (val a.w / val b.w))).enc (Z.of 1).enc (Z.enc_ok _) (Z.enc_ok _)) rfl) (pQ rfl (eX jY dd_ rfl) (pQ rfl (oZ (vs:=uw b.w) iJ rfl mm_ (t9 hb.len) ((nW _).trans hb.len)) ?_)));refine pQ rfl (eG iJ rfl mm_ (by simp [uw,fT])) ?_;refine pQ rfl (bZ dM_ (FE b.w _ hb.len (fT _ _) hb.lim (uP _ _) (qk_ ha hp)) rfl) ?_;refine d7 rfl rfl (dX aD rfl rfl uu_ (aS _) (aS _) (dL _) (.inl (by assumption)) ⟨nf,ss_,?_⟩);refine d7 rfl rfl (dX iJ rfl rfl uu_ (by simp [uw,fT]) (by simp [uw,fT]) (oQ _) (.inl (by assumption)) ⟨nf,ss_,?_⟩);refine fl J ?_;refine J19 _ _ pp_ ⟨_,(List.Sublist.refl _),_,_,trivial,?mem,lP_ ha hb hg.1 hg.2 hp (by simpa using hr1) hne⟩
    case mem=>rfl
   replace hne:=cB_ hne
   refine aG ?_;refine J19 _ _ pp_ ⟨_,(List.Sublist.refl _),_,_,trivial,?mem,b6_ ha hb hg.1 hg.2 hp (.inr (by simpa using hne))⟩
   case mem=>rfl
  refine aI rfl (aI rfl (aI rfl (aI rfl (aI rfl (sE rfl (nl J (J20 _ _ (gJ rfl (aG ?_)))))))));refine J19 _ _ pp_ ⟨_,(List.Sublist.refl _),_,_,trivial,?mem,b6_ ha hb hg.1 hg.2 hp (.inl (by simpa using hr1))⟩
  case mem=>rfl
 rintro g M ⟨z,l,-,rfl,⟨hl16,hlim,hzq,hzr⟩⟩;simp only [dQ];refine Sq fun K21 J21=>dr (sk (sk (sk (sd (sd (sk (sk (s0)))))))) [0,4,8,12,16,21,25] [5,6] mix (by kernel_rfl) (fun K J=>pQ rfl (eG aD rfl mm_ (aS _)) ?_);refine pQ rfl (eX jC dd_ rfl) (pQ rfl (iA mF rfl mm_ rfl) ?_);refine pQ rfl (eG iJ rfl mm_ (by rw [nW,hl16])) ?_;refine pQ rfl (bZ zY (kA b.neg l hl16 hlim) rfl) ?_;refine d7 rfl rfl (dX aD rfl rfl uu_ (aS _) rfl (dL _) (.inl (by assumption)) ⟨nf,ss_,?_⟩);refine d7 rfl rfl (dX aD rfl rfl uu_ (o5 hl16) rfl (dL _) (.inl (by assumption)) ⟨nf,ss_,?_⟩);refine fl J (J21 _ _ (aL (o6 rfl (.inr rfl) ⟨_,_,_,_,_,_,rfl,mm_,aD,_,(gS (aS _)),(aS _),rfl⟩ ⟨_,_,_,_,_,_,rfl,mm_,aD,_,(gS (o5 hl16)),(o5 hl16),rfl⟩ ?_)))
 (subst hzq;exact congrArg (fun r:R=>Value.tuple #[RV (Z.quo a.dec b.dec).enc,RV r]) hzr)

theorem mH (a b:R) (ha:a.Ok) (hb:b.Ok) :
    Ret Tryz.prog 103 [RV a,RV b] (RV (Z.quo a.dec b.dec).enc):=by
 refine cM (N:=14) Tryz.func103 rfl rfl (by simp) (fun w0=>?_);simp only [cS,Nat.reduceAdd];refine Sq fun K1 J1=>Rk fun K J=>bA rfl (qR rfl rfl (fun b2 hb2=>bA rfl (qR rfl rfl (fun b3 hb3=>bA rfl (i1 oM (fun b4 hb4=>nl J (J1 _ _ (Sq fun K2 J2=>Rk fun K J=>sQ (eG aD rfl mm_ (eO ha)) rfl ?_))))))));refine sQ (eG aD rfl mm_ (eO hb)) rfl ?_;refine sQ (bZ iE_ (HL a b ha hb) rfl) rfl (sE rfl (sE rfl (sE rfl (bA rfl (i1 oM (fun b5 hb5=>bA rfl (i1 oM (fun b6 hb6=>bA rfl (dX aD rfl rfl uu_ (aS _) rfl (dL _) (.inl (by assumption)) ?_)))))))));refine bA rfl (dX aD rfl rfl uu_ (aS _) rfl (dL _) (.inl (by assumption)) ?_);refine nl J (J2 _ _ (Sq fun K3 J3=>Rk fun K J=>sQ (eG aD rfl mm_ (aS _)) rfl ?_));refine bA rfl (dX aD rfl rfl uu_ (aS _) rfl (dL _) (.inl (by assumption)) ?_);refine nl J (J3 _ _ (aL (cC rfl (.inr rfl) ⟨_,_,_,_,_,_,rfl,mm_,aD,_,(gS (aS _)),(aS _),rfl⟩ ?_)));exact rfl

theorem PD (a b:R) (ha:a.Ok) (hb:b.Ok) :
    Ret Tryz.prog 132 [RV a,RV b] (.int .i64 (Z.cmp a.dec b.dec)):=by
 refine cM (N:=47) Tryz.func132 rfl rfl (by simp) (fun w0=>?_);simp only [cS,Nat.reduceAdd];refine Sq fun K1 J1=>Rk fun K J=>bA rfl (qR rfl rfl (fun b2 hb2=>bA rfl (qR rfl rfl (fun b3 hb3=>sE rfl (nl J (J1 _ _ (Sq fun K2 J2=>MX (sk (sk (s0))) (.quiet 0 [1,2,5,6,7] (.quiet 3 [4,5,6,7] (.both 1 (.quiet 2 [5,6,7] (.only 4 (.quiet 5 [6,7] (.quiet 6 [7] (.quiet 7 [] (.fin)))))) 4 (.only 1 (.quiet 2 [5,6,7] (.quiet 5 [6,7] (.quiet 6 [7] (.quiet 7 [] (.fin))))))))) [0,1,2,3,4,5,6,7] mix (by kernel_rfl) (by kernel_rfl) (fun K J=>pQ rfl (eG aD rfl mm_ (eO ha)) ?_))))))));refine pQ rfl (eG aD rfl mm_ (eO hb)) ?_;refine EZ ?_ ?_
 ·refine d7 rfl rfl (pW oV oM pX rfl dd_ rfl (F8 ha) (fun b8 hb8=>⟨(fun _=>by first | exact sd s0 | exact s0),ss_,?_⟩));refine pQ rfl (dA BH rfl (fun w hw=>oE [a] (ok1 ha) b8 31 w (hw.mem ⟨b8,31,_⟩ (by first | exact m0 | exact m1)) (by simp))) ?_;refine d7 rfl rfl (pW oV oM pX rfl dd_ rfl (F8 hb) (fun b11 hb11=>⟨(fun _=>by first | exact sd s0 | exact s0),ss_,?_⟩));refine pQ rfl (dA BH rfl (fun w hw=>oE [b] (ok1 hb) b11 31 w (hw.mem ⟨b11,31,_⟩ (by first | exact m0 | exact m1)) (by simp))) ?_;refine pE rfl (pE rfl (fl J (J2 _ _ (Sq fun K3 J3=>aJ (Sq fun K4 J4=>Rk fun K J=>sE rfl (sE rfl (sE rfl ?_)))))))
  cases hga:[a].all R.good
  ·refine sE rfl (sE rfl (sE rfl (sE rfl (nl J (J4 _ _ ?_)))));refine fN _ rfl (fun hgb=>?_) (fun hgb=>?_)
   ·replace hgb:=cB_ hgb
    refine Sq fun K5 J5=>Rk fun K J=>sE rfl (nl J (J5 _ _ (aL (aT (aB (cC rfl (.inr rfl) rfl ?_))))));exact congrArg _ (dF_ (by simpa using hga) (by simpa using hgb))
   replace hgb:=cB_ hgb
   refine Sq fun K6 J6=>Rk fun K J=>sE rfl (sE rfl (sE rfl (nl J (J6 _ _ (dE rfl (Sq fun K7 J7=>Rk fun K J=>sE rfl (nl J (J7 _ _ (aL (aT (aB (cC rfl (.inr rfl) rfl ?_))))))))))));exact congrArg _ (dG_ (by simpa using hga) hb (by simpa using hgb))
  refine aI rfl (aI rfl (sE rfl (sE rfl (nl J (J4 _ _ (gJ rfl (Sq fun K8 J8=>Rk fun K J=>sE rfl (sE rfl (sE rfl (nl J (J8 _ _ (gJ rfl (Sq fun K9 J9=>Rk fun K J=>sE rfl (sE rfl (sE rfl ?_)))))))))))))));refine nl J (J9 _ _ ?_);refine fN _ rfl (fun hgb=>?_) (fun hgb=>?_)
  ·replace hgb:=cB_ hgb
   refine Sq fun K10 J10=>Rk fun K J=>sE rfl (nl J (J10 _ _ (aL (aT (aB (cC rfl (.inr rfl) rfl ?_))))));exact congrArg _ (dH_ ha (by simpa using hga) (by simpa using hgb))
  replace hgb:=cB_ hgb
  refine Sq fun K11 J11=>Rk fun K J=>sQ (eX jC dd_ rfl) rfl (sQ (iA mF rfl mm_ rfl) rfl ?_);refine sQ (eX jC dd_ rfl) rfl (sQ (iA mF rfl mm_ rfl) rfl ?_);refine sQ (EH GS rfl rfl) rfl (sE rfl (nl J (J11 _ _ ?_)));refine fN _ rfl (fun hn=>?_) (fun hn=>?_)
  ·replace hn:=cB_ hn
   refine Sq fun K12 J12=>Sq fun K13 J13=>Rk fun K J=>sQ (eX jC dd_ rfl) rfl (sQ (iA mF rfl mm_ rfl) rfl ?_);refine nl J (J13 _ _ ?_);refine fN _ rfl (fun hs=>?_) (fun hs=>?_)
   ·replace hs:=cB_ hs
    refine Sq fun K14 J14=>Rk fun K J=>sE rfl (nl J (J14 _ _ (aL (aB (aT (aB (cC rfl (.inr rfl) rfl ?_)))))));exact congrArg _ (id_ ha hb (by simpa using hga) (by simpa using hgb) hn hs)
   replace hs:=cB_ hs
   refine aG (J12 _ _ (Sq fun K15 J15=>Rk fun K J=>sE rfl (nl J (J15 _ _ (aL (aT (aB (cC rfl (.inr rfl) rfl ?_))))))));exact congrArg _ (ic_ ha hb (by simpa using hga) (by simpa using hgb) hn (by simpa using hs))
  replace hn:=cB_ hn
  refine Sq fun K16 J16=>Rk fun K J=>sQ (eX jC dd_ rfl) rfl (sQ (iA mF rfl mm_ rfl) rfl ?_);refine sE rfl (nl J (J16 _ _ ?_));refine fN _ rfl (fun hs=>?_) (fun hs=>?_)
  ·replace hs:=cB_ hs
   refine Sq fun K17 J17=>Rk fun K J=>sQ (eX jY dd_ rfl) rfl (sQ (oZ (vs:=uw b.w) iJ rfl mm_ (t9 hb.len) ((nW _).trans hb.len)) rfl ?_);refine sQ (eX jY dd_ rfl) rfl (sQ (oZ (vs:=uw a.w) iJ rfl mm_ (t9 ha.len) ((nW _).trans ha.len)) rfl ?_);refine sQ (bZ RU (xR b.w a.w hb.len ha.len hb.lim ha.lim) rfl) rfl (sE rfl (nl J (J17 _ _ (aL (aT (aB (cC rfl (.inr rfl) rfl ?_)))))));exact congrArg _ (ie_ ha hb (by simpa using hga) (by simpa using hgb) hn hs)
  replace hs:=cB_ hs
  refine aG (J3 _ _ (Sq fun K18 J18=>Rk fun K J=>sQ (eX jY dd_ rfl) rfl (sQ (oZ (vs:=uw a.w) iJ rfl mm_ (t9 ha.len) ((nW _).trans ha.len)) rfl ?_)));refine sQ (eX jY dd_ rfl) rfl (sQ (oZ (vs:=uw b.w) iJ rfl mm_ (t9 hb.len) ((nW _).trans hb.len)) rfl ?_);refine sQ (bZ RU (xR a.w b.w ha.len hb.len ha.lim hb.lim) rfl) rfl (sE rfl (nl J (J18 _ _ (aL (cC rfl (.inr rfl) rfl ?_)))));exact congrArg _ (if_ ha hb (by simpa using hga) (by simpa using hgb) hn (by simpa using hs))
 refine d7 rfl rfl (pW oV oM pX rfl dd_ rfl (F8 hb) (fun b11 hb11=>⟨(fun _=>by first | exact sd s0 | exact s0),ss_,?_⟩));refine d7 rfl rfl (pW oV oM pX rfl dd_ rfl (F8 ha) (fun b8 hb8=>⟨(fun _=>by first | exact sd s0 | exact s0),ss_,?_⟩));refine pQ rfl (dA BH rfl (fun w hw=>oE [a] (ok1 ha) b8 31 w (hw.mem ⟨b8,31,_⟩ (by first | exact m0 | exact m1)) (by simp))) ?_;refine pQ rfl (dA BH rfl (fun w hw=>oE [b] (ok1 hb) b11 31 w (hw.mem ⟨b11,31,_⟩ (by first | exact m0 | exact m1)) (by simp))) ?_;refine pE rfl (pE rfl (fl J (J2 _ _ (Sq fun K19 J19=>aJ (Sq fun K20 J20=>Rk fun K J=>sE rfl (sE rfl (sE rfl ?_)))))))
 cases hga:[a].all R.good
 ·refine sE rfl (sE rfl (sE rfl (sE rfl (nl J (J20 _ _ ?_)))));refine fN _ rfl (fun hgb=>?_) (fun hgb=>?_)
  ·replace hgb:=cB_ hgb
   refine Sq fun K21 J21=>Rk fun K J=>sE rfl (nl J (J21 _ _ (aL (aT (aB (cC rfl (.inr rfl) rfl ?_))))));exact congrArg _ (dF_ (by simpa using hga) (by simpa using hgb))
  replace hgb:=cB_ hgb
  refine Sq fun K22 J22=>Rk fun K J=>sE rfl (sE rfl (sE rfl (nl J (J22 _ _ (dE rfl (Sq fun K23 J23=>Rk fun K J=>sE rfl (nl J (J23 _ _ (aL (aT (aB (cC rfl (.inr rfl) rfl ?_))))))))))));exact congrArg _ (dG_ (by simpa using hga) hb (by simpa using hgb))
 refine aI rfl (aI rfl (sE rfl (sE rfl (nl J (J20 _ _ (gJ rfl (Sq fun K24 J24=>Rk fun K J=>sE rfl (sE rfl (sE rfl (nl J (J24 _ _ (gJ rfl (Sq fun K25 J25=>Rk fun K J=>sE rfl (sE rfl (sE rfl ?_)))))))))))))));refine nl J (J25 _ _ ?_);refine fN _ rfl (fun hgb=>?_) (fun hgb=>?_)
 ·replace hgb:=cB_ hgb
  refine Sq fun K26 J26=>Rk fun K J=>sE rfl (nl J (J26 _ _ (aL (aT (aB (cC rfl (.inr rfl) rfl ?_))))));exact congrArg _ (dH_ ha (by simpa using hga) (by simpa using hgb))
 replace hgb:=cB_ hgb
 refine Sq fun K27 J27=>Rk fun K J=>sQ (eX jC dd_ rfl) rfl (sQ (iA mF rfl mm_ rfl) rfl ?_);refine sQ (eX jC dd_ rfl) rfl (sQ (iA mF rfl mm_ rfl) rfl ?_);refine sQ (EH GS rfl rfl) rfl (sE rfl (nl J (J27 _ _ ?_)));refine fN _ rfl (fun hn=>?_) (fun hn=>?_)
 ·replace hn:=cB_ hn
  refine Sq fun K28 J28=>Sq fun K29 J29=>Rk fun K J=>sQ (eX jC dd_ rfl) rfl (sQ (iA mF rfl mm_ rfl) rfl ?_);refine nl J (J29 _ _ ?_);refine fN _ rfl (fun hs=>?_) (fun hs=>?_)
  ·replace hs:=cB_ hs
   refine Sq fun K30 J30=>Rk fun K J=>sE rfl (nl J (J30 _ _ (aL (aB (aT (aB (cC rfl (.inr rfl) rfl ?_)))))));exact congrArg _ (id_ ha hb (by simpa using hga) (by simpa using hgb) hn hs)
  replace hs:=cB_ hs
  refine aG (J28 _ _ (Sq fun K31 J31=>Rk fun K J=>sE rfl (nl J (J31 _ _ (aL (aT (aB (cC rfl (.inr rfl) rfl ?_))))))));exact congrArg _ (ic_ ha hb (by simpa using hga) (by simpa using hgb) hn (by simpa using hs))
 replace hn:=cB_ hn
 refine Sq fun K32 J32=>Rk fun K J=>sQ (eX jC dd_ rfl) rfl (sQ (iA mF rfl mm_ rfl) rfl ?_);refine sE rfl (nl J (J32 _ _ ?_));refine fN _ rfl (fun hs=>?_) (fun hs=>?_)
 ·replace hs:=cB_ hs
  refine Sq fun K33 J33=>Rk fun K J=>sQ (eX jY dd_ rfl) rfl (sQ (oZ (vs:=uw b.w) iJ rfl mm_ (t9 hb.len) ((nW _).trans hb.len)) rfl ?_);refine sQ (eX jY dd_ rfl) rfl (sQ (oZ (vs:=uw a.w) iJ rfl mm_ (t9 ha.len) ((nW _).trans ha.len)) rfl ?_);refine sQ (bZ RU (xR b.w a.w hb.len ha.len hb.lim ha.lim) rfl) rfl (sE rfl (nl J (J33 _ _ (aL (aT (aB (cC rfl (.inr rfl) rfl ?_)))))));exact congrArg _ (ie_ ha hb (by simpa using hga) (by simpa using hgb) hn hs)
 replace hs:=cB_ hs
 refine aG (J19 _ _ (Sq fun K34 J34=>Rk fun K J=>sQ (eX jY dd_ rfl) rfl (sQ (oZ (vs:=uw a.w) iJ rfl mm_ (t9 ha.len) ((nW _).trans ha.len)) rfl ?_)));refine sQ (eX jY dd_ rfl) rfl (sQ (oZ (vs:=uw b.w) iJ rfl mm_ (t9 hb.len) ((nW _).trans hb.len)) rfl ?_);refine sQ (bZ RU (xR a.w b.w ha.len hb.len ha.lim hb.lim) rfl) rfl (sE rfl (nl J (J34 _ _ (aL (cC rfl (.inr rfl) rfl ?_)))));exact congrArg _ (if_ ha hb (by simpa using hga) (by simpa using hgb) hn (by simpa using hs))
theorem XP (n:Nat) (IH:∀ (a b:R),a.Ok→b.Ok→val b.w<n→Ret Tryz.prog 128 [RV a,RV b] (RV (Z.gcd a.dec b.dec).enc)) (a b:R) (ha:a.Ok) (hb:b.Ok) (hn:val b.w=n) :
    Ret Tryz.prog 128 [RV a,RV b] (RV (Z.gcd a.dec b.dec).enc):=by
 refine cM (N:=80) Tryz.func128 rfl rfl (by simp) (fun w0=>?_);simp only [cS,Nat.reduceAdd];refine Sq fun K1 J1=>Rk fun K J=>bA rfl (qR rfl rfl (fun b2 hb2=>bA rfl (qR rfl rfl (fun b3 hb3=>bA rfl (i1 oM (fun b4 hb4=>nl J (J1 _ _ (Sq fun K2 J2=>Sq fun K3 J3=>Rk fun K J=>sQ (eG aD rfl mm_ (eO ha)) rfl ?_))))))));refine sQ (eG aD rfl mm_ (eO hb)) rfl ?_;refine bA rfl (pW oV oM pX rfl dd_ rfl (aF_ ha hb) (fun b13 hb13=>sQ (dA BH rfl (fun w hw=>oE [a,b] (ok2 ha hb) b13 31 w (hw.mem _ m0) (by simp))) rfl ?_));refine sE rfl (nl J (J3 _ _ ?_));refine fN _ rfl (fun hg=>?_) (fun hg=>?_)
 ·replace hg:=cB_ hg
  refine Sq fun K4 J4=>Rk fun K J=>sQ (bZ BB kO rfl) rfl (bA rfl (dX aD rfl rfl uu_ (aS _) rfl (dL _) (.inl (by assumption)) ?_));refine nl J (J4 _ _ (aL (aB (cC rfl (.inr rfl) ⟨_,_,_,_,_,_,rfl,mm_,aD,_,(gS (aS _)),(aS _),rfl⟩ ?_))));exact congrArg RV (lZ_ hg)
 replace hg:=cB_ hg
 have hg:=all2.1 hg;refine aG (J2 _ _ ?_);refine dH [5,6,17,18,19,20,21,22,23,24,25,26,27,28,29,30,31,32,33,34,35,36,37,38,39,40,41,42,43,44,45,46,47,48,49,50,51,52,53,54,55,56,57,58,59] (fun g M=>(True)∧M=[⟨b4,31,zR⟩,⟨b3,31,b.cells⟩,⟨b2,31,a.cells⟩]∧(True)) (fun K5 J5=>?_) ?_
 ·refine Sq fun K6 J6=>Rk fun K J=>sQ (eX jY dd_ rfl) rfl (sQ (oZ (vs:=uw a.w) iJ rfl mm_ (t9 ha.len) ((nW _).trans ha.len)) rfl ?_);refine sQ (bZ PQ (xD a.w ha.len) rfl) rfl (sE rfl (sE rfl ?_))
  cases hsz:decide ((szL a.w:Int)≤2)
  ·refine aI rfl (aI rfl (aI rfl (aI rfl (sE rfl (nl J (J6 _ _ (gJ rfl (aG ?_))))))));refine J5 _ _ pp_ ⟨_,(List.Sublist.cons _ (List.Sublist.refl _)),trivial,?mem,trivial⟩
   case mem=>rfl
  refine sQ (eX jY dd_ rfl) rfl (sQ (oZ (vs:=uw b.w) iJ rfl mm_ (t9 hb.len) ((nW _).trans hb.len)) rfl ?_);refine sQ (bZ PQ (xD b.w hb.len) rfl) rfl (sE rfl (sE rfl (nl J (J6 _ _ ?_))));refine fN _ rfl (fun hsz2=>?_) (fun hsz2=>?_)
  ·replace hsz2:=cB_ hsz2
   have hA64:=sz2 ha (by have:=of_decide_eq_true hsz;omega);have hB64:=sz2 hb oo_;refine Sq fun K7 J7=>dr (sk (sk (sk (sk (s0))))) [0,4,8,12,16,20,24,28,32,36,40,44,48,52,56,60,64,68,72,76,80,84] [] mix (by kernel_rfl) (fun K J=>pQ rfl (eX jY dd_ rfl) (pQ rfl (j7 mI rfl rfl dd_ dd_) (pQ rfl (iA n9 rfl mm_ (wA (r:=a) (k:=1) (by rw [ha.len];omega))) ?_)));refine pQ rfl (aZ (i7 nP kV rfl) (GL (iZ ha.lim _))) (pQ rfl (aZ (LX rfl rfl dd_) (congrArg (Value.int .u64) (HI (iZ ha.lim _)))) (pQ rfl (eX jY dd_ rfl) (pQ rfl (j7 mI rfl rfl dd_ dd_) (pQ rfl (iA n9 rfl mm_ (wA (r:=a) (k:=0) (by rw [ha.len];omega))) ?_))));refine pQ rfl (aZ (i7 nP kV rfl) (GL (iZ ha.lim _))) (pQ rfl (aZ (a2_ rfl rfl) (congrArg (Value.int .u64) ((cL_ (iZ ha.lim _) (iZ ha.lim _)).trans (congrArg (fun m:Nat=>(m:Int)) (LG ha hA64))))) (pQ rfl (eX jY dd_ rfl) (pQ rfl (j7 mI rfl rfl dd_ dd_) (pQ rfl (iA n9 rfl mm_ (wA (r:=b) (k:=1) (by rw [hb.len];omega))) ?_))));refine pQ rfl (aZ (i7 nP kV rfl) (GL (iZ hb.lim _))) (pQ rfl (aZ (LX rfl rfl dd_) (congrArg (Value.int .u64) (HI (iZ hb.lim _)))) (pQ rfl (eX jY dd_ rfl) (pQ rfl (j7 mI rfl rfl dd_ dd_) (pQ rfl (iA n9 rfl mm_ (wA (r:=b) (k:=0) (by rw [hb.len];omega))) ?_))));refine pQ rfl (aZ (i7 nP kV rfl) (GL (iZ hb.lim _))) (pQ rfl (aZ (a2_ rfl rfl) (congrArg (Value.int .u64) ((cL_ (iZ hb.lim _) (iZ hb.lim _)).trans (congrArg (fun m:Nat=>(m:Int)) (LG hb hB64))))) (pE rfl (pE rfl (fl J (J7 _ _ (Sq fun K8 J8=>aJ ?_))))));refine eA [5,6,47,48,49,50,51,52] (fun g nn M=>∃ (x y:Nat),(g 5 = .int .u64 (x:Int)∧g 6 = .int .u64 (y:Int))∧M=[⟨b4,31,zR⟩,⟨b3,31,b.cells⟩,⟨b2,31,a.cells⟩]∧nn=y∧(x<18446744073709551616∧y<18446744073709551616∧Nat.gcd x y=Nat.gcd (val a.w) (val b.w))) (val b.w) ?start ?round
   case start =>
    refine ⟨_,(List.Sublist.cons _ (List.Sublist.refl _)),_,_,⟨?a5,?a6⟩,?mem0,rfl,⟨hA64,hB64,rfl⟩⟩
    case mem0=>rfl
    case a5=>rfl
    case a6=>rfl
   case round =>
    rintro nn g M ⟨x,y,⟨hg5,hg6⟩,rfl,hmeas,⟨hx64,hy64,hgc⟩⟩;subst nn;simp only [dQ,hg5,hg6];clear hg5 hg6;refine Sq fun K9 J9=>Sq fun K10 J10=>Rk fun K J=>sE rfl (sE rfl (nl J (J10 _ _ ?_)));refine fN _ rfl (fun hy0=>?_) (fun hy0=>?_)
    ·replace hy0:=cB_ hy0
     refine aG (J9 _ _ (aJ (dr (sk (sk (sk (s0)))) [0,4,8,12,16,20] [] mix (by kernel_rfl) (fun K J=>pE rfl (pE rfl (pE rfl (pQ rfl (aZ (w6 rfl rfl oo_) (congrArg (Value.int .u64) (OO _ _))) (pE rfl (pE rfl (fl J ?_))))))))));refine ⟨pp_,_,_,(List.Sublist.refl _),(Nat.mod_lt _ oo_),y,x % y,⟨?s5,?s6⟩,?mem,rfl,⟨hy64,Nat.lt_of_le_of_lt (Nat.mod_le _ _) hx64,by rw [Nat.gcd_comm,← Nat.gcd_rec,Nat.gcd_comm];exact hgc⟩⟩
     case mem=>rfl
     case s5=>rfl
     case s6=>rfl
    replace hy0:=cB_ hy0
    refine dW (aU (aU (bJ (J8 _ _ (Sq fun K11 J11=>Rk fun K J=>sE rfl (sQ (i7 kV nP rfl) rfl (sE rfl (sQ (aZ (E3 rfl rfl dd_) (congrArg (Value.int .u64) (A5 _ 32))) rfl (sQ (i7 kV nP rfl) rfl (sQ (yU y6 mI rfl (pJ_ hx64)) rfl (sQ (bZ zY (kA false _ (by simp) (jD_ (Nat.mod_lt _ dd_) oo_ 14)) rfl) rfl ?_)))))))))));refine bA rfl (dX aD rfl rfl uu_ (o5 (by simp)) rfl (dL _) (.inl (by assumption)) ?_);refine nl J (J11 _ _ (aL (aB (cC rfl (.inr rfl) ⟨_,_,_,_,_,_,rfl,mm_,aD,_,(gS (o5 (by simp))),(o5 (by simp)),rfl⟩ ?_))));exact l0_ ha hb hg.1 hg.2 hx64 (l1_ hx64 hgc oo_)
  replace hsz2:=cB_ hsz2
  refine aG ?_;refine J5 _ _ pp_ ⟨_,(List.Sublist.cons _ (List.Sublist.refl _)),trivial,?mem,trivial⟩
  case mem=>rfl
 rintro g M ⟨-,rfl,-⟩;simp only [dQ];refine Sq fun K12 J12=>Sq fun K13 J13=>MX (sk (sk (sk (s0)))) (.quiet 0 [1,6,7] (.quiet 1 [6,7] (.still 2 [3,7] (.still 3 [7] (.both 4 (.only 5 (.only 6 (.only 7 (.fin)))) 5 (.only 4 (.only 6 (.only 7 (.fin))))))))) [0,1,2,3,4,5] mix (by kernel_rfl) (by kernel_rfl) (fun K J=>pQ rfl (eX jY dd_ rfl) (pQ rfl (oZ (vs:=uw a.w) iJ rfl mm_ (t9 ha.len) ((nW _).trans ha.len)) ?_));refine RL rfl rfl (eX jY dd_ rfl) (RL rfl rfl (oZ (vs:=uw b.w) iJ rfl mm_ (t9 hb.len) ((nW _).trans hb.len)) ?_);refine EZ ?_ ?_
 ·refine d7 rfl rfl (i1 y6 (fun b7 hb7=>⟨(fun _=>by first | exact sd s0 | exact s0),ss_,?_⟩));refine d7 rfl rfl (i1 y6 (fun b8 hb8=>⟨(fun _=>by first | exact sd s0 | exact s0),ss_,?_⟩));refine d7 rfl rfl (dX iJ rfl rfl uu_ (by simp [uw,ha.len]) (by simp [uw]) (oQ _) (.inl (by assumption)) ⟨nf,ss_,?_⟩);refine d7 rfl rfl (dX iJ rfl rfl uu_ (by simp [uw,hb.len]) (by simp [uw]) (oQ _) (.inl (by assumption)) ⟨nf,ss_,?_⟩);refine fl J (J13 _ _ (Sq fun K14 J14=>Rk fun K J=>sQ (eG iJ rfl mm_ (by simp [uw,hb.len])) rfl ?_));refine sQ (yU y6 mI rfl (.nil _)) rfl ?_;refine sQ (EG (r:=(val b.w==0)) rfl rfl (kR 8 dd_ VE WD (xC hb.len) (xC (by simp)) (OV hb.len hb.lim))) rfl ?_;refine nl J (J14 _ _ ?_);refine fN _ rfl (fun hb0=>?_) (fun hb0=>?_)
  ·replace hb0:=cB_ hb0
   have hp:0<val b.w:=Nat.pos_of_ne_zero (by simpa using hb0);refine Sq fun K15 J15=>Rk fun K J=>sQ (eG iJ rfl mm_ (by simp [uw,ha.len])) rfl ?_;refine sQ (eG iJ rfl mm_ (by simp [uw,hb.len])) rfl ?_;refine sQ (bZ d1_ (B4 a.w b.w ha.len hb.len ha.lim hb.lim hp) rfl) rfl (sE rfl (sE rfl (sE rfl (bA rfl (i1 y6 (fun b9 hb9=>bA rfl (i1 y6 (fun b10 hb10=>bA rfl (dX iJ rfl rfl uu_ (by simp [uw,fT]) (by simp [uw]) (oQ _) (.inl (by assumption)) ?_)))))))));refine bA rfl (dX iJ rfl rfl uu_ (by simp [uw,fT]) (by simp [uw]) (oQ _) (.inl (by assumption)) ?_);refine nl J (J15 _ _ (Sq fun K16 J16=>dr (sk (sk (sk (sk (sd (sk (sk (s0)))))))) [0,4,8,12,16,21] [5] mix (by kernel_rfl) (fun K J=>pQ rfl (eG iJ rfl mm_ (by simp [uw,hb.len])) ?_)));refine pQ rfl (aZ (bZ zY (kA false b.w hb.len hb.lim) rfl) (SV hb.len hb.lim false)) (pQ rfl (eG iJ rfl mm_ (by simp [uw,fT])) ?_);refine pQ rfl (aZ (bZ zY (kA false _ (fT _ _) (uP _ _)) rfl) (congrArg RV (wY false (C6 ha)))) (pQ rfl (bZ KG (IH (Z.of (sgn false (val b.w))).enc (Z.of (sgn false (val a.w % val b.w))).enc (Z.enc_ok _) (Z.enc_ok _) (by rw [fo_ (C6 ha),← hn];exact Nat.mod_lt _ hp)) rfl) ?_);refine d7 rfl rfl (dX aD rfl rfl uu_ (aS _) rfl (dL _) (.inl (by assumption)) ⟨nf,ss_,?_⟩);refine fl J (J16 _ _ (aL (aB (cC rfl (.inr rfl) ⟨_,_,_,_,_,_,rfl,mm_,aD,_,(gS (aS _)),(aS _),rfl⟩ ?_))));exact cq_ ha hb hg.1 hg.2
  replace hb0:=cB_ hb0
  refine aG (J12 _ _ (Sq fun K17 J17=>Rk fun K J=>sQ (eG aD rfl mm_ (eO ha)) rfl ?_));refine sQ (bZ iJ_ (PC a ha) rfl) rfl (bA rfl (dX aD rfl rfl uu_ (aS _) rfl (dL _) (.inl (by assumption)) ?_));refine nl J (J17 _ _ (aL (cC rfl (.inr rfl) ⟨_,_,_,_,_,_,rfl,mm_,aD,_,(gS (aS _)),(aS _),rfl⟩ ?_)));exact cr_ ha hb hg.1 hg.2 (by simpa using hb0)
 refine d7 rfl rfl (i1 y6 (fun b8 hb8=>⟨(fun _=>by first | exact sd s0 | exact s0),ss_,?_⟩));refine d7 rfl rfl (i1 y6 (fun b7 hb7=>⟨(fun _=>by first | exact sd s0 | exact s0),ss_,?_⟩));refine d7 rfl rfl (dX iJ rfl rfl uu_ (by simp [uw,ha.len]) (by simp [uw]) (oQ _) (.inl (by assumption)) ⟨nf,ss_,?_⟩);refine d7 rfl rfl (dX iJ rfl rfl uu_ (by simp [uw,hb.len]) (by simp [uw]) (oQ _) (.inl (by assumption)) ⟨nf,ss_,?_⟩);refine fl J (J13 _ _ (Sq fun K18 J18=>Rk fun K J=>sQ (eG iJ rfl mm_ (by simp [uw,hb.len])) rfl ?_));refine sQ (yU y6 mI rfl (.nil _)) rfl ?_;refine sQ (EG (r:=(val b.w==0)) rfl rfl (kR 8 dd_ VE WD (xC hb.len) (xC (by simp)) (OV hb.len hb.lim))) rfl ?_;refine nl J (J18 _ _ ?_);refine fN _ rfl (fun hb0=>?_) (fun hb0=>?_)
 ·replace hb0:=cB_ hb0
  have hp:0<val b.w:=Nat.pos_of_ne_zero (by simpa using hb0);refine Sq fun K19 J19=>Rk fun K J=>sQ (eG iJ rfl mm_ (by simp [uw,ha.len])) rfl ?_;refine sQ (eG iJ rfl mm_ (by simp [uw,hb.len])) rfl ?_;refine sQ (bZ d1_ (B4 a.w b.w ha.len hb.len ha.lim hb.lim hp) rfl) rfl (sE rfl (sE rfl (sE rfl (bA rfl (i1 y6 (fun b9 hb9=>bA rfl (i1 y6 (fun b10 hb10=>bA rfl (dX iJ rfl rfl uu_ (by simp [uw,fT]) (by simp [uw]) (oQ _) (.inl (by assumption)) ?_)))))))));refine bA rfl (dX iJ rfl rfl uu_ (by simp [uw,fT]) (by simp [uw]) (oQ _) (.inl (by assumption)) ?_);refine nl J (J19 _ _ (Sq fun K20 J20=>dr (sk (sk (sk (sk (sd (sk (sk (s0)))))))) [0,4,8,12,16,21] [5] mix (by kernel_rfl) (fun K J=>pQ rfl (eG iJ rfl mm_ (by simp [uw,hb.len])) ?_)));refine pQ rfl (aZ (bZ zY (kA false b.w hb.len hb.lim) rfl) (SV hb.len hb.lim false)) (pQ rfl (eG iJ rfl mm_ (by simp [uw,fT])) ?_);refine pQ rfl (aZ (bZ zY (kA false _ (fT _ _) (uP _ _)) rfl) (congrArg RV (wY false (C6 ha)))) (pQ rfl (bZ KG (IH (Z.of (sgn false (val b.w))).enc (Z.of (sgn false (val a.w % val b.w))).enc (Z.enc_ok _) (Z.enc_ok _) (by rw [fo_ (C6 ha),← hn];exact Nat.mod_lt _ hp)) rfl) ?_);refine d7 rfl rfl (dX aD rfl rfl uu_ (aS _) rfl (dL _) (.inl (by assumption)) ⟨nf,ss_,?_⟩);refine fl J (J20 _ _ (aL (aB (cC rfl (.inr rfl) ⟨_,_,_,_,_,_,rfl,mm_,aD,_,(gS (aS _)),(aS _),rfl⟩ ?_))));exact cq_ ha hb hg.1 hg.2
 replace hb0:=cB_ hb0
 refine aG (J12 _ _ (Sq fun K21 J21=>Rk fun K J=>sQ (eG aD rfl mm_ (eO ha)) rfl ?_));refine sQ (bZ iJ_ (PC a ha) rfl) rfl (bA rfl (dX aD rfl rfl uu_ (aS _) rfl (dL _) (.inl (by assumption)) ?_));refine nl J (J21 _ _ (aL (cC rfl (.inr rfl) ⟨_,_,_,_,_,_,rfl,mm_,aD,_,(gS (aS _)),(aS _),rfl⟩ ?_)));exact cr_ ha hb hg.1 hg.2 (by simpa using hb0)
theorem yI (a b:R) (ha:a.Ok) (hb:b.Ok):Ret Tryz.prog 128 [RV a,RV b] (RV (Z.gcd a.dec b.dec).enc):=by
  generalize hn:val b.w=n
  induction n using Nat.strongRecOn generalizing a b with
  | ind n ih=>exact XP n (fun a b ha hb h=>ih _ h a b ha hb rfl) a b ha hb hn
end Go.Proofs.YtkjjponijamaoaaGreatDoor

