/- Lemmas: what they ask stands in their statements. -/
import Derived.Test.YtbjlhfochebmiaaGreatDoorMWc
set_option linter.unusedSimpArgs false
set_option linter.unusedVariables false
set_option maxHeartbeats 8000000
set_option maxRecDepth 20000
namespace Go.Proofs.YtbjlhfochebmiaaGreatDoor
open Go.Kn Go.Num Tryz
attribute [local irreducible] Go.Kn.W WL PL OpQ OpR OpS
theorem zQ (a:R) (ha:a.Ok) :
   Ret prog 159 [RV a] (.int .i64 (a.dec.bits:Int)):=by
 refine bA (N:=25) func159 O O zz_ (fun w0=>?_);refine giI ?_;refine go_ ?_;refine aY O (lC O O (fun b1 hb1=>go3 ?_));refine sQ (cH fdT dd_ O) O (sQ (jW (vs:=uw a.w) tyT O mm_ (nF ha.len) ((jB _).trans ha.len)) O ?_);refine sQ (aX aE (qH a.w ha.len) O) O (go4 ?_);refine sQ (cI tyT O mm_ (cO ha)) O ?_;refine aY O (kH rI mX rN O dd_ O (zB ha) (fun b8 hb8=>sQ (dF aE O (fun w hw=>jH [a] (ok1 ha) b8 33 w (hw.mem _ m0) zz_)) O ?_));refine go2 ?_
 cases hg:[a].all R.good
 ·refine go9 ?_;refine rt1 ?_;exact congrArg (fun n:Nat=>Value.int .i64 (n:Int)) (X0 (by simpa using hg))
 refine go4 ?_;refine aL _ O (fun hz=>?_) (fun hz=>?_)
 ·replace hz:=cB_ hz
  refine go4 ?_;refine rt1 ?_;exact congrArg (fun n:Nat=>Value.int .i64 (n:Int)) (VT ha (by simpa using hg) oo_)
 replace hz:=cB_ hz
 refine go2 ?_
 have hs1:1≤szL a.w:=by omega
 have hs16:szL a.w≤16:=by have:=yF a.w;rw [ha.len] at this;exact this
 refine go_ ?_;refine sQ (aM (rD O O) (congrArg (Value.int .i64) (wV (b:=1) O oo_ oo_))) O (sQ (aM (UT O O) (congrArg (Value.int .i64) (eW_ O oo_))) O (go_ ?_));refine sQ (aM (rD O O) (congrArg (Value.int .i64) (wV (b:=1) O oo_ oo_))) O (sQ (cH fdT dd_ O) O (sQ (eZ arT O O oo_ oo_) O (sQ (dX tyT O mm_ (oZ (r:=a) (k:=szL a.w - 1) (by rw [ha.len];omega))) O ?_)));refine sQ (aX aE (MP _ (eJ ha.lim _)) O) O (sQ (aM (j3 O O) (congrArg (Value.int .i64) (rC (by have:=y9 (k:=32) (eJ ha.lim (szL a.w - 1));omega)))) O (go3 ?_));refine rt1 ?_;exact congrArg (fun n:Nat=>Value.int .i64 (n:Int)) (X2 ha (by simpa using hg) hs1)
theorem mT (a:R) (ha:a.Ok) :
    Ret prog 84 [RV a] (.tuple #[.int .i64 a.dec.small.1,.bool a.dec.small.2]):=by
 refine bA (N:=44) func84 O O zz_ (fun w0=>?_);refine giI ?_;refine go_ ?_;refine aY O (lC O O (fun b1 hb1=>go5 ?_));refine sQ (cI tyT O mm_ (cO ha)) O ?_;refine aY O (kH rI mX rN O dd_ O (zB ha) (fun b6 hb6=>sQ (dF aE O (fun w hw=>jH [a] (ok1 ha) b6 33 w (hw.mem _ m0) zz_)) O ?_));refine go2 ?_
 cases hg:[a].all R.good
 ·refine wH ?_;refine rt2 ?_;exact NA (by simpa using hg)
 refine sQ (cI tyT O mm_ (cO ha)) O ?_;refine sQ (aX aE (zQ a ha) O) O (go3 ?_);refine aL _ O (fun hb=>?_) (fun hb=>?_)
 ·replace hb:=cB_ hb
  refine go5 ?_;refine rt2 ?_;exact TL ha (by simpa using hg) hb
 replace hb:=cB_ hb
 have h64:=da_ ha (by simpa using hg) hb;refine go2 ?_;refine sQ (cH fdT dd_ O) O (sQ (eZ arT O O dd_ dd_) O (sQ (dX tyT O mm_ (oZ (r:=a) (k:=1) (by rw [ha.len];omega))) O ?_));refine sQ (aM (eX i4 gA O) (zL (eJ ha.lim _))) O (sQ (aM (ER O O dd_) (congrArg (Value.int .u64) (z5 (eJ ha.lim _)))) O (sQ (cH fdT dd_ O) O (sQ (eZ arT O O dd_ dd_) O (sQ (dX tyT O mm_ (oZ (r:=a) (k:=0) (by rw [ha.len];omega))) O ?_))));refine sQ (aM (eX i4 gA O) (zL (eJ ha.lim _))) O (sQ (aM (OT O O) (congrArg (Value.int .u64) ((QW (eJ ha.lim _) (eJ ha.lim _)).trans (congrArg (fun m:Nat=>(m:Int)) (CH ha h64))))) O (go5 ?_));refine sQ (cH fdT dd_ O) O (sQ (dX tyT O mm_ O) O ?_);refine go_ ?_
 cases hn:a.neg
 ·refine go7 ?_;refine sQ (cH fdT dd_ O) O (sQ (dX tyT O mm_ O) O ?_);refine go_ ?_;rw [hn];refine go6 ?_;refine aL _ O (fun hlt=>?_) (fun hlt=>?_)
  ·replace hlt:=cB_ hlt
   refine go2 ?_;refine sQ (aM (eX gA FS O) (congrArg (Value.int .i64) (W7 oo_))) O (go4 ?_);refine rt2 ?_;exact F7 ha (by simpa using hg) (by rw [hn];rfl) (by rw [hn,uU];omega)
  replace hlt:=cB_ hlt
  refine go6 ?_;refine rt2 ?_;exact BF ha (by simpa using hg) (by rw [hn,uU];omega)
 refine go5 ?_;refine aL _ O (fun hle=>?_) (fun hle=>?_)
 ·replace hle:=cB_ hle
  refine go3 ?_;refine sQ (aM (eX gA FS O) (congrArg (Value.int .i64) (W4 oo_))) O (go4 ?_);refine rt2 ?_;exact F7 ha (by simpa using hg) (by rw [hn];rfl) (by rw [hn,u7];omega)
 replace hle:=cB_ hle
 refine go_ ?_;refine sQ (cH fdT dd_ O) O (sQ (dX tyT O mm_ O) O ?_);refine go_ ?_;rw [hn];refine SM ?_;refine rt2 ?_;exact BF ha (by simpa using hg) (by rw [hn,u7];omega)
theorem GF (a b:R) (ha:a.Ok) (hb:b.Ok) :
    Ret prog 172 [RV a,RV b] (.tuple #[RV (Z.quo a.dec b.dec).enc,RV (Z.rem a.dec b.dec).enc]):=by
 refine bA (N:=108) func172 O O zz_ (fun w0=>?_);refine giI ?_;refine go_ ?_;refine aY O (lC O O (fun b2 hb2=>aY O (lC O O (fun b3 hb3=>aY O (eS mX (fun b4 hb4=>aY O (eS mX (fun b5 hb5=>go3 ?_))))))));refine sQ (cI tyT O mm_ (cO ha)) O ?_;refine sQ (cI tyT O mm_ (cO hb)) O ?_;refine aY O (kH rI mX rN O dd_ O (OC ha hb) (fun b17 hb17=>sQ (dF aE O (fun w hw=>jH [a,b] (ok2 ha hb) b17 33 w (hw.mem _ m0) zz_)) O ?_));refine go2 ?_
 cases hg:[a,b].all R.good
 ·refine go7 ?_;refine sQ (aX aE gQ O) O (sQ (aX aE gQ O) O (aY O (bV tyT O O uu_ (aI _) O (bN _) (.inl fP) ?_)));refine aY O (bV tyT O O uu_ (aI _) O (bN _) (.inl fP) ?_);refine go2 ?_;refine wX O (.inr O) ⟨_,_,_,_,_,_,rfl,mm_,tyT,_,(dQ (aI _)),(aI _),rfl⟩ ⟨_,_,_,_,_,_,rfl,mm_,tyT,_,(dQ (aI _)),(aI _),rfl⟩ ?_;exact bF_ (FW hg)
 have hg:=all2.1 hg;refine sQ (cI tyT O mm_ (cO hb)) O ?_;refine sQ (aX aE (nV b hb) O) O (go3 ?_);refine aL _ O (fun hs0=>?_) (fun hs0=>?_)
 ·replace hs0:=cB_ hs0
  refine go_ ?_;refine sQ (aX aE gQ O) O (sQ (aX aE gQ O) O (aY O (bV tyT O O uu_ (aI _) O (bN _) (.inl fP) ?_)));refine aY O (bV tyT O O uu_ (aI _) O (bN _) (.inl fP) ?_);refine go2 ?_;refine wX O (.inr O) ⟨_,_,_,_,_,_,rfl,mm_,tyT,_,(dQ (aI _)),(aI _),rfl⟩ ⟨_,_,_,_,_,_,rfl,mm_,tyT,_,(dQ (aI _)),(aI _),rfl⟩ ?_;exact aa_ ha hb hg.1 hg.2 hs0
 replace hs0:=cB_ hs0
 have hs0:b.dec.sign≠0:=hs0;have hp:=CP hb hg.2 hs0;refine go_ ?_;refine rX (rg [6,7,8,9,10,11] 27 44) (fun g M=>(True)∧M=[⟨b5,33,zR⟩,⟨b4,33,zR⟩,⟨b3,33,b.cells⟩,⟨b2,33,a.cells⟩]∧(True)) (fun K6 J6=>?_) ?_
 ·refine go_ ?_;refine sQ (cI tyT O mm_ (cO ha)) O ?_;refine sQ (aX aE (mT a ha) O) O (go9 ?_)
  cases hsa:a.dec.small.2
  ·refine go6 ?_;refine J6 _ _ pp_ ⟨_,(List.Sublist.cons _ (List.Sublist.refl _)),trivial,?mem,trivial⟩
   case mem=>rfl
  refine go4 ?_;refine aL _ O (fun hma=>?_) (fun hma=>?_)
  ·replace hma:=cB_ hma
   have ea:=KL hsa;refine go_ ?_;refine sQ (cI tyT O mm_ (cO hb)) O ?_;refine sQ (aX aE (mT b hb) O) O (go9 ?_)
   cases hsb:b.dec.small.2
   ·refine go6 ?_;refine J6 _ _ pp_ ⟨_,(List.Sublist.cons _ (List.Sublist.refl _)),trivial,?mem,trivial⟩
    case mem=>rfl
   refine go4 ?_;refine aL _ O (fun hmb=>?_) (fun hmb=>?_)
   ·replace hmb:=cB_ hmb
    have eb:=KL hsb;have hy0:=O8 eb.1 hs0;have hq64:I64 (a.dec.small.1.tdiv b.dec.small.1):=TA ea.2 hma;have hr64:=dR_ (x:=a.dec.small.1) hy0 eb.2;refine go_ ?_;refine kY (sk (sk (sk (sk (sk s0))))) 8 [] [] (go2 ?_);refine pQ O (aM (lI O O hy0) (congrArg (Value.int .i64) (cL (TA ea.2 hma)))) (go2 ?_);refine pQ O (tQ O O hy0) (go8 ?_)
    cases hr0:(a.dec.small.1.tmod b.dec.small.1 != 0)
    ·refine wH ?_;refine sQ (aX aE (fB _ (by first|exact hI1|exact hq64)) O) O ?_;refine go_ ?_;refine sQ (aX aE (fB _ (by first|exact hI2|exact hr64)) O) O ?_;refine aY O (bV tyT O O uu_ (aI _) O (bN _) (.inl fP) ?_);refine aY O (bV tyT O O uu_ (aI _) O (bN _) (.inl fP) ?_);refine go2 ?_;refine wX O (.inr O) ⟨_,_,_,_,_,_,rfl,mm_,tyT,_,(dQ (aI _)),(aI _),rfl⟩ ⟨_,_,_,_,_,_,rfl,mm_,tyT,_,(dQ (aI _)),(aI _),rfl⟩ ?_;exact GZ ea.1 eb.1 hs0 (FQ hy0 (.inl (by simpa using hr0)))
    refine go4 ?_;refine sQ (xF E0 O O) O (go2 ?_);refine aL _ O (fun hsg=>?_) (fun hsg=>?_)
    ·replace hsg:=cB_ hsg
     have hI1:I64 (a.dec.small.1.tdiv b.dec.small.1 - 1):=Z7 ea.2 hma;have hI2:=dS_ hy0 eb.2 (bne_iff_ne.2 hsg);refine go2 ?_;refine sQ (aM (rD O O) (congrArg (Value.int .i64) (cL hI1))) O (go2 ?_);refine sQ (aM (j3 O O) (congrArg (Value.int .i64) (cL hI2))) O (go5 ?_);refine sQ (aX aE (fB _ (by first|exact hI1|exact hq64)) O) O ?_;refine go_ ?_;refine sQ (aX aE (fB _ (by first|exact hI2|exact hr64)) O) O ?_;refine aY O (bV tyT O O uu_ (aI _) O (bN _) (.inl fP) ?_);refine aY O (bV tyT O O uu_ (aI _) O (bN _) (.inl fP) ?_);refine go2 ?_;refine wX O (.inr O) ⟨_,_,_,_,_,_,rfl,mm_,tyT,_,(dQ (aI _)),(aI _),rfl⟩ ⟨_,_,_,_,_,_,rfl,mm_,tyT,_,(dQ (aI _)),(aI _),rfl⟩ ?_;exact GZ ea.1 eb.1 hs0 (SI hy0 (by simpa using hr0) (bne_iff_ne.2 hsg))
    replace hsg:=cB_ hsg
    refine go3 ?_;refine sQ (aX aE (fB _ (by first|exact hI1|exact hq64)) O) O ?_;refine go_ ?_;refine sQ (aX aE (fB _ (by first|exact hI2|exact hr64)) O) O ?_;refine aY O (bV tyT O O uu_ (aI _) O (bN _) (.inl fP) ?_);refine aY O (bV tyT O O uu_ (aI _) O (bN _) (.inl fP) ?_);refine go2 ?_;refine wX O (.inr O) ⟨_,_,_,_,_,_,rfl,mm_,tyT,_,(dQ (aI _)),(aI _),rfl⟩ ⟨_,_,_,_,_,_,rfl,mm_,tyT,_,(dQ (aI _)),(aI _),rfl⟩ ?_;exact GZ ea.1 eb.1 hs0 (FQ hy0 (.inr (by simpa using hsg)))
   replace hmb:=cB_ hmb
   refine go_ ?_;refine J6 _ _ pp_ ⟨_,(List.Sublist.cons _ (List.Sublist.refl _)),trivial,?mem,trivial⟩
   case mem=>rfl
  replace hma:=cB_ hma
  refine go_ ?_;refine J6 _ _ pp_ ⟨_,(List.Sublist.cons _ (List.Sublist.refl _)),trivial,?mem,trivial⟩
  case mem=>rfl
 rintro g M ⟨-,rfl,-⟩;refine gS0 ?_;refine go_ ?_;refine sQ (cH fdT dd_ O) O (sQ (jW (vs:=uw a.w) tyT O mm_ (nF ha.len) ((jB _).trans ha.len)) O ?_);refine sQ (cH fdT dd_ O) O (sQ (jW (vs:=uw b.w) tyT O mm_ (nF hb.len) ((jB _).trans hb.len)) O ?_);refine sQ (aX aE (vJ a.w b.w ha.len hb.len ha.lim hb.lim hp) O) O (go3 ?_);refine aY O (eS sU (fun b12 hb12=>aY O (eS sU (fun b13 hb13=>aY O (bV tyT O O uu_ (by simp [uw,dB]) (by simp [uw]) (jP _) (.inl fP) ?_)))));refine aY O (bV tyT O O uu_ (by simp [uw,dB]) (by simp [uw]) (jP _) (.inl fP) ?_);refine go2 ?_;refine sQ (cH fdT dd_ O) O (sQ (dX tyT O mm_ O) O ?_);refine sQ (cH fdT dd_ O) O (sQ (dX tyT O mm_ O) O ?_);refine sQ (xF E0 O O) O (sQ (cI tyT O mm_ (by simp [uw,dB])) O ?_);refine sQ (aM (aX aE (fM (a.neg != b.neg) _ (dB _ _) (nT _ _)) O) (congrArg RV (pY _ (Z9 ha)))) O (aY O (eS mX (fun b14 hb14=>aY O (bV tyT O O uu_ (aI _) O (bN _) (.inl fP) ?_))));refine go_ ?_;refine rX (rg [] 86 17) (fun g M=>∃ (z:Z) (l:List Nat),(True)∧M=[⟨b14,33,z.enc.cells⟩,⟨b13,31,uw l⟩,⟨b12,31,uw (toL 16 (val a.w / val b.w))⟩,⟨b5,33,zR⟩,⟨b4,33,zR⟩,⟨b3,33,b.cells⟩,⟨b2,33,a.cells⟩]∧(l.length=16∧Lim l∧z=Z.quo a.dec b.dec∧R.mk false (b.neg && !(val l==0)) l=(Z.rem a.dec b.dec).enc)) (fun K19 J19=>?_) ?_
 ·refine go_ ?_;refine sQ (cI tyT O mm_ (by simp [uw,dB])) O ?_;refine sQ (sD sU arT O (.nil _)) O ?_;refine sQ (wP (r:=(val a.w % val b.w==0)) O O (kC 8 dd_ JA JP (qG (dB _ _)) (qG zz_) (ab_ ha))) O ?_;refine go_ ?_
  cases hr1:(val a.w % val b.w==0)
  ·refine sQ (cH fdT dd_ O) O (sQ (dX tyT O mm_ O) O ?_);refine sQ (cH fdT dd_ O) O (sQ (dX tyT O mm_ O) O ?_);refine sQ (xF E0 O O) O (go2 ?_);refine aL _ O (fun hne=>?_) (fun hne=>?_)
   ·replace hne:=cB_ hne
    refine gdr (sd (sd (sk (sk (sk (sk (sk s0))))))) [0,4,8,12,16,20,24,29,33] [7,8] mix (by kernel_rfl) (pQ O (cI tyT O mm_ (aI _)) ?_);refine pQ O (aX aE (fB 1 (by unfold I64;decide)) O) (pQ O (aX aE (EW (Z.of (sgn (a.neg != b.neg) (val a.w / val b.w))).enc (Z.of 1).enc (Z.enc_ok _) (Z.enc_ok _)) O) (pQ O (cH fdT dd_ O) (pQ O (jW (vs:=uw b.w) tyT O mm_ (nF hb.len) ((jB _).trans hb.len)) ?_)));refine pQ O (cI tyT O mm_ (by simp [uw,dB])) ?_;refine pQ O (aX aE (yG b.w _ hb.len (dB _ _) hb.lim (nT _ _) (dU_ ha hp)) O) ?_;refine cJ O O (bV tyT O O uu_ (aI _) (aI _) (bN _) (.inl fP) ⟨nf,ss_,?_⟩);refine cJ O O (bV tyT O O uu_ (by simp [uw,dB]) (by simp [uw,dB]) (jP _) (.inl fP) ⟨nf,ss_,?_⟩);refine go_ ?_;refine J19 _ _ pp_ ⟨_,(List.Sublist.refl _),_,_,trivial,?mem,bc_ ha hb hg.1 hg.2 hp (by simpa using hr1) hne⟩
    case mem=>rfl
   replace hne:=cB_ hne
   refine go_ ?_;refine J19 _ _ pp_ ⟨_,(List.Sublist.refl _),_,_,trivial,?mem,P9 ha hb hg.1 hg.2 hp (.inr (by simpa using hne))⟩
   case mem=>rfl
  refine go9 ?_;refine J19 _ _ pp_ ⟨_,(List.Sublist.refl _),_,_,trivial,?mem,P9 ha hb hg.1 hg.2 hp (.inl (by simpa using hr1))⟩
  case mem=>rfl
 rintro g M ⟨z,l,-,rfl,⟨hl16,hlim,hzq,hzr⟩⟩;refine gS0 ?_;refine go_ ?_;refine gdr (sk (sk (sk (sd (sd (sk (sk s0))))))) [0,4,8,12,16,21,25] [5,6] mix (by kernel_rfl) (pQ O (cI tyT O mm_ (aI _)) ?_);refine pQ O (cH fdT dd_ O) (pQ O (dX tyT O mm_ O) ?_);refine pQ O (cI tyT O mm_ (by rw [jB,hl16])) ?_;refine pQ O (aX aE (fM b.neg l hl16 hlim) O) ?_;refine cJ O O (bV tyT O O uu_ (aI _) O (bN _) (.inl fP) ⟨nf,ss_,?_⟩);refine cJ O O (bV tyT O O uu_ (jY hl16) O (bN _) (.inl fP) ⟨nf,ss_,?_⟩);refine go2 ?_;refine wX O (.inr O) ⟨_,_,_,_,_,_,rfl,mm_,tyT,_,(dQ (aI _)),(aI _),rfl⟩ ⟨_,_,_,_,_,_,rfl,mm_,tyT,_,(dQ (jY hl16)),(jY hl16),rfl⟩ ?_
 (subst hzq;exact congrArg (fun r:R=>Value.tuple #[RV (Z.quo a.dec b.dec).enc,RV r]) hzr)
theorem pU (a b:R) (ha:a.Ok) (hb:b.Ok) :
  Ret prog 101 [RV a,RV b] (RV (Z.quo a.dec b.dec).enc):=by
 refine bA (N:=14) func101 O O zz_ (fun w0=>?_);refine giI ?_;refine go_ ?_;refine aY O (lC O O (fun b2 hb2=>aY O (lC O O (fun b3 hb3=>aY O (eS mX (fun b4 hb4=>go2 ?_))))));refine sQ (cI tyT O mm_ (cO ha)) O ?_;refine sQ (cI tyT O mm_ (cO hb)) O ?_;refine sQ (aX aE (GF a b ha hb) O) O (go3 ?_);refine aY O (eS mX (fun b5 hb5=>aY O (eS mX (fun b6 hb6=>aY O (bV tyT O O uu_ (aI _) O (bN _) (.inl fP) ?_)))));refine aY O (bV tyT O O uu_ (aI _) O (bN _) (.inl fP) ?_);refine go2 ?_;refine sQ (cI tyT O mm_ (aI _)) O ?_;refine aY O (bV tyT O O uu_ (aI _) O (bN _) (.inl fP) ?_);refine go2 ?_;refine rtX O ⟨_,_,_,_,_,_,rfl,mm_,tyT,_,(dQ (aI _)),(aI _),rfl⟩ ?_;exact rfl
theorem LU (a b:R) (ha:a.Ok) (hb:b.Ok) :
    Ret prog 100 [RV a,RV b] (.int .i64 (Z.cmp a.dec b.dec)):=by
 refine bA (N:=47) func100 O O zz_ (fun w0=>?_);refine giI ?_;refine go_ ?_;refine aY O (lC O O (fun b2 hb2=>aY O (lC O O (fun b3 hb3=>go3 ?_))));refine gDk (sk (sk s0)) (.quiet 0 [1,2,5,6,7] (.quiet 3 [4,5,6,7] (.both 1 (.quiet 2 [5,6,7] (.only 4 (.quiet 5 [6,7] (.quiet 6 [7] (.quiet 7 [] (.fin)))))) 4 (.only 1 (.quiet 2 [5,6,7] (.quiet 5 [6,7] (.quiet 6 [7] (.quiet 7 [] (.fin))))))))) (rg [] 0 8) mix (by kernel_rfl) (by kernel_rfl) (pQ O (cI tyT O mm_ (cO ha)) ?_);refine pQ O (cI tyT O mm_ (cO hb)) ?_;refine z9 ?_ ?_
 ·refine cJ O O (kH rI mX rN O dd_ O (zB ha) (fun b8 hb8=>⟨(fun _=>by first|exact sd s0|exact s0),ss_,?_⟩));refine pQ O (dF aE O (fun w hw=>jH [a] (ok1 ha) b8 33 w (hw.mem ⟨b8,33,_⟩ (by first|exact m0|exact m1)) zz_)) ?_;refine cJ O O (kH rI mX rN O dd_ O (zB hb) (fun b11 hb11=>⟨(fun _=>by first|exact sd s0|exact s0),ss_,?_⟩));refine pQ O (dF aE O (fun w hw=>jH [b] (ok1 hb) b11 33 w (hw.mem ⟨b11,33,_⟩ (by first|exact m0|exact m1)) zz_)) ?_;refine go9 ?_
  cases hga:[a].all R.good
  ·refine go5 ?_;refine aL _ O (fun hgb=>?_) (fun hgb=>?_)
   ·replace hgb:=cB_ hgb
    refine go4 ?_;refine rt1 ?_;exact congrArg _ (SB (by simpa using hga) (by simpa using hgb))
   replace hgb:=cB_ hgb
   refine jE ?_;refine rt1 ?_;exact congrArg _ (SC (by simpa using hga) hb (by simpa using hgb))
  refine YV ?_;refine aL _ O (fun hgb=>?_) (fun hgb=>?_)
  ·replace hgb:=cB_ hgb
   refine go4 ?_;refine rt1 ?_;exact congrArg _ (SD ha (by simpa using hga) (by simpa using hgb))
  replace hgb:=cB_ hgb
  refine go_ ?_;refine sQ (cH fdT dd_ O) O (sQ (dX tyT O mm_ O) O ?_);refine sQ (cH fdT dd_ O) O (sQ (dX tyT O mm_ O) O ?_);refine sQ (xF E0 O O) O (go2 ?_);refine aL _ O (fun hn=>?_) (fun hn=>?_)
  ·replace hn:=cB_ hn
   refine go2 ?_;refine sQ (cH fdT dd_ O) O (sQ (dX tyT O mm_ O) O ?_);refine go_ ?_;refine aL _ O (fun hs=>?_) (fun hs=>?_)
   ·replace hs:=cB_ hs
    refine go4 ?_;refine rt1 ?_;exact congrArg _ (X8 ha hb (by simpa using hga) (by simpa using hgb) hn hs)
   replace hs:=cB_ hs
   refine go5 ?_;refine rt1 ?_;exact congrArg _ (X7 ha hb (by simpa using hga) (by simpa using hgb) hn (by simpa using hs))
  replace hn:=cB_ hn
  refine go_ ?_;refine sQ (cH fdT dd_ O) O (sQ (dX tyT O mm_ O) O ?_);refine go2 ?_;refine aL _ O (fun hs=>?_) (fun hs=>?_)
  ·replace hs:=cB_ hs
   refine go_ ?_;refine sQ (cH fdT dd_ O) O (sQ (jW (vs:=uw b.w) tyT O mm_ (nF hb.len) ((jB _).trans hb.len)) O ?_);refine sQ (cH fdT dd_ O) O (sQ (jW (vs:=uw a.w) tyT O mm_ (nF ha.len) ((jB _).trans ha.len)) O ?_);refine sQ (aX aE (rA b.w a.w hb.len ha.len hb.lim ha.lim) O) O (go3 ?_);refine rt1 ?_;exact congrArg _ (X9 ha hb (by simpa using hga) (by simpa using hgb) hn hs)
  replace hs:=cB_ hs
  refine go2 ?_;refine sQ (cH fdT dd_ O) O (sQ (jW (vs:=uw a.w) tyT O mm_ (nF ha.len) ((jB _).trans ha.len)) O ?_);refine sQ (cH fdT dd_ O) O (sQ (jW (vs:=uw b.w) tyT O mm_ (nF hb.len) ((jB _).trans hb.len)) O ?_);refine sQ (aX aE (rA a.w b.w ha.len hb.len ha.lim hb.lim) O) O (go3 ?_);refine rt1 ?_;exact congrArg _ (YA ha hb (by simpa using hga) (by simpa using hgb) hn (by simpa using hs))
 refine cJ O O (kH rI mX rN O dd_ O (zB hb) (fun b11 hb11=>⟨(fun _=>by first|exact sd s0|exact s0),ss_,?_⟩));refine cJ O O (kH rI mX rN O dd_ O (zB ha) (fun b8 hb8=>⟨(fun _=>by first|exact sd s0|exact s0),ss_,?_⟩));refine pQ O (dF aE O (fun w hw=>jH [a] (ok1 ha) b8 33 w (hw.mem ⟨b8,33,_⟩ (by first|exact m0|exact m1)) zz_)) ?_;refine pQ O (dF aE O (fun w hw=>jH [b] (ok1 hb) b11 33 w (hw.mem ⟨b11,33,_⟩ (by first|exact m0|exact m1)) zz_)) ?_;refine go9 ?_
 cases hga:[a].all R.good
 ·refine go5 ?_;refine aL _ O (fun hgb=>?_) (fun hgb=>?_)
  ·replace hgb:=cB_ hgb
   refine go4 ?_;refine rt1 ?_;exact congrArg _ (SB (by simpa using hga) (by simpa using hgb))
  replace hgb:=cB_ hgb
  refine jE ?_;refine rt1 ?_;exact congrArg _ (SC (by simpa using hga) hb (by simpa using hgb))
 refine YV ?_;refine aL _ O (fun hgb=>?_) (fun hgb=>?_)
 ·replace hgb:=cB_ hgb
  refine go4 ?_;refine rt1 ?_;exact congrArg _ (SD ha (by simpa using hga) (by simpa using hgb))
 replace hgb:=cB_ hgb
 refine go_ ?_;refine sQ (cH fdT dd_ O) O (sQ (dX tyT O mm_ O) O ?_);refine sQ (cH fdT dd_ O) O (sQ (dX tyT O mm_ O) O ?_);refine sQ (xF E0 O O) O (go2 ?_);refine aL _ O (fun hn=>?_) (fun hn=>?_)
 ·replace hn:=cB_ hn
  refine go2 ?_;refine sQ (cH fdT dd_ O) O (sQ (dX tyT O mm_ O) O ?_);refine go_ ?_;refine aL _ O (fun hs=>?_) (fun hs=>?_)
  ·replace hs:=cB_ hs
   refine go4 ?_;refine rt1 ?_;exact congrArg _ (X8 ha hb (by simpa using hga) (by simpa using hgb) hn hs)
  replace hs:=cB_ hs
  refine go5 ?_;refine rt1 ?_;exact congrArg _ (X7 ha hb (by simpa using hga) (by simpa using hgb) hn (by simpa using hs))
 replace hn:=cB_ hn
 refine go_ ?_;refine sQ (cH fdT dd_ O) O (sQ (dX tyT O mm_ O) O ?_);refine go2 ?_;refine aL _ O (fun hs=>?_) (fun hs=>?_)
 ·replace hs:=cB_ hs
  refine go_ ?_;refine sQ (cH fdT dd_ O) O (sQ (jW (vs:=uw b.w) tyT O mm_ (nF hb.len) ((jB _).trans hb.len)) O ?_);refine sQ (cH fdT dd_ O) O (sQ (jW (vs:=uw a.w) tyT O mm_ (nF ha.len) ((jB _).trans ha.len)) O ?_);refine sQ (aX aE (rA b.w a.w hb.len ha.len hb.lim ha.lim) O) O (go3 ?_);refine rt1 ?_;exact congrArg _ (X9 ha hb (by simpa using hga) (by simpa using hgb) hn hs)
 replace hs:=cB_ hs
 refine go2 ?_;refine sQ (cH fdT dd_ O) O (sQ (jW (vs:=uw a.w) tyT O mm_ (nF ha.len) ((jB _).trans ha.len)) O ?_);refine sQ (cH fdT dd_ O) O (sQ (jW (vs:=uw b.w) tyT O mm_ (nF hb.len) ((jB _).trans hb.len)) O ?_);refine sQ (aX aE (rA a.w b.w ha.len hb.len ha.lim hb.lim) O) O (go3 ?_);refine rt1 ?_;exact congrArg _ (YA ha hb (by simpa using hga) (by simpa using hgb) hn (by simpa using hs))
theorem LA (n:Nat) (IH:∀ (a b:R),a.Ok→b.Ok→val b.w<n→Ret prog 121 [RV a,RV b] (RV (Z.gcd a.dec b.dec).enc)) (a b:R) (ha:a.Ok) (hb:b.Ok) (hn:val b.w=n) :
    Ret prog 121 [RV a,RV b] (RV (Z.gcd a.dec b.dec).enc):=by
 refine bA (N:=80) func121 O O zz_ (fun w0=>?_);refine giI ?_;refine go_ ?_;refine aY O (lC O O (fun b2 hb2=>aY O (lC O O (fun b3 hb3=>aY O (eS mX (fun b4 hb4=>go3 ?_))))));refine sQ (cI tyT O mm_ (cO ha)) O ?_;refine sQ (cI tyT O mm_ (cO hb)) O ?_;refine aY O (kH rI mX rN O dd_ O (OC ha hb) (fun b13 hb13=>sQ (dF aE O (fun w hw=>jH [a,b] (ok2 ha hb) b13 33 w (hw.mem _ m0) zz_)) O ?_));refine go2 ?_;refine aL _ O (fun hg=>?_) (fun hg=>?_)
 ·replace hg:=cB_ hg
  refine go_ ?_;refine sQ (aX aE gQ O) O (aY O (bV tyT O O uu_ (aI _) O (bN _) (.inl fP) ?_));refine go2 ?_;refine rtX O ⟨_,_,_,_,_,_,rfl,mm_,tyT,_,(dQ (aI _)),(aI _),rfl⟩ ?_;exact congrArg RV (bf_ hg)
 replace hg:=cB_ hg
 have hg:=all2.1 hg;refine go_ ?_;refine rX (rg [5,6] 17 43) (fun g M=>(True)∧M=[⟨b4,33,zR⟩,⟨b3,33,b.cells⟩,⟨b2,33,a.cells⟩]∧(True)) (fun K5 J5=>?_) ?_
 ·refine go_ ?_;refine sQ (cH fdT dd_ O) O (sQ (jW (vs:=uw a.w) tyT O mm_ (nF ha.len) ((jB _).trans ha.len)) O ?_);refine sQ (aX aE (qH a.w ha.len) O) O (go2 ?_)
  cases hsz:decide ((szL a.w:Int)≤2)
  ·refine go8 ?_;refine J5 _ _ pp_ ⟨_,(List.Sublist.cons _ (List.Sublist.refl _)),trivial,?mem,trivial⟩
   case mem=>rfl
  refine sQ (cH fdT dd_ O) O (sQ (jW (vs:=uw b.w) tyT O mm_ (nF hb.len) ((jB _).trans hb.len)) O ?_);refine sQ (aX aE (qH b.w hb.len) O) O (go3 ?_);refine aL _ O (fun hsz2=>?_) (fun hsz2=>?_)
  ·replace hsz2:=cB_ hsz2
   have hA64:=sz2 ha (by have:=of_decide_eq_true hsz;omega);have hB64:=sz2 hb oo_;refine go_ ?_;refine gdr (sk (sk (sk (sk s0)))) [0,4,8,12,16,20,24,28,32,36,40,44,48,52,56,60,64,68,72,76,80,84] [] mix (by kernel_rfl) (pQ O (cH fdT dd_ O) (pQ O (eZ arT O O dd_ dd_) (pQ O (dX tyT O mm_ (oZ (r:=a) (k:=1) (by rw [ha.len];omega))) ?_)));refine pQ O (aM (eX i4 gA O) (zL (eJ ha.lim _))) (pQ O (aM (ER O O dd_) (congrArg (Value.int .u64) (z5 (eJ ha.lim _)))) (pQ O (cH fdT dd_ O) (pQ O (eZ arT O O dd_ dd_) (pQ O (dX tyT O mm_ (oZ (r:=a) (k:=0) (by rw [ha.len];omega))) ?_))));refine pQ O (aM (eX i4 gA O) (zL (eJ ha.lim _))) (pQ O (aM (OT O O) (congrArg (Value.int .u64) ((QW (eJ ha.lim _) (eJ ha.lim _)).trans (congrArg (fun m:Nat=>(m:Int)) (CH ha hA64))))) (pQ O (cH fdT dd_ O) (pQ O (eZ arT O O dd_ dd_) (pQ O (dX tyT O mm_ (oZ (r:=b) (k:=1) (by rw [hb.len];omega))) ?_))));refine pQ O (aM (eX i4 gA O) (zL (eJ hb.lim _))) (pQ O (aM (ER O O dd_) (congrArg (Value.int .u64) (z5 (eJ hb.lim _)))) (pQ O (cH fdT dd_ O) (pQ O (eZ arT O O dd_ dd_) (pQ O (dX tyT O mm_ (oZ (r:=b) (k:=0) (by rw [hb.len];omega))) ?_))));refine pQ O (aM (eX i4 gA O) (zL (eJ hb.lim _))) (pQ O (aM (OT O O) (congrArg (Value.int .u64) ((QW (eJ hb.lim _) (eJ hb.lim _)).trans (congrArg (fun m:Nat=>(m:Int)) (CH hb hB64))))) (go5 ?_));refine cE (rg [5,6] 47 6) (fun g nn M=>∃ (x y:Nat),(g 5 = .int .u64 (x:Int)∧g 6 = .int .u64 (y:Int))∧M=[⟨b4,33,zR⟩,⟨b3,33,b.cells⟩,⟨b2,33,a.cells⟩]∧nn=y∧(x<18446744073709551616∧y<18446744073709551616∧Nat.gcd x y=Nat.gcd (val a.w) (val b.w))) (val b.w) ?start ?round
   case start =>
    refine ⟨_,(List.Sublist.cons _ (List.Sublist.refl _)),_,_,⟨?a5,?a6⟩,?mem0,rfl,⟨hA64,hB64,rfl⟩⟩
    case mem0=>rfl
    case a5=>rfl
    case a6=>rfl
   case round =>
    rintro nn g M ⟨x,y,⟨hg5,hg6⟩,rfl,hmeas,⟨hx64,hy64,hgc⟩⟩;subst nn;refine gS2 hg5 hg6 ?_;clear hg5 hg6;refine go5 ?_;refine aL _ O (fun hy0=>?_) (fun hy0=>?_)
    ·replace hy0:=cB_ hy0
     refine go2 ?_;refine kY (sk (sk (sk s0))) 6 [] [] (go3 ?_);refine pQ O (aM (tQ O O oo_) (congrArg (Value.int .u64) (EH _ _))) (go3 ?_);refine ⟨pp_,_,_,(List.Sublist.refl _),(Nat.mod_lt _ oo_),y,x % y,⟨?s5,?s6⟩,?mem,rfl,⟨hy64,Nat.lt_of_le_of_lt (Nat.mod_le _ _) hx64,by rw [Nat.gcd_comm,← Nat.gcd_rec,Nat.gcd_comm];exact hgc⟩⟩
     case mem=>rfl
     case s5=>rfl
     case s6=>rfl
    replace hy0:=cB_ hy0
    refine go3 ?_;refine sQ (eX gA i4 O) O (go_ ?_);refine sQ (aM (xZ O O dd_) (congrArg (Value.int .u64) (uS _ 32))) O (sQ (eX gA i4 O) O (sQ (sD sU arT O (dl_ hx64)) O (sQ (aX aE (fM false _ zz_ (Y7 (Nat.mod_lt _ dd_) oo_ 14)) O) O ?_)));refine aY O (bV tyT O O uu_ (jY zz_) O (bN _) (.inl fP) ?_);refine go2 ?_;refine rtX O ⟨_,_,_,_,_,_,rfl,mm_,tyT,_,(dQ (jY zz_)),(jY zz_),rfl⟩ ?_;exact bg_ ha hb hg.1 hg.2 hx64 (bh_ hx64 hgc oo_)
  replace hsz2:=cB_ hsz2
  refine go_ ?_;refine J5 _ _ pp_ ⟨_,(List.Sublist.cons _ (List.Sublist.refl _)),trivial,?mem,trivial⟩
  case mem=>rfl
 rintro g M ⟨-,rfl,-⟩;refine gS0 ?_;refine go2 ?_;refine gDk (sk (sk (sk s0))) (.quiet 0 [1,6,7] (.quiet 1 [6,7] (.still 2 [3,7] (.still 3 [7] (.both 4 (.only 5 (.only 6 (.only 7 (.fin)))) 5 (.only 4 (.only 6 (.only 7 (.fin))))))))) [0,1,2,3,4,5] mix (by kernel_rfl) (by kernel_rfl) (pQ O (cH fdT dd_ O) (pQ O (jW (vs:=uw a.w) tyT O mm_ (nF ha.len) ((jB _).trans ha.len)) ?_));refine vZ O O (cH fdT dd_ O) (vZ O O (jW (vs:=uw b.w) tyT O mm_ (nF hb.len) ((jB _).trans hb.len)) ?_);refine z9 ?_ ?_
 ·refine cJ O O (eS sU (fun b7 hb7=>⟨(fun _=>by first|exact sd s0|exact s0),ss_,?_⟩));refine cJ O O (eS sU (fun b8 hb8=>⟨(fun _=>by first|exact sd s0|exact s0),ss_,?_⟩));refine cJ O O (bV tyT O O uu_ (by simp [uw,ha.len]) (by simp [uw]) (jP _) (.inl fP) ⟨nf,ss_,?_⟩);refine cJ O O (bV tyT O O uu_ (by simp [uw,hb.len]) (by simp [uw]) (jP _) (.inl fP) ⟨nf,ss_,?_⟩);refine go2 ?_;refine sQ (cI tyT O mm_ (by simp [uw,hb.len])) O ?_;refine sQ (sD sU arT O (.nil _)) O ?_;refine sQ (wP (r:=(val b.w==0)) O O (kC 8 dd_ JA JP (qG hb.len) (qG zz_) (EL hb.len hb.lim))) O ?_;refine go_ ?_;refine aL _ O (fun hb0=>?_) (fun hb0=>?_)
  ·replace hb0:=cB_ hb0
   have hp:0<val b.w:=Nat.pos_of_ne_zero (by simpa using hb0);refine go_ ?_;refine sQ (cI tyT O mm_ (by simp [uw,ha.len])) O ?_;refine sQ (cI tyT O mm_ (by simp [uw,hb.len])) O ?_;refine sQ (aX aE (vJ a.w b.w ha.len hb.len ha.lim hb.lim hp) O) O (go3 ?_);refine aY O (eS sU (fun b9 hb9=>aY O (eS sU (fun b10 hb10=>aY O (bV tyT O O uu_ (by simp [uw,dB]) (by simp [uw]) (jP _) (.inl fP) ?_)))));refine aY O (bV tyT O O uu_ (by simp [uw,dB]) (by simp [uw]) (jP _) (.inl fP) ?_);refine go2 ?_;refine gdr (sk (sk (sk (sk (sd (sk (sk s0))))))) [0,4,8,12,16,21] [5] mix (by kernel_rfl) (pQ O (cI tyT O mm_ (by simp [uw,hb.len])) ?_);refine pQ O (aM (aX aE (fM false b.w hb.len hb.lim) O) (G6 hb.len hb.lim false)) (pQ O (cI tyT O mm_ (by simp [uw,dB])) ?_);refine pQ O (aM (aX aE (fM false _ (dB _ _) (nT _ _)) O) (congrArg RV (pY false (wL ha)))) (pQ O (aX aE (IH (Z.of (sgn false (val b.w))).enc (Z.of (sgn false (val a.w % val b.w))).enc (Z.enc_ok _) (Z.enc_ok _) (by rw [T9 (wL ha),← hn];exact Nat.mod_lt _ hp)) O) ?_);refine cJ O O (bV tyT O O uu_ (aI _) O (bN _) (.inl fP) ⟨nf,ss_,?_⟩);refine go2 ?_;refine rtX O ⟨_,_,_,_,_,_,rfl,mm_,tyT,_,(dQ (aI _)),(aI _),rfl⟩ ?_;exact QD ha hb hg.1 hg.2
  replace hb0:=cB_ hb0
  refine go2 ?_;refine sQ (cI tyT O mm_ (cO ha)) O ?_;refine sQ (aX aE (EV a ha) O) O (aY O (bV tyT O O uu_ (aI _) O (bN _) (.inl fP) ?_));refine go2 ?_;refine rtX O ⟨_,_,_,_,_,_,rfl,mm_,tyT,_,(dQ (aI _)),(aI _),rfl⟩ ?_;exact QE ha hb hg.1 hg.2 (by simpa using hb0)
 refine cJ O O (eS sU (fun b8 hb8=>⟨(fun _=>by first|exact sd s0|exact s0),ss_,?_⟩));refine cJ O O (eS sU (fun b7 hb7=>⟨(fun _=>by first|exact sd s0|exact s0),ss_,?_⟩));refine cJ O O (bV tyT O O uu_ (by simp [uw,ha.len]) (by simp [uw]) (jP _) (.inl fP) ⟨nf,ss_,?_⟩);refine cJ O O (bV tyT O O uu_ (by simp [uw,hb.len]) (by simp [uw]) (jP _) (.inl fP) ⟨nf,ss_,?_⟩);refine go2 ?_;refine sQ (cI tyT O mm_ (by simp [uw,hb.len])) O ?_;refine sQ (sD sU arT O (.nil _)) O ?_;refine sQ (wP (r:=(val b.w==0)) O O (kC 8 dd_ JA JP (qG hb.len) (qG zz_) (EL hb.len hb.lim))) O ?_;refine go_ ?_;refine aL _ O (fun hb0=>?_) (fun hb0=>?_)
 ·replace hb0:=cB_ hb0
  have hp:0<val b.w:=Nat.pos_of_ne_zero (by simpa using hb0);refine go_ ?_;refine sQ (cI tyT O mm_ (by simp [uw,ha.len])) O ?_;refine sQ (cI tyT O mm_ (by simp [uw,hb.len])) O ?_;refine sQ (aX aE (vJ a.w b.w ha.len hb.len ha.lim hb.lim hp) O) O (go3 ?_);refine aY O (eS sU (fun b9 hb9=>aY O (eS sU (fun b10 hb10=>aY O (bV tyT O O uu_ (by simp [uw,dB]) (by simp [uw]) (jP _) (.inl fP) ?_)))));refine aY O (bV tyT O O uu_ (by simp [uw,dB]) (by simp [uw]) (jP _) (.inl fP) ?_);refine go2 ?_;refine gdr (sk (sk (sk (sk (sd (sk (sk s0))))))) [0,4,8,12,16,21] [5] mix (by kernel_rfl) (pQ O (cI tyT O mm_ (by simp [uw,hb.len])) ?_);refine pQ O (aM (aX aE (fM false b.w hb.len hb.lim) O) (G6 hb.len hb.lim false)) (pQ O (cI tyT O mm_ (by simp [uw,dB])) ?_);refine pQ O (aM (aX aE (fM false _ (dB _ _) (nT _ _)) O) (congrArg RV (pY false (wL ha)))) (pQ O (aX aE (IH (Z.of (sgn false (val b.w))).enc (Z.of (sgn false (val a.w % val b.w))).enc (Z.enc_ok _) (Z.enc_ok _) (by rw [T9 (wL ha),← hn];exact Nat.mod_lt _ hp)) O) ?_);refine cJ O O (bV tyT O O uu_ (aI _) O (bN _) (.inl fP) ⟨nf,ss_,?_⟩);refine go2 ?_;refine rtX O ⟨_,_,_,_,_,_,rfl,mm_,tyT,_,(dQ (aI _)),(aI _),rfl⟩ ?_;exact QD ha hb hg.1 hg.2
 replace hb0:=cB_ hb0
 refine go2 ?_;refine sQ (cI tyT O mm_ (cO ha)) O ?_;refine sQ (aX aE (EV a ha) O) O (aY O (bV tyT O O uu_ (aI _) O (bN _) (.inl fP) ?_));refine go2 ?_;refine rtX O ⟨_,_,_,_,_,_,rfl,mm_,tyT,_,(dQ (aI _)),(aI _),rfl⟩ ?_;exact QE ha hb hg.1 hg.2 (by simpa using hb0)
theorem AM (a b:R) (ha:a.Ok) (hb:b.Ok):Ret prog 121 [RV a,RV b] (RV (Z.gcd a.dec b.dec).enc):=by
 generalize hn:val b.w=n
 induction n using Nat.strongRecOn generalizing a b with
 | ind n ih=>exact LA n (fun a b ha hb h=>ih _ h a b ha hb O) a b ha hb hn
end Go.Proofs.YtbjlhfochebmiaaGreatDoor
