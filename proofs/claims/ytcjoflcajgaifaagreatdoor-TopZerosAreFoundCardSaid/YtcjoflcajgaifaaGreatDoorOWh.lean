/- Lemmas: what they ask stands in their statements. -/
import Derived.Test.YtcjoflcajgaifaaGreatDoorOWc
set_option linter.unusedSimpArgs false
set_option linter.unusedVariables false
set_option maxHeartbeats 8000000
set_option maxRecDepth 20000
namespace Go.Proofs.YtcjoflcajgaifaaGreatDoor
open Go.Kn Go.Num Tryz
attribute [local irreducible] Go.Kn.W WL PL OpQ OpR OpS
theorem HK (a:R) (ha:a.Ok) :
   Ret prog 198 [RV a] (.int .i64 (a.dec.bits:Int)):=by
 refine bG (N:=25) func198 O O zz_ (fun w0=>?_);refine giI ?_;refine go_ ?_;refine aQ O (gW O O (fun b1 hb1=>go3 ?_));refine sQ (bT fdT dd_ O) O (sQ (fM (vs:=uw a.w) tyT O mm_ (iU ha.len) ((e8 _).trans ha.len)) O ?_);refine sQ (aW aH (kW a.w ha.len) O) O (go4 ?_);refine sQ (bU tyT O mm_ (cJ ha)) O ?_;refine aQ O (gQ pX kB oJ O dd_ O (uA ha) (fun b8 hb8=>sQ (eH aH O (fun w hw=>fP [a] (ok1 ha) b8 31 w (hw.mem _ m0) zz_)) O ?_));refine go2 ?_
 cases hg:[a].all R.good
 ·refine go9 ?_;refine rt1 ?_;exact congrArg (fun n:Nat=>Value.int .i64 (n:Int)) (WY (by simpa using hg))
 refine go4 ?_;refine aT _ O (fun hz=>?_) (fun hz=>?_)
 ·replace hz:=cB_ hz
  refine go4 ?_;refine rt1 ?_;exact congrArg (fun n:Nat=>Value.int .i64 (n:Int)) (UR ha (by simpa using hg) oo_)
 replace hz:=cB_ hz
 refine go2 ?_
 have hs1:1≤szL a.w:=by omega
 have hs16:szL a.w≤16:=by have:=rN a.w;rw [ha.len] at this;exact this
 refine go_ ?_;refine sQ (aE (lL O O) (congrArg (Value.int .i64) (pP (b:=1) O oo_ oo_))) O (sQ (aE (TN O O) (congrArg (Value.int .i64) (fx_ O oo_))) O (go_ ?_));refine sQ (aE (lL O O) (congrArg (Value.int .i64) (pP (b:=1) O oo_ oo_))) O (sQ (bT fdT dd_ O) O (sQ (dS arT O O oo_ oo_) O (sQ (cU tyT O mm_ (kX (r:=a) (k:=szL a.w - 1) (by rw [ha.len];omega))) O ?_)));refine sQ (aW aH (I4 _ (dA ha.lim _)) O) O (sQ (aE (fZ O O) (congrArg (Value.int .i64) (lE (by have:=sH (k:=32) (dA ha.lim (szL a.w - 1));omega)))) O (go3 ?_));refine rt1 ?_;exact congrArg (fun n:Nat=>Value.int .i64 (n:Int)) (W0 ha (by simpa using hg) hs1)
theorem wP (a:R) (ha:a.Ok) :
    Ret prog 165 [RV a] (.tuple #[.int .i64 a.dec.small.1,.bool a.dec.small.2]):=by
 refine bG (N:=44) func165 O O zz_ (fun w0=>?_);refine giI ?_;refine go_ ?_;refine aQ O (gW O O (fun b1 hb1=>go5 ?_));refine sQ (bU tyT O mm_ (cJ ha)) O ?_;refine aQ O (gQ pX kB oJ O dd_ O (uA ha) (fun b6 hb6=>sQ (eH aH O (fun w hw=>fP [a] (ok1 ha) b6 31 w (hw.mem _ m0) zz_)) O ?_));refine go2 ?_
 cases hg:[a].all R.good
 ·refine zX ?_;refine rt2 ?_;exact VW (by simpa using hg)
 refine sQ (bU tyT O mm_ (cJ ha)) O ?_;refine sQ (aW aH (HK a ha) O) O (go3 ?_);refine aT _ O (fun hb=>?_) (fun hb=>?_)
 ·replace hb:=cB_ hb
  refine go5 ?_;refine rt2 ?_;exact RX ha (by simpa using hg) hb
 replace hb:=cB_ hb
 have h64:=dz_ ha (by simpa using hg) hb;refine go2 ?_;refine sQ (bT fdT dd_ O) O (sQ (dS arT O O dd_ dd_) O (sQ (cU tyT O mm_ (kX (r:=a) (k:=1) (by rw [ha.len];omega))) O ?_));refine sQ (aE (dD fD eO O) (tB (dA ha.lim _))) O (sQ (aE (BI O O dd_) (congrArg (Value.int .u64) (tW (dA ha.lim _)))) O (sQ (bT fdT dd_ O) O (sQ (dS arT O O dd_ dd_) O (sQ (cU tyT O mm_ (kX (r:=a) (k:=0) (by rw [ha.len];omega))) O ?_))));refine sQ (aE (dD fD eO O) (tB (dA ha.lim _))) O (sQ (aE (L0 O O) (congrArg (Value.int .u64) ((OS (dA ha.lim _) (dA ha.lim _)).trans (congrArg (fun m:Nat=>(m:Int)) (AD ha h64))))) O (go5 ?_));refine sQ (bT fdT dd_ O) O (sQ (cU tyT O mm_ O) O ?_);refine go_ ?_
 cases hn:a.neg
 ·refine go7 ?_;refine sQ (bT fdT dd_ O) O (sQ (cU tyT O mm_ O) O ?_);refine go_ ?_;rw [hn];refine go6 ?_;refine aT _ O (fun hlt=>?_) (fun hlt=>?_)
  ·replace hlt:=cB_ hlt
   refine go2 ?_;refine sQ (aE (dD eO y9 O) (congrArg (Value.int .i64) (VY oo_))) O (go4 ?_);refine rt2 ?_;exact PM ha (by simpa using hg) (by rw [hn];rfl) (by rw [hn,u4];omega)
  replace hlt:=cB_ hlt
  refine go6 ?_;refine rt2 ?_;exact CY ha (by simpa using hg) (by rw [hn,u4];omega)
 refine go5 ?_;refine aT _ O (fun hle=>?_) (fun hle=>?_)
 ·replace hle:=cB_ hle
  refine go3 ?_;refine sQ (aE (dD eO y9 O) (congrArg (Value.int .i64) (VX oo_))) O (go4 ?_);refine rt2 ?_;exact PM ha (by simpa using hg) (by rw [hn];rfl) (by rw [hn,x9];omega)
 replace hle:=cB_ hle
 refine go_ ?_;refine sQ (bT fdT dd_ O) O (sQ (cU tyT O mm_ O) O ?_);refine go_ ?_;rw [hn];refine U1 ?_;refine rt2 ?_;exact CY ha (by simpa using hg) (by rw [hn,x9];omega)
theorem tY (a b:R) (ha:a.Ok) (hb:b.Ok) :
    Ret prog 114 [RV a,RV b] (.tuple #[RV (Z.quo a.dec b.dec).enc,RV (Z.rem a.dec b.dec).enc]):=by
 refine bG (N:=108) func114 O O zz_ (fun w0=>?_);refine giI ?_;refine go_ ?_;refine aQ O (gW O O (fun b2 hb2=>aQ O (gW O O (fun b3 hb3=>aQ O (dL kB (fun b4 hb4=>aQ O (dL kB (fun b5 hb5=>go3 ?_))))))));refine sQ (bU tyT O mm_ (cJ ha)) O ?_;refine sQ (bU tyT O mm_ (cJ hb)) O ?_;refine aQ O (gQ pX kB oJ O dd_ O (LB ha hb) (fun b17 hb17=>sQ (eH aH O (fun w hw=>fP [a,b] (ok2 ha hb) b17 31 w (hw.mem _ m0) zz_)) O ?_));refine go2 ?_
 cases hg:[a,b].all R.good
 ·refine go7 ?_;refine sQ (aW aH fU O) O (sQ (aW aH fU O) O (aQ O (bE tyT O O uu_ (aG _) O (bC _) (.inl eU) ?_)));refine aQ O (bE tyT O O uu_ (aG _) O (bC _) (.inl eU) ?_);refine go2 ?_;refine rB O (.inr O) ⟨_,_,_,_,_,_,rfl,mm_,tyT,_,(dB (aG _)),(aG _),rfl⟩ ⟨_,_,_,_,_,_,rfl,mm_,tyT,_,(dB (aG _)),(aG _),rfl⟩ ?_;exact b0_ (BD hg)
 have hg:=all2.1 hg;refine sQ (bU tyT O mm_ (cJ hb)) O ?_;refine sQ (aW aH (fH b hb) O) O (go3 ?_);refine aT _ O (fun hs0=>?_) (fun hs0=>?_)
 ·replace hs0:=cB_ hs0
  refine go_ ?_;refine sQ (aW aH fU O) O (sQ (aW aH fU O) O (aQ O (bE tyT O O uu_ (aG _) O (bC _) (.inl eU) ?_)));refine aQ O (bE tyT O O uu_ (aG _) O (bC _) (.inl eU) ?_);refine go2 ?_;refine rB O (.inr O) ⟨_,_,_,_,_,_,rfl,mm_,tyT,_,(dB (aG _)),(aG _),rfl⟩ ⟨_,_,_,_,_,_,rfl,mm_,tyT,_,(dB (aG _)),(aG _),rfl⟩ ?_;exact Z8 ha hb hg.1 hg.2 hs0
 replace hs0:=cB_ hs0
 have hs0:b.dec.sign≠0:=hs0;have hp:=D7 hb hg.2 hs0;refine go_ ?_;refine kF (rg [6,7,8,9,10,11] 27 44) (fun g M=>(True)∧M=[⟨b5,31,zR⟩,⟨b4,31,zR⟩,⟨b3,31,b.cells⟩,⟨b2,31,a.cells⟩]∧(True)) (fun K6 J6=>?_) ?_
 ·refine go_ ?_;refine sQ (bU tyT O mm_ (cJ ha)) O ?_;refine sQ (aW aH (wP a ha) O) O (go9 ?_)
  cases hsa:a.dec.small.2
  ·refine go6 ?_;refine J6 _ _ pp_ ⟨_,(List.Sublist.cons _ (List.Sublist.refl _)),trivial,?mem,trivial⟩
   case mem=>rfl
  refine go4 ?_;refine aT _ O (fun hma=>?_) (fun hma=>?_)
  ·replace hma:=cB_ hma
   have ea:=G2 hsa;refine go_ ?_;refine sQ (bU tyT O mm_ (cJ hb)) O ?_;refine sQ (aW aH (wP b hb) O) O (go9 ?_)
   cases hsb:b.dec.small.2
   ·refine go6 ?_;refine J6 _ _ pp_ ⟨_,(List.Sublist.cons _ (List.Sublist.refl _)),trivial,?mem,trivial⟩
    case mem=>rfl
   refine go4 ?_;refine aT _ O (fun hmb=>?_) (fun hmb=>?_)
   ·replace hmb:=cB_ hmb
    have eb:=G2 hsb;have hy0:=MJ eb.1 hs0;have hq64:I64 (a.dec.small.1.tdiv b.dec.small.1):=Z5 ea.2 hma;have hr64:=er_ (x:=a.dec.small.1) hy0 eb.2;refine go_ ?_;refine lJ (sk (sk (sk (sk (sk s0))))) 8 [] [] (go2 ?_);refine pQ O (aE (oF O O hy0) (congrArg (Value.int .i64) (bR (Z5 ea.2 hma)))) (go2 ?_);refine pQ O (pW O O hy0) (go8 ?_)
    cases hr0:(a.dec.small.1.tmod b.dec.small.1 != 0)
    ·refine zX ?_;refine sQ (aW aH (eJ _ (by first|exact hI1|exact hq64)) O) O ?_;refine go_ ?_;refine sQ (aW aH (eJ _ (by first|exact hI2|exact hr64)) O) O ?_;refine aQ O (bE tyT O O uu_ (aG _) O (bC _) (.inl eU) ?_);refine aQ O (bE tyT O O uu_ (aG _) O (bC _) (.inl eU) ?_);refine go2 ?_;refine rB O (.inr O) ⟨_,_,_,_,_,_,rfl,mm_,tyT,_,(dB (aG _)),(aG _),rfl⟩ ⟨_,_,_,_,_,_,rfl,mm_,tyT,_,(dB (aG _)),(aG _),rfl⟩ ?_;exact CX ea.1 eb.1 hs0 (SP hy0 (.inl (by simpa using hr0)))
    refine go4 ?_;refine sQ (CP QG O O) O (go2 ?_);refine aT _ O (fun hsg=>?_) (fun hsg=>?_)
    ·replace hsg:=cB_ hsg
     have hI1:I64 (a.dec.small.1.tdiv b.dec.small.1 - 1):=em_ ea.2 hma;have hI2:=es_ hy0 eb.2 (bne_iff_ne.2 hsg);refine go2 ?_;refine sQ (aE (lL O O) (congrArg (Value.int .i64) (bR hI1))) O (go2 ?_);refine sQ (aE (fZ O O) (congrArg (Value.int .i64) (bR hI2))) O (go5 ?_);refine sQ (aW aH (eJ _ (by first|exact hI1|exact hq64)) O) O ?_;refine go_ ?_;refine sQ (aW aH (eJ _ (by first|exact hI2|exact hr64)) O) O ?_;refine aQ O (bE tyT O O uu_ (aG _) O (bC _) (.inl eU) ?_);refine aQ O (bE tyT O O uu_ (aG _) O (bC _) (.inl eU) ?_);refine go2 ?_;refine rB O (.inr O) ⟨_,_,_,_,_,_,rfl,mm_,tyT,_,(dB (aG _)),(aG _),rfl⟩ ⟨_,_,_,_,_,_,rfl,mm_,tyT,_,(dB (aG _)),(aG _),rfl⟩ ?_;exact CX ea.1 eb.1 hs0 (dP_ hy0 (by simpa using hr0) (bne_iff_ne.2 hsg))
    replace hsg:=cB_ hsg
    refine go3 ?_;refine sQ (aW aH (eJ _ (by first|exact hI1|exact hq64)) O) O ?_;refine go_ ?_;refine sQ (aW aH (eJ _ (by first|exact hI2|exact hr64)) O) O ?_;refine aQ O (bE tyT O O uu_ (aG _) O (bC _) (.inl eU) ?_);refine aQ O (bE tyT O O uu_ (aG _) O (bC _) (.inl eU) ?_);refine go2 ?_;refine rB O (.inr O) ⟨_,_,_,_,_,_,rfl,mm_,tyT,_,(dB (aG _)),(aG _),rfl⟩ ⟨_,_,_,_,_,_,rfl,mm_,tyT,_,(dB (aG _)),(aG _),rfl⟩ ?_;exact CX ea.1 eb.1 hs0 (SP hy0 (.inr (by simpa using hsg)))
   replace hmb:=cB_ hmb
   refine go_ ?_;refine J6 _ _ pp_ ⟨_,(List.Sublist.cons _ (List.Sublist.refl _)),trivial,?mem,trivial⟩
   case mem=>rfl
  replace hma:=cB_ hma
  refine go_ ?_;refine J6 _ _ pp_ ⟨_,(List.Sublist.cons _ (List.Sublist.refl _)),trivial,?mem,trivial⟩
  case mem=>rfl
 rintro g M ⟨-,rfl,-⟩;refine gS0 ?_;refine go_ ?_;refine sQ (bT fdT dd_ O) O (sQ (fM (vs:=uw a.w) tyT O mm_ (iU ha.len) ((e8 _).trans ha.len)) O ?_);refine sQ (bT fdT dd_ O) O (sQ (fM (vs:=uw b.w) tyT O mm_ (iU hb.len) ((e8 _).trans hb.len)) O ?_);refine sQ (aW aH (oT a.w b.w ha.len hb.len ha.lim hb.lim hp) O) O (go3 ?_);refine aQ O (dL lU (fun b12 hb12=>aQ O (dL lU (fun b13 hb13=>aQ O (bE tyT O O uu_ (by simp [uw,cM]) (by simp [uw]) (fL _) (.inl eU) ?_)))));refine aQ O (bE tyT O O uu_ (by simp [uw,cM]) (by simp [uw]) (fL _) (.inl eU) ?_);refine go2 ?_;refine sQ (bT fdT dd_ O) O (sQ (cU tyT O mm_ O) O ?_);refine sQ (bT fdT dd_ O) O (sQ (cU tyT O mm_ O) O ?_);refine sQ (CP QG O O) O (sQ (bU tyT O mm_ (by simp [uw,cM])) O ?_);refine sQ (aE (aW aH (eV (a.neg != b.neg) _ (cM _ _) (kE _ _)) O) (congrArg RV (lY _ (Z7 ha)))) O (aQ O (dL kB (fun b14 hb14=>aQ O (bE tyT O O uu_ (aG _) O (bC _) (.inl eU) ?_))));refine go_ ?_;refine kF (rg [] 86 17) (fun g M=>∃ (z:Z) (l:List Nat),(True)∧M=[⟨b14,31,z.enc.cells⟩,⟨b13,29,uw l⟩,⟨b12,29,uw (toL 16 (val a.w / val b.w))⟩,⟨b5,31,zR⟩,⟨b4,31,zR⟩,⟨b3,31,b.cells⟩,⟨b2,31,a.cells⟩]∧(l.length=16∧Lim l∧z=Z.quo a.dec b.dec∧R.mk false (b.neg && !(val l==0)) l=(Z.rem a.dec b.dec).enc)) (fun K19 J19=>?_) ?_
 ·refine go_ ?_;refine sQ (bU tyT O mm_ (by simp [uw,cM])) O ?_;refine sQ (lG lU arT O (.nil _)) O ?_;refine sQ (CO (r:=(val a.w % val b.w==0)) O O (jP 8 dd_ C8 DH (kA (cM _ _)) (kA zz_) (ac_ ha))) O ?_;refine go_ ?_
  cases hr1:(val a.w % val b.w==0)
  ·refine sQ (bT fdT dd_ O) O (sQ (cU tyT O mm_ O) O ?_);refine sQ (bT fdT dd_ O) O (sQ (cU tyT O mm_ O) O ?_);refine sQ (CP QG O O) O (go2 ?_);refine aT _ O (fun hne=>?_) (fun hne=>?_)
   ·replace hne:=cB_ hne
    refine gdr (sd (sd (sk (sk (sk (sk (sk s0))))))) [0,4,8,12,16,20,24,29,33] [7,8] mix (by kernel_rfl) (pQ O (bU tyT O mm_ (aG _)) ?_);refine pQ O (aW aH (eJ 1 (by unfold I64;decide)) O) (pQ O (aW aH (oL (Z.of (sgn (a.neg != b.neg) (val a.w / val b.w))).enc (Z.of 1).enc (Z.enc_ok _) (Z.enc_ok _)) O) (pQ O (bT fdT dd_ O) (pQ O (fM (vs:=uw b.w) tyT O mm_ (iU hb.len) ((e8 _).trans hb.len)) ?_)));refine pQ O (bU tyT O mm_ (by simp [uw,cM])) ?_;refine pQ O (aW aH (rQ b.w _ hb.len (cM _ _) hb.lim (kE _ _) (et_ ha hp)) O) ?_;refine dC O O (bE tyT O O uu_ (aG _) (aG _) (bC _) (.inl eU) ⟨nf,ss_,?_⟩);refine dC O O (bE tyT O O uu_ (by simp [uw,cM]) (by simp [uw,cM]) (fL _) (.inl eU) ⟨nf,ss_,?_⟩);refine go_ ?_;refine J19 _ _ pp_ ⟨_,(List.Sublist.refl _),_,_,trivial,?mem,bo_ ha hb hg.1 hg.2 hp (by simpa using hr1) hne⟩
    case mem=>rfl
   replace hne:=cB_ hne
   refine go_ ?_;refine J19 _ _ pp_ ⟨_,(List.Sublist.refl _),_,_,trivial,?mem,NU ha hb hg.1 hg.2 hp (.inr (by simpa using hne))⟩
   case mem=>rfl
  refine go9 ?_;refine J19 _ _ pp_ ⟨_,(List.Sublist.refl _),_,_,trivial,?mem,NU ha hb hg.1 hg.2 hp (.inl (by simpa using hr1))⟩
  case mem=>rfl
 rintro g M ⟨z,l,-,rfl,⟨hl16,hlim,hzq,hzr⟩⟩;refine gS0 ?_;refine go_ ?_;refine gdr (sk (sk (sk (sd (sd (sk (sk s0))))))) [0,4,8,12,16,21,25] [5,6] mix (by kernel_rfl) (pQ O (bU tyT O mm_ (aG _)) ?_);refine pQ O (bT fdT dd_ O) (pQ O (cU tyT O mm_ O) ?_);refine pQ O (bU tyT O mm_ (by rw [e8,hl16])) ?_;refine pQ O (aW aH (eV b.neg l hl16 hlim) O) ?_;refine dC O O (bE tyT O O uu_ (aG _) O (bC _) (.inl eU) ⟨nf,ss_,?_⟩);refine dC O O (bE tyT O O uu_ (i8 hl16) O (bC _) (.inl eU) ⟨nf,ss_,?_⟩);refine go2 ?_;refine rB O (.inr O) ⟨_,_,_,_,_,_,rfl,mm_,tyT,_,(dB (aG _)),(aG _),rfl⟩ ⟨_,_,_,_,_,_,rfl,mm_,tyT,_,(dB (i8 hl16)),(i8 hl16),rfl⟩ ?_
 (subst hzq;exact congrArg (fun r:R=>Value.tuple #[RV (Z.quo a.dec b.dec).enc,RV r]) hzr)
theorem iQ (a b:R) (ha:a.Ok) (hb:b.Ok) :
  Ret prog 59 [RV a,RV b] (RV (Z.quo a.dec b.dec).enc):=by
 refine bG (N:=14) func59 O O zz_ (fun w0=>?_);refine giI ?_;refine go_ ?_;refine aQ O (gW O O (fun b2 hb2=>aQ O (gW O O (fun b3 hb3=>aQ O (dL kB (fun b4 hb4=>go2 ?_))))));refine sQ (bU tyT O mm_ (cJ ha)) O ?_;refine sQ (bU tyT O mm_ (cJ hb)) O ?_;refine sQ (aW aH (tY a b ha hb) O) O (go3 ?_);refine aQ O (dL kB (fun b5 hb5=>aQ O (dL kB (fun b6 hb6=>aQ O (bE tyT O O uu_ (aG _) O (bC _) (.inl eU) ?_)))));refine aQ O (bE tyT O O uu_ (aG _) O (bC _) (.inl eU) ?_);refine go2 ?_;refine sQ (bU tyT O mm_ (aG _)) O ?_;refine aQ O (bE tyT O O uu_ (aG _) O (bC _) (.inl eU) ?_);refine go2 ?_;refine rtX O ⟨_,_,_,_,_,_,rfl,mm_,tyT,_,(dB (aG _)),(aG _),rfl⟩ ?_;exact rfl
theorem zN (a b:R) (ha:a.Ok) (hb:b.Ok) :
  Ret prog 118 [RV a,RV b] (RV (Z.rem a.dec b.dec).enc):=by
 refine bG (N:=14) func118 O O zz_ (fun w0=>?_);refine giI ?_;refine go_ ?_;refine aQ O (gW O O (fun b2 hb2=>aQ O (gW O O (fun b3 hb3=>aQ O (dL kB (fun b4 hb4=>go2 ?_))))));refine sQ (bU tyT O mm_ (cJ ha)) O ?_;refine sQ (bU tyT O mm_ (cJ hb)) O ?_;refine sQ (aW aH (tY a b ha hb) O) O (go3 ?_);refine aQ O (dL kB (fun b5 hb5=>aQ O (dL kB (fun b6 hb6=>aQ O (bE tyT O O uu_ (aG _) O (bC _) (.inl eU) ?_)))));refine aQ O (bE tyT O O uu_ (aG _) O (bC _) (.inl eU) ?_);refine go2 ?_;refine sQ (bU tyT O mm_ (aG _)) O ?_;refine aQ O (bE tyT O O uu_ (aG _) O (bC _) (.inl eU) ?_);refine go2 ?_;refine rtX O ⟨_,_,_,_,_,_,rfl,mm_,tyT,_,(dB (aG _)),(aG _),rfl⟩ ?_;exact rfl
theorem H6 (a b:R) (ha:a.Ok) (hb:b.Ok) :
    Ret prog 117 [RV a,RV b] (.int .i64 (Z.cmp a.dec b.dec)):=by
 refine bG (N:=47) func117 O O zz_ (fun w0=>?_);refine giI ?_;refine go_ ?_;refine aQ O (gW O O (fun b2 hb2=>aQ O (gW O O (fun b3 hb3=>go3 ?_))));refine gDk (sk (sk s0)) (.quiet 0 [1,2,5,6,7] (.quiet 3 [4,5,6,7] (.both 1 (.quiet 2 [5,6,7] (.only 4 (.quiet 5 [6,7] (.quiet 6 [7] (.quiet 7 [] (.fin)))))) 4 (.only 1 (.quiet 2 [5,6,7] (.quiet 5 [6,7] (.quiet 6 [7] (.quiet 7 [] (.fin))))))))) (rg [] 0 8) mix (by kernel_rfl) (by kernel_rfl) (pQ O (bU tyT O mm_ (cJ ha)) ?_);refine pQ O (bU tyT O mm_ (cJ hb)) ?_;refine uO ?_ ?_
 ·refine dC O O (gQ pX kB oJ O dd_ O (uA ha) (fun b8 hb8=>⟨(fun _=>by first|exact sd s0|exact s0),ss_,?_⟩));refine pQ O (eH aH O (fun w hw=>fP [a] (ok1 ha) b8 31 w (hw.mem ⟨b8,31,_⟩ (by first|exact m0|exact m1)) zz_)) ?_;refine dC O O (gQ pX kB oJ O dd_ O (uA hb) (fun b11 hb11=>⟨(fun _=>by first|exact sd s0|exact s0),ss_,?_⟩));refine pQ O (eH aH O (fun w hw=>fP [b] (ok1 hb) b11 31 w (hw.mem ⟨b11,31,_⟩ (by first|exact m0|exact m1)) zz_)) ?_;refine go9 ?_
  cases hga:[a].all R.good
  ·refine go5 ?_;refine aT _ O (fun hgb=>?_) (fun hgb=>?_)
   ·replace hgb:=cB_ hgb
    refine go4 ?_;refine rt1 ?_;exact congrArg _ (W8 (by simpa using hga) (by simpa using hgb))
   replace hgb:=cB_ hgb
   refine mQ ?_;refine rt1 ?_;exact congrArg _ (W9 (by simpa using hga) hb (by simpa using hgb))
  refine dT_ ?_;refine aT _ O (fun hgb=>?_) (fun hgb=>?_)
  ·replace hgb:=cB_ hgb
   refine go4 ?_;refine rt1 ?_;exact congrArg _ (XA ha (by simpa using hga) (by simpa using hgb))
  replace hgb:=cB_ hgb
  refine go_ ?_;refine sQ (bT fdT dd_ O) O (sQ (cU tyT O mm_ O) O ?_);refine sQ (bT fdT dd_ O) O (sQ (cU tyT O mm_ O) O ?_);refine sQ (CP QG O O) O (go2 ?_);refine aT _ O (fun hn=>?_) (fun hn=>?_)
  ·replace hn:=cB_ hn
   refine go2 ?_;refine sQ (bT fdT dd_ O) O (sQ (cU tyT O mm_ O) O ?_);refine go_ ?_;refine aT _ O (fun hs=>?_) (fun hs=>?_)
   ·replace hs:=cB_ hs
    refine go4 ?_;refine rt1 ?_;exact congrArg _ (XC ha hb (by simpa using hga) (by simpa using hgb) hn hs)
   replace hs:=cB_ hs
   refine go5 ?_;refine rt1 ?_;exact congrArg _ (XB ha hb (by simpa using hga) (by simpa using hgb) hn (by simpa using hs))
  replace hn:=cB_ hn
  refine go_ ?_;refine sQ (bT fdT dd_ O) O (sQ (cU tyT O mm_ O) O ?_);refine go2 ?_;refine aT _ O (fun hs=>?_) (fun hs=>?_)
  ·replace hs:=cB_ hs
   refine go_ ?_;refine sQ (bT fdT dd_ O) O (sQ (fM (vs:=uw b.w) tyT O mm_ (iU hb.len) ((e8 _).trans hb.len)) O ?_);refine sQ (bT fdT dd_ O) O (sQ (fM (vs:=uw a.w) tyT O mm_ (iU ha.len) ((e8 _).trans ha.len)) O ?_);refine sQ (aW aH (lD b.w a.w hb.len ha.len hb.lim ha.lim) O) O (go3 ?_);refine rt1 ?_;exact congrArg _ (XD ha hb (by simpa using hga) (by simpa using hgb) hn hs)
  replace hs:=cB_ hs
  refine go2 ?_;refine sQ (bT fdT dd_ O) O (sQ (fM (vs:=uw a.w) tyT O mm_ (iU ha.len) ((e8 _).trans ha.len)) O ?_);refine sQ (bT fdT dd_ O) O (sQ (fM (vs:=uw b.w) tyT O mm_ (iU hb.len) ((e8 _).trans hb.len)) O ?_);refine sQ (aW aH (lD a.w b.w ha.len hb.len ha.lim hb.lim) O) O (go3 ?_);refine rt1 ?_;exact congrArg _ (XE ha hb (by simpa using hga) (by simpa using hgb) hn (by simpa using hs))
 refine dC O O (gQ pX kB oJ O dd_ O (uA hb) (fun b11 hb11=>⟨(fun _=>by first|exact sd s0|exact s0),ss_,?_⟩));refine dC O O (gQ pX kB oJ O dd_ O (uA ha) (fun b8 hb8=>⟨(fun _=>by first|exact sd s0|exact s0),ss_,?_⟩));refine pQ O (eH aH O (fun w hw=>fP [a] (ok1 ha) b8 31 w (hw.mem ⟨b8,31,_⟩ (by first|exact m0|exact m1)) zz_)) ?_;refine pQ O (eH aH O (fun w hw=>fP [b] (ok1 hb) b11 31 w (hw.mem ⟨b11,31,_⟩ (by first|exact m0|exact m1)) zz_)) ?_;refine go9 ?_
 cases hga:[a].all R.good
 ·refine go5 ?_;refine aT _ O (fun hgb=>?_) (fun hgb=>?_)
  ·replace hgb:=cB_ hgb
   refine go4 ?_;refine rt1 ?_;exact congrArg _ (W8 (by simpa using hga) (by simpa using hgb))
  replace hgb:=cB_ hgb
  refine mQ ?_;refine rt1 ?_;exact congrArg _ (W9 (by simpa using hga) hb (by simpa using hgb))
 refine dT_ ?_;refine aT _ O (fun hgb=>?_) (fun hgb=>?_)
 ·replace hgb:=cB_ hgb
  refine go4 ?_;refine rt1 ?_;exact congrArg _ (XA ha (by simpa using hga) (by simpa using hgb))
 replace hgb:=cB_ hgb
 refine go_ ?_;refine sQ (bT fdT dd_ O) O (sQ (cU tyT O mm_ O) O ?_);refine sQ (bT fdT dd_ O) O (sQ (cU tyT O mm_ O) O ?_);refine sQ (CP QG O O) O (go2 ?_);refine aT _ O (fun hn=>?_) (fun hn=>?_)
 ·replace hn:=cB_ hn
  refine go2 ?_;refine sQ (bT fdT dd_ O) O (sQ (cU tyT O mm_ O) O ?_);refine go_ ?_;refine aT _ O (fun hs=>?_) (fun hs=>?_)
  ·replace hs:=cB_ hs
   refine go4 ?_;refine rt1 ?_;exact congrArg _ (XC ha hb (by simpa using hga) (by simpa using hgb) hn hs)
  replace hs:=cB_ hs
  refine go5 ?_;refine rt1 ?_;exact congrArg _ (XB ha hb (by simpa using hga) (by simpa using hgb) hn (by simpa using hs))
 replace hn:=cB_ hn
 refine go_ ?_;refine sQ (bT fdT dd_ O) O (sQ (cU tyT O mm_ O) O ?_);refine go2 ?_;refine aT _ O (fun hs=>?_) (fun hs=>?_)
 ·replace hs:=cB_ hs
  refine go_ ?_;refine sQ (bT fdT dd_ O) O (sQ (fM (vs:=uw b.w) tyT O mm_ (iU hb.len) ((e8 _).trans hb.len)) O ?_);refine sQ (bT fdT dd_ O) O (sQ (fM (vs:=uw a.w) tyT O mm_ (iU ha.len) ((e8 _).trans ha.len)) O ?_);refine sQ (aW aH (lD b.w a.w hb.len ha.len hb.lim ha.lim) O) O (go3 ?_);refine rt1 ?_;exact congrArg _ (XD ha hb (by simpa using hga) (by simpa using hgb) hn hs)
 replace hs:=cB_ hs
 refine go2 ?_;refine sQ (bT fdT dd_ O) O (sQ (fM (vs:=uw a.w) tyT O mm_ (iU ha.len) ((e8 _).trans ha.len)) O ?_);refine sQ (bT fdT dd_ O) O (sQ (fM (vs:=uw b.w) tyT O mm_ (iU hb.len) ((e8 _).trans hb.len)) O ?_);refine sQ (aW aH (lD a.w b.w ha.len hb.len ha.lim hb.lim) O) O (go3 ?_);refine rt1 ?_;exact congrArg _ (XE ha hb (by simpa using hga) (by simpa using hgb) hn (by simpa using hs))
theorem HL (n:Nat) (IH:∀ (a b:R),a.Ok→b.Ok→val b.w<n→Ret prog 116 [RV a,RV b] (RV (Z.gcd a.dec b.dec).enc)) (a b:R) (ha:a.Ok) (hb:b.Ok) (hn:val b.w=n) :
    Ret prog 116 [RV a,RV b] (RV (Z.gcd a.dec b.dec).enc):=by
 refine bG (N:=80) func116 O O zz_ (fun w0=>?_);refine giI ?_;refine go_ ?_;refine aQ O (gW O O (fun b2 hb2=>aQ O (gW O O (fun b3 hb3=>aQ O (dL kB (fun b4 hb4=>go3 ?_))))));refine sQ (bU tyT O mm_ (cJ ha)) O ?_;refine sQ (bU tyT O mm_ (cJ hb)) O ?_;refine aQ O (gQ pX kB oJ O dd_ O (LB ha hb) (fun b13 hb13=>sQ (eH aH O (fun w hw=>fP [a,b] (ok2 ha hb) b13 31 w (hw.mem _ m0) zz_)) O ?_));refine go2 ?_;refine aT _ O (fun hg=>?_) (fun hg=>?_)
 ·replace hg:=cB_ hg
  refine go_ ?_;refine sQ (aW aH fU O) O (aQ O (bE tyT O O uu_ (aG _) O (bC _) (.inl eU) ?_));refine go2 ?_;refine rtX O ⟨_,_,_,_,_,_,rfl,mm_,tyT,_,(dB (aG _)),(aG _),rfl⟩ ?_;exact congrArg RV (bx_ hg)
 replace hg:=cB_ hg
 have hg:=all2.1 hg;refine go_ ?_;refine kF (rg [5,6] 17 43) (fun g M=>(True)∧M=[⟨b4,31,zR⟩,⟨b3,31,b.cells⟩,⟨b2,31,a.cells⟩]∧(True)) (fun K5 J5=>?_) ?_
 ·refine go_ ?_;refine sQ (bT fdT dd_ O) O (sQ (fM (vs:=uw a.w) tyT O mm_ (iU ha.len) ((e8 _).trans ha.len)) O ?_);refine sQ (aW aH (kW a.w ha.len) O) O (go2 ?_)
  cases hsz:decide ((szL a.w:Int)≤2)
  ·refine go8 ?_;refine J5 _ _ pp_ ⟨_,(List.Sublist.cons _ (List.Sublist.refl _)),trivial,?mem,trivial⟩
   case mem=>rfl
  refine sQ (bT fdT dd_ O) O (sQ (fM (vs:=uw b.w) tyT O mm_ (iU hb.len) ((e8 _).trans hb.len)) O ?_);refine sQ (aW aH (kW b.w hb.len) O) O (go3 ?_);refine aT _ O (fun hsz2=>?_) (fun hsz2=>?_)
  ·replace hsz2:=cB_ hsz2
   have hA64:=sz2 ha (by have:=of_decide_eq_true hsz;omega);have hB64:=sz2 hb oo_;refine go_ ?_;refine gdr (sk (sk (sk (sk s0)))) [0,4,8,12,16,20,24,28,32,36,40,44,48,52,56,60,64,68,72,76,80,84] [] mix (by kernel_rfl) (pQ O (bT fdT dd_ O) (pQ O (dS arT O O dd_ dd_) (pQ O (cU tyT O mm_ (kX (r:=a) (k:=1) (by rw [ha.len];omega))) ?_)));refine pQ O (aE (dD fD eO O) (tB (dA ha.lim _))) (pQ O (aE (BI O O dd_) (congrArg (Value.int .u64) (tW (dA ha.lim _)))) (pQ O (bT fdT dd_ O) (pQ O (dS arT O O dd_ dd_) (pQ O (cU tyT O mm_ (kX (r:=a) (k:=0) (by rw [ha.len];omega))) ?_))));refine pQ O (aE (dD fD eO O) (tB (dA ha.lim _))) (pQ O (aE (L0 O O) (congrArg (Value.int .u64) ((OS (dA ha.lim _) (dA ha.lim _)).trans (congrArg (fun m:Nat=>(m:Int)) (AD ha hA64))))) (pQ O (bT fdT dd_ O) (pQ O (dS arT O O dd_ dd_) (pQ O (cU tyT O mm_ (kX (r:=b) (k:=1) (by rw [hb.len];omega))) ?_))));refine pQ O (aE (dD fD eO O) (tB (dA hb.lim _))) (pQ O (aE (BI O O dd_) (congrArg (Value.int .u64) (tW (dA hb.lim _)))) (pQ O (bT fdT dd_ O) (pQ O (dS arT O O dd_ dd_) (pQ O (cU tyT O mm_ (kX (r:=b) (k:=0) (by rw [hb.len];omega))) ?_))));refine pQ O (aE (dD fD eO O) (tB (dA hb.lim _))) (pQ O (aE (L0 O O) (congrArg (Value.int .u64) ((OS (dA hb.lim _) (dA hb.lim _)).trans (congrArg (fun m:Nat=>(m:Int)) (AD hb hB64))))) (go5 ?_));refine cE (rg [5,6] 47 6) (fun g nn M=>∃ (x y:Nat),(g 5 = .int .u64 (x:Int)∧g 6 = .int .u64 (y:Int))∧M=[⟨b4,31,zR⟩,⟨b3,31,b.cells⟩,⟨b2,31,a.cells⟩]∧nn=y∧(x<18446744073709551616∧y<18446744073709551616∧Nat.gcd x y=Nat.gcd (val a.w) (val b.w))) (val b.w) ?start ?round
   case start =>
    refine ⟨_,(List.Sublist.cons _ (List.Sublist.refl _)),_,_,⟨?a5,?a6⟩,?mem0,rfl,⟨hA64,hB64,rfl⟩⟩
    case mem0=>rfl
    case a5=>rfl
    case a6=>rfl
   case round =>
    rintro nn g M ⟨x,y,⟨hg5,hg6⟩,rfl,hmeas,⟨hx64,hy64,hgc⟩⟩;subst nn;refine gS2 hg5 hg6 ?_;clear hg5 hg6;refine go5 ?_;refine aT _ O (fun hy0=>?_) (fun hy0=>?_)
    ·replace hy0:=cB_ hy0
     refine go2 ?_;refine lJ (sk (sk (sk s0))) 6 [] [] (go3 ?_);refine pQ O (aE (pW O O oo_) (congrArg (Value.int .u64) (yZ _ _))) (go3 ?_);refine ⟨pp_,_,_,(List.Sublist.refl _),(Nat.mod_lt _ oo_),y,x % y,⟨?s5,?s6⟩,?mem,rfl,⟨hy64,Nat.lt_of_le_of_lt (Nat.mod_le _ _) hx64,by rw [Nat.gcd_comm,← Nat.gcd_rec,Nat.gcd_comm];exact hgc⟩⟩
     case mem=>rfl
     case s5=>rfl
     case s6=>rfl
    replace hy0:=cB_ hy0
    refine go3 ?_;refine sQ (dD eO fD O) O (go_ ?_);refine sQ (aE (rA O O dd_) (congrArg (Value.int .u64) (nQ _ 32))) O (sQ (dD eO fD O) O (sQ (lG lU arT O (dO_ hx64)) O (sQ (aW aH (eV false _ zz_ (Y2 (Nat.mod_lt _ dd_) oo_ 14)) O) O ?_)));refine aQ O (bE tyT O O uu_ (i8 zz_) O (bC _) (.inl eU) ?_);refine go2 ?_;refine rtX O ⟨_,_,_,_,_,_,rfl,mm_,tyT,_,(dB (i8 zz_)),(i8 zz_),rfl⟩ ?_;exact by_ ha hb hg.1 hg.2 hx64 (bz_ hx64 hgc oo_)
  replace hsz2:=cB_ hsz2
  refine go_ ?_;refine J5 _ _ pp_ ⟨_,(List.Sublist.cons _ (List.Sublist.refl _)),trivial,?mem,trivial⟩
  case mem=>rfl
 rintro g M ⟨-,rfl,-⟩;refine gS0 ?_;refine go2 ?_;refine gDk (sk (sk (sk s0))) (.quiet 0 [1,6,7] (.quiet 1 [6,7] (.still 2 [3,7] (.still 3 [7] (.both 4 (.only 5 (.only 6 (.only 7 (.fin)))) 5 (.only 4 (.only 6 (.only 7 (.fin))))))))) [0,1,2,3,4,5] mix (by kernel_rfl) (by kernel_rfl) (pQ O (bT fdT dd_ O) (pQ O (fM (vs:=uw a.w) tyT O mm_ (iU ha.len) ((e8 _).trans ha.len)) ?_));refine E0 O O (bT fdT dd_ O) (E0 O O (fM (vs:=uw b.w) tyT O mm_ (iU hb.len) ((e8 _).trans hb.len)) ?_);refine uO ?_ ?_
 ·refine dC O O (dL lU (fun b7 hb7=>⟨(fun _=>by first|exact sd s0|exact s0),ss_,?_⟩));refine dC O O (dL lU (fun b8 hb8=>⟨(fun _=>by first|exact sd s0|exact s0),ss_,?_⟩));refine dC O O (bE tyT O O uu_ (by simp [uw,ha.len]) (by simp [uw]) (fL _) (.inl eU) ⟨nf,ss_,?_⟩);refine dC O O (bE tyT O O uu_ (by simp [uw,hb.len]) (by simp [uw]) (fL _) (.inl eU) ⟨nf,ss_,?_⟩);refine go2 ?_;refine sQ (bU tyT O mm_ (by simp [uw,hb.len])) O ?_;refine sQ (lG lU arT O (.nil _)) O ?_;refine sQ (CO (r:=(val b.w==0)) O O (jP 8 dd_ C8 DH (kA hb.len) (kA zz_) (y7 hb.len hb.lim))) O ?_;refine go_ ?_;refine aT _ O (fun hb0=>?_) (fun hb0=>?_)
  ·replace hb0:=cB_ hb0
   have hp:0<val b.w:=Nat.pos_of_ne_zero (by simpa using hb0);refine go_ ?_;refine sQ (bU tyT O mm_ (by simp [uw,ha.len])) O ?_;refine sQ (bU tyT O mm_ (by simp [uw,hb.len])) O ?_;refine sQ (aW aH (oT a.w b.w ha.len hb.len ha.lim hb.lim hp) O) O (go3 ?_);refine aQ O (dL lU (fun b9 hb9=>aQ O (dL lU (fun b10 hb10=>aQ O (bE tyT O O uu_ (by simp [uw,cM]) (by simp [uw]) (fL _) (.inl eU) ?_)))));refine aQ O (bE tyT O O uu_ (by simp [uw,cM]) (by simp [uw]) (fL _) (.inl eU) ?_);refine go2 ?_;refine gdr (sk (sk (sk (sk (sd (sk (sk s0))))))) [0,4,8,12,16,21] [5] mix (by kernel_rfl) (pQ O (bU tyT O mm_ (by simp [uw,hb.len])) ?_);refine pQ O (aE (aW aH (eV false b.w hb.len hb.lim) O) (C9 hb.len hb.lim false)) (pQ O (bU tyT O mm_ (by simp [uw,cM])) ?_);refine pQ O (aE (aW aH (eV false _ (cM _ _) (kE _ _)) O) (congrArg RV (lY false (pG ha)))) (pQ O (aW aH (IH (Z.of (sgn false (val b.w))).enc (Z.of (sgn false (val a.w % val b.w))).enc (Z.enc_ok _) (Z.enc_ok _) (by rw [SM (pG ha),← hn];exact Nat.mod_lt _ hp)) O) ?_);refine dC O O (bE tyT O O uu_ (aG _) O (bC _) (.inl eU) ⟨nf,ss_,?_⟩);refine go2 ?_;refine rtX O ⟨_,_,_,_,_,_,rfl,mm_,tyT,_,(dB (aG _)),(aG _),rfl⟩ ?_;exact N8 ha hb hg.1 hg.2
  replace hb0:=cB_ hb0
  refine go2 ?_;refine sQ (bU tyT O mm_ (cJ ha)) O ?_;refine sQ (aW aH (uK a ha) O) O (aQ O (bE tyT O O uu_ (aG _) O (bC _) (.inl eU) ?_));refine go2 ?_;refine rtX O ⟨_,_,_,_,_,_,rfl,mm_,tyT,_,(dB (aG _)),(aG _),rfl⟩ ?_;exact N9 ha hb hg.1 hg.2 (by simpa using hb0)
 refine dC O O (dL lU (fun b8 hb8=>⟨(fun _=>by first|exact sd s0|exact s0),ss_,?_⟩));refine dC O O (dL lU (fun b7 hb7=>⟨(fun _=>by first|exact sd s0|exact s0),ss_,?_⟩));refine dC O O (bE tyT O O uu_ (by simp [uw,ha.len]) (by simp [uw]) (fL _) (.inl eU) ⟨nf,ss_,?_⟩);refine dC O O (bE tyT O O uu_ (by simp [uw,hb.len]) (by simp [uw]) (fL _) (.inl eU) ⟨nf,ss_,?_⟩);refine go2 ?_;refine sQ (bU tyT O mm_ (by simp [uw,hb.len])) O ?_;refine sQ (lG lU arT O (.nil _)) O ?_;refine sQ (CO (r:=(val b.w==0)) O O (jP 8 dd_ C8 DH (kA hb.len) (kA zz_) (y7 hb.len hb.lim))) O ?_;refine go_ ?_;refine aT _ O (fun hb0=>?_) (fun hb0=>?_)
 ·replace hb0:=cB_ hb0
  have hp:0<val b.w:=Nat.pos_of_ne_zero (by simpa using hb0);refine go_ ?_;refine sQ (bU tyT O mm_ (by simp [uw,ha.len])) O ?_;refine sQ (bU tyT O mm_ (by simp [uw,hb.len])) O ?_;refine sQ (aW aH (oT a.w b.w ha.len hb.len ha.lim hb.lim hp) O) O (go3 ?_);refine aQ O (dL lU (fun b9 hb9=>aQ O (dL lU (fun b10 hb10=>aQ O (bE tyT O O uu_ (by simp [uw,cM]) (by simp [uw]) (fL _) (.inl eU) ?_)))));refine aQ O (bE tyT O O uu_ (by simp [uw,cM]) (by simp [uw]) (fL _) (.inl eU) ?_);refine go2 ?_;refine gdr (sk (sk (sk (sk (sd (sk (sk s0))))))) [0,4,8,12,16,21] [5] mix (by kernel_rfl) (pQ O (bU tyT O mm_ (by simp [uw,hb.len])) ?_);refine pQ O (aE (aW aH (eV false b.w hb.len hb.lim) O) (C9 hb.len hb.lim false)) (pQ O (bU tyT O mm_ (by simp [uw,cM])) ?_);refine pQ O (aE (aW aH (eV false _ (cM _ _) (kE _ _)) O) (congrArg RV (lY false (pG ha)))) (pQ O (aW aH (IH (Z.of (sgn false (val b.w))).enc (Z.of (sgn false (val a.w % val b.w))).enc (Z.enc_ok _) (Z.enc_ok _) (by rw [SM (pG ha),← hn];exact Nat.mod_lt _ hp)) O) ?_);refine dC O O (bE tyT O O uu_ (aG _) O (bC _) (.inl eU) ⟨nf,ss_,?_⟩);refine go2 ?_;refine rtX O ⟨_,_,_,_,_,_,rfl,mm_,tyT,_,(dB (aG _)),(aG _),rfl⟩ ?_;exact N8 ha hb hg.1 hg.2
 replace hb0:=cB_ hb0
 refine go2 ?_;refine sQ (bU tyT O mm_ (cJ ha)) O ?_;refine sQ (aW aH (uK a ha) O) O (aQ O (bE tyT O O uu_ (aG _) O (bC _) (.inl eU) ?_));refine go2 ?_;refine rtX O ⟨_,_,_,_,_,_,rfl,mm_,tyT,_,(dB (aG _)),(aG _),rfl⟩ ?_;exact N9 ha hb hg.1 hg.2 (by simpa using hb0)
theorem q7 (a b:R) (ha:a.Ok) (hb:b.Ok):Ret prog 116 [RV a,RV b] (RV (Z.gcd a.dec b.dec).enc):=by
 generalize hn:val b.w=n
 induction n using Nat.strongRecOn generalizing a b with
 | ind n ih=>exact HL n (fun a b ha hb h=>ih _ h a b ha hb O) a b ha hb hn
theorem qZ  :
  Ret prog 84 [] (AV [pI F_ratio_one]):=by
 refine bG (N:=2) func84 O O zz_ (fun w0=>?_);refine giI ?_;obtain ⟨q0,hq0⟩:=nm ((E (Z.of 1)):I);refine go2 ?_;intro b1 hb1;refine go2 ?_;refine sC (AV [pI q0]) aH (eJ (wl 1).1 (wl 1).2) O O (by subst hq0;rfl) ?_;refine go3 ?_;refine rtX O (iC O m0 tyT O) ?_;exact (by obtain rfl:=hq0.symm;rfl)
theorem i9  :
  Ret prog 66 [] (AV [pI F_ratio_Bad.n,pI F_ratio_Bad.d]):=by
 refine bG (N:=4) func66 O O zz_ (fun w0=>?_);refine giI ?_;obtain ⟨q0,hq0⟩:=nm ((E Z.bad):I);obtain ⟨q1,hq1⟩:=nm (F_ratio_one:I);refine go2 ?_;intro b1 hb1;refine go2 ?_;refine sC (AV [pI q0]) aH fU O O (by subst hq0;rfl) (sC (AV [pI q1]) aH qZ O O (by subst hq1;rfl) (go4 ?_));refine rtX O (iC O m0 tyT O) ?_;exact (by subst_vars;rfl)
theorem pL (a:I) :
    Ret prog 115 [AV [pI a]] (.bool (iR a)):=by
 refine bG (N:=10) func115 O O zz_ (fun w0=>?_);refine giI ?_;refine go2 ?_;intro b1 hb1;refine go2 ?_;refine gJv (rg [] 2 8) [(2,.bool (!a.1.bad&&a.1.valid))] (fun K1 J1=>?_) ?_
 ·refine go4 ?_;rcases bt a.1.bad with h3|h3
  ·refine sB (kC h3) O (go5 ?_);refine J1 _ _ pp_ s0 (dG (F7 h3))
  refine sB (j8 h3) O (go_ ?_);refine sC (.bool a.1.valid) aH (rP a.1 a.2) O O O (go3 ?_);refine J1 _ _ pp_ s0 (dG (CH h3 O))
 intro g4;refine go_ ?_;refine rt1 ?_;exact (by rfl)
theorem fO (a:Rt) :
    Ret prog 64 [AV [pI a.n,pI a.d]] (.bool (aU a)):=by
 refine bG (N:=26) func64 O O zz_ (fun w0=>?_);refine giI ?_;refine go2 ?_;intro b1 hb1;refine go2 ?_;refine gJv (rg [] 2 24) [(2,.bool ((iR a.n)&&((iR a.d)&&(decide (0<(Z.signW a.d.dec).1)&&decide ((E (Z.gcd a.n.dec a.d.dec))=F_ratio_one)))))] (fun K1 J1=>?_) ?_
 ·refine go3 ?_;refine sQ (aW aH (pL a.n) O) O ?_;refine sBB O (fun h5=>?_) (fun h5=>?_)
  ·refine go2 ?_;refine sQ (aW aH (pL a.d) O) O (go_ ?_);refine sBB O (fun h6=>?_) (fun h6=>?_)
   ·refine go2 ?_;refine sC (.int .i64 ((Z.signW a.d.dec).1)) aH (fH a.d.1 a.d.2) O O O (go2 ?_);refine sBB O (fun h7=>?_) (fun h7=>?_)
    ·refine go4 ?_;refine sC (AV [pI (E (Z.gcd a.n.dec a.d.dec))]) aH (q7 a.n.1 a.d.1 a.n.2 a.d.2) O O O (sQ (aW aH qZ  rfl) O ?_);refine sQ (nY (r:=decide ((E (Z.gcd a.n.dec a.d.dec))=F_ratio_one)) O O (jP 8 dd_ SK TB (jN oY) (jN oY) (mN zE))) O (go3 ?_);refine J1 _ _ pp_ s0 (dG (sG h5 (sG h6 (sG h7 O))))
    refine mQ ?_;refine J1 _ _ pp_ s0 (dG (sG h5 (sG h6 (w6 h7))))
   refine QW ?_;refine J1 _ _ pp_ s0 (dG (sG h5 (w6 h6)))
  refine gF_ ?_;refine J1 _ _ pp_ s0 (dG (w6 h5))
 intro g8;refine go_ ?_;refine rt1 ?_;exact (by rfl)
theorem j9 (a:I) (b:I) :
    Ret prog 73 [AV [pI a],AV [pI b]] (AV [pI ((bN a b).n),pI ((bN a b).d)]):=by
 refine bG (N:=35) func73 O O zz_ (fun w0=>?_);refine giI ?_;refine go2 ?_;intro b1 hb1;refine go_ ?_;intro b2 hb2;refine go_ ?_;intro b3 hb3;refine go2 ?_;refine gJv (rg [] 6 13) [(18,.bool (!(iR a)||(!(iR b)||((Z.signW b.dec).1==0))))] (fun K2 J2=>?_) ?_
 ·refine go2 ?_;refine sQ (aW aH (pL a) O) O (go_ ?_);rcases bt (iR a) with h6|h6
  ·refine sB (kC h6) O (go_ ?_);refine sQ (aW aH (pL b) O) O (go2 ?_);rcases bt (iR b) with h7|h7
   ·refine sB (kC h7) O (go_ ?_);refine sC (.int .i64 ((Z.signW b.dec).1)) aH (fH b.1 b.2) O O O (go3 ?_);refine J2 _ _ pp_ s0 (dG (uX h6 (uX h7 O)))
   refine sB (j8 h7) O (go5 ?_);refine J2 _ _ pp_ s0 (dG (uX h6 (xK h7)))
  refine sB (j8 h6) O (mQ ?_);refine J2 _ _ pp_ s0 (dG (xK h6))
 intro g8;refine aT _ O (fun h9=>?_) (fun h9=>?_)
 ·refine go_ ?_;refine sQ (aW aH i9  rfl) O (go3 ?_);refine rtX O (iC O m0 tyT O) ?_;exact congrArg vS4 (show _=(bN a b) from bS h9 O)
 refine go4 ?_;refine sC (AV [pI (E (Z.gcd a.dec b.dec))]) aH (q7 a.1 b.1 a.2 b.2) O O O (go_ ?_);intro b10 hb10;refine go5 ?_;refine sC (.int .i64 ((Z.signW b.dec).1)) aH (fH b.1 b.2) O O O (go2 ?_);refine aT _ O (fun h11=>?_) (fun h11=>?_)
 ·refine go2 ?_;refine sC (AV [pI (E (Z.neg (Z.gcd a.dec b.dec)))]) aH (oK (E (Z.gcd a.dec b.dec)).1 (E (Z.gcd a.dec b.dec)).2) O O (cg1 (fun p=>AV [pI (E (Z.neg p))]) (bW _)) (go2 ?_);refine jA (sk (sd (sk (sk s0)))) 8 [7] [7] (go2 ?_);refine pC (AV [pI (E (Z.quo a.dec (Z.neg (Z.gcd a.dec b.dec))))]) aH (iQ a.1 (E (Z.neg (Z.gcd a.dec b.dec))).1 a.2 (E (Z.neg (Z.gcd a.dec b.dec))).2) O O (cg2 (fun p q=>AV [pI (E (Z.quo p q))]) O (bW _)) (go2 ?_);refine pC (AV [pI (E (Z.quo b.dec (Z.neg (Z.gcd a.dec b.dec))))]) aH (iQ b.1 (E (Z.neg (Z.gcd a.dec b.dec))).1 b.2 (E (Z.neg (Z.gcd a.dec b.dec))).2) O O (cg2 (fun p q=>AV [pI (E (Z.quo p q))]) O (bW _)) (pQ O (jI zpT plT O (.cons [pI (E (Z.quo a.dec (Z.neg (Z.gcd a.dec b.dec))))] [pI (E (Z.quo a.dec (Z.neg (Z.gcd a.dec b.dec)))),pI I0] O O O O (.cons [pI (E (Z.quo b.dec (Z.neg (Z.gcd a.dec b.dec))))] [pI (E (Z.quo a.dec (Z.neg (Z.gcd a.dec b.dec)))),pI (E (Z.quo b.dec (Z.neg (Z.gcd a.dec b.dec))))] O O O O (.nil _)))) (go3 ?_));refine rtX O (iC O m1 tyT O) ?_;exact congrArg vS4 (show _=(bN a b) from bH h9 (bS h11 O))
 refine go_ ?_;refine jA (sk (sd (sk (sk s0)))) 8 [7] [7] (go2 ?_);refine pC (AV [pI (E (Z.quo a.dec (Z.gcd a.dec b.dec)))]) aH (iQ a.1 (E (Z.gcd a.dec b.dec)).1 a.2 (E (Z.gcd a.dec b.dec)).2) O O (cg2 (fun p q=>AV [pI (E (Z.quo p q))]) O (bW _)) (go2 ?_);refine pC (AV [pI (E (Z.quo b.dec (Z.gcd a.dec b.dec)))]) aH (iQ b.1 (E (Z.gcd a.dec b.dec)).1 b.2 (E (Z.gcd a.dec b.dec)).2) O O (cg2 (fun p q=>AV [pI (E (Z.quo p q))]) O (bW _)) (pQ O (jI zpT plT O (.cons [pI (E (Z.quo a.dec (Z.gcd a.dec b.dec)))] [pI (E (Z.quo a.dec (Z.gcd a.dec b.dec))),pI I0] O O O O (.cons [pI (E (Z.quo b.dec (Z.gcd a.dec b.dec)))] [pI (E (Z.quo a.dec (Z.gcd a.dec b.dec))),pI (E (Z.quo b.dec (Z.gcd a.dec b.dec)))] O O O O (.nil _)))) (go3 ?_));refine rtX O (iC O m1 tyT O) ?_;exact congrArg vS4 (show _=(bN a b) from bH h9 (bH h11 O))
theorem rK (a:I) :
  Ret prog 26 [AV [pI a]] (AV [pI ((cZ a).n),pI ((cZ a).d)]):=by
 refine bG (N:=6) func26 O O zz_ (fun w0=>?_);refine giI ?_;refine go2 ?_;intro b1 hb1;refine go_ ?_;intro b2 hb2;refine go_ ?_;refine jA (sd (sk s0)) 4 [3] [3] (go_ ?_);refine pQ O (aW aH qZ  rfl) (pQ O (aW aH (j9 a F_ratio_one) O) (go3 ?_));refine rtX O (iC O m0 tyT O) ?_;exact (by rfl)
theorem l7 (a:W) :
  Ret prog 11 [.int .i64 a.1] (AV [pI ((aP a).n),pI ((aP a).d)]):=by
 refine bG (N:=6) func11 O O zz_ (fun w0=>?_);refine giI ?_;refine go2 ?_;intro b1 hb1;refine go3 ?_;refine sC (AV [pI (E (Z.of a.1))]) aH (eJ a.1 a.2) O O O (sQ (aW aH (rK (E (Z.of a.1))) O) O (go3 ?_));refine rtX O (iC O m0 tyT O) ?_;exact (by rfl)
theorem oH (a:Rt) :
   Ret prog 67 [AV [pI a.n,pI a.d]] (AV [pI ((dW a).n),pI ((dW a).d)]):=by
 refine bG (N:=13) func67 O O zz_ (fun w0=>?_);refine giI ?_;refine go2 ?_;intro b1 hb1;refine go_ ?_;intro b2 hb2;refine go4 ?_;refine sQ (aW aH (fO a) O) O (go2 ?_);rcases bt (aU a) with h3|h3
 ·refine W_f (kC h3) O (go_ ?_);refine jA (sd (sk s0)) 7 [6] [6] (go2 ?_);refine pC (AV [pI (E (Z.neg a.n.dec))]) aH (oK a.n.1 a.n.2) O O O (go2 ?_);refine pQ O (jI zpT plT O (.cons [pI (E (Z.neg a.n.dec))] [pI (E (Z.neg a.n.dec)),pI I0] O O O O (.cons [pI a.d] [pI (E (Z.neg a.n.dec)),pI a.d] O O O O (.nil _)))) (go3 ?_);refine rtX O (iC O m0 tyT O) ?_;exact congrArg vS4 (show _=(dW a) from bS h3 O)
 refine W_t (j8 h3) O (go_ ?_);refine sQ (aW aH i9  rfl) O (go3 ?_);refine rtX O (iC O m0 tyT O) ?_;exact congrArg vS4 (show _=(dW a) from bH h3 O)
theorem uE (a:Rt) (b:Rt) :
    Ret prog 70 [AV [pI a.n,pI a.d],AV [pI b.n,pI b.d]] (AV [pI ((iZ a b).n),pI ((iZ a b).d)]):=by
 refine bG (N:=44) func70 O O zz_ (fun w0=>?_);refine giI ?_;refine go2 ?_;intro b1 hb1;refine go_ ?_;intro b2 hb2;refine go_ ?_;intro b3 hb3;refine go2 ?_;refine gJv (rg [] 8 8) [(15,.bool (!(aU a)||(!(aU b))))] (fun K2 J2=>?_) ?_
 ·refine go2 ?_;refine sQ (aW aH (fO a) O) O (go_ ?_);rcases bt (aU a) with h5|h5
  ·refine sB (kC h5) O (go_ ?_);refine sQ (aW aH (fO b) O) O (go3 ?_);refine J2 _ _ pp_ s0 (dG (uX h5 O))
  refine sB (j8 h5) O (go5 ?_);refine J2 _ _ pp_ s0 (dG (xK h5))
 intro g6;refine aT _ O (fun h7=>?_) (fun h7=>?_)
 ·refine go_ ?_;refine sQ (aW aH i9  rfl) O (go3 ?_);refine rtX O (iC O m0 tyT O) ?_;exact congrArg vS4 (show _=(iZ a b) from bS h7 O)
 refine go6 ?_;refine sC (AV [pI (E (Z.gcd a.d.dec b.d.dec))]) aH (q7 a.d.1 b.d.1 a.d.2 b.d.2) O O O (go_ ?_);intro b8 hb8;refine go2 ?_;refine gDs (sk (sk (sk (sk s0)))) (.quiet 0 [1,3,7,10,11] (.quiet 1 [3,7,10,11] (.quiet 2 [3,7,10,11] (.quiet 3 [7,10,11] (.quiet 4 [5,7,10,11] (.quiet 5 [7,10,11] (.quiet 6 [7,10,11] (.quiet 7 [10,11] (.both 8 (.only 9 (.only 10 (.only 11 (.fin)))) 9 (.only 8 (.only 10 (.only 11 (.fin))))))))))))) [0,1,2,3,4,5,6,7,8,9] mix (by kernel_rfl) (by kernel_rfl) (go3 ?_);refine pC (AV [pI (E (Z.quo a.d.dec (Z.gcd a.d.dec b.d.dec)))]) aH (iQ a.d.1 (E (Z.gcd a.d.dec b.d.dec)).1 a.d.2 (E (Z.gcd a.d.dec b.d.dec)).2) O O (cg2 (fun p q=>AV [pI (E (Z.quo p q))]) O (bW _)) (go3 ?_);refine pC (AV [pI (E (Z.quo b.d.dec (Z.gcd a.d.dec b.d.dec)))]) aH (iQ b.d.1 (E (Z.gcd a.d.dec b.d.dec)).1 b.d.2 (E (Z.gcd a.d.dec b.d.dec)).2) O O (cg2 (fun p q=>AV [pI (E (Z.quo p q))]) O (bW _)) ?_;refine uO ?_ ?_
 ·refine dC O O (bI zpT (fun b9 hb9=>⟨(fun _=>sd s0),(sd s0),?_⟩));refine dC O O (bI zpT (fun b10 hb10=>⟨(fun _=>sd s0),(sd (sd s0)),?_⟩));refine go3 ?_;refine gds (sk (sk (sk (sd (sk (sk s0)))))) [0,4,8,12,16,20,24,28,32,36,40,44,48,52,57] [14] mix (by kernel_rfl) (go3 ?_);refine pC (AV [pI (E (Z.mul a.n.dec (Z.quo b.d.dec (Z.gcd a.d.dec b.d.dec))))]) aH (dR a.n.1 (E (Z.quo b.d.dec (Z.gcd a.d.dec b.d.dec))).1 a.n.2 (E (Z.quo b.d.dec (Z.gcd a.d.dec b.d.dec))).2) O O (cg2 (fun p q=>AV [pI (E (Z.mul p q))]) O (bW _)) (go3 ?_);refine pC (AV [pI (E (Z.mul b.n.dec (Z.quo a.d.dec (Z.gcd a.d.dec b.d.dec))))]) aH (dR b.n.1 (E (Z.quo a.d.dec (Z.gcd a.d.dec b.d.dec))).1 b.n.2 (E (Z.quo a.d.dec (Z.gcd a.d.dec b.d.dec))).2) O O (cg2 (fun p q=>AV [pI (E (Z.mul p q))]) O (bW _)) ?_;obtain ⟨r11,hr11⟩:=nm ((E (Z.add (Z.mul a.n.dec (Z.quo b.d.dec (Z.gcd a.d.dec b.d.dec))) (Z.mul b.n.dec (Z.quo a.d.dec (Z.gcd a.d.dec b.d.dec))))):I);refine pC (AV [pI r11]) aH (hJ (E (Z.mul a.n.dec (Z.quo b.d.dec (Z.gcd a.d.dec b.d.dec)))).1 (E (Z.mul b.n.dec (Z.quo a.d.dec (Z.gcd a.d.dec b.d.dec)))).1 (E (Z.mul a.n.dec (Z.quo b.d.dec (Z.gcd a.d.dec b.d.dec)))).2 (E (Z.mul b.n.dec (Z.quo a.d.dec (Z.gcd a.d.dec b.d.dec)))).2) O O ((cg2 (fun p q=>AV [pI (E (Z.add p q))]) (bW _) (bW _)).trans (by rw [hr11])) (go3 ?_);refine pC (AV [pI (E (Z.mul (Z.quo a.d.dec (Z.gcd a.d.dec b.d.dec)) b.d.dec))]) aH (dR (E (Z.quo a.d.dec (Z.gcd a.d.dec b.d.dec))).1 b.d.1 (E (Z.quo a.d.dec (Z.gcd a.d.dec b.d.dec))).2 b.d.2) O O (cg2 (fun p q=>AV [pI (E (Z.mul p q))]) (bW _) O) ?_;obtain ⟨r12,hr12⟩:=nm ((bN r11 (E (Z.mul (Z.quo a.d.dec (Z.gcd a.d.dec b.d.dec)) b.d.dec))):Rt);refine pC (AV [pI r12.n,pI r12.d]) aH (j9 r11 (E (Z.mul (Z.quo a.d.dec (Z.gcd a.d.dec b.d.dec)) b.d.dec))) O O (by rw [hr12]) (go3 ?_);refine rtX O (iC O m3 tyT O) ?_
  subst_vars;exact congrArg vS4 (show _=(iZ a b) from bH h7 O)
 refine dC O O (bI zpT (fun b13 hb13=>⟨(fun _=>sd s0),(sd s0),?_⟩));refine dC O O (bI zpT (fun b14 hb14=>⟨(fun _=>sd s0),(sd (sd s0)),?_⟩));refine go3 ?_;refine gds (sk (sk (sk (sd (sk (sk s0)))))) [0,4,8,12,16,20,24,28,32,36,40,44,48,52,57] [14] mix (by kernel_rfl) (go3 ?_);refine pC (AV [pI (E (Z.mul a.n.dec (Z.quo b.d.dec (Z.gcd a.d.dec b.d.dec))))]) aH (dR a.n.1 (E (Z.quo b.d.dec (Z.gcd a.d.dec b.d.dec))).1 a.n.2 (E (Z.quo b.d.dec (Z.gcd a.d.dec b.d.dec))).2) O O (cg2 (fun p q=>AV [pI (E (Z.mul p q))]) O (bW _)) (go3 ?_);refine pC (AV [pI (E (Z.mul b.n.dec (Z.quo a.d.dec (Z.gcd a.d.dec b.d.dec))))]) aH (dR b.n.1 (E (Z.quo a.d.dec (Z.gcd a.d.dec b.d.dec))).1 b.n.2 (E (Z.quo a.d.dec (Z.gcd a.d.dec b.d.dec))).2) O O (cg2 (fun p q=>AV [pI (E (Z.mul p q))]) O (bW _)) ?_;obtain ⟨r15,hr15⟩:=nm ((E (Z.add (Z.mul a.n.dec (Z.quo b.d.dec (Z.gcd a.d.dec b.d.dec))) (Z.mul b.n.dec (Z.quo a.d.dec (Z.gcd a.d.dec b.d.dec))))):I);refine pC (AV [pI r15]) aH (hJ (E (Z.mul a.n.dec (Z.quo b.d.dec (Z.gcd a.d.dec b.d.dec)))).1 (E (Z.mul b.n.dec (Z.quo a.d.dec (Z.gcd a.d.dec b.d.dec)))).1 (E (Z.mul a.n.dec (Z.quo b.d.dec (Z.gcd a.d.dec b.d.dec)))).2 (E (Z.mul b.n.dec (Z.quo a.d.dec (Z.gcd a.d.dec b.d.dec)))).2) O O ((cg2 (fun p q=>AV [pI (E (Z.add p q))]) (bW _) (bW _)).trans (by rw [hr15])) (go3 ?_);refine pC (AV [pI (E (Z.mul (Z.quo a.d.dec (Z.gcd a.d.dec b.d.dec)) b.d.dec))]) aH (dR (E (Z.quo a.d.dec (Z.gcd a.d.dec b.d.dec))).1 b.d.1 (E (Z.quo a.d.dec (Z.gcd a.d.dec b.d.dec))).2 b.d.2) O O (cg2 (fun p q=>AV [pI (E (Z.mul p q))]) (bW _) O) ?_;obtain ⟨r16,hr16⟩:=nm ((bN r15 (E (Z.mul (Z.quo a.d.dec (Z.gcd a.d.dec b.d.dec)) b.d.dec))):Rt);refine pC (AV [pI r16.n,pI r16.d]) aH (j9 r15 (E (Z.mul (Z.quo a.d.dec (Z.gcd a.d.dec b.d.dec)) b.d.dec))) O O (by rw [hr16]) (go3 ?_);refine rtX O (iC O m3 tyT O) ?_
 subst_vars;exact congrArg vS4 (show _=(iZ a b) from bH h7 O)
theorem zL (a:Rt) (b:Rt) :
  Ret prog 72 [AV [pI a.n,pI a.d],AV [pI b.n,pI b.d]] (AV [pI ((gD a b).n),pI ((gD a b).d)]):=by
 refine bG (N:=9) func72 O O zz_ (fun w0=>?_);refine giI ?_;refine go2 ?_;intro b1 hb1;refine go_ ?_;intro b2 hb2;refine go_ ?_;intro b3 hb3;refine go_ ?_;refine jA (sd (sk (sk s0))) 5 [4] [4] (go2 ?_);refine pQ O (aW aH (oH b) O) (pQ O (aW aH (uE a (dW b)) O) (go3 ?_));refine rtX O (iC O m0 tyT O) ?_;exact (by rfl)
theorem zK (a:Rt) (b:Rt) :
    Ret prog 83 [AV [pI a.n,pI a.d],AV [pI b.n,pI b.d]] (AV [pI ((gA a b).n),pI ((gA a b).d)]):=by
 refine bG (N:=48) func83 O O zz_ (fun w0=>?_);refine giI ?_;refine go2 ?_;intro b1 hb1;refine go_ ?_;intro b2 hb2;refine go_ ?_;intro b3 hb3;refine go2 ?_;refine gJv (rg [] 9 8) [(16,.bool (!(aU a)||(!(aU b))))] (fun K2 J2=>?_) ?_
 ·refine go2 ?_;refine sQ (aW aH (fO a) O) O (go_ ?_);rcases bt (aU a) with h5|h5
  ·refine sB (kC h5) O (go_ ?_);refine sQ (aW aH (fO b) O) O (go3 ?_);refine J2 _ _ pp_ s0 (dG (uX h5 O))
  refine sB (j8 h5) O (go5 ?_);refine J2 _ _ pp_ s0 (dG (xK h5))
 intro g6;refine aT _ O (fun h7=>?_) (fun h7=>?_)
 ·refine go_ ?_;refine sQ (aW aH i9  rfl) O (go3 ?_);refine rtX O (iC O m0 tyT O) ?_;exact congrArg vS4 (show _=(gA a b) from bS h7 O)
 refine go_ ?_;refine gDs (sk (sk (sk s0))) (.quiet 0 [1,4,9,12,13] (.quiet 1 [4,9,12,13] (.quiet 2 [3,4,9,12,13] (.quiet 3 [4,9,12,13] (.quiet 4 [9,12,13] (.quiet 5 [6,9,12,13] (.quiet 6 [9,12,13] (.quiet 7 [8,9,12,13] (.quiet 8 [9,12,13] (.quiet 9 [12,13] (.both 10 (.only 11 (.only 12 (.only 13 (.fin)))) 11 (.only 10 (.only 12 (.only 13 (.fin))))))))))))))) [0,1,2,3,4,5,6,7,8,9,10,11] mix (by kernel_rfl) (by kernel_rfl) (go4 ?_);refine pQ O (aW aH (j9 a.n b.d) O) (go4 ?_);refine pQ O (aW aH (j9 b.n a.d) O) ?_;refine uO ?_ ?_
 ·refine dC O O (bI zpT (fun b8 hb8=>⟨(fun _=>sd s0),(sd s0),?_⟩));refine dC O O (bI zpT (fun b9 hb9=>⟨(fun _=>sd s0),(sd (sd s0)),?_⟩));refine go3 ?_;refine gDs (sk (sd (sk (sk (sk s0))))) (.quiet 0 [1,4,9,12,13] (.quiet 1 [4,9,12,13] (.quiet 2 [3,4,9,12,13] (.quiet 3 [4,9,12,13] (.quiet 4 [9,12,13] (.quiet 5 [6,9,12,13] (.quiet 6 [9,12,13] (.quiet 7 [8,9,12,13] (.quiet 8 [9,12,13] (.quiet 9 [12,13] (.both 10 (.only 11 (.only 12 (.only 13 (.fin)))) 11 (.only 10 (.only 12 (.only 13 (.fin))))))))))))))) [0,1,2,3,4,5,6,7,8,9,10,11] mix (by kernel_rfl) (by kernel_rfl) (go4 ?_);obtain ⟨r10,hr10⟩:=nm ((E (Z.mul ((bN a.n b.d).n).dec ((bN b.n a.d).n).dec)):I);refine pC (AV [pI r10]) aH (dR ((bN a.n b.d).n).1 ((bN b.n a.d).n).1 ((bN a.n b.d).n).2 ((bN b.n a.d).n).2) O O (by subst hr10;rfl) (go4 ?_);obtain ⟨r11,hr11⟩:=nm ((E (Z.mul ((bN a.n b.d).d).dec ((bN b.n a.d).d).dec)):I);refine pC (AV [pI r11]) aH (dR ((bN a.n b.d).d).1 ((bN b.n a.d).d).1 ((bN a.n b.d).d).2 ((bN b.n a.d).d).2) O O (by subst hr11;rfl) ?_;refine uO ?_ ?_
  ·refine dC O O (bI zpT (fun b12 hb12=>⟨(fun _=>sd s0),(sd (sk (sd s0))),?_⟩));refine dC O O (bI zpT (fun b13 hb13=>⟨(fun _=>sd s0),(sd (sd (sk (sd s0)))),?_⟩));refine go4 ?_;refine gJv [38,39,40,41,42,43] [(43,.bool (r10.1.bad||r11.1.bad))] (fun K4 J4=>?_) ?_
   ·refine go3 ?_;refine sBB O (fun h15=>?_) (fun h15=>?_)
    ·refine go4 ?_;refine J4 _ _ pp_ s0 (dG (pJ h15))
    refine go4 ?_;refine J4 _ _ pp_ s0 (dG (l5 h15 O))
   intro g16;refine aT _ O (fun h17=>?_) (fun h17=>?_)
   ·refine go_ ?_;refine sQ (aW aH i9  rfl) O (go3 ?_);refine rtX O (iC O m4 tyT O) ?_
    subst_vars;exact congrArg vS4 (show _=(gA a b) from bH h7 (bS h17 O))
   refine go8 ?_;refine rtX O (iC O m4 tyT O) ?_
   subst_vars;exact congrArg vS4 (show _=(gA a b) from bH h7 (bH h17 O))
  refine dC O O (bI zpT (fun b18 hb18=>⟨(fun _=>sd s0),(sd (sk (sd s0))),?_⟩));refine dC O O (bI zpT (fun b19 hb19=>⟨(fun _=>sd s0),(sd (sd (sk (sd s0)))),?_⟩));refine go4 ?_;refine gJv [38,39,40,41,42,43] [(43,.bool (r10.1.bad||r11.1.bad))] (fun K6 J6=>?_) ?_
  ·refine go3 ?_;refine sBB O (fun h21=>?_) (fun h21=>?_)
   ·refine go4 ?_;refine J6 _ _ pp_ s0 (dG (pJ h21))
   refine go4 ?_;refine J6 _ _ pp_ s0 (dG (l5 h21 O))
  intro g22;refine aT _ O (fun h23=>?_) (fun h23=>?_)
  ·refine go_ ?_;refine sQ (aW aH i9  rfl) O (go3 ?_);refine rtX O (iC O m4 tyT O) ?_
   subst_vars;exact congrArg vS4 (show _=(gA a b) from bH h7 (bS h23 O))
  refine go8 ?_;refine rtX O (iC O m4 tyT O) ?_
  subst_vars;exact congrArg vS4 (show _=(gA a b) from bH h7 (bH h23 O))
 refine dC O O (bI zpT (fun b24 hb24=>⟨(fun _=>sd s0),(sd s0),?_⟩));refine dC O O (bI zpT (fun b25 hb25=>⟨(fun _=>sd s0),(sd (sd s0)),?_⟩));refine go3 ?_;refine gDs (sk (sk (sk (sk (sk s0))))) (.quiet 0 [1,4,9,12,13] (.quiet 1 [4,9,12,13] (.quiet 2 [3,4,9,12,13] (.quiet 3 [4,9,12,13] (.quiet 4 [9,12,13] (.quiet 5 [6,9,12,13] (.quiet 6 [9,12,13] (.quiet 7 [8,9,12,13] (.quiet 8 [9,12,13] (.quiet 9 [12,13] (.both 10 (.only 11 (.only 12 (.only 13 (.fin)))) 11 (.only 10 (.only 12 (.only 13 (.fin))))))))))))))) [0,1,2,3,4,5,6,7,8,9,10,11] mix (by kernel_rfl) (by kernel_rfl) (go4 ?_);obtain ⟨r26,hr26⟩:=nm ((E (Z.mul ((bN a.n b.d).n).dec ((bN b.n a.d).n).dec)):I);refine pC (AV [pI r26]) aH (dR ((bN a.n b.d).n).1 ((bN b.n a.d).n).1 ((bN a.n b.d).n).2 ((bN b.n a.d).n).2) O O (by subst hr26;rfl) (go4 ?_);obtain ⟨r27,hr27⟩:=nm ((E (Z.mul ((bN a.n b.d).d).dec ((bN b.n a.d).d).dec)):I);refine pC (AV [pI r27]) aH (dR ((bN a.n b.d).d).1 ((bN b.n a.d).d).1 ((bN a.n b.d).d).2 ((bN b.n a.d).d).2) O O (by subst hr27;rfl) ?_;refine uO ?_ ?_
 ·refine dC O O (bI zpT (fun b28 hb28=>⟨(fun _=>sd s0),(sd s0),?_⟩));refine dC O O (bI zpT (fun b29 hb29=>⟨(fun _=>sd s0),(sd (sd s0)),?_⟩));refine go4 ?_;refine gJv [38,39,40,41,42,43] [(43,.bool (r26.1.bad||r27.1.bad))] (fun K8 J8=>?_) ?_
  ·refine go3 ?_;refine sBB O (fun h31=>?_) (fun h31=>?_)
   ·refine go4 ?_;refine J8 _ _ pp_ s0 (dG (pJ h31))
   refine go4 ?_;refine J8 _ _ pp_ s0 (dG (l5 h31 O))
  intro g32;refine aT _ O (fun h33=>?_) (fun h33=>?_)
  ·refine go_ ?_;refine sQ (aW aH i9  rfl) O (go3 ?_);refine rtX O (iC O m4 tyT O) ?_
   subst_vars;exact congrArg vS4 (show _=(gA a b) from bH h7 (bS h33 O))
  refine go8 ?_;refine rtX O (iC O m4 tyT O) ?_
  subst_vars;exact congrArg vS4 (show _=(gA a b) from bH h7 (bH h33 O))
 refine dC O O (bI zpT (fun b34 hb34=>⟨(fun _=>sd s0),(sd s0),?_⟩));refine dC O O (bI zpT (fun b35 hb35=>⟨(fun _=>sd s0),(sd (sd s0)),?_⟩));refine go4 ?_;refine gJv [38,39,40,41,42,43] [(43,.bool (r26.1.bad||r27.1.bad))] (fun K10 J10=>?_) ?_
 ·refine go3 ?_;refine sBB O (fun h37=>?_) (fun h37=>?_)
  ·refine go4 ?_;refine J10 _ _ pp_ s0 (dG (pJ h37))
  refine go4 ?_;refine J10 _ _ pp_ s0 (dG (l5 h37 O))
 intro g38;refine aT _ O (fun h39=>?_) (fun h39=>?_)
 ·refine go_ ?_;refine sQ (aW aH i9  rfl) O (go3 ?_);refine rtX O (iC O m4 tyT O) ?_
  subst_vars;exact congrArg vS4 (show _=(gA a b) from bH h7 (bS h39 O))
 refine go8 ?_;refine rtX O (iC O m4 tyT O) ?_
 subst_vars;exact congrArg vS4 (show _=(gA a b) from bH h7 (bH h39 O))
theorem wW  :
  Ret prog 100 [] (AV [pI iH]):=by
 refine bG (N:=2) func100 O O zz_ (fun w0=>?_);refine giI ?_;obtain ⟨q0,hq0⟩:=nm ((E (Z.of 1)):I);refine go2 ?_;intro b1 hb1;refine go2 ?_;refine sC (AV [pI q0]) aH (rE (wl 1).1 (wl 1).2) O O (by subst hq0;rfl) ?_;refine go3 ?_;refine rtX O (iC O m0 tyT O) ?_;exact (by obtain rfl:=hq0.symm;rfl)
end Go.Proofs.YtcjoflcajgaifaaGreatDoor
