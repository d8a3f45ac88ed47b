/- Lemmas: what they ask stands in their statements. -/
import Derived.Test.YtkjjponijamaoaaGreatDoorTWe
set_option linter.unusedSimpArgs false
set_option linter.unusedVariables false
set_option maxHeartbeats 8000000
set_option maxRecDepth 20000
namespace Go.Proofs.YtkjjponijamaoaaGreatDoor
open Go.Kn Go.Num Tryz
attribute [local irreducible] Go.Kn.W WL PL OpQ OpR OpS
theorem AE (a:R) (ha:a.Ok) :
    Ret prog 155 [RV a] (.int .i64 ((a.dec.bits:Nat):Int)):=by
 refine bL (N:=25) func155 rfl rfl (by simp) (fun w0=>?_);simp only [bO,Nat.reduceAdd];refine go_ ?_;refine bD rfl (mB rfl rfl (fun b1 hb1=>go3 ?_));refine sQ (cU fdT dd_ rfl) rfl (sQ (kS (vs:=uw a.w) tyT rfl mm_ (oD ha.len) ((j1 _).trans ha.len)) rfl ?_);refine sQ (bI aB (rJ a.w ha.len) rfl) rfl (go4 ?_);refine sQ (cP tyT rfl mm_ (cT ha)) rfl ?_;refine bD rfl (lF kL kN lG rfl dd_ rfl (zV ha) (fun b8 hb8=>sQ (bT aB rfl (fun w hw=>kB [a] (ok1 ha) b8 31 w (hw.mem _ m0) (by simp))) rfl ?_));refine go2 ?_
 cases hg:[a].all R.good
 ·refine go9 ?_;refine bA rfl (.inr rfl) rfl ?_;exact congrArg (fun n:Nat=>Value.int .i64 (n:Int)) (aO_ (by simpa using hg))
 refine go4 ?_;refine aH _ rfl (fun hz=>?_) (fun hz=>?_)
 ·replace hz:=cB_ hz
  refine go4 ?_;refine bA rfl (.inr rfl) rfl ?_;exact congrArg (fun n:Nat=>Value.int .i64 (n:Int)) (Y0 ha (by simpa using hg) oo_)
 replace hz:=cB_ hz
 refine go2 ?_
 have hs1:1≤szL a.w:=by omega
 have hs16:szL a.w≤16:=by have:=y8 a.w;rw [ha.len] at this;exact this
 refine go_ ?_;refine sQ (aL (sK rfl rfl) (congrArg (Value.int .i64) (xS (b:=1) rfl oo_ oo_))) rfl (sQ (aL (XU rfl rfl) (congrArg (Value.int .i64) (hp_ rfl oo_))) rfl (go_ ?_));refine sQ (aL (sK rfl rfl) (congrArg (Value.int .i64) (xS (b:=1) rfl oo_ oo_))) rfl (sQ (cU fdT dd_ rfl) rfl (sQ (gQ arT rfl rfl oo_ oo_) rfl (sQ (eM tyT rfl mm_ (rK (r:=a) (k:=szL a.w - 1) (by rw [ha.len];omega))) rfl ?_)));refine sQ (bI aB (OZ _ (fJ ha.lim _)) rfl) rfl (sQ (aL (lE rfl rfl) (congrArg (Value.int .i64) (sF (by have:=zU (k:=32) (fJ ha.lim (szL a.w - 1));omega)))) rfl (go3 ?_));refine bA rfl (.inr rfl) rfl ?_;exact congrArg (fun n:Nat=>Value.int .i64 (n:Int)) (aQ_ ha (by simpa using hg) hs1)
theorem uB (a:R) (ha:a.Ok) :
    Ret prog 156 [RV a] (.tuple #[.int .i64 a.dec.small.1,.bool a.dec.small.2]):=by
 refine bL (N:=44) func156 rfl rfl (by simp) (fun w0=>?_);simp only [bO,Nat.reduceAdd];refine go_ ?_;refine bD rfl (mB rfl rfl (fun b1 hb1=>go5 ?_));refine sQ (cP tyT rfl mm_ (cT ha)) rfl ?_;refine bD rfl (lF kL kN lG rfl dd_ rfl (zV ha) (fun b6 hb6=>sQ (bT aB rfl (fun w hw=>kB [a] (ok1 ha) b6 31 w (hw.mem _ m0) (by simp))) rfl ?_));refine go2 ?_
 cases hg:[a].all R.good
 ·refine AG ?_;refine l8 rfl (.inr rfl) rfl rfl ?_;exact Z2 (by simpa using hg)
 refine sQ (cP tyT rfl mm_ (cT ha)) rfl ?_;refine sQ (bI aB (AE a ha) rfl) rfl (go3 ?_);refine aH _ rfl (fun hb=>?_) (fun hb=>?_)
 ·replace hb:=cB_ hb
  refine go5 ?_;refine l8 rfl (.inr rfl) rfl rfl ?_;exact WE ha (by simpa using hg) hb
 replace hb:=cB_ hb
 have h64:=fw_ ha (by simpa using hg) hb;refine go2 ?_;refine sQ (cU fdT dd_ rfl) rfl (sQ (gQ arT rfl rfl dd_ dd_) rfl (sQ (eM tyT rfl mm_ (rK (r:=a) (k:=1) (by rw [ha.len];omega))) rfl ?_));refine sQ (aL (fW j6 iQ rfl) (AA (fJ ha.lim _))) rfl (sQ (aL (E2 rfl rfl dd_) (congrArg (Value.int .u64) (A7 (fJ ha.lim _)))) rfl (sQ (cU fdT dd_ rfl) rfl (sQ (gQ arT rfl rfl dd_ dd_) rfl (sQ (eM tyT rfl mm_ (rK (r:=a) (k:=0) (by rw [ha.len];omega))) rfl ?_))));refine sQ (aL (fW j6 iQ rfl) (AA (fJ ha.lim _))) rfl (sQ (aL (QZ rfl rfl) (congrArg (Value.int .u64) ((TH (fJ ha.lim _) (fJ ha.lim _)).trans (congrArg (fun m:Nat=>(m:Int)) (GY ha h64))))) rfl (go5 ?_));refine sQ (cU fdT dd_ rfl) rfl (sQ (eM tyT rfl mm_ rfl) rfl ?_);refine go_ ?_
 cases hn:a.neg
 ·refine go7 ?_;refine sQ (cU fdT dd_ rfl) rfl (sQ (eM tyT rfl mm_ rfl) rfl ?_);refine go_ ?_;rw [hn];refine go6 ?_;refine aH _ rfl (fun hlt=>?_) (fun hlt=>?_)
  ·replace hlt:=cB_ hlt
   refine go2 ?_;refine sQ (aL (fW iQ HH rfl) (congrArg (Value.int .i64) (Z5 oo_))) rfl (go4 ?_);refine l8 rfl (.inr rfl) rfl rfl ?_;exact UC ha (by simpa using hg) (by rw [hn];rfl) (by rw [hn,wB];omega)
  replace hlt:=cB_ hlt
  refine go6 ?_;refine l8 rfl (.inr rfl) rfl rfl ?_;exact IY ha (by simpa using hg) (by rw [hn,wB];omega)
 refine go5 ?_;refine aH _ rfl (fun hle=>?_) (fun hle=>?_)
 ·replace hle:=cB_ hle
  refine go3 ?_;refine sQ (aL (fW iQ HH rfl) (congrArg (Value.int .i64) (Z3 oo_))) rfl (go4 ?_);refine l8 rfl (.inr rfl) rfl rfl ?_;exact UC ha (by simpa using hg) (by rw [hn];rfl) (by rw [hn,xJ];omega)
 replace hle:=cB_ hle
 refine go_ ?_;refine sQ (cU fdT dd_ rfl) rfl (sQ (eM tyT rfl mm_ rfl) rfl ?_);refine go_ ?_;rw [hn];refine dy_ ?_;refine l8 rfl (.inr rfl) rfl rfl ?_;exact IY ha (by simpa using hg) (by rw [hn,xJ];omega)
theorem BC (a b:R) (ha:a.Ok) (hb:b.Ok) :
    Ret prog 183 [RV a,RV b] (.tuple #[RV (Z.quo a.dec b.dec).enc,RV (Z.rem a.dec b.dec).enc]):=by
 refine bL (N:=108) func183 rfl rfl (by simp) (fun w0=>?_);simp only [bO,Nat.reduceAdd];refine go_ ?_;refine bD rfl (mB rfl rfl (fun b2 hb2=>bD rfl (mB rfl rfl (fun b3 hb3=>bD rfl (fP kN (fun b4 hb4=>bD rfl (fP kN (fun b5 hb5=>go3 ?_))))))));refine sQ (cP tyT rfl mm_ (cT ha)) rfl ?_;refine sQ (cP tyT rfl mm_ (cT hb)) rfl ?_;refine bD rfl (lF kL kN lG rfl dd_ rfl (QD ha hb) (fun b17 hb17=>sQ (bT aB rfl (fun w hw=>kB [a,b] (ok2 ha hb) b17 31 w (hw.mem _ m0) (by simp))) rfl ?_));refine go2 ?_
 cases hg:[a,b].all R.good
 ·refine go7 ?_;refine sQ (bI aB gX rfl) rfl (sQ (bI aB gX rfl) rfl (bD rfl (cC tyT rfl rfl uu_ (aF _) rfl (bV _) (.inl (by assumption)) ?_)));refine bD rfl (cC tyT rfl rfl uu_ (aF _) rfl (bV _) (.inl (by assumption)) ?_);refine go2 ?_;refine l8 rfl (.inr rfl) ⟨_,_,_,_,_,_,rfl,mm_,tyT,_,(eC (aF _)),(aF _),rfl⟩ ⟨_,_,_,_,_,_,rfl,mm_,tyT,_,(eC (aF _)),(aF _),rfl⟩ ?_;exact dV_ (HJ hg)
 have hg:=all2.1 hg;refine sQ (cP tyT rfl mm_ (cT hb)) rfl ?_;refine sQ (bI aB (iY b hb) rfl) rfl (go3 ?_);refine aH _ rfl (fun hs0=>?_) (fun hs0=>?_)
 ·replace hs0:=cB_ hs0
  refine go_ ?_;refine sQ (bI aB gX rfl) rfl (sQ (bI aB gX rfl) rfl (bD rfl (cC tyT rfl rfl uu_ (aF _) rfl (bV _) (.inl (by assumption)) ?_)));refine bD rfl (cC tyT rfl rfl uu_ (aF _) rfl (bV _) (.inl (by assumption)) ?_);refine go2 ?_;refine l8 rfl (.inr rfl) ⟨_,_,_,_,_,_,rfl,mm_,tyT,_,(eC (aF _)),(aF _),rfl⟩ ⟨_,_,_,_,_,_,rfl,mm_,tyT,_,(eC (aF _)),(aF _),rfl⟩ ?_;exact cd_ ha hb hg.1 hg.2 hs0
 replace hs0:=cB_ hs0
 have hs0:b.dec.sign≠0:=hs0;have hp:=D2 hb hg.2 hs0;refine go_ ?_;refine y6 [6,7,8,9,10,11,27,28,29,30,31,32,33,34,35,36,37,38,39,40,41,42,43,44,45,46,47,48,49,50,51,52,53,54,55,56,57,58,59,60,61,62,63,64,65,66,67,68,69,70] (fun g M=>(True)∧M=[⟨b5,31,zR⟩,⟨b4,31,zR⟩,⟨b3,31,b.cells⟩,⟨b2,31,a.cells⟩]∧(True)) (fun K6 J6=>?_) ?_
 ·refine go_ ?_;refine sQ (cP tyT rfl mm_ (cT ha)) rfl ?_;refine sQ (bI aB (uB a ha) rfl) rfl (go9 ?_)
  cases hsa:a.dec.small.2
  ·refine go6 ?_;refine J6 _ _ pp_ ⟨_,(List.Sublist.cons _ (List.Sublist.refl _)),trivial,?mem,trivial⟩
   case mem=>rfl
  refine go4 ?_;refine aH _ rfl (fun hma=>?_) (fun hma=>?_)
  ·replace hma:=cB_ hma
   have ea:=NC hsa;refine go_ ?_;refine sQ (cP tyT rfl mm_ (cT hb)) rfl ?_;refine sQ (bI aB (uB b hb) rfl) rfl (go9 ?_)
   cases hsb:b.dec.small.2
   ·refine go6 ?_;refine J6 _ _ pp_ ⟨_,(List.Sublist.cons _ (List.Sublist.refl _)),trivial,?mem,trivial⟩
    case mem=>rfl
   refine go4 ?_;refine aH _ rfl (fun hmb=>?_) (fun hmb=>?_)
   ·replace hmb:=cB_ hmb
    have eb:=NC hsb;have hy0:=RD eb.1 hs0;have hq64:I64 (a.dec.small.1.tdiv b.dec.small.1):=V1 ea.2 hma;have hr64:=gl_ (x:=a.dec.small.1) hy0 eb.2;refine go_ ?_;refine jQ (sk (sk (sk (sk (sk (s0)))))) 8 [] [] (go2 ?_);refine pQ rfl (aL (mG rfl rfl hy0) (congrArg (Value.int .i64) (cO (V1 ea.2 hma)))) (go2 ?_);refine pQ rfl (rR rfl rfl hy0) (go8 ?_)
    cases hr0:(a.dec.small.1.tmod b.dec.small.1 != 0)
    ·refine AG ?_;refine sQ (bI aB (dO _ (by first | exact hI1 | exact hq64)) rfl) rfl ?_;refine go_ ?_;refine sQ (bI aB (dO _ (by first | exact hI2 | exact hr64)) rfl) rfl ?_;refine bD rfl (cC tyT rfl rfl uu_ (aF _) rfl (bV _) (.inl (by assumption)) ?_);refine bD rfl (cC tyT rfl rfl uu_ (aF _) rfl (bV _) (.inl (by assumption)) ?_);refine go2 ?_;refine l8 rfl (.inr rfl) ⟨_,_,_,_,_,_,rfl,mm_,tyT,_,(eC (aF _)),(aF _),rfl⟩ ⟨_,_,_,_,_,_,rfl,mm_,tyT,_,(eC (aF _)),(aF _),rfl⟩ ?_;exact IX ea.1 eb.1 hs0 (HG hy0 (.inl (by simpa using hr0)))
    refine go4 ?_;refine sQ (yI F2 rfl rfl) rfl (go2 ?_);refine aH _ rfl (fun hsg=>?_) (fun hsg=>?_)
    ·replace hsg:=cB_ hsg
     have hI1:I64 (a.dec.small.1.tdiv b.dec.small.1 - 1):=ca_ ea.2 hma;have hI2:=gm_ hy0 eb.2 (bne_iff_ne.2 hsg);refine go2 ?_;refine sQ (aL (sK rfl rfl) (congrArg (Value.int .i64) (cO hI1))) rfl (go2 ?_);refine sQ (aL (lE rfl rfl) (congrArg (Value.int .i64) (cO hI2))) rfl (go5 ?_);refine sQ (bI aB (dO _ (by first | exact hI1 | exact hq64)) rfl) rfl ?_;refine go_ ?_;refine sQ (bI aB (dO _ (by first | exact hI2 | exact hr64)) rfl) rfl ?_;refine bD rfl (cC tyT rfl rfl uu_ (aF _) rfl (bV _) (.inl (by assumption)) ?_);refine bD rfl (cC tyT rfl rfl uu_ (aF _) rfl (bV _) (.inl (by assumption)) ?_);refine go2 ?_;refine l8 rfl (.inr rfl) ⟨_,_,_,_,_,_,rfl,mm_,tyT,_,(eC (aF _)),(aF _),rfl⟩ ⟨_,_,_,_,_,_,rfl,mm_,tyT,_,(eC (aF _)),(aF _),rfl⟩ ?_;exact IX ea.1 eb.1 hs0 (VA hy0 (by simpa using hr0) (bne_iff_ne.2 hsg))
    replace hsg:=cB_ hsg
    refine go3 ?_;refine sQ (bI aB (dO _ (by first | exact hI1 | exact hq64)) rfl) rfl ?_;refine go_ ?_;refine sQ (bI aB (dO _ (by first | exact hI2 | exact hr64)) rfl) rfl ?_;refine bD rfl (cC tyT rfl rfl uu_ (aF _) rfl (bV _) (.inl (by assumption)) ?_);refine bD rfl (cC tyT rfl rfl uu_ (aF _) rfl (bV _) (.inl (by assumption)) ?_);refine go2 ?_;refine l8 rfl (.inr rfl) ⟨_,_,_,_,_,_,rfl,mm_,tyT,_,(eC (aF _)),(aF _),rfl⟩ ⟨_,_,_,_,_,_,rfl,mm_,tyT,_,(eC (aF _)),(aF _),rfl⟩ ?_;exact IX ea.1 eb.1 hs0 (HG hy0 (.inr (by simpa using hsg)))
   replace hmb:=cB_ hmb
   refine go_ ?_;refine J6 _ _ pp_ ⟨_,(List.Sublist.cons _ (List.Sublist.refl _)),trivial,?mem,trivial⟩
   case mem=>rfl
  replace hma:=cB_ hma
  refine go_ ?_;refine J6 _ _ pp_ ⟨_,(List.Sublist.cons _ (List.Sublist.refl _)),trivial,?mem,trivial⟩
  case mem=>rfl
 rintro g M ⟨-,rfl,-⟩;simp only [fF];refine go_ ?_;refine sQ (cU fdT dd_ rfl) rfl (sQ (kS (vs:=uw a.w) tyT rfl mm_ (oD ha.len) ((j1 _).trans ha.len)) rfl ?_);refine sQ (cU fdT dd_ rfl) rfl (sQ (kS (vs:=uw b.w) tyT rfl mm_ (oD hb.len) ((j1 _).trans hb.len)) rfl ?_);refine sQ (bI aB (vY a.w b.w ha.len hb.len ha.lim hb.lim hp) rfl) rfl (go3 ?_);refine bD rfl (fP tK (fun b12 hb12=>bD rfl (fP tK (fun b13 hb13=>bD rfl (cC tyT rfl rfl uu_ (by simp [uw,dI]) (by simp [uw]) (kH _) (.inl (by assumption)) ?_)))));refine bD rfl (cC tyT rfl rfl uu_ (by simp [uw,dI]) (by simp [uw]) (kH _) (.inl (by assumption)) ?_);refine go2 ?_;refine sQ (cU fdT dd_ rfl) rfl (sQ (eM tyT rfl mm_ rfl) rfl ?_);refine sQ (cU fdT dd_ rfl) rfl (sQ (eM tyT rfl mm_ rfl) rfl ?_);refine sQ (yI F2 rfl rfl) rfl (sQ (cP tyT rfl mm_ (by simp [uw,dI])) rfl ?_);refine sQ (aL (bI aB (gL (a.neg != b.neg) _ (dI _ _) (oQ _ _)) rfl) (congrArg RV (rC _ (cc_ ha)))) rfl (bD rfl (fP kN (fun b14 hb14=>bD rfl (cC tyT rfl rfl uu_ (aF _) rfl (bV _) (.inl (by assumption)) ?_))));refine go_ ?_;refine y6 [86,87,88,89,90,91,92,93,94,95,96,97,98,99,100,101,102] (fun g M=>∃ (z:Z) (l:List Nat),(True)∧M=[⟨b14,31,z.enc.cells⟩,⟨b13,29,uw l⟩,⟨b12,29,uw (toL 16 (val a.w / val b.w))⟩,⟨b5,31,zR⟩,⟨b4,31,zR⟩,⟨b3,31,b.cells⟩,⟨b2,31,a.cells⟩]∧(l.length=16∧Lim l∧z=Z.quo a.dec b.dec∧R.mk false (b.neg && !(val l==0)) l=(Z.rem a.dec b.dec).enc)) (fun K19 J19=>?_) ?_
 ·refine go_ ?_;refine sQ (cP tyT rfl mm_ (by simp [uw,dI])) rfl ?_;refine sQ (tF tK arT rfl (.nil _)) rfl ?_;refine sQ (DC (r:=(val a.w % val b.w==0)) rfl rfl (oB 8 dd_ LP MJ (rI (dI _ _)) (rI (by simp)) (cg_ ha))) rfl ?_;refine go_ ?_
  cases hr1:(val a.w % val b.w==0)
  ·refine sQ (cU fdT dd_ rfl) rfl (sQ (eM tyT rfl mm_ rfl) rfl ?_);refine sQ (cU fdT dd_ rfl) rfl (sQ (eM tyT rfl mm_ rfl) rfl ?_);refine sQ (yI F2 rfl rfl) rfl (go2 ?_);refine aH _ rfl (fun hne=>?_) (fun hne=>?_)
   ·replace hne:=cB_ hne
    refine gdr (sd (sd (sk (sk (sk (sk (sk (s0)))))))) [0,4,8,12,16,20,24,29,33] [7,8] mix (by kernel_rfl) (pQ rfl (cP tyT rfl mm_ (aF _)) ?_);refine pQ rfl (bI aB (dO 1 (by unfold I64;decide)) rfl) (pQ rfl (bI aB (GG (Z.of (sgn (a.neg != b.neg) (val a.w / val b.w))).enc (Z.of 1).enc (Z.enc_ok _) (Z.enc_ok _)) rfl) (pQ rfl (cU fdT dd_ rfl) (pQ rfl (kS (vs:=uw b.w) tyT rfl mm_ (oD hb.len) ((j1 _).trans hb.len)) ?_)));refine pQ rfl (cP tyT rfl mm_ (by simp [uw,dI])) ?_;refine pQ rfl (bI aB (y9 b.w _ hb.len (dI _ _) hb.lim (oQ _ _) (gp_ ha hp)) rfl) ?_;refine cF rfl rfl (cC tyT rfl rfl uu_ (aF _) (aF _) (bV _) (.inl (by assumption)) ⟨nf,ss_,?_⟩);refine cF rfl rfl (cC tyT rfl rfl uu_ (by simp [uw,dI]) (by simp [uw,dI]) (kH _) (.inl (by assumption)) ⟨nf,ss_,?_⟩);refine go_ ?_;refine J19 _ _ pp_ ⟨_,(List.Sublist.refl _),_,_,trivial,?mem,dp_ ha hb hg.1 hg.2 hp (by simpa using hr1) hne⟩
    case mem=>rfl
   replace hne:=cB_ hne
   refine go_ ?_;refine J19 _ _ pp_ ⟨_,(List.Sublist.refl _),_,_,trivial,?mem,SH ha hb hg.1 hg.2 hp (.inr (by simpa using hne))⟩
   case mem=>rfl
  refine go9 ?_;refine J19 _ _ pp_ ⟨_,(List.Sublist.refl _),_,_,trivial,?mem,SH ha hb hg.1 hg.2 hp (.inl (by simpa using hr1))⟩
  case mem=>rfl
 rintro g M ⟨z,l,-,rfl,⟨hl16,hlim,hzq,hzr⟩⟩;simp only [fF];refine go_ ?_;refine gdr (sk (sk (sk (sd (sd (sk (sk (s0)))))))) [0,4,8,12,16,21,25] [5,6] mix (by kernel_rfl) (pQ rfl (cP tyT rfl mm_ (aF _)) ?_);refine pQ rfl (cU fdT dd_ rfl) (pQ rfl (eM tyT rfl mm_ rfl) ?_);refine pQ rfl (cP tyT rfl mm_ (by rw [j1,hl16])) ?_;refine pQ rfl (bI aB (gL b.neg l hl16 hlim) rfl) ?_;refine cF rfl rfl (cC tyT rfl rfl uu_ (aF _) rfl (bV _) (.inl (by assumption)) ⟨nf,ss_,?_⟩);refine cF rfl rfl (cC tyT rfl rfl uu_ (kV hl16) rfl (bV _) (.inl (by assumption)) ⟨nf,ss_,?_⟩);refine go2 ?_;refine l8 rfl (.inr rfl) ⟨_,_,_,_,_,_,rfl,mm_,tyT,_,(eC (aF _)),(aF _),rfl⟩ ⟨_,_,_,_,_,_,rfl,mm_,tyT,_,(eC (kV hl16)),(kV hl16),rfl⟩ ?_
 (subst hzq;exact congrArg (fun r:R=>Value.tuple #[RV (Z.quo a.dec b.dec).enc,RV r]) hzr)
theorem i8 (a b:R) (ha:a.Ok) (hb:b.Ok) :
    Ret prog 103 [RV a,RV b] (RV (Z.quo a.dec b.dec).enc):=by
 refine bL (N:=14) func103 rfl rfl (by simp) (fun w0=>?_);simp only [bO,Nat.reduceAdd];refine go_ ?_;refine bD rfl (mB rfl rfl (fun b2 hb2=>bD rfl (mB rfl rfl (fun b3 hb3=>bD rfl (fP kN (fun b4 hb4=>go2 ?_))))));refine sQ (cP tyT rfl mm_ (cT ha)) rfl ?_;refine sQ (cP tyT rfl mm_ (cT hb)) rfl ?_;refine sQ (bI aB (BC a b ha hb) rfl) rfl (go3 ?_);refine bD rfl (fP kN (fun b5 hb5=>bD rfl (fP kN (fun b6 hb6=>bD rfl (cC tyT rfl rfl uu_ (aF _) rfl (bV _) (.inl (by assumption)) ?_)))));refine bD rfl (cC tyT rfl rfl uu_ (aF _) rfl (bV _) (.inl (by assumption)) ?_);refine go2 ?_;refine sQ (cP tyT rfl mm_ (aF _)) rfl ?_;refine bD rfl (cC tyT rfl rfl uu_ (aF _) rfl (bV _) (.inl (by assumption)) ?_);refine go2 ?_;refine bA rfl (.inr rfl) ⟨_,_,_,_,_,_,rfl,mm_,tyT,_,(eC (aF _)),(aF _),rfl⟩ ?_;exact rfl
theorem GE (a b:R) (ha:a.Ok) (hb:b.Ok) :
    Ret prog 132 [RV a,RV b] (.int .i64 (Z.cmp a.dec b.dec)):=by
 refine bL (N:=47) func132 rfl rfl (by simp) (fun w0=>?_);simp only [bO,Nat.reduceAdd];refine go_ ?_;refine bD rfl (mB rfl rfl (fun b2 hb2=>bD rfl (mB rfl rfl (fun b3 hb3=>go3 ?_))));refine gDk (sk (sk (s0))) (.quiet 0 [1,2,5,6,7] (.quiet 3 [4,5,6,7] (.both 1 (.quiet 2 [5,6,7] (.only 4 (.quiet 5 [6,7] (.quiet 6 [7] (.quiet 7 [] (.fin)))))) 4 (.only 1 (.quiet 2 [5,6,7] (.quiet 5 [6,7] (.quiet 6 [7] (.quiet 7 [] (.fin))))))))) [0,1,2,3,4,5,6,7] mix (by kernel_rfl) (by kernel_rfl) (pQ rfl (cP tyT rfl mm_ (cT ha)) ?_);refine pQ rfl (cP tyT rfl mm_ (cT hb)) ?_;refine D4 ?_ ?_
 ·refine cF rfl rfl (lF kL kN lG rfl dd_ rfl (zV ha) (fun b8 hb8=>⟨(fun _=>by first | exact sd s0 | exact s0),ss_,?_⟩));refine pQ rfl (bT aB rfl (fun w hw=>kB [a] (ok1 ha) b8 31 w (hw.mem ⟨b8,31,_⟩ (by first | exact m0 | exact m1)) (by simp))) ?_;refine cF rfl rfl (lF kL kN lG rfl dd_ rfl (zV hb) (fun b11 hb11=>⟨(fun _=>by first | exact sd s0 | exact s0),ss_,?_⟩));refine pQ rfl (bT aB rfl (fun w hw=>kB [b] (ok1 hb) b11 31 w (hw.mem ⟨b11,31,_⟩ (by first | exact m0 | exact m1)) (by simp))) ?_;refine go9 ?_
  cases hga:[a].all R.good
  ·refine go5 ?_;refine aH _ rfl (fun hgb=>?_) (fun hgb=>?_)
   ·replace hgb:=cB_ hgb
    refine go4 ?_;refine bA rfl (.inr rfl) rfl ?_;exact congrArg _ (U2 (by simpa using hga) (by simpa using hgb))
   replace hgb:=cB_ hgb
   refine jT ?_;refine bA rfl (.inr rfl) rfl ?_;exact congrArg _ (U3 (by simpa using hga) hb (by simpa using hgb))
  refine bk_ ?_;refine aH _ rfl (fun hgb=>?_) (fun hgb=>?_)
  ·replace hgb:=cB_ hgb
   refine go4 ?_;refine bA rfl (.inr rfl) rfl ?_;exact congrArg _ (U4 ha (by simpa using hga) (by simpa using hgb))
  replace hgb:=cB_ hgb
  refine go_ ?_;refine sQ (cU fdT dd_ rfl) rfl (sQ (eM tyT rfl mm_ rfl) rfl ?_);refine sQ (cU fdT dd_ rfl) rfl (sQ (eM tyT rfl mm_ rfl) rfl ?_);refine sQ (yI F2 rfl rfl) rfl (go2 ?_);refine aH _ rfl (fun hn=>?_) (fun hn=>?_)
  ·replace hn:=cB_ hn
   refine go2 ?_;refine sQ (cU fdT dd_ rfl) rfl (sQ (eM tyT rfl mm_ rfl) rfl ?_);refine go_ ?_;refine aH _ rfl (fun hs=>?_) (fun hs=>?_)
   ·replace hs:=cB_ hs
    refine go4 ?_;refine bA rfl (.inr rfl) rfl ?_;exact congrArg _ (aX_ ha hb (by simpa using hga) (by simpa using hgb) hn hs)
   replace hs:=cB_ hs
   refine go5 ?_;refine bA rfl (.inr rfl) rfl ?_;exact congrArg _ (aW_ ha hb (by simpa using hga) (by simpa using hgb) hn (by simpa using hs))
  replace hn:=cB_ hn
  refine go_ ?_;refine sQ (cU fdT dd_ rfl) rfl (sQ (eM tyT rfl mm_ rfl) rfl ?_);refine go2 ?_;refine aH _ rfl (fun hs=>?_) (fun hs=>?_)
  ·replace hs:=cB_ hs
   refine go_ ?_;refine sQ (cU fdT dd_ rfl) rfl (sQ (kS (vs:=uw b.w) tyT rfl mm_ (oD hb.len) ((j1 _).trans hb.len)) rfl ?_);refine sQ (cU fdT dd_ rfl) rfl (sQ (kS (vs:=uw a.w) tyT rfl mm_ (oD ha.len) ((j1 _).trans ha.len)) rfl ?_);refine sQ (bI aB (rX b.w a.w hb.len ha.len hb.lim ha.lim) rfl) rfl (go3 ?_);refine bA rfl (.inr rfl) rfl ?_;exact congrArg _ (aY_ ha hb (by simpa using hga) (by simpa using hgb) hn hs)
  replace hs:=cB_ hs
  refine go2 ?_;refine sQ (cU fdT dd_ rfl) rfl (sQ (kS (vs:=uw a.w) tyT rfl mm_ (oD ha.len) ((j1 _).trans ha.len)) rfl ?_);refine sQ (cU fdT dd_ rfl) rfl (sQ (kS (vs:=uw b.w) tyT rfl mm_ (oD hb.len) ((j1 _).trans hb.len)) rfl ?_);refine sQ (bI aB (rX a.w b.w ha.len hb.len ha.lim hb.lim) rfl) rfl (go3 ?_);refine bA rfl (.inr rfl) rfl ?_;exact congrArg _ (aZ_ ha hb (by simpa using hga) (by simpa using hgb) hn (by simpa using hs))
 refine cF rfl rfl (lF kL kN lG rfl dd_ rfl (zV hb) (fun b11 hb11=>⟨(fun _=>by first | exact sd s0 | exact s0),ss_,?_⟩));refine cF rfl rfl (lF kL kN lG rfl dd_ rfl (zV ha) (fun b8 hb8=>⟨(fun _=>by first | exact sd s0 | exact s0),ss_,?_⟩));refine pQ rfl (bT aB rfl (fun w hw=>kB [a] (ok1 ha) b8 31 w (hw.mem ⟨b8,31,_⟩ (by first | exact m0 | exact m1)) (by simp))) ?_;refine pQ rfl (bT aB rfl (fun w hw=>kB [b] (ok1 hb) b11 31 w (hw.mem ⟨b11,31,_⟩ (by first | exact m0 | exact m1)) (by simp))) ?_;refine go9 ?_
 cases hga:[a].all R.good
 ·refine go5 ?_;refine aH _ rfl (fun hgb=>?_) (fun hgb=>?_)
  ·replace hgb:=cB_ hgb
   refine go4 ?_;refine bA rfl (.inr rfl) rfl ?_;exact congrArg _ (U2 (by simpa using hga) (by simpa using hgb))
  replace hgb:=cB_ hgb
  refine jT ?_;refine bA rfl (.inr rfl) rfl ?_;exact congrArg _ (U3 (by simpa using hga) hb (by simpa using hgb))
 refine bk_ ?_;refine aH _ rfl (fun hgb=>?_) (fun hgb=>?_)
 ·replace hgb:=cB_ hgb
  refine go4 ?_;refine bA rfl (.inr rfl) rfl ?_;exact congrArg _ (U4 ha (by simpa using hga) (by simpa using hgb))
 replace hgb:=cB_ hgb
 refine go_ ?_;refine sQ (cU fdT dd_ rfl) rfl (sQ (eM tyT rfl mm_ rfl) rfl ?_);refine sQ (cU fdT dd_ rfl) rfl (sQ (eM tyT rfl mm_ rfl) rfl ?_);refine sQ (yI F2 rfl rfl) rfl (go2 ?_);refine aH _ rfl (fun hn=>?_) (fun hn=>?_)
 ·replace hn:=cB_ hn
  refine go2 ?_;refine sQ (cU fdT dd_ rfl) rfl (sQ (eM tyT rfl mm_ rfl) rfl ?_);refine go_ ?_;refine aH _ rfl (fun hs=>?_) (fun hs=>?_)
  ·replace hs:=cB_ hs
   refine go4 ?_;refine bA rfl (.inr rfl) rfl ?_;exact congrArg _ (aX_ ha hb (by simpa using hga) (by simpa using hgb) hn hs)
  replace hs:=cB_ hs
  refine go5 ?_;refine bA rfl (.inr rfl) rfl ?_;exact congrArg _ (aW_ ha hb (by simpa using hga) (by simpa using hgb) hn (by simpa using hs))
 replace hn:=cB_ hn
 refine go_ ?_;refine sQ (cU fdT dd_ rfl) rfl (sQ (eM tyT rfl mm_ rfl) rfl ?_);refine go2 ?_;refine aH _ rfl (fun hs=>?_) (fun hs=>?_)
 ·replace hs:=cB_ hs
  refine go_ ?_;refine sQ (cU fdT dd_ rfl) rfl (sQ (kS (vs:=uw b.w) tyT rfl mm_ (oD hb.len) ((j1 _).trans hb.len)) rfl ?_);refine sQ (cU fdT dd_ rfl) rfl (sQ (kS (vs:=uw a.w) tyT rfl mm_ (oD ha.len) ((j1 _).trans ha.len)) rfl ?_);refine sQ (bI aB (rX b.w a.w hb.len ha.len hb.lim ha.lim) rfl) rfl (go3 ?_);refine bA rfl (.inr rfl) rfl ?_;exact congrArg _ (aY_ ha hb (by simpa using hga) (by simpa using hgb) hn hs)
 replace hs:=cB_ hs
 refine go2 ?_;refine sQ (cU fdT dd_ rfl) rfl (sQ (kS (vs:=uw a.w) tyT rfl mm_ (oD ha.len) ((j1 _).trans ha.len)) rfl ?_);refine sQ (cU fdT dd_ rfl) rfl (sQ (kS (vs:=uw b.w) tyT rfl mm_ (oD hb.len) ((j1 _).trans hb.len)) rfl ?_);refine sQ (bI aB (rX a.w b.w ha.len hb.len ha.lim hb.lim) rfl) rfl (go3 ?_);refine bA rfl (.inr rfl) rfl ?_;exact congrArg _ (aZ_ ha hb (by simpa using hga) (by simpa using hgb) hn (by simpa using hs))
theorem NS (n:Nat) (IH:∀ (a b:R),a.Ok→b.Ok→val b.w<n→Ret prog 128 [RV a,RV b] (RV (Z.gcd a.dec b.dec).enc)) (a b:R) (ha:a.Ok) (hb:b.Ok) (hn:val b.w=n) :
    Ret prog 128 [RV a,RV b] (RV (Z.gcd a.dec b.dec).enc):=by
 refine bL (N:=80) func128 rfl rfl (by simp) (fun w0=>?_);simp only [bO,Nat.reduceAdd];refine go_ ?_;refine bD rfl (mB rfl rfl (fun b2 hb2=>bD rfl (mB rfl rfl (fun b3 hb3=>bD rfl (fP kN (fun b4 hb4=>go3 ?_))))));refine sQ (cP tyT rfl mm_ (cT ha)) rfl ?_;refine sQ (cP tyT rfl mm_ (cT hb)) rfl ?_;refine bD rfl (lF kL kN lG rfl dd_ rfl (QD ha hb) (fun b13 hb13=>sQ (bT aB rfl (fun w hw=>kB [a,b] (ok2 ha hb) b13 31 w (hw.mem _ m0) (by simp))) rfl ?_));refine go2 ?_;refine aH _ rfl (fun hg=>?_) (fun hg=>?_)
 ·replace hg:=cB_ hg
  refine go_ ?_;refine sQ (bI aB gX rfl) rfl (bD rfl (cC tyT rfl rfl uu_ (aF _) rfl (bV _) (.inl (by assumption)) ?_));refine go2 ?_;refine bA rfl (.inr rfl) ⟨_,_,_,_,_,_,rfl,mm_,tyT,_,(eC (aF _)),(aF _),rfl⟩ ?_;exact congrArg RV (dv_ hg)
 replace hg:=cB_ hg
 have hg:=all2.1 hg;refine go_ ?_;refine y6 [5,6,17,18,19,20,21,22,23,24,25,26,27,28,29,30,31,32,33,34,35,36,37,38,39,40,41,42,43,44,45,46,47,48,49,50,51,52,53,54,55,56,57,58,59] (fun g M=>(True)∧M=[⟨b4,31,zR⟩,⟨b3,31,b.cells⟩,⟨b2,31,a.cells⟩]∧(True)) (fun K5 J5=>?_) ?_
 ·refine go_ ?_;refine sQ (cU fdT dd_ rfl) rfl (sQ (kS (vs:=uw a.w) tyT rfl mm_ (oD ha.len) ((j1 _).trans ha.len)) rfl ?_);refine sQ (bI aB (rJ a.w ha.len) rfl) rfl (go2 ?_)
  cases hsz:decide ((szL a.w:Int)≤2)
  ·refine go8 ?_;refine J5 _ _ pp_ ⟨_,(List.Sublist.cons _ (List.Sublist.refl _)),trivial,?mem,trivial⟩
   case mem=>rfl
  refine sQ (cU fdT dd_ rfl) rfl (sQ (kS (vs:=uw b.w) tyT rfl mm_ (oD hb.len) ((j1 _).trans hb.len)) rfl ?_);refine sQ (bI aB (rJ b.w hb.len) rfl) rfl (go3 ?_);refine aH _ rfl (fun hsz2=>?_) (fun hsz2=>?_)
  ·replace hsz2:=cB_ hsz2
   have hA64:=sz2 ha (by have:=of_decide_eq_true hsz;omega);have hB64:=sz2 hb oo_;refine go_ ?_;refine gdr (sk (sk (sk (sk (s0))))) [0,4,8,12,16,20,24,28,32,36,40,44,48,52,56,60,64,68,72,76,80,84] [] mix (by kernel_rfl) (pQ rfl (cU fdT dd_ rfl) (pQ rfl (gQ arT rfl rfl dd_ dd_) (pQ rfl (eM tyT rfl mm_ (rK (r:=a) (k:=1) (by rw [ha.len];omega))) ?_)));refine pQ rfl (aL (fW j6 iQ rfl) (AA (fJ ha.lim _))) (pQ rfl (aL (E2 rfl rfl dd_) (congrArg (Value.int .u64) (A7 (fJ ha.lim _)))) (pQ rfl (cU fdT dd_ rfl) (pQ rfl (gQ arT rfl rfl dd_ dd_) (pQ rfl (eM tyT rfl mm_ (rK (r:=a) (k:=0) (by rw [ha.len];omega))) ?_))));refine pQ rfl (aL (fW j6 iQ rfl) (AA (fJ ha.lim _))) (pQ rfl (aL (QZ rfl rfl) (congrArg (Value.int .u64) ((TH (fJ ha.lim _) (fJ ha.lim _)).trans (congrArg (fun m:Nat=>(m:Int)) (GY ha hA64))))) (pQ rfl (cU fdT dd_ rfl) (pQ rfl (gQ arT rfl rfl dd_ dd_) (pQ rfl (eM tyT rfl mm_ (rK (r:=b) (k:=1) (by rw [hb.len];omega))) ?_))));refine pQ rfl (aL (fW j6 iQ rfl) (AA (fJ hb.lim _))) (pQ rfl (aL (E2 rfl rfl dd_) (congrArg (Value.int .u64) (A7 (fJ hb.lim _)))) (pQ rfl (cU fdT dd_ rfl) (pQ rfl (gQ arT rfl rfl dd_ dd_) (pQ rfl (eM tyT rfl mm_ (rK (r:=b) (k:=0) (by rw [hb.len];omega))) ?_))));refine pQ rfl (aL (fW j6 iQ rfl) (AA (fJ hb.lim _))) (pQ rfl (aL (QZ rfl rfl) (congrArg (Value.int .u64) ((TH (fJ hb.lim _) (fJ hb.lim _)).trans (congrArg (fun m:Nat=>(m:Int)) (GY hb hB64))))) (go5 ?_));refine cK [5,6,47,48,49,50,51,52] (fun g nn M=>∃ (x y:Nat),(g 5 = .int .u64 (x:Int)∧g 6 = .int .u64 (y:Int))∧M=[⟨b4,31,zR⟩,⟨b3,31,b.cells⟩,⟨b2,31,a.cells⟩]∧nn=y∧(x<18446744073709551616∧y<18446744073709551616∧Nat.gcd x y=Nat.gcd (val a.w) (val b.w))) (val b.w) ?start ?round
   case start =>
    refine ⟨_,(List.Sublist.cons _ (List.Sublist.refl _)),_,_,⟨?a5,?a6⟩,?mem0,rfl,⟨hA64,hB64,rfl⟩⟩
    case mem0=>rfl
    case a5=>rfl
    case a6=>rfl
   case round =>
    rintro nn g M ⟨x,y,⟨hg5,hg6⟩,rfl,hmeas,⟨hx64,hy64,hgc⟩⟩;subst nn;simp only [fF,hg5,hg6];clear hg5 hg6;refine go5 ?_;refine aH _ rfl (fun hy0=>?_) (fun hy0=>?_)
    ·replace hy0:=cB_ hy0
     refine go2 ?_;refine jQ (sk (sk (sk (s0)))) 6 [] [] (go3 ?_);refine pQ rfl (aL (rR rfl rfl oo_) (congrArg (Value.int .u64) (FU _ _))) (go3 ?_);refine ⟨pp_,_,_,(List.Sublist.refl _),(Nat.mod_lt _ oo_),y,x % y,⟨?s5,?s6⟩,?mem,rfl,⟨hy64,Nat.lt_of_le_of_lt (Nat.mod_le _ _) hx64,by rw [Nat.gcd_comm,← Nat.gcd_rec,Nat.gcd_comm];exact hgc⟩⟩
     case mem=>rfl
     case s5=>rfl
     case s6=>rfl
    replace hy0:=cB_ hy0
    refine go3 ?_;refine sQ (fW iQ j6 rfl) rfl (go_ ?_);refine sQ (aL (yZ rfl rfl dd_) (congrArg (Value.int .u64) (vK _ 32))) rfl (sQ (fW iQ j6 rfl) rfl (sQ (tF tK arT rfl (fM_ hx64)) rfl (sQ (bI aB (gL false _ (by simp) (bx_ (Nat.mod_lt _ dd_) oo_ 14)) rfl) rfl ?_)));refine bD rfl (cC tyT rfl rfl uu_ (kV (by simp)) rfl (bV _) (.inl (by assumption)) ?_);refine go2 ?_;refine bA rfl (.inr rfl) ⟨_,_,_,_,_,_,rfl,mm_,tyT,_,(eC (kV (by simp))),(kV (by simp)),rfl⟩ ?_;exact dw_ ha hb hg.1 hg.2 hx64 (dx_ hx64 hgc oo_)
  replace hsz2:=cB_ hsz2
  refine go_ ?_;refine J5 _ _ pp_ ⟨_,(List.Sublist.cons _ (List.Sublist.refl _)),trivial,?mem,trivial⟩
  case mem=>rfl
 rintro g M ⟨-,rfl,-⟩;simp only [fF];refine go2 ?_;refine gDk (sk (sk (sk (s0)))) (.quiet 0 [1,6,7] (.quiet 1 [6,7] (.still 2 [3,7] (.still 3 [7] (.both 4 (.only 5 (.only 6 (.only 7 (.fin)))) 5 (.only 4 (.only 6 (.only 7 (.fin))))))))) [0,1,2,3,4,5] mix (by kernel_rfl) (by kernel_rfl) (pQ rfl (cU fdT dd_ rfl) (pQ rfl (kS (vs:=uw a.w) tyT rfl mm_ (oD ha.len) ((j1 _).trans ha.len)) ?_));refine H9 rfl rfl (cU fdT dd_ rfl) (H9 rfl rfl (kS (vs:=uw b.w) tyT rfl mm_ (oD hb.len) ((j1 _).trans hb.len)) ?_);refine D4 ?_ ?_
 ·refine cF rfl rfl (fP tK (fun b7 hb7=>⟨(fun _=>by first | exact sd s0 | exact s0),ss_,?_⟩));refine cF rfl rfl (fP tK (fun b8 hb8=>⟨(fun _=>by first | exact sd s0 | exact s0),ss_,?_⟩));refine cF rfl rfl (cC tyT rfl rfl uu_ (by simp [uw,ha.len]) (by simp [uw]) (kH _) (.inl (by assumption)) ⟨nf,ss_,?_⟩);refine cF rfl rfl (cC tyT rfl rfl uu_ (by simp [uw,hb.len]) (by simp [uw]) (kH _) (.inl (by assumption)) ⟨nf,ss_,?_⟩);refine go2 ?_;refine sQ (cP tyT rfl mm_ (by simp [uw,hb.len])) rfl ?_;refine sQ (tF tK arT rfl (.nil _)) rfl ?_;refine sQ (DC (r:=(val b.w==0)) rfl rfl (oB 8 dd_ LP MJ (rI hb.len) (rI (by simp)) (F1 hb.len hb.lim))) rfl ?_;refine go_ ?_;refine aH _ rfl (fun hb0=>?_) (fun hb0=>?_)
  ·replace hb0:=cB_ hb0
   have hp:0<val b.w:=Nat.pos_of_ne_zero (by simpa using hb0);refine go_ ?_;refine sQ (cP tyT rfl mm_ (by simp [uw,ha.len])) rfl ?_;refine sQ (cP tyT rfl mm_ (by simp [uw,hb.len])) rfl ?_;refine sQ (bI aB (vY a.w b.w ha.len hb.len ha.lim hb.lim hp) rfl) rfl (go3 ?_);refine bD rfl (fP tK (fun b9 hb9=>bD rfl (fP tK (fun b10 hb10=>bD rfl (cC tyT rfl rfl uu_ (by simp [uw,dI]) (by simp [uw]) (kH _) (.inl (by assumption)) ?_)))));refine bD rfl (cC tyT rfl rfl uu_ (by simp [uw,dI]) (by simp [uw]) (kH _) (.inl (by assumption)) ?_);refine go2 ?_;refine gdr (sk (sk (sk (sk (sd (sk (sk (s0)))))))) [0,4,8,12,16,21] [5] mix (by kernel_rfl) (pQ rfl (cP tyT rfl mm_ (by simp [uw,hb.len])) ?_);refine pQ rfl (aL (bI aB (gL false b.w hb.len hb.lim) rfl) (I6 hb.len hb.lim false)) (pQ rfl (cP tyT rfl mm_ (by simp [uw,dI])) ?_);refine pQ rfl (aL (bI aB (gL false _ (dI _ _) (oQ _ _)) rfl) (congrArg RV (rC false (w6 ha)))) (pQ rfl (bI aB (IH (Z.of (sgn false (val b.w))).enc (Z.of (sgn false (val a.w % val b.w))).enc (Z.enc_ok _) (Z.enc_ok _) (by rw [W6 (w6 ha),← hn];exact Nat.mod_lt _ hp)) rfl) ?_);refine cF rfl rfl (cC tyT rfl rfl uu_ (aF _) rfl (bV _) (.inl (by assumption)) ⟨nf,ss_,?_⟩);refine go2 ?_;refine bA rfl (.inr rfl) ⟨_,_,_,_,_,_,rfl,mm_,tyT,_,(eC (aF _)),(aF _),rfl⟩ ?_;exact SS ha hb hg.1 hg.2
  replace hb0:=cB_ hb0
  refine go2 ?_;refine sQ (cP tyT rfl mm_ (cT ha)) rfl ?_;refine sQ (bI aB (GD a ha) rfl) rfl (bD rfl (cC tyT rfl rfl uu_ (aF _) rfl (bV _) (.inl (by assumption)) ?_));refine go2 ?_;refine bA rfl (.inr rfl) ⟨_,_,_,_,_,_,rfl,mm_,tyT,_,(eC (aF _)),(aF _),rfl⟩ ?_;exact ST ha hb hg.1 hg.2 (by simpa using hb0)
 refine cF rfl rfl (fP tK (fun b8 hb8=>⟨(fun _=>by first | exact sd s0 | exact s0),ss_,?_⟩));refine cF rfl rfl (fP tK (fun b7 hb7=>⟨(fun _=>by first | exact sd s0 | exact s0),ss_,?_⟩));refine cF rfl rfl (cC tyT rfl rfl uu_ (by simp [uw,ha.len]) (by simp [uw]) (kH _) (.inl (by assumption)) ⟨nf,ss_,?_⟩);refine cF rfl rfl (cC tyT rfl rfl uu_ (by simp [uw,hb.len]) (by simp [uw]) (kH _) (.inl (by assumption)) ⟨nf,ss_,?_⟩);refine go2 ?_;refine sQ (cP tyT rfl mm_ (by simp [uw,hb.len])) rfl ?_;refine sQ (tF tK arT rfl (.nil _)) rfl ?_;refine sQ (DC (r:=(val b.w==0)) rfl rfl (oB 8 dd_ LP MJ (rI hb.len) (rI (by simp)) (F1 hb.len hb.lim))) rfl ?_;refine go_ ?_;refine aH _ rfl (fun hb0=>?_) (fun hb0=>?_)
 ·replace hb0:=cB_ hb0
  have hp:0<val b.w:=Nat.pos_of_ne_zero (by simpa using hb0);refine go_ ?_;refine sQ (cP tyT rfl mm_ (by simp [uw,ha.len])) rfl ?_;refine sQ (cP tyT rfl mm_ (by simp [uw,hb.len])) rfl ?_;refine sQ (bI aB (vY a.w b.w ha.len hb.len ha.lim hb.lim hp) rfl) rfl (go3 ?_);refine bD rfl (fP tK (fun b9 hb9=>bD rfl (fP tK (fun b10 hb10=>bD rfl (cC tyT rfl rfl uu_ (by simp [uw,dI]) (by simp [uw]) (kH _) (.inl (by assumption)) ?_)))));refine bD rfl (cC tyT rfl rfl uu_ (by simp [uw,dI]) (by simp [uw]) (kH _) (.inl (by assumption)) ?_);refine go2 ?_;refine gdr (sk (sk (sk (sk (sd (sk (sk (s0)))))))) [0,4,8,12,16,21] [5] mix (by kernel_rfl) (pQ rfl (cP tyT rfl mm_ (by simp [uw,hb.len])) ?_);refine pQ rfl (aL (bI aB (gL false b.w hb.len hb.lim) rfl) (I6 hb.len hb.lim false)) (pQ rfl (cP tyT rfl mm_ (by simp [uw,dI])) ?_);refine pQ rfl (aL (bI aB (gL false _ (dI _ _) (oQ _ _)) rfl) (congrArg RV (rC false (w6 ha)))) (pQ rfl (bI aB (IH (Z.of (sgn false (val b.w))).enc (Z.of (sgn false (val a.w % val b.w))).enc (Z.enc_ok _) (Z.enc_ok _) (by rw [W6 (w6 ha),← hn];exact Nat.mod_lt _ hp)) rfl) ?_);refine cF rfl rfl (cC tyT rfl rfl uu_ (aF _) rfl (bV _) (.inl (by assumption)) ⟨nf,ss_,?_⟩);refine go2 ?_;refine bA rfl (.inr rfl) ⟨_,_,_,_,_,_,rfl,mm_,tyT,_,(eC (aF _)),(aF _),rfl⟩ ?_;exact SS ha hb hg.1 hg.2
 replace hb0:=cB_ hb0
 refine go2 ?_;refine sQ (cP tyT rfl mm_ (cT ha)) rfl ?_;refine sQ (bI aB (GD a ha) rfl) rfl (bD rfl (cC tyT rfl rfl uu_ (aF _) rfl (bV _) (.inl (by assumption)) ?_));refine go2 ?_;refine bA rfl (.inr rfl) ⟨_,_,_,_,_,_,rfl,mm_,tyT,_,(eC (aF _)),(aF _),rfl⟩ ?_;exact ST ha hb hg.1 hg.2 (by simpa using hb0)
theorem sW (a b:R) (ha:a.Ok) (hb:b.Ok):Ret prog 128 [RV a,RV b] (RV (Z.gcd a.dec b.dec).enc):=by
  generalize hn:val b.w=n
  induction n using Nat.strongRecOn generalizing a b with
  | ind n ih=>exact NS n (fun a b ha hb h=>ih _ h a b ha hb rfl) a b ha hb hn
end Go.Proofs.YtkjjponijamaoaaGreatDoor
