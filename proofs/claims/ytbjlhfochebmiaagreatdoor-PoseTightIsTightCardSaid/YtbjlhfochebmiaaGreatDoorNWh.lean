/- Lemmas: what they ask stands in their statements. -/
import Derived.Test.YtbjlhfochebmiaaGreatDoorNWe
set_option linter.unusedSimpArgs false
set_option linter.unusedVariables false
set_option maxHeartbeats 8000000
set_option maxRecDepth 20000
namespace Go.Proofs.YtbjlhfochebmiaaGreatDoor
open Go.Kn Go.Num Tryz
attribute [local irreducible] Go.Kn.W WL PL OpQ OpR OpS
theorem xX (a:R) (ha:a.Ok) :
   Ret prog 159 [RV a] (.int .i64 (a.dec.bits:Int)):=by
 refine bJ (N:=25) func159 O O zz_ (fun w0=>?_);refine giI ?_;refine go_ ?_;refine bI O (jS O O (fun b1 hb1=>go3 ?_));refine sQ (cA fdT dd_ O) O (sQ (iN (vs:=uw a.w) tyT O mm_ (lT ha.len) ((gV _).trans ha.len)) O ?_);refine sQ (aX aE (oM a.w ha.len) O) O (go4 ?_);refine sQ (bZ tyT O mm_ (cE ha)) O ?_;refine bI O (jB tJ lU rL O dd_ O (xJ ha) (fun b8 hb8=>sQ (dJ aE O (fun w hw=>gZ [a] (ok1 ha) b8 33 w (hw.mem _ m0) zz_)) O ?_));refine go2 ?_
 cases hg:[a].all R.good
 ·refine go9 ?_;refine rt1 ?_;exact congrArg (fun n:Nat=>Value.int .i64 (n:Int)) (W0 (by simpa using hg))
 refine go4 ?_;refine aN _ O (fun hz=>?_) (fun hz=>?_)
 ·replace hz:=cB_ hz
  refine go4 ?_;refine rt1 ?_;exact congrArg (fun n:Nat=>Value.int .i64 (n:Int)) (UL ha (by simpa using hg) oo_)
 replace hz:=cB_ hz
 refine go2 ?_
 have hs1:1≤szL a.w:=by omega
 have hs16:szL a.w≤16:=by have:=wR a.w;rw [ha.len] at this;exact this
 refine go_ ?_;refine sQ (aS (o9 O O) (congrArg (Value.int .i64) (vC (b:=1) O oo_ oo_))) O (sQ (aS (TJ O O) (congrArg (Value.int .i64) (ew_ O oo_))) O (go_ ?_));refine sQ (aS (o9 O O) (congrArg (Value.int .i64) (vC (b:=1) O oo_ oo_))) O (sQ (cA fdT dd_ O) O (sQ (eF arT O O oo_ oo_) O (sQ (dI tyT O mm_ (nR (r:=a) (k:=szL a.w - 1) (by rw [ha.len];omega))) O ?_)));refine sQ (aX aE (KV _ (dS ha.lim _)) O) O (sQ (aS (i4 O O) (congrArg (Value.int .i64) (o6 (by have:=xI (k:=32) (dS ha.lim (szL a.w - 1));omega)))) O (go3 ?_));refine rt1 ?_;exact congrArg (fun n:Nat=>Value.int .i64 (n:Int)) (W3 ha (by simpa using hg) hs1)
theorem lI (a:R) (ha:a.Ok) :
    Ret prog 84 [RV a] (.tuple #[.int .i64 a.dec.small.1,.bool a.dec.small.2]):=by
 refine bJ (N:=44) func84 O O zz_ (fun w0=>?_);refine giI ?_;refine go_ ?_;refine bI O (jS O O (fun b1 hb1=>go5 ?_));refine sQ (bZ tyT O mm_ (cE ha)) O ?_;refine bI O (jB tJ lU rL O dd_ O (xJ ha) (fun b6 hb6=>sQ (dJ aE O (fun w hw=>gZ [a] (ok1 ha) b6 33 w (hw.mem _ m0) zz_)) O ?_));refine go2 ?_
 cases hg:[a].all R.good
 ·refine wN ?_;refine rt2 ?_;exact LE (by simpa using hg)
 refine sQ (bZ tyT O mm_ (cE ha)) O ?_;refine sQ (aX aE (xX a ha) O) O (go3 ?_);refine aN _ O (fun hb=>?_) (fun hb=>?_)
 ·replace hb:=cB_ hb
  refine go5 ?_;refine rt2 ?_;exact R8 ha (by simpa using hg) hb
 replace hb:=cB_ hb
 have h64:=cJ_ ha (by simpa using hg) hb;refine go2 ?_;refine sQ (cA fdT dd_ O) O (sQ (eF arT O O dd_ dd_) O (sQ (dI tyT O mm_ (nR (r:=a) (k:=1) (by rw [ha.len];omega))) O ?_));refine sQ (aS (eC gS fE O) (xU (dS ha.lim _))) O (sQ (aS (EU O O dd_) (congrArg (Value.int .u64) (yI (dS ha.lim _)))) O (sQ (cA fdT dd_ O) O (sQ (eF arT O O dd_ dd_) O (sQ (dI tyT O mm_ (nR (r:=a) (k:=0) (by rw [ha.len];omega))) O ?_))));refine sQ (aS (eC gS fE O) (xU (dS ha.lim _))) O (sQ (aS (NB O O) (congrArg (Value.int .u64) ((PE (dS ha.lim _) (dS ha.lim _)).trans (congrArg (fun m:Nat=>(m:Int)) (BA ha h64))))) O (go5 ?_));refine sQ (cA fdT dd_ O) O (sQ (dI tyT O mm_ O) O ?_);refine go_ ?_
 cases hn:a.neg
 ·refine go7 ?_;refine sQ (cA fdT dd_ O) O (sQ (dI tyT O mm_ O) O ?_);refine go_ ?_;rw [hn];refine go6 ?_;refine aN _ O (fun hlt=>?_) (fun hlt=>?_)
  ·replace hlt:=cB_ hlt
   refine go2 ?_;refine sQ (aS (eC fE EO O) (congrArg (Value.int .i64) (VV oo_))) O (go4 ?_);refine rt2 ?_;exact E0 ha (by simpa using hg) (by rw [hn];rfl) (by rw [hn,tA];omega)
  replace hlt:=cB_ hlt
  refine go6 ?_;refine rt2 ?_;exact zZ ha (by simpa using hg) (by rw [hn,tA];omega)
 refine go5 ?_;refine aN _ O (fun hle=>?_) (fun hle=>?_)
 ·replace hle:=cB_ hle
  refine go3 ?_;refine sQ (aS (eC fE EO O) (congrArg (Value.int .i64) (VS oo_))) O (go4 ?_);refine rt2 ?_;exact E0 ha (by simpa using hg) (by rw [hn];rfl) (by rw [hn,tI];omega)
 replace hle:=cB_ hle
 refine go_ ?_;refine sQ (cA fdT dd_ O) O (sQ (dI tyT O mm_ O) O ?_);refine go_ ?_;rw [hn];refine H1 ?_;refine rt2 ?_;exact zZ ha (by simpa using hg) (by rw [hn,tI];omega)
theorem yL (a b:R) (ha:a.Ok) (hb:b.Ok) :
    Ret prog 172 [RV a,RV b] (.tuple #[RV (Z.quo a.dec b.dec).enc,RV (Z.rem a.dec b.dec).enc]):=by
 refine bJ (N:=108) func172 O O zz_ (fun w0=>?_);refine giI ?_;refine go_ ?_;refine bI O (jS O O (fun b2 hb2=>bI O (jS O O (fun b3 hb3=>bI O (dU lU (fun b4 hb4=>bI O (dU lU (fun b5 hb5=>go3 ?_))))))));refine sQ (bZ tyT O mm_ (cE ha)) O ?_;refine sQ (bZ tyT O mm_ (cE hb)) O ?_;refine bI O (jB tJ lU rL O dd_ O (MQ ha hb) (fun b17 hb17=>sQ (dJ aE O (fun w hw=>gZ [a,b] (ok2 ha hb) b17 33 w (hw.mem _ m0) zz_)) O ?_));refine go2 ?_
 cases hg:[a,b].all R.good
 ·refine go7 ?_;refine sQ (aX aE fS O) O (sQ (aX aE fS O) O (bI O (bT tyT O O uu_ (aI _) O (bO _) (.inl eL) ?_)));refine bI O (bT tyT O O uu_ (aI _) O (bO _) (.inl eL) ?_);refine go2 ?_;refine vE O (.inr O) ⟨_,_,_,_,_,_,rfl,mm_,tyT,_,(dE (aI _)),(aI _),rfl⟩ ⟨_,_,_,_,_,_,rfl,mm_,tyT,_,(dE (aI _)),(aI _),rfl⟩ ?_;exact bf_ (ES hg)
 have hg:=all2.1 hg;refine sQ (bZ tyT O mm_ (cE hb)) O ?_;refine sQ (aX aE (iR b hb) O) O (go3 ?_);refine aN _ O (fun hs0=>?_) (fun hs0=>?_)
 ·replace hs0:=cB_ hs0
  refine go_ ?_;refine sQ (aX aE fS O) O (sQ (aX aE fS O) O (bI O (bT tyT O O uu_ (aI _) O (bO _) (.inl eL) ?_)));refine bI O (bT tyT O O uu_ (aI _) O (bO _) (.inl eL) ?_);refine go2 ?_;refine vE O (.inr O) ⟨_,_,_,_,_,_,rfl,mm_,tyT,_,(dE (aI _)),(aI _),rfl⟩ ⟨_,_,_,_,_,_,rfl,mm_,tyT,_,(dE (aI _)),(aI _),rfl⟩ ?_;exact Y7 ha hb hg.1 hg.2 hs0
 replace hs0:=cB_ hs0
 have hs0:b.dec.sign≠0:=hs0;have hp:=BK hb hg.2 hs0;refine go_ ?_;refine pH (rg [6,7,8,9,10,11] 27 44) (fun g M=>(True)∧M=[⟨b5,33,zR⟩,⟨b4,33,zR⟩,⟨b3,33,b.cells⟩,⟨b2,33,a.cells⟩]∧(True)) (fun K6 J6=>?_) ?_
 ·refine go_ ?_;refine sQ (bZ tyT O mm_ (cE ha)) O ?_;refine sQ (aX aE (lI a ha) O) O (go9 ?_)
  cases hsa:a.dec.small.2
  ·refine go6 ?_;refine J6 _ _ pp_ ⟨_,(List.Sublist.cons _ (List.Sublist.refl _)),trivial,?mem,trivial⟩
   case mem=>rfl
  refine go4 ?_;refine aN _ O (fun hma=>?_) (fun hma=>?_)
  ·replace hma:=cB_ hma
   have ea:=I5 hsa;refine go_ ?_;refine sQ (bZ tyT O mm_ (cE hb)) O ?_;refine sQ (aX aE (lI b hb) O) O (go9 ?_)
   cases hsb:b.dec.small.2
   ·refine go6 ?_;refine J6 _ _ pp_ ⟨_,(List.Sublist.cons _ (List.Sublist.refl _)),trivial,?mem,trivial⟩
    case mem=>rfl
   refine go4 ?_;refine aN _ O (fun hmb=>?_) (fun hmb=>?_)
   ·replace hmb:=cB_ hmb
    have eb:=I5 hsb;have hy0:=NO eb.1 hs0;have hq64:I64 (a.dec.small.1.tdiv b.dec.small.1):=RX ea.2 hma;have hr64:=dr_ (x:=a.dec.small.1) hy0 eb.2;refine go_ ?_;refine mB (sk (sk (sk (sk (sk s0))))) 8 [] [] (go2 ?_);refine pQ O (aS (kJ O O hy0) (congrArg (Value.int .i64) (cB (RX ea.2 hma)))) (go2 ?_);refine pQ O (sF O O hy0) (go8 ?_)
    cases hr0:(a.dec.small.1.tmod b.dec.small.1 != 0)
    ·refine wN ?_;refine sQ (aX aE (eG _ (by first|exact hI1|exact hq64)) O) O ?_;refine go_ ?_;refine sQ (aX aE (eG _ (by first|exact hI2|exact hr64)) O) O ?_;refine bI O (bT tyT O O uu_ (aI _) O (bO _) (.inl eL) ?_);refine bI O (bT tyT O O uu_ (aI _) O (bO _) (.inl eL) ?_);refine go2 ?_;refine vE O (.inr O) ⟨_,_,_,_,_,_,rfl,mm_,tyT,_,(dE (aI _)),(aI _),rfl⟩ ⟨_,_,_,_,_,_,rfl,mm_,tyT,_,(dE (aI _)),(aI _),rfl⟩ ?_;exact FM ea.1 eb.1 hs0 (EM hy0 (.inl (by simpa using hr0)))
    refine go4 ?_;refine sQ (vQ DU O O) O (go2 ?_);refine aN _ O (fun hsg=>?_) (fun hsg=>?_)
    ·replace hsg:=cB_ hsg
     have hI1:I64 (a.dec.small.1.tdiv b.dec.small.1 - 1):=Y4 ea.2 hma;have hI2:=ds_ hy0 eb.2 (bne_iff_ne.2 hsg);refine go2 ?_;refine sQ (aS (o9 O O) (congrArg (Value.int .i64) (cB hI1))) O (go2 ?_);refine sQ (aS (i4 O O) (congrArg (Value.int .i64) (cB hI2))) O (go5 ?_);refine sQ (aX aE (eG _ (by first|exact hI1|exact hq64)) O) O ?_;refine go_ ?_;refine sQ (aX aE (eG _ (by first|exact hI2|exact hr64)) O) O ?_;refine bI O (bT tyT O O uu_ (aI _) O (bO _) (.inl eL) ?_);refine bI O (bT tyT O O uu_ (aI _) O (bO _) (.inl eL) ?_);refine go2 ?_;refine vE O (.inr O) ⟨_,_,_,_,_,_,rfl,mm_,tyT,_,(dE (aI _)),(aI _),rfl⟩ ⟨_,_,_,_,_,_,rfl,mm_,tyT,_,(dE (aI _)),(aI _),rfl⟩ ?_;exact FM ea.1 eb.1 hs0 (Q1 hy0 (by simpa using hr0) (bne_iff_ne.2 hsg))
    replace hsg:=cB_ hsg
    refine go3 ?_;refine sQ (aX aE (eG _ (by first|exact hI1|exact hq64)) O) O ?_;refine go_ ?_;refine sQ (aX aE (eG _ (by first|exact hI2|exact hr64)) O) O ?_;refine bI O (bT tyT O O uu_ (aI _) O (bO _) (.inl eL) ?_);refine bI O (bT tyT O O uu_ (aI _) O (bO _) (.inl eL) ?_);refine go2 ?_;refine vE O (.inr O) ⟨_,_,_,_,_,_,rfl,mm_,tyT,_,(dE (aI _)),(aI _),rfl⟩ ⟨_,_,_,_,_,_,rfl,mm_,tyT,_,(dE (aI _)),(aI _),rfl⟩ ?_;exact FM ea.1 eb.1 hs0 (EM hy0 (.inr (by simpa using hsg)))
   replace hmb:=cB_ hmb
   refine go_ ?_;refine J6 _ _ pp_ ⟨_,(List.Sublist.cons _ (List.Sublist.refl _)),trivial,?mem,trivial⟩
   case mem=>rfl
  replace hma:=cB_ hma
  refine go_ ?_;refine J6 _ _ pp_ ⟨_,(List.Sublist.cons _ (List.Sublist.refl _)),trivial,?mem,trivial⟩
  case mem=>rfl
 rintro g M ⟨-,rfl,-⟩;refine gS0 ?_;refine go_ ?_;refine sQ (cA fdT dd_ O) O (sQ (iN (vs:=uw a.w) tyT O mm_ (lT ha.len) ((gV _).trans ha.len)) O ?_);refine sQ (cA fdT dd_ O) O (sQ (iN (vs:=uw b.w) tyT O mm_ (lT hb.len) ((gV _).trans hb.len)) O ?_);refine sQ (aX aE (tR a.w b.w ha.len hb.len ha.lim hb.lim hp) O) O (go3 ?_);refine bI O (dU qQ (fun b12 hb12=>bI O (dU qQ (fun b13 hb13=>bI O (bT tyT O O uu_ (by simp [uw,cP]) (by simp [uw]) (iD _) (.inl eL) ?_)))));refine bI O (bT tyT O O uu_ (by simp [uw,cP]) (by simp [uw]) (iD _) (.inl eL) ?_);refine go2 ?_;refine sQ (cA fdT dd_ O) O (sQ (dI tyT O mm_ O) O ?_);refine sQ (cA fdT dd_ O) O (sQ (dI tyT O mm_ O) O ?_);refine sQ (vQ DU O O) O (sQ (bZ tyT O mm_ (by simp [uw,cP])) O ?_);refine sQ (aS (aX aE (eP (a.neg != b.neg) _ (cP _ _) (mG _ _)) O) (congrArg RV (oI _ (Y6 ha)))) O (bI O (dU lU (fun b14 hb14=>bI O (bT tyT O O uu_ (aI _) O (bO _) (.inl eL) ?_))));refine go_ ?_;refine pH (rg [] 86 17) (fun g M=>∃ (z:Z) (l:List Nat),(True)∧M=[⟨b14,33,z.enc.cells⟩,⟨b13,31,uw l⟩,⟨b12,31,uw (toL 16 (val a.w / val b.w))⟩,⟨b5,33,zR⟩,⟨b4,33,zR⟩,⟨b3,33,b.cells⟩,⟨b2,33,a.cells⟩]∧(l.length=16∧Lim l∧z=Z.quo a.dec b.dec∧R.mk false (b.neg && !(val l==0)) l=(Z.rem a.dec b.dec).enc)) (fun K19 J19=>?_) ?_
 ·refine go_ ?_;refine sQ (bZ tyT O mm_ (by simp [uw,cP])) O ?_;refine sQ (qG qQ arT O (.nil _)) O ?_;refine sQ (yW (r:=(val a.w % val b.w==0)) O O (dR 8 dd_ HT IA (oL (cP _ _)) (oL zz_) (Y9 ha))) O ?_;refine go_ ?_
  cases hr1:(val a.w % val b.w==0)
  ·refine sQ (cA fdT dd_ O) O (sQ (dI tyT O mm_ O) O ?_);refine sQ (cA fdT dd_ O) O (sQ (dI tyT O mm_ O) O ?_);refine sQ (vQ DU O O) O (go2 ?_);refine aN _ O (fun hne=>?_) (fun hne=>?_)
   ·replace hne:=cB_ hne
    refine gdr (sd (sd (sk (sk (sk (sk (sk s0))))))) [0,4,8,12,16,20,24,29,33] [7,8] mix (by kernel_rfl) (pQ O (bZ tyT O mm_ (aI _)) ?_);refine pQ O (aX aE (eG 1 (by unfold I64;decide)) O) (pQ O (aX aE (DQ (Z.of (sgn (a.neg != b.neg) (val a.w / val b.w))).enc (Z.of 1).enc (Z.enc_ok _) (Z.enc_ok _)) O) (pQ O (cA fdT dd_ O) (pQ O (iN (vs:=uw b.w) tyT O mm_ (lT hb.len) ((gV _).trans hb.len)) ?_)));refine pQ O (bZ tyT O mm_ (by simp [uw,cP])) ?_;refine pQ O (aX aE (wS b.w _ hb.len (cP _ _) hb.lim (mG _ _) (du_ ha hp)) O) ?_;refine dF O O (bT tyT O O uu_ (aI _) (aI _) (bO _) (.inl eL) ⟨nf,ss_,?_⟩);refine dF O O (bT tyT O O uu_ (by simp [uw,cP]) (by simp [uw,cP]) (iD _) (.inl eL) ⟨nf,ss_,?_⟩);refine go_ ?_;refine J19 _ _ pp_ ⟨_,(List.Sublist.refl _),_,_,trivial,?mem,aK_ ha hb hg.1 hg.2 hp (by simpa using hr1) hne⟩
    case mem=>rfl
   replace hne:=cB_ hne
   refine go_ ?_;refine J19 _ _ pp_ ⟨_,(List.Sublist.refl _),_,_,trivial,?mem,OM ha hb hg.1 hg.2 hp (.inr (by simpa using hne))⟩
   case mem=>rfl
  refine go9 ?_;refine J19 _ _ pp_ ⟨_,(List.Sublist.refl _),_,_,trivial,?mem,OM ha hb hg.1 hg.2 hp (.inl (by simpa using hr1))⟩
  case mem=>rfl
 rintro g M ⟨z,l,-,rfl,⟨hl16,hlim,hzq,hzr⟩⟩;refine gS0 ?_;refine go_ ?_;refine gdr (sk (sk (sk (sd (sd (sk (sk s0))))))) [0,4,8,12,16,21,25] [5,6] mix (by kernel_rfl) (pQ O (bZ tyT O mm_ (aI _)) ?_);refine pQ O (cA fdT dd_ O) (pQ O (dI tyT O mm_ O) ?_);refine pQ O (bZ tyT O mm_ (by rw [gV,hl16])) ?_;refine pQ O (aX aE (eP b.neg l hl16 hlim) O) ?_;refine dF O O (bT tyT O O uu_ (aI _) O (bO _) (.inl eL) ⟨nf,ss_,?_⟩);refine dF O O (bT tyT O O uu_ (iQ hl16) O (bO _) (.inl eL) ⟨nf,ss_,?_⟩);refine go2 ?_;refine vE O (.inr O) ⟨_,_,_,_,_,_,rfl,mm_,tyT,_,(dE (aI _)),(aI _),rfl⟩ ⟨_,_,_,_,_,_,rfl,mm_,tyT,_,(dE (iQ hl16)),(iQ hl16),rfl⟩ ?_
 (subst hzq;exact congrArg (fun r:R=>Value.tuple #[RV (Z.quo a.dec b.dec).enc,RV r]) hzr)
theorem lW (a b:R) (ha:a.Ok) (hb:b.Ok) :
  Ret prog 101 [RV a,RV b] (RV (Z.quo a.dec b.dec).enc):=by
 refine bJ (N:=14) func101 O O zz_ (fun w0=>?_);refine giI ?_;refine go_ ?_;refine bI O (jS O O (fun b2 hb2=>bI O (jS O O (fun b3 hb3=>bI O (dU lU (fun b4 hb4=>go2 ?_))))));refine sQ (bZ tyT O mm_ (cE ha)) O ?_;refine sQ (bZ tyT O mm_ (cE hb)) O ?_;refine sQ (aX aE (yL a b ha hb) O) O (go3 ?_);refine bI O (dU lU (fun b5 hb5=>bI O (dU lU (fun b6 hb6=>bI O (bT tyT O O uu_ (aI _) O (bO _) (.inl eL) ?_)))));refine bI O (bT tyT O O uu_ (aI _) O (bO _) (.inl eL) ?_);refine go2 ?_;refine sQ (bZ tyT O mm_ (aI _)) O ?_;refine bI O (bT tyT O O uu_ (aI _) O (bO _) (.inl eL) ?_);refine go2 ?_;refine rtX O ⟨_,_,_,_,_,_,rfl,mm_,tyT,_,(dE (aI _)),(aI _),rfl⟩ ?_;exact rfl
theorem DP (a b:R) (ha:a.Ok) (hb:b.Ok) :
  Ret prog 102 [RV a,RV b] (RV (Z.rem a.dec b.dec).enc):=by
 refine bJ (N:=14) func102 O O zz_ (fun w0=>?_);refine giI ?_;refine go_ ?_;refine bI O (jS O O (fun b2 hb2=>bI O (jS O O (fun b3 hb3=>bI O (dU lU (fun b4 hb4=>go2 ?_))))));refine sQ (bZ tyT O mm_ (cE ha)) O ?_;refine sQ (bZ tyT O mm_ (cE hb)) O ?_;refine sQ (aX aE (yL a b ha hb) O) O (go3 ?_);refine bI O (dU lU (fun b5 hb5=>bI O (dU lU (fun b6 hb6=>bI O (bT tyT O O uu_ (aI _) O (bO _) (.inl eL) ?_)))));refine bI O (bT tyT O O uu_ (aI _) O (bO _) (.inl eL) ?_);refine go2 ?_;refine sQ (bZ tyT O mm_ (aI _)) O ?_;refine bI O (bT tyT O O uu_ (aI _) O (bO _) (.inl eL) ?_);refine go2 ?_;refine rtX O ⟨_,_,_,_,_,_,rfl,mm_,tyT,_,(dE (aI _)),(aI _),rfl⟩ ?_;exact rfl
theorem DO (a b:R) (ha:a.Ok) (hb:b.Ok) :
    Ret prog 100 [RV a,RV b] (.int .i64 (Z.cmp a.dec b.dec)):=by
 refine bJ (N:=47) func100 O O zz_ (fun w0=>?_);refine giI ?_;refine go_ ?_;refine bI O (jS O O (fun b2 hb2=>bI O (jS O O (fun b3 hb3=>go3 ?_))));refine gDk (sk (sk s0)) (.quiet 0 [1,2,5,6,7] (.quiet 3 [4,5,6,7] (.both 1 (.quiet 2 [5,6,7] (.only 4 (.quiet 5 [6,7] (.quiet 6 [7] (.quiet 7 [] (.fin)))))) 4 (.only 1 (.quiet 2 [5,6,7] (.quiet 5 [6,7] (.quiet 6 [7] (.quiet 7 [] (.fin))))))))) (rg [] 0 8) mix (by kernel_rfl) (by kernel_rfl) (pQ O (bZ tyT O mm_ (cE ha)) ?_);refine pQ O (bZ tyT O mm_ (cE hb)) ?_;refine AF ?_ ?_
 ·refine dF O O (jB tJ lU rL O dd_ O (xJ ha) (fun b8 hb8=>⟨(fun _=>by first|exact sd s0|exact s0),ss_,?_⟩));refine pQ O (dJ aE O (fun w hw=>gZ [a] (ok1 ha) b8 33 w (hw.mem ⟨b8,33,_⟩ (by first|exact m0|exact m1)) zz_)) ?_;refine dF O O (jB tJ lU rL O dd_ O (xJ hb) (fun b11 hb11=>⟨(fun _=>by first|exact sd s0|exact s0),ss_,?_⟩));refine pQ O (dJ aE O (fun w hw=>gZ [b] (ok1 hb) b11 33 w (hw.mem ⟨b11,33,_⟩ (by first|exact m0|exact m1)) zz_)) ?_;refine go9 ?_
  cases hga:[a].all R.good
  ·refine go5 ?_;refine aN _ O (fun hgb=>?_) (fun hgb=>?_)
   ·replace hgb:=cB_ hgb
    refine go4 ?_;refine rt1 ?_;exact congrArg _ (QR (by simpa using hga) (by simpa using hgb))
   replace hgb:=cB_ hgb
   refine iK ?_;refine rt1 ?_;exact congrArg _ (QS (by simpa using hga) hb (by simpa using hgb))
  refine XU ?_;refine aN _ O (fun hgb=>?_) (fun hgb=>?_)
  ·replace hgb:=cB_ hgb
   refine go4 ?_;refine rt1 ?_;exact congrArg _ (QT ha (by simpa using hga) (by simpa using hgb))
  replace hgb:=cB_ hgb
  refine go_ ?_;refine sQ (cA fdT dd_ O) O (sQ (dI tyT O mm_ O) O ?_);refine sQ (cA fdT dd_ O) O (sQ (dI tyT O mm_ O) O ?_);refine sQ (vQ DU O O) O (go2 ?_);refine aN _ O (fun hn=>?_) (fun hn=>?_)
  ·replace hn:=cB_ hn
   refine go2 ?_;refine sQ (cA fdT dd_ O) O (sQ (dI tyT O mm_ O) O ?_);refine go_ ?_;refine aN _ O (fun hs=>?_) (fun hs=>?_)
   ·replace hs:=cB_ hs
    refine go4 ?_;refine rt1 ?_;exact congrArg _ (W8 ha hb (by simpa using hga) (by simpa using hgb) hn hs)
   replace hs:=cB_ hs
   refine go5 ?_;refine rt1 ?_;exact congrArg _ (W7 ha hb (by simpa using hga) (by simpa using hgb) hn (by simpa using hs))
  replace hn:=cB_ hn
  refine go_ ?_;refine sQ (cA fdT dd_ O) O (sQ (dI tyT O mm_ O) O ?_);refine go2 ?_;refine aN _ O (fun hs=>?_) (fun hs=>?_)
  ·replace hs:=cB_ hs
   refine go_ ?_;refine sQ (cA fdT dd_ O) O (sQ (iN (vs:=uw b.w) tyT O mm_ (lT hb.len) ((gV _).trans hb.len)) O ?_);refine sQ (cA fdT dd_ O) O (sQ (iN (vs:=uw a.w) tyT O mm_ (lT ha.len) ((gV _).trans ha.len)) O ?_);refine sQ (aX aE (oZ b.w a.w hb.len ha.len hb.lim ha.lim) O) O (go3 ?_);refine rt1 ?_;exact congrArg _ (W9 ha hb (by simpa using hga) (by simpa using hgb) hn hs)
  replace hs:=cB_ hs
  refine go2 ?_;refine sQ (cA fdT dd_ O) O (sQ (iN (vs:=uw a.w) tyT O mm_ (lT ha.len) ((gV _).trans ha.len)) O ?_);refine sQ (cA fdT dd_ O) O (sQ (iN (vs:=uw b.w) tyT O mm_ (lT hb.len) ((gV _).trans hb.len)) O ?_);refine sQ (aX aE (oZ a.w b.w ha.len hb.len ha.lim hb.lim) O) O (go3 ?_);refine rt1 ?_;exact congrArg _ (XA ha hb (by simpa using hga) (by simpa using hgb) hn (by simpa using hs))
 refine dF O O (jB tJ lU rL O dd_ O (xJ hb) (fun b11 hb11=>⟨(fun _=>by first|exact sd s0|exact s0),ss_,?_⟩));refine dF O O (jB tJ lU rL O dd_ O (xJ ha) (fun b8 hb8=>⟨(fun _=>by first|exact sd s0|exact s0),ss_,?_⟩));refine pQ O (dJ aE O (fun w hw=>gZ [a] (ok1 ha) b8 33 w (hw.mem ⟨b8,33,_⟩ (by first|exact m0|exact m1)) zz_)) ?_;refine pQ O (dJ aE O (fun w hw=>gZ [b] (ok1 hb) b11 33 w (hw.mem ⟨b11,33,_⟩ (by first|exact m0|exact m1)) zz_)) ?_;refine go9 ?_
 cases hga:[a].all R.good
 ·refine go5 ?_;refine aN _ O (fun hgb=>?_) (fun hgb=>?_)
  ·replace hgb:=cB_ hgb
   refine go4 ?_;refine rt1 ?_;exact congrArg _ (QR (by simpa using hga) (by simpa using hgb))
  replace hgb:=cB_ hgb
  refine iK ?_;refine rt1 ?_;exact congrArg _ (QS (by simpa using hga) hb (by simpa using hgb))
 refine XU ?_;refine aN _ O (fun hgb=>?_) (fun hgb=>?_)
 ·replace hgb:=cB_ hgb
  refine go4 ?_;refine rt1 ?_;exact congrArg _ (QT ha (by simpa using hga) (by simpa using hgb))
 replace hgb:=cB_ hgb
 refine go_ ?_;refine sQ (cA fdT dd_ O) O (sQ (dI tyT O mm_ O) O ?_);refine sQ (cA fdT dd_ O) O (sQ (dI tyT O mm_ O) O ?_);refine sQ (vQ DU O O) O (go2 ?_);refine aN _ O (fun hn=>?_) (fun hn=>?_)
 ·replace hn:=cB_ hn
  refine go2 ?_;refine sQ (cA fdT dd_ O) O (sQ (dI tyT O mm_ O) O ?_);refine go_ ?_;refine aN _ O (fun hs=>?_) (fun hs=>?_)
  ·replace hs:=cB_ hs
   refine go4 ?_;refine rt1 ?_;exact congrArg _ (W8 ha hb (by simpa using hga) (by simpa using hgb) hn hs)
  replace hs:=cB_ hs
  refine go5 ?_;refine rt1 ?_;exact congrArg _ (W7 ha hb (by simpa using hga) (by simpa using hgb) hn (by simpa using hs))
 replace hn:=cB_ hn
 refine go_ ?_;refine sQ (cA fdT dd_ O) O (sQ (dI tyT O mm_ O) O ?_);refine go2 ?_;refine aN _ O (fun hs=>?_) (fun hs=>?_)
 ·replace hs:=cB_ hs
  refine go_ ?_;refine sQ (cA fdT dd_ O) O (sQ (iN (vs:=uw b.w) tyT O mm_ (lT hb.len) ((gV _).trans hb.len)) O ?_);refine sQ (cA fdT dd_ O) O (sQ (iN (vs:=uw a.w) tyT O mm_ (lT ha.len) ((gV _).trans ha.len)) O ?_);refine sQ (aX aE (oZ b.w a.w hb.len ha.len hb.lim ha.lim) O) O (go3 ?_);refine rt1 ?_;exact congrArg _ (W9 ha hb (by simpa using hga) (by simpa using hgb) hn hs)
 replace hs:=cB_ hs
 refine go2 ?_;refine sQ (cA fdT dd_ O) O (sQ (iN (vs:=uw a.w) tyT O mm_ (lT ha.len) ((gV _).trans ha.len)) O ?_);refine sQ (cA fdT dd_ O) O (sQ (iN (vs:=uw b.w) tyT O mm_ (lT hb.len) ((gV _).trans hb.len)) O ?_);refine sQ (aX aE (oZ a.w b.w ha.len hb.len ha.lim hb.lim) O) O (go3 ?_);refine rt1 ?_;exact congrArg _ (XA ha hb (by simpa using hga) (by simpa using hgb) hn (by simpa using hs))
theorem JK (n:Nat) (IH:∀ (a b:R),a.Ok→b.Ok→val b.w<n→Ret prog 121 [RV a,RV b] (RV (Z.gcd a.dec b.dec).enc)) (a b:R) (ha:a.Ok) (hb:b.Ok) (hn:val b.w=n) :
    Ret prog 121 [RV a,RV b] (RV (Z.gcd a.dec b.dec).enc):=by
 refine bJ (N:=80) func121 O O zz_ (fun w0=>?_);refine giI ?_;refine go_ ?_;refine bI O (jS O O (fun b2 hb2=>bI O (jS O O (fun b3 hb3=>bI O (dU lU (fun b4 hb4=>go3 ?_))))));refine sQ (bZ tyT O mm_ (cE ha)) O ?_;refine sQ (bZ tyT O mm_ (cE hb)) O ?_;refine bI O (jB tJ lU rL O dd_ O (MQ ha hb) (fun b13 hb13=>sQ (dJ aE O (fun w hw=>gZ [a,b] (ok2 ha hb) b13 33 w (hw.mem _ m0) zz_)) O ?_));refine go2 ?_;refine aN _ O (fun hg=>?_) (fun hg=>?_)
 ·replace hg:=cB_ hg
  refine go_ ?_;refine sQ (aX aE fS O) O (bI O (bT tyT O O uu_ (aI _) O (bO _) (.inl eL) ?_));refine go2 ?_;refine rtX O ⟨_,_,_,_,_,_,rfl,mm_,tyT,_,(dE (aI _)),(aI _),rfl⟩ ?_;exact congrArg RV (aP_ hg)
 replace hg:=cB_ hg
 have hg:=all2.1 hg;refine go_ ?_;refine pH (rg [5,6] 17 43) (fun g M=>(True)∧M=[⟨b4,33,zR⟩,⟨b3,33,b.cells⟩,⟨b2,33,a.cells⟩]∧(True)) (fun K5 J5=>?_) ?_
 ·refine go_ ?_;refine sQ (cA fdT dd_ O) O (sQ (iN (vs:=uw a.w) tyT O mm_ (lT ha.len) ((gV _).trans ha.len)) O ?_);refine sQ (aX aE (oM a.w ha.len) O) O (go2 ?_)
  cases hsz:decide ((szL a.w:Int)≤2)
  ·refine go8 ?_;refine J5 _ _ pp_ ⟨_,(List.Sublist.cons _ (List.Sublist.refl _)),trivial,?mem,trivial⟩
   case mem=>rfl
  refine sQ (cA fdT dd_ O) O (sQ (iN (vs:=uw b.w) tyT O mm_ (lT hb.len) ((gV _).trans hb.len)) O ?_);refine sQ (aX aE (oM b.w hb.len) O) O (go3 ?_);refine aN _ O (fun hsz2=>?_) (fun hsz2=>?_)
  ·replace hsz2:=cB_ hsz2
   have hA64:=sz2 ha (by have:=of_decide_eq_true hsz;omega);have hB64:=sz2 hb oo_;refine go_ ?_;refine gdr (sk (sk (sk (sk s0)))) [0,4,8,12,16,20,24,28,32,36,40,44,48,52,56,60,64,68,72,76,80,84] [] mix (by kernel_rfl) (pQ O (cA fdT dd_ O) (pQ O (eF arT O O dd_ dd_) (pQ O (dI tyT O mm_ (nR (r:=a) (k:=1) (by rw [ha.len];omega))) ?_)));refine pQ O (aS (eC gS fE O) (xU (dS ha.lim _))) (pQ O (aS (EU O O dd_) (congrArg (Value.int .u64) (yI (dS ha.lim _)))) (pQ O (cA fdT dd_ O) (pQ O (eF arT O O dd_ dd_) (pQ O (dI tyT O mm_ (nR (r:=a) (k:=0) (by rw [ha.len];omega))) ?_))));refine pQ O (aS (eC gS fE O) (xU (dS ha.lim _))) (pQ O (aS (NB O O) (congrArg (Value.int .u64) ((PE (dS ha.lim _) (dS ha.lim _)).trans (congrArg (fun m:Nat=>(m:Int)) (BA ha hA64))))) (pQ O (cA fdT dd_ O) (pQ O (eF arT O O dd_ dd_) (pQ O (dI tyT O mm_ (nR (r:=b) (k:=1) (by rw [hb.len];omega))) ?_))));refine pQ O (aS (eC gS fE O) (xU (dS hb.lim _))) (pQ O (aS (EU O O dd_) (congrArg (Value.int .u64) (yI (dS hb.lim _)))) (pQ O (cA fdT dd_ O) (pQ O (eF arT O O dd_ dd_) (pQ O (dI tyT O mm_ (nR (r:=b) (k:=0) (by rw [hb.len];omega))) ?_))));refine pQ O (aS (eC gS fE O) (xU (dS hb.lim _))) (pQ O (aS (NB O O) (congrArg (Value.int .u64) ((PE (dS hb.lim _) (dS hb.lim _)).trans (congrArg (fun m:Nat=>(m:Int)) (BA hb hB64))))) (go5 ?_));refine cI (rg [5,6] 47 6) (fun g nn M=>∃ (x y:Nat),(g 5 = .int .u64 (x:Int)∧g 6 = .int .u64 (y:Int))∧M=[⟨b4,33,zR⟩,⟨b3,33,b.cells⟩,⟨b2,33,a.cells⟩]∧nn=y∧(x<18446744073709551616∧y<18446744073709551616∧Nat.gcd x y=Nat.gcd (val a.w) (val b.w))) (val b.w) ?start ?round
   case start =>
    refine ⟨_,(List.Sublist.cons _ (List.Sublist.refl _)),_,_,⟨?a5,?a6⟩,?mem0,rfl,⟨hA64,hB64,rfl⟩⟩
    case mem0=>rfl
    case a5=>rfl
    case a6=>rfl
   case round =>
    rintro nn g M ⟨x,y,⟨hg5,hg6⟩,rfl,hmeas,⟨hx64,hy64,hgc⟩⟩;subst nn;refine gS2 hg5 hg6 ?_;clear hg5 hg6;refine go5 ?_;refine aN _ O (fun hy0=>?_) (fun hy0=>?_)
    ·replace hy0:=cB_ hy0
     refine go2 ?_;refine mB (sk (sk (sk s0))) 6 [] [] (go3 ?_);refine pQ O (aS (sF O O oo_) (congrArg (Value.int .u64) (C6 _ _))) (go3 ?_);refine ⟨pp_,_,_,(List.Sublist.refl _),(Nat.mod_lt _ oo_),y,x % y,⟨?s5,?s6⟩,?mem,rfl,⟨hy64,Nat.lt_of_le_of_lt (Nat.mod_le _ _) hx64,by rw [Nat.gcd_comm,← Nat.gcd_rec,Nat.gcd_comm];exact hgc⟩⟩
     case mem=>rfl
     case s5=>rfl
     case s6=>rfl
    replace hy0:=cB_ hy0
    refine go3 ?_;refine sQ (eC fE gS O) O (go_ ?_);refine sQ (aS (wK O O dd_) (congrArg (Value.int .u64) (sS _ 32))) O (sQ (eC fE gS O) O (sQ (qG qQ arT O (cX_ hx64)) O (sQ (aX aE (eP false _ zz_ (X7 (Nat.mod_lt _ dd_) oo_ 14)) O) O ?_)));refine bI O (bT tyT O O uu_ (iQ zz_) O (bO _) (.inl eL) ?_);refine go2 ?_;refine rtX O ⟨_,_,_,_,_,_,rfl,mm_,tyT,_,(dE (iQ zz_)),(iQ zz_),rfl⟩ ?_;exact aQ_ ha hb hg.1 hg.2 hx64 (aR_ hx64 hgc oo_)
  replace hsz2:=cB_ hsz2
  refine go_ ?_;refine J5 _ _ pp_ ⟨_,(List.Sublist.cons _ (List.Sublist.refl _)),trivial,?mem,trivial⟩
  case mem=>rfl
 rintro g M ⟨-,rfl,-⟩;refine gS0 ?_;refine go2 ?_;refine gDk (sk (sk (sk s0))) (.quiet 0 [1,6,7] (.quiet 1 [6,7] (.still 2 [3,7] (.still 3 [7] (.both 4 (.only 5 (.only 6 (.only 7 (.fin)))) 5 (.only 4 (.only 6 (.only 7 (.fin))))))))) [0,1,2,3,4,5] mix (by kernel_rfl) (by kernel_rfl) (pQ O (cA fdT dd_ O) (pQ O (iN (vs:=uw a.w) tyT O mm_ (lT ha.len) ((gV _).trans ha.len)) ?_));refine tC O O (cA fdT dd_ O) (tC O O (iN (vs:=uw b.w) tyT O mm_ (lT hb.len) ((gV _).trans hb.len)) ?_);refine AF ?_ ?_
 ·refine dF O O (dU qQ (fun b7 hb7=>⟨(fun _=>by first|exact sd s0|exact s0),ss_,?_⟩));refine dF O O (dU qQ (fun b8 hb8=>⟨(fun _=>by first|exact sd s0|exact s0),ss_,?_⟩));refine dF O O (bT tyT O O uu_ (by simp [uw,ha.len]) (by simp [uw]) (iD _) (.inl eL) ⟨nf,ss_,?_⟩);refine dF O O (bT tyT O O uu_ (by simp [uw,hb.len]) (by simp [uw]) (iD _) (.inl eL) ⟨nf,ss_,?_⟩);refine go2 ?_;refine sQ (bZ tyT O mm_ (by simp [uw,hb.len])) O ?_;refine sQ (qG qQ arT O (.nil _)) O ?_;refine sQ (yW (r:=(val b.w==0)) O O (dR 8 dd_ HT IA (oL hb.len) (oL zz_) (DB hb.len hb.lim))) O ?_;refine go_ ?_;refine aN _ O (fun hb0=>?_) (fun hb0=>?_)
  ·replace hb0:=cB_ hb0
   have hp:0<val b.w:=Nat.pos_of_ne_zero (by simpa using hb0);refine go_ ?_;refine sQ (bZ tyT O mm_ (by simp [uw,ha.len])) O ?_;refine sQ (bZ tyT O mm_ (by simp [uw,hb.len])) O ?_;refine sQ (aX aE (tR a.w b.w ha.len hb.len ha.lim hb.lim hp) O) O (go3 ?_);refine bI O (dU qQ (fun b9 hb9=>bI O (dU qQ (fun b10 hb10=>bI O (bT tyT O O uu_ (by simp [uw,cP]) (by simp [uw]) (iD _) (.inl eL) ?_)))));refine bI O (bT tyT O O uu_ (by simp [uw,cP]) (by simp [uw]) (iD _) (.inl eL) ?_);refine go2 ?_;refine gdr (sk (sk (sk (sk (sd (sk (sk s0))))))) [0,4,8,12,16,21] [5] mix (by kernel_rfl) (pQ O (bZ tyT O mm_ (by simp [uw,hb.len])) ?_);refine pQ O (aS (aX aE (eP false b.w hb.len hb.lim) O) (FW hb.len hb.lim false)) (pQ O (bZ tyT O mm_ (by simp [uw,cP])) ?_);refine pQ O (aS (aX aE (eP false _ (cP _ _) (mG _ _)) O) (congrArg RV (oI false (uS ha)))) (pQ O (aX aE (IH (Z.of (sgn false (val b.w))).enc (Z.of (sgn false (val a.w % val b.w))).enc (Z.enc_ok _) (Z.enc_ok _) (by rw [ST (uS ha),← hn];exact Nat.mod_lt _ hp)) O) ?_);refine dF O O (bT tyT O O uu_ (aI _) O (bO _) (.inl eL) ⟨nf,ss_,?_⟩);refine go2 ?_;refine rtX O ⟨_,_,_,_,_,_,rfl,mm_,tyT,_,(dE (aI _)),(aI _),rfl⟩ ?_;exact OS ha hb hg.1 hg.2
  replace hb0:=cB_ hb0
  refine go2 ?_;refine sQ (bZ tyT O mm_ (cE ha)) O ?_;refine sQ (aX aE (DN a ha) O) O (bI O (bT tyT O O uu_ (aI _) O (bO _) (.inl eL) ?_));refine go2 ?_;refine rtX O ⟨_,_,_,_,_,_,rfl,mm_,tyT,_,(dE (aI _)),(aI _),rfl⟩ ?_;exact OT ha hb hg.1 hg.2 (by simpa using hb0)
 refine dF O O (dU qQ (fun b8 hb8=>⟨(fun _=>by first|exact sd s0|exact s0),ss_,?_⟩));refine dF O O (dU qQ (fun b7 hb7=>⟨(fun _=>by first|exact sd s0|exact s0),ss_,?_⟩));refine dF O O (bT tyT O O uu_ (by simp [uw,ha.len]) (by simp [uw]) (iD _) (.inl eL) ⟨nf,ss_,?_⟩);refine dF O O (bT tyT O O uu_ (by simp [uw,hb.len]) (by simp [uw]) (iD _) (.inl eL) ⟨nf,ss_,?_⟩);refine go2 ?_;refine sQ (bZ tyT O mm_ (by simp [uw,hb.len])) O ?_;refine sQ (qG qQ arT O (.nil _)) O ?_;refine sQ (yW (r:=(val b.w==0)) O O (dR 8 dd_ HT IA (oL hb.len) (oL zz_) (DB hb.len hb.lim))) O ?_;refine go_ ?_;refine aN _ O (fun hb0=>?_) (fun hb0=>?_)
 ·replace hb0:=cB_ hb0
  have hp:0<val b.w:=Nat.pos_of_ne_zero (by simpa using hb0);refine go_ ?_;refine sQ (bZ tyT O mm_ (by simp [uw,ha.len])) O ?_;refine sQ (bZ tyT O mm_ (by simp [uw,hb.len])) O ?_;refine sQ (aX aE (tR a.w b.w ha.len hb.len ha.lim hb.lim hp) O) O (go3 ?_);refine bI O (dU qQ (fun b9 hb9=>bI O (dU qQ (fun b10 hb10=>bI O (bT tyT O O uu_ (by simp [uw,cP]) (by simp [uw]) (iD _) (.inl eL) ?_)))));refine bI O (bT tyT O O uu_ (by simp [uw,cP]) (by simp [uw]) (iD _) (.inl eL) ?_);refine go2 ?_;refine gdr (sk (sk (sk (sk (sd (sk (sk s0))))))) [0,4,8,12,16,21] [5] mix (by kernel_rfl) (pQ O (bZ tyT O mm_ (by simp [uw,hb.len])) ?_);refine pQ O (aS (aX aE (eP false b.w hb.len hb.lim) O) (FW hb.len hb.lim false)) (pQ O (bZ tyT O mm_ (by simp [uw,cP])) ?_);refine pQ O (aS (aX aE (eP false _ (cP _ _) (mG _ _)) O) (congrArg RV (oI false (uS ha)))) (pQ O (aX aE (IH (Z.of (sgn false (val b.w))).enc (Z.of (sgn false (val a.w % val b.w))).enc (Z.enc_ok _) (Z.enc_ok _) (by rw [ST (uS ha),← hn];exact Nat.mod_lt _ hp)) O) ?_);refine dF O O (bT tyT O O uu_ (aI _) O (bO _) (.inl eL) ⟨nf,ss_,?_⟩);refine go2 ?_;refine rtX O ⟨_,_,_,_,_,_,rfl,mm_,tyT,_,(dE (aI _)),(aI _),rfl⟩ ?_;exact OS ha hb hg.1 hg.2
 replace hb0:=cB_ hb0
 refine go2 ?_;refine sQ (bZ tyT O mm_ (cE ha)) O ?_;refine sQ (aX aE (DN a ha) O) O (bI O (bT tyT O O uu_ (aI _) O (bO _) (.inl eL) ?_));refine go2 ?_;refine rtX O ⟨_,_,_,_,_,_,rfl,mm_,tyT,_,(dE (aI _)),(aI _),rfl⟩ ?_;exact OT ha hb hg.1 hg.2 (by simpa using hb0)
theorem y7 (a b:R) (ha:a.Ok) (hb:b.Ok):Ret prog 121 [RV a,RV b] (RV (Z.gcd a.dec b.dec).enc):=by
 generalize hn:val b.w=n
 induction n using Nat.strongRecOn generalizing a b with
 | ind n ih=>exact JK n (fun a b ha hb h=>ih _ h a b ha hb O) a b ha hb hn
theorem yY  :
  Ret prog 125 [] (AV [pI F_ratio_one]):=by
 refine bJ (N:=2) func125 O O zz_ (fun w0=>?_);refine giI ?_;obtain ⟨q0,hq0⟩:=nm ((E (Z.of 1)):I);refine go2 ?_;intro b1 hb1;refine go2 ?_;refine sC (AV [pI q0]) aE (eG (wl 1).1 (wl 1).2) O O (by subst hq0;rfl) ?_;refine go3 ?_;refine rtX O (fF O m0 tyT O) ?_;exact (by obtain rfl:=hq0.symm;rfl)
theorem nC  :
  Ret prog 119 [] (AV [pI rR.n,pI rR.d]):=by
 refine bJ (N:=4) func119 O O zz_ (fun w0=>?_);refine giI ?_;obtain ⟨q0,hq0⟩:=nm ((E Z.bad):I);obtain ⟨q1,hq1⟩:=nm (F_ratio_one:I);refine go2 ?_;intro b1 hb1;refine go2 ?_;refine sC (AV [pI q0]) aE fS O O (by subst hq0;rfl) (sC (AV [pI q1]) aE yY O O (by subst hq1;rfl) (go4 ?_));refine rtX O (fF O m0 tyT O) ?_;exact (by subst_vars;rfl)
theorem u5 (a:I) :
    Ret prog 170 [AV [pI a]] (.bool (lF a)):=by
 refine bJ (N:=10) func170 O O zz_ (fun w0=>?_);refine giI ?_;refine go2 ?_;intro b1 hb1;refine go2 ?_;refine gJv (rg [] 2 8) [(2,.bool (!a.1.bad&&a.1.valid))] (fun K1 J1=>?_) ?_
 ·refine go4 ?_;rcases bt a.1.bad with h3|h3
  ·refine sB (fZ h3) O (go5 ?_);refine J1 _ _ pp_ s0 (bS (vO h3))
  refine sB (gA h3) O (go_ ?_);refine sC (.bool a.1.valid) aE (tO a.1 a.2) O O O (go3 ?_);refine J1 _ _ pp_ s0 (bS (rY h3 O))
 intro g4;refine go_ ?_;refine rt1 ?_;exact (by rfl)
theorem kK (a:Rt) :
    Ret prog 99 [AV [pI a.n,pI a.d]] (.bool (cQ a)):=by
 refine bJ (N:=26) func99 O O zz_ (fun w0=>?_);refine giI ?_;refine go2 ?_;intro b1 hb1;refine go2 ?_;refine gJv (rg [] 2 24) [(2,.bool ((lF a.n)&&((lF a.d)&&(decide (0<(Z.signW a.d.dec).1)&&decide ((E (Z.gcd a.n.dec a.d.dec))=F_ratio_one)))))] (fun K1 J1=>?_) ?_
 ·refine go3 ?_;refine sQ (aX aE (u5 a.n) O) O ?_;refine sBB O (fun h5=>?_) (fun h5=>?_)
  ·refine go2 ?_;refine sQ (aX aE (u5 a.d) O) O (go_ ?_);refine sBB O (fun h6=>?_) (fun h6=>?_)
   ·refine go2 ?_;refine sC (.int .i64 ((Z.signW a.d.dec).1)) aE (iR a.d.1 a.d.2) O O O (go2 ?_);refine sBB O (fun h7=>?_) (fun h7=>?_)
    ·refine go4 ?_;refine sC (AV [pI (E (Z.gcd a.n.dec a.d.dec))]) aE (y7 a.n.1 a.d.1 a.n.2 a.d.2) O O O (sQ (aX aE yY  rfl) O ?_);refine sQ (gI (r:=decide ((E (Z.gcd a.n.dec a.d.dec))=F_ratio_one)) O O (dR 8 dd_ SS S6 (cM bG) (cM bG) (eJ cY))) O (go3 ?_);refine J1 _ _ pp_ s0 (bS (k6 h5 (k6 h6 (k6 h7 O))))
    refine iK ?_;refine J1 _ _ pp_ s0 (bS (k6 h5 (k6 h6 (oB h7))))
   refine UW ?_;refine J1 _ _ pp_ s0 (bS (k6 h5 (oB h6)))
  refine H2 ?_;refine J1 _ _ pp_ s0 (bS (oB h5))
 intro g8;refine go_ ?_;refine rt1 ?_;exact (by rfl)
theorem nP (a:I) (b:I) :
    Ret prog 116 [AV [pI a],AV [pI b]] (AV [pI ((cK a b).n),pI ((cK a b).d)]):=by
 refine bJ (N:=35) func116 O O zz_ (fun w0=>?_);refine giI ?_;refine go2 ?_;intro b1 hb1;refine go_ ?_;intro b2 hb2;refine go_ ?_;intro b3 hb3;refine go2 ?_;refine gJv (rg [] 6 13) [(18,.bool (!(lF a)||(!(lF b)||((Z.signW b.dec).1==0))))] (fun K2 J2=>?_) ?_
 ·refine go2 ?_;refine sQ (aX aE (u5 a) O) O (go_ ?_);rcases bt (lF a) with h6|h6
  ·refine sB (fZ h6) O (go_ ?_);refine sQ (aX aE (u5 b) O) O (go2 ?_);rcases bt (lF b) with h7|h7
   ·refine sB (fZ h7) O (go_ ?_);refine sC (.int .i64 ((Z.signW b.dec).1)) aE (iR b.1 b.2) O O O (go3 ?_);refine J2 _ _ pp_ s0 (bS (o8 h6 (o8 h7 O)))
   refine sB (gA h7) O (go5 ?_);refine J2 _ _ pp_ s0 (bS (o8 h6 (tH h7)))
  refine sB (gA h6) O (iK ?_);refine J2 _ _ pp_ s0 (bS (tH h6))
 intro g8;refine aN _ O (fun h9=>?_) (fun h9=>?_)
 ·refine go_ ?_;refine sQ (aX aE nC  rfl) O (go3 ?_);refine rtX O (fF O m0 tyT O) ?_;exact congrArg vS5 (show _=(cK a b) from aC h9 O)
 refine go4 ?_;refine sC (AV [pI (E (Z.gcd a.dec b.dec))]) aE (y7 a.1 b.1 a.2 b.2) O O O (go_ ?_);intro b10 hb10;refine go5 ?_;refine sC (.int .i64 ((Z.signW b.dec).1)) aE (iR b.1 b.2) O O O (go2 ?_);refine aN _ O (fun h11=>?_) (fun h11=>?_)
 ·refine go2 ?_;refine sC (AV [pI (E (Z.neg (Z.gcd a.dec b.dec)))]) aE (wE (E (Z.gcd a.dec b.dec)).1 (E (Z.gcd a.dec b.dec)).2) O O (cg1 (fun p=>AV [pI (E (Z.neg p))]) (dQ _)) (go2 ?_);refine nK (sk (sd (sk (sk s0)))) 8 [7] [7] (go2 ?_);refine pC (AV [pI (E (Z.quo a.dec (Z.neg (Z.gcd a.dec b.dec))))]) aE (lW a.1 (E (Z.neg (Z.gcd a.dec b.dec))).1 a.2 (E (Z.neg (Z.gcd a.dec b.dec))).2) O O (cg2 (fun p q=>AV [pI (E (Z.quo p q))]) O (dQ _)) (go2 ?_);refine pC (AV [pI (E (Z.quo b.dec (Z.neg (Z.gcd a.dec b.dec))))]) aE (lW b.1 (E (Z.neg (Z.gcd a.dec b.dec))).1 b.2 (E (Z.neg (Z.gcd a.dec b.dec))).2) O O (cg2 (fun p q=>AV [pI (E (Z.quo p q))]) O (dQ _)) (pQ O (oX zpT plT O (.cons [pI (E (Z.quo a.dec (Z.neg (Z.gcd a.dec b.dec))))] [pI (E (Z.quo a.dec (Z.neg (Z.gcd a.dec b.dec)))),pI I0] O O O O (.cons [pI (E (Z.quo b.dec (Z.neg (Z.gcd a.dec b.dec))))] [pI (E (Z.quo a.dec (Z.neg (Z.gcd a.dec b.dec)))),pI (E (Z.quo b.dec (Z.neg (Z.gcd a.dec b.dec))))] O O O O (.nil _)))) (go3 ?_));refine rtX O (fF O m1 tyT O) ?_;exact congrArg vS5 (show _=(cK a b) from aH h9 (aC h11 O))
 refine go_ ?_;refine nK (sk (sd (sk (sk s0)))) 8 [7] [7] (go2 ?_);refine pC (AV [pI (E (Z.quo a.dec (Z.gcd a.dec b.dec)))]) aE (lW a.1 (E (Z.gcd a.dec b.dec)).1 a.2 (E (Z.gcd a.dec b.dec)).2) O O (cg2 (fun p q=>AV [pI (E (Z.quo p q))]) O (dQ _)) (go2 ?_);refine pC (AV [pI (E (Z.quo b.dec (Z.gcd a.dec b.dec)))]) aE (lW b.1 (E (Z.gcd a.dec b.dec)).1 b.2 (E (Z.gcd a.dec b.dec)).2) O O (cg2 (fun p q=>AV [pI (E (Z.quo p q))]) O (dQ _)) (pQ O (oX zpT plT O (.cons [pI (E (Z.quo a.dec (Z.gcd a.dec b.dec)))] [pI (E (Z.quo a.dec (Z.gcd a.dec b.dec))),pI I0] O O O O (.cons [pI (E (Z.quo b.dec (Z.gcd a.dec b.dec)))] [pI (E (Z.quo a.dec (Z.gcd a.dec b.dec))),pI (E (Z.quo b.dec (Z.gcd a.dec b.dec)))] O O O O (.nil _)))) (go3 ?_));refine rtX O (fF O m1 tyT O) ?_;exact congrArg vS5 (show _=(cK a b) from aH h9 (aH h11 O))
theorem GN (a:I) :
  Ret prog 58 [AV [pI a]] (AV [pI ((yM a).n),pI ((yM a).d)]):=by
 refine bJ (N:=6) func58 O O zz_ (fun w0=>?_);refine giI ?_;refine go2 ?_;intro b1 hb1;refine go_ ?_;intro b2 hb2;refine go_ ?_;refine nK (sd (sk s0)) 4 [3] [3] (go_ ?_);refine pQ O (aX aE yY  rfl) (pQ O (aX aE (nP a F_ratio_one) O) (go3 ?_));refine rtX O (fF O m0 tyT O) ?_;exact (by rfl)
theorem bV (a:W) :
  Ret prog 14 [.int .i64 a.1] (AV [pI ((aJ a).n),pI ((aJ a).d)]):=by
 refine bJ (N:=6) func14 O O zz_ (fun w0=>?_);refine giI ?_;refine go2 ?_;intro b1 hb1;refine go3 ?_;refine sC (AV [pI (E (Z.of a.1))]) aE (eG a.1 a.2) O O O (sQ (aX aE (GN (E (Z.of a.1))) O) O (go3 ?_));refine rtX O (fF O m0 tyT O) ?_;exact (by rfl)
theorem DJ (a:Rt) :
   Ret prog 57 [AV [pI a.n,pI a.d]] (AV [pI ((k5 a).n),pI ((k5 a).d)]):=by
 refine bJ (N:=13) func57 O O zz_ (fun w0=>?_);refine giI ?_;refine go2 ?_;intro b1 hb1;refine go_ ?_;intro b2 hb2;refine go4 ?_;refine sQ (aX aE (kK a) O) O (go2 ?_);rcases bt (cQ a) with h3|h3
 ·refine W_f (fZ h3) O (go_ ?_);refine nK (sd (sk s0)) 7 [6] [6] (go2 ?_);refine pC (AV [pI (E (Z.neg a.n.dec))]) aE (wE a.n.1 a.n.2) O O O (go2 ?_);refine pQ O (oX zpT plT O (.cons [pI (E (Z.neg a.n.dec))] [pI (E (Z.neg a.n.dec)),pI I0] O O O O (.cons [pI a.d] [pI (E (Z.neg a.n.dec)),pI a.d] O O O O (.nil _)))) (go3 ?_);refine rtX O (fF O m0 tyT O) ?_;exact congrArg vS5 (show _=(k5 a) from aC h3 O)
 refine W_t (gA h3) O (go_ ?_);refine sQ (aX aE nC  rfl) O (go3 ?_);refine rtX O (fF O m0 tyT O) ?_;exact congrArg vS5 (show _=(k5 a) from aH h3 O)
theorem pK (a:Rt) (b:Rt) :
    Ret prog 56 [AV [pI a.n,pI a.d],AV [pI b.n,pI b.d]] (AV [pI ((jD a b).n),pI ((jD a b).d)]):=by
 refine bJ (N:=44) func56 O O zz_ (fun w0=>?_);refine giI ?_;refine go2 ?_;intro b1 hb1;refine go_ ?_;intro b2 hb2;refine go_ ?_;intro b3 hb3;refine go2 ?_;refine gJv (rg [] 8 8) [(15,.bool (!(cQ a)||(!(cQ b))))] (fun K2 J2=>?_) ?_
 ·refine go2 ?_;refine sQ (aX aE (kK a) O) O (go_ ?_);rcases bt (cQ a) with h5|h5
  ·refine sB (fZ h5) O (go_ ?_);refine sQ (aX aE (kK b) O) O (go3 ?_);refine J2 _ _ pp_ s0 (bS (o8 h5 O))
  refine sB (gA h5) O (go5 ?_);refine J2 _ _ pp_ s0 (bS (tH h5))
 intro g6;refine aN _ O (fun h7=>?_) (fun h7=>?_)
 ·refine go_ ?_;refine sQ (aX aE nC  rfl) O (go3 ?_);refine rtX O (fF O m0 tyT O) ?_;exact congrArg vS5 (show _=(jD a b) from aC h7 O)
 refine go6 ?_;refine sC (AV [pI (E (Z.gcd a.d.dec b.d.dec))]) aE (y7 a.d.1 b.d.1 a.d.2 b.d.2) O O O (go_ ?_);intro b8 hb8;refine go2 ?_;refine gDs (sk (sk (sk (sk s0)))) (.quiet 0 [1,3,7,10,11] (.quiet 1 [3,7,10,11] (.quiet 2 [3,7,10,11] (.quiet 3 [7,10,11] (.quiet 4 [5,7,10,11] (.quiet 5 [7,10,11] (.quiet 6 [7,10,11] (.quiet 7 [10,11] (.both 8 (.only 9 (.only 10 (.only 11 (.fin)))) 9 (.only 8 (.only 10 (.only 11 (.fin))))))))))))) [0,1,2,3,4,5,6,7,8,9] mix (by kernel_rfl) (by kernel_rfl) (go3 ?_);refine pC (AV [pI (E (Z.quo a.d.dec (Z.gcd a.d.dec b.d.dec)))]) aE (lW a.d.1 (E (Z.gcd a.d.dec b.d.dec)).1 a.d.2 (E (Z.gcd a.d.dec b.d.dec)).2) O O (cg2 (fun p q=>AV [pI (E (Z.quo p q))]) O (dQ _)) (go3 ?_);refine pC (AV [pI (E (Z.quo b.d.dec (Z.gcd a.d.dec b.d.dec)))]) aE (lW b.d.1 (E (Z.gcd a.d.dec b.d.dec)).1 b.d.2 (E (Z.gcd a.d.dec b.d.dec)).2) O O (cg2 (fun p q=>AV [pI (E (Z.quo p q))]) O (dQ _)) ?_;refine AF ?_ ?_
 ·refine dF O O (eQ zpT (fun b9 hb9=>⟨(fun _=>sd s0),(sd s0),?_⟩));refine dF O O (eQ zpT (fun b10 hb10=>⟨(fun _=>sd s0),(sd (sd s0)),?_⟩));refine go3 ?_;refine gds (sk (sk (sk (sd (sk (sk s0)))))) [0,4,8,12,16,20,24,28,32,36,40,44,48,52,57] [14] mix (by kernel_rfl) (go3 ?_);refine pC (AV [pI (E (Z.mul a.n.dec (Z.quo b.d.dec (Z.gcd a.d.dec b.d.dec))))]) aE (iX a.n.1 (E (Z.quo b.d.dec (Z.gcd a.d.dec b.d.dec))).1 a.n.2 (E (Z.quo b.d.dec (Z.gcd a.d.dec b.d.dec))).2) O O (cg2 (fun p q=>AV [pI (E (Z.mul p q))]) O (dQ _)) (go3 ?_);refine pC (AV [pI (E (Z.mul b.n.dec (Z.quo a.d.dec (Z.gcd a.d.dec b.d.dec))))]) aE (iX b.n.1 (E (Z.quo a.d.dec (Z.gcd a.d.dec b.d.dec))).1 b.n.2 (E (Z.quo a.d.dec (Z.gcd a.d.dec b.d.dec))).2) O O (cg2 (fun p q=>AV [pI (E (Z.mul p q))]) O (dQ _)) ?_;obtain ⟨r11,hr11⟩:=nm ((E (Z.add (Z.mul a.n.dec (Z.quo b.d.dec (Z.gcd a.d.dec b.d.dec))) (Z.mul b.n.dec (Z.quo a.d.dec (Z.gcd a.d.dec b.d.dec))))):I);refine pC (AV [pI r11]) aE (pM (E (Z.mul a.n.dec (Z.quo b.d.dec (Z.gcd a.d.dec b.d.dec)))).1 (E (Z.mul b.n.dec (Z.quo a.d.dec (Z.gcd a.d.dec b.d.dec)))).1 (E (Z.mul a.n.dec (Z.quo b.d.dec (Z.gcd a.d.dec b.d.dec)))).2 (E (Z.mul b.n.dec (Z.quo a.d.dec (Z.gcd a.d.dec b.d.dec)))).2) O O ((cg2 (fun p q=>AV [pI (E (Z.add p q))]) (dQ _) (dQ _)).trans (by rw [hr11])) (go3 ?_);refine pC (AV [pI (E (Z.mul (Z.quo a.d.dec (Z.gcd a.d.dec b.d.dec)) b.d.dec))]) aE (iX (E (Z.quo a.d.dec (Z.gcd a.d.dec b.d.dec))).1 b.d.1 (E (Z.quo a.d.dec (Z.gcd a.d.dec b.d.dec))).2 b.d.2) O O (cg2 (fun p q=>AV [pI (E (Z.mul p q))]) (dQ _) O) ?_;obtain ⟨r12,hr12⟩:=nm ((cK r11 (E (Z.mul (Z.quo a.d.dec (Z.gcd a.d.dec b.d.dec)) b.d.dec))):Rt);refine pC (AV [pI r12.n,pI r12.d]) aE (nP r11 (E (Z.mul (Z.quo a.d.dec (Z.gcd a.d.dec b.d.dec)) b.d.dec))) O O (by rw [hr12]) (go3 ?_);refine rtX O (fF O m3 tyT O) ?_
  subst_vars;exact congrArg vS5 (show _=(jD a b) from aH h7 O)
 refine dF O O (eQ zpT (fun b13 hb13=>⟨(fun _=>sd s0),(sd s0),?_⟩));refine dF O O (eQ zpT (fun b14 hb14=>⟨(fun _=>sd s0),(sd (sd s0)),?_⟩));refine go3 ?_;refine gds (sk (sk (sk (sd (sk (sk s0)))))) [0,4,8,12,16,20,24,28,32,36,40,44,48,52,57] [14] mix (by kernel_rfl) (go3 ?_);refine pC (AV [pI (E (Z.mul a.n.dec (Z.quo b.d.dec (Z.gcd a.d.dec b.d.dec))))]) aE (iX a.n.1 (E (Z.quo b.d.dec (Z.gcd a.d.dec b.d.dec))).1 a.n.2 (E (Z.quo b.d.dec (Z.gcd a.d.dec b.d.dec))).2) O O (cg2 (fun p q=>AV [pI (E (Z.mul p q))]) O (dQ _)) (go3 ?_);refine pC (AV [pI (E (Z.mul b.n.dec (Z.quo a.d.dec (Z.gcd a.d.dec b.d.dec))))]) aE (iX b.n.1 (E (Z.quo a.d.dec (Z.gcd a.d.dec b.d.dec))).1 b.n.2 (E (Z.quo a.d.dec (Z.gcd a.d.dec b.d.dec))).2) O O (cg2 (fun p q=>AV [pI (E (Z.mul p q))]) O (dQ _)) ?_;obtain ⟨r15,hr15⟩:=nm ((E (Z.add (Z.mul a.n.dec (Z.quo b.d.dec (Z.gcd a.d.dec b.d.dec))) (Z.mul b.n.dec (Z.quo a.d.dec (Z.gcd a.d.dec b.d.dec))))):I);refine pC (AV [pI r15]) aE (pM (E (Z.mul a.n.dec (Z.quo b.d.dec (Z.gcd a.d.dec b.d.dec)))).1 (E (Z.mul b.n.dec (Z.quo a.d.dec (Z.gcd a.d.dec b.d.dec)))).1 (E (Z.mul a.n.dec (Z.quo b.d.dec (Z.gcd a.d.dec b.d.dec)))).2 (E (Z.mul b.n.dec (Z.quo a.d.dec (Z.gcd a.d.dec b.d.dec)))).2) O O ((cg2 (fun p q=>AV [pI (E (Z.add p q))]) (dQ _) (dQ _)).trans (by rw [hr15])) (go3 ?_);refine pC (AV [pI (E (Z.mul (Z.quo a.d.dec (Z.gcd a.d.dec b.d.dec)) b.d.dec))]) aE (iX (E (Z.quo a.d.dec (Z.gcd a.d.dec b.d.dec))).1 b.d.1 (E (Z.quo a.d.dec (Z.gcd a.d.dec b.d.dec))).2 b.d.2) O O (cg2 (fun p q=>AV [pI (E (Z.mul p q))]) (dQ _) O) ?_;obtain ⟨r16,hr16⟩:=nm ((cK r15 (E (Z.mul (Z.quo a.d.dec (Z.gcd a.d.dec b.d.dec)) b.d.dec))):Rt);refine pC (AV [pI r16.n,pI r16.d]) aE (nP r15 (E (Z.mul (Z.quo a.d.dec (Z.gcd a.d.dec b.d.dec)) b.d.dec))) O O (by rw [hr16]) (go3 ?_);refine rtX O (fF O m3 tyT O) ?_
 subst_vars;exact congrArg vS5 (show _=(jD a b) from aH h7 O)
theorem nD (a:Rt) (b:Rt) :
  Ret prog 13 [AV [pI a.n,pI a.d],AV [pI b.n,pI b.d]] (AV [pI ((bQ a b).n),pI ((bQ a b).d)]):=by
 refine bJ (N:=9) func13 O O zz_ (fun w0=>?_);refine giI ?_;refine go2 ?_;intro b1 hb1;refine go_ ?_;intro b2 hb2;refine go_ ?_;intro b3 hb3;refine go_ ?_;refine nK (sd (sk (sk s0))) 5 [4] [4] (go2 ?_);refine pQ O (aX aE (DJ b) O) (pQ O (aX aE (pK a (k5 b)) O) (go3 ?_));refine rtX O (fF O m0 tyT O) ?_;exact (by rfl)
theorem wA (a:Rt) (b:Rt) :
    Ret prog 92 [AV [pI a.n,pI a.d],AV [pI b.n,pI b.d]] (AV [pI ((fW a b).n),pI ((fW a b).d)]):=by
 refine bJ (N:=48) func92 O O zz_ (fun w0=>?_);refine giI ?_;refine go2 ?_;intro b1 hb1;refine go_ ?_;intro b2 hb2;refine go_ ?_;intro b3 hb3;refine go2 ?_;refine gJv (rg [] 9 8) [(16,.bool (!(cQ a)||(!(cQ b))))] (fun K2 J2=>?_) ?_
 ·refine go2 ?_;refine sQ (aX aE (kK a) O) O (go_ ?_);rcases bt (cQ a) with h5|h5
  ·refine sB (fZ h5) O (go_ ?_);refine sQ (aX aE (kK b) O) O (go3 ?_);refine J2 _ _ pp_ s0 (bS (o8 h5 O))
  refine sB (gA h5) O (go5 ?_);refine J2 _ _ pp_ s0 (bS (tH h5))
 intro g6;refine aN _ O (fun h7=>?_) (fun h7=>?_)
 ·refine go_ ?_;refine sQ (aX aE nC  rfl) O (go3 ?_);refine rtX O (fF O m0 tyT O) ?_;exact congrArg vS5 (show _=(fW a b) from aC h7 O)
 refine go_ ?_;refine gDs (sk (sk (sk s0))) (.quiet 0 [1,4,9,12,13] (.quiet 1 [4,9,12,13] (.quiet 2 [3,4,9,12,13] (.quiet 3 [4,9,12,13] (.quiet 4 [9,12,13] (.quiet 5 [6,9,12,13] (.quiet 6 [9,12,13] (.quiet 7 [8,9,12,13] (.quiet 8 [9,12,13] (.quiet 9 [12,13] (.both 10 (.only 11 (.only 12 (.only 13 (.fin)))) 11 (.only 10 (.only 12 (.only 13 (.fin))))))))))))))) [0,1,2,3,4,5,6,7,8,9,10,11] mix (by kernel_rfl) (by kernel_rfl) (go4 ?_);refine pQ O (aX aE (nP a.n b.d) O) (go4 ?_);refine pQ O (aX aE (nP b.n a.d) O) ?_;refine AF ?_ ?_
 ·refine dF O O (eQ zpT (fun b8 hb8=>⟨(fun _=>sd s0),(sd s0),?_⟩));refine dF O O (eQ zpT (fun b9 hb9=>⟨(fun _=>sd s0),(sd (sd s0)),?_⟩));refine go3 ?_;refine gDs (sk (sd (sk (sk (sk s0))))) (.quiet 0 [1,4,9,12,13] (.quiet 1 [4,9,12,13] (.quiet 2 [3,4,9,12,13] (.quiet 3 [4,9,12,13] (.quiet 4 [9,12,13] (.quiet 5 [6,9,12,13] (.quiet 6 [9,12,13] (.quiet 7 [8,9,12,13] (.quiet 8 [9,12,13] (.quiet 9 [12,13] (.both 10 (.only 11 (.only 12 (.only 13 (.fin)))) 11 (.only 10 (.only 12 (.only 13 (.fin))))))))))))))) [0,1,2,3,4,5,6,7,8,9,10,11] mix (by kernel_rfl) (by kernel_rfl) (go4 ?_);obtain ⟨r10,hr10⟩:=nm ((E (Z.mul ((cK a.n b.d).n).dec ((cK b.n a.d).n).dec)):I);refine pC (AV [pI r10]) aE (iX ((cK a.n b.d).n).1 ((cK b.n a.d).n).1 ((cK a.n b.d).n).2 ((cK b.n a.d).n).2) O O (by subst hr10;rfl) (go4 ?_);obtain ⟨r11,hr11⟩:=nm ((E (Z.mul ((cK a.n b.d).d).dec ((cK b.n a.d).d).dec)):I);refine pC (AV [pI r11]) aE (iX ((cK a.n b.d).d).1 ((cK b.n a.d).d).1 ((cK a.n b.d).d).2 ((cK b.n a.d).d).2) O O (by subst hr11;rfl) ?_;refine AF ?_ ?_
  ·refine dF O O (eQ zpT (fun b12 hb12=>⟨(fun _=>sd s0),(sd (sk (sd s0))),?_⟩));refine dF O O (eQ zpT (fun b13 hb13=>⟨(fun _=>sd s0),(sd (sd (sk (sd s0)))),?_⟩));refine go4 ?_;refine gJv [38,39,40,41,42,43] [(43,.bool (r10.1.bad||r11.1.bad))] (fun K4 J4=>?_) ?_
   ·refine go3 ?_;refine sBB O (fun h15=>?_) (fun h15=>?_)
    ·refine go4 ?_;refine J4 _ _ pp_ s0 (bS (oH h15))
    refine go4 ?_;refine J4 _ _ pp_ s0 (bS (mO h15 O))
   intro g16;refine aN _ O (fun h17=>?_) (fun h17=>?_)
   ·refine go_ ?_;refine sQ (aX aE nC  rfl) O (go3 ?_);refine rtX O (fF O m4 tyT O) ?_
    subst_vars;exact congrArg vS5 (show _=(fW a b) from aH h7 (aC h17 O))
   refine go8 ?_;refine rtX O (fF O m4 tyT O) ?_
   subst_vars;exact congrArg vS5 (show _=(fW a b) from aH h7 (aH h17 O))
  refine dF O O (eQ zpT (fun b18 hb18=>⟨(fun _=>sd s0),(sd (sk (sd s0))),?_⟩));refine dF O O (eQ zpT (fun b19 hb19=>⟨(fun _=>sd s0),(sd (sd (sk (sd s0)))),?_⟩));refine go4 ?_;refine gJv [38,39,40,41,42,43] [(43,.bool (r10.1.bad||r11.1.bad))] (fun K6 J6=>?_) ?_
  ·refine go3 ?_;refine sBB O (fun h21=>?_) (fun h21=>?_)
   ·refine go4 ?_;refine J6 _ _ pp_ s0 (bS (oH h21))
   refine go4 ?_;refine J6 _ _ pp_ s0 (bS (mO h21 O))
  intro g22;refine aN _ O (fun h23=>?_) (fun h23=>?_)
  ·refine go_ ?_;refine sQ (aX aE nC  rfl) O (go3 ?_);refine rtX O (fF O m4 tyT O) ?_
   subst_vars;exact congrArg vS5 (show _=(fW a b) from aH h7 (aC h23 O))
  refine go8 ?_;refine rtX O (fF O m4 tyT O) ?_
  subst_vars;exact congrArg vS5 (show _=(fW a b) from aH h7 (aH h23 O))
 refine dF O O (eQ zpT (fun b24 hb24=>⟨(fun _=>sd s0),(sd s0),?_⟩));refine dF O O (eQ zpT (fun b25 hb25=>⟨(fun _=>sd s0),(sd (sd s0)),?_⟩));refine go3 ?_;refine gDs (sk (sk (sk (sk (sk s0))))) (.quiet 0 [1,4,9,12,13] (.quiet 1 [4,9,12,13] (.quiet 2 [3,4,9,12,13] (.quiet 3 [4,9,12,13] (.quiet 4 [9,12,13] (.quiet 5 [6,9,12,13] (.quiet 6 [9,12,13] (.quiet 7 [8,9,12,13] (.quiet 8 [9,12,13] (.quiet 9 [12,13] (.both 10 (.only 11 (.only 12 (.only 13 (.fin)))) 11 (.only 10 (.only 12 (.only 13 (.fin))))))))))))))) [0,1,2,3,4,5,6,7,8,9,10,11] mix (by kernel_rfl) (by kernel_rfl) (go4 ?_);obtain ⟨r26,hr26⟩:=nm ((E (Z.mul ((cK a.n b.d).n).dec ((cK b.n a.d).n).dec)):I);refine pC (AV [pI r26]) aE (iX ((cK a.n b.d).n).1 ((cK b.n a.d).n).1 ((cK a.n b.d).n).2 ((cK b.n a.d).n).2) O O (by subst hr26;rfl) (go4 ?_);obtain ⟨r27,hr27⟩:=nm ((E (Z.mul ((cK a.n b.d).d).dec ((cK b.n a.d).d).dec)):I);refine pC (AV [pI r27]) aE (iX ((cK a.n b.d).d).1 ((cK b.n a.d).d).1 ((cK a.n b.d).d).2 ((cK b.n a.d).d).2) O O (by subst hr27;rfl) ?_;refine AF ?_ ?_
 ·refine dF O O (eQ zpT (fun b28 hb28=>⟨(fun _=>sd s0),(sd s0),?_⟩));refine dF O O (eQ zpT (fun b29 hb29=>⟨(fun _=>sd s0),(sd (sd s0)),?_⟩));refine go4 ?_;refine gJv [38,39,40,41,42,43] [(43,.bool (r26.1.bad||r27.1.bad))] (fun K8 J8=>?_) ?_
  ·refine go3 ?_;refine sBB O (fun h31=>?_) (fun h31=>?_)
   ·refine go4 ?_;refine J8 _ _ pp_ s0 (bS (oH h31))
   refine go4 ?_;refine J8 _ _ pp_ s0 (bS (mO h31 O))
  intro g32;refine aN _ O (fun h33=>?_) (fun h33=>?_)
  ·refine go_ ?_;refine sQ (aX aE nC  rfl) O (go3 ?_);refine rtX O (fF O m4 tyT O) ?_
   subst_vars;exact congrArg vS5 (show _=(fW a b) from aH h7 (aC h33 O))
  refine go8 ?_;refine rtX O (fF O m4 tyT O) ?_
  subst_vars;exact congrArg vS5 (show _=(fW a b) from aH h7 (aH h33 O))
 refine dF O O (eQ zpT (fun b34 hb34=>⟨(fun _=>sd s0),(sd s0),?_⟩));refine dF O O (eQ zpT (fun b35 hb35=>⟨(fun _=>sd s0),(sd (sd s0)),?_⟩));refine go4 ?_;refine gJv [38,39,40,41,42,43] [(43,.bool (r26.1.bad||r27.1.bad))] (fun K10 J10=>?_) ?_
 ·refine go3 ?_;refine sBB O (fun h37=>?_) (fun h37=>?_)
  ·refine go4 ?_;refine J10 _ _ pp_ s0 (bS (oH h37))
  refine go4 ?_;refine J10 _ _ pp_ s0 (bS (mO h37 O))
 intro g38;refine aN _ O (fun h39=>?_) (fun h39=>?_)
 ·refine go_ ?_;refine sQ (aX aE nC  rfl) O (go3 ?_);refine rtX O (fF O m4 tyT O) ?_
  subst_vars;exact congrArg vS5 (show _=(fW a b) from aH h7 (aC h39 O))
 refine go8 ?_;refine rtX O (fF O m4 tyT O) ?_
 subst_vars;exact congrArg vS5 (show _=(fW a b) from aH h7 (aH h39 O))
end Go.Proofs.YtbjlhfochebmiaaGreatDoor
namespace Go.Num
open Go Go.Kn
theorem VK {a:Rt} (h:cQ a=true):cfP (cfN a.d) a.d:=by
 unfold cQ at h;simp only [Bool.and_eq_true,decide_eq_true_eq] at h;exact KG h.2.2.1
end Go.Num
