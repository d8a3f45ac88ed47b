/- Lemmas: what they ask stands in their statements. -/
import Derived.Test.YtbjlhfochebmiaaGreatDoorXWe
set_option linter.unusedSimpArgs false
set_option linter.unusedVariables false
set_option maxHeartbeats 8000000
set_option maxRecDepth 20000
namespace Go.Proofs.YtbjlhfochebmiaaGreatDoor
open Go.Kn Go.Num
attribute [local irreducible] Go.Kn.W WL PL OpQ OpR OpS
theorem sJ (a:R) (ha:a.Ok) :
    Ret Tryz.prog 159 [RV a] (.int .i64 ((a.dec.bits:Nat):Int)):=by
 refine aW (N:=25) Tryz.func159 rfl rfl (by simp) (fun w0=>?_);simp only [bA,Nat.reduceAdd];refine go_ ?_;refine aU rfl (fV rfl rfl (fun b1 hb1=>go3 ?_));refine sQ (bB fdT dd_ rfl) rfl (sQ (eU (vs:=uw a.w) tyT rfl mm_ (iD ha.len) ((d8 _).trans ha.len)) rfl ?_);refine sQ (aZ yR (j7 a.w ha.len) rfl) rfl (go4 ?_);refine sQ (bE tyT rfl mm_ (bG ha)) rfl ?_;refine aU rfl (fA nX i2 mM rfl dd_ rfl (rY ha) (fun b8 hb8=>sQ (bR nR rfl (fun w hw=>eB [a] (ok1 ha) b8 33 w (hw.mem _ m0) (by simp))) rfl ?_));refine go2 ?_
 cases hg:[a].all R.good
 ·refine go9 ?_;refine aS rfl (.inr rfl) rfl ?_;exact congrArg (fun n:Nat=>Value.int .i64 (n:Int)) (QG (by simpa using hg))
 refine go4 ?_;refine aK _ rfl (fun hz=>?_) (fun hz=>?_)
 ·replace hz:=cB_ hz
  refine go4 ?_;refine aS rfl (.inr rfl) rfl ?_;exact congrArg (fun n:Nat=>Value.int .i64 (n:Int)) (ON ha (by simpa using hg) oo_)
 replace hz:=cB_ hz
 refine go2 ?_
 have hs1:1≤szL a.w:=by omega
 have hs16:szL a.w≤16:=by have:=qV a.w;rw [ha.len] at this;exact this
 refine go_ ?_;refine sQ (aI (kM rfl rfl) (congrArg (Value.int .i64) (pD (b:=1) rfl oo_ oo_))) rfl (sQ (aI (NW rfl rfl) (congrArg (Value.int .i64) (bT_ rfl oo_))) rfl (go_ ?_));refine sQ (aI (kM rfl rfl) (congrArg (Value.int .i64) (pD (b:=1) rfl oo_ oo_))) rfl (sQ (bB fdT dd_ rfl) rfl (sQ (cU arT rfl rfl oo_ oo_) rfl (sQ (cA tyT rfl mm_ (j8 (r:=a) (k:=szL a.w - 1) (by rw [ha.len];omega))) rfl ?_)));refine sQ (aZ RJ (FQ _ (cF ha.lim _)) rfl) rfl (sQ (aI (e9 rfl rfl) (congrArg (Value.int .i64) (kL (by have:=rW (k:=32) (cF ha.lim (szL a.w - 1));omega)))) rfl (go3 ?_));refine aS rfl (.inr rfl) rfl ?_;exact congrArg (fun n:Nat=>Value.int .i64 (n:Int)) (QK ha (by simpa using hg) hs1)

theorem qX (a:R) (ha:a.Ok) :
    Ret Tryz.prog 84 [RV a] (.tuple #[.int .i64 a.dec.small.1,.bool a.dec.small.2]):=by
 refine aW (N:=44) Tryz.func84 rfl rfl (by simp) (fun w0=>?_);simp only [bA,Nat.reduceAdd];refine go_ ?_;refine aU rfl (fV rfl rfl (fun b1 hb1=>go5 ?_));refine sQ (bE tyT rfl mm_ (bG ha)) rfl ?_;refine aU rfl (fA nX i2 mM rfl dd_ rfl (rY ha) (fun b6 hb6=>sQ (bR nR rfl (fun w hw=>eB [a] (ok1 ha) b6 33 w (hw.mem _ m0) (by simp))) rfl ?_));refine go2 ?_
 cases hg:[a].all R.good
 ·refine AI ?_;refine mD rfl (.inr rfl) rfl rfl ?_;exact PR (by simpa using hg)
 refine sQ (bE tyT rfl mm_ (bG ha)) rfl ?_;refine sQ (aZ LG (sJ a ha) rfl) rfl (go3 ?_);refine aK _ rfl (fun hb=>?_) (fun hb=>?_)
 ·replace hb:=cB_ hb
  refine go5 ?_;refine mD rfl (.inr rfl) rfl rfl ?_;exact MR ha (by simpa using hg) hb
 replace hb:=cB_ hb
 have h64:=YO ha (by simpa using hg) hb;refine go2 ?_;refine sQ (bB fdT dd_ rfl) rfl (sQ (cU arT rfl rfl dd_ dd_) rfl (sQ (cA tyT rfl mm_ (j8 (r:=a) (k:=1) (by rw [ha.len];omega))) rfl ?_));refine sQ (aI (cP d9 dJ rfl) (sG (cF ha.lim _))) rfl (sQ (aI (zT rfl rfl dd_) (congrArg (Value.int .u64) (sY (cF ha.lim _)))) rfl (sQ (bB fdT dd_ rfl) rfl (sQ (cU arT rfl rfl dd_ dd_) rfl (sQ (cA tyT rfl mm_ (j8 (r:=a) (k:=0) (by rw [ha.len];omega))) rfl ?_))));refine sQ (aI (cP d9 dJ rfl) (sG (cF ha.lim _))) rfl (sQ (aI (HG rfl rfl) (congrArg (Value.int .u64) ((JD (cF ha.lim _) (cF ha.lim _)).trans (congrArg (fun m:Nat=>(m:Int)) (y5 ha h64))))) rfl (go5 ?_));refine sQ (bB fdT dd_ rfl) rfl (sQ (cA tyT rfl mm_ rfl) rfl ?_);refine go_ ?_
 cases hn:a.neg
 ·refine go7 ?_;refine sQ (bB fdT dd_ rfl) rfl (sQ (cA tyT rfl mm_ rfl) rfl ?_);refine go_ ?_;rw [hn];refine go6 ?_;refine aK _ rfl (fun hlt=>?_) (fun hlt=>?_)
  ·replace hlt:=cB_ hlt
   refine go2 ?_;refine sQ (aI (cP dJ AK rfl) (congrArg (Value.int .i64) (PT oo_))) rfl (go4 ?_);refine mD rfl (.inr rfl) rfl rfl ?_;exact KA ha (by simpa using hg) (by rw [hn];rfl) (by rw [hn,oI];omega)
  replace hlt:=cB_ hlt
  refine go6 ?_;refine mD rfl (.inr rfl) rfl rfl ?_;exact AT ha (by simpa using hg) (by rw [hn,oI];omega)
 refine go5 ?_;refine aK _ rfl (fun hle=>?_) (fun hle=>?_)
 ·replace hle:=cB_ hle
  refine go3 ?_;refine sQ (aI (cP dJ AK rfl) (congrArg (Value.int .i64) (PS oo_))) rfl (go4 ?_);refine mD rfl (.inr rfl) rfl rfl ?_;exact KA ha (by simpa using hg) (by rw [hn];rfl) (by rw [hn,o9];omega)
 replace hle:=cB_ hle
 refine go_ ?_;refine sQ (bB fdT dd_ rfl) rfl (sQ (cA tyT rfl mm_ rfl) rfl ?_);refine go_ ?_;rw [hn];refine G3 ?_;refine mD rfl (.inr rfl) rfl rfl ?_;exact AT ha (by simpa using hg) (by rw [hn,o9];omega)

theorem z7 (a b:R) (ha:a.Ok) (hb:b.Ok) :
    Ret Tryz.prog 172 [RV a,RV b] (.tuple #[RV (Z.quo a.dec b.dec).enc,RV (Z.rem a.dec b.dec).enc]):=by
 refine aW (N:=108) Tryz.func172 rfl rfl (by simp) (fun w0=>?_);simp only [bA,Nat.reduceAdd];refine go_ ?_;refine aU rfl (fV rfl rfl (fun b2 hb2=>aU rfl (fV rfl rfl (fun b3 hb3=>aU rfl (cM i2 (fun b4 hb4=>aU rfl (cM i2 (fun b5 hb5=>go3 ?_))))))));refine sQ (bE tyT rfl mm_ (bG ha)) rfl ?_;refine sQ (bE tyT rfl mm_ (bG hb)) rfl ?_;refine aU rfl (fA nX i2 mM rfl dd_ rfl (G0 ha hb) (fun b17 hb17=>sQ (bR nR rfl (fun w hw=>eB [a,b] (ok2 ha hb) b17 33 w (hw.mem _ m0) (by simp))) rfl ?_));refine go2 ?_
 cases hg:[a,b].all R.good
 ·refine go7 ?_;refine sQ (aZ lQ dR rfl) rfl (sQ (aZ lQ dR rfl) rfl (aU rfl (aX tyT rfl rfl uu_ (aC _) rfl (aV _) (.inl (by assumption)) ?_)));refine aU rfl (aX tyT rfl rfl uu_ (aC _) rfl (aV _) (.inl (by assumption)) ?_);refine go2 ?_;refine mD rfl (.inr rfl) ⟨_,_,_,_,_,_,rfl,mm_,tyT,_,(bX (aC _)),(aC _),rfl⟩ ⟨_,_,_,_,_,_,rfl,mm_,tyT,_,(bX (aC _)),(aC _),rfl⟩ ?_;exact VY (zP hg)
 have hg:=all2.1 hg;refine sQ (bE tyT rfl mm_ (bG hb)) rfl ?_;refine sQ (aZ u4 (iQ b hb) rfl) rfl (go3 ?_);refine aK _ rfl (fun hs0=>?_) (fun hs0=>?_)
 ·replace hs0:=cB_ hs0
  refine go_ ?_;refine sQ (aZ lQ dR rfl) rfl (sQ (aZ lQ dR rfl) rfl (aU rfl (aX tyT rfl rfl uu_ (aC _) rfl (aV _) (.inl (by assumption)) ?_)));refine aU rfl (aX tyT rfl rfl uu_ (aC _) rfl (aV _) (.inl (by assumption)) ?_);refine go2 ?_;refine mD rfl (.inr rfl) ⟨_,_,_,_,_,_,rfl,mm_,tyT,_,(bX (aC _)),(aC _),rfl⟩ ⟨_,_,_,_,_,_,rfl,mm_,tyT,_,(bX (aC _)),(aC _),rfl⟩ ?_;exact TB ha hb hg.1 hg.2 hs0
 replace hs0:=cB_ hs0
 have hs0:b.dec.sign≠0:=hs0;have hp:=vY hb hg.2 hs0;refine go_ ?_;refine tC [6,7,8,9,10,11,27,28,29,30,31,32,33,34,35,36,37,38,39,40,41,42,43,44,45,46,47,48,49,50,51,52,53,54,55,56,57,58,59,60,61,62,63,64,65,66,67,68,69,70] (fun g M=>(True)∧M=[⟨b5,33,zR⟩,⟨b4,33,zR⟩,⟨b3,33,b.cells⟩,⟨b2,33,a.cells⟩]∧(True)) (fun K6 J6=>?_) ?_
 ·refine go_ ?_;refine sQ (bE tyT rfl mm_ (bG ha)) rfl ?_;refine sQ (aZ RO (qX a ha) rfl) rfl (go9 ?_)
  cases hsa:a.dec.small.2
  ·refine go6 ?_;refine J6 _ _ pp_ ⟨_,(List.Sublist.cons _ (List.Sublist.refl _)),trivial,?mem,trivial⟩
   case mem=>rfl
  refine go4 ?_;refine aK _ rfl (fun hma=>?_) (fun hma=>?_)
  ·replace hma:=cB_ hma
   have ea:=D2 hsa;refine go_ ?_;refine sQ (bE tyT rfl mm_ (bG hb)) rfl ?_;refine sQ (aZ RO (qX b hb) rfl) rfl (go9 ?_)
   cases hsb:b.dec.small.2
   ·refine go6 ?_;refine J6 _ _ pp_ ⟨_,(List.Sublist.cons _ (List.Sublist.refl _)),trivial,?mem,trivial⟩
    case mem=>rfl
   refine go4 ?_;refine aK _ rfl (fun hmb=>?_) (fun hmb=>?_)
   ·replace hmb:=cB_ hmb
    have eb:=D2 hsb;have hy0:=HT eb.1 hs0;have hq64:I64 (a.dec.small.1.tdiv b.dec.small.1):=MK ea.2 hma;have hr64:=aG_ (x:=a.dec.small.1) hy0 eb.2;refine go_ ?_;refine gdr (sk (sk (sk (sk (sk (s0)))))) [0,4,8,12,16,20,24,28] [] mix (by kernel_rfl) (go2 ?_);refine pQ rfl (aI (f8 rfl rfl hy0) (congrArg (Value.int .i64) (bD (MK ea.2 hma)))) (go2 ?_);refine pQ rfl (nD rfl rfl hy0) (go8 ?_)
    cases hr0:(a.dec.small.1.tmod b.dec.small.1 != 0)
    ·refine AI ?_;refine sQ (aZ kW (cN _ (by first | exact hI1 | exact hq64)) rfl) rfl ?_;refine go_ ?_;refine sQ (aZ kW (cN _ (by first | exact hI2 | exact hr64)) rfl) rfl ?_;refine aU rfl (aX tyT rfl rfl uu_ (aC _) rfl (aV _) (.inl (by assumption)) ?_);refine aU rfl (aX tyT rfl rfl uu_ (aC _) rfl (aV _) (.inl (by assumption)) ?_);refine go2 ?_;refine mD rfl (.inr rfl) ⟨_,_,_,_,_,_,rfl,mm_,tyT,_,(bX (aC _)),(aC _),rfl⟩ ⟨_,_,_,_,_,_,rfl,mm_,tyT,_,(bX (aC _)),(aC _),rfl⟩ ?_;exact AS ea.1 eb.1 hs0 (zL hy0 (.inl (by simpa using hr0)))
    refine go4 ?_;refine sQ (qT AB rfl rfl) rfl (go2 ?_);refine aK _ rfl (fun hsg=>?_) (fun hsg=>?_)
    ·replace hsg:=cB_ hsg
     have hI1:I64 (a.dec.small.1.tdiv b.dec.small.1 - 1):=S8 ea.2 hma;have hI2:=aH_ hy0 eb.2 (bne_iff_ne.2 hsg);refine go2 ?_;refine sQ (aI (kM rfl rfl) (congrArg (Value.int .i64) (bD hI1))) rfl (go2 ?_);refine sQ (aI (e9 rfl rfl) (congrArg (Value.int .i64) (bD hI2))) rfl (go5 ?_);refine sQ (aZ kW (cN _ (by first | exact hI1 | exact hq64)) rfl) rfl ?_;refine go_ ?_;refine sQ (aZ kW (cN _ (by first | exact hI2 | exact hr64)) rfl) rfl ?_;refine aU rfl (aX tyT rfl rfl uu_ (aC _) rfl (aV _) (.inl (by assumption)) ?_);refine aU rfl (aX tyT rfl rfl uu_ (aC _) rfl (aV _) (.inl (by assumption)) ?_);refine go2 ?_;refine mD rfl (.inr rfl) ⟨_,_,_,_,_,_,rfl,mm_,tyT,_,(bX (aC _)),(aC _),rfl⟩ ⟨_,_,_,_,_,_,rfl,mm_,tyT,_,(bX (aC _)),(aC _),rfl⟩ ?_;exact AS ea.1 eb.1 hs0 (LN hy0 (by simpa using hr0) (bne_iff_ne.2 hsg))
    replace hsg:=cB_ hsg
    refine go3 ?_;refine sQ (aZ kW (cN _ (by first | exact hI1 | exact hq64)) rfl) rfl ?_;refine go_ ?_;refine sQ (aZ kW (cN _ (by first | exact hI2 | exact hr64)) rfl) rfl ?_;refine aU rfl (aX tyT rfl rfl uu_ (aC _) rfl (aV _) (.inl (by assumption)) ?_);refine aU rfl (aX tyT rfl rfl uu_ (aC _) rfl (aV _) (.inl (by assumption)) ?_);refine go2 ?_;refine mD rfl (.inr rfl) ⟨_,_,_,_,_,_,rfl,mm_,tyT,_,(bX (aC _)),(aC _),rfl⟩ ⟨_,_,_,_,_,_,rfl,mm_,tyT,_,(bX (aC _)),(aC _),rfl⟩ ?_;exact AS ea.1 eb.1 hs0 (zL hy0 (.inr (by simpa using hsg)))
   replace hmb:=cB_ hmb
   refine go_ ?_;refine J6 _ _ pp_ ⟨_,(List.Sublist.cons _ (List.Sublist.refl _)),trivial,?mem,trivial⟩
   case mem=>rfl
  replace hma:=cB_ hma
  refine go_ ?_;refine J6 _ _ pp_ ⟨_,(List.Sublist.cons _ (List.Sublist.refl _)),trivial,?mem,trivial⟩
  case mem=>rfl
 rintro g M ⟨-,rfl,-⟩;simp only [eJ];refine go_ ?_;refine sQ (bB fdT dd_ rfl) rfl (sQ (eU (vs:=uw a.w) tyT rfl mm_ (iD ha.len) ((d8 _).trans ha.len)) rfl ?_);refine sQ (bB fdT dd_ rfl) rfl (sQ (eU (vs:=uw b.w) tyT rfl mm_ (iD hb.len) ((d8 _).trans hb.len)) rfl ?_);refine sQ (aZ LJ (n9 a.w b.w ha.len hb.len ha.lim hb.lim hp) rfl) rfl (go3 ?_);refine aU rfl (cM lH (fun b12 hb12=>aU rfl (cM lH (fun b13 hb13=>aU rfl (aX tyT rfl rfl uu_ (by simp [uw,bN]) (by simp [uw]) (eK _) (.inl (by assumption)) ?_)))));refine aU rfl (aX tyT rfl rfl uu_ (by simp [uw,bN]) (by simp [uw]) (eK _) (.inl (by assumption)) ?_);refine go2 ?_;refine sQ (bB fdT dd_ rfl) rfl (sQ (cA tyT rfl mm_ rfl) rfl ?_);refine sQ (bB fdT dd_ rfl) rfl (sQ (cA tyT rfl mm_ rfl) rfl ?_);refine sQ (qT AB rfl rfl) rfl (sQ (bE tyT rfl mm_ (by simp [uw,bN])) rfl ?_);refine sQ (aI (aZ l9 (cW (a.neg != b.neg) _ (bN _ _) (iO _ _)) rfl) (congrArg RV (j1 _ (TA ha)))) rfl (aU rfl (cM i2 (fun b14 hb14=>aU rfl (aX tyT rfl rfl uu_ (aC _) rfl (aV _) (.inl (by assumption)) ?_))));refine go_ ?_;refine tC [86,87,88,89,90,91,92,93,94,95,96,97,98,99,100,101,102] (fun g M=>∃ (z:Z) (l:List Nat),(True)∧M=[⟨b14,33,z.enc.cells⟩,⟨b13,31,uw l⟩,⟨b12,31,uw (toL 16 (val a.w / val b.w))⟩,⟨b5,33,zR⟩,⟨b4,33,zR⟩,⟨b3,33,b.cells⟩,⟨b2,33,a.cells⟩]∧(l.length=16∧Lim l∧z=Z.quo a.dec b.dec∧R.mk false (b.neg && !(val l==0)) l=(Z.rem a.dec b.dec).enc)) (fun K19 J19=>?_) ?_
 ·refine go_ ?_;refine sQ (bE tyT rfl mm_ (by simp [uw,bN])) rfl ?_;refine sQ (lB lH arT rfl (.nil _)) rfl ?_;refine sQ (AP (r:=(val a.w % val b.w==0)) rfl rfl (cL 8 dd_ CR C9 (j6 (bN _ _)) (j6 (by simp)) (TD ha))) rfl ?_;refine go_ ?_
  cases hr1:(val a.w % val b.w==0)
  ·refine sQ (bB fdT dd_ rfl) rfl (sQ (cA tyT rfl mm_ rfl) rfl ?_);refine sQ (bB fdT dd_ rfl) rfl (sQ (cA tyT rfl mm_ rfl) rfl ?_);refine sQ (qT AB rfl rfl) rfl (go2 ?_);refine aK _ rfl (fun hne=>?_) (fun hne=>?_)
   ·replace hne:=cB_ hne
    refine gdr (sd (sd (sk (sk (sk (sk (sk (s0)))))))) [0,4,8,12,16,20,24,29,33] [7,8] mix (by kernel_rfl) (pQ rfl (bE tyT rfl mm_ (aC _)) ?_);refine pQ rfl (aZ kW (cN 1 (by unfold I64;decide)) rfl) (pQ rfl (aZ Q7 (yH (Z.of (sgn (a.neg != b.neg) (val a.w / val b.w))).enc (Z.of 1).enc (Z.enc_ok _) (Z.enc_ok _)) rfl) (pQ rfl (bB fdT dd_ rfl) (pQ rfl (eU (vs:=uw b.w) tyT rfl mm_ (iD hb.len) ((d8 _).trans hb.len)) ?_)));refine pQ rfl (bE tyT rfl mm_ (by simp [uw,bN])) ?_;refine pQ rfl (aZ LK (qY b.w _ hb.len (bN _ _) hb.lim (iO _ _) (aJ_ ha hp)) rfl) ?_;refine cS rfl rfl (aX tyT rfl rfl uu_ (aC _) (aC _) (aV _) (.inl (by assumption)) ⟨nf,ss_,?_⟩);refine cS rfl rfl (aX tyT rfl rfl uu_ (by simp [uw,bN]) (by simp [uw,bN]) (eK _) (.inl (by assumption)) ⟨nf,ss_,?_⟩);refine go_ ?_;refine J19 _ _ pp_ ⟨_,(List.Sublist.refl _),_,_,trivial,?mem,U5 ha hb hg.1 hg.2 hp (by simpa using hr1) hne⟩
    case mem=>rfl
   replace hne:=cB_ hne
   refine go_ ?_;refine J19 _ _ pp_ ⟨_,(List.Sublist.refl _),_,_,trivial,?mem,IK ha hb hg.1 hg.2 hp (.inr (by simpa using hne))⟩
   case mem=>rfl
  refine go9 ?_;refine J19 _ _ pp_ ⟨_,(List.Sublist.refl _),_,_,trivial,?mem,IK ha hb hg.1 hg.2 hp (.inl (by simpa using hr1))⟩
  case mem=>rfl
 rintro g M ⟨z,l,-,rfl,⟨hl16,hlim,hzq,hzr⟩⟩;simp only [eJ];refine go_ ?_;refine gdr (sk (sk (sk (sd (sd (sk (sk (s0)))))))) [0,4,8,12,16,21,25] [5,6] mix (by kernel_rfl) (pQ rfl (bE tyT rfl mm_ (aC _)) ?_);refine pQ rfl (bB fdT dd_ rfl) (pQ rfl (cA tyT rfl mm_ rfl) ?_);refine pQ rfl (bE tyT rfl mm_ (by rw [d8,hl16])) ?_;refine pQ rfl (aZ l9 (cW b.neg l hl16 hlim) rfl) ?_;refine cS rfl rfl (aX tyT rfl rfl uu_ (aC _) rfl (aV _) (.inl (by assumption)) ⟨nf,ss_,?_⟩);refine cS rfl rfl (aX tyT rfl rfl uu_ (eX hl16) rfl (aV _) (.inl (by assumption)) ⟨nf,ss_,?_⟩);refine go2 ?_;refine mD rfl (.inr rfl) ⟨_,_,_,_,_,_,rfl,mm_,tyT,_,(bX (aC _)),(aC _),rfl⟩ ⟨_,_,_,_,_,_,rfl,mm_,tyT,_,(bX (eX hl16)),(eX hl16),rfl⟩ ?_
 (subst hzq;exact congrArg (fun r:R=>Value.tuple #[RV (Z.quo a.dec b.dec).enc,RV r]) hzr)

theorem kV (a b:R) (ha:a.Ok) (hb:b.Ok) :
    Ret Tryz.prog 101 [RV a,RV b] (RV (Z.quo a.dec b.dec).enc):=by
 refine aW (N:=14) Tryz.func101 rfl rfl (by simp) (fun w0=>?_);simp only [bA,Nat.reduceAdd];refine go_ ?_;refine aU rfl (fV rfl rfl (fun b2 hb2=>aU rfl (fV rfl rfl (fun b3 hb3=>aU rfl (cM i2 (fun b4 hb4=>go2 ?_))))));refine sQ (bE tyT rfl mm_ (bG ha)) rfl ?_;refine sQ (bE tyT rfl mm_ (bG hb)) rfl ?_;refine sQ (aZ ZD (z7 a b ha hb) rfl) rfl (go3 ?_);refine aU rfl (cM i2 (fun b5 hb5=>aU rfl (cM i2 (fun b6 hb6=>aU rfl (aX tyT rfl rfl uu_ (aC _) rfl (aV _) (.inl (by assumption)) ?_)))));refine aU rfl (aX tyT rfl rfl uu_ (aC _) rfl (aV _) (.inl (by assumption)) ?_);refine go2 ?_;refine sQ (bE tyT rfl mm_ (aC _)) rfl ?_;refine aU rfl (aX tyT rfl rfl uu_ (aC _) rfl (aV _) (.inl (by assumption)) ?_);refine go2 ?_;refine aS rfl (.inr rfl) ⟨_,_,_,_,_,_,rfl,mm_,tyT,_,(bX (aC _)),(aC _),rfl⟩ ?_;exact rfl

theorem E1 (a b:R) (ha:a.Ok) (hb:b.Ok) :
    Ret Tryz.prog 100 [RV a,RV b] (.int .i64 (Z.cmp a.dec b.dec)):=by
 refine aW (N:=47) Tryz.func100 rfl rfl (by simp) (fun w0=>?_);simp only [bA,Nat.reduceAdd];refine go_ ?_;refine aU rfl (fV rfl rfl (fun b2 hb2=>aU rfl (fV rfl rfl (fun b3 hb3=>go3 ?_))));refine gDk (sk (sk (s0))) (.quiet 0 [1,2,5,6,7] (.quiet 3 [4,5,6,7] (.both 1 (.quiet 2 [5,6,7] (.only 4 (.quiet 5 [6,7] (.quiet 6 [7] (.quiet 7 [] (.fin)))))) 4 (.only 1 (.quiet 2 [5,6,7] (.quiet 5 [6,7] (.quiet 6 [7] (.quiet 7 [] (.fin))))))))) [0,1,2,3,4,5,6,7] mix (by kernel_rfl) (by kernel_rfl) (pQ rfl (bE tyT rfl mm_ (bG ha)) ?_);refine pQ rfl (bE tyT rfl mm_ (bG hb)) ?_;refine EN ?_ ?_
 ·refine cS rfl rfl (fA nX i2 mM rfl dd_ rfl (rY ha) (fun b8 hb8=>⟨(fun _=>by first | exact sd s0 | exact s0),ss_,?_⟩));refine pQ rfl (bR nR rfl (fun w hw=>eB [a] (ok1 ha) b8 33 w (hw.mem ⟨b8,33,_⟩ (by first | exact m0 | exact m1)) (by simp))) ?_;refine cS rfl rfl (fA nX i2 mM rfl dd_ rfl (rY hb) (fun b11 hb11=>⟨(fun _=>by first | exact sd s0 | exact s0),ss_,?_⟩));refine pQ rfl (bR nR rfl (fun w hw=>eB [b] (ok1 hb) b11 33 w (hw.mem ⟨b11,33,_⟩ (by first | exact m0 | exact m1)) (by simp))) ?_;refine go9 ?_
  cases hga:[a].all R.good
  ·refine go5 ?_;refine aK _ rfl (fun hgb=>?_) (fun hgb=>?_)
   ·replace hgb:=cB_ hgb
    refine go4 ?_;refine aS rfl (.inr rfl) rfl ?_;exact congrArg _ (KV (by simpa using hga) (by simpa using hgb))
   replace hgb:=cB_ hgb
   refine iE ?_;refine aS rfl (.inr rfl) rfl ?_;exact congrArg _ (KW (by simpa using hga) hb (by simpa using hgb))
  refine RZ ?_;refine aK _ rfl (fun hgb=>?_) (fun hgb=>?_)
  ·replace hgb:=cB_ hgb
   refine go4 ?_;refine aS rfl (.inr rfl) rfl ?_;exact congrArg _ (KX ha (by simpa using hga) (by simpa using hgb))
  replace hgb:=cB_ hgb
  refine go_ ?_;refine sQ (bB fdT dd_ rfl) rfl (sQ (cA tyT rfl mm_ rfl) rfl ?_);refine sQ (bB fdT dd_ rfl) rfl (sQ (cA tyT rfl mm_ rfl) rfl ?_);refine sQ (qT AB rfl rfl) rfl (go2 ?_);refine aK _ rfl (fun hn=>?_) (fun hn=>?_)
  ·replace hn:=cB_ hn
   refine go2 ?_;refine sQ (bB fdT dd_ rfl) rfl (sQ (cA tyT rfl mm_ rfl) rfl ?_);refine go_ ?_;refine aK _ rfl (fun hs=>?_) (fun hs=>?_)
   ·replace hs:=cB_ hs
    refine go4 ?_;refine aS rfl (.inr rfl) rfl ?_;exact congrArg _ (QR ha hb (by simpa using hga) (by simpa using hgb) hn hs)
   replace hs:=cB_ hs
   refine go5 ?_;refine aS rfl (.inr rfl) rfl ?_;exact congrArg _ (QQ ha hb (by simpa using hga) (by simpa using hgb) hn (by simpa using hs))
  replace hn:=cB_ hn
  refine go_ ?_;refine sQ (bB fdT dd_ rfl) rfl (sQ (cA tyT rfl mm_ rfl) rfl ?_);refine go2 ?_;refine aK _ rfl (fun hs=>?_) (fun hs=>?_)
  ·replace hs:=cB_ hs
   refine go_ ?_;refine sQ (bB fdT dd_ rfl) rfl (sQ (eU (vs:=uw b.w) tyT rfl mm_ (iD hb.len) ((d8 _).trans hb.len)) rfl ?_);refine sQ (bB fdT dd_ rfl) rfl (sQ (eU (vs:=uw a.w) tyT rfl mm_ (iD ha.len) ((d8 _).trans ha.len)) rfl ?_);refine sQ (aZ AG (kG b.w a.w hb.len ha.len hb.lim ha.lim) rfl) rfl (go3 ?_);refine aS rfl (.inr rfl) rfl ?_;exact congrArg _ (QS ha hb (by simpa using hga) (by simpa using hgb) hn hs)
  replace hs:=cB_ hs
  refine go2 ?_;refine sQ (bB fdT dd_ rfl) rfl (sQ (eU (vs:=uw a.w) tyT rfl mm_ (iD ha.len) ((d8 _).trans ha.len)) rfl ?_);refine sQ (bB fdT dd_ rfl) rfl (sQ (eU (vs:=uw b.w) tyT rfl mm_ (iD hb.len) ((d8 _).trans hb.len)) rfl ?_);refine sQ (aZ AG (kG a.w b.w ha.len hb.len ha.lim hb.lim) rfl) rfl (go3 ?_);refine aS rfl (.inr rfl) rfl ?_;exact congrArg _ (QT ha hb (by simpa using hga) (by simpa using hgb) hn (by simpa using hs))
 refine cS rfl rfl (fA nX i2 mM rfl dd_ rfl (rY hb) (fun b11 hb11=>⟨(fun _=>by first | exact sd s0 | exact s0),ss_,?_⟩));refine cS rfl rfl (fA nX i2 mM rfl dd_ rfl (rY ha) (fun b8 hb8=>⟨(fun _=>by first | exact sd s0 | exact s0),ss_,?_⟩));refine pQ rfl (bR nR rfl (fun w hw=>eB [a] (ok1 ha) b8 33 w (hw.mem ⟨b8,33,_⟩ (by first | exact m0 | exact m1)) (by simp))) ?_;refine pQ rfl (bR nR rfl (fun w hw=>eB [b] (ok1 hb) b11 33 w (hw.mem ⟨b11,33,_⟩ (by first | exact m0 | exact m1)) (by simp))) ?_;refine go9 ?_
 cases hga:[a].all R.good
 ·refine go5 ?_;refine aK _ rfl (fun hgb=>?_) (fun hgb=>?_)
  ·replace hgb:=cB_ hgb
   refine go4 ?_;refine aS rfl (.inr rfl) rfl ?_;exact congrArg _ (KV (by simpa using hga) (by simpa using hgb))
  replace hgb:=cB_ hgb
  refine iE ?_;refine aS rfl (.inr rfl) rfl ?_;exact congrArg _ (KW (by simpa using hga) hb (by simpa using hgb))
 refine RZ ?_;refine aK _ rfl (fun hgb=>?_) (fun hgb=>?_)
 ·replace hgb:=cB_ hgb
  refine go4 ?_;refine aS rfl (.inr rfl) rfl ?_;exact congrArg _ (KX ha (by simpa using hga) (by simpa using hgb))
 replace hgb:=cB_ hgb
 refine go_ ?_;refine sQ (bB fdT dd_ rfl) rfl (sQ (cA tyT rfl mm_ rfl) rfl ?_);refine sQ (bB fdT dd_ rfl) rfl (sQ (cA tyT rfl mm_ rfl) rfl ?_);refine sQ (qT AB rfl rfl) rfl (go2 ?_);refine aK _ rfl (fun hn=>?_) (fun hn=>?_)
 ·replace hn:=cB_ hn
  refine go2 ?_;refine sQ (bB fdT dd_ rfl) rfl (sQ (cA tyT rfl mm_ rfl) rfl ?_);refine go_ ?_;refine aK _ rfl (fun hs=>?_) (fun hs=>?_)
  ·replace hs:=cB_ hs
   refine go4 ?_;refine aS rfl (.inr rfl) rfl ?_;exact congrArg _ (QR ha hb (by simpa using hga) (by simpa using hgb) hn hs)
  replace hs:=cB_ hs
  refine go5 ?_;refine aS rfl (.inr rfl) rfl ?_;exact congrArg _ (QQ ha hb (by simpa using hga) (by simpa using hgb) hn (by simpa using hs))
 replace hn:=cB_ hn
 refine go_ ?_;refine sQ (bB fdT dd_ rfl) rfl (sQ (cA tyT rfl mm_ rfl) rfl ?_);refine go2 ?_;refine aK _ rfl (fun hs=>?_) (fun hs=>?_)
 ·replace hs:=cB_ hs
  refine go_ ?_;refine sQ (bB fdT dd_ rfl) rfl (sQ (eU (vs:=uw b.w) tyT rfl mm_ (iD hb.len) ((d8 _).trans hb.len)) rfl ?_);refine sQ (bB fdT dd_ rfl) rfl (sQ (eU (vs:=uw a.w) tyT rfl mm_ (iD ha.len) ((d8 _).trans ha.len)) rfl ?_);refine sQ (aZ AG (kG b.w a.w hb.len ha.len hb.lim ha.lim) rfl) rfl (go3 ?_);refine aS rfl (.inr rfl) rfl ?_;exact congrArg _ (QS ha hb (by simpa using hga) (by simpa using hgb) hn hs)
 replace hs:=cB_ hs
 refine go2 ?_;refine sQ (bB fdT dd_ rfl) rfl (sQ (eU (vs:=uw a.w) tyT rfl mm_ (iD ha.len) ((d8 _).trans ha.len)) rfl ?_);refine sQ (bB fdT dd_ rfl) rfl (sQ (eU (vs:=uw b.w) tyT rfl mm_ (iD hb.len) ((d8 _).trans hb.len)) rfl ?_);refine sQ (aZ AG (kG a.w b.w ha.len hb.len ha.lim hb.lim) rfl) rfl (go3 ?_);refine aS rfl (.inr rfl) rfl ?_;exact congrArg _ (QT ha hb (by simpa using hga) (by simpa using hgb) hn (by simpa using hs))
theorem EF (n:Nat) (IH:∀ (a b:R),a.Ok→b.Ok→val b.w<n→Ret Tryz.prog 121 [RV a,RV b] (RV (Z.gcd a.dec b.dec).enc)) (a b:R) (ha:a.Ok) (hb:b.Ok) (hn:val b.w=n) :
    Ret Tryz.prog 121 [RV a,RV b] (RV (Z.gcd a.dec b.dec).enc):=by
 refine aW (N:=80) Tryz.func121 rfl rfl (by simp) (fun w0=>?_);simp only [bA,Nat.reduceAdd];refine go_ ?_;refine aU rfl (fV rfl rfl (fun b2 hb2=>aU rfl (fV rfl rfl (fun b3 hb3=>aU rfl (cM i2 (fun b4 hb4=>go3 ?_))))));refine sQ (bE tyT rfl mm_ (bG ha)) rfl ?_;refine sQ (bE tyT rfl mm_ (bG hb)) rfl ?_;refine aU rfl (fA nX i2 mM rfl dd_ rfl (G0 ha hb) (fun b13 hb13=>sQ (bR nR rfl (fun w hw=>eB [a,b] (ok2 ha hb) b13 33 w (hw.mem _ m0) (by simp))) rfl ?_));refine go2 ?_;refine aK _ rfl (fun hg=>?_) (fun hg=>?_)
 ·replace hg:=cB_ hg
  refine go_ ?_;refine sQ (aZ lQ dR rfl) rfl (aU rfl (aX tyT rfl rfl uu_ (aC _) rfl (aV _) (.inl (by assumption)) ?_));refine go2 ?_;refine aS rfl (.inr rfl) ⟨_,_,_,_,_,_,rfl,mm_,tyT,_,(bX (aC _)),(aC _),rfl⟩ ?_;exact congrArg RV (VA hg)
 replace hg:=cB_ hg
 have hg:=all2.1 hg;refine go_ ?_;refine tC [5,6,17,18,19,20,21,22,23,24,25,26,27,28,29,30,31,32,33,34,35,36,37,38,39,40,41,42,43,44,45,46,47,48,49,50,51,52,53,54,55,56,57,58,59] (fun g M=>(True)∧M=[⟨b4,33,zR⟩,⟨b3,33,b.cells⟩,⟨b2,33,a.cells⟩]∧(True)) (fun K5 J5=>?_) ?_
 ·refine go_ ?_;refine sQ (bB fdT dd_ rfl) rfl (sQ (eU (vs:=uw a.w) tyT rfl mm_ (iD ha.len) ((d8 _).trans ha.len)) rfl ?_);refine sQ (aZ yR (j7 a.w ha.len) rfl) rfl (go2 ?_)
  cases hsz:decide ((szL a.w:Int)≤2)
  ·refine go8 ?_;refine J5 _ _ pp_ ⟨_,(List.Sublist.cons _ (List.Sublist.refl _)),trivial,?mem,trivial⟩
   case mem=>rfl
  refine sQ (bB fdT dd_ rfl) rfl (sQ (eU (vs:=uw b.w) tyT rfl mm_ (iD hb.len) ((d8 _).trans hb.len)) rfl ?_);refine sQ (aZ yR (j7 b.w hb.len) rfl) rfl (go3 ?_);refine aK _ rfl (fun hsz2=>?_) (fun hsz2=>?_)
  ·replace hsz2:=cB_ hsz2
   have hA64:=sz2 ha (by have:=of_decide_eq_true hsz;omega);have hB64:=sz2 hb oo_;refine go_ ?_;refine gdr (sk (sk (sk (sk (s0))))) [0,4,8,12,16,20,24,28,32,36,40,44,48,52,56,60,64,68,72,76,80,84] [] mix (by kernel_rfl) (pQ rfl (bB fdT dd_ rfl) (pQ rfl (cU arT rfl rfl dd_ dd_) (pQ rfl (cA tyT rfl mm_ (j8 (r:=a) (k:=1) (by rw [ha.len];omega))) ?_)));refine pQ rfl (aI (cP d9 dJ rfl) (sG (cF ha.lim _))) (pQ rfl (aI (zT rfl rfl dd_) (congrArg (Value.int .u64) (sY (cF ha.lim _)))) (pQ rfl (bB fdT dd_ rfl) (pQ rfl (cU arT rfl rfl dd_ dd_) (pQ rfl (cA tyT rfl mm_ (j8 (r:=a) (k:=0) (by rw [ha.len];omega))) ?_))));refine pQ rfl (aI (cP d9 dJ rfl) (sG (cF ha.lim _))) (pQ rfl (aI (HG rfl rfl) (congrArg (Value.int .u64) ((JD (cF ha.lim _) (cF ha.lim _)).trans (congrArg (fun m:Nat=>(m:Int)) (y5 ha hA64))))) (pQ rfl (bB fdT dd_ rfl) (pQ rfl (cU arT rfl rfl dd_ dd_) (pQ rfl (cA tyT rfl mm_ (j8 (r:=b) (k:=1) (by rw [hb.len];omega))) ?_))));refine pQ rfl (aI (cP d9 dJ rfl) (sG (cF hb.lim _))) (pQ rfl (aI (zT rfl rfl dd_) (congrArg (Value.int .u64) (sY (cF hb.lim _)))) (pQ rfl (bB fdT dd_ rfl) (pQ rfl (cU arT rfl rfl dd_ dd_) (pQ rfl (cA tyT rfl mm_ (j8 (r:=b) (k:=0) (by rw [hb.len];omega))) ?_))));refine pQ rfl (aI (cP d9 dJ rfl) (sG (cF hb.lim _))) (pQ rfl (aI (HG rfl rfl) (congrArg (Value.int .u64) ((JD (cF hb.lim _) (cF hb.lim _)).trans (congrArg (fun m:Nat=>(m:Int)) (y5 hb hB64))))) (go5 ?_));refine cC [5,6,47,48,49,50,51,52] (fun g nn M=>∃ (x y:Nat),(g 5 = .int .u64 (x:Int)∧g 6 = .int .u64 (y:Int))∧M=[⟨b4,33,zR⟩,⟨b3,33,b.cells⟩,⟨b2,33,a.cells⟩]∧nn=y∧(x<18446744073709551616∧y<18446744073709551616∧Nat.gcd x y=Nat.gcd (val a.w) (val b.w))) (val b.w) ?start ?round
   case start =>
    refine ⟨_,(List.Sublist.cons _ (List.Sublist.refl _)),_,_,⟨?a5,?a6⟩,?mem0,rfl,⟨hA64,hB64,rfl⟩⟩
    case mem0=>rfl
    case a5=>rfl
    case a6=>rfl
   case round =>
    rintro nn g M ⟨x,y,⟨hg5,hg6⟩,rfl,hmeas,⟨hx64,hy64,hgc⟩⟩;subst nn;simp only [eJ,hg5,hg6];clear hg5 hg6;refine go5 ?_;refine aK _ rfl (fun hy0=>?_) (fun hy0=>?_)
    ·replace hy0:=cB_ hy0
     refine go2 ?_;refine gdr (sk (sk (sk (s0)))) [0,4,8,12,16,20] [] mix (by kernel_rfl) (go3 ?_);refine pQ rfl (aI (nD rfl rfl oo_) (congrArg (Value.int .u64) (xR _ _))) (go3 ?_);refine ⟨pp_,_,_,(List.Sublist.refl _),(Nat.mod_lt _ oo_),y,x % y,⟨?s5,?s6⟩,?mem,rfl,⟨hy64,Nat.lt_of_le_of_lt (Nat.mod_le _ _) hx64,by rw [Nat.gcd_comm,← Nat.gcd_rec,Nat.gcd_comm];exact hgc⟩⟩
     case mem=>rfl
     case s5=>rfl
     case s6=>rfl
    replace hy0:=cB_ hy0
    refine go3 ?_;refine sQ (cP dJ d9 rfl) rfl (go_ ?_);refine sQ (aI (qO rfl rfl dd_) (congrArg (Value.int .u64) (nJ _ 32))) rfl (sQ (cP dJ d9 rfl) rfl (sQ (lB lH arT rfl (Z9 hx64)) rfl (sQ (aZ l9 (cW false _ (by simp) (R9 (Nat.mod_lt _ dd_) oo_ 14)) rfl) rfl ?_)));refine aU rfl (aX tyT rfl rfl uu_ (eX (by simp)) rfl (aV _) (.inl (by assumption)) ?_);refine go2 ?_;refine aS rfl (.inr rfl) ⟨_,_,_,_,_,_,rfl,mm_,tyT,_,(bX (eX (by simp))),(eX (by simp)),rfl⟩ ?_;exact VB ha hb hg.1 hg.2 hx64 (VC hx64 hgc oo_)
  replace hsz2:=cB_ hsz2
  refine go_ ?_;refine J5 _ _ pp_ ⟨_,(List.Sublist.cons _ (List.Sublist.refl _)),trivial,?mem,trivial⟩
  case mem=>rfl
 rintro g M ⟨-,rfl,-⟩;simp only [eJ];refine go2 ?_;refine gDk (sk (sk (sk (s0)))) (.quiet 0 [1,6,7] (.quiet 1 [6,7] (.still 2 [3,7] (.still 3 [7] (.both 4 (.only 5 (.only 6 (.only 7 (.fin)))) 5 (.only 4 (.only 6 (.only 7 (.fin))))))))) [0,1,2,3,4,5] mix (by kernel_rfl) (by kernel_rfl) (pQ rfl (bB fdT dd_ rfl) (pQ rfl (eU (vs:=uw a.w) tyT rfl mm_ (iD ha.len) ((d8 _).trans ha.len)) ?_));refine qZ rfl rfl (bB fdT dd_ rfl) (qZ rfl rfl (eU (vs:=uw b.w) tyT rfl mm_ (iD hb.len) ((d8 _).trans hb.len)) ?_);refine EN ?_ ?_
 ·refine cS rfl rfl (cM lH (fun b7 hb7=>⟨(fun _=>by first | exact sd s0 | exact s0),ss_,?_⟩));refine cS rfl rfl (cM lH (fun b8 hb8=>⟨(fun _=>by first | exact sd s0 | exact s0),ss_,?_⟩));refine cS rfl rfl (aX tyT rfl rfl uu_ (by simp [uw,ha.len]) (by simp [uw]) (eK _) (.inl (by assumption)) ⟨nf,ss_,?_⟩);refine cS rfl rfl (aX tyT rfl rfl uu_ (by simp [uw,hb.len]) (by simp [uw]) (eK _) (.inl (by assumption)) ⟨nf,ss_,?_⟩);refine go2 ?_;refine sQ (bE tyT rfl mm_ (by simp [uw,hb.len])) rfl ?_;refine sQ (lB lH arT rfl (.nil _)) rfl ?_;refine sQ (AP (r:=(val b.w==0)) rfl rfl (cL 8 dd_ CR C9 (j6 hb.len) (j6 (by simp)) (xY hb.len hb.lim))) rfl ?_;refine go_ ?_;refine aK _ rfl (fun hb0=>?_) (fun hb0=>?_)
  ·replace hb0:=cB_ hb0
   have hp:0<val b.w:=Nat.pos_of_ne_zero (by simpa using hb0);refine go_ ?_;refine sQ (bE tyT rfl mm_ (by simp [uw,ha.len])) rfl ?_;refine sQ (bE tyT rfl mm_ (by simp [uw,hb.len])) rfl ?_;refine sQ (aZ LJ (n9 a.w b.w ha.len hb.len ha.lim hb.lim hp) rfl) rfl (go3 ?_);refine aU rfl (cM lH (fun b9 hb9=>aU rfl (cM lH (fun b10 hb10=>aU rfl (aX tyT rfl rfl uu_ (by simp [uw,bN]) (by simp [uw]) (eK _) (.inl (by assumption)) ?_)))));refine aU rfl (aX tyT rfl rfl uu_ (by simp [uw,bN]) (by simp [uw]) (eK _) (.inl (by assumption)) ?_);refine go2 ?_;refine gdr (sk (sk (sk (sk (sd (sk (sk (s0)))))))) [0,4,8,12,16,21] [5] mix (by kernel_rfl) (pQ rfl (bE tyT rfl mm_ (by simp [uw,hb.len])) ?_);refine pQ rfl (aI (aZ l9 (cW false b.w hb.len hb.lim) rfl) (A1 hb.len hb.lim false)) (pQ rfl (bE tyT rfl mm_ (by simp [uw,bN])) ?_);refine pQ rfl (aI (aZ l9 (cW false _ (bN _ _) (iO _ _)) rfl) (congrArg RV (j1 false (oV ha)))) (pQ rfl (aZ CS (IH (Z.of (sgn false (val b.w))).enc (Z.of (sgn false (val a.w % val b.w))).enc (Z.enc_ok _) (Z.enc_ok _) (by rw [NE (oV ha),← hn];exact Nat.mod_lt _ hp)) rfl) ?_);refine cS rfl rfl (aX tyT rfl rfl uu_ (aC _) rfl (aV _) (.inl (by assumption)) ⟨nf,ss_,?_⟩);refine go2 ?_;refine aS rfl (.inr rfl) ⟨_,_,_,_,_,_,rfl,mm_,tyT,_,(bX (aC _)),(aC _),rfl⟩ ?_;exact IQ ha hb hg.1 hg.2
  replace hb0:=cB_ hb0
  refine go2 ?_;refine sQ (bE tyT rfl mm_ (bG ha)) rfl ?_;refine sQ (aZ RG (yG a ha) rfl) rfl (aU rfl (aX tyT rfl rfl uu_ (aC _) rfl (aV _) (.inl (by assumption)) ?_));refine go2 ?_;refine aS rfl (.inr rfl) ⟨_,_,_,_,_,_,rfl,mm_,tyT,_,(bX (aC _)),(aC _),rfl⟩ ?_;exact IR ha hb hg.1 hg.2 (by simpa using hb0)
 refine cS rfl rfl (cM lH (fun b8 hb8=>⟨(fun _=>by first | exact sd s0 | exact s0),ss_,?_⟩));refine cS rfl rfl (cM lH (fun b7 hb7=>⟨(fun _=>by first | exact sd s0 | exact s0),ss_,?_⟩));refine cS rfl rfl (aX tyT rfl rfl uu_ (by simp [uw,ha.len]) (by simp [uw]) (eK _) (.inl (by assumption)) ⟨nf,ss_,?_⟩);refine cS rfl rfl (aX tyT rfl rfl uu_ (by simp [uw,hb.len]) (by simp [uw]) (eK _) (.inl (by assumption)) ⟨nf,ss_,?_⟩);refine go2 ?_;refine sQ (bE tyT rfl mm_ (by simp [uw,hb.len])) rfl ?_;refine sQ (lB lH arT rfl (.nil _)) rfl ?_;refine sQ (AP (r:=(val b.w==0)) rfl rfl (cL 8 dd_ CR C9 (j6 hb.len) (j6 (by simp)) (xY hb.len hb.lim))) rfl ?_;refine go_ ?_;refine aK _ rfl (fun hb0=>?_) (fun hb0=>?_)
 ·replace hb0:=cB_ hb0
  have hp:0<val b.w:=Nat.pos_of_ne_zero (by simpa using hb0);refine go_ ?_;refine sQ (bE tyT rfl mm_ (by simp [uw,ha.len])) rfl ?_;refine sQ (bE tyT rfl mm_ (by simp [uw,hb.len])) rfl ?_;refine sQ (aZ LJ (n9 a.w b.w ha.len hb.len ha.lim hb.lim hp) rfl) rfl (go3 ?_);refine aU rfl (cM lH (fun b9 hb9=>aU rfl (cM lH (fun b10 hb10=>aU rfl (aX tyT rfl rfl uu_ (by simp [uw,bN]) (by simp [uw]) (eK _) (.inl (by assumption)) ?_)))));refine aU rfl (aX tyT rfl rfl uu_ (by simp [uw,bN]) (by simp [uw]) (eK _) (.inl (by assumption)) ?_);refine go2 ?_;refine gdr (sk (sk (sk (sk (sd (sk (sk (s0)))))))) [0,4,8,12,16,21] [5] mix (by kernel_rfl) (pQ rfl (bE tyT rfl mm_ (by simp [uw,hb.len])) ?_);refine pQ rfl (aI (aZ l9 (cW false b.w hb.len hb.lim) rfl) (A1 hb.len hb.lim false)) (pQ rfl (bE tyT rfl mm_ (by simp [uw,bN])) ?_);refine pQ rfl (aI (aZ l9 (cW false _ (bN _ _) (iO _ _)) rfl) (congrArg RV (j1 false (oV ha)))) (pQ rfl (aZ CS (IH (Z.of (sgn false (val b.w))).enc (Z.of (sgn false (val a.w % val b.w))).enc (Z.enc_ok _) (Z.enc_ok _) (by rw [NE (oV ha),← hn];exact Nat.mod_lt _ hp)) rfl) ?_);refine cS rfl rfl (aX tyT rfl rfl uu_ (aC _) rfl (aV _) (.inl (by assumption)) ⟨nf,ss_,?_⟩);refine go2 ?_;refine aS rfl (.inr rfl) ⟨_,_,_,_,_,_,rfl,mm_,tyT,_,(bX (aC _)),(aC _),rfl⟩ ?_;exact IQ ha hb hg.1 hg.2
 replace hb0:=cB_ hb0
 refine go2 ?_;refine sQ (bE tyT rfl mm_ (bG ha)) rfl ?_;refine sQ (aZ RG (yG a ha) rfl) rfl (aU rfl (aX tyT rfl rfl uu_ (aC _) rfl (aV _) (.inl (by assumption)) ?_));refine go2 ?_;refine aS rfl (.inr rfl) ⟨_,_,_,_,_,_,rfl,mm_,tyT,_,(bX (aC _)),(aC _),rfl⟩ ?_;exact IR ha hb hg.1 hg.2 (by simpa using hb0)
theorem tP (a b:R) (ha:a.Ok) (hb:b.Ok):Ret Tryz.prog 121 [RV a,RV b] (RV (Z.gcd a.dec b.dec).enc):=by
  generalize hn:val b.w=n
  induction n using Nat.strongRecOn generalizing a b with
  | ind n ih=>exact EF n (fun a b ha hb h=>ih _ h a b ha hb rfl) a b ha hb hn
end Go.Proofs.YtbjlhfochebmiaaGreatDoor

