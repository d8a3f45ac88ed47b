/- Lemmas: what they ask stands in their statements. -/
import Derived.Test.YtokjfhfiodopdaaGreatUWd
set_option linter.unusedSimpArgs false
set_option linter.unusedVariables false
set_option maxHeartbeats 8000000
set_option maxRecDepth 20000
namespace Go.Proofs.YtokjfhfiodopdaaGreat
open Go.Kn Go.Num Tryz
attribute [local irreducible] Go.Kn.W WL PL OpQ OpR OpS
theorem JG (a:R) (ha:a.Ok) :
    Ret prog 196 [RV a] (.int .i64 ((a.dec.bits:Nat):Int)):=by
 refine cL (N:=25) func196 rfl rfl (by simp) (fun w0=>?_);simp only [bS,Nat.reduceAdd];refine go_ ?_;refine bJ rfl (kC rfl rfl (fun b1 hb1=>go3 ?_));refine sQ (dA fdT dd_ rfl) rfl (sQ (iZ (vs:=uw a.w) tyT rfl mm_ (lI ha.len) ((iE _).trans ha.len)) rfl ?_);refine sQ (bZ aJ (nP a.w ha.len) rfl) rfl (go4 ?_);refine sQ (dF tyT rfl mm_ (dQ ha)) rfl ?_;refine bJ rfl (jS lT lH nN rfl dd_ rfl (yU ha) (fun b8 hb8=>sQ (bN aJ rfl (fun w hw=>jC [a] (ok1 ha) b8 27 w (hw.mem _ m0) (by simp))) rfl ?_));refine go2 ?_
 cases hg:[a].all R.good
 ·refine go9 ?_;refine bP rfl (.inr rfl) rfl ?_;exact congrArg (fun n:Nat=>Value.int .i64 (n:Int)) (X6 (by simpa using hg))
 refine go4 ?_;refine aT _ rfl (fun hz=>?_) (fun hz=>?_)
 ·replace hz:=cB_ hz
  refine go4 ?_;refine bP rfl (.inr rfl) rfl ?_;exact congrArg (fun n:Nat=>Value.int .i64 (n:Int)) (VW ha (by simpa using hg) oo_)
 replace hz:=cB_ hz
 refine go2 ?_
 have hs1:1≤szL a.w:=by omega
 have hs16:szL a.w≤16:=by have:=vD a.w;rw [ha.len] at this;exact this
 refine go_ ?_;refine sQ (aV (oD rfl rfl) (congrArg (Value.int .i64) (tW (b:=1) rfl oo_ oo_))) rfl (sQ (aV (UW rfl rfl) (congrArg (Value.int .i64) (fH_ rfl oo_))) rfl (go_ ?_));refine sQ (aV (oD rfl rfl) (congrArg (Value.int .i64) (tW (b:=1) rfl oo_ oo_))) rfl (sQ (dA fdT dd_ rfl) rfl (sQ (fI arT rfl rfl oo_ oo_) rfl (sQ (d8 tyT rfl mm_ (nQ (r:=a) (k:=szL a.w - 1) (by rw [ha.len];omega))) rfl ?_)));refine sQ (bZ aJ (LF _ (eG ha.lim _)) rfl) rfl (sQ (aV (jE rfl rfl) (congrArg (Value.int .i64) (n9 (by have:=vZ (k:=32) (eG ha.lim (szL a.w - 1));omega)))) rfl (go3 ?_));refine bP rfl (.inr rfl) rfl ?_;exact congrArg (fun n:Nat=>Value.int .i64 (n:Int)) (X8 ha (by simpa using hg) hs1)
theorem zQ (a:R) (ha:a.Ok) :
    Ret prog 186 [RV a] (.tuple #[.int .i64 a.dec.small.1,.bool a.dec.small.2]):=by
 refine cL (N:=44) func186 rfl rfl (by simp) (fun w0=>?_);simp only [bS,Nat.reduceAdd];refine go_ ?_;refine bJ rfl (kC rfl rfl (fun b1 hb1=>go5 ?_));refine sQ (dF tyT rfl mm_ (dQ ha)) rfl ?_;refine bJ rfl (jS lT lH nN rfl dd_ rfl (yU ha) (fun b6 hb6=>sQ (bN aJ rfl (fun w hw=>jC [a] (ok1 ha) b6 27 w (hw.mem _ m0) (by simp))) rfl ?_));refine go2 ?_
 cases hg:[a].all R.good
 ·refine vK ?_;refine i7 rfl (.inr rfl) rfl rfl ?_;exact W4 (by simpa using hg)
 refine sQ (dF tyT rfl mm_ (dQ ha)) rfl ?_;refine sQ (bZ aJ (JG a ha) rfl) rfl (go3 ?_);refine aT _ rfl (fun hb=>?_) (fun hb=>?_)
 ·replace hb:=cB_ hb
  refine go5 ?_;refine i7 rfl (.inr rfl) rfl rfl ?_;exact SY ha (by simpa using hg) hb
 replace hb:=cB_ hb
 have h64:=dM_ ha (by simpa using hg) hb;refine go2 ?_;refine sQ (dA fdT dd_ rfl) rfl (sQ (fI arT rfl rfl dd_ dd_) rfl (sQ (d8 tyT rfl mm_ (nQ (r:=a) (k:=1) (by rw [ha.len];omega))) rfl ?_));refine sQ (aV (eX iF fY rfl) (wO (eG ha.lim _))) rfl (sQ (aV (DU rfl rfl dd_) (congrArg (Value.int .u64) (xC (eG ha.lim _)))) rfl (sQ (dA fdT dd_ rfl) rfl (sQ (fI arT rfl rfl dd_ dd_) rfl (sQ (d8 tyT rfl mm_ (nQ (r:=a) (k:=0) (by rw [ha.len];omega))) rfl ?_))));refine sQ (aV (eX iF fY rfl) (wO (eG ha.lim _))) rfl (sQ (aV (N0 rfl rfl) (congrArg (Value.int .u64) ((P8 (eG ha.lim _) (eG ha.lim _)).trans (congrArg (fun m:Nat=>(m:Int)) (CS ha h64))))) rfl (go5 ?_));refine sQ (dA fdT dd_ rfl) rfl (sQ (d8 tyT rfl mm_ rfl) rfl ?_);refine go_ ?_
 cases hn:a.neg
 ·refine go7 ?_;refine sQ (dA fdT dd_ rfl) rfl (sQ (d8 tyT rfl mm_ rfl) rfl ?_);refine go_ ?_;rw [hn];refine go6 ?_;refine aT _ rfl (fun hlt=>?_) (fun hlt=>?_)
  ·replace hlt:=cB_ hlt
   refine go2 ?_;refine sQ (aV (eX fY ET rfl) (congrArg (Value.int .i64) (W6 oo_))) rfl (go4 ?_);refine i7 rfl (.inr rfl) rfl rfl ?_;exact Q4 ha (by simpa using hg) (by rw [hn];rfl) (by rw [hn,sH];omega)
  replace hlt:=cB_ hlt
  refine go6 ?_;refine i7 rfl (.inr rfl) rfl rfl ?_;exact FH ha (by simpa using hg) (by rw [hn,sH];omega)
 refine go5 ?_;refine aT _ rfl (fun hle=>?_) (fun hle=>?_)
 ·replace hle:=cB_ hle
  refine go3 ?_;refine sQ (aV (eX fY ET rfl) (congrArg (Value.int .i64) (W5 oo_))) rfl (go4 ?_);refine i7 rfl (.inr rfl) rfl rfl ?_;exact Q4 ha (by simpa using hg) (by rw [hn];rfl) (by rw [hn,tP];omega)
 replace hle:=cB_ hle
 refine go_ ?_;refine sQ (dA fdT dd_ rfl) rfl (sQ (d8 tyT rfl mm_ rfl) rfl ?_);refine go_ ?_;rw [hn];refine F7 ?_;refine i7 rfl (.inr rfl) rfl rfl ?_;exact FH ha (by simpa using hg) (by rw [hn,tP];omega)
theorem xE (a b:R) (ha:a.Ok) (hb:b.Ok) :
    Ret prog 172 [RV a,RV b] (.tuple #[RV (Z.quo a.dec b.dec).enc,RV (Z.rem a.dec b.dec).enc]):=by
 refine cL (N:=108) func172 rfl rfl (by simp) (fun w0=>?_);simp only [bS,Nat.reduceAdd];refine go_ ?_;refine bJ rfl (kC rfl rfl (fun b2 hb2=>bJ rfl (kC rfl rfl (fun b3 hb3=>bJ rfl (fB lH (fun b4 hb4=>bJ rfl (fB lH (fun b5 hb5=>go3 ?_))))))));refine sQ (dF tyT rfl mm_ (dQ ha)) rfl ?_;refine sQ (dF tyT rfl mm_ (dQ hb)) rfl ?_;refine bJ rfl (jS lT lH nN rfl dd_ rfl (NA ha hb) (fun b17 hb17=>sQ (bN aJ rfl (fun w hw=>jC [a,b] (ok2 ha hb) b17 27 w (hw.mem _ m0) (by simp))) rfl ?_));refine go2 ?_
 cases hg:[a,b].all R.good
 ·refine go7 ?_;refine sQ (bZ aJ jF rfl) rfl (sQ (bZ aJ jF rfl) rfl (bJ rfl (cG tyT rfl rfl uu_ (aS _) rfl (bW _) (.inl (by assumption)) ?_)));refine bJ rfl (cG tyT rfl rfl uu_ (aS _) rfl (bW _) (.inl (by assumption)) ?_);refine go2 ?_;refine i7 rfl (.inr rfl) ⟨_,_,_,_,_,_,rfl,mm_,tyT,_,(eH (aS _)),(aS _),rfl⟩ ⟨_,_,_,_,_,_,rfl,mm_,tyT,_,(eH (aS _)),(aS _),rfl⟩ ?_;exact ce_ (DP hg)
 have hg:=all2.1 hg;refine sQ (dF tyT rfl mm_ (dQ hb)) rfl ?_;refine sQ (bZ aJ (iJ b hb) rfl) rfl (go3 ?_);refine aT _ rfl (fun hs0=>?_) (fun hs0=>?_)
 ·replace hs0:=cB_ hs0
  refine go_ ?_;refine sQ (bZ aJ jF rfl) rfl (sQ (bZ aJ jF rfl) rfl (bJ rfl (cG tyT rfl rfl uu_ (aS _) rfl (bW _) (.inl (by assumption)) ?_)));refine bJ rfl (cG tyT rfl rfl uu_ (aS _) rfl (bW _) (.inl (by assumption)) ?_);refine go2 ?_;refine i7 rfl (.inr rfl) ⟨_,_,_,_,_,_,rfl,mm_,tyT,_,(eH (aS _)),(aS _),rfl⟩ ⟨_,_,_,_,_,_,rfl,mm_,tyT,_,(eH (aS _)),(aS _),rfl⟩ ?_;exact ay_ ha hb hg.1 hg.2 hs0
 replace hs0:=cB_ hs0
 have hs0:b.dec.sign≠0:=hs0;have hp:=GC hb hg.2 hs0;refine go_ ?_;refine rV [6,7,8,9,10,11,27,28,29,30,31,32,33,34,35,36,37,38,39,40,41,42,43,44,45,46,47,48,49,50,51,52,53,54,55,56,57,58,59,60,61,62,63,64,65,66,67,68,69,70] (fun g M=>(True)∧M=[⟨b5,27,zR⟩,⟨b4,27,zR⟩,⟨b3,27,b.cells⟩,⟨b2,27,a.cells⟩]∧(True)) (fun K6 J6=>?_) ?_
 ·refine go_ ?_;refine sQ (dF tyT rfl mm_ (dQ ha)) rfl ?_;refine sQ (bZ aJ (zQ a ha) rfl) rfl (go9 ?_)
  cases hsa:a.dec.small.2
  ·refine go6 ?_;refine J6 _ _ pp_ ⟨_,(List.Sublist.cons _ (List.Sublist.refl _)),trivial,?mem,trivial⟩
   case mem=>rfl
  refine go4 ?_;refine aT _ rfl (fun hma=>?_) (fun hma=>?_)
  ·replace hma:=cB_ hma
   have ea:=IZ hsa;refine go_ ?_;refine sQ (dF tyT rfl mm_ (dQ hb)) rfl ?_;refine sQ (bZ aJ (zQ b hb) rfl) rfl (go9 ?_)
   cases hsb:b.dec.small.2
   ·refine go6 ?_;refine J6 _ _ pp_ ⟨_,(List.Sublist.cons _ (List.Sublist.refl _)),trivial,?mem,trivial⟩
    case mem=>rfl
   refine go4 ?_;refine aT _ rfl (fun hmb=>?_) (fun hmb=>?_)
   ·replace hmb:=cB_ hmb
    have eb:=IZ hsb;have hy0:=OB eb.1 hs0;have hq64:I64 (a.dec.small.1.tdiv b.dec.small.1):=SR ea.2 hma;have hr64:=eI_ (x:=a.dec.small.1) hy0 eb.2;refine go_ ?_;refine rE (sk (sk (sk (sk (sk (s0)))))) 8 [] [] (go2 ?_);refine pQ rfl (aV (tL rfl rfl hy0) (congrArg (Value.int .i64) (cJ (SR ea.2 hma)))) (go2 ?_);refine pQ rfl (t7 rfl rfl hy0) (go8 ?_)
    cases hr0:(a.dec.small.1.tmod b.dec.small.1 != 0)
    ·refine vK ?_;refine sQ (bZ aJ (hZ _ (by first | exact hI1 | exact hq64)) rfl) rfl ?_;refine go_ ?_;refine sQ (bZ aJ (hZ _ (by first | exact hI2 | exact hr64)) rfl) rfl ?_;refine bJ rfl (cG tyT rfl rfl uu_ (aS _) rfl (bW _) (.inl (by assumption)) ?_);refine bJ rfl (cG tyT rfl rfl uu_ (aS _) rfl (bW _) (.inl (by assumption)) ?_);refine go2 ?_;refine i7 rfl (.inr rfl) ⟨_,_,_,_,_,_,rfl,mm_,tyT,_,(eH (aS _)),(aS _),rfl⟩ ⟨_,_,_,_,_,_,rfl,mm_,tyT,_,(eH (aS _)),(aS _),rfl⟩ ?_;exact FG ea.1 eb.1 hs0 (DF hy0 (.inl (by simpa using hr0)))
    refine go4 ?_;refine sQ (uM CD rfl rfl) rfl (go2 ?_);refine aT _ rfl (fun hsg=>?_) (fun hsg=>?_)
    ·replace hsg:=cB_ hsg
     have hI1:I64 (a.dec.small.1.tdiv b.dec.small.1 - 1):=av_ ea.2 hma;have hI2:=eJ_ hy0 eb.2 (bne_iff_ne.2 hsg);refine go2 ?_;refine sQ (aV (oD rfl rfl) (congrArg (Value.int .i64) (cJ hI1))) rfl (go2 ?_);refine sQ (aV (jE rfl rfl) (congrArg (Value.int .i64) (cJ hI2))) rfl (go5 ?_);refine sQ (bZ aJ (hZ _ (by first | exact hI1 | exact hq64)) rfl) rfl ?_;refine go_ ?_;refine sQ (bZ aJ (hZ _ (by first | exact hI2 | exact hr64)) rfl) rfl ?_;refine bJ rfl (cG tyT rfl rfl uu_ (aS _) rfl (bW _) (.inl (by assumption)) ?_);refine bJ rfl (cG tyT rfl rfl uu_ (aS _) rfl (bW _) (.inl (by assumption)) ?_);refine go2 ?_;refine i7 rfl (.inr rfl) ⟨_,_,_,_,_,_,rfl,mm_,tyT,_,(eH (aS _)),(aS _),rfl⟩ ⟨_,_,_,_,_,_,rfl,mm_,tyT,_,(eH (aS _)),(aS _),rfl⟩ ?_;exact FG ea.1 eb.1 hs0 (R4 hy0 (by simpa using hr0) (bne_iff_ne.2 hsg))
    replace hsg:=cB_ hsg
    refine go3 ?_;refine sQ (bZ aJ (hZ _ (by first | exact hI1 | exact hq64)) rfl) rfl ?_;refine go_ ?_;refine sQ (bZ aJ (hZ _ (by first | exact hI2 | exact hr64)) rfl) rfl ?_;refine bJ rfl (cG tyT rfl rfl uu_ (aS _) rfl (bW _) (.inl (by assumption)) ?_);refine bJ rfl (cG tyT rfl rfl uu_ (aS _) rfl (bW _) (.inl (by assumption)) ?_);refine go2 ?_;refine i7 rfl (.inr rfl) ⟨_,_,_,_,_,_,rfl,mm_,tyT,_,(eH (aS _)),(aS _),rfl⟩ ⟨_,_,_,_,_,_,rfl,mm_,tyT,_,(eH (aS _)),(aS _),rfl⟩ ?_;exact FG ea.1 eb.1 hs0 (DF hy0 (.inr (by simpa using hsg)))
   replace hmb:=cB_ hmb
   refine go_ ?_;refine J6 _ _ pp_ ⟨_,(List.Sublist.cons _ (List.Sublist.refl _)),trivial,?mem,trivial⟩
   case mem=>rfl
  replace hma:=cB_ hma
  refine go_ ?_;refine J6 _ _ pp_ ⟨_,(List.Sublist.cons _ (List.Sublist.refl _)),trivial,?mem,trivial⟩
  case mem=>rfl
 rintro g M ⟨-,rfl,-⟩;simp only [eO];refine go_ ?_;refine sQ (dA fdT dd_ rfl) rfl (sQ (iZ (vs:=uw a.w) tyT rfl mm_ (lI ha.len) ((iE _).trans ha.len)) rfl ?_);refine sQ (dA fdT dd_ rfl) rfl (sQ (iZ (vs:=uw b.w) tyT rfl mm_ (lI hb.len) ((iE _).trans hb.len)) rfl ?_);refine sQ (bZ aJ (rY a.w b.w ha.len hb.len ha.lim hb.lim hp) rfl) rfl (go3 ?_);refine bJ rfl (fB pS (fun b12 hb12=>bJ rfl (fB pS (fun b13 hb13=>bJ rfl (cG tyT rfl rfl uu_ (by simp [uw,dW]) (by simp [uw]) (i6 _) (.inl (by assumption)) ?_)))));refine bJ rfl (cG tyT rfl rfl uu_ (by simp [uw,dW]) (by simp [uw]) (i6 _) (.inl (by assumption)) ?_);refine go2 ?_;refine sQ (dA fdT dd_ rfl) rfl (sQ (d8 tyT rfl mm_ rfl) rfl ?_);refine sQ (dA fdT dd_ rfl) rfl (sQ (d8 tyT rfl mm_ rfl) rfl ?_);refine sQ (uM CD rfl rfl) rfl (sQ (dF tyT rfl mm_ (by simp [uw,dW])) rfl ?_);refine sQ (aV (bZ aJ (gI (a.neg != b.neg) _ (dW _ _) (m7 _ _)) rfl) (congrArg RV (o2 _ (ax_ ha)))) rfl (bJ rfl (fB lH (fun b14 hb14=>bJ rfl (cG tyT rfl rfl uu_ (aS _) rfl (bW _) (.inl (by assumption)) ?_))));refine go_ ?_;refine rV [86,87,88,89,90,91,92,93,94,95,96,97,98,99,100,101,102] (fun g M=>∃ (z:Z) (l:List Nat),(True)∧M=[⟨b14,27,z.enc.cells⟩,⟨b13,25,uw l⟩,⟨b12,25,uw (toL 16 (val a.w / val b.w))⟩,⟨b5,27,zR⟩,⟨b4,27,zR⟩,⟨b3,27,b.cells⟩,⟨b2,27,a.cells⟩]∧(l.length=16∧Lim l∧z=Z.quo a.dec b.dec∧R.mk false (b.neg && !(val l==0)) l=(Z.rem a.dec b.dec).enc)) (fun K19 J19=>?_) ?_
 ·refine go_ ?_;refine sQ (dF tyT rfl mm_ (by simp [uw,dW])) rfl ?_;refine sQ (oV pS arT rfl (.nil _)) rfl ?_;refine sQ (CO (r:=(val a.w % val b.w==0)) rfl rfl (oA 8 dd_ HK H6 (nO (dW _ _)) (nO (by simp)) (aE_ ha))) rfl ?_;refine go_ ?_
  cases hr1:(val a.w % val b.w==0)
  ·refine sQ (dA fdT dd_ rfl) rfl (sQ (d8 tyT rfl mm_ rfl) rfl ?_);refine sQ (dA fdT dd_ rfl) rfl (sQ (d8 tyT rfl mm_ rfl) rfl ?_);refine sQ (uM CD rfl rfl) rfl (go2 ?_);refine aT _ rfl (fun hne=>?_) (fun hne=>?_)
   ·replace hne:=cB_ hne
    refine gdr (sd (sd (sk (sk (sk (sk (sk (s0)))))))) [0,4,8,12,16,20,24,29,33] [7,8] mix (by kernel_rfl) (pQ rfl (dF tyT rfl mm_ (aS _)) ?_);refine pQ rfl (bZ aJ (hZ 1 (by unfold I64;decide)) rfl) (pQ rfl (bZ aJ (rS (Z.of (sgn (a.neg != b.neg) (val a.w / val b.w))).enc (Z.of 1).enc (Z.enc_ok _) (Z.enc_ok _)) rfl) (pQ rfl (dA fdT dd_ rfl) (pQ rfl (iZ (vs:=uw b.w) tyT rfl mm_ (lI hb.len) ((iE _).trans hb.len)) ?_)));refine pQ rfl (dF tyT rfl mm_ (by simp [uw,dW])) ?_;refine pQ rfl (bZ aJ (vF b.w _ hb.len (dW _ _) hb.lim (m7 _ _) (eL_ ha hp)) rfl) ?_;refine fT rfl rfl (cG tyT rfl rfl uu_ (aS _) (aS _) (bW _) (.inl (by assumption)) ⟨nf,ss_,?_⟩);refine fT rfl rfl (cG tyT rfl rfl uu_ (by simp [uw,dW]) (by simp [uw,dW]) (i6 _) (.inl (by assumption)) ⟨nf,ss_,?_⟩);refine go_ ?_;refine J19 _ _ pp_ ⟨_,(List.Sublist.refl _),_,_,trivial,?mem,bE_ ha hb hg.1 hg.2 hp (by simpa using hr1) hne⟩
    case mem=>rfl
   replace hne:=cB_ hne
   refine go_ ?_;refine J19 _ _ pp_ ⟨_,(List.Sublist.refl _),_,_,trivial,?mem,PE ha hb hg.1 hg.2 hp (.inr (by simpa using hne))⟩
   case mem=>rfl
  refine go9 ?_;refine J19 _ _ pp_ ⟨_,(List.Sublist.refl _),_,_,trivial,?mem,PE ha hb hg.1 hg.2 hp (.inl (by simpa using hr1))⟩
  case mem=>rfl
 rintro g M ⟨z,l,-,rfl,⟨hl16,hlim,hzq,hzr⟩⟩;simp only [eO];refine go_ ?_;refine gdr (sk (sk (sk (sd (sd (sk (sk (s0)))))))) [0,4,8,12,16,21,25] [5,6] mix (by kernel_rfl) (pQ rfl (dF tyT rfl mm_ (aS _)) ?_);refine pQ rfl (dA fdT dd_ rfl) (pQ rfl (d8 tyT rfl mm_ rfl) ?_);refine pQ rfl (dF tyT rfl mm_ (by rw [iE,hl16])) ?_;refine pQ rfl (bZ aJ (gI b.neg l hl16 hlim) rfl) ?_;refine fT rfl rfl (cG tyT rfl rfl uu_ (aS _) rfl (bW _) (.inl (by assumption)) ⟨nf,ss_,?_⟩);refine fT rfl rfl (cG tyT rfl rfl uu_ (lJ hl16) rfl (bW _) (.inl (by assumption)) ⟨nf,ss_,?_⟩);refine go2 ?_;refine i7 rfl (.inr rfl) ⟨_,_,_,_,_,_,rfl,mm_,tyT,_,(eH (aS _)),(aS _),rfl⟩ ⟨_,_,_,_,_,_,rfl,mm_,tyT,_,(eH (lJ hl16)),(lJ hl16),rfl⟩ ?_
 (subst hzq;exact congrArg (fun r:R=>Value.tuple #[RV (Z.quo a.dec b.dec).enc,RV r]) hzr)
theorem kA (a b:R) (ha:a.Ok) (hb:b.Ok) :
    Ret prog 120 [RV a,RV b] (RV (Z.quo a.dec b.dec).enc):=by
 refine cL (N:=14) func120 rfl rfl (by simp) (fun w0=>?_);simp only [bS,Nat.reduceAdd];refine go_ ?_;refine bJ rfl (kC rfl rfl (fun b2 hb2=>bJ rfl (kC rfl rfl (fun b3 hb3=>bJ rfl (fB lH (fun b4 hb4=>go2 ?_))))));refine sQ (dF tyT rfl mm_ (dQ ha)) rfl ?_;refine sQ (dF tyT rfl mm_ (dQ hb)) rfl ?_;refine sQ (bZ aJ (xE a b ha hb) rfl) rfl (go3 ?_);refine bJ rfl (fB lH (fun b5 hb5=>bJ rfl (fB lH (fun b6 hb6=>bJ rfl (cG tyT rfl rfl uu_ (aS _) rfl (bW _) (.inl (by assumption)) ?_)))));refine bJ rfl (cG tyT rfl rfl uu_ (aS _) rfl (bW _) (.inl (by assumption)) ?_);refine go2 ?_;refine sQ (dF tyT rfl mm_ (aS _)) rfl ?_;refine bJ rfl (cG tyT rfl rfl uu_ (aS _) rfl (bW _) (.inl (by assumption)) ?_);refine go2 ?_;refine bP rfl (.inr rfl) ⟨_,_,_,_,_,_,rfl,mm_,tyT,_,(eH (aS _)),(aS _),rfl⟩ ?_;exact rfl
theorem B8 (a b:R) (ha:a.Ok) (hb:b.Ok) :
    Ret prog 143 [RV a,RV b] (RV (Z.rem a.dec b.dec).enc):=by
 refine cL (N:=14) func143 rfl rfl (by simp) (fun w0=>?_);simp only [bS,Nat.reduceAdd];refine go_ ?_;refine bJ rfl (kC rfl rfl (fun b2 hb2=>bJ rfl (kC rfl rfl (fun b3 hb3=>bJ rfl (fB lH (fun b4 hb4=>go2 ?_))))));refine sQ (dF tyT rfl mm_ (dQ ha)) rfl ?_;refine sQ (dF tyT rfl mm_ (dQ hb)) rfl ?_;refine sQ (bZ aJ (xE a b ha hb) rfl) rfl (go3 ?_);refine bJ rfl (fB lH (fun b5 hb5=>bJ rfl (fB lH (fun b6 hb6=>bJ rfl (cG tyT rfl rfl uu_ (aS _) rfl (bW _) (.inl (by assumption)) ?_)))));refine bJ rfl (cG tyT rfl rfl uu_ (aS _) rfl (bW _) (.inl (by assumption)) ?_);refine go2 ?_;refine sQ (dF tyT rfl mm_ (aS _)) rfl ?_;refine bJ rfl (cG tyT rfl rfl uu_ (aS _) rfl (bW _) (.inl (by assumption)) ?_);refine go2 ?_;refine bP rfl (.inr rfl) ⟨_,_,_,_,_,_,rfl,mm_,tyT,_,(eH (aS _)),(aS _),rfl⟩ ?_;exact rfl
theorem KC (a b:R) (ha:a.Ok) (hb:b.Ok) :
    Ret prog 142 [RV a,RV b] (.int .i64 (Z.cmp a.dec b.dec)):=by
 refine cL (N:=47) func142 rfl rfl (by simp) (fun w0=>?_);simp only [bS,Nat.reduceAdd];refine go_ ?_;refine bJ rfl (kC rfl rfl (fun b2 hb2=>bJ rfl (kC rfl rfl (fun b3 hb3=>go3 ?_))));refine gDk (sk (sk (s0))) (.quiet 0 [1,2,5,6,7] (.quiet 3 [4,5,6,7] (.both 1 (.quiet 2 [5,6,7] (.only 4 (.quiet 5 [6,7] (.quiet 6 [7] (.quiet 7 [] (.fin)))))) 4 (.only 1 (.quiet 2 [5,6,7] (.quiet 5 [6,7] (.quiet 6 [7] (.quiet 7 [] (.fin))))))))) [0,1,2,3,4,5,6,7] mix (by kernel_rfl) (by kernel_rfl) (pQ rfl (dF tyT rfl mm_ (dQ ha)) ?_);refine pQ rfl (dF tyT rfl mm_ (dQ hb)) ?_;refine G5 ?_ ?_
 ·refine fT rfl rfl (jS lT lH nN rfl dd_ rfl (yU ha) (fun b8 hb8=>⟨(fun _=>by first | exact sd s0 | exact s0),ss_,?_⟩));refine pQ rfl (bN aJ rfl (fun w hw=>jC [a] (ok1 ha) b8 27 w (hw.mem ⟨b8,27,_⟩ (by first | exact m0 | exact m1)) (by simp))) ?_;refine fT rfl rfl (jS lT lH nN rfl dd_ rfl (yU hb) (fun b11 hb11=>⟨(fun _=>by first | exact sd s0 | exact s0),ss_,?_⟩));refine pQ rfl (bN aJ rfl (fun w hw=>jC [b] (ok1 hb) b11 27 w (hw.mem ⟨b11,27,_⟩ (by first | exact m0 | exact m1)) (by simp))) ?_;refine go9 ?_
  cases hga:[a].all R.good
  ·refine go5 ?_;refine aT _ rfl (fun hgb=>?_) (fun hgb=>?_)
   ·replace hgb:=cB_ hgb
    refine go4 ?_;refine bP rfl (.inr rfl) rfl ?_;exact congrArg _ (RR (by simpa using hga) (by simpa using hgb))
   replace hgb:=cB_ hgb
   refine oS ?_;refine bP rfl (.inr rfl) rfl ?_;exact congrArg _ (RS (by simpa using hga) hb (by simpa using hgb))
  refine V8 ?_;refine aT _ rfl (fun hgb=>?_) (fun hgb=>?_)
  ·replace hgb:=cB_ hgb
   refine go4 ?_;refine bP rfl (.inr rfl) rfl ?_;exact congrArg _ (RT ha (by simpa using hga) (by simpa using hgb))
  replace hgb:=cB_ hgb
  refine go_ ?_;refine sQ (dA fdT dd_ rfl) rfl (sQ (d8 tyT rfl mm_ rfl) rfl ?_);refine sQ (dA fdT dd_ rfl) rfl (sQ (d8 tyT rfl mm_ rfl) rfl ?_);refine sQ (uM CD rfl rfl) rfl (go2 ?_);refine aT _ rfl (fun hn=>?_) (fun hn=>?_)
  ·replace hn:=cB_ hn
   refine go2 ?_;refine sQ (dA fdT dd_ rfl) rfl (sQ (d8 tyT rfl mm_ rfl) rfl ?_);refine go_ ?_;refine aT _ rfl (fun hs=>?_) (fun hs=>?_)
   ·replace hs:=cB_ hs
    refine go4 ?_;refine bP rfl (.inr rfl) rfl ?_;exact congrArg _ (YG ha hb (by simpa using hga) (by simpa using hgb) hn hs)
   replace hs:=cB_ hs
   refine go5 ?_;refine bP rfl (.inr rfl) rfl ?_;exact congrArg _ (YF ha hb (by simpa using hga) (by simpa using hgb) hn (by simpa using hs))
  replace hn:=cB_ hn
  refine go_ ?_;refine sQ (dA fdT dd_ rfl) rfl (sQ (d8 tyT rfl mm_ rfl) rfl ?_);refine go2 ?_;refine aT _ rfl (fun hs=>?_) (fun hs=>?_)
  ·replace hs:=cB_ hs
   refine go_ ?_;refine sQ (dA fdT dd_ rfl) rfl (sQ (iZ (vs:=uw b.w) tyT rfl mm_ (lI hb.len) ((iE _).trans hb.len)) rfl ?_);refine sQ (dA fdT dd_ rfl) rfl (sQ (iZ (vs:=uw a.w) tyT rfl mm_ (lI ha.len) ((iE _).trans ha.len)) rfl ?_);refine sQ (bZ aJ (n5 b.w a.w hb.len ha.len hb.lim ha.lim) rfl) rfl (go3 ?_);refine bP rfl (.inr rfl) rfl ?_;exact congrArg _ (YH ha hb (by simpa using hga) (by simpa using hgb) hn hs)
  replace hs:=cB_ hs
  refine go2 ?_;refine sQ (dA fdT dd_ rfl) rfl (sQ (iZ (vs:=uw a.w) tyT rfl mm_ (lI ha.len) ((iE _).trans ha.len)) rfl ?_);refine sQ (dA fdT dd_ rfl) rfl (sQ (iZ (vs:=uw b.w) tyT rfl mm_ (lI hb.len) ((iE _).trans hb.len)) rfl ?_);refine sQ (bZ aJ (n5 a.w b.w ha.len hb.len ha.lim hb.lim) rfl) rfl (go3 ?_);refine bP rfl (.inr rfl) rfl ?_;exact congrArg _ (YI ha hb (by simpa using hga) (by simpa using hgb) hn (by simpa using hs))
 refine fT rfl rfl (jS lT lH nN rfl dd_ rfl (yU hb) (fun b11 hb11=>⟨(fun _=>by first | exact sd s0 | exact s0),ss_,?_⟩));refine fT rfl rfl (jS lT lH nN rfl dd_ rfl (yU ha) (fun b8 hb8=>⟨(fun _=>by first | exact sd s0 | exact s0),ss_,?_⟩));refine pQ rfl (bN aJ rfl (fun w hw=>jC [a] (ok1 ha) b8 27 w (hw.mem ⟨b8,27,_⟩ (by first | exact m0 | exact m1)) (by simp))) ?_;refine pQ rfl (bN aJ rfl (fun w hw=>jC [b] (ok1 hb) b11 27 w (hw.mem ⟨b11,27,_⟩ (by first | exact m0 | exact m1)) (by simp))) ?_;refine go9 ?_
 cases hga:[a].all R.good
 ·refine go5 ?_;refine aT _ rfl (fun hgb=>?_) (fun hgb=>?_)
  ·replace hgb:=cB_ hgb
   refine go4 ?_;refine bP rfl (.inr rfl) rfl ?_;exact congrArg _ (RR (by simpa using hga) (by simpa using hgb))
  replace hgb:=cB_ hgb
  refine oS ?_;refine bP rfl (.inr rfl) rfl ?_;exact congrArg _ (RS (by simpa using hga) hb (by simpa using hgb))
 refine V8 ?_;refine aT _ rfl (fun hgb=>?_) (fun hgb=>?_)
 ·replace hgb:=cB_ hgb
  refine go4 ?_;refine bP rfl (.inr rfl) rfl ?_;exact congrArg _ (RT ha (by simpa using hga) (by simpa using hgb))
 replace hgb:=cB_ hgb
 refine go_ ?_;refine sQ (dA fdT dd_ rfl) rfl (sQ (d8 tyT rfl mm_ rfl) rfl ?_);refine sQ (dA fdT dd_ rfl) rfl (sQ (d8 tyT rfl mm_ rfl) rfl ?_);refine sQ (uM CD rfl rfl) rfl (go2 ?_);refine aT _ rfl (fun hn=>?_) (fun hn=>?_)
 ·replace hn:=cB_ hn
  refine go2 ?_;refine sQ (dA fdT dd_ rfl) rfl (sQ (d8 tyT rfl mm_ rfl) rfl ?_);refine go_ ?_;refine aT _ rfl (fun hs=>?_) (fun hs=>?_)
  ·replace hs:=cB_ hs
   refine go4 ?_;refine bP rfl (.inr rfl) rfl ?_;exact congrArg _ (YG ha hb (by simpa using hga) (by simpa using hgb) hn hs)
  replace hs:=cB_ hs
  refine go5 ?_;refine bP rfl (.inr rfl) rfl ?_;exact congrArg _ (YF ha hb (by simpa using hga) (by simpa using hgb) hn (by simpa using hs))
 replace hn:=cB_ hn
 refine go_ ?_;refine sQ (dA fdT dd_ rfl) rfl (sQ (d8 tyT rfl mm_ rfl) rfl ?_);refine go2 ?_;refine aT _ rfl (fun hs=>?_) (fun hs=>?_)
 ·replace hs:=cB_ hs
  refine go_ ?_;refine sQ (dA fdT dd_ rfl) rfl (sQ (iZ (vs:=uw b.w) tyT rfl mm_ (lI hb.len) ((iE _).trans hb.len)) rfl ?_);refine sQ (dA fdT dd_ rfl) rfl (sQ (iZ (vs:=uw a.w) tyT rfl mm_ (lI ha.len) ((iE _).trans ha.len)) rfl ?_);refine sQ (bZ aJ (n5 b.w a.w hb.len ha.len hb.lim ha.lim) rfl) rfl (go3 ?_);refine bP rfl (.inr rfl) rfl ?_;exact congrArg _ (YH ha hb (by simpa using hga) (by simpa using hgb) hn hs)
 replace hs:=cB_ hs
 refine go2 ?_;refine sQ (dA fdT dd_ rfl) rfl (sQ (iZ (vs:=uw a.w) tyT rfl mm_ (lI ha.len) ((iE _).trans ha.len)) rfl ?_);refine sQ (dA fdT dd_ rfl) rfl (sQ (iZ (vs:=uw b.w) tyT rfl mm_ (lI hb.len) ((iE _).trans hb.len)) rfl ?_);refine sQ (bZ aJ (n5 a.w b.w ha.len hb.len ha.lim hb.lim) rfl) rfl (go3 ?_);refine bP rfl (.inr rfl) rfl ?_;exact congrArg _ (YI ha hb (by simpa using hga) (by simpa using hgb) hn (by simpa using hs))
theorem JH (n:Nat) (IH:∀ (a b:R),a.Ok→b.Ok→val b.w<n→Ret prog 160 [RV a,RV b] (RV (Z.gcd a.dec b.dec).enc)) (a b:R) (ha:a.Ok) (hb:b.Ok) (hn:val b.w=n) :
    Ret prog 160 [RV a,RV b] (RV (Z.gcd a.dec b.dec).enc):=by
 refine cL (N:=80) func160 rfl rfl (by simp) (fun w0=>?_);simp only [bS,Nat.reduceAdd];refine go_ ?_;refine bJ rfl (kC rfl rfl (fun b2 hb2=>bJ rfl (kC rfl rfl (fun b3 hb3=>bJ rfl (fB lH (fun b4 hb4=>go3 ?_))))));refine sQ (dF tyT rfl mm_ (dQ ha)) rfl ?_;refine sQ (dF tyT rfl mm_ (dQ hb)) rfl ?_;refine bJ rfl (jS lT lH nN rfl dd_ rfl (NA ha hb) (fun b13 hb13=>sQ (bN aJ rfl (fun w hw=>jC [a,b] (ok2 ha hb) b13 27 w (hw.mem _ m0) (by simp))) rfl ?_));refine go2 ?_;refine aT _ rfl (fun hg=>?_) (fun hg=>?_)
 ·replace hg:=cB_ hg
  refine go_ ?_;refine sQ (bZ aJ jF rfl) rfl (bJ rfl (cG tyT rfl rfl uu_ (aS _) rfl (bW _) (.inl (by assumption)) ?_));refine go2 ?_;refine bP rfl (.inr rfl) ⟨_,_,_,_,_,_,rfl,mm_,tyT,_,(eH (aS _)),(aS _),rfl⟩ ?_;exact congrArg RV (bJ_ hg)
 replace hg:=cB_ hg
 have hg:=all2.1 hg;refine go_ ?_;refine rV [5,6,17,18,19,20,21,22,23,24,25,26,27,28,29,30,31,32,33,34,35,36,37,38,39,40,41,42,43,44,45,46,47,48,49,50,51,52,53,54,55,56,57,58,59] (fun g M=>(True)∧M=[⟨b4,27,zR⟩,⟨b3,27,b.cells⟩,⟨b2,27,a.cells⟩]∧(True)) (fun K5 J5=>?_) ?_
 ·refine go_ ?_;refine sQ (dA fdT dd_ rfl) rfl (sQ (iZ (vs:=uw a.w) tyT rfl mm_ (lI ha.len) ((iE _).trans ha.len)) rfl ?_);refine sQ (bZ aJ (nP a.w ha.len) rfl) rfl (go2 ?_)
  cases hsz:decide ((szL a.w:Int)≤2)
  ·refine go8 ?_;refine J5 _ _ pp_ ⟨_,(List.Sublist.cons _ (List.Sublist.refl _)),trivial,?mem,trivial⟩
   case mem=>rfl
  refine sQ (dA fdT dd_ rfl) rfl (sQ (iZ (vs:=uw b.w) tyT rfl mm_ (lI hb.len) ((iE _).trans hb.len)) rfl ?_);refine sQ (bZ aJ (nP b.w hb.len) rfl) rfl (go3 ?_);refine aT _ rfl (fun hsz2=>?_) (fun hsz2=>?_)
  ·replace hsz2:=cB_ hsz2
   have hA64:=sz2 ha (by have:=of_decide_eq_true hsz;omega);have hB64:=sz2 hb oo_;refine go_ ?_;refine gdr (sk (sk (sk (sk (s0))))) [0,4,8,12,16,20,24,28,32,36,40,44,48,52,56,60,64,68,72,76,80,84] [] mix (by kernel_rfl) (pQ rfl (dA fdT dd_ rfl) (pQ rfl (fI arT rfl rfl dd_ dd_) (pQ rfl (d8 tyT rfl mm_ (nQ (r:=a) (k:=1) (by rw [ha.len];omega))) ?_)));refine pQ rfl (aV (eX iF fY rfl) (wO (eG ha.lim _))) (pQ rfl (aV (DU rfl rfl dd_) (congrArg (Value.int .u64) (xC (eG ha.lim _)))) (pQ rfl (dA fdT dd_ rfl) (pQ rfl (fI arT rfl rfl dd_ dd_) (pQ rfl (d8 tyT rfl mm_ (nQ (r:=a) (k:=0) (by rw [ha.len];omega))) ?_))));refine pQ rfl (aV (eX iF fY rfl) (wO (eG ha.lim _))) (pQ rfl (aV (N0 rfl rfl) (congrArg (Value.int .u64) ((P8 (eG ha.lim _) (eG ha.lim _)).trans (congrArg (fun m:Nat=>(m:Int)) (CS ha hA64))))) (pQ rfl (dA fdT dd_ rfl) (pQ rfl (fI arT rfl rfl dd_ dd_) (pQ rfl (d8 tyT rfl mm_ (nQ (r:=b) (k:=1) (by rw [hb.len];omega))) ?_))));refine pQ rfl (aV (eX iF fY rfl) (wO (eG hb.lim _))) (pQ rfl (aV (DU rfl rfl dd_) (congrArg (Value.int .u64) (xC (eG hb.lim _)))) (pQ rfl (dA fdT dd_ rfl) (pQ rfl (fI arT rfl rfl dd_ dd_) (pQ rfl (d8 tyT rfl mm_ (nQ (r:=b) (k:=0) (by rw [hb.len];omega))) ?_))));refine pQ rfl (aV (eX iF fY rfl) (wO (eG hb.lim _))) (pQ rfl (aV (N0 rfl rfl) (congrArg (Value.int .u64) ((P8 (eG hb.lim _) (eG hb.lim _)).trans (congrArg (fun m:Nat=>(m:Int)) (CS hb hB64))))) (go5 ?_));refine cO [5,6,47,48,49,50,51,52] (fun g nn M=>∃ (x y:Nat),(g 5 = .int .u64 (x:Int)∧g 6 = .int .u64 (y:Int))∧M=[⟨b4,27,zR⟩,⟨b3,27,b.cells⟩,⟨b2,27,a.cells⟩]∧nn=y∧(x<18446744073709551616∧y<18446744073709551616∧Nat.gcd x y=Nat.gcd (val a.w) (val b.w))) (val b.w) ?start ?round
   case start =>
    refine ⟨_,(List.Sublist.cons _ (List.Sublist.refl _)),_,_,⟨?a5,?a6⟩,?mem0,rfl,⟨hA64,hB64,rfl⟩⟩
    case mem0=>rfl
    case a5=>rfl
    case a6=>rfl
   case round =>
    rintro nn g M ⟨x,y,⟨hg5,hg6⟩,rfl,hmeas,⟨hx64,hy64,hgc⟩⟩;subst nn;simp only [eO,hg5,hg6];clear hg5 hg6;refine go5 ?_;refine aT _ rfl (fun hy0=>?_) (fun hy0=>?_)
    ·replace hy0:=cB_ hy0
     refine go2 ?_;refine rE (sk (sk (sk (s0)))) 6 [] [] (go3 ?_);refine pQ rfl (aV (t7 rfl rfl oo_) (congrArg (Value.int .u64) (BR _ _))) (go3 ?_);refine ⟨pp_,_,_,(List.Sublist.refl _),(Nat.mod_lt _ oo_),y,x % y,⟨?s5,?s6⟩,?mem,rfl,⟨hy64,Nat.lt_of_le_of_lt (Nat.mod_le _ _) hx64,by rw [Nat.gcd_comm,← Nat.gcd_rec,Nat.gcd_comm];exact hgc⟩⟩
     case mem=>rfl
     case s5=>rfl
     case s6=>rfl
    replace hy0:=cB_ hy0
    refine go3 ?_;refine sQ (eX fY iF rfl) rfl (go_ ?_);refine sQ (aV (u5 rfl rfl dd_) (congrArg (Value.int .u64) (rA _ 32))) rfl (sQ (eX fY iF rfl) rfl (sQ (oV pS arT rfl (d3_ hx64)) rfl (sQ (bZ aJ (gI false _ (by simp) (ZY (Nat.mod_lt _ dd_) oo_ 14)) rfl) rfl ?_)));refine bJ rfl (cG tyT rfl rfl uu_ (lJ (by simp)) rfl (bW _) (.inl (by assumption)) ?_);refine go2 ?_;refine bP rfl (.inr rfl) ⟨_,_,_,_,_,_,rfl,mm_,tyT,_,(eH (lJ (by simp))),(lJ (by simp)),rfl⟩ ?_;exact bK_ ha hb hg.1 hg.2 hx64 (bL_ hx64 hgc oo_)
  replace hsz2:=cB_ hsz2
  refine go_ ?_;refine J5 _ _ pp_ ⟨_,(List.Sublist.cons _ (List.Sublist.refl _)),trivial,?mem,trivial⟩
  case mem=>rfl
 rintro g M ⟨-,rfl,-⟩;simp only [eO];refine go2 ?_;refine gDk (sk (sk (sk (s0)))) (.quiet 0 [1,6,7] (.quiet 1 [6,7] (.still 2 [3,7] (.still 3 [7] (.both 4 (.only 5 (.only 6 (.only 7 (.fin)))) 5 (.only 4 (.only 6 (.only 7 (.fin))))))))) [0,1,2,3,4,5] mix (by kernel_rfl) (by kernel_rfl) (pQ rfl (dA fdT dd_ rfl) (pQ rfl (iZ (vs:=uw a.w) tyT rfl mm_ (lI ha.len) ((iE _).trans ha.len)) ?_));refine G6 rfl rfl (dA fdT dd_ rfl) (G6 rfl rfl (iZ (vs:=uw b.w) tyT rfl mm_ (lI hb.len) ((iE _).trans hb.len)) ?_);refine G5 ?_ ?_
 ·refine fT rfl rfl (fB pS (fun b7 hb7=>⟨(fun _=>by first | exact sd s0 | exact s0),ss_,?_⟩));refine fT rfl rfl (fB pS (fun b8 hb8=>⟨(fun _=>by first | exact sd s0 | exact s0),ss_,?_⟩));refine fT rfl rfl (cG tyT rfl rfl uu_ (by simp [uw,ha.len]) (by simp [uw]) (i6 _) (.inl (by assumption)) ⟨nf,ss_,?_⟩);refine fT rfl rfl (cG tyT rfl rfl uu_ (by simp [uw,hb.len]) (by simp [uw]) (i6 _) (.inl (by assumption)) ⟨nf,ss_,?_⟩);refine go2 ?_;refine sQ (dF tyT rfl mm_ (by simp [uw,hb.len])) rfl ?_;refine sQ (oV pS arT rfl (.nil _)) rfl ?_;refine sQ (CO (r:=(val b.w==0)) rfl rfl (oA 8 dd_ HK H6 (nO hb.len) (nO (by simp)) (BW hb.len hb.lim))) rfl ?_;refine go_ ?_;refine aT _ rfl (fun hb0=>?_) (fun hb0=>?_)
  ·replace hb0:=cB_ hb0
   have hp:0<val b.w:=Nat.pos_of_ne_zero (by simpa using hb0);refine go_ ?_;refine sQ (dF tyT rfl mm_ (by simp [uw,ha.len])) rfl ?_;refine sQ (dF tyT rfl mm_ (by simp [uw,hb.len])) rfl ?_;refine sQ (bZ aJ (rY a.w b.w ha.len hb.len ha.lim hb.lim hp) rfl) rfl (go3 ?_);refine bJ rfl (fB pS (fun b9 hb9=>bJ rfl (fB pS (fun b10 hb10=>bJ rfl (cG tyT rfl rfl uu_ (by simp [uw,dW]) (by simp [uw]) (i6 _) (.inl (by assumption)) ?_)))));refine bJ rfl (cG tyT rfl rfl uu_ (by simp [uw,dW]) (by simp [uw]) (i6 _) (.inl (by assumption)) ?_);refine go2 ?_;refine gdr (sk (sk (sk (sk (sd (sk (sk (s0)))))))) [0,4,8,12,16,21] [5] mix (by kernel_rfl) (pQ rfl (dF tyT rfl mm_ (by simp [uw,hb.len])) ?_);refine pQ rfl (aV (bZ aJ (gI false b.w hb.len hb.lim) rfl) (FQ hb.len hb.lim false)) (pQ rfl (dF tyT rfl mm_ (by simp [uw,dW])) ?_);refine pQ rfl (aV (bZ aJ (gI false _ (dW _ _) (m7 _ _)) rfl) (congrArg RV (o2 false (tG ha)))) (pQ rfl (bZ aJ (IH (Z.of (sgn false (val b.w))).enc (Z.of (sgn false (val a.w % val b.w))).enc (Z.enc_ok _) (Z.enc_ok _) (by rw [TU (tG ha),← hn];exact Nat.mod_lt _ hp)) rfl) ?_);refine fT rfl rfl (cG tyT rfl rfl uu_ (aS _) rfl (bW _) (.inl (by assumption)) ⟨nf,ss_,?_⟩);refine go2 ?_;refine bP rfl (.inr rfl) ⟨_,_,_,_,_,_,rfl,mm_,tyT,_,(eH (aS _)),(aS _),rfl⟩ ?_;exact PQ ha hb hg.1 hg.2
  replace hb0:=cB_ hb0
  refine go2 ?_;refine sQ (dF tyT rfl mm_ (dQ ha)) rfl ?_;refine sQ (bZ aJ (xK a ha) rfl) rfl (bJ rfl (cG tyT rfl rfl uu_ (aS _) rfl (bW _) (.inl (by assumption)) ?_));refine go2 ?_;refine bP rfl (.inr rfl) ⟨_,_,_,_,_,_,rfl,mm_,tyT,_,(eH (aS _)),(aS _),rfl⟩ ?_;exact PR ha hb hg.1 hg.2 (by simpa using hb0)
 refine fT rfl rfl (fB pS (fun b8 hb8=>⟨(fun _=>by first | exact sd s0 | exact s0),ss_,?_⟩));refine fT rfl rfl (fB pS (fun b7 hb7=>⟨(fun _=>by first | exact sd s0 | exact s0),ss_,?_⟩));refine fT rfl rfl (cG tyT rfl rfl uu_ (by simp [uw,ha.len]) (by simp [uw]) (i6 _) (.inl (by assumption)) ⟨nf,ss_,?_⟩);refine fT rfl rfl (cG tyT rfl rfl uu_ (by simp [uw,hb.len]) (by simp [uw]) (i6 _) (.inl (by assumption)) ⟨nf,ss_,?_⟩);refine go2 ?_;refine sQ (dF tyT rfl mm_ (by simp [uw,hb.len])) rfl ?_;refine sQ (oV pS arT rfl (.nil _)) rfl ?_;refine sQ (CO (r:=(val b.w==0)) rfl rfl (oA 8 dd_ HK H6 (nO hb.len) (nO (by simp)) (BW hb.len hb.lim))) rfl ?_;refine go_ ?_;refine aT _ rfl (fun hb0=>?_) (fun hb0=>?_)
 ·replace hb0:=cB_ hb0
  have hp:0<val b.w:=Nat.pos_of_ne_zero (by simpa using hb0);refine go_ ?_;refine sQ (dF tyT rfl mm_ (by simp [uw,ha.len])) rfl ?_;refine sQ (dF tyT rfl mm_ (by simp [uw,hb.len])) rfl ?_;refine sQ (bZ aJ (rY a.w b.w ha.len hb.len ha.lim hb.lim hp) rfl) rfl (go3 ?_);refine bJ rfl (fB pS (fun b9 hb9=>bJ rfl (fB pS (fun b10 hb10=>bJ rfl (cG tyT rfl rfl uu_ (by simp [uw,dW]) (by simp [uw]) (i6 _) (.inl (by assumption)) ?_)))));refine bJ rfl (cG tyT rfl rfl uu_ (by simp [uw,dW]) (by simp [uw]) (i6 _) (.inl (by assumption)) ?_);refine go2 ?_;refine gdr (sk (sk (sk (sk (sd (sk (sk (s0)))))))) [0,4,8,12,16,21] [5] mix (by kernel_rfl) (pQ rfl (dF tyT rfl mm_ (by simp [uw,hb.len])) ?_);refine pQ rfl (aV (bZ aJ (gI false b.w hb.len hb.lim) rfl) (FQ hb.len hb.lim false)) (pQ rfl (dF tyT rfl mm_ (by simp [uw,dW])) ?_);refine pQ rfl (aV (bZ aJ (gI false _ (dW _ _) (m7 _ _)) rfl) (congrArg RV (o2 false (tG ha)))) (pQ rfl (bZ aJ (IH (Z.of (sgn false (val b.w))).enc (Z.of (sgn false (val a.w % val b.w))).enc (Z.enc_ok _) (Z.enc_ok _) (by rw [TU (tG ha),← hn];exact Nat.mod_lt _ hp)) rfl) ?_);refine fT rfl rfl (cG tyT rfl rfl uu_ (aS _) rfl (bW _) (.inl (by assumption)) ⟨nf,ss_,?_⟩);refine go2 ?_;refine bP rfl (.inr rfl) ⟨_,_,_,_,_,_,rfl,mm_,tyT,_,(eH (aS _)),(aS _),rfl⟩ ?_;exact PQ ha hb hg.1 hg.2
 replace hb0:=cB_ hb0
 refine go2 ?_;refine sQ (dF tyT rfl mm_ (dQ ha)) rfl ?_;refine sQ (bZ aJ (xK a ha) rfl) rfl (bJ rfl (cG tyT rfl rfl uu_ (aS _) rfl (bW _) (.inl (by assumption)) ?_));refine go2 ?_;refine bP rfl (.inr rfl) ⟨_,_,_,_,_,_,rfl,mm_,tyT,_,(eH (aS _)),(aS _),rfl⟩ ?_;exact PR ha hb hg.1 hg.2 (by simpa using hb0)
theorem uZ (a b:R) (ha:a.Ok) (hb:b.Ok):Ret prog 160 [RV a,RV b] (RV (Z.gcd a.dec b.dec).enc):=by
  generalize hn:val b.w=n
  induction n using Nat.strongRecOn generalizing a b with
  | ind n ih=>exact JH n (fun a b ha hb h=>ih _ h a b ha hb rfl) a b ha hb hn
end Go.Proofs.YtokjfhfiodopdaaGreat
