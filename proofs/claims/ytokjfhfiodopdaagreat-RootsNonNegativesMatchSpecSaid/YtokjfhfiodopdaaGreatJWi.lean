/- Lemmas: what they ask stands in their statements. -/
import Derived.Test.YtokjfhfiodopdaaGreatJWe
set_option linter.unusedSimpArgs false
set_option linter.unusedVariables false
set_option maxHeartbeats 8000000
set_option maxRecDepth 20000
namespace Go.Proofs.YtokjfhfiodopdaaGreat
open Go.Kn Go.Num Tryz
attribute [local irreducible] Go.Kn.W WL PL OpQ OpR OpS
theorem KP (n:Nat) (IH:∀ (a b:R),a.Ok→b.Ok→val b.w<n→Ret prog 160 [RV a,RV b] (RV (Z.gcd a.dec b.dec).enc)) (a b:R) (ha:a.Ok) (hb:b.Ok) (hn:val b.w=n) :
    Ret prog 160 [RV a,RV b] (RV (Z.gcd a.dec b.dec).enc):=by
 refine cJ (N:=80) func160 O O zz_ (fun w0=>?_);refine giI ?_;refine go_ ?_;refine bL O (kK O O (fun b2 hb2=>bL O (kK O O (fun b3 hb3=>bL O (fF lO (fun b4 hb4=>go3 ?_))))));refine sQ (dD tyT O mm_ (dO ha)) O ?_;refine sQ (dD tyT O mm_ (dO hb)) O ?_;refine bL O (j8 l4 lO nW O dd_ O (N5 ha hb) (fun b13 hb13=>sQ (dZ aS O (fun w hw=>jI [a,b] (ok2 ha hb) b13 27 w (hw.mem _ m0) zz_)) O ?_));refine go2 ?_;refine aZ _ O (fun hg=>?_) (fun hg=>?_)
 ·replace hg:=cB_ hg
  refine go_ ?_;refine sQ (bW aS jL O) O (bL O (cC tyT O O uu_ (aV _) O (bS _) (.inl gH) ?_));refine go2 ?_;refine rtX O ⟨_,_,_,_,_,_,rfl,mm_,tyT,_,(eJ (aV _)),(aV _),rfl⟩ ?_;exact congrArg RV (cW_ hg)
 replace hg:=cB_ hg
 have hg:=all2.1 hg;refine go_ ?_;refine sF (rg [5,6] 17 43) (fun g M=>(True)∧M=[⟨b4,27,zR⟩,⟨b3,27,b.cells⟩,⟨b2,27,a.cells⟩]∧(True)) (fun K5 J5=>?_) ?_
 ·refine go_ ?_;refine sQ (cW fdT dd_ O) O (sQ (i7 (vs:=uw a.w) tyT O mm_ (lP ha.len) ((iF _).trans ha.len)) O ?_);refine sQ (bW aS (nY a.w ha.len) O) O (go2 ?_)
  cases hsz:decide ((szL a.w:Int)≤2)
  ·refine go8 ?_;refine J5 _ _ pp_ ⟨_,(List.Sublist.cons _ (List.Sublist.refl _)),trivial,?mem,trivial⟩
   case mem=>rfl
  refine sQ (cW fdT dd_ O) O (sQ (i7 (vs:=uw b.w) tyT O mm_ (lP hb.len) ((iF _).trans hb.len)) O ?_);refine sQ (bW aS (nY b.w hb.len) O) O (go3 ?_);refine aZ _ O (fun hsz2=>?_) (fun hsz2=>?_)
  ·replace hsz2:=cB_ hsz2
   have hA64:=sz2 ha (by have:=of_decide_eq_true hsz;omega);have hB64:=sz2 hb oo_;refine go_ ?_;refine gdr (sk (sk (sk (sk s0)))) [0,4,8,12,16,20,24,28,32,36,40,44,48,52,56,60,64,68,72,76,80,84] [] mix (by kernel_rfl) (pQ O (cW fdT dd_ O) (pQ O (fK arT O O dd_ dd_) (pQ O (eA tyT O mm_ (n4 (r:=a) (k:=1) (by rw [ha.len];omega))) ?_)));refine pQ O (bJ (eY iG fZ O) (w5 (eH ha.lim _))) (pQ O (bJ (EK O O dd_) (congrArg (Value.int .u64) (xO (eH ha.lim _)))) (pQ O (cW fdT dd_ O) (pQ O (fK arT O O dd_ dd_) (pQ O (eA tyT O mm_ (n4 (r:=a) (k:=0) (by rw [ha.len];omega))) ?_))));refine pQ O (bJ (eY iG fZ O) (w5 (eH ha.lim _))) (pQ O (bJ (OZ O O) (congrArg (Value.int .u64) ((RJ (eH ha.lim _) (eH ha.lim _)).trans (congrArg (fun m:Nat=>(m:Int)) (DJ ha hA64))))) (pQ O (cW fdT dd_ O) (pQ O (fK arT O O dd_ dd_) (pQ O (eA tyT O mm_ (n4 (r:=b) (k:=1) (by rw [hb.len];omega))) ?_))));refine pQ O (bJ (eY iG fZ O) (w5 (eH hb.lim _))) (pQ O (bJ (EK O O dd_) (congrArg (Value.int .u64) (xO (eH hb.lim _)))) (pQ O (cW fdT dd_ O) (pQ O (fK arT O O dd_ dd_) (pQ O (eA tyT O mm_ (n4 (r:=b) (k:=0) (by rw [hb.len];omega))) ?_))));refine pQ O (bJ (eY iG fZ O) (w5 (eH hb.lim _))) (pQ O (bJ (OZ O O) (congrArg (Value.int .u64) ((RJ (eH hb.lim _) (eH hb.lim _)).trans (congrArg (fun m:Nat=>(m:Int)) (DJ hb hB64))))) (go5 ?_));refine cH (rg [5,6] 47 6) (fun g nn M=>∃ (x y:Nat),(g 5 = .int .u64 (x:Int)∧g 6 = .int .u64 (y:Int))∧M=[⟨b4,27,zR⟩,⟨b3,27,b.cells⟩,⟨b2,27,a.cells⟩]∧nn=y∧(x<18446744073709551616∧y<18446744073709551616∧Nat.gcd x y=Nat.gcd (val a.w) (val b.w))) (val b.w) ?start ?round
   case start =>
    refine ⟨_,(List.Sublist.cons _ (List.Sublist.refl _)),_,_,⟨?a5,?a6⟩,?mem0,rfl,⟨hA64,hB64,rfl⟩⟩
    case mem0=>rfl
    case a5=>rfl
    case a6=>rfl
   case round =>
    rintro nn g M ⟨x,y,⟨hg5,hg6⟩,rfl,hmeas,⟨hx64,hy64,hgc⟩⟩;subst nn;refine gS2 hg5 hg6 ?_;clear hg5 hg6;refine go5 ?_;refine aZ _ O (fun hy0=>?_) (fun hy0=>?_)
    ·replace hy0:=cB_ hy0
     refine go2 ?_;refine rP (sk (sk (sk s0))) 6 [] [] (go3 ?_);refine pQ O (bJ (uI O O oo_) (congrArg (Value.int .u64) (CB _ _))) (go3 ?_);refine ⟨pp_,_,_,(List.Sublist.refl _),(Nat.mod_lt _ oo_),y,x % y,⟨?s5,?s6⟩,?mem,rfl,⟨hy64,Nat.lt_of_le_of_lt (Nat.mod_le _ _) hx64,by rw [Nat.gcd_comm,← Nat.gcd_rec,Nat.gcd_comm];exact hgc⟩⟩
     case mem=>rfl
     case s5=>rfl
     case s6=>rfl
    replace hy0:=cB_ hy0
    refine go3 ?_;refine sQ (eY fZ iG O) O (go_ ?_);refine sQ (bJ (vE O O dd_) (congrArg (Value.int .u64) (rG _ 32))) O (sQ (eY fZ iG O) O (sQ (oY qD arT O (fk_ hx64)) O (sQ (bW aS (gF false _ zz_ (a3_ (Nat.mod_lt _ dd_) oo_ 14)) O) O ?_)));refine bL O (cC tyT O O uu_ (lQ zz_) O (bS _) (.inl gH) ?_);refine go2 ?_;refine rtX O ⟨_,_,_,_,_,_,rfl,mm_,tyT,_,(eJ (lQ zz_)),(lQ zz_),rfl⟩ ?_;exact cX_ ha hb hg.1 hg.2 hx64 (cY_ hx64 hgc oo_)
  replace hsz2:=cB_ hsz2
  refine go_ ?_;refine J5 _ _ pp_ ⟨_,(List.Sublist.cons _ (List.Sublist.refl _)),trivial,?mem,trivial⟩
  case mem=>rfl
 rintro g M ⟨-,rfl,-⟩;refine gS0 ?_;refine go2 ?_;refine gDk (sk (sk (sk s0))) (.quiet 0 [1,6,7] (.quiet 1 [6,7] (.still 2 [3,7] (.still 3 [7] (.both 4 (.only 5 (.only 6 (.only 7 (.fin)))) 5 (.only 4 (.only 6 (.only 7 (.fin))))))))) [0,1,2,3,4,5] mix (by kernel_rfl) (by kernel_rfl) (pQ O (cW fdT dd_ O) (pQ O (i7 (vs:=uw a.w) tyT O mm_ (lP ha.len) ((iF _).trans ha.len)) ?_));refine HW O O (cW fdT dd_ O) (HW O O (i7 (vs:=uw b.w) tyT O mm_ (lP hb.len) ((iF _).trans hb.len)) ?_);refine KW ?_ ?_
 ·refine gA O O (fF qD (fun b7 hb7=>⟨(fun _=>by first|exact sd s0|exact s0),ss_,?_⟩));refine gA O O (fF qD (fun b8 hb8=>⟨(fun _=>by first|exact sd s0|exact s0),ss_,?_⟩));refine gA O O (cC tyT O O uu_ (by simp [uw,ha.len]) (by simp [uw]) (jC _) (.inl gH) ⟨nf,ss_,?_⟩);refine gA O O (cC tyT O O uu_ (by simp [uw,hb.len]) (by simp [uw]) (jC _) (.inl gH) ⟨nf,ss_,?_⟩);refine go2 ?_;refine sQ (dD tyT O mm_ (by simp [uw,hb.len])) O ?_;refine sQ (oY qD arT O (.nil _)) O ?_;refine sQ (FU (r:=(val b.w==0)) O O (n5 8 dd_ ID I2 (nX hb.len) (nX zz_) (CH hb.len hb.lim))) O ?_;refine go_ ?_;refine aZ _ O (fun hb0=>?_) (fun hb0=>?_)
  ·replace hb0:=cB_ hb0
   have hp:0<val b.w:=Nat.pos_of_ne_zero (by simpa using hb0);refine go_ ?_;refine sQ (dD tyT O mm_ (by simp [uw,ha.len])) O ?_;refine sQ (dD tyT O mm_ (by simp [uw,hb.len])) O ?_;refine sQ (bW aS (sG a.w b.w ha.len hb.len ha.lim hb.lim hp) O) O (go3 ?_);refine bL O (fF qD (fun b9 hb9=>bL O (fF qD (fun b10 hb10=>bL O (cC tyT O O uu_ (by simp [uw,dU]) (by simp [uw]) (jC _) (.inl gH) ?_)))));refine bL O (cC tyT O O uu_ (by simp [uw,dU]) (by simp [uw]) (jC _) (.inl gH) ?_);refine go2 ?_;refine gdr (sk (sk (sk (sk (sd (sk (sk s0))))))) [0,4,8,12,16,21] [5] mix (by kernel_rfl) (pQ O (dD tyT O mm_ (by simp [uw,hb.len])) ?_);refine pQ O (bJ (bW aS (gF false b.w hb.len hb.lim) O) (GJ hb.len hb.lim false)) (pQ O (dD tyT O mm_ (by simp [uw,dU])) ?_);refine pQ O (bJ (bW aS (gF false _ (dU _ _) (nB _ _)) O) (congrArg RV (pA false (tM ha)))) (pQ O (bW aS (IH (Z.of (sgn false (val b.w))).enc (Z.of (sgn false (val a.w % val b.w))).enc (Z.enc_ok _) (Z.enc_ok _) (by rw [VE (tM ha),← hn];exact Nat.mod_lt _ hp)) O) ?_);refine gA O O (cC tyT O O uu_ (aV _) O (bS _) (.inl gH) ⟨nf,ss_,?_⟩);refine go2 ?_;refine rtX O ⟨_,_,_,_,_,_,rfl,mm_,tyT,_,(eJ (aV _)),(aV _),rfl⟩ ?_;exact QZ ha hb hg.1 hg.2
  replace hb0:=cB_ hb0
  refine go2 ?_;refine sQ (dD tyT O mm_ (dO ha)) O ?_;refine sQ (bW aS (xX a ha) O) O (bL O (cC tyT O O uu_ (aV _) O (bS _) (.inl gH) ?_));refine go2 ?_;refine rtX O ⟨_,_,_,_,_,_,rfl,mm_,tyT,_,(eJ (aV _)),(aV _),rfl⟩ ?_;exact Q1 ha hb hg.1 hg.2 (by simpa using hb0)
 refine gA O O (fF qD (fun b8 hb8=>⟨(fun _=>by first|exact sd s0|exact s0),ss_,?_⟩));refine gA O O (fF qD (fun b7 hb7=>⟨(fun _=>by first|exact sd s0|exact s0),ss_,?_⟩));refine gA O O (cC tyT O O uu_ (by simp [uw,ha.len]) (by simp [uw]) (jC _) (.inl gH) ⟨nf,ss_,?_⟩);refine gA O O (cC tyT O O uu_ (by simp [uw,hb.len]) (by simp [uw]) (jC _) (.inl gH) ⟨nf,ss_,?_⟩);refine go2 ?_;refine sQ (dD tyT O mm_ (by simp [uw,hb.len])) O ?_;refine sQ (oY qD arT O (.nil _)) O ?_;refine sQ (FU (r:=(val b.w==0)) O O (n5 8 dd_ ID I2 (nX hb.len) (nX zz_) (CH hb.len hb.lim))) O ?_;refine go_ ?_;refine aZ _ O (fun hb0=>?_) (fun hb0=>?_)
 ·replace hb0:=cB_ hb0
  have hp:0<val b.w:=Nat.pos_of_ne_zero (by simpa using hb0);refine go_ ?_;refine sQ (dD tyT O mm_ (by simp [uw,ha.len])) O ?_;refine sQ (dD tyT O mm_ (by simp [uw,hb.len])) O ?_;refine sQ (bW aS (sG a.w b.w ha.len hb.len ha.lim hb.lim hp) O) O (go3 ?_);refine bL O (fF qD (fun b9 hb9=>bL O (fF qD (fun b10 hb10=>bL O (cC tyT O O uu_ (by simp [uw,dU]) (by simp [uw]) (jC _) (.inl gH) ?_)))));refine bL O (cC tyT O O uu_ (by simp [uw,dU]) (by simp [uw]) (jC _) (.inl gH) ?_);refine go2 ?_;refine gdr (sk (sk (sk (sk (sd (sk (sk s0))))))) [0,4,8,12,16,21] [5] mix (by kernel_rfl) (pQ O (dD tyT O mm_ (by simp [uw,hb.len])) ?_);refine pQ O (bJ (bW aS (gF false b.w hb.len hb.lim) O) (GJ hb.len hb.lim false)) (pQ O (dD tyT O mm_ (by simp [uw,dU])) ?_);refine pQ O (bJ (bW aS (gF false _ (dU _ _) (nB _ _)) O) (congrArg RV (pA false (tM ha)))) (pQ O (bW aS (IH (Z.of (sgn false (val b.w))).enc (Z.of (sgn false (val a.w % val b.w))).enc (Z.enc_ok _) (Z.enc_ok _) (by rw [VE (tM ha),← hn];exact Nat.mod_lt _ hp)) O) ?_);refine gA O O (cC tyT O O uu_ (aV _) O (bS _) (.inl gH) ⟨nf,ss_,?_⟩);refine go2 ?_;refine rtX O ⟨_,_,_,_,_,_,rfl,mm_,tyT,_,(eJ (aV _)),(aV _),rfl⟩ ?_;exact QZ ha hb hg.1 hg.2
 replace hb0:=cB_ hb0
 refine go2 ?_;refine sQ (dD tyT O mm_ (dO ha)) O ?_;refine sQ (bW aS (xX a ha) O) O (bL O (cC tyT O O uu_ (aV _) O (bS _) (.inl gH) ?_));refine go2 ?_;refine rtX O ⟨_,_,_,_,_,_,rfl,mm_,tyT,_,(eJ (aV _)),(aV _),rfl⟩ ?_;exact Q1 ha hb hg.1 hg.2 (by simpa using hb0)
theorem vA (a b:R) (ha:a.Ok) (hb:b.Ok):Ret prog 160 [RV a,RV b] (RV (Z.gcd a.dec b.dec).enc):=by
 generalize hn:val b.w=n
 induction n using Nat.strongRecOn generalizing a b with
 | ind n ih=>exact KP n (fun a b ha hb h=>ih _ h a b ha hb O) a b ha hb hn
theorem CQ  :
  Ret prog 175 [] (AV [pI F_ratio_one]):=by
 refine cJ (N:=2) func175 O O zz_ (fun w0=>?_);refine giI ?_;obtain ⟨q0,hq0⟩:=nm ((E (Z.of 1)):I);refine go2 ?_;intro b1 hb1;refine go2 ?_;refine sC (AV [pI q0]) aS (iE (wl 1).1 (wl 1).2) O O (by subst hq0;rfl) ?_;refine go3 ?_;refine rtX O (fV O m0 tyT O) ?_;exact (by obtain rfl:=hq0.symm;rfl)
theorem nP  :
  Ret prog 158 [] (AV [pI sI.n,pI sI.d]):=by
 refine cJ (N:=4) func158 O O zz_ (fun w0=>?_);refine giI ?_;obtain ⟨q0,hq0⟩:=nm ((E Z.bad):I);obtain ⟨q1,hq1⟩:=nm (F_ratio_one:I);refine go2 ?_;intro b1 hb1;refine go2 ?_;refine sC (AV [pI q0]) aS jL O O (by subst hq0;rfl) (sC (AV [pI q1]) aS CQ O O (by subst hq1;rfl) (go4 ?_));refine rtX O (fV O m0 tyT O) ?_;exact (by subst_vars;rfl)
theorem tU (a:I) :
    Ret prog 174 [AV [pI a]] (.bool (lD a)):=by
 refine cJ (N:=10) func174 O O zz_ (fun w0=>?_);refine giI ?_;refine go2 ?_;intro b1 hb1;refine go2 ?_;refine gJv (rg [] 2 8) [(2,.bool (!a.1.bad&&a.1.valid))] (fun K1 J1=>?_) ?_
 ·refine go4 ?_;rcases bt a.1.bad with h3|h3
  ·refine sB (gS h3) O (go5 ?_);refine J1 _ _ pp_ s0 (bK (zE h3))
  refine sB (gN h3) O (go_ ?_);refine sC (.bool a.1.valid) aS (vO a.1 a.2) O O O (go3 ?_);refine J1 _ _ pp_ s0 (bK (qR h3 O))
 intro g4;refine go_ ?_;refine rt1 ?_;exact (by rfl)
theorem mX (a:Rt) :
    Ret prog 141 [AV [pI a.n,pI a.d]] (.bool (dA a)):=by
 refine cJ (N:=26) func141 O O zz_ (fun w0=>?_);refine giI ?_;refine go2 ?_;intro b1 hb1;refine go2 ?_;refine gJv (rg [] 2 24) [(2,.bool ((lD a.n)&&((lD a.d)&&(decide (0<(Z.signW a.d.dec).1)&&decide ((E (Z.gcd a.n.dec a.d.dec))=F_ratio_one)))))] (fun K1 J1=>?_) ?_
 ·refine go3 ?_;refine sQ (bW aS (tU a.n) O) O ?_;refine sBB O (fun h5=>?_) (fun h5=>?_)
  ·refine go2 ?_;refine sQ (bW aS (tU a.d) O) O (go_ ?_);refine sBB O (fun h6=>?_) (fun h6=>?_)
   ·refine go2 ?_;refine sC (.int .i64 ((Z.signW a.d.dec).1)) aS (iM a.d.1 a.d.2) O O O (go2 ?_);refine sBB O (fun h7=>?_) (fun h7=>?_)
    ·refine go4 ?_;refine sC (AV [pI (E (Z.gcd a.n.dec a.d.dec))]) aS (vA a.n.1 a.d.1 a.n.2 a.d.2) O O O (sQ (bW aS CQ  rfl) O ?_);refine sQ (vM (r:=decide ((E (Z.gcd a.n.dec a.d.dec))=F_ratio_one)) O O (n5 8 dd_ VC VY (oB jU) (oB jU) (tJ o6))) O (go3 ?_);refine J1 _ _ pp_ s0 (bK (cQ h5 (cQ h6 (cQ h7 O))))
    refine pU ?_;refine J1 _ _ pp_ s0 (bK (cQ h5 (cQ h6 (iT h7))))
   refine fp_ ?_;refine J1 _ _ pp_ s0 (bK (cQ h5 (iT h6)))
  refine fr_ ?_;refine J1 _ _ pp_ s0 (bK (iT h5))
 intro g8;refine go_ ?_;refine rt1 ?_;exact (by rfl)
theorem qS (a:I) (b:I) :
    Ret prog 159 [AV [pI a],AV [pI b]] (AV [pI ((dF a b).n),pI ((dF a b).d)]):=by
 refine cJ (N:=35) func159 O O zz_ (fun w0=>?_);refine giI ?_;refine go2 ?_;intro b1 hb1;refine go_ ?_;intro b2 hb2;refine go_ ?_;intro b3 hb3;refine go2 ?_;refine gJv (rg [] 6 13) [(18,.bool (!(lD a)||(!(lD b)||((Z.signW b.dec).1==0))))] (fun K2 J2=>?_) ?_
 ·refine go2 ?_;refine sQ (bW aS (tU a) O) O (go_ ?_);rcases bt (lD a) with h6|h6
  ·refine sB (gS h6) O (go_ ?_);refine sQ (bW aS (tU b) O) O (go2 ?_);rcases bt (lD b) with h7|h7
   ·refine sB (gS h7) O (go_ ?_);refine sC (.int .i64 ((Z.signW b.dec).1)) aS (iM b.1 b.2) O O O (go3 ?_);refine J2 _ _ pp_ s0 (bK (mL h6 (mL h7 O)))
   refine sB (gN h7) O (go5 ?_);refine J2 _ _ pp_ s0 (bK (mL h6 (oM h7)))
  refine sB (gN h6) O (pU ?_);refine J2 _ _ pp_ s0 (bK (oM h6))
 intro g8;refine aZ _ O (fun h9=>?_) (fun h9=>?_)
 ·refine go_ ?_;refine sQ (bW aS nP  rfl) O (go3 ?_);refine rtX O (fV O m0 tyT O) ?_;exact congrArg vS6 (show _=(dF a b) from bE h9 O)
 refine go4 ?_;refine sC (AV [pI (E (Z.gcd a.dec b.dec))]) aS (vA a.1 b.1 a.2 b.2) O O O (go_ ?_);intro b10 hb10;refine go5 ?_;refine sC (.int .i64 ((Z.signW b.dec).1)) aS (iM b.1 b.2) O O O (go2 ?_);refine aZ _ O (fun h11=>?_) (fun h11=>?_)
 ·refine go2 ?_;refine sC (AV [pI (E (Z.neg (Z.gcd a.dec b.dec)))]) aS (xY (E (Z.gcd a.dec b.dec)).1 (E (Z.gcd a.dec b.dec)).2) O O (cg1 (fun p=>AV [pI (E (Z.neg p))]) (cP _)) (go2 ?_);refine tC (sk (sd (sk (sk s0)))) 8 [7] [7] (go2 ?_);refine pC (AV [pI (E (Z.quo a.dec (Z.neg (Z.gcd a.dec b.dec))))]) aS (kI a.1 (E (Z.neg (Z.gcd a.dec b.dec))).1 a.2 (E (Z.neg (Z.gcd a.dec b.dec))).2) O O (cg2 (fun p q=>AV [pI (E (Z.quo p q))]) O (cP _)) (go2 ?_);refine pC (AV [pI (E (Z.quo b.dec (Z.neg (Z.gcd a.dec b.dec))))]) aS (kI b.1 (E (Z.neg (Z.gcd a.dec b.dec))).1 b.2 (E (Z.neg (Z.gcd a.dec b.dec))).2) O O (cg2 (fun p q=>AV [pI (E (Z.quo p q))]) O (cP _)) (pQ O (oZ zpT plT O (.cons [pI (E (Z.quo a.dec (Z.neg (Z.gcd a.dec b.dec))))] [pI (E (Z.quo a.dec (Z.neg (Z.gcd a.dec b.dec)))),pI I0] O O O O (.cons [pI (E (Z.quo b.dec (Z.neg (Z.gcd a.dec b.dec))))] [pI (E (Z.quo a.dec (Z.neg (Z.gcd a.dec b.dec)))),pI (E (Z.quo b.dec (Z.neg (Z.gcd a.dec b.dec))))] O O O O (.nil _)))) (go3 ?_));refine rtX O (fV O m1 tyT O) ?_;exact congrArg vS6 (show _=(dF a b) from aQ h9 (bE h11 O))
 refine go_ ?_;refine tC (sk (sd (sk (sk s0)))) 8 [7] [7] (go2 ?_);refine pC (AV [pI (E (Z.quo a.dec (Z.gcd a.dec b.dec)))]) aS (kI a.1 (E (Z.gcd a.dec b.dec)).1 a.2 (E (Z.gcd a.dec b.dec)).2) O O (cg2 (fun p q=>AV [pI (E (Z.quo p q))]) O (cP _)) (go2 ?_);refine pC (AV [pI (E (Z.quo b.dec (Z.gcd a.dec b.dec)))]) aS (kI b.1 (E (Z.gcd a.dec b.dec)).1 b.2 (E (Z.gcd a.dec b.dec)).2) O O (cg2 (fun p q=>AV [pI (E (Z.quo p q))]) O (cP _)) (pQ O (oZ zpT plT O (.cons [pI (E (Z.quo a.dec (Z.gcd a.dec b.dec)))] [pI (E (Z.quo a.dec (Z.gcd a.dec b.dec))),pI I0] O O O O (.cons [pI (E (Z.quo b.dec (Z.gcd a.dec b.dec)))] [pI (E (Z.quo a.dec (Z.gcd a.dec b.dec))),pI (E (Z.quo b.dec (Z.gcd a.dec b.dec)))] O O O O (.nil _)))) (go3 ?_));refine rtX O (fV O m1 tyT O) ?_;exact congrArg vS6 (show _=(dF a b) from aQ h9 (aQ h11 O))
theorem LB (a:Rt) :
   Ret prog 167 [AV [pI a.n,pI a.d]] (AV [pI ((o4 a).n),pI ((o4 a).d)]):=by
 refine cJ (N:=13) func167 O O zz_ (fun w0=>?_);refine giI ?_;refine go2 ?_;intro b1 hb1;refine go_ ?_;intro b2 hb2;refine go4 ?_;refine sQ (bW aS (mX a) O) O (go2 ?_);rcases bt (dA a) with h3|h3
 ·refine W_f (gS h3) O (go_ ?_);refine tC (sd (sk s0)) 7 [6] [6] (go2 ?_);refine pC (AV [pI (E (Z.neg a.n.dec))]) aS (xY a.n.1 a.n.2) O O O (go2 ?_);refine pQ O (oZ zpT plT O (.cons [pI (E (Z.neg a.n.dec))] [pI (E (Z.neg a.n.dec)),pI I0] O O O O (.cons [pI a.d] [pI (E (Z.neg a.n.dec)),pI a.d] O O O O (.nil _)))) (go3 ?_);refine rtX O (fV O m0 tyT O) ?_;exact congrArg vS6 (show _=(o4 a) from bE h3 O)
 refine W_t (gN h3) O (go_ ?_);refine sQ (bW aS nP  rfl) O (go3 ?_);refine rtX O (fV O m0 tyT O) ?_;exact congrArg vS6 (show _=(o4 a) from aQ h3 O)
theorem CP (a:Rt) (b:Rt) :
    Ret prog 106 [AV [pI a.n,pI a.d],AV [pI b.n,pI b.d]] (AV [pI ((mS a b).n),pI ((mS a b).d)]):=by
 refine cJ (N:=44) func106 O O zz_ (fun w0=>?_);refine giI ?_;refine go2 ?_;intro b1 hb1;refine go_ ?_;intro b2 hb2;refine go_ ?_;intro b3 hb3;refine go2 ?_;refine gJv (rg [] 8 8) [(15,.bool (!(dA a)||(!(dA b))))] (fun K2 J2=>?_) ?_
 ·refine go2 ?_;refine sQ (bW aS (mX a) O) O (go_ ?_);rcases bt (dA a) with h5|h5
  ·refine sB (gS h5) O (go_ ?_);refine sQ (bW aS (mX b) O) O (go3 ?_);refine J2 _ _ pp_ s0 (bK (mL h5 O))
  refine sB (gN h5) O (go5 ?_);refine J2 _ _ pp_ s0 (bK (oM h5))
 intro g6;refine aZ _ O (fun h7=>?_) (fun h7=>?_)
 ·refine go_ ?_;refine sQ (bW aS nP  rfl) O (go3 ?_);refine rtX O (fV O m0 tyT O) ?_;exact congrArg vS6 (show _=(mS a b) from bE h7 O)
 refine go6 ?_;refine sC (AV [pI (E (Z.gcd a.d.dec b.d.dec))]) aS (vA a.d.1 b.d.1 a.d.2 b.d.2) O O O (go_ ?_);intro b8 hb8;refine go2 ?_;refine gDs (sk (sk (sk (sk s0)))) (.quiet 0 [1,3,7,10,11] (.quiet 1 [3,7,10,11] (.quiet 2 [3,7,10,11] (.quiet 3 [7,10,11] (.quiet 4 [5,7,10,11] (.quiet 5 [7,10,11] (.quiet 6 [7,10,11] (.quiet 7 [10,11] (.both 8 (.only 9 (.only 10 (.only 11 (.fin)))) 9 (.only 8 (.only 10 (.only 11 (.fin))))))))))))) [0,1,2,3,4,5,6,7,8,9] mix (by kernel_rfl) (by kernel_rfl) (go3 ?_);refine pC (AV [pI (E (Z.quo a.d.dec (Z.gcd a.d.dec b.d.dec)))]) aS (kI a.d.1 (E (Z.gcd a.d.dec b.d.dec)).1 a.d.2 (E (Z.gcd a.d.dec b.d.dec)).2) O O (cg2 (fun p q=>AV [pI (E (Z.quo p q))]) O (cP _)) (go3 ?_);refine pC (AV [pI (E (Z.quo b.d.dec (Z.gcd a.d.dec b.d.dec)))]) aS (kI b.d.1 (E (Z.gcd a.d.dec b.d.dec)).1 b.d.2 (E (Z.gcd a.d.dec b.d.dec)).2) O O (cg2 (fun p q=>AV [pI (E (Z.quo p q))]) O (cP _)) ?_;refine KW ?_ ?_
 ·refine gA O O (iU zpT (fun b9 hb9=>⟨(fun _=>sd s0),(sd s0),?_⟩));refine gA O O (iU zpT (fun b10 hb10=>⟨(fun _=>sd s0),(sd (sd s0)),?_⟩));refine go3 ?_;refine gds (sk (sk (sk (sd (sk (sk s0)))))) [0,4,8,12,16,20,24,28,32,36,40,44,48,52,57] [14] mix (by kernel_rfl) (go3 ?_);refine pC (AV [pI (E (Z.mul a.n.dec (Z.quo b.d.dec (Z.gcd a.d.dec b.d.dec))))]) aS (eM a.n.1 (E (Z.quo b.d.dec (Z.gcd a.d.dec b.d.dec))).1 a.n.2 (E (Z.quo b.d.dec (Z.gcd a.d.dec b.d.dec))).2) O O (cg2 (fun p q=>AV [pI (E (Z.mul p q))]) O (cP _)) (go3 ?_);refine pC (AV [pI (E (Z.mul b.n.dec (Z.quo a.d.dec (Z.gcd a.d.dec b.d.dec))))]) aS (eM b.n.1 (E (Z.quo a.d.dec (Z.gcd a.d.dec b.d.dec))).1 b.n.2 (E (Z.quo a.d.dec (Z.gcd a.d.dec b.d.dec))).2) O O (cg2 (fun p q=>AV [pI (E (Z.mul p q))]) O (cP _)) ?_;obtain ⟨r11,hr11⟩:=nm ((E (Z.add (Z.mul a.n.dec (Z.quo b.d.dec (Z.gcd a.d.dec b.d.dec))) (Z.mul b.n.dec (Z.quo a.d.dec (Z.gcd a.d.dec b.d.dec))))):I);refine pC (AV [pI r11]) aS (oT (E (Z.mul a.n.dec (Z.quo b.d.dec (Z.gcd a.d.dec b.d.dec)))).1 (E (Z.mul b.n.dec (Z.quo a.d.dec (Z.gcd a.d.dec b.d.dec)))).1 (E (Z.mul a.n.dec (Z.quo b.d.dec (Z.gcd a.d.dec b.d.dec)))).2 (E (Z.mul b.n.dec (Z.quo a.d.dec (Z.gcd a.d.dec b.d.dec)))).2) O O ((cg2 (fun p q=>AV [pI (E (Z.add p q))]) (cP _) (cP _)).trans (by rw [hr11])) (go3 ?_);refine pC (AV [pI (E (Z.mul (Z.quo a.d.dec (Z.gcd a.d.dec b.d.dec)) b.d.dec))]) aS (eM (E (Z.quo a.d.dec (Z.gcd a.d.dec b.d.dec))).1 b.d.1 (E (Z.quo a.d.dec (Z.gcd a.d.dec b.d.dec))).2 b.d.2) O O (cg2 (fun p q=>AV [pI (E (Z.mul p q))]) (cP _) O) ?_;obtain ⟨r12,hr12⟩:=nm ((dF r11 (E (Z.mul (Z.quo a.d.dec (Z.gcd a.d.dec b.d.dec)) b.d.dec))):Rt);refine pC (AV [pI r12.n,pI r12.d]) aS (qS r11 (E (Z.mul (Z.quo a.d.dec (Z.gcd a.d.dec b.d.dec)) b.d.dec))) O O (by rw [hr12]) (go3 ?_);refine rtX O (fV O m3 tyT O) ?_
  subst_vars;exact congrArg vS6 (show _=(mS a b) from aQ h7 O)
 refine gA O O (iU zpT (fun b13 hb13=>⟨(fun _=>sd s0),(sd s0),?_⟩));refine gA O O (iU zpT (fun b14 hb14=>⟨(fun _=>sd s0),(sd (sd s0)),?_⟩));refine go3 ?_;refine gds (sk (sk (sk (sd (sk (sk s0)))))) [0,4,8,12,16,20,24,28,32,36,40,44,48,52,57] [14] mix (by kernel_rfl) (go3 ?_);refine pC (AV [pI (E (Z.mul a.n.dec (Z.quo b.d.dec (Z.gcd a.d.dec b.d.dec))))]) aS (eM a.n.1 (E (Z.quo b.d.dec (Z.gcd a.d.dec b.d.dec))).1 a.n.2 (E (Z.quo b.d.dec (Z.gcd a.d.dec b.d.dec))).2) O O (cg2 (fun p q=>AV [pI (E (Z.mul p q))]) O (cP _)) (go3 ?_);refine pC (AV [pI (E (Z.mul b.n.dec (Z.quo a.d.dec (Z.gcd a.d.dec b.d.dec))))]) aS (eM b.n.1 (E (Z.quo a.d.dec (Z.gcd a.d.dec b.d.dec))).1 b.n.2 (E (Z.quo a.d.dec (Z.gcd a.d.dec b.d.dec))).2) O O (cg2 (fun p q=>AV [pI (E (Z.mul p q))]) O (cP _)) ?_;obtain ⟨r15,hr15⟩:=nm ((E (Z.add (Z.mul a.n.dec (Z.quo b.d.dec (Z.gcd a.d.dec b.d.dec))) (Z.mul b.n.dec (Z.quo a.d.dec (Z.gcd a.d.dec b.d.dec))))):I);refine pC (AV [pI r15]) aS (oT (E (Z.mul a.n.dec (Z.quo b.d.dec (Z.gcd a.d.dec b.d.dec)))).1 (E (Z.mul b.n.dec (Z.quo a.d.dec (Z.gcd a.d.dec b.d.dec)))).1 (E (Z.mul a.n.dec (Z.quo b.d.dec (Z.gcd a.d.dec b.d.dec)))).2 (E (Z.mul b.n.dec (Z.quo a.d.dec (Z.gcd a.d.dec b.d.dec)))).2) O O ((cg2 (fun p q=>AV [pI (E (Z.add p q))]) (cP _) (cP _)).trans (by rw [hr15])) (go3 ?_);refine pC (AV [pI (E (Z.mul (Z.quo a.d.dec (Z.gcd a.d.dec b.d.dec)) b.d.dec))]) aS (eM (E (Z.quo a.d.dec (Z.gcd a.d.dec b.d.dec))).1 b.d.1 (E (Z.quo a.d.dec (Z.gcd a.d.dec b.d.dec))).2 b.d.2) O O (cg2 (fun p q=>AV [pI (E (Z.mul p q))]) (cP _) O) ?_;obtain ⟨r16,hr16⟩:=nm ((dF r15 (E (Z.mul (Z.quo a.d.dec (Z.gcd a.d.dec b.d.dec)) b.d.dec))):Rt);refine pC (AV [pI r16.n,pI r16.d]) aS (qS r15 (E (Z.mul (Z.quo a.d.dec (Z.gcd a.d.dec b.d.dec)) b.d.dec))) O O (by rw [hr16]) (go3 ?_);refine rtX O (fV O m3 tyT O) ?_
 subst_vars;exact congrArg vS6 (show _=(mS a b) from aQ h7 O)
theorem LC (a:Rt) (b:Rt) :
  Ret prog 114 [AV [pI a.n,pI a.d],AV [pI b.n,pI b.d]] (AV [pI ((iS a b).n),pI ((iS a b).d)]):=by
 refine cJ (N:=9) func114 O O zz_ (fun w0=>?_);refine giI ?_;refine go2 ?_;intro b1 hb1;refine go_ ?_;intro b2 hb2;refine go_ ?_;intro b3 hb3;refine go_ ?_;refine tC (sd (sk (sk s0))) 5 [4] [4] (go2 ?_);refine pQ O (bW aS (LB b) O) (pQ O (bW aS (CP a (o4 b)) O) (go3 ?_));refine rtX O (fV O m0 tyT O) ?_;exact (by rfl)
theorem LA (a:Rt) (b:Rt) :
    Ret prog 105 [AV [pI a.n,pI a.d],AV [pI b.n,pI b.d]] (AV [pI ((kC a b).n),pI ((kC a b).d)]):=by
 refine cJ (N:=48) func105 O O zz_ (fun w0=>?_);refine giI ?_;refine go2 ?_;intro b1 hb1;refine go_ ?_;intro b2 hb2;refine go_ ?_;intro b3 hb3;refine go2 ?_;refine gJv (rg [] 9 8) [(16,.bool (!(dA a)||(!(dA b))))] (fun K2 J2=>?_) ?_
 ·refine go2 ?_;refine sQ (bW aS (mX a) O) O (go_ ?_);rcases bt (dA a) with h5|h5
  ·refine sB (gS h5) O (go_ ?_);refine sQ (bW aS (mX b) O) O (go3 ?_);refine J2 _ _ pp_ s0 (bK (mL h5 O))
  refine sB (gN h5) O (go5 ?_);refine J2 _ _ pp_ s0 (bK (oM h5))
 intro g6;refine aZ _ O (fun h7=>?_) (fun h7=>?_)
 ·refine go_ ?_;refine sQ (bW aS nP  rfl) O (go3 ?_);refine rtX O (fV O m0 tyT O) ?_;exact congrArg vS6 (show _=(kC a b) from bE h7 O)
 refine go_ ?_;refine gDs (sk (sk (sk s0))) (.quiet 0 [1,4,9,12,13] (.quiet 1 [4,9,12,13] (.quiet 2 [3,4,9,12,13] (.quiet 3 [4,9,12,13] (.quiet 4 [9,12,13] (.quiet 5 [6,9,12,13] (.quiet 6 [9,12,13] (.quiet 7 [8,9,12,13] (.quiet 8 [9,12,13] (.quiet 9 [12,13] (.both 10 (.only 11 (.only 12 (.only 13 (.fin)))) 11 (.only 10 (.only 12 (.only 13 (.fin))))))))))))))) [0,1,2,3,4,5,6,7,8,9,10,11] mix (by kernel_rfl) (by kernel_rfl) (go4 ?_);refine pQ O (bW aS (qS a.n b.d) O) (go4 ?_);refine pQ O (bW aS (qS b.n a.d) O) ?_;refine KW ?_ ?_
 ·refine gA O O (iU zpT (fun b8 hb8=>⟨(fun _=>sd s0),(sd s0),?_⟩));refine gA O O (iU zpT (fun b9 hb9=>⟨(fun _=>sd s0),(sd (sd s0)),?_⟩));refine go3 ?_;refine gDs (sk (sd (sk (sk (sk s0))))) (.quiet 0 [1,4,9,12,13] (.quiet 1 [4,9,12,13] (.quiet 2 [3,4,9,12,13] (.quiet 3 [4,9,12,13] (.quiet 4 [9,12,13] (.quiet 5 [6,9,12,13] (.quiet 6 [9,12,13] (.quiet 7 [8,9,12,13] (.quiet 8 [9,12,13] (.quiet 9 [12,13] (.both 10 (.only 11 (.only 12 (.only 13 (.fin)))) 11 (.only 10 (.only 12 (.only 13 (.fin))))))))))))))) [0,1,2,3,4,5,6,7,8,9,10,11] mix (by kernel_rfl) (by kernel_rfl) (go4 ?_);obtain ⟨r10,hr10⟩:=nm ((E (Z.mul ((dF a.n b.d).n).dec ((dF b.n a.d).n).dec)):I);refine pC (AV [pI r10]) aS (eM ((dF a.n b.d).n).1 ((dF b.n a.d).n).1 ((dF a.n b.d).n).2 ((dF b.n a.d).n).2) O O (by subst hr10;rfl) (go4 ?_);obtain ⟨r11,hr11⟩:=nm ((E (Z.mul ((dF a.n b.d).d).dec ((dF b.n a.d).d).dec)):I);refine pC (AV [pI r11]) aS (eM ((dF a.n b.d).d).1 ((dF b.n a.d).d).1 ((dF a.n b.d).d).2 ((dF b.n a.d).d).2) O O (by subst hr11;rfl) ?_;refine KW ?_ ?_
  ·refine gA O O (iU zpT (fun b12 hb12=>⟨(fun _=>sd s0),(sd (sk (sd s0))),?_⟩));refine gA O O (iU zpT (fun b13 hb13=>⟨(fun _=>sd s0),(sd (sd (sk (sd s0)))),?_⟩));refine go4 ?_;refine gJv [38,39,40,41,42,43] [(43,.bool (r10.1.bad||r11.1.bad))] (fun K4 J4=>?_) ?_
   ·refine go3 ?_;refine sBB O (fun h15=>?_) (fun h15=>?_)
    ·refine go4 ?_;refine J4 _ _ pp_ s0 (bK (mW h15))
    refine go4 ?_;refine J4 _ _ pp_ s0 (bK (lF h15 O))
   intro g16;refine aZ _ O (fun h17=>?_) (fun h17=>?_)
   ·refine go_ ?_;refine sQ (bW aS nP  rfl) O (go3 ?_);refine rtX O (fV O m4 tyT O) ?_
    subst_vars;exact congrArg vS6 (show _=(kC a b) from aQ h7 (bE h17 O))
   refine go8 ?_;refine rtX O (fV O m4 tyT O) ?_
   subst_vars;exact congrArg vS6 (show _=(kC a b) from aQ h7 (aQ h17 O))
  refine gA O O (iU zpT (fun b18 hb18=>⟨(fun _=>sd s0),(sd (sk (sd s0))),?_⟩));refine gA O O (iU zpT (fun b19 hb19=>⟨(fun _=>sd s0),(sd (sd (sk (sd s0)))),?_⟩));refine go4 ?_;refine gJv [38,39,40,41,42,43] [(43,.bool (r10.1.bad||r11.1.bad))] (fun K6 J6=>?_) ?_
  ·refine go3 ?_;refine sBB O (fun h21=>?_) (fun h21=>?_)
   ·refine go4 ?_;refine J6 _ _ pp_ s0 (bK (mW h21))
   refine go4 ?_;refine J6 _ _ pp_ s0 (bK (lF h21 O))
  intro g22;refine aZ _ O (fun h23=>?_) (fun h23=>?_)
  ·refine go_ ?_;refine sQ (bW aS nP  rfl) O (go3 ?_);refine rtX O (fV O m4 tyT O) ?_
   subst_vars;exact congrArg vS6 (show _=(kC a b) from aQ h7 (bE h23 O))
  refine go8 ?_;refine rtX O (fV O m4 tyT O) ?_
  subst_vars;exact congrArg vS6 (show _=(kC a b) from aQ h7 (aQ h23 O))
 refine gA O O (iU zpT (fun b24 hb24=>⟨(fun _=>sd s0),(sd s0),?_⟩));refine gA O O (iU zpT (fun b25 hb25=>⟨(fun _=>sd s0),(sd (sd s0)),?_⟩));refine go3 ?_;refine gDs (sk (sk (sk (sk (sk s0))))) (.quiet 0 [1,4,9,12,13] (.quiet 1 [4,9,12,13] (.quiet 2 [3,4,9,12,13] (.quiet 3 [4,9,12,13] (.quiet 4 [9,12,13] (.quiet 5 [6,9,12,13] (.quiet 6 [9,12,13] (.quiet 7 [8,9,12,13] (.quiet 8 [9,12,13] (.quiet 9 [12,13] (.both 10 (.only 11 (.only 12 (.only 13 (.fin)))) 11 (.only 10 (.only 12 (.only 13 (.fin))))))))))))))) [0,1,2,3,4,5,6,7,8,9,10,11] mix (by kernel_rfl) (by kernel_rfl) (go4 ?_);obtain ⟨r26,hr26⟩:=nm ((E (Z.mul ((dF a.n b.d).n).dec ((dF b.n a.d).n).dec)):I);refine pC (AV [pI r26]) aS (eM ((dF a.n b.d).n).1 ((dF b.n a.d).n).1 ((dF a.n b.d).n).2 ((dF b.n a.d).n).2) O O (by subst hr26;rfl) (go4 ?_);obtain ⟨r27,hr27⟩:=nm ((E (Z.mul ((dF a.n b.d).d).dec ((dF b.n a.d).d).dec)):I);refine pC (AV [pI r27]) aS (eM ((dF a.n b.d).d).1 ((dF b.n a.d).d).1 ((dF a.n b.d).d).2 ((dF b.n a.d).d).2) O O (by subst hr27;rfl) ?_;refine KW ?_ ?_
 ·refine gA O O (iU zpT (fun b28 hb28=>⟨(fun _=>sd s0),(sd s0),?_⟩));refine gA O O (iU zpT (fun b29 hb29=>⟨(fun _=>sd s0),(sd (sd s0)),?_⟩));refine go4 ?_;refine gJv [38,39,40,41,42,43] [(43,.bool (r26.1.bad||r27.1.bad))] (fun K8 J8=>?_) ?_
  ·refine go3 ?_;refine sBB O (fun h31=>?_) (fun h31=>?_)
   ·refine go4 ?_;refine J8 _ _ pp_ s0 (bK (mW h31))
   refine go4 ?_;refine J8 _ _ pp_ s0 (bK (lF h31 O))
  intro g32;refine aZ _ O (fun h33=>?_) (fun h33=>?_)
  ·refine go_ ?_;refine sQ (bW aS nP  rfl) O (go3 ?_);refine rtX O (fV O m4 tyT O) ?_
   subst_vars;exact congrArg vS6 (show _=(kC a b) from aQ h7 (bE h33 O))
  refine go8 ?_;refine rtX O (fV O m4 tyT O) ?_
  subst_vars;exact congrArg vS6 (show _=(kC a b) from aQ h7 (aQ h33 O))
 refine gA O O (iU zpT (fun b34 hb34=>⟨(fun _=>sd s0),(sd s0),?_⟩));refine gA O O (iU zpT (fun b35 hb35=>⟨(fun _=>sd s0),(sd (sd s0)),?_⟩));refine go4 ?_;refine gJv [38,39,40,41,42,43] [(43,.bool (r26.1.bad||r27.1.bad))] (fun K10 J10=>?_) ?_
 ·refine go3 ?_;refine sBB O (fun h37=>?_) (fun h37=>?_)
  ·refine go4 ?_;refine J10 _ _ pp_ s0 (bK (mW h37))
  refine go4 ?_;refine J10 _ _ pp_ s0 (bK (lF h37 O))
 intro g38;refine aZ _ O (fun h39=>?_) (fun h39=>?_)
 ·refine go_ ?_;refine sQ (bW aS nP  rfl) O (go3 ?_);refine rtX O (fV O m4 tyT O) ?_
  subst_vars;exact congrArg vS6 (show _=(kC a b) from aQ h7 (bE h39 O))
 refine go8 ?_;refine rtX O (fV O m4 tyT O) ?_
 subst_vars;exact congrArg vS6 (show _=(kC a b) from aQ h7 (aQ h39 O))
theorem pZ  :
  Ret prog 87 [] (AV [pI F_skewbackref04_one]):=by
 refine cJ (N:=2) func87 O O zz_ (fun w0=>?_);refine giI ?_;obtain ⟨q0,hq0⟩:=nm ((E (Z.of 1)):I);refine go2 ?_;intro b1 hb1;refine go2 ?_;refine sC (AV [pI q0]) aS (dV (wl 1).1 (wl 1).2) O O (by subst hq0;rfl) ?_;refine go3 ?_;refine rtX O (fV O m0 tyT O) ?_;exact (by obtain rfl:=hq0.symm;rfl)
theorem n7  :
  Ret prog 80 [] (AV [pI jE.n,pI jE.d]):=by
 refine cJ (N:=4) func80 O O zz_ (fun w0=>?_);refine giI ?_;obtain ⟨q0,hq0⟩:=nm ((E Z.bad):I);obtain ⟨q1,hq1⟩:=nm (F_skewbackref04_one:I);refine go2 ?_;intro b1 hb1;refine go2 ?_;refine sC (AV [pI q0]) aS eD O O (by subst hq0;rfl) (sC (AV [pI q1]) aS pZ O O (by subst hq1;rfl) (go4 ?_));refine rtX O (fV O m0 tyT O) ?_;exact (by subst_vars;rfl)
theorem kN (a:I) (b:I) :
    Ret prog 71 [AV [pI a],AV [pI b]] (AV [pI ((bM a b).n),pI ((bM a b).d)]):=by
 refine cJ (N:=35) func71 O O zz_ (fun w0=>?_);refine giI ?_;refine go2 ?_;intro b1 hb1;refine go_ ?_;intro b2 hb2;refine go_ ?_;intro b3 hb3;refine go2 ?_;refine gJv (rg [] 6 13) [(18,.bool (!a.1.good||(!b.1.good||((Z.signW b.dec).1==0))))] (fun K2 J2=>?_) ?_
 ·refine go2 ?_;refine sC (.bool a.1.good) aS (bX a.1 a.2) O O O (go_ ?_);rcases bt a.1.good with h6|h6
  ·refine sB (gS h6) O (go_ ?_);refine sC (.bool b.1.good) aS (bX b.1 b.2) O O O (go2 ?_);rcases bt b.1.good with h7|h7
   ·refine sB (gS h7) O (go_ ?_);refine sC (.int .i64 ((Z.signW b.dec).1)) aS (eV b.1 b.2) O O O (go3 ?_);refine J2 _ _ pp_ s0 (bK (mL h6 (mL h7 O)))
   refine sB (gN h7) O (go5 ?_);refine J2 _ _ pp_ s0 (bK (mL h6 (oM h7)))
  refine sB (gN h6) O (pU ?_);refine J2 _ _ pp_ s0 (bK (oM h6))
 intro g8;refine aZ _ O (fun h9=>?_) (fun h9=>?_)
 ·refine go_ ?_;refine sQ (bW aS n7  rfl) O (go3 ?_);refine rtX O (fV O m0 tyT O) ?_;exact congrArg vS6 (show _=(bM a b) from bE h9 O)
 refine go4 ?_;refine sC (AV [pI (E (Z.gcd a.dec b.dec))]) aS (mH a.1 b.1 a.2 b.2) O O O (go_ ?_);intro b10 hb10;refine go5 ?_;refine sC (.int .i64 ((Z.signW b.dec).1)) aS (eV b.1 b.2) O O O (go2 ?_);refine aZ _ O (fun h11=>?_) (fun h11=>?_)
 ·refine go2 ?_;refine sC (AV [pI (E (Z.neg (Z.gcd a.dec b.dec)))]) aS (uM (E (Z.gcd a.dec b.dec)).1 (E (Z.gcd a.dec b.dec)).2) O O (cg1 (fun p=>AV [pI (E (Z.neg p))]) (cP _)) (go2 ?_);refine tC (sk (sd (sk (sk s0)))) 8 [7] [7] (go2 ?_);refine pC (AV [pI (E (Z.quo a.dec (Z.neg (Z.gcd a.dec b.dec))))]) aS (gU a.1 (E (Z.neg (Z.gcd a.dec b.dec))).1 a.2 (E (Z.neg (Z.gcd a.dec b.dec))).2) O O (cg2 (fun p q=>AV [pI (E (Z.quo p q))]) O (cP _)) (go2 ?_);refine pC (AV [pI (E (Z.quo b.dec (Z.neg (Z.gcd a.dec b.dec))))]) aS (gU b.1 (E (Z.neg (Z.gcd a.dec b.dec))).1 b.2 (E (Z.neg (Z.gcd a.dec b.dec))).2) O O (cg2 (fun p q=>AV [pI (E (Z.quo p q))]) O (cP _)) (pQ O (oZ zpT plT O (.cons [pI (E (Z.quo a.dec (Z.neg (Z.gcd a.dec b.dec))))] [pI (E (Z.quo a.dec (Z.neg (Z.gcd a.dec b.dec)))),pI I0] O O O O (.cons [pI (E (Z.quo b.dec (Z.neg (Z.gcd a.dec b.dec))))] [pI (E (Z.quo a.dec (Z.neg (Z.gcd a.dec b.dec)))),pI (E (Z.quo b.dec (Z.neg (Z.gcd a.dec b.dec))))] O O O O (.nil _)))) (go3 ?_));refine rtX O (fV O m1 tyT O) ?_;exact congrArg vS6 (show _=(bM a b) from aQ h9 (bE h11 O))
 refine go_ ?_;refine tC (sk (sd (sk (sk s0)))) 8 [7] [7] (go2 ?_);refine pC (AV [pI (E (Z.quo a.dec (Z.gcd a.dec b.dec)))]) aS (gU a.1 (E (Z.gcd a.dec b.dec)).1 a.2 (E (Z.gcd a.dec b.dec)).2) O O (cg2 (fun p q=>AV [pI (E (Z.quo p q))]) O (cP _)) (go2 ?_);refine pC (AV [pI (E (Z.quo b.dec (Z.gcd a.dec b.dec)))]) aS (gU b.1 (E (Z.gcd a.dec b.dec)).1 b.2 (E (Z.gcd a.dec b.dec)).2) O O (cg2 (fun p q=>AV [pI (E (Z.quo p q))]) O (cP _)) (pQ O (oZ zpT plT O (.cons [pI (E (Z.quo a.dec (Z.gcd a.dec b.dec)))] [pI (E (Z.quo a.dec (Z.gcd a.dec b.dec))),pI I0] O O O O (.cons [pI (E (Z.quo b.dec (Z.gcd a.dec b.dec)))] [pI (E (Z.quo a.dec (Z.gcd a.dec b.dec))),pI (E (Z.quo b.dec (Z.gcd a.dec b.dec)))] O O O O (.nil _)))) (go3 ?_));refine rtX O (fV O m1 tyT O) ?_;exact congrArg vS6 (show _=(bM a b) from aQ h9 (aQ h11 O))
theorem kG (a:W) :
  Ret prog 40 [.int .i64 a.1] (AV [pI ((gW a).n),pI ((gW a).d)]):=by
 refine cJ (N:=7) func40 O O zz_ (fun w0=>?_);refine giI ?_;refine go2 ?_;intro b1 hb1;refine go3 ?_;refine sC (AV [pI (E (Z.of a.1))]) aS (dV a.1 a.2) O O O (sQ (bW aS pZ  rfl) O ?_);obtain ⟨r2,hr2⟩:=nm ((bM (E (Z.of a.1)) F_skewbackref04_one):Rt);refine sC (AV [pI r2.n,pI r2.d]) aS (kN (E (Z.of a.1)) F_skewbackref04_one) O O (by rw [hr2]) (go3 ?_);refine rtX O (fV O m0 tyT O) ?_;exact (by subst hr2;rfl)
theorem nM (a:W) (b:W) :
  Ret prog 30 [.int .i64 a.1,.int .i64 b.1] (AV [pI ((fW a b).n),pI ((fW a b).d)]):=by
 refine cJ (N:=10) func30 O O zz_ (fun w0=>?_);refine giI ?_;refine go2 ?_;intro b1 hb1;refine go3 ?_;refine sC (AV [pI (E (Z.of a.1))]) aS (dV a.1 a.2) O O O (go_ ?_);refine sC (AV [pI (E (Z.of b.1))]) aS (dV b.1 b.2) O O O ?_;obtain ⟨r2,hr2⟩:=nm ((bM (E (Z.of a.1)) (E (Z.of b.1))):Rt);refine sC (AV [pI r2.n,pI r2.d]) aS (kN (E (Z.of a.1)) (E (Z.of b.1))) O O (by rw [hr2]) (go3 ?_);refine rtX O (fV O m0 tyT O) ?_;exact (by subst hr2;rfl)
theorem i9 (a:Rt) :
    Ret prog 64 [AV [pI a.n,pI a.d]] (.bool (bB a)):=by
 refine cJ (N:=26) func64 O O zz_ (fun w0=>?_);refine giI ?_;refine go2 ?_;intro b1 hb1;refine go3 ?_;refine gJv (rg [] 3 10) [(12,.bool (!a.n.1.good||(!a.d.1.good)))] (fun K2 J2=>?_) ?_
 ·refine go3 ?_;refine sC (.bool a.n.1.good) aS (bX a.n.1 a.n.2) O O O (go_ ?_);rcases bt a.n.1.good with h3|h3
  ·refine sB (gS h3) O (go2 ?_);refine sC (.bool a.d.1.good) aS (bX a.d.1 a.d.2) O O O (go3 ?_);refine J2 _ _ pp_ s0 (bK (mL h3 O))
  refine sB (gN h3) O (go6 ?_);refine J2 _ _ pp_ s0 (bK (oM h3))
 intro g4;refine aZ _ O (fun h5=>?_) (fun h5=>?_)
 ·refine go4 ?_;refine rt1 ?_;exact congrArg vS0 (show _=(bB a) from bE h5 O)
 refine go_ ?_;refine gJv (rg [2] 13 13) [(2,.bool (decide (0<(Z.signW a.d.dec).1)&&decide ((E (Z.gcd a.n.dec a.d.dec))=F_skewbackref04_one)))] (fun K3 J3=>?_) ?_
 ·refine go3 ?_;refine sC (.int .i64 ((Z.signW a.d.dec).1)) aS (eV a.d.1 a.d.2) O O O (go_ ?_);refine sBB O (fun h7=>?_) (fun h7=>?_)
  ·refine go4 ?_;refine sC (AV [pI (E (Z.gcd a.n.dec a.d.dec))]) aS (mH a.n.1 a.d.1 a.n.2 a.d.2) O O O (sQ (bW aS pZ  rfl) O ?_);refine sQ (vM (r:=decide ((E (Z.gcd a.n.dec a.d.dec))=F_skewbackref04_one)) O O (n5 8 dd_ VC VY (oB jU) (oB jU) (tJ o6))) O (go3 ?_);refine J3 _ _ pp_ s0 (bK (cQ h7 O))
  refine pU ?_;refine J3 _ _ pp_ s0 (bK (iT h7))
 intro g8;refine go_ ?_;refine rt1 ?_;exact congrArg vS0 (show _=(bB a) from aQ h5 O)
theorem sW (a:Rt) :
    Ret prog 37 [AV [pI a.n,pI a.d]] (.bool (j5 a)):=by
 refine cJ (N:=12) func37 O O zz_ (fun w0=>?_);refine giI ?_;refine go2 ?_;intro b1 hb1;refine go4 ?_;refine sQ (bW aS (i9 a) O) O (go2 ?_);refine gJv [2,6,7,8,9,10,11] [(2,.bool ((bB a)||(decide (a.n=jE.n)&&decide (a.d=jE.d))))] (fun K1 J1=>?_) ?_
 ·refine rP (sk s0) 7 [] [] (go_ ?_);refine pBB O (fun h3=>?_) (fun h3=>?_)
  ·refine go6 ?_;refine J1 _ _ pp_ s0 (bK (mW h3))
  refine go_ ?_;refine pQ O (bW aS n7  rfl) ?_;refine pQ O (vM (r:=(decide (a.n=jE.n)&&decide (a.d=jE.d))) O O (n5 8 dd_ at_ a6_ (jW jU (oB jU)) (jW jU (oB jU)) (nT O o6 (tJ o6)))) (go3 ?_);refine J1 _ _ pp_ s0 (bK (lF h3 O))
 intro g4;refine go_ ?_;refine rt1 ?_;exact (by rfl)
theorem AM (a:Rt) (b:Rt) :
    Ret prog 81 [AV [pI a.n,pI a.d],AV [pI b.n,pI b.d]] (AV [pI ((eO a b).n),pI ((eO a b).d)]):=by
 refine cJ (N:=44) func81 O O zz_ (fun w0=>?_);refine giI ?_;refine go2 ?_;intro b1 hb1;refine go_ ?_;intro b2 hb2;refine go_ ?_;intro b3 hb3;refine go2 ?_;refine gJv (rg [] 8 8) [(15,.bool (!(bB a)||(!(bB b))))] (fun K2 J2=>?_) ?_
 ·refine go2 ?_;refine sQ (bW aS (i9 a) O) O (go_ ?_);rcases bt (bB a) with h5|h5
  ·refine sB (gS h5) O (go_ ?_);refine sQ (bW aS (i9 b) O) O (go3 ?_);refine J2 _ _ pp_ s0 (bK (mL h5 O))
  refine sB (gN h5) O (go5 ?_);refine J2 _ _ pp_ s0 (bK (oM h5))
 intro g6;refine aZ _ O (fun h7=>?_) (fun h7=>?_)
 ·refine go_ ?_;refine sQ (bW aS n7  rfl) O (go3 ?_);refine rtX O (fV O m0 tyT O) ?_;exact congrArg vS6 (show _=(eO a b) from bE h7 O)
 refine go6 ?_;refine sC (AV [pI (E (Z.gcd a.d.dec b.d.dec))]) aS (mH a.d.1 b.d.1 a.d.2 b.d.2) O O O (go_ ?_);intro b8 hb8;refine go6 ?_;refine sC (AV [pI (E (Z.quo a.d.dec (Z.gcd a.d.dec b.d.dec)))]) aS (gU a.d.1 (E (Z.gcd a.d.dec b.d.dec)).1 a.d.2 (E (Z.gcd a.d.dec b.d.dec)).2) O O (cg2 (fun p q=>AV [pI (E (Z.quo p q))]) O (cP _)) (go_ ?_);intro b9 hb9;refine go6 ?_;refine sC (AV [pI (E (Z.quo b.d.dec (Z.gcd a.d.dec b.d.dec)))]) aS (gU b.d.1 (E (Z.gcd a.d.dec b.d.dec)).1 b.d.2 (E (Z.gcd a.d.dec b.d.dec)).2) O O (cg2 (fun p q=>AV [pI (E (Z.quo p q))]) O (cP _)) (go_ ?_);intro b10 hb10;refine go2 ?_;refine gds (sk (sk (sk (sd (sk (sk s0)))))) [0,4,8,12,16,20,24,28,32,36,40,44,48,52,57] [14] mix (by kernel_rfl) (go3 ?_);refine pC (AV [pI (E (Z.mul a.n.dec (Z.quo b.d.dec (Z.gcd a.d.dec b.d.dec))))]) aS (e7 a.n.1 (E (Z.quo b.d.dec (Z.gcd a.d.dec b.d.dec))).1 a.n.2 (E (Z.quo b.d.dec (Z.gcd a.d.dec b.d.dec))).2) O O (cg2 (fun p q=>AV [pI (E (Z.mul p q))]) O (cP _)) (go3 ?_);refine pC (AV [pI (E (Z.mul b.n.dec (Z.quo a.d.dec (Z.gcd a.d.dec b.d.dec))))]) aS (e7 b.n.1 (E (Z.quo a.d.dec (Z.gcd a.d.dec b.d.dec))).1 b.n.2 (E (Z.quo a.d.dec (Z.gcd a.d.dec b.d.dec))).2) O O (cg2 (fun p q=>AV [pI (E (Z.mul p q))]) O (cP _)) ?_;obtain ⟨r11,hr11⟩:=nm ((E (Z.add (Z.mul a.n.dec (Z.quo b.d.dec (Z.gcd a.d.dec b.d.dec))) (Z.mul b.n.dec (Z.quo a.d.dec (Z.gcd a.d.dec b.d.dec))))):I);refine pC (AV [pI r11]) aS (pX (E (Z.mul a.n.dec (Z.quo b.d.dec (Z.gcd a.d.dec b.d.dec)))).1 (E (Z.mul b.n.dec (Z.quo a.d.dec (Z.gcd a.d.dec b.d.dec)))).1 (E (Z.mul a.n.dec (Z.quo b.d.dec (Z.gcd a.d.dec b.d.dec)))).2 (E (Z.mul b.n.dec (Z.quo a.d.dec (Z.gcd a.d.dec b.d.dec)))).2) O O ((cg2 (fun p q=>AV [pI (E (Z.add p q))]) (cP _) (cP _)).trans (by rw [hr11])) (go3 ?_);refine pC (AV [pI (E (Z.mul (Z.quo a.d.dec (Z.gcd a.d.dec b.d.dec)) b.d.dec))]) aS (e7 (E (Z.quo a.d.dec (Z.gcd a.d.dec b.d.dec))).1 b.d.1 (E (Z.quo a.d.dec (Z.gcd a.d.dec b.d.dec))).2 b.d.2) O O (cg2 (fun p q=>AV [pI (E (Z.mul p q))]) (cP _) O) ?_;obtain ⟨r12,hr12⟩:=nm ((bM r11 (E (Z.mul (Z.quo a.d.dec (Z.gcd a.d.dec b.d.dec)) b.d.dec))):Rt);refine pC (AV [pI r12.n,pI r12.d]) aS (kN r11 (E (Z.mul (Z.quo a.d.dec (Z.gcd a.d.dec b.d.dec)) b.d.dec))) O O (by rw [hr12]) (go3 ?_);refine rtX O (fV O m3 tyT O) ?_
 subst_vars;exact congrArg vS6 (show _=(eO a b) from aQ h7 O)
theorem AO (a:Rt) (b:Rt) :
    Ret prog 35 [AV [pI a.n,pI a.d],AV [pI b.n,pI b.d]] (AV [pI ((fD a b).n),pI ((fD a b).d)]):=by
 refine cJ (N:=41) func35 O O zz_ (fun w0=>?_);refine giI ?_;refine go2 ?_;intro b1 hb1;refine go_ ?_;intro b2 hb2;refine go_ ?_;intro b3 hb3;refine go2 ?_;refine gJv (rg [] 9 8) [(16,.bool (!(bB a)||(!(bB b))))] (fun K2 J2=>?_) ?_
 ·refine go2 ?_;refine sQ (bW aS (i9 a) O) O (go_ ?_);rcases bt (bB a) with h5|h5
  ·refine sB (gS h5) O (go_ ?_);refine sQ (bW aS (i9 b) O) O (go3 ?_);refine J2 _ _ pp_ s0 (bK (mL h5 O))
  refine sB (gN h5) O (go5 ?_);refine J2 _ _ pp_ s0 (bK (oM h5))
 intro g6;refine aZ _ O (fun h7=>?_) (fun h7=>?_)
 ·refine go_ ?_;refine sQ (bW aS n7  rfl) O (go3 ?_);refine rtX O (fV O m0 tyT O) ?_;exact congrArg vS6 (show _=(fD a b) from bE h7 O)
 refine go6 ?_;refine sQ (bW aS (kN a.n b.d) O) O (go_ ?_);intro b8 hb8;refine go7 ?_;refine sQ (bW aS (kN b.n a.d) O) O (go_ ?_);intro b9 hb9;refine go7 ?_;obtain ⟨r10,hr10⟩:=nm ((E (Z.mul ((bM a.n b.d).n).dec ((bM b.n a.d).n).dec)):I);refine sC (AV [pI r10]) aS (e7 ((bM a.n b.d).n).1 ((bM b.n a.d).n).1 ((bM a.n b.d).n).2 ((bM b.n a.d).n).2) O O (by subst hr10;rfl) (go_ ?_);intro b11 hb11;refine go7 ?_;obtain ⟨r12,hr12⟩:=nm ((E (Z.mul ((bM a.n b.d).d).dec ((bM b.n a.d).d).dec)):I);refine sC (AV [pI r12]) aS (e7 ((bM a.n b.d).d).1 ((bM b.n a.d).d).1 ((bM a.n b.d).d).2 ((bM b.n a.d).d).2) O O (by subst hr12;rfl) (go_ ?_);intro b13 hb13;refine go5 ?_;refine sQ (bW aS (kN r10 r12) O) O (go3 ?_);refine rtX O (fV O m4 tyT O) ?_
 subst_vars;exact congrArg vS6 (show _=(fD a b) from aQ h7 O)
theorem tZ (a:Rt) (b:Bool) :
   Ret prog 66 [AV [pI a.n,pI a.d],.bool b] (AV [pI (fX a b)]):=by
 refine cJ (N:=8) func66 O O zz_ (fun w0=>?_);refine giI ?_;refine go2 ?_;intro b1 hb1;refine go_ ?_;intro b2 hb2;refine go5 ?_;refine aZ _ O (fun h3=>?_) (fun h3=>?_)
 ·refine go_ ?_;refine sC (AV [pI (E (Z.of 0))]) aS (dV (wl 0).1 (wl 0).2) O O O ?_;refine go3 ?_;refine rtX O (fV O m0 tyT O) ?_;exact congrArg vS2 (show _=(fX a b) from bE h3 O)
 refine go2 ?_;refine sC (AV [pI (E Z.bad)]) aS eD O O O (go3 ?_);refine rtX O (fV O m0 tyT O) ?_;exact congrArg vS2 (show _=(fX a b) from aQ h3 O)
theorem AK (va:Value) (n k:Nat) (hk:k≤1000000) (w:World) (hva:Sl w va (dl n)) :
  Calls prog 85 [va,.int .i64 (k:Int)].toArray w (fun e w'=>e = .returned (.int .i64 ((n / 2 ^ k % 2:Nat):Int))∧Ext w w'):=by
 refine cU (N:=13) func85 O O zz_ ?_;obtain ⟨w0,rfl⟩:=nm w;refine giI ?_;refine go6 ?_;refine sQ (bJ (tS O O dd_) (congrArg (Value.int .i64) (shq 16 dd_ oo_))) O (sQ (bJ (dZ aS O (fun w hw=>gT va (dl n) (k / 16) w (SL.sl (M:=_) hva.old hw))) (congrArg (fun z:Nat=>Value.int .i64 (z:Int)) (BZ n (k / 16)))) O (go_ ?_));refine sQ (bJ (uI O O dd_) (congrArg (Value.int .i64) (shr 16 k))) O (sQ (vE O O (Int.natCast_nonneg _)) O (sQ (bJ (uI O O dd_) (congrArg (Value.int .i64) (cE_ n k))) O (go3 ?_)));refine rt1 ?_;exact rfl
theorem jS (a:R) (ha:a.Ok) :
    Ret prog 38 [RV a] (.int .i64 (a.dec.bits:Int)):=by
 refine cJ (N:=25) func38 O O zz_ (fun w0=>?_);refine giI ?_;refine go_ ?_;refine bL O (kK O O (fun b1 hb1=>go4 ?_));refine sQ (dD tyT O mm_ (dO ha)) O ?_;refine sQ (bW aS (bX a ha) O) O (go2 ?_);refine aZ _ O (fun hg=>?_) (fun hg=>?_)
 ·replace hg:=cB_ hg
  refine go4 ?_;refine rt1 ?_;exact congrArg (fun z:Nat=>Value.int .i64 (z:Int)) (Z0 (by simpa using hg)).symm
 replace hg:=cB_ hg
 refine go2 ?_;refine sQ (dD tyT O mm_ (dO ha)) O ?_;refine bL O (fU aS O (fun w hw=>bV a ha w) (fun v L hv=>go3 ?_));have hl32:(dl (val a.w)).length≤32:=i4 (by rw [← JE];have:=xW a.w ha.lim;rwa [ha.len] at this);refine go_ ?_;refine sQ (nC kX O (SL.sub hv.sl lZ)) O (sQ (bJ (WD O O) (congrArg (Value.int .i64) (g8_ (Nat.le_trans hl32 dd_)))) O (go4 ?_));refine cH (rg [4] 13 11) (fun g nn M=>∃ (k:Nat),(g 4 = .int .i64 (k:Int))∧M=L++[⟨b1,27,a.cells⟩]∧nn=k+0∧(k≤16*(dl (val a.w)).length∧val a.w<2 ^ k)) (16*(dl (val a.w)).length) ?start ?round
 case start =>
  refine ⟨_,(List.Sublist.refl _),16*(dl (val a.w)).length,?a4,?mem0,rfl,⟨Nat.le_refl _,S7 _⟩⟩
  case mem0=>rfl
  case a4=>rfl
 case round =>
  rintro nn g M ⟨k,hg4,rfl,hmeas,⟨hk,hlt⟩⟩;subst nn;refine gS1 hg4 ?_;clear hg4;refine go5 ?_
  cases hz:decide ((0:Int)<(k:Int))
  ·refine OF ?_;refine rt1 ?_;exact congrArg (fun z:Nat=>Value.int .i64 (z:Int)) (cF_ ha (by simpa using hg) hlt (by have:=of_decide_eq_false hz;omega)).symm
  have hz':=of_decide_eq_true hz;obtain ⟨m,rfl⟩:∃ m,k=m+1:=⟨k - 1,by omega⟩;refine go2 ?_;refine sQ (bJ (oO O O) (congrArg (Value.int .i64) (yK oo_))) O (sQ (dZ aS O (fun w hw=>AK v (val a.w) m oo_ w (SL.sl (SL.sub hv.sl lZ) hw))) O (go3 ?_));refine aZ _ O (fun h0=>?_) (fun h0=>?_)
  ·replace h0:=cB_ h0
   refine go4 ?_;refine sQ (bJ (oO O O) (congrArg (Value.int .i64) (yK oo_))) O (go2 ?_);refine ⟨pp_,_,_,(List.Sublist.refl _),oo_,m,?s4,?mem,rfl,⟨by omega,XL hlt oo_⟩⟩
   case mem=>rfl
   case s4=>rfl
  replace h0:=cB_ h0
  refine go6 ?_;refine rt1 ?_;exact congrArg (fun z:Nat=>Value.int .i64 (z:Int)) ((LT ha (by simpa using hg)).trans (cG_ hlt oo_)).symm
end Go.Proofs.YtokjfhfiodopdaaGreat
