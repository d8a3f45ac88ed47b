/- Lemmas: what they ask stands in their statements. -/
import Derived.Test.YtbjlhfochebmiaaGreatDoorMSg
set_option linter.unusedSimpArgs false
set_option linter.unusedVariables false
set_option maxHeartbeats 8000000
set_option maxRecDepth 20000
namespace Go.Proofs.YtbjlhfochebmiaaGreatDoor
open Go.Kn Go.Num Tryz
attribute [local irreducible] Go.Kn.W WL PL OpQ OpR OpS
theorem xU (a:R) (ha:a.Ok) :
   Ret prog 124 [RV a] (RV (Z.neg a.dec).enc):=by
 refine bA (N:=14) func124 O O zz_ (fun w0=>?_);refine giI ?_;refine go_ ?_;refine aY O (lC O O (fun b1 hb1=>aY O (eS mX (fun b2 hb2=>go3 ?_))));refine sQ (cI tyT O mm_ (cO ha)) O ?_;refine aY O (kH rI mX rN O dd_ O (zB ha) (fun b4 hb4=>sQ (dF aE O (fun w hw=>jH [a] (ok1 ha) b4 33 w (hw.mem _ m0) zz_)) O ?_));refine go2 ?_;refine aL _ O (fun hg=>?_) (fun hg=>?_)
 ·replace hg:=cB_ hg
  refine go_ ?_;refine sQ (aX aE gQ O) O (aY O (bV tyT O O uu_ (aI _) O (bN _) (.inl fP) ?_));refine go2 ?_;refine rtX O ⟨_,_,_,_,_,_,rfl,mm_,tyT,_,(dQ (aI _)),(aI _),rfl⟩ ?_
  (rw [Z.neg,AY (QR hg)];rfl)
 replace hg:=cB_ hg
 refine go2 ?_;refine sQ (cH fdT dd_ O) O (sQ (dX tyT O mm_ O) O ?_);refine go_ ?_;refine sQ (cH fdT dd_ O) O (sQ (jW (vs:=uw a.w) tyT O mm_ (nF ha.len) ((jB _).trans ha.len)) O ?_);refine sQ (aX aE (fM (!a.neg) a.w ha.len ha.lim) O) O (aY O (bV tyT O O uu_ (jY ha.len) O (bN _) (.inl fP) ?_));refine go2 ?_;refine rtX O ⟨_,_,_,_,_,_,rfl,mm_,tyT,_,(dQ (jY ha.len)),(jY ha.len),rfl⟩ ?_;exact congrArg RV (dC_ ha (by simpa using hg))
theorem EV (a:R) (ha:a.Ok) :
   Ret prog 190 [RV a] (RV (Z.abs a.dec).enc):=by
 refine bA (N:=11) func190 O O zz_ (fun w0=>?_);refine giI ?_;refine go_ ?_;refine aY O (lC O O (fun b1 hb1=>aY O (eS mX (fun b2 hb2=>go3 ?_))));refine sQ (cI tyT O mm_ (cO ha)) O ?_;refine aY O (kH rI mX rN O dd_ O (zB ha) (fun b4 hb4=>sQ (dF aE O (fun w hw=>jH [a] (ok1 ha) b4 33 w (hw.mem _ m0) zz_)) O ?_));refine go2 ?_;refine aL _ O (fun hg=>?_) (fun hg=>?_)
 ·replace hg:=cB_ hg
  refine go_ ?_;refine sQ (aX aE gQ O) O (aY O (bV tyT O O uu_ (aI _) O (bN _) (.inl fP) ?_));refine go2 ?_;refine rtX O ⟨_,_,_,_,_,_,rfl,mm_,tyT,_,(dQ (aI _)),(aI _),rfl⟩ ?_
  (rw [Z.abs,AY (QR hg)];rfl)
 replace hg:=cB_ hg
 refine go2 ?_;refine sQ (cH fdT dd_ O) O (sQ (jW (vs:=uw a.w) tyT O mm_ (nF ha.len) ((jB _).trans ha.len)) O ?_);refine sQ (aX aE (fM false a.w ha.len ha.lim) O) O (aY O (bV tyT O O uu_ (jY ha.len) O (bN _) (.inl fP) ?_));refine go2 ?_;refine rtX O ⟨_,_,_,_,_,_,rfl,mm_,tyT,_,(dQ (jY ha.len)),(jY ha.len),rfl⟩ ?_;exact congrArg RV (c3_ ha (by simpa using hg))
theorem rM (a b:R) (ha:a.Ok) (hb:b.Ok) :
    Ret prog 122 [RV a,RV b] (RV (Z.add a.dec b.dec).enc):=by
 refine bA (N:=55) func122 O O zz_ (fun w0=>?_);refine giI ?_;refine go_ ?_;refine aY O (lC O O (fun b2 hb2=>aY O (lC O O (fun b3 hb3=>aY O (eS mX (fun b4 hb4=>go3 ?_))))));refine sQ (cI tyT O mm_ (cO ha)) O ?_;refine sQ (cI tyT O mm_ (cO hb)) O ?_;refine aY O (kH rI mX rN O dd_ O (OC ha hb) (fun b9 hb9=>sQ (dF aE O (fun w hw=>jH [a,b] (ok2 ha hb) b9 33 w (hw.mem _ m0) zz_)) O ?_));refine go2 ?_;refine aL _ O (fun hg=>?_) (fun hg=>?_)
 ·replace hg:=cB_ hg
  refine go_ ?_;refine sQ (aX aE gQ O) O (aY O (bV tyT O O uu_ (aI _) O (bN _) (.inl fP) ?_));refine go2 ?_;refine rtX O ⟨_,_,_,_,_,_,rfl,mm_,tyT,_,(dQ (aI _)),(aI _),rfl⟩ ?_
  (rw [Z.add,o0 (FW hg)];rfl)
 replace hg:=cB_ hg
 have hg:=all2.1 hg;refine go3 ?_;refine sQ (cH fdT dd_ O) O (sQ (dX tyT O mm_ O) O ?_);refine sQ (cH fdT dd_ O) O (sQ (dX tyT O mm_ O) O ?_);refine sQ (ZW E0 O O) O (go_ ?_);refine aL _ O (fun hn=>?_) (fun hn=>?_)
 ·replace hn:=cB_ hn
  refine go_ ?_;refine sQ (cH fdT dd_ O) O (sQ (jW (vs:=uw a.w) tyT O mm_ (nF ha.len) ((jB _).trans ha.len)) O ?_);refine sQ (cH fdT dd_ O) O (sQ (jW (vs:=uw b.w) tyT O mm_ (nF hb.len) ((jB _).trans hb.len)) O ?_);refine sQ (aX aE (LF a.w b.w ha.len hb.len ha.lim hb.lim) O) O (go3 ?_);refine aY O (eS sU (fun b5 hb5=>aY O (bV tyT O O uu_ (by rw [jB,dB]) O (jP _) (.inl fP) ?_)));refine go7 ?_;refine aL _ O (fun hc=>?_) (fun hc=>?_)
  ·replace hc:=cB_ hc
   refine go_ ?_;refine sQ (aX aE gQ O) O (aY O (bV tyT O O uu_ (aI _) O (bN _) (.inl fP) ?_));refine go2 ?_;refine rtX O ⟨_,_,_,_,_,_,rfl,mm_,tyT,_,(dQ (aI _)),(aI _),rfl⟩ ?_;exact congrArg RV (XT ha hb hg.1 hg.2 hn oo_)
  replace hc:=cB_ hc
  refine go2 ?_;refine sQ (cH fdT dd_ O) O (sQ (dX tyT O mm_ O) O ?_);refine sQ (cI tyT O mm_ (by rw [jB,dB])) O ?_;refine sQ (aX aE (fM a.neg _ (dB _ _) (nT _ _)) O) O (aY O (bV tyT O O uu_ (jY (dB _ _)) O (bN _) (.inl fP) ?_));refine go2 ?_;refine rtX O ⟨_,_,_,_,_,_,rfl,mm_,tyT,_,(dQ (jY (dB _ _))),(jY (dB _ _)),rfl⟩ ?_;exact congrArg RV (XU ha hb hg.1 hg.2 hn oo_)
 replace hn:=cB_ hn
 refine go3 ?_;refine sQ (cH fdT dd_ O) O (sQ (jW (vs:=uw a.w) tyT O mm_ (nF ha.len) ((jB _).trans ha.len)) O ?_);refine sQ (cH fdT dd_ O) O (sQ (jW (vs:=uw b.w) tyT O mm_ (nF hb.len) ((jB _).trans hb.len)) O ?_);refine sQ (aX aE (rA a.w b.w ha.len hb.len ha.lim hb.lim) O) O (go2 ?_);refine aL _ O (fun ho=>?_) (fun ho=>?_)
 ·replace ho:=cB_ ho
  have hle:val b.w≤val a.w:=T4 ho;refine go_ ?_;refine kY (sk (sd (sk (sk s0)))) 9 [8] [8] (pQ O (cH fdT dd_ O) (pQ O (dX tyT O mm_ O) ?_));refine pQ O (cH fdT dd_ O) (pQ O (jW (vs:=uw a.w) tyT O mm_ (nF ha.len) ((jB _).trans ha.len)) ?_);refine pQ O (cH fdT dd_ O) (pQ O (jW (vs:=uw b.w) tyT O mm_ (nF hb.len) ((jB _).trans hb.len)) ?_);refine pQ O (aX aE (yG a.w b.w ha.len hb.len ha.lim hb.lim hle) O) (pQ O (aX aE (fM a.neg _ (dB _ _) (nT _ _)) O) ?_);refine cJ O O (bV tyT O O uu_ (jY (dB _ _)) O (bN _) (.inl fP) ⟨nf,ss_,?_⟩);refine go2 ?_;refine rtX O ⟨_,_,_,_,_,_,rfl,mm_,tyT,_,(dQ (jY (dB _ _))),(jY (dB _ _)),rfl⟩ ?_;exact congrArg RV (XV ha hb hg.1 hg.2 hn hle)
 replace ho:=cB_ ho
 have hle:val a.w≤val b.w:=X5 ho;refine go2 ?_;refine kY (sk (sd (sk (sk s0)))) 9 [8] [8] (pQ O (cH fdT dd_ O) (pQ O (dX tyT O mm_ O) ?_));refine pQ O (cH fdT dd_ O) (pQ O (jW (vs:=uw b.w) tyT O mm_ (nF hb.len) ((jB _).trans hb.len)) ?_);refine pQ O (cH fdT dd_ O) (pQ O (jW (vs:=uw a.w) tyT O mm_ (nF ha.len) ((jB _).trans ha.len)) ?_);refine pQ O (aX aE (yG b.w a.w hb.len ha.len hb.lim ha.lim hle) O) (pQ O (aX aE (fM b.neg _ (dB _ _) (nT _ _)) O) ?_);refine cJ O O (bV tyT O O uu_ (jY (dB _ _)) O (bN _) (.inl fP) ⟨nf,ss_,?_⟩);refine go2 ?_;refine rtX O ⟨_,_,_,_,_,_,rfl,mm_,tyT,_,(dQ (jY (dB _ _))),(jY (dB _ _)),rfl⟩ ?_;exact congrArg RV (XW ha hb hg.1 hg.2 hn hle)
theorem EW (a b:R) (ha:a.Ok) (hb:b.Ok) :
  Ret prog 133 [RV a,RV b] (RV (Z.sub a.dec b.dec).enc):=by
 refine bA (N:=9) func133 O O zz_ (fun w0=>?_);refine giI ?_;refine go_ ?_;refine aY O (lC O O (fun b2 hb2=>aY O (lC O O (fun b3 hb3=>aY O (eS mX (fun b4 hb4=>go2 ?_))))));refine kY (sd (sk (sk s0))) 5 [4] [4] (pQ O (cI tyT O mm_ (cO ha)) ?_);refine pQ O (cI tyT O mm_ (cO hb)) ?_;refine pQ O (aX aE (xU b hb) O) (pQ O (aX aE (rM a (Z.neg b.dec).enc ha (Z.enc_ok _)) O) ?_);refine cJ O O (bV tyT O O uu_ (aI _) O (bN _) (.inl fP) ⟨nf,ss_,?_⟩);refine go2 ?_;refine rtX O ⟨_,_,_,_,_,_,rfl,mm_,tyT,_,(dQ (aI _)),(aI _),rfl⟩ ?_
 (rw [zW];rfl)
theorem nV (a:R) (ha:a.Ok) :
   Ret prog 103 [RV a] (.int .i64 a.dec.sign):=by
 refine bA (N:=17) func103 O O zz_ (fun w0=>?_);refine giI ?_;refine go_ ?_;refine aY O (lC O O (fun b1 hb1=>go5 ?_));refine sQ (cI tyT O mm_ (cO ha)) O ?_;refine aY O (kH rI mX rN O dd_ O (zB ha) (fun b5 hb5=>sQ (dF aE O (fun w hw=>jH [a] (ok1 ha) b5 33 w (hw.mem _ m0) zz_)) O ?_));refine go2 ?_
 cases hg:[a].all R.good
 ·refine uP ?_;refine rt1 ?_;exact congrArg _ (EJ ha (.inl (by simpa using hg)))
 refine sQ (cH fdT dd_ O) O (sQ (jW (vs:=uw a.w) tyT O mm_ (nF ha.len) ((jB _).trans ha.len)) O ?_);refine sQ (sD sU arT O (.nil _)) O ?_;refine sQ (tB (r:=a.zero) O O (kC 8 dd_ JA JP (qG ha.len) (qG zz_) ha.zero_iff)) O ?_;refine go3 ?_;refine aL _ O (fun hz=>?_) (fun hz=>?_)
 ·replace hz:=cB_ hz
  refine go4 ?_;refine rt1 ?_;exact congrArg _ (EJ ha (.inr hz))
 replace hz:=cB_ hz
 refine go_ ?_;refine sQ (cH fdT dd_ O) O (sQ (dX tyT O mm_ O) O ?_);refine go2 ?_;refine aL _ O (fun hn=>?_) (fun hn=>?_)
 ·replace hn:=cB_ hn
  refine go4 ?_;refine rt1 ?_;exact congrArg _ (RI ha (by simpa using hg) hz hn)
 replace hn:=cB_ hn
 refine go5 ?_;refine rt1 ?_;exact congrArg _ (RJ ha (by simpa using hg) hz hn)
theorem fB (n:Int) (hn:I64 n) :
   Ret prog 59 [.int .i64 n] (RV (Z.of n).enc):=by
 refine bA (N:=19) func59 O O zz_ (fun w0=>?_);refine giI ?_;refine go_ ?_;refine aY O (eS mX (fun b2 hb2=>go3 ?_));refine sQ (eX FS gA O) O (go7 ?_);refine aL _ O (fun h0=>?_) (fun h0=>?_)
 ·replace h0:=cB_ h0
  refine go2 ?_;refine sQ (aM (Z2 O) (congrArg (Value.int .u64) (dF_ hn h0))) O (go5 ?_);refine sQ (aM (lU O) (show _=Value.int .u64 (n.natAbs:Int) from by first|rfl|exact congrArg (Value.int .u64) (ON hn h0))) O ?_;refine sQ (eX gA i4 O) O (sQ (aM (lU O) (show _=Value.int .u64 (n.natAbs:Int) from by first|rfl|exact congrArg (Value.int .u64) (ON hn h0))) O ?_);refine sQ (aM (xZ O O dd_) (congrArg (Value.int .u64) (uS _ 32))) O (sQ (eX gA i4 O) O (sQ (sD sU arT O (YM (ZQ _) (ZP (by unfold I64 at hn;omega)))) O (sQ (aX aE (fM (decide (n<0)) _ zz_ (Y7 (Nat.mod_lt _ dd_) (by unfold I64 at hn;omega) 14)) O) O ?_)));refine aY O (bV tyT O O uu_ (jY zz_) O (bN _) (.inl fP) ?_);refine go2 ?_;refine rtX O ⟨_,_,_,_,_,_,rfl,mm_,tyT,_,(dQ (jY zz_)),(jY zz_),rfl⟩ ?_;exact congrArg RV (ZO hn O O)
 replace h0:=cB_ h0
 refine go4 ?_;refine sQ (aM (lU O) (show _=Value.int .u64 (n.natAbs:Int) from by first|rfl|exact congrArg (Value.int .u64) (ON hn h0))) O ?_;refine sQ (eX gA i4 O) O (sQ (aM (lU O) (show _=Value.int .u64 (n.natAbs:Int) from by first|rfl|exact congrArg (Value.int .u64) (ON hn h0))) O ?_);refine sQ (aM (xZ O O dd_) (congrArg (Value.int .u64) (uS _ 32))) O (sQ (eX gA i4 O) O (sQ (sD sU arT O (YM (ZQ _) (ZP (by unfold I64 at hn;omega)))) O (sQ (aX aE (fM (decide (n<0)) _ zz_ (Y7 (Nat.mod_lt _ dd_) (by unfold I64 at hn;omega) 14)) O) O ?_)));refine aY O (bV tyT O O uu_ (jY zz_) O (bN _) (.inl fP) ?_);refine go2 ?_;refine rtX O ⟨_,_,_,_,_,_,rfl,mm_,tyT,_,(dQ (jY zz_)),(jY zz_),rfl⟩ ?_;exact congrArg RV (ZO hn O O)
theorem jZ (a b:R) (ha:a.Ok) (hb:b.Ok) :
    Ret prog 123 [RV a,RV b] (RV (Z.mul a.dec b.dec).enc):=by
 refine bA (N:=82) func123 O O zz_ (fun w0=>?_);refine giI ?_;refine go_ ?_;refine aY O (lC O O (fun b2 hb2=>aY O (lC O O (fun b3 hb3=>aY O (eS mX (fun b4 hb4=>go3 ?_))))));refine sQ (cI tyT O mm_ (cO ha)) O ?_;refine sQ (cI tyT O mm_ (cO hb)) O ?_;refine aY O (kH rI mX rN O dd_ O (OC ha hb) (fun b13 hb13=>sQ (dF aE O (fun w hw=>jH [a,b] (ok2 ha hb) b13 33 w (hw.mem _ m0) zz_)) O ?_));refine go2 ?_;refine aL _ O (fun hg=>?_) (fun hg=>?_)
 ·replace hg:=cB_ hg
  refine go_ ?_;refine sQ (aX aE gQ O) O (aY O (bV tyT O O uu_ (aI _) O (bN _) (.inl fP) ?_));refine go2 ?_;refine rtX O ⟨_,_,_,_,_,_,rfl,mm_,tyT,_,(dQ (aI _)),(aI _),rfl⟩ ?_
  (rw [Z.mul,o0 (FW hg)];rfl)
 replace hg:=cB_ hg
 have hg:=all2.1 hg;refine go2 ?_;refine aY O (eS fR_ (fun b5 hb5=>go2 ?_));have hsa:=yF a.w;have hsb:=yF b.w;rw [ha.len] at hsa;rw [hb.len] at hsb;refine kY (sk (sk (sk (sk (sk s0))))) 8 [] [] (pQ O (cH fdT dd_ O) (pQ O (jW (vs:=uw a.w) tyT O mm_ (nF ha.len) ((jB _).trans ha.len)) ?_));refine pQ O (aX aE (qH a.w ha.len) O) (pQ O (cH fdT dd_ O) (pQ O (jW (vs:=uw b.w) tyT O mm_ (nF hb.len) ((jB _).trans hb.len)) ?_));refine pQ O (aX aE (qH b.w hb.len) O) (go9 ?_);refine cE (rg [8,9,10] 24 43) (fun g nn M=>∃ (i:Nat) (l:List Nat),(g 24 = .int .i64 (i:Int))∧M=[⟨b5,179,uw l⟩,⟨b4,33,zR⟩,⟨b3,33,b.cells⟩,⟨b2,33,a.cells⟩]∧nn=szL a.w - i∧(i≤szL a.w∧MulOut (val a.w) (val b.w) (szL b.w) i l)) (szL a.w - 0) ?start ?round
 case start =>
  refine ⟨_,(List.Sublist.cons_cons _ (List.Sublist.cons _ (List.Sublist.refl _))),0,_,?a24,?mem0,rfl,⟨Nat.zero_le _,MulOut.start _ _ _⟩⟩
  case mem0=>rfl
  case a24=>rfl
 case round =>
  rintro nn g M ⟨i,l,hg24,rfl,hmeas,⟨hile,hM⟩⟩;subst nn;refine gS1 hg24 ?_;clear hg24;refine go4 ?_;refine aL _ O (fun hi=>?_) (fun hi=>?_)
  ·replace hi:=cB_ hi
   have hia:i<a.w.length:=by rw [ha.len];omega
   refine V4 ?_;refine cE (rg [9,10] 28 32) (fun g nn M=>∃ (k:Nat) (l:List Nat) (c:Nat),(g 9 = .int .u64 (c:Int)∧g 28 = .int .i64 (k:Int))∧M=[⟨b5,179,uw l⟩,⟨b4,33,zR⟩,⟨b3,33,b.cells⟩,⟨b2,33,a.cells⟩]∧nn=szL b.w - k∧(k≤szL b.w∧MulIn (val a.w) (val b.w) (szL b.w) i k l c)) (szL b.w - 0) ?start ?round
   case start =>
    refine ⟨_,(List.Sublist.refl _),0,l,0,⟨?a9,?a28⟩,?mem0,rfl,⟨Nat.zero_le _,hM.row⟩⟩
    case mem0=>rfl
    case a9=>rfl
    case a28=>rfl
   case round =>
    rintro nn g M ⟨k,l,c,⟨hg9,hg28⟩,rfl,hmeas,⟨hkle,hM⟩⟩;subst nn;refine gS2 hg9 hg28 ?_;clear hg9 hg28;refine go4 ?_;refine aL _ O (fun hk=>?_) (fun hk=>?_)
    ·replace hk:=cB_ hk
     have hkb:k<b.w.length:=by rw [hb.len];omega
     refine go8 ?_;refine gdr (sk (sk (sk (sk s0)))) [0,4,8,12,16,20,24,28,32,36,40,44,48,52,56,60,64,68,72,76,80] [] mix (by kernel_rfl) (go2 ?_);refine pQ O (cH fdT dd_ O) (pQ O (eZ arT O O oo_ oo_) (pQ O (dX tyT O mm_ (oZ hia)) ?_));refine pQ O (eX i4 gA O) (go_ ?_);refine pQ O (cH fdT dd_ O) (pQ O (eZ arT O O oo_ oo_) (pQ O (dX tyT O mm_ (oZ hkb)) ?_));refine pQ O (eX i4 gA O) (go3 ?_);refine pQ O (aM (j3 O O) (congrArg (Value.int .i64) (rC oo_))) (pQ O (eZ arT O O oo_ oo_) (pQ O (dX tyT O mm_ (wY (by rw [hM.len];omega))) ?_));refine pQ O (eX i4 gA O) (go_ ?_);refine pQ O (aM (j3 O O) (congrArg (Value.int .u64) (eX_ (eJ ha.lim i) (eJ hb.lim k) (eJ hM.lim (i+k)) hM.clt))) (go5 ?_);refine sQ (aM (j3 O O) (congrArg (Value.int .i64) (rC oo_))) O (go_ ?_);refine sQ (aM (eX gA i4 O) (rR _)) O (sQ (eZ arT O O oo_ oo_) O (aY O (pZ tyT O O uu_ (by rw [hM.len];omega) (.inl fP) ?_)));refine go3 ?_;refine sQ (aM (xZ O O dd_) (congrArg (Value.int .u64) (uS _ 32))) O (go3 ?_);refine sQ (aM (j3 O O) (congrArg (Value.int .i64) (lJ oo_))) O (go2 ?_);refine ⟨pp_,_,_,(List.Sublist.refl _),oo_,k+1,_,_,⟨?s9,?s28⟩,?mem,rfl,⟨by omega,WK hM ha.lim hb.lim oo_ oo_⟩⟩
     case mem=>rfl
     case s9=>rfl
     case s28=>rfl
    replace hk:=cB_ hk
    obtain rfl:k=szL b.w:=by omega
    refine go4 ?_;refine sQ (aM (j3 O O) (congrArg (Value.int .i64) (rC oo_))) O (go_ ?_);refine sQ (aM (eX gA i4 O) (ej_ hM.clt)) O (sQ (eZ arT O O oo_ oo_) O (aY O (pZ tyT O O uu_ (by rw [hM.len];omega) (.inl fP) ?_)));refine go2 ?_;refine sQ (aM (j3 O O) (congrArg (Value.int .i64) (lJ oo_))) O (go2 ?_);refine ⟨pp_,_,_,(List.Sublist.refl _),oo_,i+1,_,?s24,?mem,rfl,⟨by omega,hM.done oo_ (xL hb.lim)⟩⟩
    case mem=>rfl
    case s24=>rfl
  replace hi:=cB_ hi
  obtain rfl:i=szL a.w:=by omega
  refine go3 ?_;refine sQ (yE arT O O O dd_ dd_ dd_ dd_) O (sQ (Z3 arT O dd_) O (sQ (jW (vs:=uw (l.drop 16)) tyT O mm_ (fM_ hM.len) (by simp [uw,hM.len])) O ?_));refine sQ (sD sU arT O (.nil _)) O ?_;refine sQ (wP (r:=decide (l.drop 16=List.replicate 16 0)) O O (kC 8 dd_ JA JP (qG (by simp [hM.len])) (qG zz_) (dh_ _ _))) O ?_;refine go_ ?_;refine aL _ O (fun h71=>?_) (fun h71=>?_)
  ·replace h71:=cB_ h71
   refine go_ ?_;refine sQ (aX aE gQ O) O (aY O (bV tyT O O uu_ (aI _) O (bN _) (.inl fP) ?_));refine go2 ?_;refine rtX O ⟨_,_,_,_,_,_,rfl,mm_,tyT,_,(dQ (aI _)),(aI _),rfl⟩ ?_;exact congrArg RV (bt_ ha hb hg.1 hg.2 hM.len hM.lim (JS hM ha) (by simpa using h71))
  replace h71:=cB_ h71
  refine go2 ?_;refine kY (sk (sd (sk (sk s0)))) 10 [9] [9] (pQ O (cH fdT dd_ O) (pQ O (dX tyT O mm_ O) ?_));refine pQ O (cH fdT dd_ O) (pQ O (dX tyT O mm_ O) ?_);refine pQ O (xF E0 O O) (pQ O (yE arT O O O dd_ dd_ dd_ dd_) (pQ O (Z3 arT O dd_) (pQ O (jW (vs:=uw (l.take 16)) tyT O mm_ (fN_ hM.len) (by simp [uw,hM.len])) ?_)));refine pQ O (aX aE (fM (a.neg != b.neg) (l.take 16) (by simp [hM.len]) (hM.lim.take 16)) O) ?_;refine cJ O O (bV tyT O O uu_ (jY (by simp [hM.len])) O (bN _) (.inl fP) ⟨nf,ss_,?_⟩);refine go2 ?_;refine rtX O ⟨_,_,_,_,_,_,rfl,mm_,tyT,_,(dQ (jY (by simp [hM.len]))),(jY (by simp [hM.len])),rfl⟩ ?_;exact congrArg RV (bu_ ha hb hg.1 hg.2 hM.len hM.lim (JS hM ha) (by simpa using h71))
theorem IA (us vs:List Nat) (n j:Nat) (H:QH us vs n j) (bu T:Nat) (w:World) (hbu:w.heap[bu]? = some (.cells (uw us).toArray T (0,0))) :
    Calls prog 217 [.pointer (some ⟨bu,0,none⟩),UV vs,.int .i64 (n:Int),.int .i64 (j:Int)].toArray w (fun e w'=>∃ x:Nat,e = .returned (.int .u64 (x:Int))∧Ext w w'∧PM us vs j x):=by
 refine P1 (N:=77) (g:=fun x:Nat=>.int .u64 (x:Int)) (Q:=fun x:Nat=>PM us vs j x) func217 O O zz_ ?_;obtain ⟨w0,rfl⟩:=nm w;refine giI ?_;have G:=H.gh;have hn2:=H.n2;have hjn:=H.jn;have hul:=H.ulen;have hvl:=H.vlen;refine go_ ?_;refine aY O (lC O O (fun b5 hb5=>go3 ?_));refine gdr (sk s0) [0,4,8,12,16,20,24,28,32,36,40,44,48,52,56,60,64,68,72,76] [] mix (by kernel_rfl) (go3 ?_);refine pQ O (aM (j3 O O) (congrArg (Value.int .i64) (rC oo_))) (go_ ?_);refine pQ O (eZ arT O O oo_ oo_) (pQ O (IQ tyT O hbu zz_ (wY oo_)) ?_);refine pQ O (aM (eX i4 gA O) (zL (eJ H.ulim _))) (pQ O (aM (ER O O dd_) (congrArg (Value.int .u64) (z5 (eJ H.ulim _)))) (go3 ?_));refine pQ O (aM (j3 O O) (congrArg (Value.int .i64) (rC oo_))) (pQ O (aM (rD O O) (congrArg (Value.int .i64) (wV (b:=1) O oo_ oo_))) (go_ ?_));refine pQ O (eZ arT O O oo_ oo_) (pQ O (IQ tyT O hbu zz_ (wY oo_)) ?_);refine pQ O (aM (eX i4 gA O) (zL (eJ H.ulim _))) (pQ O (aM (OT O O) (congrArg (Value.int .u64) (QW (eJ H.ulim _) (eJ H.ulim _)))) (go4 ?_));refine sQ (aM (rD O O) (congrArg (Value.int .i64) (wV (b:=1) O oo_ oo_))) O (sQ (eZ arT O O oo_ oo_) O (sQ (dX tyT O mm_ (wY oo_)) O ?_));refine sQ (aM (eX i4 gA O) (zL (eJ H.vlim _))) O (go3 ?_);refine kY (sk s0) 8 [] [] (go2 ?_);refine pQ O (aM (lI O O (by have:=G.f0;omega)) (congrArg (Value.int .u64) (bI_ (by have:=G.topLt;have:=G.f1;omega)))) (go2 ?_);refine pQ O (aM (tQ O O (by have:=G.f0;omega)) (congrArg (Value.int .u64) (EH _ _))) (go5 ?_);refine cE (rg [11,12] 43 33) (fun g nn M=>∃ (d rest:Nat),(g 11 = .int .u64 (d:Int)∧g 12 = .int .u64 (rest:Int))∧M=[⟨b5,31,uw vs⟩]∧nn=d∧(GI (vs.getD (n - 1) 0) (us.getD (j+n) 0*4294967296+us.getD (j+n - 1) 0) (val us / (val vs*4294967296 ^ j)) d rest)) ((us.getD (j+n) 0*4294967296+us.getD (j+n - 1) 0) / vs.getD (n - 1) 0) ?start ?round
 case start =>
  refine ⟨_,(List.Sublist.refl _),_,_,⟨?a11,?a12⟩,?mem0,rfl,GI.start G⟩
  case mem0=>rfl
  case a11=>rfl
  case a12=>rfl
 case round =>
  rintro nn g M ⟨d,rest,⟨hg11,hg12⟩,rfl,hmeas,hG⟩;subst nn;refine gS2 hg11 hg12 ?_;clear hg11 hg12;refine go2 ?_;refine gdr (sk s0) [0,4,8,12,16,20,24,28,32,36,40,44,48,52,56,60,64,68,72,76,80,84,88,92,96,100,104,108] [] mix (by kernel_rfl) (go3 ?_)
  cases h2:decide ((rest:Int)<4294967296)
  ·refine gf_ ?_;refine rt1 ?_;exact ⟨d,rfl,MM H hG (.inl (by have:=of_decide_eq_false h2;omega))⟩
  refine go3 ?_
  cases h5:decide ((4294967296:Int)≤(d:Int))
  ·refine go2 ?_;refine pQ O (aM (rD O O) (congrArg (Value.int .i64) (wV (b:=2) O oo_ oo_))) (pQ O (eZ arT O O oo_ oo_) (pQ O (dX tyT O mm_ (wY oo_)) ?_));refine pQ O (aM (eX i4 gA O) (zL (eJ H.vlim _))) (pQ O (aM (UT O O) (congrArg (Value.int .u64) (UM (UH (by have:=of_decide_eq_false h5;omega) (eJ H.vlim _))))) (go_ ?_));refine pQ O (aM (ER O O dd_) (congrArg (Value.int .u64) (z5 (by have:=of_decide_eq_true h2;omega)))) (go3 ?_);refine pQ O (aM (j3 O O) (congrArg (Value.int .i64) (rC oo_))) (pQ O (aM (rD O O) (congrArg (Value.int .i64) (wV (b:=2) O oo_ oo_))) (go_ ?_));refine pQ O (eZ arT O O oo_ oo_) (pQ O (IQ tyT O hbu zz_ (wY oo_)) ?_);refine pQ O (aM (eX i4 gA O) (zL (eJ H.ulim _))) (pQ O (aM (OT O O) (congrArg (Value.int .u64) (QW (by have:=of_decide_eq_true h2;omega) (eJ H.ulim _)))) (go4 ?_));refine aL _ O (fun h68=>?_) (fun h68=>?_)
   ·replace h68:=cB_ h68
    refine go3 ?_;have hmore:=GI.more G hG (by have:=of_decide_eq_true h2;omega) (by first|exact .inl (by have:=of_decide_eq_true h5;omega)|exact .inr (by exact_mod_cast h68));refine go_ ?_;refine sQ (aM (rD O O) (congrArg (Value.int .u64) (KS O hmore.1 (by have:=GI.dlt G hG;omega)))) O (go5 ?_);refine sQ (aM (j3 O O) (congrArg (Value.int .u64) (NY (by have:=hG.rlt;have:=G.f1;omega)))) O (go2 ?_);refine ⟨pp_,_,_,(List.Sublist.refl _),(by have:=hmore.1;omega),d - 1,rest+vs.getD (n - 1) 0,⟨?s11,?s12⟩,?mem,rfl,hmore.2⟩
    case mem=>rfl
    case s11=>rfl
    case s12=>rfl
   replace h68:=cB_ h68
   refine go6 ?_;refine rt1 ?_;exact ⟨d,rfl,MM H hG (.inr ⟨by have:=of_decide_eq_false h5;omega,by have h69:=Int.not_lt.1 h68;exact_mod_cast h69⟩)⟩
  refine gc_ ?_;have hmore:=GI.more G hG (by have:=of_decide_eq_true h2;omega) (by first|exact .inl (by have:=of_decide_eq_true h5;omega)|exact .inr (by exact_mod_cast h68));refine go_ ?_;refine sQ (aM (rD O O) (congrArg (Value.int .u64) (KS O hmore.1 (by have:=GI.dlt G hG;omega)))) O (go5 ?_);refine sQ (aM (j3 O O) (congrArg (Value.int .u64) (NY (by have:=hG.rlt;have:=G.f1;omega)))) O (go2 ?_);refine ⟨pp_,_,_,(List.Sublist.refl _),(by have:=hmore.1;omega),d - 1,rest+vs.getD (n - 1) 0,⟨?s11,?s12⟩,?mem,rfl,hmore.2⟩
  case mem=>rfl
  case s11=>rfl
  case s12=>rfl
theorem LG (us vs:List Nat) (n j d:Nat) (hu:us.length=17) (lu:Lim us) (hv:vs.length=16) (lv:Lim vs) (hV:val vs<4294967296 ^ n) (hjn:j+n≤16) (hsm:val us<4294967296 ^ (j+n+1)) (hd:d<4294967296) (bu T:Nat) (w:World) (hbu:w.heap[bu]? = some (.cells (uw us).toArray T (0,0))) :
    Calls prog 218 [.pointer (some ⟨bu,0,none⟩),UV vs,.int .i64 (n:Int),.int .i64 (j:Int),.int .u64 (d:Int)].toArray w (fun e w'=>∃ x:List Nat×Nat,e = .returned (.bool (((x.2:Nat):Int)==1))∧ExtX [bu] w w'∧w'.heap[bu]? = some (.cells (uw x.1).toArray T (0,0))∧Took us (val vs) d j n x):=by
 refine P0 (N:=78) (g:=fun x:List Nat×Nat=>.bool (((x.2:Nat):Int)==1)) (cs':=fun x:List Nat×Nat=>uw x.1) (Q:=fun x:List Nat×Nat=>Took us (val vs) d j n x) func218 O O zz_ hbu ?_;obtain ⟨w0,rfl⟩:=nm w;refine giI ?_;refine go_ ?_;refine aY O (lC O O (fun b6 hb6=>uP ?_));refine cE (rg [11,12,13,14] 17 38) (fun g nn M=>∃ (i:Nat) (l:List Nat) (c bo:Nat),(g 11 = .int .u64 (c:Int)∧g 12 = .int .u64 (bo:Int)∧g 17 = .int .i64 (i:Int))∧M=[⟨b6,31,uw vs⟩,⟨bu,T,uw l⟩]∧nn=n - i∧(i≤n∧TakeIn us (val vs) d j i l c bo)) (n - 0) ?start ?round
 case start =>
  refine ⟨_,(List.Sublist.refl _),0,us,0,0,⟨?a11,?a12,?a17⟩,?mem0,rfl,⟨Nat.zero_le _,TakeIn.start hu lu _ _ _⟩⟩
  case mem0=>rfl
  case a11=>rfl
  case a12=>rfl
  case a17=>rfl
 case round =>
  rintro nn g M ⟨i,l,c,bo,⟨hg11,hg12,hg17⟩,rfl,hmeas,⟨hi,hT⟩⟩;subst nn;refine gS3 hg11 hg12 hg17 ?_;clear hg11 hg12 hg17;refine go4 ?_;refine aL _ O (fun hc=>?_) (fun hc=>?_)
  ·replace hc:=cB_ hc
   have hc:i<n:=by omega
   refine wH ?_;refine sQ (eZ arT O O oo_ oo_) O (sQ (dX tyT O mm_ (wY oo_)) O ?_);refine sQ (eX i4 gA O) O (go_ ?_);refine sQ (aM (j3 O O) (congrArg (Value.int .u64) (d8_ hT.clt hd (eJ lv i)))) O (go6 ?_);refine sQ (aM (j3 O O) (congrArg (Value.int .i64) (rC oo_))) O (go_ ?_);refine sQ (eZ arT O O oo_ oo_) O (sQ (dX tyT O mm_ (wY (by rw [hT.len];omega))) O ?_);refine sQ (eX i4 gA O) O (go_ ?_);refine sQ (aM (eX gA i4 O) (rR _)) O (sQ (eX i4 gA O) O (go2 ?_));refine sQ (aM (rD O O) (congrArg (Value.int .u64) (cF_ hT.ble (eJ hT.lim _) (Nat.mod_lt _ dd_)))) O (go6 ?_);refine sQ (aM (j3 O O) (congrArg (Value.int .i64) (rC oo_))) O (go_ ?_);refine sQ (aM (eX gA i4 O) (rR _)) O (go_ ?_);refine sQ (eZ arT O O oo_ oo_) O (aY O (pZ tyT O O uu_ (by rw [hT.len];omega) (by first|exact .inl fP|exact .inr (List.mem_singleton.2 O)) ?_));refine go3 ?_;refine sQ (aM (xZ O O dd_) (congrArg (Value.int .u64) (uS _ 63))) O (go4 ?_);refine sQ (aM (xZ O O dd_) (congrArg (Value.int .u64) (uS _ 32))) O (go3 ?_);refine sQ (aM (j3 O O) (congrArg (Value.int .i64) (lJ oo_))) O (go2 ?_);refine ⟨pp_,_,_,(List.Sublist.refl _),oo_,i+1,_,_,_,⟨?s11,?s12,?s17⟩,?mem,rfl,⟨by omega,TS hT lv oo_ hd⟩⟩
   case mem=>rfl
   case s11=>rfl
   case s12=>rfl
   case s17=>rfl
  replace hc:=cB_ hc
  obtain rfl:n=i:=by omega
  refine go5 ?_;refine sQ (aM (j3 O O) (congrArg (Value.int .i64) (rC oo_))) O (go_ ?_);refine sQ (eZ arT O O oo_ oo_) O (sQ (dX tyT O mm_ (wY (by rw [hT.len];omega))) O ?_);refine sQ (eX i4 gA O) O (go3 ?_);refine sQ (aM (rD O O) (congrArg (Value.int .u64) (d6_ hT.ble (eJ hT.lim _) hT.clt))) O (go6 ?_);refine sQ (aM (j3 O O) (congrArg (Value.int .i64) (rC oo_))) O (go_ ?_);refine sQ (aM (eX gA i4 O) (rR _)) O (go_ ?_);refine sQ (eZ arT O O oo_ oo_) O (aY O (pZ tyT O O uu_ (by rw [hT.len];omega) (by first|exact .inl fP|exact .inr (List.mem_singleton.2 O)) ?_));refine go3 ?_;refine sQ (aM (xZ O O dd_) (congrArg (Value.int .u64) (uS _ 63))) O (go4 ?_);refine rt1 ?_;exact ⟨(_,_),rfl,by first|exact .tail _ (.head _)|exact .head _,TakeIn.took hT oo_ hV lu hsm⟩
theorem LD (us vs:List Nat) (n j:Nat) (hu:us.length=17) (lu:Lim us) (hv:vs.length=16) (lv:Lim vs) (hV:val vs<4294967296 ^ n) (hjn:j+n≤16) (hsm:val us<4294967296 ^ (j+n+1)) (bu T:Nat) (w:World) (hbu:w.heap[bu]? = some (.cells (uw us).toArray T (0,0))) :
    Calls prog 219 [.pointer (some ⟨bu,0,none⟩),UV vs,.int .i64 (n:Int),.int .i64 (j:Int)].toArray w (fun e w'=>∃ x:List Nat,e = .returned (.tuple #[])∧ExtX [bu] w w'∧w'.heap[bu]? = some (.cells (uw x).toArray T (0,0))∧Gave us (val vs) j n x):=by
 refine P0 (N:=52) (g:=fun x:List Nat=>.tuple #[]) (cs':=fun x:List Nat=>uw x) (Q:=fun x:List Nat=>Gave us (val vs) j n x) func219 O O zz_ hbu ?_;obtain ⟨w0,rfl⟩:=nm w;refine giI ?_;refine go_ ?_;refine aY O (lC O O (fun b5 hb5=>jE ?_));refine cE (rg [8,9] 11 29) (fun g nn M=>∃ (i:Nat) (l:List Nat) (c:Nat),(g 8 = .int .u64 (c:Int)∧g 11 = .int .i64 (i:Int))∧M=[⟨b5,31,uw vs⟩,⟨bu,T,uw l⟩]∧nn=n - i∧(i≤n∧GiveIn us (val vs) j i l c)) (n - 0) ?start ?round
 case start =>
  refine ⟨_,(List.Sublist.refl _),0,us,0,⟨?a8,?a11⟩,?mem0,rfl,⟨Nat.zero_le _,GiveIn.start hu lu _ _⟩⟩
  case mem0=>rfl
  case a8=>rfl
  case a11=>rfl
 case round =>
  rintro nn g M ⟨i,l,c,⟨hg8,hg11⟩,rfl,hmeas,⟨hi,hT⟩⟩;subst nn;refine gS2 hg8 hg11 ?_;clear hg8 hg11;refine go4 ?_;refine aL _ O (fun hc=>?_) (fun hc=>?_)
  ·replace hc:=cB_ hc
   have hc:i<n:=by omega
   refine go8 ?_;refine kY (sk (sk s0)) 16 [] [] (go4 ?_);refine pQ O (aM (j3 O O) (congrArg (Value.int .i64) (rC oo_))) (go_ ?_);refine pQ O (eZ arT O O oo_ oo_) (pQ O (dX tyT O mm_ (wY (by rw [hT.len];omega))) ?_);refine pQ O (eX i4 gA O) (go_ ?_);refine pQ O (eZ arT O O oo_ oo_) (pQ O (dX tyT O mm_ (wY oo_)) ?_);refine pQ O (eX i4 gA O) (go_ ?_);refine pQ O (aM (j3 O O) (congrArg (Value.int .u64) (do_ hT.cle (eJ hT.lim _) (eJ lv i)))) (go6 ?_);refine sQ (aM (j3 O O) (congrArg (Value.int .i64) (rC oo_))) O (go_ ?_);refine sQ (aM (eX gA i4 O) (rR _)) O (go_ ?_);refine sQ (eZ arT O O oo_ oo_) O (aY O (pZ tyT O O uu_ (by rw [hT.len];omega) (by first|exact .inl fP|exact .inr (List.mem_singleton.2 O)) ?_));refine go3 ?_;refine sQ (aM (xZ O O dd_) (congrArg (Value.int .u64) (uS _ 32))) O (go3 ?_);refine sQ (aM (j3 O O) (congrArg (Value.int .i64) (lJ oo_))) O (go2 ?_);refine ⟨pp_,_,_,(List.Sublist.refl _),oo_,i+1,_,_,⟨?s8,?s11⟩,?mem,rfl,⟨by omega,SK hT lv oo_⟩⟩
   case mem=>rfl
   case s8=>rfl
   case s11=>rfl
  replace hc:=cB_ hc
  obtain rfl:n=i:=by omega
  refine go_ ?_;refine kY (sk (sd s0)) 13 [12] [12] (go3 ?_);refine pQ O (aM (j3 O O) (congrArg (Value.int .i64) (rC oo_))) (go_ ?_);refine pQ O (eZ arT O O oo_ oo_) (pQ O (dX tyT O mm_ (wY (by rw [hT.len];omega))) ?_);refine go_ ?_;refine pQ O (eX gA i4 O) (pQ O (aM (j3 O O) (dn_ (eJ hT.lim _) hT.cle)) (go_ ?_));refine pQ O (eZ arT O O oo_ oo_) ?_;refine cJ O O (pZ tyT O O uu_ (by rw [hT.len];omega) (by first|exact .inl fP|exact .inr (List.mem_singleton.2 O)) ⟨nf,ss_,?_⟩);refine go_ ?_;refine gq_ O (.inl O) ?_;exact ⟨_,rfl,by first|exact .tail _ (.head _)|exact .head _,GiveIn.gave hT oo_ hV lu hsm⟩
theorem MP (x:Nat) (hx:x<4294967296) :
    Ret prog 203 [U32 x] (.int .i64 ((bl x:Nat):Int)):=by
 refine bA (N:=19) func203 O O zz_ (fun w0=>?_);refine giI ?_;refine go8 ?_;refine aL _ O (fun h1=>?_) (fun h1=>?_)
 ·replace h1:=cB_ h1
  refine go2 ?_;refine sQ (aM (xZ O O dd_) (O7 x 16)) O (jE ?_);refine aL _ O (fun h2=>?_) (fun h2=>?_)
  ·replace h2:=cB_ h2
   refine go2 ?_;refine sQ (aM (xZ O O dd_) (O7 _ 8)) O (jE ?_);refine sQ (aM (eX i4 QL O) (VH oo_)) O (sQ (OR (n:=256) bl b1_ O O oo_ (by decide +kernel)) O (sQ (aM (eX QL FS O) (II oo_)) O (go4 ?_)));refine rt1 ?_;exact IP (c:=24) O dd_ oo_ (by rw [C9 (k:=16) oo_,C9 (n:=x / 2 ^ 16) (k:=8) oo_];omega)
  replace h2:=cB_ h2
  refine go4 ?_;refine sQ (aM (eX i4 QL O) (VH oo_)) O (sQ (OR (n:=256) bl b1_ O O oo_ (by decide +kernel)) O (sQ (aM (eX QL FS O) (II oo_)) O (go4 ?_)));refine rt1 ?_;exact IP (c:=16) O dd_ oo_ (by rw [C9 (k:=16) oo_])
 replace h1:=cB_ h1
 refine go6 ?_;refine aL _ O (fun h2=>?_) (fun h2=>?_)
 ·replace h2:=cB_ h2
  refine go2 ?_;refine sQ (aM (xZ O O dd_) (O7 _ 8)) O (jE ?_);refine sQ (aM (eX i4 QL O) (VH oo_)) O (sQ (OR (n:=256) bl b1_ O O oo_ (by decide +kernel)) O (sQ (aM (eX QL FS O) (II oo_)) O (go4 ?_)));refine rt1 ?_;exact IP (c:=8) O dd_ oo_ (by rw [C9 (k:=8) oo_])
 replace h2:=cB_ h2
 refine go4 ?_;refine sQ (aM (eX i4 QL O) (VH oo_)) O (sQ (OR (n:=256) bl b1_ O O oo_ (by decide +kernel)) O (sQ (aM (eX QL FS O) (II oo_)) O (go4 ?_)));refine rt1 ?_;exact IP (c:=0) O dd_ oo_ oo_
theorem ZA (x:Nat) (hx:x<4294967296) :
  Ret prog 216 [U32 x] (.int .i64 ((32 - bl x:Nat):Int)):=by
 refine bA (N:=6) func216 O O zz_ (fun w0=>?_);refine giI ?_;refine go5 ?_;refine sQ (aX aE (MP x hx) O) O (go4 ?_);refine rt1 ?_;exact congrArg (Value.int .i64) (dy_ hx)
theorem yW (xs:List Nat) (hx:xs.length=16) (lx:Lim xs) (n:Nat) (hn:n<32) :
    Ret prog 205 [UV xs,.int .i64 (n:Int)] (.tuple #[UV (toL 16 (val xs*2 ^ n)),U32 (val xs*2 ^ n / 4294967296 ^ 16)]):=by
 refine bA (N:=30) func205 O O zz_ (fun w0=>?_);refine giI ?_;refine go_ ?_;refine aY O (lC O O (fun b2 hb2=>aY O (eS sU (fun b4 hb4=>go3 ?_))));refine aY O (eS sU (fun b6 hb6=>go9 ?_));refine cE (rg [] 7 20) (fun g nn M=>∃ (k:Nat),(g 7 = .int .u64 ((mc (val xs) (2 ^ n) k:Nat):Int)∧g 9 = .int .i64 (k:Int))∧M=[⟨b6,31,uw (AS k (val xs*2 ^ n) 16)⟩,⟨b4,31,uw (List.replicate 16 0)⟩,⟨b2,31,uw xs⟩]∧nn=16 - k∧(k≤16)) (16) ?start ?round
 case start =>
  refine ⟨_,(List.Sublist.refl _),0,⟨?a7,?a9⟩,?mem0,rfl,Nat.zero_le _⟩
  case mem0=>rw [BU]
  case a7=>rw [bs_];rfl
  case a9=>rfl
 case round =>
  rintro nn g M ⟨k,⟨hg7,hg9⟩,rfl,hmeas,hk⟩;subst nn;refine gS2 hg7 hg9 ?_;clear hg7 hg9;refine go4 ?_;refine aL _ O (fun hc=>?_) (fun hc=>?_)
  ·replace hc:=cB_ hc
   have hc:k<16:=by omega
   refine jE ?_;refine sQ (eZ arT O O oo_ oo_) O (sQ (dX tyT O mm_ (wY oo_)) O ?_);refine sQ (eX i4 gA O) O (go_ ?_);refine sQ (aM (ER O O oo_) (congrArg (Value.int .u64) (bV_ (eJ lx k) oo_))) O (sQ (aM (OT O O) (congrArg (Value.int .u64) (fL_ (cr_ (m:=2 ^ n) _ k (Nat.pow_pos dd_)) (eJ lx k) hn))) O (go5 ?_));refine sQ (aM (eX gA i4 O) (rR _)) O (sQ (eZ arT O O oo_ oo_) O (aY O (pZ tyT O O uu_ (by rw [k7 _ hk];exact hc) (.inl fP) ?_)));refine go3 ?_;refine sQ (aM (xZ O O dd_) (congrArg (Value.int .u64) (uS _ 32))) O (go6 ?_);refine ⟨pp_,_,_,(List.Sublist.refl _),oo_,k+1,⟨?s7,?s9⟩,?mem,rfl,oo_⟩
   case mem=>rw [fQ xs k lx,ZF,AT _ hc]
   case s7=>exact congrArg (fun m:Nat=>Value.int .u64 (m:Int)) (by rw [fQ xs k lx];exact ZE _ _ _)
   case s9=>exact congrArg (Value.int .i64) (lJ oo_)
  replace hc:=cB_ hc
  obtain rfl:k=16:=by omega
  refine go2 ?_;refine sQ (cI tyT O mm_ (by simp [uw,k7])) O ?_;refine go_ ?_;refine sQ (aM (eX gA i4 O) (rR _)) O (aY O (bV tyT O O uu_ (by simp [uw,k7]) O (jP _) (.inl fP) ?_));refine go3 ?_;refine wX O (.inr O) ⟨_,_,_,_,_,_,rfl,mm_,tyT,_,(dQ (by simp [uw,k7])),(by simp [uw,k7]),rfl⟩ O ?_
  (rw [EB,eQ_ hx lx,Nat.mod_eq_of_lt (VI hx lx hn)];rfl)
theorem D6 (xs:List Nat) (hx:xs.length=16) (lx:Lim xs) (n:Nat) (hn:n<32) :
    Ret prog 206 [UV xs,.int .i64 (n:Int)] (UV (toL 16 (val xs / 2 ^ n))):=by
 refine bA (N:=33) func206 O O zz_ (fun w0=>?_);refine giI ?_;refine go_ ?_;refine aY O (lC O O (fun b2 hb2=>aY O (eS sU (fun b4 hb4=>go2 ?_))));refine aY O (eS sU (fun b5 hb5=>go6 ?_));refine cE (rg [] 6 26) (fun g nn M=>∃ (k:Nat),(g 8 = .int .i64 (k:Int))∧M=[⟨b5,31,uw (AS k (val xs / 2 ^ n) 16)⟩,⟨b4,31,uw (List.replicate 16 0)⟩,⟨b2,31,uw xs⟩]∧nn=16 - k∧(k≤16)) (16) ?start ?round
 case start =>
  refine ⟨_,(List.Sublist.refl _),0,?a8,?mem0,rfl,Nat.zero_le _⟩
  case mem0=>rw [BU]
  case a8=>rfl
 case round =>
  rintro nn g M ⟨k,hg8,rfl,hmeas,hk⟩;subst nn;refine gS1 hg8 ?_;clear hg8;refine go4 ?_;refine aL _ O (fun hc=>?_) (fun hc=>?_)
  ·replace hc:=cB_ hc
   have hc:k<16:=by omega
   refine SM ?_;refine sQ (aM (j3 O O) (congrArg (Value.int .i64) (lJ oo_))) O (go2 ?_);refine aL _ O (fun h13=>?_) (fun h13=>?_)
   ·replace h13:=cB_ h13
    refine go2 ?_;refine sQ (aM (j3 O O) (congrArg (Value.int .i64) (lJ oo_))) O (sQ (eZ arT O O oo_ oo_) O (sQ (dX tyT O mm_ (wY oo_)) O ?_));refine sQ (aM (eX i4 gA O) (congrArg (Value.int .u64) (mR (eJ lx _)))) O (go4 ?_);refine sQ (aM (lU O) (show _=Value.int .u64 ((dig (val xs) (k+1):Nat):Int) from by first|exact congrArg (fun m:Nat=>Value.int .u64 (m:Int)) (fQ xs (k+1) lx)|exact congrArg (fun m:Nat=>Value.int .u64 (m:Int)) (P7 hx lx oo_).symm)) O ?_;refine sQ (aM (ER O O dd_) (congrArg (Value.int .u64) (z5 (tX _ _)))) O (go_ ?_);refine sQ (eZ arT O O oo_ oo_) O (sQ (dX tyT O mm_ (wY oo_)) O ?_);refine sQ (aM (eX i4 gA O) (congrArg (Value.int .u64) ((mR (eJ lx _)).trans (by rw [fQ xs k lx])))) O (sQ (aM (OT O O) (congrArg (Value.int .u64) (IJ (tX _ _) (tX _ _)))) O (go_ ?_));refine sQ (aM (xZ O O oo_) (congrArg (Value.int .u64) (cE_ hn))) O (sQ (aM (eX gA i4 O) (rR _)) O (sQ (eZ arT O O oo_ oo_) O (aY O (pZ tyT O O uu_ (by rw [k7 _ hk];exact hc) (.inl fP) ?_))));refine go5 ?_;refine ⟨pp_,_,_,(List.Sublist.refl _),oo_,k+1,?s8,?mem,rfl,oo_⟩
    case mem=>rw [I9 k oo_,AT _ hc]
    case s8=>exact congrArg (Value.int .i64) (lJ oo_)
   replace h13:=cB_ h13
   refine go3 ?_;refine sQ (aM (lU O) (show _=Value.int .u64 ((dig (val xs) (k+1):Nat):Int) from by first|exact congrArg (fun m:Nat=>Value.int .u64 (m:Int)) (fQ xs (k+1) lx)|exact congrArg (fun m:Nat=>Value.int .u64 (m:Int)) (P7 hx lx oo_).symm)) O ?_;refine sQ (aM (ER O O dd_) (congrArg (Value.int .u64) (z5 (tX _ _)))) O (go_ ?_);refine sQ (eZ arT O O oo_ oo_) O (sQ (dX tyT O mm_ (wY oo_)) O ?_);refine sQ (aM (eX i4 gA O) (congrArg (Value.int .u64) ((mR (eJ lx _)).trans (by rw [fQ xs k lx])))) O (sQ (aM (OT O O) (congrArg (Value.int .u64) (IJ (tX _ _) (tX _ _)))) O (go_ ?_));refine sQ (aM (xZ O O oo_) (congrArg (Value.int .u64) (cE_ hn))) O (sQ (aM (eX gA i4 O) (rR _)) O (sQ (eZ arT O O oo_ oo_) O (aY O (pZ tyT O O uu_ (by rw [k7 _ hk];exact hc) (.inl fP) ?_))));refine go5 ?_;refine ⟨pp_,_,_,(List.Sublist.refl _),oo_,k+1,?s8,?mem,rfl,oo_⟩
   case mem=>rw [I9 k oo_,AT _ hc]
   case s8=>exact congrArg (Value.int .i64) (lJ oo_)
  replace hc:=cB_ hc
  obtain rfl:k=16:=by omega
  refine go2 ?_;refine sQ (cI tyT O mm_ (by simp [uw,k7])) O ?_;refine aY O (bV tyT O O uu_ (by simp [uw,k7]) O (jP _) (.inl fP) ?_);refine go2 ?_;refine rtX O ⟨_,_,_,_,_,_,rfl,mm_,tyT,_,(dQ (by simp [uw,k7])),(by simp [uw,k7]),rfl⟩ ?_
  (rw [EB];rfl)
theorem IB (xs:List Nat) (hx:xs.length=16) (lx:Lim xs) (d:Nat) (hd:d<4294967296) (h0:0<d) :
    Ret prog 215 [UV xs,U32 d] (.tuple #[UV (toL 16 (val xs / d)),U32 (val xs % d)]):=by
 refine bA (N:=33) func215 O O zz_ (fun w0=>?_);refine giI ?_;refine go_ ?_;refine aY O (lC O O (fun b2 hb2=>aY O (eS sU (fun b4 hb4=>jE ?_))));refine cE (rg [] 6 24) (fun g nn M=>∃ (k:Nat),(g 6 = .int .u64 ((val xs / 4294967296 ^ k % d:Nat):Int)∧g 7 = .int .i64 ((k:Int) - 1))∧M=[⟨b4,31,uw (zX k (val xs / d))⟩,⟨b2,31,uw xs⟩]∧nn=k+0∧(k≤16)) (16) ?start ?round
 case start =>
  refine ⟨_,(List.Sublist.refl _),16,⟨?a6,?a7⟩,?mem0,rfl,Nat.le_refl _⟩
  case mem0=>rw [V9]
  case a6=>rw [eF_ hx lx];rfl
  case a7=>rfl
 case round =>
  rintro nn g M ⟨k,⟨hg6,hg7⟩,rfl,hmeas,hk⟩;subst nn;refine gS2 hg6 hg7 ?_;clear hg6 hg7;refine go5 ?_;refine aL _ O (fun hc=>?_) (fun hc=>?_)
  ·replace hc:=cB_ hc
   obtain ⟨m,rfl⟩:∃ m,k=m+1:=⟨k - 1,by omega⟩;have hr:val xs / 4294967296 ^ (m+1) % d<4294967296:=Nat.lt_trans (Nat.mod_lt _ h0) hd;refine go4 ?_;refine sQ (aM (lU O) O) O (sQ (aM (ER O O dd_) (congrArg (Value.int .u64) (z5 hr))) O (sQ (aM (lU O) (congrArg (Value.int .i64) (show (((m+1:Nat):Int) - 1)=(m:Int) by omega))) O (sQ (eZ arT O O oo_ oo_) O (sQ (dX tyT O mm_ (wY oo_)) O ?_))));refine sQ (aM (eX i4 gA O) (congrArg (Value.int .u64) ((mR (eJ lx _)).trans (by rw [fQ xs m lx])))) O (sQ (aM (OT O O) (congrArg (Value.int .u64) (IJ hr (tX _ _)))) O (go3 ?_));refine sQ (aM (lU O) (congrArg (Value.int .i64) (show (((m+1:Nat):Int) - 1)=(m:Int) by omega))) O (go2 ?_);refine sQ (aM (eX i4 gA O) (congrArg (Value.int .u64) (mR hd))) O (sQ (aM (lI O O oo_) (congrArg (Value.int .u64) (UW _ _))) O (sQ (aM (eX gA i4 O) (rR _)) O (sQ (eZ arT O O oo_ oo_) O (aY O (pZ tyT O O uu_ (by rw [pW _ oo_];omega) (.inl fP) ?_)))));refine go4 ?_;refine sQ (aM (eX i4 gA O) (congrArg (Value.int .u64) (mR hd))) O (sQ (aM (tQ O O oo_) (congrArg (Value.int .u64) (EH _ _))) O (go3 ?_));refine sQ (aM (lU O) (congrArg (Value.int .i64) (show (((m+1:Nat):Int) - 1)=(m:Int) by omega))) O (go3 ?_);refine ⟨pp_,_,_,(List.Sublist.refl _),oo_,m,⟨?s6,?s7⟩,?mem,rfl,oo_⟩
   case mem=>rw [TK m h0,GP oo_]
   case s6=>exact congrArg (fun m:Nat=>Value.int .u64 (m:Int)) (HO m h0).2
   case s7=>exact congrArg (Value.int .i64) (cL (n:=(m:Int) - 1) (by unfold I64;omega))
  replace hc:=cB_ hc
  obtain rfl:k=0:=by omega
  refine go2 ?_;refine sQ (cI tyT O mm_ (by simp [uw,pW])) O ?_;refine go_ ?_;refine sQ (aM (eX gA i4 O) (rR _)) O (aY O (bV tyT O O uu_ (by simp [uw,pW]) (by simp [uw,pW]) (jP _) (.inl fP) ?_));refine go3 ?_;refine wX O (.inr O) ⟨_,_,_,_,_,_,rfl,mm_,tyT,_,(dQ (by simp [uw,pW])),(by simp [uw,pW]),rfl⟩ O ?_
  (rw [MN,Nat.pow_zero,Nat.div_one,Nat.mod_eq_of_lt (Nat.lt_trans (Nat.mod_lt _ h0) hd)];rfl)
theorem vJ (xs ys:List Nat) (hx:xs.length=16) (hy:ys.length=16) (lx:Lim xs) (ly:Lim ys) (h0:0<val ys) :
    Ret prog 189 [UV xs,UV ys] (.tuple #[UV (toL 16 (val xs / val ys)),UV (toL 16 (val xs % val ys))]):=by
 refine bA (N:=94) func189 O O zz_ (fun w0=>?_);refine giI ?_;refine go_ ?_;refine aY O (lC O O (fun b2 hb2=>aY O (lC O O (fun b3 hb3=>aY O (eS sU (fun b4 hb4=>aY O (eS sU (fun b5 hb5=>go2 ?_))))))));refine kY (sk (sk (sk (sk s0)))) 6 [] [] (pQ O (cI tyT O mm_ (by simp [uw,hy])) ?_);refine pQ O (aX aE (qH ys hy) O) (pQ O (cI tyT O mm_ (by simp [uw,hx])) ?_);refine pQ O (aX aE (qH xs hx) O) (go5 ?_);refine sQ (cI tyT O mm_ (by simp [uw,hx])) O ?_;refine sQ (cI tyT O mm_ (by simp [uw,hy])) O ?_;refine sQ (aX aE (rA xs ys hx hy lx ly) O) O (go2 ?_);refine aL _ O (fun ho=>?_) (fun ho=>?_)
 ·replace ho:=cB_ ho
  have hlt:=X4 ho;refine go_ ?_;refine gdr (sd (sd (sk (sk s0)))) [0,6,9,13] [2,3] mix (by kernel_rfl) (pQ O (sD sU arT O (.nil _)) (vZ O O (cI tyT O mm_ (by simp [uw,hx])) ?_));refine cJ O O (bV tyT O O uu_ (by simp [uw,List.length_replicate]) (by simp [uw]) (jP _) (.inl fP) ⟨nf,ss_,?_⟩);refine cJ O O (bV tyT O O uu_ (by simp [uw,hx]) (by simp [uw]) (jP _) (.inl fP) ⟨nf,ss_,?_⟩);refine go2 ?_;refine wX O (.inr O) ⟨_,_,_,_,_,_,rfl,mm_,tyT,_,(dQ (by simp [uw])),(by simp [uw]),rfl⟩ ⟨_,_,_,_,_,_,rfl,mm_,tyT,_,(dQ (by simp [uw,hx])),(by simp [uw,hx]),rfl⟩ ?_;exact Z8 hx lx hlt
 replace ho:=cB_ ho
 have hle:=T4 (Int.not_lt.1 ho);have hsp:=d7_ h0;have hsz:=yF ys;rw [hy] at hsz;refine go6 ?_;refine aL _ O (fun h29=>?_) (fun h29=>?_)
 ·replace h29:=cB_ h29
  have hsz1:szL ys=1:=by omega
  refine go_ ?_;refine sQ (cI tyT O mm_ (by simp [uw,hx])) O ?_;refine sQ (eZ arT O O dd_ dd_) O (sQ (dX tyT O mm_ (wY (k:=0) oo_)) O ?_);refine sQ (aX aE (IB xs hx lx _ (eJ ly 0) (UQ hsz1)) O) O (go3 ?_);refine aY O (eS sU (fun b8 hb8=>aY O (bV tyT O O uu_ (by simp [uw,dB]) (by simp [uw]) (jP _) (.inl fP) ?_)));refine go3 ?_;refine sQ (cI tyT O mm_ (by simp [uw,dB])) O ?_;refine go_ ?_;refine sQ (sD sU arT O (eL_ _)) O (aY O (bV tyT O O uu_ (by simp [uw,dB]) (by simp [uw]) (jP _) (.inl fP) ?_));refine aY O (bV tyT O O uu_ (by simp [uw,List.length_replicate]) (by simp [uw]) (jP _) (.inl fP) ?_);refine go2 ?_;refine wX O (.inr O) ⟨_,_,_,_,_,_,rfl,mm_,tyT,_,(dQ (by simp [uw,dB])),(by simp [uw,dB]),rfl⟩ ⟨_,_,_,_,_,_,rfl,mm_,tyT,_,(dQ (by simp [uw])),(by simp [uw]),rfl⟩ ?_;exact bH_ ly hsz1
 replace h29:=cB_ h29
 have h2:2≤szL ys:=by omega
 have D:DV xs ys (szL ys) (32 - bl (ys.getD (szL ys - 1) 0)):=⟨hx,hy,lx,ly,rfl,h2,rfl,hle⟩;refine go3 ?_;refine sQ (aM (rD O O) (congrArg (Value.int .i64) (wV (b:=1) O oo_ oo_))) O (sQ (eZ arT O O oo_ oo_) O (sQ (dX tyT O mm_ (wY oo_)) O ?_));refine sQ (aX aE (ZA _ (eJ ly _)) O) O (go3 ?_);refine sQ (cI tyT O mm_ (by simp [uw,hy])) O ?_;refine go_ ?_;refine sQ (aX aE (yW ys hy ly _ D.s32) O) O (go3 ?_);refine aY O (eS sU (fun b11 hb11=>aY O (bV tyT O O uu_ (by simp [uw,dB]) (by simp [uw]) (jP _) (.inl fP) ?_)));refine go3 ?_;refine sQ (cI tyT O mm_ (by simp [uw,hx])) O ?_;refine go_ ?_;refine sQ (aX aE (yW xs hx lx _ D.s32) O) O (go3 ?_);refine aY O (eS sU (fun b13 hb13=>aY O (bV tyT O O uu_ (by simp [uw,dB]) (by simp [uw]) (jP _) (.inl fP) ?_)));refine go3 ?_;refine aY O (eS fS_ (fun b15 hb15=>go2 ?_));refine gdr (sd (sk (sk (sk (sk (sk (sk s0))))))) [0,4,9] [2] mix (by kernel_rfl) (pQ O (yE arT O O O dd_ dd_ dd_ dd_) (pQ O (yE arT O O O dd_ dd_ dd_ dd_) ?_));refine cJ O O (OX O9 O O mm_ uu_ (fun v hv=>jP _ v (List.mem_of_mem_drop (List.mem_of_mem_take hv))) (by simp [uw,dB]) (by simp [uw]) (ba_ (dB _ _)) (.inl fP) ⟨nf,ss_,?_⟩);refine go3 ?_;refine sQ (eZ arT O O dd_ dd_) O (aY O (pZ (k:=16) tyT O O uu_ (by simp [dB]) (.inl fP) ?_));refine go5 ?_;refine sQ (aM (rD O O) (congrArg (Value.int .i64) (U7 D.nm (by have:=D.m16;omega)))) O (go3 ?_);refine cE (rg [16,17] 65 23) (fun g nn M=>∃ (k:Nat) (l:List Nat),(g 16 = .int .i64 ((k:Int) - 1))∧M=[⟨b15,198,uw l⟩,⟨b13,31,uw (toL 16 (val xs*2 ^ (32 - bl (ys.getD (szL ys - 1) 0))))⟩,⟨b11,31,uw (toL 16 (val ys*2 ^ (32 - bl (ys.getD (szL ys - 1) 0))))⟩,⟨b5,31,uw (List.replicate 16 0)⟩,⟨b4,31,uw (zX k (val xs / val ys))⟩,⟨b3,31,uw ys⟩,⟨b2,31,uw xs⟩]∧nn=k+0∧(k+szL ys≤17∧QI xs ys (32 - bl (ys.getD (szL ys - 1) 0)) k l)) (szL xs - szL ys+1) ?start ?round
 case start =>
  refine ⟨_,(List.Sublist.refl _),szL xs - szL ys+1,((toL 16 (val xs*2 ^ (32 - bl (ys.getD (szL ys - 1) 0)))++[0]).set 16 (val xs*2 ^ (32 - bl (ys.getD (szL ys - 1) 0)) / 4294967296 ^ 16)),?a16,?mem0,rfl,⟨by have:=D.nm;have:=D.m16;omega,QI.start D⟩⟩
  case mem0=>rw [← DV.qstart D]
  case a16=>exact congrArg (Value.int .i64) oo_
 case round =>
  rintro nn g M ⟨k,l,hg16,rfl,hmeas,⟨hkn,hq⟩⟩;subst nn;refine gS1 hg16 ?_;clear hg16;refine go5 ?_;refine aL _ O (fun hc=>?_) (fun hc=>?_)
  ·replace hc:=cB_ hc
   obtain ⟨m,rfl⟩:∃ m,k=m+1:=⟨k - 1,by omega⟩;refine go4 ?_;refine sQ (cI tyT O mm_ (by simp [uw,dB])) O ?_;refine go_ ?_;refine sQ (aM (lU O) (congrArg (Value.int .i64) (show (((m+1:Nat):Int) - 1)=(m:Int) by omega))) O (aY O (bM_ aE O (fun w hw=>IA l _ (szL ys) m (hq.qh D oo_) b15 198 w (hw.mem _ m0)) (fun d hd=>go4 ?_)));refine sQ (cI tyT O mm_ (by simp [uw,dB])) O ?_;refine go_ ?_;refine sQ (aM (lU O) (congrArg (Value.int .i64) (show (((m+1:Nat):Int) - 1)=(m:Int) by omega))) O (go_ ?_);refine aY O (UX aE O (fun w hw=>LG l _ (szL ys) m d hq.len hq.lim (dB _ _) (nT _ _) (by rw [D.v16];exact D.vlt) oo_ (hq.small D) hd.1 b15 198 w (hw.mem _ m0)) (fun x=>uu_) (.inl fP) (fun x ht=>?_));refine go_ ?_;refine aL _ O (fun h77=>?_) (fun h77=>?_)
   ·replace h77:=cB_ h77
    refine go2 ?_;refine sQ (aM (rD O O) (congrArg (Value.int .u64) (KS O (ht.pos oo_) (by have:=hd.1;omega)))) O (go3 ?_);refine sQ (cI tyT O mm_ (by simp [uw,dB])) O ?_;refine go_ ?_;refine sQ (aM (lU O) (congrArg (Value.int .i64) (show (((m+1:Nat):Int) - 1)=(m:Int) by omega))) O (aY O (UX aE O (fun w hw=>LD x.1 _ (szL ys) m ht.len ht.lim (dB _ _) (nT _ _) (by rw [D.v16];exact D.vlt) oo_ ht.small b15 198 w (hw.mem _ m0)) (fun y=>uu_) (.inl fP) (fun y hgv=>?_)));refine go_ ?_;obtain ⟨hz,hdz,_⟩:=hq.took1 D hd ht oo_ hgv;refine go_ ?_;refine sQ (aM (lU O) (congrArg (Value.int .i64) (show (((m+1:Nat):Int) - 1)=(m:Int) by omega))) O (go_ ?_);refine sQ (aM (eX gA i4 O) (rR _)) O (sQ (eZ arT O O oo_ oo_) O (aY O (pZ tyT O O uu_ (by rw [pW _ oo_];omega) (.inl fP) ?_)));refine go2 ?_;refine sQ (aM (lU O) (congrArg (Value.int .i64) (show (((m+1:Nat):Int) - 1)=(m:Int) by omega))) O (go3 ?_);refine ⟨pp_,_,_,(List.Sublist.refl _),oo_,m,_,?s16,?mem,rfl,⟨by omega,hz⟩⟩
    case mem=>rw [hdz,GP oo_]
    case s16=>exact congrArg (Value.int .i64) (cL (n:=(m:Int) - 1) (by unfold I64;omega))
   replace h77:=cB_ h77
   obtain ⟨hz,hdz⟩:=hq.took0 D hd ht oo_;refine go2 ?_;refine sQ (aM (lU O) (congrArg (Value.int .i64) (show (((m+1:Nat):Int) - 1)=(m:Int) by omega))) O (go_ ?_);refine sQ (aM (eX gA i4 O) (rR _)) O (sQ (eZ arT O O oo_ oo_) O (aY O (pZ tyT O O uu_ (by rw [pW _ oo_];omega) (.inl fP) ?_)));refine go2 ?_;refine sQ (aM (lU O) (congrArg (Value.int .i64) (show (((m+1:Nat):Int) - 1)=(m:Int) by omega))) O (go3 ?_);refine ⟨pp_,_,_,(List.Sublist.refl _),oo_,m,_,?s16,?mem,rfl,⟨by omega,hz⟩⟩
   case mem=>rw [hdz,GP oo_]
   case s16=>exact congrArg (Value.int .i64) (cL (n:=(m:Int) - 1) (by unfold I64;omega))
  replace hc:=cB_ hc
  obtain rfl:k=0:=by omega
  refine go2 ?_;refine gdr (sk (sk (sk (sd (sd (sk (sk s0))))))) [0,4,8,12,16,20,25,29] [6,7] mix (by kernel_rfl) (pQ O (cI tyT O mm_ (by rw [jB,pW _ oo_])) ?_);refine pQ O (yE arT O O O dd_ dd_ dd_ dd_) (pQ O (Z3 arT O dd_) (pQ O (jW (vs:=uw (l.take 16)) tyT O mm_ b7_ (by simp [uw,hq.len])) ?_));refine go_ ?_;refine pQ O (aX aE (D6 (l.take 16) (by simp [hq.len]) (hq.lim.take 16) _ D.s32) O) ?_;refine cJ O O (bV tyT O O uu_ (by rw [jB,pW _ oo_]) (by rw [jB,pW _ oo_]) (jP _) (.inl fP) ⟨nf,ss_,?_⟩);refine cJ O O (bV tyT O O uu_ (by simp [uw,dB]) (by simp [uw]) (jP _) (.inl fP) ⟨nf,ss_,?_⟩);refine go2 ?_;refine wX O (.inr O) ⟨_,_,_,_,_,_,rfl,mm_,tyT,_,(dQ (by rw [jB,pW _ oo_])),(by rw [jB,pW _ oo_]),rfl⟩ ⟨_,_,_,_,_,_,rfl,mm_,tyT,_,(dQ (by simp [uw,dB])),(by simp [uw,dB]),rfl⟩ ?_
  (rw [MN,hq.fin D];rfl)
end Go.Proofs.YtbjlhfochebmiaaGreatDoor
