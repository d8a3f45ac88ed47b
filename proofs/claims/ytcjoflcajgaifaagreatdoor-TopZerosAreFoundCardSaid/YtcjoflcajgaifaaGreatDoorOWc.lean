/- Lemmas: what they ask stands in their statements. -/
import Derived.Test.YtcjoflcajgaifaaGreatDoorOSa
set_option linter.unusedSimpArgs false
set_option linter.unusedVariables false
set_option maxHeartbeats 8000000
set_option maxRecDepth 20000
namespace Go.Proofs.YtcjoflcajgaifaaGreatDoor
open Go.Kn Go.Num Tryz
attribute [local irreducible] Go.Kn.W WL PL OpQ OpR OpS
theorem oK (a:R) (ha:a.Ok) :
   Ret prog 10 [RV a] (RV (Z.neg a.dec).enc):=by
 refine bG (N:=14) func10 O O zz_ (fun w0=>?_);refine giI ?_;refine go_ ?_;refine aQ O (gW O O (fun b1 hb1=>aQ O (dL kB (fun b2 hb2=>go3 ?_))));refine sQ (bU tyT O mm_ (cJ ha)) O ?_;refine aQ O (gQ pX kB oJ O dd_ O (uA ha) (fun b4 hb4=>sQ (eH aH O (fun w hw=>fP [a] (ok1 ha) b4 31 w (hw.mem _ m0) zz_)) O ?_));refine go2 ?_;refine aT _ O (fun hg=>?_) (fun hg=>?_)
 ·replace hg:=cB_ hg
  refine go_ ?_;refine sQ (aW aH fU O) O (aQ O (bE tyT O O uu_ (aG _) O (bC _) (.inl eU) ?_));refine go2 ?_;refine rtX O ⟨_,_,_,_,_,_,rfl,mm_,tyT,_,(dB (aG _)),(aG _),rfl⟩ ?_
  (rw [Z.neg,qG (ON hg)];rfl)
 replace hg:=cB_ hg
 refine go2 ?_;refine sQ (bT fdT dd_ O) O (sQ (cU tyT O mm_ O) O ?_);refine go_ ?_;refine sQ (bT fdT dd_ O) O (sQ (fM (vs:=uw a.w) tyT O mm_ (iU ha.len) ((e8 _).trans ha.len)) O ?_);refine sQ (aW aH (eV (!a.neg) a.w ha.len ha.lim) O) O (aQ O (bE tyT O O uu_ (i8 ha.len) O (bC _) (.inl eU) ?_));refine go2 ?_;refine rtX O ⟨_,_,_,_,_,_,rfl,mm_,tyT,_,(dB (i8 ha.len)),(i8 ha.len),rfl⟩ ?_;exact congrArg RV (d6_ ha (by simpa using hg))
theorem uK (a:R) (ha:a.Ok) :
   Ret prog 162 [RV a] (RV (Z.abs a.dec).enc):=by
 refine bG (N:=11) func162 O O zz_ (fun w0=>?_);refine giI ?_;refine go_ ?_;refine aQ O (gW O O (fun b1 hb1=>aQ O (dL kB (fun b2 hb2=>go3 ?_))));refine sQ (bU tyT O mm_ (cJ ha)) O ?_;refine aQ O (gQ pX kB oJ O dd_ O (uA ha) (fun b4 hb4=>sQ (eH aH O (fun w hw=>fP [a] (ok1 ha) b4 31 w (hw.mem _ m0) zz_)) O ?_));refine go2 ?_;refine aT _ O (fun hg=>?_) (fun hg=>?_)
 ·replace hg:=cB_ hg
  refine go_ ?_;refine sQ (aW aH fU O) O (aQ O (bE tyT O O uu_ (aG _) O (bC _) (.inl eU) ?_));refine go2 ?_;refine rtX O ⟨_,_,_,_,_,_,rfl,mm_,tyT,_,(dB (aG _)),(aG _),rfl⟩ ?_
  (rw [Z.abs,qG (ON hg)];rfl)
 replace hg:=cB_ hg
 refine go2 ?_;refine sQ (bT fdT dd_ O) O (sQ (fM (vs:=uw a.w) tyT O mm_ (iU ha.len) ((e8 _).trans ha.len)) O ?_);refine sQ (aW aH (eV false a.w ha.len ha.lim) O) O (aQ O (bE tyT O O uu_ (i8 ha.len) O (bC _) (.inl eU) ?_));refine go2 ?_;refine rtX O ⟨_,_,_,_,_,_,rfl,mm_,tyT,_,(dB (i8 ha.len)),(i8 ha.len),rfl⟩ ?_;exact congrArg RV (dv_ ha (by simpa using hg))
theorem hJ (a b:R) (ha:a.Ok) (hb:b.Ok) :
    Ret prog 44 [RV a,RV b] (RV (Z.add a.dec b.dec).enc):=by
 refine bG (N:=55) func44 O O zz_ (fun w0=>?_);refine giI ?_;refine go_ ?_;refine aQ O (gW O O (fun b2 hb2=>aQ O (gW O O (fun b3 hb3=>aQ O (dL kB (fun b4 hb4=>go3 ?_))))));refine sQ (bU tyT O mm_ (cJ ha)) O ?_;refine sQ (bU tyT O mm_ (cJ hb)) O ?_;refine aQ O (gQ pX kB oJ O dd_ O (LB ha hb) (fun b9 hb9=>sQ (eH aH O (fun w hw=>fP [a,b] (ok2 ha hb) b9 31 w (hw.mem _ m0) zz_)) O ?_));refine go2 ?_;refine aT _ O (fun hg=>?_) (fun hg=>?_)
 ·replace hg:=cB_ hg
  refine go_ ?_;refine sQ (aW aH fU O) O (aQ O (bE tyT O O uu_ (aG _) O (bC _) (.inl eU) ?_));refine go2 ?_;refine rtX O ⟨_,_,_,_,_,_,rfl,mm_,tyT,_,(dB (aG _)),(aG _),rfl⟩ ?_
  (rw [Z.add,jH (BD hg)];rfl)
 replace hg:=cB_ hg
 have hg:=all2.1 hg;refine go3 ?_;refine sQ (bT fdT dd_ O) O (sQ (cU tyT O mm_ O) O ?_);refine sQ (bT fdT dd_ O) O (sQ (cU tyT O mm_ O) O ?_);refine sQ (eg_ QG O O) O (go_ ?_);refine aT _ O (fun hn=>?_) (fun hn=>?_)
 ·replace hn:=cB_ hn
  refine go_ ?_;refine sQ (bT fdT dd_ O) O (sQ (fM (vs:=uw a.w) tyT O mm_ (iU ha.len) ((e8 _).trans ha.len)) O ?_);refine sQ (bT fdT dd_ O) O (sQ (fM (vs:=uw b.w) tyT O mm_ (iU hb.len) ((e8 _).trans hb.len)) O ?_);refine sQ (aW aH (HO a.w b.w ha.len hb.len ha.lim hb.lim) O) O (go3 ?_);refine aQ O (dL lU (fun b5 hb5=>aQ O (bE tyT O O uu_ (by rw [e8,cM]) O (fL _) (.inl eU) ?_)));refine go7 ?_;refine aT _ O (fun hc=>?_) (fun hc=>?_)
  ·replace hc:=cB_ hc
   refine go_ ?_;refine sQ (aW aH fU O) O (aQ O (bE tyT O O uu_ (aG _) O (bC _) (.inl eU) ?_));refine go2 ?_;refine rtX O ⟨_,_,_,_,_,_,rfl,mm_,tyT,_,(dB (aG _)),(aG _),rfl⟩ ?_;exact congrArg RV (WR ha hb hg.1 hg.2 hn oo_)
  replace hc:=cB_ hc
  refine go2 ?_;refine sQ (bT fdT dd_ O) O (sQ (cU tyT O mm_ O) O ?_);refine sQ (bU tyT O mm_ (by rw [e8,cM])) O ?_;refine sQ (aW aH (eV a.neg _ (cM _ _) (kE _ _)) O) O (aQ O (bE tyT O O uu_ (i8 (cM _ _)) O (bC _) (.inl eU) ?_));refine go2 ?_;refine rtX O ⟨_,_,_,_,_,_,rfl,mm_,tyT,_,(dB (i8 (cM _ _))),(i8 (cM _ _)),rfl⟩ ?_;exact congrArg RV (WS ha hb hg.1 hg.2 hn oo_)
 replace hn:=cB_ hn
 refine go3 ?_;refine sQ (bT fdT dd_ O) O (sQ (fM (vs:=uw a.w) tyT O mm_ (iU ha.len) ((e8 _).trans ha.len)) O ?_);refine sQ (bT fdT dd_ O) O (sQ (fM (vs:=uw b.w) tyT O mm_ (iU hb.len) ((e8 _).trans hb.len)) O ?_);refine sQ (aW aH (lD a.w b.w ha.len hb.len ha.lim hb.lim) O) O (go2 ?_);refine aT _ O (fun ho=>?_) (fun ho=>?_)
 ·replace ho:=cB_ ho
  have hle:val b.w≤val a.w:=SF ho;refine go_ ?_;refine lJ (sk (sd (sk (sk s0)))) 9 [8] [8] (pQ O (bT fdT dd_ O) (pQ O (cU tyT O mm_ O) ?_));refine pQ O (bT fdT dd_ O) (pQ O (fM (vs:=uw a.w) tyT O mm_ (iU ha.len) ((e8 _).trans ha.len)) ?_);refine pQ O (bT fdT dd_ O) (pQ O (fM (vs:=uw b.w) tyT O mm_ (iU hb.len) ((e8 _).trans hb.len)) ?_);refine pQ O (aW aH (rQ a.w b.w ha.len hb.len ha.lim hb.lim hle) O) (pQ O (aW aH (eV a.neg _ (cM _ _) (kE _ _)) O) ?_);refine dC O O (bE tyT O O uu_ (i8 (cM _ _)) O (bC _) (.inl eU) ⟨nf,ss_,?_⟩);refine go2 ?_;refine rtX O ⟨_,_,_,_,_,_,rfl,mm_,tyT,_,(dB (i8 (cM _ _))),(i8 (cM _ _)),rfl⟩ ?_;exact congrArg RV (WT ha hb hg.1 hg.2 hn hle)
 replace ho:=cB_ ho
 have hle:val a.w≤val b.w:=W7 ho;refine go2 ?_;refine lJ (sk (sd (sk (sk s0)))) 9 [8] [8] (pQ O (bT fdT dd_ O) (pQ O (cU tyT O mm_ O) ?_));refine pQ O (bT fdT dd_ O) (pQ O (fM (vs:=uw b.w) tyT O mm_ (iU hb.len) ((e8 _).trans hb.len)) ?_);refine pQ O (bT fdT dd_ O) (pQ O (fM (vs:=uw a.w) tyT O mm_ (iU ha.len) ((e8 _).trans ha.len)) ?_);refine pQ O (aW aH (rQ b.w a.w hb.len ha.len hb.lim ha.lim hle) O) (pQ O (aW aH (eV b.neg _ (cM _ _) (kE _ _)) O) ?_);refine dC O O (bE tyT O O uu_ (i8 (cM _ _)) O (bC _) (.inl eU) ⟨nf,ss_,?_⟩);refine go2 ?_;refine rtX O ⟨_,_,_,_,_,_,rfl,mm_,tyT,_,(dB (i8 (cM _ _))),(i8 (cM _ _)),rfl⟩ ?_;exact congrArg RV (WU ha hb hg.1 hg.2 hn hle)
theorem oL (a b:R) (ha:a.Ok) (hb:b.Ok) :
  Ret prog 60 [RV a,RV b] (RV (Z.sub a.dec b.dec).enc):=by
 refine bG (N:=9) func60 O O zz_ (fun w0=>?_);refine giI ?_;refine go_ ?_;refine aQ O (gW O O (fun b2 hb2=>aQ O (gW O O (fun b3 hb3=>aQ O (dL kB (fun b4 hb4=>go2 ?_))))));refine lJ (sd (sk (sk s0))) 5 [4] [4] (pQ O (bU tyT O mm_ (cJ ha)) ?_);refine pQ O (bU tyT O mm_ (cJ hb)) ?_;refine pQ O (aW aH (oK b hb) O) (pQ O (aW aH (hJ a (Z.neg b.dec).enc ha (Z.enc_ok _)) O) ?_);refine dC O O (bE tyT O O uu_ (aG _) O (bC _) (.inl eU) ⟨nf,ss_,?_⟩);refine go2 ?_;refine rtX O ⟨_,_,_,_,_,_,rfl,mm_,tyT,_,(dB (aG _)),(aG _),rfl⟩ ?_
 (rw [vJ];rfl)
theorem fH (a:R) (ha:a.Ok) :
   Ret prog 28 [RV a] (.int .i64 a.dec.sign):=by
 refine bG (N:=17) func28 O O zz_ (fun w0=>?_);refine giI ?_;refine go_ ?_;refine aQ O (gW O O (fun b1 hb1=>go5 ?_));refine sQ (bU tyT O mm_ (cJ ha)) O ?_;refine aQ O (gQ pX kB oJ O dd_ O (uA ha) (fun b5 hb5=>sQ (eH aH O (fun w hw=>fP [a] (ok1 ha) b5 31 w (hw.mem _ m0) zz_)) O ?_));refine go2 ?_
 cases hg:[a].all R.good
 ·refine wR ?_;refine rt1 ?_;exact congrArg _ (y5 ha (.inl (by simpa using hg)))
 refine sQ (bT fdT dd_ O) O (sQ (fM (vs:=uw a.w) tyT O mm_ (iU ha.len) ((e8 _).trans ha.len)) O ?_);refine sQ (lG lU arT O (.nil _)) O ?_;refine sQ (nY (r:=a.zero) O O (jP 8 dd_ C8 DH (kA ha.len) (kA zz_) ha.zero_iff)) O ?_;refine go3 ?_;refine aT _ O (fun hz=>?_) (fun hz=>?_)
 ·replace hz:=cB_ hz
  refine go4 ?_;refine rt1 ?_;exact congrArg _ (y5 ha (.inr hz))
 replace hz:=cB_ hz
 refine go_ ?_;refine sQ (bT fdT dd_ O) O (sQ (cU tyT O mm_ O) O ?_);refine go2 ?_;refine aT _ O (fun hn=>?_) (fun hn=>?_)
 ·replace hn:=cB_ hn
  refine go4 ?_;refine rt1 ?_;exact congrArg _ (PJ ha (by simpa using hg) hz hn)
 replace hn:=cB_ hn
 refine go5 ?_;refine rt1 ?_;exact congrArg _ (PK ha (by simpa using hg) hz hn)
theorem eJ (n:Int) (hn:I64 n) :
   Ret prog 34 [.int .i64 n] (RV (Z.of n).enc):=by
 refine bG (N:=19) func34 O O zz_ (fun w0=>?_);refine giI ?_;refine go_ ?_;refine aQ O (dL kB (fun b2 hb2=>go3 ?_));refine sQ (dD y9 eO O) O (go7 ?_);refine aT _ O (fun h0=>?_) (fun h0=>?_)
 ·replace h0:=cB_ h0
  refine go2 ?_;refine sQ (aE (Z0 O) (congrArg (Value.int .u64) (d8_ hn h0))) O (go5 ?_);refine sQ (aE (gV O) (show _=Value.int .u64 (n.natAbs:Int) from by first|rfl|exact congrArg (Value.int .u64) (LQ hn h0))) O ?_;refine sQ (dD eO fD O) O (sQ (aE (gV O) (show _=Value.int .u64 (n.natAbs:Int) from by first|rfl|exact congrArg (Value.int .u64) (LQ hn h0))) O ?_);refine sQ (aE (rA O O dd_) (congrArg (Value.int .u64) (nQ _ 32))) O (sQ (dD eO fD O) O (sQ (lG lU arT O (X7 (ZO _) (ZN (by unfold I64 at hn;omega)))) O (sQ (aW aH (eV (decide (n<0)) _ zz_ (Y2 (Nat.mod_lt _ dd_) (by unfold I64 at hn;omega) 14)) O) O ?_)));refine aQ O (bE tyT O O uu_ (i8 zz_) O (bC _) (.inl eU) ?_);refine go2 ?_;refine rtX O ⟨_,_,_,_,_,_,rfl,mm_,tyT,_,(dB (i8 zz_)),(i8 zz_),rfl⟩ ?_;exact congrArg RV (ZM hn O O)
 replace h0:=cB_ h0
 refine go4 ?_;refine sQ (aE (gV O) (show _=Value.int .u64 (n.natAbs:Int) from by first|rfl|exact congrArg (Value.int .u64) (LQ hn h0))) O ?_;refine sQ (dD eO fD O) O (sQ (aE (gV O) (show _=Value.int .u64 (n.natAbs:Int) from by first|rfl|exact congrArg (Value.int .u64) (LQ hn h0))) O ?_);refine sQ (aE (rA O O dd_) (congrArg (Value.int .u64) (nQ _ 32))) O (sQ (dD eO fD O) O (sQ (lG lU arT O (X7 (ZO _) (ZN (by unfold I64 at hn;omega)))) O (sQ (aW aH (eV (decide (n<0)) _ zz_ (Y2 (Nat.mod_lt _ dd_) (by unfold I64 at hn;omega) 14)) O) O ?_)));refine aQ O (bE tyT O O uu_ (i8 zz_) O (bC _) (.inl eU) ?_);refine go2 ?_;refine rtX O ⟨_,_,_,_,_,_,rfl,mm_,tyT,_,(dB (i8 zz_)),(i8 zz_),rfl⟩ ?_;exact congrArg RV (ZM hn O O)
theorem dR (a b:R) (ha:a.Ok) (hb:b.Ok) :
    Ret prog 45 [RV a,RV b] (RV (Z.mul a.dec b.dec).enc):=by
 refine bG (N:=82) func45 O O zz_ (fun w0=>?_);refine giI ?_;refine go_ ?_;refine aQ O (gW O O (fun b2 hb2=>aQ O (gW O O (fun b3 hb3=>aQ O (dL kB (fun b4 hb4=>go3 ?_))))));refine sQ (bU tyT O mm_ (cJ ha)) O ?_;refine sQ (bU tyT O mm_ (cJ hb)) O ?_;refine aQ O (gQ pX kB oJ O dd_ O (LB ha hb) (fun b13 hb13=>sQ (eH aH O (fun w hw=>fP [a,b] (ok2 ha hb) b13 31 w (hw.mem _ m0) zz_)) O ?_));refine go2 ?_;refine aT _ O (fun hg=>?_) (fun hg=>?_)
 ·replace hg:=cB_ hg
  refine go_ ?_;refine sQ (aW aH fU O) O (aQ O (bE tyT O O uu_ (aG _) O (bC _) (.inl eU) ?_));refine go2 ?_;refine rtX O ⟨_,_,_,_,_,_,rfl,mm_,tyT,_,(dB (aG _)),(aG _),rfl⟩ ?_
  (rw [Z.mul,jH (BD hg)];rfl)
 replace hg:=cB_ hg
 have hg:=all2.1 hg;refine go2 ?_;refine aQ O (dL gi_ (fun b5 hb5=>go2 ?_));have hsa:=rN a.w;have hsb:=rN b.w;rw [ha.len] at hsa;rw [hb.len] at hsb;refine lJ (sk (sk (sk (sk (sk s0))))) 8 [] [] (pQ O (bT fdT dd_ O) (pQ O (fM (vs:=uw a.w) tyT O mm_ (iU ha.len) ((e8 _).trans ha.len)) ?_));refine pQ O (aW aH (kW a.w ha.len) O) (pQ O (bT fdT dd_ O) (pQ O (fM (vs:=uw b.w) tyT O mm_ (iU hb.len) ((e8 _).trans hb.len)) ?_));refine pQ O (aW aH (kW b.w hb.len) O) (go9 ?_);refine cE (rg [8,9,10] 24 43) (fun g nn M=>∃ (i:Nat) (l:List Nat),(g 24 = .int .i64 (i:Int))∧M=[⟨b5,139,uw l⟩,⟨b4,31,zR⟩,⟨b3,31,b.cells⟩,⟨b2,31,a.cells⟩]∧nn=szL a.w - i∧(i≤szL a.w∧MulOut (val a.w) (val b.w) (szL b.w) i l)) (szL a.w - 0) ?start ?round
 case start =>
  refine ⟨_,(List.Sublist.cons_cons _ (List.Sublist.cons _ (List.Sublist.refl _))),0,_,?a24,?mem0,rfl,⟨Nat.zero_le _,MulOut.start _ _ _⟩⟩
  case mem0=>rfl
  case a24=>rfl
 case round =>
  rintro nn g M ⟨i,l,hg24,rfl,hmeas,⟨hile,hM⟩⟩;subst nn;refine gS1 hg24 ?_;clear hg24;refine go4 ?_;refine aT _ O (fun hi=>?_) (fun hi=>?_)
  ·replace hi:=cB_ hi
   have hia:i<a.w.length:=by rw [ha.len];omega
   refine QW ?_;refine cE (rg [9,10] 28 32) (fun g nn M=>∃ (k:Nat) (l:List Nat) (c:Nat),(g 9 = .int .u64 (c:Int)∧g 28 = .int .i64 (k:Int))∧M=[⟨b5,139,uw l⟩,⟨b4,31,zR⟩,⟨b3,31,b.cells⟩,⟨b2,31,a.cells⟩]∧nn=szL b.w - k∧(k≤szL b.w∧MulIn (val a.w) (val b.w) (szL b.w) i k l c)) (szL b.w - 0) ?start ?round
   case start =>
    refine ⟨_,(List.Sublist.refl _),0,l,0,⟨?a9,?a28⟩,?mem0,rfl,⟨Nat.zero_le _,hM.row⟩⟩
    case mem0=>rfl
    case a9=>rfl
    case a28=>rfl
   case round =>
    rintro nn g M ⟨k,l,c,⟨hg9,hg28⟩,rfl,hmeas,⟨hkle,hM⟩⟩;subst nn;refine gS2 hg9 hg28 ?_;clear hg9 hg28;refine go4 ?_;refine aT _ O (fun hk=>?_) (fun hk=>?_)
    ·replace hk:=cB_ hk
     have hkb:k<b.w.length:=by rw [hb.len];omega
     refine go8 ?_;refine gdr (sk (sk (sk (sk s0)))) [0,4,8,12,16,20,24,28,32,36,40,44,48,52,56,60,64,68,72,76,80] [] mix (by kernel_rfl) (go2 ?_);refine pQ O (bT fdT dd_ O) (pQ O (dS arT O O oo_ oo_) (pQ O (cU tyT O mm_ (kX hia)) ?_));refine pQ O (dD fD eO O) (go_ ?_);refine pQ O (bT fdT dd_ O) (pQ O (dS arT O O oo_ oo_) (pQ O (cU tyT O mm_ (kX hkb)) ?_));refine pQ O (dD fD eO O) (go3 ?_);refine pQ O (aE (fZ O O) (congrArg (Value.int .i64) (lE oo_))) (pQ O (dS arT O O oo_ oo_) (pQ O (cU tyT O mm_ (pU (by rw [hM.len];omega))) ?_));refine pQ O (dD fD eO O) (go_ ?_);refine pQ O (aE (fZ O O) (congrArg (Value.int .u64) (fy_ (dA ha.lim i) (dA hb.lim k) (dA hM.lim (i+k)) hM.clt))) (go5 ?_);refine sQ (aE (fZ O O) (congrArg (Value.int .i64) (lE oo_))) O (go_ ?_);refine sQ (aE (dD eO fD O) (lO _)) O (sQ (dS arT O O oo_ oo_) O (aQ O (kV tyT O O uu_ (by rw [hM.len];omega) (.inl eU) ?_)));refine go3 ?_;refine sQ (aE (rA O O dd_) (congrArg (Value.int .u64) (nQ _ 32))) O (go3 ?_);refine sQ (aE (fZ O O) (congrArg (Value.int .i64) (gX oo_))) O (go2 ?_);refine ⟨pp_,_,_,(List.Sublist.refl _),oo_,k+1,_,_,⟨?s9,?s28⟩,?mem,rfl,⟨by omega,VE hM ha.lim hb.lim oo_ oo_⟩⟩
     case mem=>rfl
     case s9=>rfl
     case s28=>rfl
    replace hk:=cB_ hk
    obtain rfl:k=szL b.w:=by omega
    refine go4 ?_;refine sQ (aE (fZ O O) (congrArg (Value.int .i64) (lE oo_))) O (go_ ?_);refine sQ (aE (dD eO fD O) (eK_ hM.clt)) O (sQ (dS arT O O oo_ oo_) O (aQ O (kV tyT O O uu_ (by rw [hM.len];omega) (.inl eU) ?_)));refine go2 ?_;refine sQ (aE (fZ O O) (congrArg (Value.int .i64) (gX oo_))) O (go2 ?_);refine ⟨pp_,_,_,(List.Sublist.refl _),oo_,i+1,_,?s24,?mem,rfl,⟨by omega,hM.done oo_ (qO hb.lim)⟩⟩
    case mem=>rfl
    case s24=>rfl
  replace hi:=cB_ hi
  obtain rfl:i=szL a.w:=by omega
  refine go3 ?_;refine sQ (GM arT O O O dd_ dd_ dd_ dd_) O (sQ (Z2 arT O dd_) O (sQ (fM (vs:=uw (l.drop 16)) tyT O mm_ (ge_ hM.len) (by simp [uw,hM.len])) O ?_));refine sQ (lG lU arT O (.nil _)) O ?_;refine sQ (CO (r:=decide (l.drop 16=List.replicate 16 0)) O O (jP 8 dd_ C8 DH (kA (by simp [hM.len])) (kA zz_) (dG_ _ _))) O ?_;refine go_ ?_;refine aT _ O (fun h71=>?_) (fun h71=>?_)
  ·replace h71:=cB_ h71
   refine go_ ?_;refine sQ (aW aH fU O) O (aQ O (bE tyT O O uu_ (aG _) O (bC _) (.inl eU) ?_));refine go2 ?_;refine rtX O ⟨_,_,_,_,_,_,rfl,mm_,tyT,_,(dB (aG _)),(aG _),rfl⟩ ?_;exact congrArg RV (bO_ ha hb hg.1 hg.2 hM.len hM.lim (F6 hM ha) (by simpa using h71))
  replace h71:=cB_ h71
  refine go2 ?_;refine lJ (sk (sd (sk (sk s0)))) 10 [9] [9] (pQ O (bT fdT dd_ O) (pQ O (cU tyT O mm_ O) ?_));refine pQ O (bT fdT dd_ O) (pQ O (cU tyT O mm_ O) ?_);refine pQ O (CP QG O O) (pQ O (GM arT O O O dd_ dd_ dd_ dd_) (pQ O (Z2 arT O dd_) (pQ O (fM (vs:=uw (l.take 16)) tyT O mm_ (gf_ hM.len) (by simp [uw,hM.len])) ?_)));refine pQ O (aW aH (eV (a.neg != b.neg) (l.take 16) (by simp [hM.len]) (hM.lim.take 16)) O) ?_;refine dC O O (bE tyT O O uu_ (i8 (by simp [hM.len])) O (bC _) (.inl eU) ⟨nf,ss_,?_⟩);refine go2 ?_;refine rtX O ⟨_,_,_,_,_,_,rfl,mm_,tyT,_,(dB (i8 (by simp [hM.len]))),(i8 (by simp [hM.len])),rfl⟩ ?_;exact congrArg RV (bP_ ha hb hg.1 hg.2 hM.len hM.lim (F6 hM ha) (by simpa using h71))
theorem D8 (us vs:List Nat) (n j:Nat) (H:QH us vs n j) (bu T:Nat) (w:World) (hbu:w.heap[bu]? = some (.cells (uw us).toArray T (0,0))) :
    Calls prog 201 [.pointer (some ⟨bu,0,none⟩),UV vs,.int .i64 (n:Int),.int .i64 (j:Int)].toArray w (fun e w'=>∃ x:Nat,e = .returned (.int .u64 (x:Int))∧Ext w w'∧M7 us vs j x):=by
 refine NO (N:=77) (g:=fun x:Nat=>.int .u64 (x:Int)) (Q:=fun x:Nat=>M7 us vs j x) func201 O O zz_ ?_;obtain ⟨w0,rfl⟩:=nm w;refine giI ?_;have G:=H.gh;have hn2:=H.n2;have hjn:=H.jn;have hul:=H.ulen;have hvl:=H.vlen;refine go_ ?_;refine aQ O (gW O O (fun b5 hb5=>go3 ?_));refine gdr (sk s0) [0,4,8,12,16,20,24,28,32,36,40,44,48,52,56,60,64,68,72,76] [] mix (by kernel_rfl) (go3 ?_);refine pQ O (aE (fZ O O) (congrArg (Value.int .i64) (lE oo_))) (go_ ?_);refine pQ O (dS arT O O oo_ oo_) (pQ O (EO tyT O hbu zz_ (pU oo_)) ?_);refine pQ O (aE (dD fD eO O) (tB (dA H.ulim _))) (pQ O (aE (BI O O dd_) (congrArg (Value.int .u64) (tW (dA H.ulim _)))) (go3 ?_));refine pQ O (aE (fZ O O) (congrArg (Value.int .i64) (lE oo_))) (pQ O (aE (lL O O) (congrArg (Value.int .i64) (pP (b:=1) O oo_ oo_))) (go_ ?_));refine pQ O (dS arT O O oo_ oo_) (pQ O (EO tyT O hbu zz_ (pU oo_)) ?_);refine pQ O (aE (dD fD eO O) (tB (dA H.ulim _))) (pQ O (aE (L0 O O) (congrArg (Value.int .u64) (OS (dA H.ulim _) (dA H.ulim _)))) (go4 ?_));refine sQ (aE (lL O O) (congrArg (Value.int .i64) (pP (b:=1) O oo_ oo_))) O (sQ (dS arT O O oo_ oo_) O (sQ (cU tyT O mm_ (pU oo_)) O ?_));refine sQ (aE (dD fD eO O) (tB (dA H.vlim _))) O (go3 ?_);refine lJ (sk s0) 8 [] [] (go2 ?_);refine pQ O (aE (oF O O (by have:=G.f0;omega)) (congrArg (Value.int .u64) (b2_ (by have:=G.topLt;have:=G.f1;omega)))) (go2 ?_);refine pQ O (aE (pW O O (by have:=G.f0;omega)) (congrArg (Value.int .u64) (yZ _ _))) (go5 ?_);refine cE (rg [11,12] 43 33) (fun g nn M=>∃ (d rest:Nat),(g 11 = .int .u64 (d:Int)∧g 12 = .int .u64 (rest:Int))∧M=[⟨b5,29,uw vs⟩]∧nn=d∧(GI (vs.getD (n - 1) 0) (us.getD (j+n) 0*4294967296+us.getD (j+n - 1) 0) (val us / (val vs*4294967296 ^ j)) d rest)) ((us.getD (j+n) 0*4294967296+us.getD (j+n - 1) 0) / vs.getD (n - 1) 0) ?start ?round
 case start =>
  refine ⟨_,(List.Sublist.refl _),_,_,⟨?a11,?a12⟩,?mem0,rfl,GI.start G⟩
  case mem0=>rfl
  case a11=>rfl
  case a12=>rfl
 case round =>
  rintro nn g M ⟨d,rest,⟨hg11,hg12⟩,rfl,hmeas,hG⟩;subst nn;refine gS2 hg11 hg12 ?_;clear hg11 hg12;refine go2 ?_;refine gdr (sk s0) [0,4,8,12,16,20,24,28,32,36,40,44,48,52,56,60,64,68,72,76,80,84,88,92,96,100,104,108] [] mix (by kernel_rfl) (go3 ?_)
  cases h2:decide ((rest:Int)<4294967296)
  ·refine gI_ ?_;refine rt1 ?_;exact ⟨d,rfl,I1 H hG (.inl (by have:=of_decide_eq_false h2;omega))⟩
  refine go3 ?_
  cases h5:decide ((4294967296:Int)≤(d:Int))
  ·refine go2 ?_;refine pQ O (aE (lL O O) (congrArg (Value.int .i64) (pP (b:=2) O oo_ oo_))) (pQ O (dS arT O O oo_ oo_) (pQ O (cU tyT O mm_ (pU oo_)) ?_));refine pQ O (aE (dD fD eO O) (tB (dA H.vlim _))) (pQ O (aE (TN O O) (congrArg (Value.int .u64) (TE (TA (by have:=of_decide_eq_false h5;omega) (dA H.vlim _))))) (go_ ?_));refine pQ O (aE (BI O O dd_) (congrArg (Value.int .u64) (tW (by have:=of_decide_eq_true h2;omega)))) (go3 ?_);refine pQ O (aE (fZ O O) (congrArg (Value.int .i64) (lE oo_))) (pQ O (aE (lL O O) (congrArg (Value.int .i64) (pP (b:=2) O oo_ oo_))) (go_ ?_));refine pQ O (dS arT O O oo_ oo_) (pQ O (EO tyT O hbu zz_ (pU oo_)) ?_);refine pQ O (aE (dD fD eO O) (tB (dA H.ulim _))) (pQ O (aE (L0 O O) (congrArg (Value.int .u64) (OS (by have:=of_decide_eq_true h2;omega) (dA H.ulim _)))) (go4 ?_));refine aT _ O (fun h68=>?_) (fun h68=>?_)
   ·replace h68:=cB_ h68
    refine go3 ?_;have hmore:=GI.more G hG (by have:=of_decide_eq_true h2;omega) (by first|exact .inl (by have:=of_decide_eq_true h5;omega)|exact .inr (by exact_mod_cast h68));refine go_ ?_;refine sQ (aE (lL O O) (congrArg (Value.int .u64) (G7 O hmore.1 (by have:=GI.dlt G hG;omega)))) O (go5 ?_);refine sQ (aE (fZ O O) (congrArg (Value.int .u64) (KJ (by have:=hG.rlt;have:=G.f1;omega)))) O (go2 ?_);refine ⟨pp_,_,_,(List.Sublist.refl _),(by have:=hmore.1;omega),d - 1,rest+vs.getD (n - 1) 0,⟨?s11,?s12⟩,?mem,rfl,hmore.2⟩
    case mem=>rfl
    case s11=>rfl
    case s12=>rfl
   replace h68:=cB_ h68
   refine go6 ?_;refine rt1 ?_;exact ⟨d,rfl,I1 H hG (.inr ⟨by have:=of_decide_eq_false h5;omega,by have h69:=Int.not_lt.1 h68;exact_mod_cast h69⟩)⟩
  refine gH_ ?_;have hmore:=GI.more G hG (by have:=of_decide_eq_true h2;omega) (by first|exact .inl (by have:=of_decide_eq_true h5;omega)|exact .inr (by exact_mod_cast h68));refine go_ ?_;refine sQ (aE (lL O O) (congrArg (Value.int .u64) (G7 O hmore.1 (by have:=GI.dlt G hG;omega)))) O (go5 ?_);refine sQ (aE (fZ O O) (congrArg (Value.int .u64) (KJ (by have:=hG.rlt;have:=G.f1;omega)))) O (go2 ?_);refine ⟨pp_,_,_,(List.Sublist.refl _),(by have:=hmore.1;omega),d - 1,rest+vs.getD (n - 1) 0,⟨?s11,?s12⟩,?mem,rfl,hmore.2⟩
  case mem=>rfl
  case s11=>rfl
  case s12=>rfl
theorem HP (us vs:List Nat) (n j d:Nat) (hu:us.length=17) (lu:Lim us) (hv:vs.length=16) (lv:Lim vs) (hV:val vs<4294967296 ^ n) (hjn:j+n≤16) (hsm:val us<4294967296 ^ (j+n+1)) (hd:d<4294967296) (bu T:Nat) (w:World) (hbu:w.heap[bu]? = some (.cells (uw us).toArray T (0,0))) :
    Calls prog 202 [.pointer (some ⟨bu,0,none⟩),UV vs,.int .i64 (n:Int),.int .i64 (j:Int),.int .u64 (d:Int)].toArray w (fun e w'=>∃ x:List Nat×Nat,e = .returned (.bool (((x.2:Nat):Int)==1))∧ExtX [bu] w w'∧w'.heap[bu]? = some (.cells (uw x.1).toArray T (0,0))∧Took us (val vs) d j n x):=by
 refine NM (N:=78) (g:=fun x:List Nat×Nat=>.bool (((x.2:Nat):Int)==1)) (cs':=fun x:List Nat×Nat=>uw x.1) (Q:=fun x:List Nat×Nat=>Took us (val vs) d j n x) func202 O O zz_ hbu ?_;obtain ⟨w0,rfl⟩:=nm w;refine giI ?_;refine go_ ?_;refine aQ O (gW O O (fun b6 hb6=>wR ?_));refine cE (rg [11,12,13,14] 17 38) (fun g nn M=>∃ (i:Nat) (l:List Nat) (c bo:Nat),(g 11 = .int .u64 (c:Int)∧g 12 = .int .u64 (bo:Int)∧g 17 = .int .i64 (i:Int))∧M=[⟨b6,29,uw vs⟩,⟨bu,T,uw l⟩]∧nn=n - i∧(i≤n∧TakeIn us (val vs) d j i l c bo)) (n - 0) ?start ?round
 case start =>
  refine ⟨_,(List.Sublist.refl _),0,us,0,0,⟨?a11,?a12,?a17⟩,?mem0,rfl,⟨Nat.zero_le _,TakeIn.start hu lu _ _ _⟩⟩
  case mem0=>rfl
  case a11=>rfl
  case a12=>rfl
  case a17=>rfl
 case round =>
  rintro nn g M ⟨i,l,c,bo,⟨hg11,hg12,hg17⟩,rfl,hmeas,⟨hi,hT⟩⟩;subst nn;refine gS3 hg11 hg12 hg17 ?_;clear hg11 hg12 hg17;refine go4 ?_;refine aT _ O (fun hc=>?_) (fun hc=>?_)
  ·replace hc:=cB_ hc
   have hc:i<n:=by omega
   refine zX ?_;refine sQ (dS arT O O oo_ oo_) O (sQ (cU tyT O mm_ (pU oo_)) O ?_);refine sQ (dD fD eO O) O (go_ ?_);refine sQ (aE (fZ O O) (congrArg (Value.int .u64) (eE_ hT.clt hd (dA lv i)))) O (go6 ?_);refine sQ (aE (fZ O O) (congrArg (Value.int .i64) (lE oo_))) O (go_ ?_);refine sQ (dS arT O O oo_ oo_) O (sQ (cU tyT O mm_ (pU (by rw [hT.len];omega))) O ?_);refine sQ (dD fD eO O) O (go_ ?_);refine sQ (aE (dD eO fD O) (lO _)) O (sQ (dD fD eO O) O (go2 ?_));refine sQ (aE (lL O O) (congrArg (Value.int .u64) (c6_ hT.ble (dA hT.lim _) (Nat.mod_lt _ dd_)))) O (go6 ?_);refine sQ (aE (fZ O O) (congrArg (Value.int .i64) (lE oo_))) O (go_ ?_);refine sQ (aE (dD eO fD O) (lO _)) O (go_ ?_);refine sQ (dS arT O O oo_ oo_) O (aQ O (kV tyT O O uu_ (by rw [hT.len];omega) (by first|exact .inl eU|exact .inr (List.mem_singleton.2 O)) ?_));refine go3 ?_;refine sQ (aE (rA O O dd_) (congrArg (Value.int .u64) (nQ _ 63))) O (go4 ?_);refine sQ (aE (rA O O dd_) (congrArg (Value.int .u64) (nQ _ 32))) O (go3 ?_);refine sQ (aE (fZ O O) (congrArg (Value.int .i64) (gX oo_))) O (go2 ?_);refine ⟨pp_,_,_,(List.Sublist.refl _),oo_,i+1,_,_,_,⟨?s11,?s12,?s17⟩,?mem,rfl,⟨by omega,R0 hT lv oo_ hd⟩⟩
   case mem=>rfl
   case s11=>rfl
   case s12=>rfl
   case s17=>rfl
  replace hc:=cB_ hc
  obtain rfl:n=i:=by omega
  refine go5 ?_;refine sQ (aE (fZ O O) (congrArg (Value.int .i64) (lE oo_))) O (go_ ?_);refine sQ (dS arT O O oo_ oo_) O (sQ (cU tyT O mm_ (pU (by rw [hT.len];omega))) O ?_);refine sQ (dD fD eO O) O (go3 ?_);refine sQ (aE (lL O O) (congrArg (Value.int .u64) (eC_ hT.ble (dA hT.lim _) hT.clt))) O (go6 ?_);refine sQ (aE (fZ O O) (congrArg (Value.int .i64) (lE oo_))) O (go_ ?_);refine sQ (aE (dD eO fD O) (lO _)) O (go_ ?_);refine sQ (dS arT O O oo_ oo_) O (aQ O (kV tyT O O uu_ (by rw [hT.len];omega) (by first|exact .inl eU|exact .inr (List.mem_singleton.2 O)) ?_));refine go3 ?_;refine sQ (aE (rA O O dd_) (congrArg (Value.int .u64) (nQ _ 63))) O (go4 ?_);refine rt1 ?_;exact ⟨(_,_),rfl,by first|exact .tail _ (.head _)|exact .head _,TakeIn.took hT oo_ hV lu hsm⟩
theorem HN (us vs:List Nat) (n j:Nat) (hu:us.length=17) (lu:Lim us) (hv:vs.length=16) (lv:Lim vs) (hV:val vs<4294967296 ^ n) (hjn:j+n≤16) (hsm:val us<4294967296 ^ (j+n+1)) (bu T:Nat) (w:World) (hbu:w.heap[bu]? = some (.cells (uw us).toArray T (0,0))) :
    Calls prog 203 [.pointer (some ⟨bu,0,none⟩),UV vs,.int .i64 (n:Int),.int .i64 (j:Int)].toArray w (fun e w'=>∃ x:List Nat,e = .returned (.tuple #[])∧ExtX [bu] w w'∧w'.heap[bu]? = some (.cells (uw x).toArray T (0,0))∧Gave us (val vs) j n x):=by
 refine NM (N:=52) (g:=fun x:List Nat=>.tuple #[]) (cs':=fun x:List Nat=>uw x) (Q:=fun x:List Nat=>Gave us (val vs) j n x) func203 O O zz_ hbu ?_;obtain ⟨w0,rfl⟩:=nm w;refine giI ?_;refine go_ ?_;refine aQ O (gW O O (fun b5 hb5=>mQ ?_));refine cE (rg [8,9] 11 29) (fun g nn M=>∃ (i:Nat) (l:List Nat) (c:Nat),(g 8 = .int .u64 (c:Int)∧g 11 = .int .i64 (i:Int))∧M=[⟨b5,29,uw vs⟩,⟨bu,T,uw l⟩]∧nn=n - i∧(i≤n∧GiveIn us (val vs) j i l c)) (n - 0) ?start ?round
 case start =>
  refine ⟨_,(List.Sublist.refl _),0,us,0,⟨?a8,?a11⟩,?mem0,rfl,⟨Nat.zero_le _,GiveIn.start hu lu _ _⟩⟩
  case mem0=>rfl
  case a8=>rfl
  case a11=>rfl
 case round =>
  rintro nn g M ⟨i,l,c,⟨hg8,hg11⟩,rfl,hmeas,⟨hi,hT⟩⟩;subst nn;refine gS2 hg8 hg11 ?_;clear hg8 hg11;refine go4 ?_;refine aT _ O (fun hc=>?_) (fun hc=>?_)
  ·replace hc:=cB_ hc
   have hc:i<n:=by omega
   refine go8 ?_;refine lJ (sk (sk s0)) 16 [] [] (go4 ?_);refine pQ O (aE (fZ O O) (congrArg (Value.int .i64) (lE oo_))) (go_ ?_);refine pQ O (dS arT O O oo_ oo_) (pQ O (cU tyT O mm_ (pU (by rw [hT.len];omega))) ?_);refine pQ O (dD fD eO O) (go_ ?_);refine pQ O (dS arT O O oo_ oo_) (pQ O (cU tyT O mm_ (pU oo_)) ?_);refine pQ O (dD fD eO O) (go_ ?_);refine pQ O (aE (fZ O O) (congrArg (Value.int .u64) (dS_ hT.cle (dA hT.lim _) (dA lv i)))) (go6 ?_);refine sQ (aE (fZ O O) (congrArg (Value.int .i64) (lE oo_))) O (go_ ?_);refine sQ (aE (dD eO fD O) (lO _)) O (go_ ?_);refine sQ (dS arT O O oo_ oo_) O (aQ O (kV tyT O O uu_ (by rw [hT.len];omega) (by first|exact .inl eU|exact .inr (List.mem_singleton.2 O)) ?_));refine go3 ?_;refine sQ (aE (rA O O dd_) (congrArg (Value.int .u64) (nQ _ 32))) O (go3 ?_);refine sQ (aE (fZ O O) (congrArg (Value.int .i64) (gX oo_))) O (go2 ?_);refine ⟨pp_,_,_,(List.Sublist.refl _),oo_,i+1,_,_,⟨?s8,?s11⟩,?mem,rfl,⟨by omega,QV hT lv oo_⟩⟩
   case mem=>rfl
   case s8=>rfl
   case s11=>rfl
  replace hc:=cB_ hc
  obtain rfl:n=i:=by omega
  refine go_ ?_;refine lJ (sk (sd s0)) 13 [12] [12] (go3 ?_);refine pQ O (aE (fZ O O) (congrArg (Value.int .i64) (lE oo_))) (go_ ?_);refine pQ O (dS arT O O oo_ oo_) (pQ O (cU tyT O mm_ (pU (by rw [hT.len];omega))) ?_);refine go_ ?_;refine pQ O (dD eO fD O) (pQ O (aE (fZ O O) (dR_ (dA hT.lim _) hT.cle)) (go_ ?_));refine pQ O (dS arT O O oo_ oo_) ?_;refine dC O O (kV tyT O O uu_ (by rw [hT.len];omega) (by first|exact .inl eU|exact .inr (List.mem_singleton.2 O)) ⟨nf,ss_,?_⟩);refine go_ ?_;refine zA O (.inl O) ?_;exact ⟨_,rfl,by first|exact .tail _ (.head _)|exact .head _,GiveIn.gave hT oo_ hV lu hsm⟩
theorem I4 (x:Nat) (hx:x<4294967296) :
    Ret prog 215 [U32 x] (.int .i64 ((bl x:Nat):Int)):=by
 refine bG (N:=19) func215 O O zz_ (fun w0=>?_);refine giI ?_;refine go8 ?_;refine aT _ O (fun h1=>?_) (fun h1=>?_)
 ·replace h1:=cB_ h1
  refine go2 ?_;refine sQ (aE (rA O O dd_) (MH x 16)) O (mQ ?_);refine aT _ O (fun h2=>?_) (fun h2=>?_)
  ·replace h2:=cB_ h2
   refine go2 ?_;refine sQ (aE (rA O O dd_) (MH _ 8)) O (mQ ?_);refine sQ (aE (dD fD OD O) (UG oo_)) O (sQ (GL (n:=256) bl cf_ O O oo_ (by decide +kernel)) O (sQ (aE (dD OD y9 O) (EA oo_)) O (go4 ?_)));refine rt1 ?_;exact EK (c:=24) O dd_ oo_ (by rw [w7 (k:=16) oo_,w7 (n:=x / 2 ^ 16) (k:=8) oo_];omega)
  replace h2:=cB_ h2
  refine go4 ?_;refine sQ (aE (dD fD OD O) (UG oo_)) O (sQ (GL (n:=256) bl cf_ O O oo_ (by decide +kernel)) O (sQ (aE (dD OD y9 O) (EA oo_)) O (go4 ?_)));refine rt1 ?_;exact EK (c:=16) O dd_ oo_ (by rw [w7 (k:=16) oo_])
 replace h1:=cB_ h1
 refine go6 ?_;refine aT _ O (fun h2=>?_) (fun h2=>?_)
 ·replace h2:=cB_ h2
  refine go2 ?_;refine sQ (aE (rA O O dd_) (MH _ 8)) O (mQ ?_);refine sQ (aE (dD fD OD O) (UG oo_)) O (sQ (GL (n:=256) bl cf_ O O oo_ (by decide +kernel)) O (sQ (aE (dD OD y9 O) (EA oo_)) O (go4 ?_)));refine rt1 ?_;exact EK (c:=8) O dd_ oo_ (by rw [w7 (k:=8) oo_])
 replace h2:=cB_ h2
 refine go4 ?_;refine sQ (aE (dD fD OD O) (UG oo_)) O (sQ (GL (n:=256) bl cf_ O O oo_ (by decide +kernel)) O (sQ (aE (dD OD y9 O) (EA oo_)) O (go4 ?_)));refine rt1 ?_;exact EK (c:=0) O dd_ oo_ oo_
theorem Y7 (x:Nat) (hx:x<4294967296) :
  Ret prog 199 [U32 x] (.int .i64 ((32 - bl x:Nat):Int)):=by
 refine bG (N:=6) func199 O O zz_ (fun w0=>?_);refine giI ?_;refine go5 ?_;refine sQ (aW aH (I4 x hx) O) O (go4 ?_);refine rt1 ?_;exact congrArg (Value.int .i64) (d2_ hx)
theorem BX (xs:List Nat) (hx:xs.length=16) (lx:Lim xs) (n:Nat) (hn:n<32) :
    Ret prog 200 [UV xs,.int .i64 (n:Int)] (.tuple #[UV (toL 16 (val xs*2 ^ n)),U32 (val xs*2 ^ n / 4294967296 ^ 16)]):=by
 refine bG (N:=30) func200 O O zz_ (fun w0=>?_);refine giI ?_;refine go_ ?_;refine aQ O (gW O O (fun b2 hb2=>aQ O (dL lU (fun b4 hb4=>go3 ?_))));refine aQ O (dL lU (fun b6 hb6=>go9 ?_));refine cE (rg [] 7 20) (fun g nn M=>∃ (k:Nat),(g 7 = .int .u64 ((mc (val xs) (2 ^ n) k:Nat):Int)∧g 9 = .int .i64 (k:Int))∧M=[⟨b6,29,uw (uP k (val xs*2 ^ n) 16)⟩,⟨b4,29,uw (List.replicate 16 0)⟩,⟨b2,29,uw xs⟩]∧nn=16 - k∧(k≤16)) (16) ?start ?round
 case start =>
  refine ⟨_,(List.Sublist.refl _),0,⟨?a7,?a9⟩,?mem0,rfl,Nat.zero_le _⟩
  case mem0=>rw [vL]
  case a7=>rw [bM_];rfl
  case a9=>rfl
 case round =>
  rintro nn g M ⟨k,⟨hg7,hg9⟩,rfl,hmeas,hk⟩;subst nn;refine gS2 hg7 hg9 ?_;clear hg7 hg9;refine go4 ?_;refine aT _ O (fun hc=>?_) (fun hc=>?_)
  ·replace hc:=cB_ hc
   have hc:k<16:=by omega
   refine mQ ?_;refine sQ (dS arT O O oo_ oo_) O (sQ (cU tyT O mm_ (pU oo_)) O ?_);refine sQ (dD fD eO O) O (go_ ?_);refine sQ (aE (BI O O oo_) (congrArg (Value.int .u64) (cc_ (dA lx k) oo_))) O (sQ (aE (L0 O O) (congrArg (Value.int .u64) (gc_ (cP_ (m:=2 ^ n) _ k (Nat.pow_pos dd_)) (dA lx k) hn))) O (go5 ?_));refine sQ (aE (dD eO fD O) (lO _)) O (sQ (dS arT O O oo_ oo_) O (aQ O (kV tyT O O uu_ (by rw [gL _ hk];exact hc) (.inl eU) ?_)));refine go3 ?_;refine sQ (aE (rA O O dd_) (congrArg (Value.int .u64) (nQ _ 32))) O (go6 ?_);refine ⟨pp_,_,_,(List.Sublist.refl _),oo_,k+1,⟨?s7,?s9⟩,?mem,rfl,oo_⟩
   case mem=>rw [dU xs k lx,ZC,uQ _ hc]
   case s7=>exact congrArg (fun m:Nat=>Value.int .u64 (m:Int)) (by rw [dU xs k lx];exact ZB _ _ _)
   case s9=>exact congrArg (Value.int .i64) (gX oo_)
  replace hc:=cB_ hc
  obtain rfl:k=16:=by omega
  refine go2 ?_;refine sQ (bU tyT O mm_ (by simp [uw,gL])) O ?_;refine go_ ?_;refine sQ (aE (dD eO fD O) (lO _)) O (aQ O (bE tyT O O uu_ (by simp [uw,gL]) O (fL _) (.inl eU) ?_));refine go3 ?_;refine rB O (.inr O) ⟨_,_,_,_,_,_,rfl,mm_,tyT,_,(dB (by simp [uw,gL])),(by simp [uw,gL]),rfl⟩ O ?_
  (rw [yQ,fu_ hx lx,Nat.mod_eq_of_lt (UH hx lx hn)];rfl)
theorem HM (xs:List Nat) (hx:xs.length=16) (lx:Lim xs) (n:Nat) (hn:n<32) :
    Ret prog 204 [UV xs,.int .i64 (n:Int)] (UV (toL 16 (val xs / 2 ^ n))):=by
 refine bG (N:=33) func204 O O zz_ (fun w0=>?_);refine giI ?_;refine go_ ?_;refine aQ O (gW O O (fun b2 hb2=>aQ O (dL lU (fun b4 hb4=>go2 ?_))));refine aQ O (dL lU (fun b5 hb5=>go6 ?_));refine cE (rg [] 6 26) (fun g nn M=>∃ (k:Nat),(g 8 = .int .i64 (k:Int))∧M=[⟨b5,29,uw (uP k (val xs / 2 ^ n) 16)⟩,⟨b4,29,uw (List.replicate 16 0)⟩,⟨b2,29,uw xs⟩]∧nn=16 - k∧(k≤16)) (16) ?start ?round
 case start =>
  refine ⟨_,(List.Sublist.refl _),0,?a8,?mem0,rfl,Nat.zero_le _⟩
  case mem0=>rw [vL]
  case a8=>rfl
 case round =>
  rintro nn g M ⟨k,hg8,rfl,hmeas,hk⟩;subst nn;refine gS1 hg8 ?_;clear hg8;refine go4 ?_;refine aT _ O (fun hc=>?_) (fun hc=>?_)
  ·replace hc:=cB_ hc
   have hc:k<16:=by omega
   refine U1 ?_;refine sQ (aE (fZ O O) (congrArg (Value.int .i64) (gX oo_))) O (go2 ?_);refine aT _ O (fun h13=>?_) (fun h13=>?_)
   ·replace h13:=cB_ h13
    refine go2 ?_;refine sQ (aE (fZ O O) (congrArg (Value.int .i64) (gX oo_))) O (sQ (dS arT O O oo_ oo_) O (sQ (cU tyT O mm_ (pU oo_)) O ?_));refine sQ (aE (dD fD eO O) (congrArg (Value.int .u64) (iS (dA lx _)))) O (go4 ?_);refine sQ (aE (gV O) (show _=Value.int .u64 ((dig (val xs) (k+1):Nat):Int) from by first|exact congrArg (fun m:Nat=>Value.int .u64 (m:Int)) (dU xs (k+1) lx)|exact congrArg (fun m:Nat=>Value.int .u64 (m:Int)) (NS hx lx oo_).symm)) O ?_;refine sQ (aE (BI O O dd_) (congrArg (Value.int .u64) (tW (nA _ _)))) O (go_ ?_);refine sQ (dS arT O O oo_ oo_) O (sQ (cU tyT O mm_ (pU oo_)) O ?_);refine sQ (aE (dD fD eO O) (congrArg (Value.int .u64) ((iS (dA lx _)).trans (by rw [dU xs k lx])))) O (sQ (aE (L0 O O) (congrArg (Value.int .u64) (EC (nA _ _) (nA _ _)))) O (go_ ?_));refine sQ (aE (rA O O oo_) (congrArg (Value.int .u64) (c4_ hn))) O (sQ (aE (dD eO fD O) (lO _)) O (sQ (dS arT O O oo_ oo_) O (aQ O (kV tyT O O uu_ (by rw [gL _ hk];exact hc) (.inl eU) ?_))));refine go5 ?_;refine ⟨pp_,_,_,(List.Sublist.refl _),oo_,k+1,?s8,?mem,rfl,oo_⟩
    case mem=>rw [FG k oo_,uQ _ hc]
    case s8=>exact congrArg (Value.int .i64) (gX oo_)
   replace h13:=cB_ h13
   refine go3 ?_;refine sQ (aE (gV O) (show _=Value.int .u64 ((dig (val xs) (k+1):Nat):Int) from by first|exact congrArg (fun m:Nat=>Value.int .u64 (m:Int)) (dU xs (k+1) lx)|exact congrArg (fun m:Nat=>Value.int .u64 (m:Int)) (NS hx lx oo_).symm)) O ?_;refine sQ (aE (BI O O dd_) (congrArg (Value.int .u64) (tW (nA _ _)))) O (go_ ?_);refine sQ (dS arT O O oo_ oo_) O (sQ (cU tyT O mm_ (pU oo_)) O ?_);refine sQ (aE (dD fD eO O) (congrArg (Value.int .u64) ((iS (dA lx _)).trans (by rw [dU xs k lx])))) O (sQ (aE (L0 O O) (congrArg (Value.int .u64) (EC (nA _ _) (nA _ _)))) O (go_ ?_));refine sQ (aE (rA O O oo_) (congrArg (Value.int .u64) (c4_ hn))) O (sQ (aE (dD eO fD O) (lO _)) O (sQ (dS arT O O oo_ oo_) O (aQ O (kV tyT O O uu_ (by rw [gL _ hk];exact hc) (.inl eU) ?_))));refine go5 ?_;refine ⟨pp_,_,_,(List.Sublist.refl _),oo_,k+1,?s8,?mem,rfl,oo_⟩
   case mem=>rw [FG k oo_,uQ _ hc]
   case s8=>exact congrArg (Value.int .i64) (gX oo_)
  replace hc:=cB_ hc
  obtain rfl:k=16:=by omega
  refine go2 ?_;refine sQ (bU tyT O mm_ (by simp [uw,gL])) O ?_;refine aQ O (bE tyT O O uu_ (by simp [uw,gL]) O (fL _) (.inl eU) ?_);refine go2 ?_;refine rtX O ⟨_,_,_,_,_,_,rfl,mm_,tyT,_,(dB (by simp [uw,gL])),(by simp [uw,gL]),rfl⟩ ?_
  (rw [yQ];rfl)
theorem wQ (xs:List Nat) (hx:xs.length=16) (lx:Lim xs) (d:Nat) (hd:d<4294967296) (h0:0<d) :
    Ret prog 147 [UV xs,U32 d] (.tuple #[UV (toL 16 (val xs / d)),U32 (val xs % d)]):=by
 refine bG (N:=33) func147 O O zz_ (fun w0=>?_);refine giI ?_;refine go_ ?_;refine aQ O (gW O O (fun b2 hb2=>aQ O (dL lU (fun b4 hb4=>mQ ?_))));refine cE (rg [] 6 24) (fun g nn M=>∃ (k:Nat),(g 6 = .int .u64 ((val xs / 4294967296 ^ k % d:Nat):Int)∧g 7 = .int .i64 ((k:Int) - 1))∧M=[⟨b4,29,uw (tL k (val xs / d))⟩,⟨b2,29,uw xs⟩]∧nn=k+0∧(k≤16)) (16) ?start ?round
 case start =>
  refine ⟨_,(List.Sublist.refl _),16,⟨?a6,?a7⟩,?mem0,rfl,Nat.le_refl _⟩
  case mem0=>rw [U5]
  case a6=>rw [fg_ hx lx];rfl
  case a7=>rfl
 case round =>
  rintro nn g M ⟨k,⟨hg6,hg7⟩,rfl,hmeas,hk⟩;subst nn;refine gS2 hg6 hg7 ?_;clear hg6 hg7;refine go5 ?_;refine aT _ O (fun hc=>?_) (fun hc=>?_)
  ·replace hc:=cB_ hc
   obtain ⟨m,rfl⟩:∃ m,k=m+1:=⟨k - 1,by omega⟩;have hr:val xs / 4294967296 ^ (m+1) % d<4294967296:=Nat.lt_trans (Nat.mod_lt _ h0) hd;refine go4 ?_;refine sQ (aE (gV O) O) O (sQ (aE (BI O O dd_) (congrArg (Value.int .u64) (tW hr))) O (sQ (aE (gV O) (congrArg (Value.int .i64) (show (((m+1:Nat):Int) - 1)=(m:Int) by omega))) O (sQ (dS arT O O oo_ oo_) O (sQ (cU tyT O mm_ (pU oo_)) O ?_))));refine sQ (aE (dD fD eO O) (congrArg (Value.int .u64) ((iS (dA lx _)).trans (by rw [dU xs m lx])))) O (sQ (aE (L0 O O) (congrArg (Value.int .u64) (EC hr (nA _ _)))) O (go3 ?_));refine sQ (aE (gV O) (congrArg (Value.int .i64) (show (((m+1:Nat):Int) - 1)=(m:Int) by omega))) O (go2 ?_);refine sQ (aE (dD fD eO O) (congrArg (Value.int .u64) (iS hd))) O (sQ (aE (oF O O oo_) (congrArg (Value.int .u64) (TP _ _))) O (sQ (aE (dD eO fD O) (lO _)) O (sQ (dS arT O O oo_ oo_) O (aQ O (kV tyT O O uu_ (by rw [kT _ oo_];omega) (.inl eU) ?_)))));refine go4 ?_;refine sQ (aE (dD fD eO O) (congrArg (Value.int .u64) (iS hd))) O (sQ (aE (pW O O oo_) (congrArg (Value.int .u64) (yZ _ _))) O (go3 ?_));refine sQ (aE (gV O) (congrArg (Value.int .i64) (show (((m+1:Nat):Int) - 1)=(m:Int) by omega))) O (go3 ?_);refine ⟨pp_,_,_,(List.Sublist.refl _),oo_,m,⟨?s6,?s7⟩,?mem,rfl,oo_⟩
   case mem=>rw [RW m h0,CC oo_]
   case s6=>exact congrArg (fun m:Nat=>Value.int .u64 (m:Int)) (DN m h0).2
   case s7=>exact congrArg (Value.int .i64) (bR (n:=(m:Int) - 1) (by unfold I64;omega))
  replace hc:=cB_ hc
  obtain rfl:k=0:=by omega
  refine go2 ?_;refine sQ (bU tyT O mm_ (by simp [uw,kT])) O ?_;refine go_ ?_;refine sQ (aE (dD eO fD O) (lO _)) O (aQ O (bE tyT O O uu_ (by simp [uw,kT]) (by simp [uw,kT]) (fL _) (.inl eU) ?_));refine go3 ?_;refine rB O (.inr O) ⟨_,_,_,_,_,_,rfl,mm_,tyT,_,(dB (by simp [uw,kT])),(by simp [uw,kT]),rfl⟩ O ?_
  (rw [I2,Nat.pow_zero,Nat.div_one,Nat.mod_eq_of_lt (Nat.lt_trans (Nat.mod_lt _ h0) hd)];rfl)
theorem oT (xs ys:List Nat) (hx:xs.length=16) (hy:ys.length=16) (lx:Lim xs) (ly:Lim ys) (h0:0<val ys) :
    Ret prog 166 [UV xs,UV ys] (.tuple #[UV (toL 16 (val xs / val ys)),UV (toL 16 (val xs % val ys))]):=by
 refine bG (N:=94) func166 O O zz_ (fun w0=>?_);refine giI ?_;refine go_ ?_;refine aQ O (gW O O (fun b2 hb2=>aQ O (gW O O (fun b3 hb3=>aQ O (dL lU (fun b4 hb4=>aQ O (dL lU (fun b5 hb5=>go2 ?_))))))));refine lJ (sk (sk (sk (sk s0)))) 6 [] [] (pQ O (bU tyT O mm_ (by simp [uw,hy])) ?_);refine pQ O (aW aH (kW ys hy) O) (pQ O (bU tyT O mm_ (by simp [uw,hx])) ?_);refine pQ O (aW aH (kW xs hx) O) (go5 ?_);refine sQ (bU tyT O mm_ (by simp [uw,hx])) O ?_;refine sQ (bU tyT O mm_ (by simp [uw,hy])) O ?_;refine sQ (aW aH (lD xs ys hx hy lx ly) O) O (go2 ?_);refine aT _ O (fun ho=>?_) (fun ho=>?_)
 ·replace ho:=cB_ ho
  have hlt:=W6 ho;refine go_ ?_;refine gdr (sd (sd (sk (sk s0)))) [0,6,9,13] [2,3] mix (by kernel_rfl) (pQ O (lG lU arT O (.nil _)) (E0 O O (bU tyT O mm_ (by simp [uw,hx])) ?_));refine dC O O (bE tyT O O uu_ (by simp [uw,List.length_replicate]) (by simp [uw]) (fL _) (.inl eU) ⟨nf,ss_,?_⟩);refine dC O O (bE tyT O O uu_ (by simp [uw,hx]) (by simp [uw]) (fL _) (.inl eU) ⟨nf,ss_,?_⟩);refine go2 ?_;refine rB O (.inr O) ⟨_,_,_,_,_,_,rfl,mm_,tyT,_,(dB (by simp [uw])),(by simp [uw]),rfl⟩ ⟨_,_,_,_,_,_,rfl,mm_,tyT,_,(dB (by simp [uw,hx])),(by simp [uw,hx]),rfl⟩ ?_;exact Z6 hx lx hlt
 replace ho:=cB_ ho
 have hle:=SF (Int.not_lt.1 ho);have hsp:=eD_ h0;have hsz:=rN ys;rw [hy] at hsz;refine go6 ?_;refine aT _ O (fun h29=>?_) (fun h29=>?_)
 ·replace h29:=cB_ h29
  have hsz1:szL ys=1:=by omega
  refine go_ ?_;refine sQ (bU tyT O mm_ (by simp [uw,hx])) O ?_;refine sQ (dS arT O O dd_ dd_) O (sQ (cU tyT O mm_ (pU (k:=0) oo_)) O ?_);refine sQ (aW aH (wQ xs hx lx _ (dA ly 0) (TJ hsz1)) O) O (go3 ?_);refine aQ O (dL lU (fun b8 hb8=>aQ O (bE tyT O O uu_ (by simp [uw,cM]) (by simp [uw]) (fL _) (.inl eU) ?_)));refine go3 ?_;refine sQ (bU tyT O mm_ (by simp [uw,cM])) O ?_;refine go_ ?_;refine sQ (lG lU arT O (fk_ _)) O (aQ O (bE tyT O O uu_ (by simp [uw,cM]) (by simp [uw]) (fL _) (.inl eU) ?_));refine aQ O (bE tyT O O uu_ (by simp [uw,List.length_replicate]) (by simp [uw]) (fL _) (.inl eU) ?_);refine go2 ?_;refine rB O (.inr O) ⟨_,_,_,_,_,_,rfl,mm_,tyT,_,(dB (by simp [uw,cM])),(by simp [uw,cM]),rfl⟩ ⟨_,_,_,_,_,_,rfl,mm_,tyT,_,(dB (by simp [uw])),(by simp [uw]),rfl⟩ ?_;exact b1_ ly hsz1
 replace h29:=cB_ h29
 have h2:2≤szL ys:=by omega
 have D:DV xs ys (szL ys) (32 - bl (ys.getD (szL ys - 1) 0)):=⟨hx,hy,lx,ly,rfl,h2,rfl,hle⟩;refine go3 ?_;refine sQ (aE (lL O O) (congrArg (Value.int .i64) (pP (b:=1) O oo_ oo_))) O (sQ (dS arT O O oo_ oo_) O (sQ (cU tyT O mm_ (pU oo_)) O ?_));refine sQ (aW aH (Y7 _ (dA ly _)) O) O (go3 ?_);refine sQ (bU tyT O mm_ (by simp [uw,hy])) O ?_;refine go_ ?_;refine sQ (aW aH (BX ys hy ly _ D.s32) O) O (go3 ?_);refine aQ O (dL lU (fun b11 hb11=>aQ O (bE tyT O O uu_ (by simp [uw,cM]) (by simp [uw]) (fL _) (.inl eU) ?_)));refine go3 ?_;refine sQ (bU tyT O mm_ (by simp [uw,hx])) O ?_;refine go_ ?_;refine sQ (aW aH (BX xs hx lx _ D.s32) O) O (go3 ?_);refine aQ O (dL lU (fun b13 hb13=>aQ O (bE tyT O O uu_ (by simp [uw,cM]) (by simp [uw]) (fL _) (.inl eU) ?_)));refine go3 ?_;refine aQ O (dL gj_ (fun b15 hb15=>go2 ?_));refine gdr (sd (sk (sk (sk (sk (sk (sk s0))))))) [0,4,9] [2] mix (by kernel_rfl) (pQ O (GM arT O O O dd_ dd_ dd_ dd_) (pQ O (GM arT O O O dd_ dd_ dd_ dd_) ?_));refine dC O O (eo_ ez_ O O mm_ uu_ (fun v hv=>fL _ v (List.mem_of_mem_drop (List.mem_of_mem_take hv))) (by simp [uw,cM]) (by simp [uw]) (bk_ (cM _ _)) (.inl eU) ⟨nf,ss_,?_⟩);refine go3 ?_;refine sQ (dS arT O O dd_ dd_) O (aQ O (kV (k:=16) tyT O O uu_ (by simp [cM]) (.inl eU) ?_));refine go5 ?_;refine sQ (aE (lL O O) (congrArg (Value.int .i64) (T7 D.nm (by have:=D.m16;omega)))) O (go3 ?_);refine cE (rg [16,17] 65 23) (fun g nn M=>∃ (k:Nat) (l:List Nat),(g 16 = .int .i64 ((k:Int) - 1))∧M=[⟨b15,225,uw l⟩,⟨b13,29,uw (toL 16 (val xs*2 ^ (32 - bl (ys.getD (szL ys - 1) 0))))⟩,⟨b11,29,uw (toL 16 (val ys*2 ^ (32 - bl (ys.getD (szL ys - 1) 0))))⟩,⟨b5,29,uw (List.replicate 16 0)⟩,⟨b4,29,uw (tL k (val xs / val ys))⟩,⟨b3,29,uw ys⟩,⟨b2,29,uw xs⟩]∧nn=k+0∧(k+szL ys≤17∧QI xs ys (32 - bl (ys.getD (szL ys - 1) 0)) k l)) (szL xs - szL ys+1) ?start ?round
 case start =>
  refine ⟨_,(List.Sublist.refl _),szL xs - szL ys+1,((toL 16 (val xs*2 ^ (32 - bl (ys.getD (szL ys - 1) 0)))++[0]).set 16 (val xs*2 ^ (32 - bl (ys.getD (szL ys - 1) 0)) / 4294967296 ^ 16)),?a16,?mem0,rfl,⟨by have:=D.nm;have:=D.m16;omega,QI.start D⟩⟩
  case mem0=>rw [← DV.qstart D]
  case a16=>exact congrArg (Value.int .i64) oo_
 case round =>
  rintro nn g M ⟨k,l,hg16,rfl,hmeas,⟨hkn,hq⟩⟩;subst nn;refine gS1 hg16 ?_;clear hg16;refine go5 ?_;refine aT _ O (fun hc=>?_) (fun hc=>?_)
  ·replace hc:=cB_ hc
   obtain ⟨m,rfl⟩:∃ m,k=m+1:=⟨k - 1,by omega⟩;refine go4 ?_;refine sQ (bU tyT O mm_ (by simp [uw,cM])) O ?_;refine go_ ?_;refine sQ (aE (gV O) (congrArg (Value.int .i64) (show (((m+1:Nat):Int) - 1)=(m:Int) by omega))) O (aQ O (b4_ aH O (fun w hw=>D8 l _ (szL ys) m (hq.qh D oo_) b15 225 w (hw.mem _ m0)) (fun d hd=>go4 ?_)));refine sQ (bU tyT O mm_ (by simp [uw,cM])) O ?_;refine go_ ?_;refine sQ (aE (gV O) (congrArg (Value.int .i64) (show (((m+1:Nat):Int) - 1)=(m:Int) by omega))) O (go_ ?_);refine aQ O (TQ aH O (fun w hw=>HP l _ (szL ys) m d hq.len hq.lim (cM _ _) (kE _ _) (by rw [D.v16];exact D.vlt) oo_ (hq.small D) hd.1 b15 225 w (hw.mem _ m0)) (fun x=>uu_) (.inl eU) (fun x ht=>?_));refine go_ ?_;refine aT _ O (fun h77=>?_) (fun h77=>?_)
   ·replace h77:=cB_ h77
    refine go2 ?_;refine sQ (aE (lL O O) (congrArg (Value.int .u64) (G7 O (ht.pos oo_) (by have:=hd.1;omega)))) O (go3 ?_);refine sQ (bU tyT O mm_ (by simp [uw,cM])) O ?_;refine go_ ?_;refine sQ (aE (gV O) (congrArg (Value.int .i64) (show (((m+1:Nat):Int) - 1)=(m:Int) by omega))) O (aQ O (TQ aH O (fun w hw=>HN x.1 _ (szL ys) m ht.len ht.lim (cM _ _) (kE _ _) (by rw [D.v16];exact D.vlt) oo_ ht.small b15 225 w (hw.mem _ m0)) (fun y=>uu_) (.inl eU) (fun y hgv=>?_)));refine go_ ?_;obtain ⟨hz,hdz,_⟩:=hq.took1 D hd ht oo_ hgv;refine go_ ?_;refine sQ (aE (gV O) (congrArg (Value.int .i64) (show (((m+1:Nat):Int) - 1)=(m:Int) by omega))) O (go_ ?_);refine sQ (aE (dD eO fD O) (lO _)) O (sQ (dS arT O O oo_ oo_) O (aQ O (kV tyT O O uu_ (by rw [kT _ oo_];omega) (.inl eU) ?_)));refine go2 ?_;refine sQ (aE (gV O) (congrArg (Value.int .i64) (show (((m+1:Nat):Int) - 1)=(m:Int) by omega))) O (go3 ?_);refine ⟨pp_,_,_,(List.Sublist.refl _),oo_,m,_,?s16,?mem,rfl,⟨by omega,hz⟩⟩
    case mem=>rw [hdz,CC oo_]
    case s16=>exact congrArg (Value.int .i64) (bR (n:=(m:Int) - 1) (by unfold I64;omega))
   replace h77:=cB_ h77
   obtain ⟨hz,hdz⟩:=hq.took0 D hd ht oo_;refine go2 ?_;refine sQ (aE (gV O) (congrArg (Value.int .i64) (show (((m+1:Nat):Int) - 1)=(m:Int) by omega))) O (go_ ?_);refine sQ (aE (dD eO fD O) (lO _)) O (sQ (dS arT O O oo_ oo_) O (aQ O (kV tyT O O uu_ (by rw [kT _ oo_];omega) (.inl eU) ?_)));refine go2 ?_;refine sQ (aE (gV O) (congrArg (Value.int .i64) (show (((m+1:Nat):Int) - 1)=(m:Int) by omega))) O (go3 ?_);refine ⟨pp_,_,_,(List.Sublist.refl _),oo_,m,_,?s16,?mem,rfl,⟨by omega,hz⟩⟩
   case mem=>rw [hdz,CC oo_]
   case s16=>exact congrArg (Value.int .i64) (bR (n:=(m:Int) - 1) (by unfold I64;omega))
  replace hc:=cB_ hc
  obtain rfl:k=0:=by omega
  refine go2 ?_;refine gdr (sk (sk (sk (sd (sd (sk (sk s0))))))) [0,4,8,12,16,20,25,29] [6,7] mix (by kernel_rfl) (pQ O (bU tyT O mm_ (by rw [e8,kT _ oo_])) ?_);refine pQ O (GM arT O O O dd_ dd_ dd_ dd_) (pQ O (Z2 arT O dd_) (pQ O (fM (vs:=uw (l.take 16)) tyT O mm_ ck_ (by simp [uw,hq.len])) ?_));refine go_ ?_;refine pQ O (aW aH (HM (l.take 16) (by simp [hq.len]) (hq.lim.take 16) _ D.s32) O) ?_;refine dC O O (bE tyT O O uu_ (by rw [e8,kT _ oo_]) (by rw [e8,kT _ oo_]) (fL _) (.inl eU) ⟨nf,ss_,?_⟩);refine dC O O (bE tyT O O uu_ (by simp [uw,cM]) (by simp [uw]) (fL _) (.inl eU) ⟨nf,ss_,?_⟩);refine go2 ?_;refine rB O (.inr O) ⟨_,_,_,_,_,_,rfl,mm_,tyT,_,(dB (by rw [e8,kT _ oo_])),(by rw [e8,kT _ oo_]),rfl⟩ ⟨_,_,_,_,_,_,rfl,mm_,tyT,_,(dB (by simp [uw,cM])),(by simp [uw,cM]),rfl⟩ ?_
  (rw [I2,hq.fin D];rfl)
end Go.Proofs.YtcjoflcajgaifaaGreatDoor
