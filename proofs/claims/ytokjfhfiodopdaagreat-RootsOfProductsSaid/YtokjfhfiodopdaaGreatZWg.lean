/- Lemmas: what they ask stands in their statements. -/
import Derived.Test.YtokjfhfiodopdaaGreatZWa
set_option linter.unusedSimpArgs false
set_option linter.unusedVariables false
set_option maxHeartbeats 8000000
set_option maxRecDepth 20000
namespace Go.Proofs.YtokjfhfiodopdaaGreat
open Go.Kn Go.Num Tryz
attribute [local irreducible] Go.Kn.W WL PL OpQ OpR OpS
theorem pL (xs ys:List Nat) (hx:xs.length=16) (hy:ys.length=16) (lx:Lim xs) (ly:Lim ys) (h0:0<val ys) :
    Ret prog 180 [UV xs,UV ys] (.tuple #[UV (toL 16 (val xs / val ys)),UV (toL 16 (val xs % val ys))]):=by
 refine bU (N:=94) func180 O O zz_ (fun w0=>?_);refine giI ?_;refine go_ ?_;refine aZ O (i7 O O (fun b2 hb2=>aZ O (i7 O O (fun b3 hb3=>aZ O (eB oA (fun b4 hb4=>aZ O (eB oA (fun b5 hb5=>go2 ?_))))))));refine qH (sk (sk (sk (sk s0)))) 6 [] [] (pQ O (cC tyT O mm_ (by simp [uw,hy])) ?_);refine pQ O (bR aM (l4 ys hy) O) (pQ O (cC tyT O mm_ (by simp [uw,hx])) ?_);refine pQ O (bR aM (l4 xs hx) O) (go5 ?_);refine sQ (cC tyT O mm_ (by simp [uw,hx])) O ?_;refine sQ (cC tyT O mm_ (by simp [uw,hy])) O ?_;refine sQ (bR aM (mI xs ys hx hy lx ly) O) O (go2 ?_);refine aQ _ O (fun ho=>?_) (fun ho=>?_)
 ·replace ho:=cB_ ho
  have hlt:=V9 ho;refine go_ ?_;refine gdr (sd (sd (sk (sk s0)))) [0,6,9,13] [2,3] mix (by kernel_rfl) (pQ O (m6 oA arT O (.nil _)) (EQ O O (cC tyT O mm_ (by simp [uw,hx])) ?_));refine fP O O (bN tyT O O uu_ (by simp [uw,List.length_replicate]) (by simp [uw]) (gU _) (.inl e6) ⟨nf,ss_,?_⟩);refine fP O O (bN tyT O O uu_ (by simp [uw,hx]) (by simp [uw]) (gU _) (.inl e6) ⟨nf,ss_,?_⟩);refine go2 ?_;refine sO O (.inr O) ⟨_,_,_,_,_,_,rfl,mm_,tyT,_,(dO (by simp [uw])),(by simp [uw]),rfl⟩ ⟨_,_,_,_,_,_,rfl,mm_,tyT,_,(dO (by simp [uw,hx])),(by simp [uw,hx]),rfl⟩ ?_;exact Y9 hx lx hlt
 replace ho:=cB_ ho
 have hle:=RC (Int.not_lt.1 ho);have hsp:=ec_ h0;have hsz:=sU ys;rw [hy] at hsz;refine go6 ?_;refine aQ _ O (fun h29=>?_) (fun h29=>?_)
 ·replace h29:=cB_ h29
  have hsz1:szL ys=1:=by omega
  refine go_ ?_;refine sQ (cC tyT O mm_ (by simp [uw,hx])) O ?_;refine sQ (eJ arT O O dd_ dd_) O (sQ (dD tyT O mm_ (rE (k:=0) oo_)) O ?_);refine sQ (bR aM (DW xs hx lx _ (dN ly 0) (SG hsz1)) O) O (go3 ?_);refine aZ O (eB oA (fun b8 hb8=>aZ O (bN tyT O O uu_ (by simp [uw,cW]) (by simp [uw]) (gU _) (.inl e6) ?_)));refine go3 ?_;refine sQ (cC tyT O mm_ (by simp [uw,cW])) O ?_;refine go_ ?_;refine sQ (m6 oA arT O (eP_ _)) O (aZ O (bN tyT O O uu_ (by simp [uw,cW]) (by simp [uw]) (gU _) (.inl e6) ?_));refine aZ O (bN tyT O O uu_ (by simp [uw,List.length_replicate]) (by simp [uw]) (gU _) (.inl e6) ?_);refine go2 ?_;refine sO O (.inr O) ⟨_,_,_,_,_,_,rfl,mm_,tyT,_,(dO (by simp [uw,cW])),(by simp [uw,cW]),rfl⟩ ⟨_,_,_,_,_,_,rfl,mm_,tyT,_,(dO (by simp [uw])),(by simp [uw]),rfl⟩ ?_;exact bt_ ly hsz1
 replace h29:=cB_ h29
 have h2:2≤szL ys:=by omega
 have D:DV xs ys (szL ys) (32 - bl (ys.getD (szL ys - 1) 0)):=⟨hx,hy,lx,ly,rfl,h2,rfl,hle⟩;refine go3 ?_;refine sQ (aW (mM O O) (congrArg (Value.int .i64) (rA (b:=1) O oo_ oo_))) O (sQ (eJ arT O O oo_ oo_) O (sQ (dD tyT O mm_ (rE oo_)) O ?_));refine sQ (bR aM (X9 _ (dN ly _)) O) O (go3 ?_);refine sQ (cC tyT O mm_ (by simp [uw,hy])) O ?_;refine go_ ?_;refine sQ (bR aM (B3 ys hy ly _ D.s32) O) O (go3 ?_);refine aZ O (eB oA (fun b11 hb11=>aZ O (bN tyT O O uu_ (by simp [uw,cW]) (by simp [uw]) (gU _) (.inl e6) ?_)));refine go3 ?_;refine sQ (cC tyT O mm_ (by simp [uw,hx])) O ?_;refine go_ ?_;refine sQ (bR aM (B3 xs hx lx _ D.s32) O) O (go3 ?_);refine aZ O (eB oA (fun b13 hb13=>aZ O (bN tyT O O uu_ (by simp [uw,cW]) (by simp [uw]) (gU _) (.inl e6) ?_)));refine go3 ?_;refine aZ O (eB fS_ (fun b15 hb15=>go2 ?_));refine gdr (sd (sk (sk (sk (sk (sk (sk s0))))))) [0,4,9] [2] mix (by kernel_rfl) (pQ O (F5 arT O O O dd_ dd_ dd_ dd_) (pQ O (F5 arT O O O dd_ dd_ dd_ dd_) ?_));refine fP O O (dT_ d7_ O O mm_ uu_ (fun v hv=>gU _ v (List.mem_of_mem_drop (List.mem_of_mem_take hv))) (by simp [uw,cW]) (by simp [uw]) (aM_ (cW _ _)) (.inl e6) ⟨nf,ss_,?_⟩);refine go3 ?_;refine sQ (eJ arT O O dd_ dd_) O (aZ O (lX (k:=16) tyT O O uu_ (by simp [cW]) (.inl e6) ?_));refine go5 ?_;refine sQ (aW (mM O O) (congrArg (Value.int .i64) (S2 D.nm (by have:=D.m16;omega)))) O (go3 ?_);refine bP (rg [16,17] 65 23) (fun g nn M=>∃ (k:Nat) (l:List Nat),(g 16 = .int .i64 ((k:Int) - 1))∧M=[⟨b15,181,uw l⟩,⟨b13,25,uw (toL 16 (val xs*2 ^ (32 - bl (ys.getD (szL ys - 1) 0))))⟩,⟨b11,25,uw (toL 16 (val ys*2 ^ (32 - bl (ys.getD (szL ys - 1) 0))))⟩,⟨b5,25,uw (List.replicate 16 0)⟩,⟨b4,25,uw (uS k (val xs / val ys))⟩,⟨b3,25,uw ys⟩,⟨b2,25,uw xs⟩]∧nn=k+0∧(k+szL ys≤17∧QI xs ys (32 - bl (ys.getD (szL ys - 1) 0)) k l)) (szL xs - szL ys+1) ?start ?round
 case start =>
  refine ⟨_,(List.Sublist.refl _),szL xs - szL ys+1,((toL 16 (val xs*2 ^ (32 - bl (ys.getD (szL ys - 1) 0)))++[0]).set 16 (val xs*2 ^ (32 - bl (ys.getD (szL ys - 1) 0)) / 4294967296 ^ 16)),?a16,?mem0,rfl,⟨by have:=D.nm;have:=D.m16;omega,QI.start D⟩⟩
  case mem0=>rw [← DV.qstart D]
  case a16=>exact congrArg (Value.int .i64) oo_
 case round =>
  rintro nn g M ⟨k,l,hg16,rfl,hmeas,⟨hkn,hq⟩⟩;subst nn;refine gS1 hg16 ?_;clear hg16;refine go5 ?_;refine aQ _ O (fun hc=>?_) (fun hc=>?_)
  ·replace hc:=cB_ hc
   obtain ⟨m,rfl⟩:∃ m,k=m+1:=⟨k - 1,by omega⟩;refine go4 ?_;refine sQ (cC tyT O mm_ (by simp [uw,cW])) O ?_;refine go_ ?_;refine sQ (aW (jA O) (congrArg (Value.int .i64) (show (((m+1:Nat):Int) - 1)=(m:Int) by omega))) O (aZ O (bv_ aM O (fun w hw=>DU l _ (szL ys) m (hq.qh D oo_) b15 181 w (hw.mem _ m0)) (fun d hd=>go4 ?_)));refine sQ (cC tyT O mm_ (by simp [uw,cW])) O ?_;refine go_ ?_;refine sQ (aW (jA O) (congrArg (Value.int .i64) (show (((m+1:Nat):Int) - 1)=(m:Int) by omega))) O (go_ ?_);refine aZ O (SN aM O (fun w hw=>G7 l _ (szL ys) m d hq.len hq.lim (cW _ _) (lE _ _) (by rw [D.v16];exact D.vlt) oo_ (hq.small D) hd.1 b15 181 w (hw.mem _ m0)) (fun x=>uu_) (.inl e6) (fun x ht=>?_));refine go_ ?_;refine aQ _ O (fun h77=>?_) (fun h77=>?_)
   ·replace h77:=cB_ h77
    refine go2 ?_;refine sQ (aW (mM O O) (congrArg (Value.int .u64) (GN O (ht.pos oo_) (by have:=hd.1;omega)))) O (go3 ?_);refine sQ (cC tyT O mm_ (by simp [uw,cW])) O ?_;refine go_ ?_;refine sQ (aW (jA O) (congrArg (Value.int .i64) (show (((m+1:Nat):Int) - 1)=(m:Int) by omega))) O (aZ O (SN aM O (fun w hw=>G5 x.1 _ (szL ys) m ht.len ht.lim (cW _ _) (lE _ _) (by rw [D.v16];exact D.vlt) oo_ ht.small b15 181 w (hw.mem _ m0)) (fun y=>uu_) (.inl e6) (fun y hgv=>?_)));refine go_ ?_;obtain ⟨hz,hdz,_⟩:=hq.took1 D hd ht oo_ hgv;refine go_ ?_;refine sQ (aW (jA O) (congrArg (Value.int .i64) (show (((m+1:Nat):Int) - 1)=(m:Int) by omega))) O (go_ ?_);refine sQ (aW (dA eV fX O) (mV _)) O (sQ (eJ arT O O oo_ oo_) O (aZ O (lX tyT O O uu_ (by rw [lR _ oo_];omega) (.inl e6) ?_)));refine go2 ?_;refine sQ (aW (jA O) (congrArg (Value.int .i64) (show (((m+1:Nat):Int) - 1)=(m:Int) by omega))) O (go3 ?_);refine ⟨pp_,_,_,(List.Sublist.refl _),oo_,m,_,?s16,?mem,rfl,⟨by omega,hz⟩⟩
    case mem=>rw [hdz,CG oo_]
    case s16=>exact congrArg (Value.int .i64) (bQ (n:=(m:Int) - 1) (by unfold I64;omega))
   replace h77:=cB_ h77
   obtain ⟨hz,hdz⟩:=hq.took0 D hd ht oo_;refine go2 ?_;refine sQ (aW (jA O) (congrArg (Value.int .i64) (show (((m+1:Nat):Int) - 1)=(m:Int) by omega))) O (go_ ?_);refine sQ (aW (dA eV fX O) (mV _)) O (sQ (eJ arT O O oo_ oo_) O (aZ O (lX tyT O O uu_ (by rw [lR _ oo_];omega) (.inl e6) ?_)));refine go2 ?_;refine sQ (aW (jA O) (congrArg (Value.int .i64) (show (((m+1:Nat):Int) - 1)=(m:Int) by omega))) O (go3 ?_);refine ⟨pp_,_,_,(List.Sublist.refl _),oo_,m,_,?s16,?mem,rfl,⟨by omega,hz⟩⟩
   case mem=>rw [hdz,CG oo_]
   case s16=>exact congrArg (Value.int .i64) (bQ (n:=(m:Int) - 1) (by unfold I64;omega))
  replace hc:=cB_ hc
  obtain rfl:k=0:=by omega
  refine go2 ?_;refine gdr (sk (sk (sk (sd (sd (sk (sk s0))))))) [0,4,8,12,16,20,25,29] [6,7] mix (by kernel_rfl) (pQ O (cC tyT O mm_ (by rw [fW,lR _ oo_])) ?_);refine pQ O (F5 arT O O O dd_ dd_ dd_ dd_) (pQ O (Y5 arT O dd_) (pQ O (gP (vs:=uw (l.take 16)) tyT O mm_ bI_ (by simp [uw,hq.len])) ?_));refine go_ ?_;refine pQ O (bR aM (G4 (l.take 16) (by simp [hq.len]) (hq.lim.take 16) _ D.s32) O) ?_;refine fP O O (bN tyT O O uu_ (by rw [fW,lR _ oo_]) (by rw [fW,lR _ oo_]) (gU _) (.inl e6) ⟨nf,ss_,?_⟩);refine fP O O (bN tyT O O uu_ (by simp [uw,cW]) (by simp [uw]) (gU _) (.inl e6) ⟨nf,ss_,?_⟩);refine go2 ?_;refine sO O (.inr O) ⟨_,_,_,_,_,_,rfl,mm_,tyT,_,(dO (by rw [fW,lR _ oo_])),(by rw [fW,lR _ oo_]),rfl⟩ ⟨_,_,_,_,_,_,rfl,mm_,tyT,_,(dO (by simp [uw,cW])),(by simp [uw,cW]),rfl⟩ ?_
  (rw [ID,hq.fin D];rfl)
theorem G2 (a:R) (ha:a.Ok) :
   Ret prog 196 [RV a] (.int .i64 (a.dec.bits:Int)):=by
 refine bU (N:=25) func196 O O zz_ (fun w0=>?_);refine giI ?_;refine go_ ?_;refine aZ O (i7 O O (fun b1 hb1=>go3 ?_));refine sQ (bV fdT dd_ O) O (sQ (gP (vs:=uw a.w) tyT O mm_ (jZ ha.len) ((fW _).trans ha.len)) O ?_);refine sQ (bR aM (l4 a.w ha.len) O) O (go4 ?_);refine sQ (cC tyT O mm_ (cU ha)) O ?_;refine aZ O (iS nC kF nB O dd_ O (wK ha) (fun b8 hb8=>sQ (eH aM O (fun w hw=>gZ [a] (ok1 ha) b8 27 w (hw.mem _ m0) zz_)) O ?_));refine go2 ?_
 cases hg:[a].all R.good
 ·refine go9 ?_;refine rt1 ?_;exact congrArg (fun n:Nat=>Value.int .i64 (n:Int)) (V2 (by simpa using hg))
 refine go4 ?_;refine aQ _ O (fun hz=>?_) (fun hz=>?_)
 ·replace hz:=cB_ hz
  refine go4 ?_;refine rt1 ?_;exact congrArg (fun n:Nat=>Value.int .i64 (n:Int)) (TT ha (by simpa using hg) oo_)
 replace hz:=cB_ hz
 refine go2 ?_
 have hs1:1≤szL a.w:=by omega
 have hs16:szL a.w≤16:=by have:=sU a.w;rw [ha.len] at this;exact this
 refine go_ ?_;refine sQ (aW (mM O O) (congrArg (Value.int .i64) (rA (b:=1) O oo_ oo_))) O (sQ (aW (SK O O) (congrArg (Value.int .i64) (e5_ O oo_))) O (go_ ?_));refine sQ (aW (mM O O) (congrArg (Value.int .i64) (rA (b:=1) O oo_ oo_))) O (sQ (bV fdT dd_ O) O (sQ (eJ arT O O oo_ oo_) O (sQ (dD tyT O mm_ (l6 (r:=a) (k:=szL a.w - 1) (by rw [ha.len];omega))) O ?_)));refine sQ (bR aM (IF _ (dN ha.lim _)) O) O (sQ (aW (hZ O O) (congrArg (Value.int .i64) (mJ (by have:=tP (k:=32) (dN ha.lim (szL a.w - 1));omega)))) O (go3 ?_));refine rt1 ?_;exact congrArg (fun n:Nat=>Value.int .i64 (n:Int)) (V4 ha (by simpa using hg) hs1)
theorem xE (a:R) (ha:a.Ok) :
    Ret prog 186 [RV a] (.tuple #[.int .i64 a.dec.small.1,.bool a.dec.small.2]):=by
 refine bU (N:=44) func186 O O zz_ (fun w0=>?_);refine giI ?_;refine go_ ?_;refine aZ O (i7 O O (fun b1 hb1=>go5 ?_));refine sQ (cC tyT O mm_ (cU ha)) O ?_;refine aZ O (iS nC kF nB O dd_ O (wK ha) (fun b6 hb6=>sQ (eH aM O (fun w hw=>gZ [a] (ok1 ha) b6 27 w (hw.mem _ m0) zz_)) O ?_));refine go2 ?_
 cases hg:[a].all R.good
 ·refine vL ?_;refine rt2 ?_;exact UZ (by simpa using hg)
 refine sQ (cC tyT O mm_ (cU ha)) O ?_;refine sQ (bR aM (G2 a ha) O) O (go3 ?_);refine aQ _ O (fun hb=>?_) (fun hb=>?_)
 ·replace hb:=cB_ hb
  refine go5 ?_;refine rt2 ?_;exact QT ha (by simpa using hg) hb
 replace hb:=cB_ hb
 have h64:=c7_ ha (by simpa using hg) hb;refine go2 ?_;refine sQ (bV fdT dd_ O) O (sQ (eJ arT O O dd_ dd_) O (sQ (dD tyT O mm_ (l6 (r:=a) (k:=1) (by rw [ha.len];omega))) O ?_));refine sQ (aW (dA fX eV O) (uJ (dN ha.lim _))) O (sQ (aW (BK O O dd_) (congrArg (Value.int .u64) (uY (dN ha.lim _)))) O (sQ (bV fdT dd_ O) O (sQ (eJ arT O O dd_ dd_) O (sQ (dD tyT O mm_ (l6 (r:=a) (k:=0) (by rw [ha.len];omega))) O ?_))));refine sQ (aW (dA fX eV O) (uJ (dN ha.lim _))) O (sQ (aW (K0 O O) (congrArg (Value.int .u64) ((N2 (dN ha.lim _) (dN ha.lim _)).trans (congrArg (fun m:Nat=>(m:Int)) (AG ha h64))))) O (go5 ?_));refine sQ (bV fdT dd_ O) O (sQ (dD tyT O mm_ O) O ?_);refine go_ ?_
 cases hn:a.neg
 ·refine go7 ?_;refine sQ (bV fdT dd_ O) O (sQ (dD tyT O mm_ O) O ?_);refine go_ ?_;rw [hn];refine go6 ?_;refine aQ _ O (fun hlt=>?_) (fun hlt=>?_)
  ·replace hlt:=cB_ hlt
   refine go2 ?_;refine sQ (aW (dA eV sL O) (congrArg (Value.int .i64) (U1 oo_))) O (go4 ?_);refine rt2 ?_;exact OW ha (by simpa using hg) (by rw [hn];rfl) (by rw [hn,uE];omega)
  replace hlt:=cB_ hlt
  refine go6 ?_;refine rt2 ?_;exact C1 ha (by simpa using hg) (by rw [hn,uE];omega)
 refine go5 ?_;refine aQ _ O (fun hle=>?_) (fun hle=>?_)
 ·replace hle:=cB_ hle
  refine go3 ?_;refine sQ (aW (dA eV sL O) (congrArg (Value.int .i64) (U0 oo_))) O (go4 ?_);refine rt2 ?_;exact OW ha (by simpa using hg) (by rw [hn];rfl) (by rw [hn,uX];omega)
 replace hle:=cB_ hle
 refine go_ ?_;refine sQ (bV fdT dd_ O) O (sQ (dD tyT O mm_ O) O ?_);refine go_ ?_;rw [hn];refine KG ?_;refine rt2 ?_;exact C1 ha (by simpa using hg) (by rw [hn,uX];omega)
theorem u3 (a b:R) (ha:a.Ok) (hb:b.Ok) :
    Ret prog 172 [RV a,RV b] (.tuple #[RV (Z.quo a.dec b.dec).enc,RV (Z.rem a.dec b.dec).enc]):=by
 refine bU (N:=108) func172 O O zz_ (fun w0=>?_);refine giI ?_;refine go_ ?_;refine aZ O (i7 O O (fun b2 hb2=>aZ O (i7 O O (fun b3 hb3=>aZ O (eB kF (fun b4 hb4=>aZ O (eB kF (fun b5 hb5=>go3 ?_))))))));refine sQ (cC tyT O mm_ (cU ha)) O ?_;refine sQ (cC tyT O mm_ (cU hb)) O ?_;refine aZ O (iS nC kF nB O dd_ O (JY ha hb) (fun b17 hb17=>sQ (eH aM O (fun w hw=>gZ [a,b] (ok2 ha hb) b17 27 w (hw.mem _ m0) zz_)) O ?_));refine go2 ?_
 cases hg:[a,b].all R.good
 ·refine go7 ?_;refine sQ (bR aM iB O) O (sQ (bR aM iB O) O (aZ O (bN tyT O O uu_ (aJ _) O (bJ _) (.inl e6) ?_)));refine aZ O (bN tyT O O uu_ (aJ _) O (bJ _) (.inl e6) ?_);refine go2 ?_;refine sO O (.inr O) ⟨_,_,_,_,_,_,rfl,mm_,tyT,_,(dO (aJ _)),(aJ _),rfl⟩ ⟨_,_,_,_,_,_,rfl,mm_,tyT,_,(dO (aJ _)),(aJ _),rfl⟩ ?_;exact br_ (BF hg)
 have hg:=all2.1 hg;refine sQ (cC tyT O mm_ (cU hb)) O ?_;refine sQ (bR aM (gD b hb) O) O (go3 ?_);refine aQ _ O (fun hs0=>?_) (fun hs0=>?_)
 ·replace hs0:=cB_ hs0
  refine go_ ?_;refine sQ (bR aM iB O) O (sQ (bR aM iB O) O (aZ O (bN tyT O O uu_ (aJ _) O (bJ _) (.inl e6) ?_)));refine aZ O (bN tyT O O uu_ (aJ _) O (bJ _) (.inl e6) ?_);refine go2 ?_;refine sO O (.inr O) ⟨_,_,_,_,_,_,rfl,mm_,tyT,_,(dO (aJ _)),(aJ _),rfl⟩ ⟨_,_,_,_,_,_,rfl,mm_,tyT,_,(dO (aJ _)),(aJ _),rfl⟩ ?_;exact ZB ha hb hg.1 hg.2 hs0
 replace hs0:=cB_ hs0
 have hs0:b.dec.sign≠0:=hs0;have hp:=DT hb hg.2 hs0;refine go_ ?_;refine sI (rg [6,7,8,9,10,11] 27 44) (fun g M=>(True)∧M=[⟨b5,27,zR⟩,⟨b4,27,zR⟩,⟨b3,27,b.cells⟩,⟨b2,27,a.cells⟩]∧(True)) (fun K6 J6=>?_) ?_
 ·refine go_ ?_;refine sQ (cC tyT O mm_ (cU ha)) O ?_;refine sQ (bR aM (xE a ha) O) O (go9 ?_)
  cases hsa:a.dec.small.2
  ·refine go6 ?_;refine J6 _ _ pp_ ⟨_,(List.Sublist.cons _ (List.Sublist.refl _)),trivial,?mem,trivial⟩
   case mem=>rfl
  refine go4 ?_;refine aQ _ O (fun hma=>?_) (fun hma=>?_)
  ·replace hma:=cB_ hma
   have ea:=GJ hsa;refine go_ ?_;refine sQ (cC tyT O mm_ (cU hb)) O ?_;refine sQ (bR aM (xE b hb) O) O (go9 ?_)
   cases hsb:b.dec.small.2
   ·refine go6 ?_;refine J6 _ _ pp_ ⟨_,(List.Sublist.cons _ (List.Sublist.refl _)),trivial,?mem,trivial⟩
    case mem=>rfl
   refine go4 ?_;refine aQ _ O (fun hmb=>?_) (fun hmb=>?_)
   ·replace hmb:=cB_ hmb
    have eb:=GJ hsb;have hy0:=LN eb.1 hs0;have hq64:I64 (a.dec.small.1.tdiv b.dec.small.1):=QO ea.2 hma;have hr64:=dY_ (x:=a.dec.small.1) hy0 eb.2;refine go_ ?_;refine qH (sk (sk (sk (sk (sk s0))))) 8 [] [] (go2 ?_);refine pQ O (aW (qR O O hy0) (congrArg (Value.int .i64) (bQ (QO ea.2 hma)))) (go2 ?_);refine pQ O (pT O O hy0) (go8 ?_)
    cases hr0:(a.dec.small.1.tmod b.dec.small.1 != 0)
    ·refine vL ?_;refine sQ (bR aM (fS _ (by first|exact hI1|exact hq64)) O) O ?_;refine go_ ?_;refine sQ (bR aM (fS _ (by first|exact hI2|exact hr64)) O) O ?_;refine aZ O (bN tyT O O uu_ (aJ _) O (bJ _) (.inl e6) ?_);refine aZ O (bN tyT O O uu_ (aJ _) O (bJ _) (.inl e6) ?_);refine go2 ?_;refine sO O (.inr O) ⟨_,_,_,_,_,_,rfl,mm_,tyT,_,(dO (aJ _)),(aJ _),rfl⟩ ⟨_,_,_,_,_,_,rfl,mm_,tyT,_,(dO (aJ _)),(aJ _),rfl⟩ ?_;exact C0 ea.1 eb.1 hs0 (A5 hy0 (.inl (by simpa using hr0)))
    refine go4 ?_;refine sQ (uA AM O O) O (go2 ?_);refine aQ _ O (fun hsg=>?_) (fun hsg=>?_)
    ·replace hsg:=cB_ hsg
     have hI1:I64 (a.dec.small.1.tdiv b.dec.small.1 - 1):=Y8 ea.2 hma;have hI2:=dZ_ hy0 eb.2 (bne_iff_ne.2 hsg);refine go2 ?_;refine sQ (aW (mM O O) (congrArg (Value.int .i64) (bQ hI1))) O (go2 ?_);refine sQ (aW (hZ O O) (congrArg (Value.int .i64) (bQ hI2))) O (go5 ?_);refine sQ (bR aM (fS _ (by first|exact hI1|exact hq64)) O) O ?_;refine go_ ?_;refine sQ (bR aM (fS _ (by first|exact hI2|exact hr64)) O) O ?_;refine aZ O (bN tyT O O uu_ (aJ _) O (bJ _) (.inl e6) ?_);refine aZ O (bN tyT O O uu_ (aJ _) O (bJ _) (.inl e6) ?_);refine go2 ?_;refine sO O (.inr O) ⟨_,_,_,_,_,_,rfl,mm_,tyT,_,(dO (aJ _)),(aJ _),rfl⟩ ⟨_,_,_,_,_,_,rfl,mm_,tyT,_,(dO (aJ _)),(aJ _),rfl⟩ ?_;exact C0 ea.1 eb.1 hs0 (PS hy0 (by simpa using hr0) (bne_iff_ne.2 hsg))
    replace hsg:=cB_ hsg
    refine go3 ?_;refine sQ (bR aM (fS _ (by first|exact hI1|exact hq64)) O) O ?_;refine go_ ?_;refine sQ (bR aM (fS _ (by first|exact hI2|exact hr64)) O) O ?_;refine aZ O (bN tyT O O uu_ (aJ _) O (bJ _) (.inl e6) ?_);refine aZ O (bN tyT O O uu_ (aJ _) O (bJ _) (.inl e6) ?_);refine go2 ?_;refine sO O (.inr O) ⟨_,_,_,_,_,_,rfl,mm_,tyT,_,(dO (aJ _)),(aJ _),rfl⟩ ⟨_,_,_,_,_,_,rfl,mm_,tyT,_,(dO (aJ _)),(aJ _),rfl⟩ ?_;exact C0 ea.1 eb.1 hs0 (A5 hy0 (.inr (by simpa using hsg)))
   replace hmb:=cB_ hmb
   refine go_ ?_;refine J6 _ _ pp_ ⟨_,(List.Sublist.cons _ (List.Sublist.refl _)),trivial,?mem,trivial⟩
   case mem=>rfl
  replace hma:=cB_ hma
  refine go_ ?_;refine J6 _ _ pp_ ⟨_,(List.Sublist.cons _ (List.Sublist.refl _)),trivial,?mem,trivial⟩
  case mem=>rfl
 rintro g M ⟨-,rfl,-⟩;refine gS0 ?_;refine go_ ?_;refine sQ (bV fdT dd_ O) O (sQ (gP (vs:=uw a.w) tyT O mm_ (jZ ha.len) ((fW _).trans ha.len)) O ?_);refine sQ (bV fdT dd_ O) O (sQ (gP (vs:=uw b.w) tyT O mm_ (jZ hb.len) ((fW _).trans hb.len)) O ?_);refine sQ (bR aM (pL a.w b.w ha.len hb.len ha.lim hb.lim hp) O) O (go3 ?_);refine aZ O (eB oA (fun b12 hb12=>aZ O (eB oA (fun b13 hb13=>aZ O (bN tyT O O uu_ (by simp [uw,cW]) (by simp [uw]) (gU _) (.inl e6) ?_)))));refine aZ O (bN tyT O O uu_ (by simp [uw,cW]) (by simp [uw]) (gU _) (.inl e6) ?_);refine go2 ?_;refine sQ (bV fdT dd_ O) O (sQ (dD tyT O mm_ O) O ?_);refine sQ (bV fdT dd_ O) O (sQ (dD tyT O mm_ O) O ?_);refine sQ (uA AM O O) O (sQ (cC tyT O mm_ (by simp [uw,cW])) O ?_);refine sQ (aW (bR aM (eZ (a.neg != b.neg) _ (cW _ _) (lE _ _)) O) (congrArg RV (nI _ (ZA ha)))) O (aZ O (eB kF (fun b14 hb14=>aZ O (bN tyT O O uu_ (aJ _) O (bJ _) (.inl e6) ?_))));refine go_ ?_;refine sI (rg [] 86 17) (fun g M=>∃ (z:Z) (l:List Nat),(True)∧M=[⟨b14,27,z.enc.cells⟩,⟨b13,25,uw l⟩,⟨b12,25,uw (toL 16 (val a.w / val b.w))⟩,⟨b5,27,zR⟩,⟨b4,27,zR⟩,⟨b3,27,b.cells⟩,⟨b2,27,a.cells⟩]∧(l.length=16∧Lim l∧z=Z.quo a.dec b.dec∧R.mk false (b.neg && !(val l==0)) l=(Z.rem a.dec b.dec).enc)) (fun K19 J19=>?_) ?_
 ·refine go_ ?_;refine sQ (cC tyT O mm_ (by simp [uw,cW])) O ?_;refine sQ (m6 oA arT O (.nil _)) O ?_;refine sQ (CP (r:=(val a.w % val b.w==0)) O O (nJ 8 dd_ E6 FN (lY (cW _ _)) (lY zz_) (ZF ha))) O ?_;refine go_ ?_
  cases hr1:(val a.w % val b.w==0)
  ·refine sQ (bV fdT dd_ O) O (sQ (dD tyT O mm_ O) O ?_);refine sQ (bV fdT dd_ O) O (sQ (dD tyT O mm_ O) O ?_);refine sQ (uA AM O O) O (go2 ?_);refine aQ _ O (fun hne=>?_) (fun hne=>?_)
   ·replace hne:=cB_ hne
    refine gdr (sd (sd (sk (sk (sk (sk (sk s0))))))) [0,4,8,12,16,20,24,29,33] [7,8] mix (by kernel_rfl) (pQ O (cC tyT O mm_ (aJ _)) ?_);refine pQ O (bR aM (fS 1 (by unfold I64;decide)) O) (pQ O (bR aM (pG (Z.of (sgn (a.neg != b.neg) (val a.w / val b.w))).enc (Z.of 1).enc (Z.enc_ok _) (Z.enc_ok _)) O) (pQ O (bV fdT dd_ O) (pQ O (gP (vs:=uw b.w) tyT O mm_ (jZ hb.len) ((fW _).trans hb.len)) ?_)));refine pQ O (cC tyT O mm_ (by simp [uw,cW])) ?_;refine pQ O (bR aM (sY b.w _ hb.len (cW _ _) hb.lim (lE _ _) (d0_ ha hp)) O) ?_;refine fP O O (bN tyT O O uu_ (aJ _) (aJ _) (bJ _) (.inl e6) ⟨nf,ss_,?_⟩);refine fP O O (bN tyT O O uu_ (by simp [uw,cW]) (by simp [uw,cW]) (gU _) (.inl e6) ⟨nf,ss_,?_⟩);refine go_ ?_;refine J19 _ _ pp_ ⟨_,(List.Sublist.refl _),_,_,trivial,?mem,aP_ ha hb hg.1 hg.2 hp (by simpa using hr1) hne⟩
    case mem=>rfl
   replace hne:=cB_ hne
   refine go_ ?_;refine J19 _ _ pp_ ⟨_,(List.Sublist.refl _),_,_,trivial,?mem,M5 ha hb hg.1 hg.2 hp (.inr (by simpa using hne))⟩
   case mem=>rfl
  refine go9 ?_;refine J19 _ _ pp_ ⟨_,(List.Sublist.refl _),_,_,trivial,?mem,M5 ha hb hg.1 hg.2 hp (.inl (by simpa using hr1))⟩
  case mem=>rfl
 rintro g M ⟨z,l,-,rfl,⟨hl16,hlim,hzq,hzr⟩⟩;refine gS0 ?_;refine go_ ?_;refine gdr (sk (sk (sk (sd (sd (sk (sk s0))))))) [0,4,8,12,16,21,25] [5,6] mix (by kernel_rfl) (pQ O (cC tyT O mm_ (aJ _)) ?_);refine pQ O (bV fdT dd_ O) (pQ O (dD tyT O mm_ O) ?_);refine pQ O (cC tyT O mm_ (by rw [fW,hl16])) ?_;refine pQ O (bR aM (eZ b.neg l hl16 hlim) O) ?_;refine fP O O (bN tyT O O uu_ (aJ _) O (bJ _) (.inl e6) ⟨nf,ss_,?_⟩);refine fP O O (bN tyT O O uu_ (j4 hl16) O (bJ _) (.inl e6) ⟨nf,ss_,?_⟩);refine go2 ?_;refine sO O (.inr O) ⟨_,_,_,_,_,_,rfl,mm_,tyT,_,(dO (aJ _)),(aJ _),rfl⟩ ⟨_,_,_,_,_,_,rfl,mm_,tyT,_,(dO (j4 hl16)),(j4 hl16),rfl⟩ ?_
 (subst hzq;exact congrArg (fun r:R=>Value.tuple #[RV (Z.quo a.dec b.dec).enc,RV r]) hzr)
theorem i5 (a b:R) (ha:a.Ok) (hb:b.Ok) :
  Ret prog 120 [RV a,RV b] (RV (Z.quo a.dec b.dec).enc):=by
 refine bU (N:=14) func120 O O zz_ (fun w0=>?_);refine giI ?_;refine go_ ?_;refine aZ O (i7 O O (fun b2 hb2=>aZ O (i7 O O (fun b3 hb3=>aZ O (eB kF (fun b4 hb4=>go2 ?_))))));refine sQ (cC tyT O mm_ (cU ha)) O ?_;refine sQ (cC tyT O mm_ (cU hb)) O ?_;refine sQ (bR aM (u3 a b ha hb) O) O (go3 ?_);refine aZ O (eB kF (fun b5 hb5=>aZ O (eB kF (fun b6 hb6=>aZ O (bN tyT O O uu_ (aJ _) O (bJ _) (.inl e6) ?_)))));refine aZ O (bN tyT O O uu_ (aJ _) O (bJ _) (.inl e6) ?_);refine go2 ?_;refine sQ (cC tyT O mm_ (aJ _)) O ?_;refine aZ O (bN tyT O O uu_ (aJ _) O (bJ _) (.inl e6) ?_);refine go2 ?_;refine rtX O ⟨_,_,_,_,_,_,rfl,mm_,tyT,_,(dO (aJ _)),(aJ _),rfl⟩ ?_;exact rfl
theorem zP (a b:R) (ha:a.Ok) (hb:b.Ok) :
  Ret prog 143 [RV a,RV b] (RV (Z.rem a.dec b.dec).enc):=by
 refine bU (N:=14) func143 O O zz_ (fun w0=>?_);refine giI ?_;refine go_ ?_;refine aZ O (i7 O O (fun b2 hb2=>aZ O (i7 O O (fun b3 hb3=>aZ O (eB kF (fun b4 hb4=>go2 ?_))))));refine sQ (cC tyT O mm_ (cU ha)) O ?_;refine sQ (cC tyT O mm_ (cU hb)) O ?_;refine sQ (bR aM (u3 a b ha hb) O) O (go3 ?_);refine aZ O (eB kF (fun b5 hb5=>aZ O (eB kF (fun b6 hb6=>aZ O (bN tyT O O uu_ (aJ _) O (bJ _) (.inl e6) ?_)))));refine aZ O (bN tyT O O uu_ (aJ _) O (bJ _) (.inl e6) ?_);refine go2 ?_;refine sQ (cC tyT O mm_ (aJ _)) O ?_;refine aZ O (bN tyT O O uu_ (aJ _) O (bJ _) (.inl e6) ?_);refine go2 ?_;refine rtX O ⟨_,_,_,_,_,_,rfl,mm_,tyT,_,(dO (aJ _)),(aJ _),rfl⟩ ?_;exact rfl
theorem HQ (a b:R) (ha:a.Ok) (hb:b.Ok) :
    Ret prog 142 [RV a,RV b] (.int .i64 (Z.cmp a.dec b.dec)):=by
 refine bU (N:=47) func142 O O zz_ (fun w0=>?_);refine giI ?_;refine go_ ?_;refine aZ O (i7 O O (fun b2 hb2=>aZ O (i7 O O (fun b3 hb3=>go3 ?_))));refine gDk (sk (sk s0)) (.quiet 0 [1,2,5,6,7] (.quiet 3 [4,5,6,7] (.both 1 (.quiet 2 [5,6,7] (.only 4 (.quiet 5 [6,7] (.quiet 6 [7] (.quiet 7 [] (.fin)))))) 4 (.only 1 (.quiet 2 [5,6,7] (.quiet 5 [6,7] (.quiet 6 [7] (.quiet 7 [] (.fin))))))))) (rg [] 0 8) mix (by kernel_rfl) (by kernel_rfl) (pQ O (cC tyT O mm_ (cU ha)) ?_);refine pQ O (cC tyT O mm_ (cU hb)) ?_;refine HB ?_ ?_
 ·refine fP O O (iS nC kF nB O dd_ O (wK ha) (fun b8 hb8=>⟨(fun _=>by first|exact sd s0|exact s0),ss_,?_⟩));refine pQ O (eH aM O (fun w hw=>gZ [a] (ok1 ha) b8 27 w (hw.mem ⟨b8,27,_⟩ (by first|exact m0|exact m1)) zz_)) ?_;refine fP O O (iS nC kF nB O dd_ O (wK hb) (fun b11 hb11=>⟨(fun _=>by first|exact sd s0|exact s0),ss_,?_⟩));refine pQ O (eH aM O (fun w hw=>gZ [b] (ok1 hb) b11 27 w (hw.mem ⟨b11,27,_⟩ (by first|exact m0|exact m1)) zz_)) ?_;refine go9 ?_
  cases hga:[a].all R.good
  ·refine go5 ?_;refine aQ _ O (fun hgb=>?_) (fun hgb=>?_)
   ·replace hgb:=cB_ hgb
    refine go4 ?_;refine rt1 ?_;exact congrArg _ (WB (by simpa using hga) (by simpa using hgb))
   replace hgb:=cB_ hgb
   refine o2 ?_;refine rt1 ?_;exact congrArg _ (WC (by simpa using hga) hb (by simpa using hgb))
  refine XL ?_;refine aQ _ O (fun hgb=>?_) (fun hgb=>?_)
  ·replace hgb:=cB_ hgb
   refine go4 ?_;refine rt1 ?_;exact congrArg _ (WD ha (by simpa using hga) (by simpa using hgb))
  replace hgb:=cB_ hgb
  refine go_ ?_;refine sQ (bV fdT dd_ O) O (sQ (dD tyT O mm_ O) O ?_);refine sQ (bV fdT dd_ O) O (sQ (dD tyT O mm_ O) O ?_);refine sQ (uA AM O O) O (go2 ?_);refine aQ _ O (fun hn=>?_) (fun hn=>?_)
  ·replace hn:=cB_ hn
   refine go2 ?_;refine sQ (bV fdT dd_ O) O (sQ (dD tyT O mm_ O) O ?_);refine go_ ?_;refine aQ _ O (fun hs=>?_) (fun hs=>?_)
   ·replace hs:=cB_ hs
    refine go4 ?_;refine rt1 ?_;exact congrArg _ (WF ha hb (by simpa using hga) (by simpa using hgb) hn hs)
   replace hs:=cB_ hs
   refine go5 ?_;refine rt1 ?_;exact congrArg _ (WE ha hb (by simpa using hga) (by simpa using hgb) hn (by simpa using hs))
  replace hn:=cB_ hn
  refine go_ ?_;refine sQ (bV fdT dd_ O) O (sQ (dD tyT O mm_ O) O ?_);refine go2 ?_;refine aQ _ O (fun hs=>?_) (fun hs=>?_)
  ·replace hs:=cB_ hs
   refine go_ ?_;refine sQ (bV fdT dd_ O) O (sQ (gP (vs:=uw b.w) tyT O mm_ (jZ hb.len) ((fW _).trans hb.len)) O ?_);refine sQ (bV fdT dd_ O) O (sQ (gP (vs:=uw a.w) tyT O mm_ (jZ ha.len) ((fW _).trans ha.len)) O ?_);refine sQ (bR aM (mI b.w a.w hb.len ha.len hb.lim ha.lim) O) O (go3 ?_);refine rt1 ?_;exact congrArg _ (WG ha hb (by simpa using hga) (by simpa using hgb) hn hs)
  replace hs:=cB_ hs
  refine go2 ?_;refine sQ (bV fdT dd_ O) O (sQ (gP (vs:=uw a.w) tyT O mm_ (jZ ha.len) ((fW _).trans ha.len)) O ?_);refine sQ (bV fdT dd_ O) O (sQ (gP (vs:=uw b.w) tyT O mm_ (jZ hb.len) ((fW _).trans hb.len)) O ?_);refine sQ (bR aM (mI a.w b.w ha.len hb.len ha.lim hb.lim) O) O (go3 ?_);refine rt1 ?_;exact congrArg _ (WH ha hb (by simpa using hga) (by simpa using hgb) hn (by simpa using hs))
 refine fP O O (iS nC kF nB O dd_ O (wK hb) (fun b11 hb11=>⟨(fun _=>by first|exact sd s0|exact s0),ss_,?_⟩));refine fP O O (iS nC kF nB O dd_ O (wK ha) (fun b8 hb8=>⟨(fun _=>by first|exact sd s0|exact s0),ss_,?_⟩));refine pQ O (eH aM O (fun w hw=>gZ [a] (ok1 ha) b8 27 w (hw.mem ⟨b8,27,_⟩ (by first|exact m0|exact m1)) zz_)) ?_;refine pQ O (eH aM O (fun w hw=>gZ [b] (ok1 hb) b11 27 w (hw.mem ⟨b11,27,_⟩ (by first|exact m0|exact m1)) zz_)) ?_;refine go9 ?_
 cases hga:[a].all R.good
 ·refine go5 ?_;refine aQ _ O (fun hgb=>?_) (fun hgb=>?_)
  ·replace hgb:=cB_ hgb
   refine go4 ?_;refine rt1 ?_;exact congrArg _ (WB (by simpa using hga) (by simpa using hgb))
  replace hgb:=cB_ hgb
  refine o2 ?_;refine rt1 ?_;exact congrArg _ (WC (by simpa using hga) hb (by simpa using hgb))
 refine XL ?_;refine aQ _ O (fun hgb=>?_) (fun hgb=>?_)
 ·replace hgb:=cB_ hgb
  refine go4 ?_;refine rt1 ?_;exact congrArg _ (WD ha (by simpa using hga) (by simpa using hgb))
 replace hgb:=cB_ hgb
 refine go_ ?_;refine sQ (bV fdT dd_ O) O (sQ (dD tyT O mm_ O) O ?_);refine sQ (bV fdT dd_ O) O (sQ (dD tyT O mm_ O) O ?_);refine sQ (uA AM O O) O (go2 ?_);refine aQ _ O (fun hn=>?_) (fun hn=>?_)
 ·replace hn:=cB_ hn
  refine go2 ?_;refine sQ (bV fdT dd_ O) O (sQ (dD tyT O mm_ O) O ?_);refine go_ ?_;refine aQ _ O (fun hs=>?_) (fun hs=>?_)
  ·replace hs:=cB_ hs
   refine go4 ?_;refine rt1 ?_;exact congrArg _ (WF ha hb (by simpa using hga) (by simpa using hgb) hn hs)
  replace hs:=cB_ hs
  refine go5 ?_;refine rt1 ?_;exact congrArg _ (WE ha hb (by simpa using hga) (by simpa using hgb) hn (by simpa using hs))
 replace hn:=cB_ hn
 refine go_ ?_;refine sQ (bV fdT dd_ O) O (sQ (dD tyT O mm_ O) O ?_);refine go2 ?_;refine aQ _ O (fun hs=>?_) (fun hs=>?_)
 ·replace hs:=cB_ hs
  refine go_ ?_;refine sQ (bV fdT dd_ O) O (sQ (gP (vs:=uw b.w) tyT O mm_ (jZ hb.len) ((fW _).trans hb.len)) O ?_);refine sQ (bV fdT dd_ O) O (sQ (gP (vs:=uw a.w) tyT O mm_ (jZ ha.len) ((fW _).trans ha.len)) O ?_);refine sQ (bR aM (mI b.w a.w hb.len ha.len hb.lim ha.lim) O) O (go3 ?_);refine rt1 ?_;exact congrArg _ (WG ha hb (by simpa using hga) (by simpa using hgb) hn hs)
 replace hs:=cB_ hs
 refine go2 ?_;refine sQ (bV fdT dd_ O) O (sQ (gP (vs:=uw a.w) tyT O mm_ (jZ ha.len) ((fW _).trans ha.len)) O ?_);refine sQ (bV fdT dd_ O) O (sQ (gP (vs:=uw b.w) tyT O mm_ (jZ hb.len) ((fW _).trans hb.len)) O ?_);refine sQ (bR aM (mI a.w b.w ha.len hb.len ha.lim hb.lim) O) O (go3 ?_);refine rt1 ?_;exact congrArg _ (WH ha hb (by simpa using hga) (by simpa using hgb) hn (by simpa using hs))
theorem G3 (n:Nat) (IH:∀ (a b:R),a.Ok→b.Ok→val b.w<n→Ret prog 160 [RV a,RV b] (RV (Z.gcd a.dec b.dec).enc)) (a b:R) (ha:a.Ok) (hb:b.Ok) (hn:val b.w=n) :
    Ret prog 160 [RV a,RV b] (RV (Z.gcd a.dec b.dec).enc):=by
 refine bU (N:=80) func160 O O zz_ (fun w0=>?_);refine giI ?_;refine go_ ?_;refine aZ O (i7 O O (fun b2 hb2=>aZ O (i7 O O (fun b3 hb3=>aZ O (eB kF (fun b4 hb4=>go3 ?_))))));refine sQ (cC tyT O mm_ (cU ha)) O ?_;refine sQ (cC tyT O mm_ (cU hb)) O ?_;refine aZ O (iS nC kF nB O dd_ O (JY ha hb) (fun b13 hb13=>sQ (eH aM O (fun w hw=>gZ [a,b] (ok2 ha hb) b13 27 w (hw.mem _ m0) zz_)) O ?_));refine go2 ?_;refine aQ _ O (fun hg=>?_) (fun hg=>?_)
 ·replace hg:=cB_ hg
  refine go_ ?_;refine sQ (bR aM iB O) O (aZ O (bN tyT O O uu_ (aJ _) O (bJ _) (.inl e6) ?_));refine go2 ?_;refine rtX O ⟨_,_,_,_,_,_,rfl,mm_,tyT,_,(dO (aJ _)),(aJ _),rfl⟩ ?_;exact congrArg RV (aZ_ hg)
 replace hg:=cB_ hg
 have hg:=all2.1 hg;refine go_ ?_;refine sI (rg [5,6] 17 43) (fun g M=>(True)∧M=[⟨b4,27,zR⟩,⟨b3,27,b.cells⟩,⟨b2,27,a.cells⟩]∧(True)) (fun K5 J5=>?_) ?_
 ·refine go_ ?_;refine sQ (bV fdT dd_ O) O (sQ (gP (vs:=uw a.w) tyT O mm_ (jZ ha.len) ((fW _).trans ha.len)) O ?_);refine sQ (bR aM (l4 a.w ha.len) O) O (go2 ?_)
  cases hsz:decide ((szL a.w:Int)≤2)
  ·refine go8 ?_;refine J5 _ _ pp_ ⟨_,(List.Sublist.cons _ (List.Sublist.refl _)),trivial,?mem,trivial⟩
   case mem=>rfl
  refine sQ (bV fdT dd_ O) O (sQ (gP (vs:=uw b.w) tyT O mm_ (jZ hb.len) ((fW _).trans hb.len)) O ?_);refine sQ (bR aM (l4 b.w hb.len) O) O (go3 ?_);refine aQ _ O (fun hsz2=>?_) (fun hsz2=>?_)
  ·replace hsz2:=cB_ hsz2
   have hA64:=sz2 ha (by have:=of_decide_eq_true hsz;omega);have hB64:=sz2 hb oo_;refine go_ ?_;refine gdr (sk (sk (sk (sk s0)))) [0,4,8,12,16,20,24,28,32,36,40,44,48,52,56,60,64,68,72,76,80,84] [] mix (by kernel_rfl) (pQ O (bV fdT dd_ O) (pQ O (eJ arT O O dd_ dd_) (pQ O (dD tyT O mm_ (l6 (r:=a) (k:=1) (by rw [ha.len];omega))) ?_)));refine pQ O (aW (dA fX eV O) (uJ (dN ha.lim _))) (pQ O (aW (BK O O dd_) (congrArg (Value.int .u64) (uY (dN ha.lim _)))) (pQ O (bV fdT dd_ O) (pQ O (eJ arT O O dd_ dd_) (pQ O (dD tyT O mm_ (l6 (r:=a) (k:=0) (by rw [ha.len];omega))) ?_))));refine pQ O (aW (dA fX eV O) (uJ (dN ha.lim _))) (pQ O (aW (K0 O O) (congrArg (Value.int .u64) ((N2 (dN ha.lim _) (dN ha.lim _)).trans (congrArg (fun m:Nat=>(m:Int)) (AG ha hA64))))) (pQ O (bV fdT dd_ O) (pQ O (eJ arT O O dd_ dd_) (pQ O (dD tyT O mm_ (l6 (r:=b) (k:=1) (by rw [hb.len];omega))) ?_))));refine pQ O (aW (dA fX eV O) (uJ (dN hb.lim _))) (pQ O (aW (BK O O dd_) (congrArg (Value.int .u64) (uY (dN hb.lim _)))) (pQ O (bV fdT dd_ O) (pQ O (eJ arT O O dd_ dd_) (pQ O (dD tyT O mm_ (l6 (r:=b) (k:=0) (by rw [hb.len];omega))) ?_))));refine pQ O (aW (dA fX eV O) (uJ (dN hb.lim _))) (pQ O (aW (K0 O O) (congrArg (Value.int .u64) ((N2 (dN hb.lim _) (dN hb.lim _)).trans (congrArg (fun m:Nat=>(m:Int)) (AG hb hB64))))) (go5 ?_));refine bP (rg [5,6] 47 6) (fun g nn M=>∃ (x y:Nat),(g 5 = .int .u64 (x:Int)∧g 6 = .int .u64 (y:Int))∧M=[⟨b4,27,zR⟩,⟨b3,27,b.cells⟩,⟨b2,27,a.cells⟩]∧nn=y∧(x<18446744073709551616∧y<18446744073709551616∧Nat.gcd x y=Nat.gcd (val a.w) (val b.w))) (val b.w) ?start ?round
   case start =>
    refine ⟨_,(List.Sublist.cons _ (List.Sublist.refl _)),_,_,⟨?a5,?a6⟩,?mem0,rfl,⟨hA64,hB64,rfl⟩⟩
    case mem0=>rfl
    case a5=>rfl
    case a6=>rfl
   case round =>
    rintro nn g M ⟨x,y,⟨hg5,hg6⟩,rfl,hmeas,⟨hx64,hy64,hgc⟩⟩;subst nn;refine gS2 hg5 hg6 ?_;clear hg5 hg6;refine go5 ?_;refine aQ _ O (fun hy0=>?_) (fun hy0=>?_)
    ·replace hy0:=cB_ hy0
     refine go2 ?_;refine qH (sk (sk (sk s0))) 6 [] [] (go3 ?_);refine pQ O (aW (pT O O oo_) (congrArg (Value.int .u64) (y7 _ _))) (go3 ?_);refine ⟨pp_,_,_,(List.Sublist.refl _),(Nat.mod_lt _ oo_),y,x % y,⟨?s5,?s6⟩,?mem,rfl,⟨hy64,Nat.lt_of_le_of_lt (Nat.mod_le _ _) hx64,by rw [Nat.gcd_comm,← Nat.gcd_rec,Nat.gcd_comm];exact hgc⟩⟩
     case mem=>rfl
     case s5=>rfl
     case s6=>rfl
    replace hy0:=cB_ hy0
    refine go3 ?_;refine sQ (dA eV fX O) O (go_ ?_);refine sQ (aW (r7 O O dd_) (congrArg (Value.int .u64) (oW _ 32))) O (sQ (dA eV fX O) O (sQ (m6 oA arT O (dk_ hx64)) O (sQ (bR aM (eZ false _ zz_ (X3 (Nat.mod_lt _ dd_) oo_ 14)) O) O ?_)));refine aZ O (bN tyT O O uu_ (j4 zz_) O (bJ _) (.inl e6) ?_);refine go2 ?_;refine rtX O ⟨_,_,_,_,_,_,rfl,mm_,tyT,_,(dO (j4 zz_)),(j4 zz_),rfl⟩ ?_;exact a0_ ha hb hg.1 hg.2 hx64 (a1_ hx64 hgc oo_)
  replace hsz2:=cB_ hsz2
  refine go_ ?_;refine J5 _ _ pp_ ⟨_,(List.Sublist.cons _ (List.Sublist.refl _)),trivial,?mem,trivial⟩
  case mem=>rfl
 rintro g M ⟨-,rfl,-⟩;refine gS0 ?_;refine go2 ?_;refine gDk (sk (sk (sk s0))) (.quiet 0 [1,6,7] (.quiet 1 [6,7] (.still 2 [3,7] (.still 3 [7] (.both 4 (.only 5 (.only 6 (.only 7 (.fin)))) 5 (.only 4 (.only 6 (.only 7 (.fin))))))))) [0,1,2,3,4,5] mix (by kernel_rfl) (by kernel_rfl) (pQ O (bV fdT dd_ O) (pQ O (gP (vs:=uw a.w) tyT O mm_ (jZ ha.len) ((fW _).trans ha.len)) ?_));refine EQ O O (bV fdT dd_ O) (EQ O O (gP (vs:=uw b.w) tyT O mm_ (jZ hb.len) ((fW _).trans hb.len)) ?_);refine HB ?_ ?_
 ·refine fP O O (eB oA (fun b7 hb7=>⟨(fun _=>by first|exact sd s0|exact s0),ss_,?_⟩));refine fP O O (eB oA (fun b8 hb8=>⟨(fun _=>by first|exact sd s0|exact s0),ss_,?_⟩));refine fP O O (bN tyT O O uu_ (by simp [uw,ha.len]) (by simp [uw]) (gU _) (.inl e6) ⟨nf,ss_,?_⟩);refine fP O O (bN tyT O O uu_ (by simp [uw,hb.len]) (by simp [uw]) (gU _) (.inl e6) ⟨nf,ss_,?_⟩);refine go2 ?_;refine sQ (cC tyT O mm_ (by simp [uw,hb.len])) O ?_;refine sQ (m6 oA arT O (.nil _)) O ?_;refine sQ (CP (r:=(val b.w==0)) O O (nJ 8 dd_ E6 FN (lY hb.len) (lY zz_) (zE hb.len hb.lim))) O ?_;refine go_ ?_;refine aQ _ O (fun hb0=>?_) (fun hb0=>?_)
  ·replace hb0:=cB_ hb0
   have hp:0<val b.w:=Nat.pos_of_ne_zero (by simpa using hb0);refine go_ ?_;refine sQ (cC tyT O mm_ (by simp [uw,ha.len])) O ?_;refine sQ (cC tyT O mm_ (by simp [uw,hb.len])) O ?_;refine sQ (bR aM (pL a.w b.w ha.len hb.len ha.lim hb.lim hp) O) O (go3 ?_);refine aZ O (eB oA (fun b9 hb9=>aZ O (eB oA (fun b10 hb10=>aZ O (bN tyT O O uu_ (by simp [uw,cW]) (by simp [uw]) (gU _) (.inl e6) ?_)))));refine aZ O (bN tyT O O uu_ (by simp [uw,cW]) (by simp [uw]) (gU _) (.inl e6) ?_);refine go2 ?_;refine gdr (sk (sk (sk (sk (sd (sk (sk s0))))))) [0,4,8,12,16,21] [5] mix (by kernel_rfl) (pQ O (cC tyT O mm_ (by simp [uw,hb.len])) ?_);refine pQ O (aW (bR aM (eZ false b.w hb.len hb.lim) O) (DC hb.len hb.lim false)) (pQ O (cC tyT O mm_ (by simp [uw,cW])) ?_);refine pQ O (aW (bR aM (eZ false _ (cW _ _) (lE _ _)) O) (congrArg RV (nI false (qM ha)))) (pQ O (bR aM (IH (Z.of (sgn false (val b.w))).enc (Z.of (sgn false (val a.w % val b.w))).enc (Z.enc_ok _) (Z.enc_ok _) (by rw [RJ (qM ha),← hn];exact Nat.mod_lt _ hp)) O) ?_);refine fP O O (bN tyT O O uu_ (aJ _) O (bJ _) (.inl e6) ⟨nf,ss_,?_⟩);refine go2 ?_;refine rtX O ⟨_,_,_,_,_,_,rfl,mm_,tyT,_,(dO (aJ _)),(aJ _),rfl⟩ ?_;exact NI ha hb hg.1 hg.2
  replace hb0:=cB_ hb0
  refine go2 ?_;refine sQ (cC tyT O mm_ (cU ha)) O ?_;refine sQ (bR aM (vA a ha) O) O (aZ O (bN tyT O O uu_ (aJ _) O (bJ _) (.inl e6) ?_));refine go2 ?_;refine rtX O ⟨_,_,_,_,_,_,rfl,mm_,tyT,_,(dO (aJ _)),(aJ _),rfl⟩ ?_;exact NJ ha hb hg.1 hg.2 (by simpa using hb0)
 refine fP O O (eB oA (fun b8 hb8=>⟨(fun _=>by first|exact sd s0|exact s0),ss_,?_⟩));refine fP O O (eB oA (fun b7 hb7=>⟨(fun _=>by first|exact sd s0|exact s0),ss_,?_⟩));refine fP O O (bN tyT O O uu_ (by simp [uw,ha.len]) (by simp [uw]) (gU _) (.inl e6) ⟨nf,ss_,?_⟩);refine fP O O (bN tyT O O uu_ (by simp [uw,hb.len]) (by simp [uw]) (gU _) (.inl e6) ⟨nf,ss_,?_⟩);refine go2 ?_;refine sQ (cC tyT O mm_ (by simp [uw,hb.len])) O ?_;refine sQ (m6 oA arT O (.nil _)) O ?_;refine sQ (CP (r:=(val b.w==0)) O O (nJ 8 dd_ E6 FN (lY hb.len) (lY zz_) (zE hb.len hb.lim))) O ?_;refine go_ ?_;refine aQ _ O (fun hb0=>?_) (fun hb0=>?_)
 ·replace hb0:=cB_ hb0
  have hp:0<val b.w:=Nat.pos_of_ne_zero (by simpa using hb0);refine go_ ?_;refine sQ (cC tyT O mm_ (by simp [uw,ha.len])) O ?_;refine sQ (cC tyT O mm_ (by simp [uw,hb.len])) O ?_;refine sQ (bR aM (pL a.w b.w ha.len hb.len ha.lim hb.lim hp) O) O (go3 ?_);refine aZ O (eB oA (fun b9 hb9=>aZ O (eB oA (fun b10 hb10=>aZ O (bN tyT O O uu_ (by simp [uw,cW]) (by simp [uw]) (gU _) (.inl e6) ?_)))));refine aZ O (bN tyT O O uu_ (by simp [uw,cW]) (by simp [uw]) (gU _) (.inl e6) ?_);refine go2 ?_;refine gdr (sk (sk (sk (sk (sd (sk (sk s0))))))) [0,4,8,12,16,21] [5] mix (by kernel_rfl) (pQ O (cC tyT O mm_ (by simp [uw,hb.len])) ?_);refine pQ O (aW (bR aM (eZ false b.w hb.len hb.lim) O) (DC hb.len hb.lim false)) (pQ O (cC tyT O mm_ (by simp [uw,cW])) ?_);refine pQ O (aW (bR aM (eZ false _ (cW _ _) (lE _ _)) O) (congrArg RV (nI false (qM ha)))) (pQ O (bR aM (IH (Z.of (sgn false (val b.w))).enc (Z.of (sgn false (val a.w % val b.w))).enc (Z.enc_ok _) (Z.enc_ok _) (by rw [RJ (qM ha),← hn];exact Nat.mod_lt _ hp)) O) ?_);refine fP O O (bN tyT O O uu_ (aJ _) O (bJ _) (.inl e6) ⟨nf,ss_,?_⟩);refine go2 ?_;refine rtX O ⟨_,_,_,_,_,_,rfl,mm_,tyT,_,(dO (aJ _)),(aJ _),rfl⟩ ?_;exact NI ha hb hg.1 hg.2
 replace hb0:=cB_ hb0
 refine go2 ?_;refine sQ (cC tyT O mm_ (cU ha)) O ?_;refine sQ (bR aM (vA a ha) O) O (aZ O (bN tyT O O uu_ (aJ _) O (bJ _) (.inl e6) ?_));refine go2 ?_;refine rtX O ⟨_,_,_,_,_,_,rfl,mm_,tyT,_,(dO (aJ _)),(aJ _),rfl⟩ ?_;exact NJ ha hb hg.1 hg.2 (by simpa using hb0)
theorem rY (a b:R) (ha:a.Ok) (hb:b.Ok):Ret prog 160 [RV a,RV b] (RV (Z.gcd a.dec b.dec).enc):=by
 generalize hn:val b.w=n
 induction n using Nat.strongRecOn generalizing a b with
 | ind n ih=>exact G3 n (fun a b ha hb h=>ih _ h a b ha hb O) a b ha hb hn
end Go.Proofs.YtokjfhfiodopdaaGreat
