/- Lemmas: what they ask stands in their statements. -/
import Derived.Test.YtkjjponijamaoaaGreatDoorJWa
set_option linter.unusedSimpArgs false
set_option linter.unusedVariables false
set_option maxHeartbeats 8000000
set_option maxRecDepth 20000
namespace Go.Proofs.YtkjjponijamaoaaGreatDoor
open Go.Kn Go.Num Tryz
attribute [local irreducible] Go.Kn.W WL PL OpQ OpR OpS
theorem KY (x:Nat) (hx:x<4294967296) :
    Ret prog 232 [U32 x] (.int .i64 ((bl x:Nat):Int)):=by
 refine bG (N:=19) func232 O O zz_ (fun w0=>?_);refine giI ?_;refine go8 ?_;refine aH _ O (fun h1=>?_) (fun h1=>?_)
 ·replace h1:=cB_ h1
  refine go2 ?_;refine sQ (aY (wS O O dd_) (NK x 16)) O (j0 ?_);refine aH _ O (fun h2=>?_) (fun h2=>?_)
  ·replace h2:=cB_ h2
   refine go2 ?_;refine sQ (aY (wS O O dd_) (NK _ 8)) O (j0 ?_);refine sQ (aY (eX jA OW O) (TJ oo_)) O (sQ (M8 (n:=256) bl al_ O O oo_ (by decide +kernel)) O (sQ (aY (eX OW FG O) (G9 oo_)) O (go4 ?_)));refine rt1 ?_;exact HE (c:=24) O dd_ oo_ (by rw [B2 (k:=16) oo_,B2 (n:=x / 2 ^ 16) (k:=8) oo_];omega)
  replace h2:=cB_ h2
  refine go4 ?_;refine sQ (aY (eX jA OW O) (TJ oo_)) O (sQ (M8 (n:=256) bl al_ O O oo_ (by decide +kernel)) O (sQ (aY (eX OW FG O) (G9 oo_)) O (go4 ?_)));refine rt1 ?_;exact HE (c:=16) O dd_ oo_ (by rw [B2 (k:=16) oo_])
 replace h1:=cB_ h1
 refine go6 ?_;refine aH _ O (fun h2=>?_) (fun h2=>?_)
 ·replace h2:=cB_ h2
  refine go2 ?_;refine sQ (aY (wS O O dd_) (NK _ 8)) O (j0 ?_);refine sQ (aY (eX jA OW O) (TJ oo_)) O (sQ (M8 (n:=256) bl al_ O O oo_ (by decide +kernel)) O (sQ (aY (eX OW FG O) (G9 oo_)) O (go4 ?_)));refine rt1 ?_;exact HE (c:=8) O dd_ oo_ (by rw [B2 (k:=8) oo_])
 replace h2:=cB_ h2
 refine go4 ?_;refine sQ (aY (eX jA OW O) (TJ oo_)) O (sQ (M8 (n:=256) bl al_ O O oo_ (by decide +kernel)) O (sQ (aY (eX OW FG O) (G9 oo_)) O (go4 ?_)));refine rt1 ?_;exact HE (c:=0) O dd_ oo_ oo_
theorem WY (x:Nat) (hx:x<4294967296) :
  Ret prog 252 [U32 x] (.int .i64 ((32 - bl x:Nat):Int)):=by
 refine bG (N:=6) func252 O O zz_ (fun w0=>?_);refine giI ?_;refine go5 ?_;refine sQ (bE aB (KY x hx) O) O (go4 ?_);refine rt1 ?_;exact congrArg (Value.int .i64) (bQ_ hx)
theorem w8 (xs:List Nat) (hx:xs.length=16) (lx:Lim xs) (n:Nat) (hn:n<32) :
    Ret prog 230 [UV xs,.int .i64 (n:Int)] (.tuple #[UV (toL 16 (val xs*2 ^ n)),U32 (val xs*2 ^ n / 4294967296 ^ 16)]):=by
 refine bG (N:=30) func230 O O zz_ (fun w0=>?_);refine giI ?_;refine go_ ?_;refine aZ O (kV O O (fun b2 hb2=>aZ O (eM rB (fun b4 hb4=>go3 ?_))));refine aZ O (eM rB (fun b6 hb6=>go9 ?_));refine bX (rg [] 7 20) (fun g nn M=>∃ (k:Nat),(g 7 = .int .u64 ((mc (val xs) (2 ^ n) k:Nat):Int)∧g 9 = .int .i64 (k:Int))∧M=[⟨b6,29,uw (zF k (val xs*2 ^ n) 16)⟩,⟨b4,29,uw (List.replicate 16 0)⟩,⟨b2,29,uw xs⟩]∧nn=16 - k∧(k≤16)) (16) ?start ?round
 case start =>
  refine ⟨_,(List.Sublist.refl _),0,⟨?a7,?a9⟩,?mem0,rfl,Nat.zero_le _⟩
  case mem0=>rw [AK]
  case a7=>rw [ZT];rfl
  case a9=>rfl
 case round =>
  rintro nn g M ⟨k,⟨hg7,hg9⟩,rfl,hmeas,hk⟩;subst nn;refine gS2 hg7 hg9 ?_;clear hg7 hg9;refine go4 ?_;refine aH _ O (fun hc=>?_) (fun hc=>?_)
  ·replace hc:=cB_ hc
   have hc:k<16:=by omega
   refine j0 ?_;refine sQ (fL arT O O oo_ oo_) O (sQ (dR tyT O mm_ (vJ oo_)) O ?_);refine sQ (eX jA gI O) O (go_ ?_);refine sQ (aY (EL O O oo_) (congrArg (Value.int .u64) (af_ (eH lx k) oo_))) O (sQ (aY (M9 O O) (congrArg (Value.int .u64) (eb_ (aM_ (m:=2 ^ n) _ k (Nat.pow_pos dd_)) (eH lx k) hn))) O (go5 ?_));refine sQ (aY (eX gI jA O) (qQ _)) O (sQ (fL arT O O oo_ oo_) O (aZ O (o8 tyT O O uu_ (by rw [kP _ hk];exact hc) (.inl fR) ?_)));refine go3 ?_;refine sQ (aY (wS O O dd_) (congrArg (Value.int .u64) (tB _ 32))) O (go6 ?_);refine ⟨pp_,_,_,(List.Sublist.refl _),oo_,k+1,⟨?s7,?s9⟩,?mem,rfl,oo_⟩
   case mem=>rw [fO xs k lx,W4,zG _ hc]
   case s7=>exact congrArg (fun m:Nat=>Value.int .u64 (m:Int)) (by rw [fO xs k lx];exact W3 _ _ _)
   case s9=>exact congrArg (Value.int .i64) (lD oo_)
  replace hc:=cB_ hc
  obtain rfl:k=16:=by omega
  refine go2 ?_;refine sQ (cA tyT O mm_ (by simp [uw,kP])) O ?_;refine go_ ?_;refine sQ (aY (eX gI jA O) (qQ _)) O (aZ O (bN tyT O O uu_ (by simp [uw,kP]) O (jK _) (.inl fR) ?_));refine go3 ?_;refine qE O (.inr O) ⟨_,_,_,_,_,_,rfl,mm_,tyT,_,(dI (by simp [uw,kP])),(by simp [uw,kP]),rfl⟩ O ?_
  (rw [CR,df_ hx lx,Nat.mod_eq_of_lt (TK hx lx hn)];rfl)
theorem CM (xs:List Nat) (hx:xs.length=16) (lx:Lim xs) (n:Nat) (hn:n<32) :
    Ret prog 231 [UV xs,.int .i64 (n:Int)] (UV (toL 16 (val xs / 2 ^ n))):=by
 refine bG (N:=33) func231 O O zz_ (fun w0=>?_);refine giI ?_;refine go_ ?_;refine aZ O (kV O O (fun b2 hb2=>aZ O (eM rB (fun b4 hb4=>go2 ?_))));refine aZ O (eM rB (fun b5 hb5=>go6 ?_));refine bX (rg [] 6 26) (fun g nn M=>∃ (k:Nat),(g 8 = .int .i64 (k:Int))∧M=[⟨b5,29,uw (zF k (val xs / 2 ^ n) 16)⟩,⟨b4,29,uw (List.replicate 16 0)⟩,⟨b2,29,uw xs⟩]∧nn=16 - k∧(k≤16)) (16) ?start ?round
 case start =>
  refine ⟨_,(List.Sublist.refl _),0,?a8,?mem0,rfl,Nat.zero_le _⟩
  case mem0=>rw [AK]
  case a8=>rfl
 case round =>
  rintro nn g M ⟨k,hg8,rfl,hmeas,hk⟩;subst nn;refine gS1 hg8 ?_;clear hg8;refine go4 ?_;refine aH _ O (fun hc=>?_) (fun hc=>?_)
  ·replace hc:=cB_ hc
   have hc:k<16:=by omega
   refine ZK ?_;refine sQ (aY (j9 O O) (congrArg (Value.int .i64) (lD oo_))) O (go2 ?_);refine aH _ O (fun h13=>?_) (fun h13=>?_)
   ·replace h13:=cB_ h13
    refine go2 ?_;refine sQ (aY (j9 O O) (congrArg (Value.int .i64) (lD oo_))) O (sQ (fL arT O O oo_ oo_) O (sQ (dR tyT O mm_ (vJ oo_)) O ?_));refine sQ (aY (eX jA gI O) (congrArg (Value.int .u64) (mH (eH lx _)))) O (go4 ?_);refine sQ (aY (lI O) (show _=Value.int .u64 ((dig (val xs) (k+1):Nat):Int) from by first|exact congrArg (fun m:Nat=>Value.int .u64 (m:Int)) (fO xs (k+1) lx)|exact congrArg (fun m:Nat=>Value.int .u64 (m:Int)) (OG hx lx oo_).symm)) O ?_;refine sQ (aY (EL O O dd_) (congrArg (Value.int .u64) (yR (sH _ _)))) O (go_ ?_);refine sQ (fL arT O O oo_ oo_) O (sQ (dR tyT O mm_ (vJ oo_)) O ?_);refine sQ (aY (eX jA gI O) (congrArg (Value.int .u64) ((mH (eH lx _)).trans (by rw [fO xs k lx])))) O (sQ (aY (M9 O O) (congrArg (Value.int .u64) (HA (sH _ _) (sH _ _)))) O (go_ ?_));refine sQ (aY (wS O O oo_) (congrArg (Value.int .u64) (aV_ hn))) O (sQ (aY (eX gI jA O) (qQ _)) O (sQ (fL arT O O oo_ oo_) O (aZ O (o8 tyT O O uu_ (by rw [kP _ hk];exact hc) (.inl fR) ?_))));refine go5 ?_;refine ⟨pp_,_,_,(List.Sublist.refl _),oo_,k+1,?s8,?mem,rfl,oo_⟩
    case mem=>rw [HX k oo_,zG _ hc]
    case s8=>exact congrArg (Value.int .i64) (lD oo_)
   replace h13:=cB_ h13
   refine go3 ?_;refine sQ (aY (lI O) (show _=Value.int .u64 ((dig (val xs) (k+1):Nat):Int) from by first|exact congrArg (fun m:Nat=>Value.int .u64 (m:Int)) (fO xs (k+1) lx)|exact congrArg (fun m:Nat=>Value.int .u64 (m:Int)) (OG hx lx oo_).symm)) O ?_;refine sQ (aY (EL O O dd_) (congrArg (Value.int .u64) (yR (sH _ _)))) O (go_ ?_);refine sQ (fL arT O O oo_ oo_) O (sQ (dR tyT O mm_ (vJ oo_)) O ?_);refine sQ (aY (eX jA gI O) (congrArg (Value.int .u64) ((mH (eH lx _)).trans (by rw [fO xs k lx])))) O (sQ (aY (M9 O O) (congrArg (Value.int .u64) (HA (sH _ _) (sH _ _)))) O (go_ ?_));refine sQ (aY (wS O O oo_) (congrArg (Value.int .u64) (aV_ hn))) O (sQ (aY (eX gI jA O) (qQ _)) O (sQ (fL arT O O oo_ oo_) O (aZ O (o8 tyT O O uu_ (by rw [kP _ hk];exact hc) (.inl fR) ?_))));refine go5 ?_;refine ⟨pp_,_,_,(List.Sublist.refl _),oo_,k+1,?s8,?mem,rfl,oo_⟩
   case mem=>rw [HX k oo_,zG _ hc]
   case s8=>exact congrArg (Value.int .i64) (lD oo_)
  replace hc:=cB_ hc
  obtain rfl:k=16:=by omega
  refine go2 ?_;refine sQ (cA tyT O mm_ (by simp [uw,kP])) O ?_;refine aZ O (bN tyT O O uu_ (by simp [uw,kP]) O (jK _) (.inl fR) ?_);refine go2 ?_;refine rtX O ⟨_,_,_,_,_,_,rfl,mm_,tyT,_,(dI (by simp [uw,kP])),(by simp [uw,kP]),rfl⟩ ?_
  (rw [CR];rfl)
theorem G3 (xs:List Nat) (hx:xs.length=16) (lx:Lim xs) (d:Nat) (hd:d<4294967296) (h0:0<d) :
    Ret prog 251 [UV xs,U32 d] (.tuple #[UV (toL 16 (val xs / d)),U32 (val xs % d)]):=by
 refine bG (N:=33) func251 O O zz_ (fun w0=>?_);refine giI ?_;refine go_ ?_;refine aZ O (kV O O (fun b2 hb2=>aZ O (eM rB (fun b4 hb4=>j0 ?_))));refine bX (rg [] 6 24) (fun g nn M=>∃ (k:Nat),(g 6 = .int .u64 ((val xs / 4294967296 ^ k % d:Nat):Int)∧g 7 = .int .i64 ((k:Int) - 1))∧M=[⟨b4,29,uw (yN k (val xs / d))⟩,⟨b2,29,uw xs⟩]∧nn=k+0∧(k≤16)) (16) ?start ?round
 case start =>
  refine ⟨_,(List.Sublist.refl _),16,⟨?a6,?a7⟩,?mem0,rfl,Nat.le_refl _⟩
  case mem0=>rw [T4]
  case a6=>rw [cY_ hx lx];rfl
  case a7=>rfl
 case round =>
  rintro nn g M ⟨k,⟨hg6,hg7⟩,rfl,hmeas,hk⟩;subst nn;refine gS2 hg6 hg7 ?_;clear hg6 hg7;refine go5 ?_;refine aH _ O (fun hc=>?_) (fun hc=>?_)
  ·replace hc:=cB_ hc
   obtain ⟨m,rfl⟩:∃ m,k=m+1:=⟨k - 1,by omega⟩;have hr:val xs / 4294967296 ^ (m+1) % d<4294967296:=Nat.lt_trans (Nat.mod_lt _ h0) hd;refine go4 ?_;refine sQ (aY (lI O) O) O (sQ (aY (EL O O dd_) (congrArg (Value.int .u64) (yR hr))) O (sQ (aY (lI O) (congrArg (Value.int .i64) (show (((m+1:Nat):Int) - 1)=(m:Int) by omega))) O (sQ (fL arT O O oo_ oo_) O (sQ (dR tyT O mm_ (vJ oo_)) O ?_))));refine sQ (aY (eX jA gI O) (congrArg (Value.int .u64) ((mH (eH lx _)).trans (by rw [fO xs m lx])))) O (sQ (aY (M9 O O) (congrArg (Value.int .u64) (HA hr (sH _ _)))) O (go3 ?_));refine sQ (aY (lI O) (congrArg (Value.int .i64) (show (((m+1:Nat):Int) - 1)=(m:Int) by omega))) O (go2 ?_);refine sQ (aY (eX jA gI O) (congrArg (Value.int .u64) (mH hd))) O (sQ (aY (lC O O oo_) (congrArg (Value.int .u64) (ST _ _))) O (sQ (aY (eX gI jA O) (qQ _)) O (sQ (fL arT O O oo_ oo_) O (aZ O (o8 tyT O O uu_ (by rw [o4 _ oo_];omega) (.inl fR) ?_)))));refine go4 ?_;refine sQ (aY (eX jA gI O) (congrArg (Value.int .u64) (mH hd))) O (sQ (aY (qU O O oo_) (congrArg (Value.int .u64) (CY _ _))) O (go3 ?_));refine sQ (aY (lI O) (congrArg (Value.int .i64) (show (((m+1:Nat):Int) - 1)=(m:Int) by omega))) O (go3 ?_);refine ⟨pp_,_,_,(List.Sublist.refl _),oo_,m,⟨?s6,?s7⟩,?mem,rfl,oo_⟩
   case mem=>rw [RO m h0,FF oo_]
   case s6=>exact congrArg (fun m:Nat=>Value.int .u64 (m:Int)) (GF m h0).2
   case s7=>exact congrArg (Value.int .i64) (bV (n:=(m:Int) - 1) (by unfold I64;omega))
  replace hc:=cB_ hc
  obtain rfl:k=0:=by omega
  refine go2 ?_;refine sQ (cA tyT O mm_ (by simp [uw,o4])) O ?_;refine go_ ?_;refine sQ (aY (eX gI jA O) (qQ _)) O (aZ O (bN tyT O O uu_ (by simp [uw,o4]) (by simp [uw,o4]) (jK _) (.inl fR) ?_));refine go3 ?_;refine qE O (.inr O) ⟨_,_,_,_,_,_,rfl,mm_,tyT,_,(dI (by simp [uw,o4])),(by simp [uw,o4]),rfl⟩ O ?_
  (rw [KU,Nat.pow_zero,Nat.div_one,Nat.mod_eq_of_lt (Nat.lt_trans (Nat.mod_lt _ h0) hd)];rfl)
theorem tO (xs ys:List Nat) (hx:xs.length=16) (hy:ys.length=16) (lx:Lim xs) (ly:Lim ys) (h0:0<val ys) :
    Ret prog 206 [UV xs,UV ys] (.tuple #[UV (toL 16 (val xs / val ys)),UV (toL 16 (val xs % val ys))]):=by
 refine bG (N:=94) func206 O O zz_ (fun w0=>?_);refine giI ?_;refine go_ ?_;refine aZ O (kV O O (fun b2 hb2=>aZ O (kV O O (fun b3 hb3=>aZ O (eM rB (fun b4 hb4=>aZ O (eM rB (fun b5 hb5=>go2 ?_))))))));refine kU (sk (sk (sk (sk s0)))) 6 [] [] (pQ O (cA tyT O mm_ (by simp [uw,hy])) ?_);refine pQ O (bE aB (pG ys hy) O) (pQ O (cA tyT O mm_ (by simp [uw,hx])) ?_);refine pQ O (bE aB (pG xs hx) O) (go5 ?_);refine sQ (cA tyT O mm_ (by simp [uw,hx])) O ?_;refine sQ (cA tyT O mm_ (by simp [uw,hy])) O ?_;refine sQ (bE aB (pP xs ys hx hy lx ly) O) O (go2 ?_);refine aH _ O (fun ho=>?_) (fun ho=>?_)
 ·replace ho:=cB_ ho
  have hlt:=VV ho;refine go_ ?_;refine gdr (sd (sd (sk (sk s0)))) [0,6,9,13] [2,3] mix (by kernel_rfl) (pQ O (qT rB arT O (.nil _)) (E5 O O (cA tyT O mm_ (by simp [uw,hx])) ?_));refine bP O O (bN tyT O O uu_ (by simp [uw,List.length_replicate]) (by simp [uw]) (jK _) (.inl fR) ⟨nf,ss_,?_⟩);refine bP O O (bN tyT O O uu_ (by simp [uw,hx]) (by simp [uw]) (jK _) (.inl fR) ⟨nf,ss_,?_⟩);refine go2 ?_;refine qE O (.inr O) ⟨_,_,_,_,_,_,rfl,mm_,tyT,_,(dI (by simp [uw])),(by simp [uw]),rfl⟩ ⟨_,_,_,_,_,_,rfl,mm_,tyT,_,(dI (by simp [uw,hx])),(by simp [uw,hx]),rfl⟩ ?_;exact XT hx lx hlt
 replace ho:=cB_ ho
 have hle:=R6 (Int.not_lt.1 ho);have hsp:=cm_ h0;have hsz:=wP ys;rw [hy] at hsz;refine go6 ?_;refine aH _ O (fun h29=>?_) (fun h29=>?_)
 ·replace h29:=cB_ h29
  have hsz1:szL ys=1:=by omega
  refine go_ ?_;refine sQ (cA tyT O mm_ (by simp [uw,hx])) O ?_;refine sQ (fL arT O O dd_ dd_) O (sQ (dR tyT O mm_ (vJ (k:=0) oo_)) O ?_);refine sQ (bE aB (G3 xs hx lx _ (eH ly 0) (SO hsz1)) O) O (go3 ?_);refine aZ O (eM rB (fun b8 hb8=>aZ O (bN tyT O O uu_ (by simp [uw,cN]) (by simp [uw]) (jK _) (.inl fR) ?_)));refine go3 ?_;refine sQ (cA tyT O mm_ (by simp [uw,cN])) O ?_;refine go_ ?_;refine sQ (qT rB arT O (c5_ _)) O (aZ O (bN tyT O O uu_ (by simp [uw,cN]) (by simp [uw]) (jK _) (.inl fR) ?_));refine aZ O (bN tyT O O uu_ (by simp [uw,List.length_replicate]) (by simp [uw]) (jK _) (.inl fR) ?_);refine go2 ?_;refine qE O (.inr O) ⟨_,_,_,_,_,_,rfl,mm_,tyT,_,(dI (by simp [uw,cN])),(by simp [uw,cN]),rfl⟩ ⟨_,_,_,_,_,_,rfl,mm_,tyT,_,(dI (by simp [uw])),(by simp [uw]),rfl⟩ ?_;exact Z7 ly hsz1
 replace h29:=cB_ h29
 have h2:2≤szL ys:=by omega
 have D:DV xs ys (szL ys) (32 - bl (ys.getD (szL ys - 1) 0)):=⟨hx,hy,lx,ly,rfl,h2,rfl,hle⟩;refine go3 ?_;refine sQ (aY (qV O O) (congrArg (Value.int .i64) (vF (b:=1) O oo_ oo_))) O (sQ (fL arT O O oo_ oo_) O (sQ (dR tyT O mm_ (vJ oo_)) O ?_));refine sQ (bE aB (WY _ (eH ly _)) O) O (go3 ?_);refine sQ (cA tyT O mm_ (by simp [uw,hy])) O ?_;refine go_ ?_;refine sQ (bE aB (w8 ys hy ly _ D.s32) O) O (go3 ?_);refine aZ O (eM rB (fun b11 hb11=>aZ O (bN tyT O O uu_ (by simp [uw,cN]) (by simp [uw]) (jK _) (.inl fR) ?_)));refine go3 ?_;refine sQ (cA tyT O mm_ (by simp [uw,hx])) O ?_;refine go_ ?_;refine sQ (bE aB (w8 xs hx lx _ D.s32) O) O (go3 ?_);refine aZ O (eM rB (fun b13 hb13=>aZ O (bN tyT O O uu_ (by simp [uw,cN]) (by simp [uw]) (jK _) (.inl fR) ?_)));refine go3 ?_;refine aZ O (eM eg_ (fun b15 hb15=>go2 ?_));refine gdr (sd (sk (sk (sk (sk (sk (sk s0))))))) [0,4,9] [2] mix (by kernel_rfl) (pQ O (vV arT O O O dd_ dd_ dd_ dd_) (pQ O (vV arT O O O dd_ dd_ dd_ dd_) ?_));refine bP O O (ND NM O O mm_ uu_ (fun v hv=>jK _ v (List.mem_of_mem_drop (List.mem_of_mem_take hv))) (by simp [uw,cN]) (by simp [uw]) (ZA (cN _ _)) (.inl fR) ⟨nf,ss_,?_⟩);refine go3 ?_;refine sQ (fL arT O O dd_ dd_) O (aZ O (o8 (k:=16) tyT O O uu_ (by simp [cN]) (.inl fR) ?_));refine go5 ?_;refine sQ (aY (qV O O) (congrArg (Value.int .i64) (TA D.nm (by have:=D.m16;omega)))) O (go3 ?_);refine bX (rg [16,17] 65 23) (fun g nn M=>∃ (k:Nat) (l:List Nat),(g 16 = .int .i64 ((k:Int) - 1))∧M=[⟨b15,254,uw l⟩,⟨b13,29,uw (toL 16 (val xs*2 ^ (32 - bl (ys.getD (szL ys - 1) 0))))⟩,⟨b11,29,uw (toL 16 (val ys*2 ^ (32 - bl (ys.getD (szL ys - 1) 0))))⟩,⟨b5,29,uw (List.replicate 16 0)⟩,⟨b4,29,uw (yN k (val xs / val ys))⟩,⟨b3,29,uw ys⟩,⟨b2,29,uw xs⟩]∧nn=k+0∧(k+szL ys≤17∧QI xs ys (32 - bl (ys.getD (szL ys - 1) 0)) k l)) (szL xs - szL ys+1) ?start ?round
 case start =>
  refine ⟨_,(List.Sublist.refl _),szL xs - szL ys+1,((toL 16 (val xs*2 ^ (32 - bl (ys.getD (szL ys - 1) 0)))++[0]).set 16 (val xs*2 ^ (32 - bl (ys.getD (szL ys - 1) 0)) / 4294967296 ^ 16)),?a16,?mem0,rfl,⟨by have:=D.nm;have:=D.m16;omega,QI.start D⟩⟩
  case mem0=>rw [← DV.qstart D]
  case a16=>exact congrArg (Value.int .i64) oo_
 case round =>
  rintro nn g M ⟨k,l,hg16,rfl,hmeas,⟨hkn,hq⟩⟩;subst nn;refine gS1 hg16 ?_;clear hg16;refine go5 ?_;refine aH _ O (fun hc=>?_) (fun hc=>?_)
  ·replace hc:=cB_ hc
   obtain ⟨m,rfl⟩:∃ m,k=m+1:=⟨k - 1,by omega⟩;refine go4 ?_;refine sQ (cA tyT O mm_ (by simp [uw,cN])) O ?_;refine go_ ?_;refine sQ (aY (lI O) (congrArg (Value.int .i64) (show (((m+1:Nat):Int) - 1)=(m:Int) by omega))) O (aZ O (Z9 aB O (fun w hw=>G2 l _ (szL ys) m (hq.qh D oo_) b15 254 w (hw.mem _ m0)) (fun d hd=>go4 ?_)));refine sQ (cA tyT O mm_ (by simp [uw,cN])) O ?_;refine go_ ?_;refine sQ (aY (lI O) (congrArg (Value.int .i64) (show (((m+1:Nat):Int) - 1)=(m:Int) by omega))) O (go_ ?_);refine aZ O (SU aB O (fun w hw=>JK l _ (szL ys) m d hq.len hq.lim (cN _ _) (nK _ _) (by rw [D.v16];exact D.vlt) oo_ (hq.small D) hd.1 b15 254 w (hw.mem _ m0)) (fun x=>uu_) (.inl fR) (fun x ht=>?_));refine go_ ?_;refine aH _ O (fun h77=>?_) (fun h77=>?_)
   ·replace h77:=cB_ h77
    refine go2 ?_;refine sQ (aY (qV O O) (congrArg (Value.int .u64) (I5 O (ht.pos oo_) (by have:=hd.1;omega)))) O (go3 ?_);refine sQ (cA tyT O mm_ (by simp [uw,cN])) O ?_;refine go_ ?_;refine sQ (aY (lI O) (congrArg (Value.int .i64) (show (((m+1:Nat):Int) - 1)=(m:Int) by omega))) O (aZ O (SU aB O (fun w hw=>JH x.1 _ (szL ys) m ht.len ht.lim (cN _ _) (nK _ _) (by rw [D.v16];exact D.vlt) oo_ ht.small b15 254 w (hw.mem _ m0)) (fun y=>uu_) (.inl fR) (fun y hgv=>?_)));refine go_ ?_;obtain ⟨hz,hdz,_⟩:=hq.took1 D hd ht oo_ hgv;refine go_ ?_;refine sQ (aY (lI O) (congrArg (Value.int .i64) (show (((m+1:Nat):Int) - 1)=(m:Int) by omega))) O (go_ ?_);refine sQ (aY (eX gI jA O) (qQ _)) O (sQ (fL arT O O oo_ oo_) O (aZ O (o8 tyT O O uu_ (by rw [o4 _ oo_];omega) (.inl fR) ?_)));refine go2 ?_;refine sQ (aY (lI O) (congrArg (Value.int .i64) (show (((m+1:Nat):Int) - 1)=(m:Int) by omega))) O (go3 ?_);refine ⟨pp_,_,_,(List.Sublist.refl _),oo_,m,_,?s16,?mem,rfl,⟨by omega,hz⟩⟩
    case mem=>rw [hdz,FF oo_]
    case s16=>exact congrArg (Value.int .i64) (bV (n:=(m:Int) - 1) (by unfold I64;omega))
   replace h77:=cB_ h77
   obtain ⟨hz,hdz⟩:=hq.took0 D hd ht oo_;refine go2 ?_;refine sQ (aY (lI O) (congrArg (Value.int .i64) (show (((m+1:Nat):Int) - 1)=(m:Int) by omega))) O (go_ ?_);refine sQ (aY (eX gI jA O) (qQ _)) O (sQ (fL arT O O oo_ oo_) O (aZ O (o8 tyT O O uu_ (by rw [o4 _ oo_];omega) (.inl fR) ?_)));refine go2 ?_;refine sQ (aY (lI O) (congrArg (Value.int .i64) (show (((m+1:Nat):Int) - 1)=(m:Int) by omega))) O (go3 ?_);refine ⟨pp_,_,_,(List.Sublist.refl _),oo_,m,_,?s16,?mem,rfl,⟨by omega,hz⟩⟩
   case mem=>rw [hdz,FF oo_]
   case s16=>exact congrArg (Value.int .i64) (bV (n:=(m:Int) - 1) (by unfold I64;omega))
  replace hc:=cB_ hc
  obtain rfl:k=0:=by omega
  refine go2 ?_;refine gdr (sk (sk (sk (sd (sd (sk (sk s0))))))) [0,4,8,12,16,20,25,29] [6,7] mix (by kernel_rfl) (pQ O (cA tyT O mm_ (by rw [i6,o4 _ oo_])) ?_);refine pQ O (vV arT O O O dd_ dd_ dd_ dd_) (pQ O (XP arT O dd_) (pQ O (jU (vs:=uw (l.take 16)) tyT O mm_ ap_ (by simp [uw,hq.len])) ?_));refine go_ ?_;refine pQ O (bE aB (CM (l.take 16) (by simp [hq.len]) (hq.lim.take 16) _ D.s32) O) ?_;refine bP O O (bN tyT O O uu_ (by rw [i6,o4 _ oo_]) (by rw [i6,o4 _ oo_]) (jK _) (.inl fR) ⟨nf,ss_,?_⟩);refine bP O O (bN tyT O O uu_ (by simp [uw,cN]) (by simp [uw]) (jK _) (.inl fR) ⟨nf,ss_,?_⟩);refine go2 ?_;refine qE O (.inr O) ⟨_,_,_,_,_,_,rfl,mm_,tyT,_,(dI (by rw [i6,o4 _ oo_])),(by rw [i6,o4 _ oo_]),rfl⟩ ⟨_,_,_,_,_,_,rfl,mm_,tyT,_,(dI (by simp [uw,cN])),(by simp [uw,cN]),rfl⟩ ?_
  (rw [KU,hq.fin D];rfl)
theorem xZ (a:R) (ha:a.Ok) :
   Ret prog 155 [RV a] (.int .i64 (a.dec.bits:Int)):=by
 refine bG (N:=25) func155 O O zz_ (fun w0=>?_);refine giI ?_;refine go_ ?_;refine aZ O (kV O O (fun b1 hb1=>go3 ?_));refine sQ (cB fdT dd_ O) O (sQ (jU (vs:=uw a.w) tyT O mm_ (mU ha.len) ((i6 _).trans ha.len)) O ?_);refine sQ (bE aB (pG a.w ha.len) O) O (go4 ?_);refine sQ (cA tyT O mm_ (cC ha)) O ?_;refine aZ O (kA jO jP kB O dd_ O (xI ha) (fun b8 hb8=>sQ (dF aB O (fun w hw=>jE [a] (ok1 ha) b8 31 w (hw.mem _ m0) zz_)) O ?_));refine go2 ?_
 cases hg:[a].all R.good
 ·refine go9 ?_;refine rt1 ?_;exact congrArg (fun n:Nat=>Value.int .i64 (n:Int)) (VT (by simpa using hg))
 refine go4 ?_;refine aH _ O (fun hz=>?_) (fun hz=>?_)
 ·replace hz:=cB_ hz
  refine go4 ?_;refine rt1 ?_;exact congrArg (fun n:Nat=>Value.int .i64 (n:Int)) (TR ha (by simpa using hg) oo_)
 replace hz:=cB_ hz
 refine go2 ?_
 have hs1:1≤szL a.w:=by omega
 have hs16:szL a.w≤16:=by have:=wP a.w;rw [ha.len] at this;exact this
 refine go_ ?_;refine sQ (aY (qV O O) (congrArg (Value.int .i64) (vF (b:=1) O oo_ oo_))) O (sQ (aY (XN O O) (congrArg (Value.int .i64) (dh_ O oo_))) O (go_ ?_));refine sQ (aY (qV O O) (congrArg (Value.int .i64) (vF (b:=1) O oo_ oo_))) O (sQ (cB fdT dd_ O) O (sQ (fL arT O O oo_ oo_) O (sQ (dR tyT O mm_ (pH (r:=a) (k:=szL a.w - 1) (by rw [ha.len];omega))) O ?_)));refine sQ (bE aB (KY _ (eH ha.lim _)) O) O (sQ (aY (j9 O O) (congrArg (Value.int .i64) (pT (by have:=xG (k:=32) (eH ha.lim (szL a.w - 1));omega)))) O (go3 ?_));refine rt1 ?_;exact congrArg (fun n:Nat=>Value.int .i64 (n:Int)) (VU ha (by simpa using hg) hs1)
theorem rR (a:R) (ha:a.Ok) :
    Ret prog 156 [RV a] (.tuple #[.int .i64 a.dec.small.1,.bool a.dec.small.2]):=by
 refine bG (N:=44) func156 O O zz_ (fun w0=>?_);refine giI ?_;refine go_ ?_;refine aZ O (kV O O (fun b1 hb1=>go5 ?_));refine sQ (cA tyT O mm_ (cC ha)) O ?_;refine aZ O (kA jO jP kB O dd_ O (xI ha) (fun b6 hb6=>sQ (dF aB O (fun w hw=>jE [a] (ok1 ha) b6 31 w (hw.mem _ m0) zz_)) O ?_));refine go2 ?_
 cases hg:[a].all R.good
 ·refine BG ?_;refine rt2 ?_;exact UX (by simpa using hg)
 refine sQ (cA tyT O mm_ (cC ha)) O ?_;refine sQ (bE aB (xZ a ha) O) O (go3 ?_);refine aH _ O (fun hb=>?_) (fun hb=>?_)
 ·replace hb:=cB_ hb
  refine go5 ?_;refine rt2 ?_;exact RQ ha (by simpa using hg) hb
 replace hb:=cB_ hb
 have h64:=br_ ha (by simpa using hg) hb;refine go2 ?_;refine sQ (cB fdT dd_ O) O (sQ (fL arT O O dd_ dd_) O (sQ (dR tyT O mm_ (pH (r:=a) (k:=1) (by rw [ha.len];omega))) O ?_));refine sQ (aY (eX jA gI O) (xV (eH ha.lim _))) O (sQ (aY (EL O O dd_) (congrArg (Value.int .u64) (yR (eH ha.lim _)))) O (sQ (cB fdT dd_ O) O (sQ (fL arT O O dd_ dd_) O (sQ (dR tyT O mm_ (pH (r:=a) (k:=0) (by rw [ha.len];omega))) O ?_))));refine sQ (aY (eX jA gI O) (xV (eH ha.lim _))) O (sQ (aY (M9 O O) (congrArg (Value.int .u64) ((O7 (eH ha.lim _) (eH ha.lim _)).trans (congrArg (fun m:Nat=>(m:Int)) (DZ ha h64))))) O (go5 ?_));refine sQ (cB fdT dd_ O) O (sQ (dR tyT O mm_ O) O ?_);refine go_ ?_
 cases hn:a.neg
 ·refine go7 ?_;refine sQ (cB fdT dd_ O) O (sQ (dR tyT O mm_ O) O ?_);refine go_ ?_;rw [hn];refine go6 ?_;refine aH _ O (fun hlt=>?_) (fun hlt=>?_)
  ·replace hlt:=cB_ hlt
   refine go2 ?_;refine sQ (aY (eX gI FG O) (congrArg (Value.int .i64) (UZ oo_))) O (go4 ?_);refine rt2 ?_;exact PZ ha (by simpa using hg) (by rw [hn];rfl) (by rw [hn,tU];omega)
  replace hlt:=cB_ hlt
  refine go6 ?_;refine rt2 ?_;exact FU ha (by simpa using hg) (by rw [hn,tU];omega)
 refine go5 ?_;refine aH _ O (fun hle=>?_) (fun hle=>?_)
 ·replace hle:=cB_ hle
  refine go3 ?_;refine sQ (aY (eX gI FG O) (congrArg (Value.int .i64) (UY oo_))) O (go4 ?_);refine rt2 ?_;exact PZ ha (by simpa using hg) (by rw [hn];rfl) (by rw [hn,u6];omega)
 replace hle:=cB_ hle
 refine go_ ?_;refine sQ (cB fdT dd_ O) O (sQ (dR tyT O mm_ O) O ?_);refine go_ ?_;rw [hn];refine ZK ?_;refine rt2 ?_;exact FU ha (by simpa using hg) (by rw [hn,u6];omega)
theorem yV (a b:R) (ha:a.Ok) (hb:b.Ok) :
    Ret prog 183 [RV a,RV b] (.tuple #[RV (Z.quo a.dec b.dec).enc,RV (Z.rem a.dec b.dec).enc]):=by
 refine bG (N:=108) func183 O O zz_ (fun w0=>?_);refine giI ?_;refine go_ ?_;refine aZ O (kV O O (fun b2 hb2=>aZ O (kV O O (fun b3 hb3=>aZ O (eM jP (fun b4 hb4=>aZ O (eM jP (fun b5 hb5=>go3 ?_))))))));refine sQ (cA tyT O mm_ (cC ha)) O ?_;refine sQ (cA tyT O mm_ (cC hb)) O ?_;refine aZ O (kA jO jP kB O dd_ O (MN ha hb) (fun b17 hb17=>sQ (dF aB O (fun w hw=>jE [a,b] (ok2 ha hb) b17 31 w (hw.mem _ m0) zz_)) O ?_));refine go2 ?_
 cases hg:[a,b].all R.good
 ·refine go7 ?_;refine sQ (bE aB fS O) O (sQ (bE aB fS O) O (aZ O (bN tyT O O uu_ (aF _) O (bI _) (.inl fR) ?_)));refine aZ O (bN tyT O O uu_ (aF _) O (bI _) (.inl fR) ?_);refine go2 ?_;refine qE O (.inr O) ⟨_,_,_,_,_,_,rfl,mm_,tyT,_,(dI (aF _)),(aF _),rfl⟩ ⟨_,_,_,_,_,_,rfl,mm_,tyT,_,(dI (aF _)),(aF _),rfl⟩ ?_;exact Z5 (EG hg)
 have hg:=all2.1 hg;refine sQ (cA tyT O mm_ (cC hb)) O ?_;refine sQ (bE aB (iH b hb) O) O (go3 ?_);refine aH _ O (fun hs0=>?_) (fun hs0=>?_)
 ·replace hs0:=cB_ hs0
  refine go_ ?_;refine sQ (bE aB fS O) O (sQ (bE aB fS O) O (aZ O (bN tyT O O uu_ (aF _) O (bI _) (.inl fR) ?_)));refine aZ O (bN tyT O O uu_ (aF _) O (bI _) (.inl fR) ?_);refine go2 ?_;refine qE O (.inr O) ⟨_,_,_,_,_,_,rfl,mm_,tyT,_,(dI (aF _)),(aF _),rfl⟩ ⟨_,_,_,_,_,_,rfl,mm_,tyT,_,(dI (aF _)),(aF _),rfl⟩ ?_;exact XV ha hb hg.1 hg.2 hs0
 replace hs0:=cB_ hs0
 have hs0:b.dec.sign≠0:=hs0;have hp:=BE hb hg.2 hs0;refine go_ ?_;refine wN (rg [6,7,8,9,10,11] 27 44) (fun g M=>(True)∧M=[⟨b5,31,zR⟩,⟨b4,31,zR⟩,⟨b3,31,b.cells⟩,⟨b2,31,a.cells⟩]∧(True)) (fun K6 J6=>?_) ?_
 ·refine go_ ?_;refine sQ (cA tyT O mm_ (cC ha)) O ?_;refine sQ (bE aB (rR a ha) O) O (go9 ?_)
  cases hsa:a.dec.small.2
  ·refine go6 ?_;refine J6 _ _ pp_ ⟨_,(List.Sublist.cons _ (List.Sublist.refl _)),trivial,?mem,trivial⟩
   case mem=>rfl
  refine go4 ?_;refine aH _ O (fun hma=>?_) (fun hma=>?_)
  ·replace hma:=cB_ hma
   have ea:=I1 hsa;refine go_ ?_;refine sQ (cA tyT O mm_ (cC hb)) O ?_;refine sQ (bE aB (rR b hb) O) O (go9 ?_)
   cases hsb:b.dec.small.2
   ·refine go6 ?_;refine J6 _ _ pp_ ⟨_,(List.Sublist.cons _ (List.Sublist.refl _)),trivial,?mem,trivial⟩
    case mem=>rfl
   refine go4 ?_;refine aH _ O (fun hmb=>?_) (fun hmb=>?_)
   ·replace hmb:=cB_ hmb
    have eb:=I1 hsb;have hy0:=NL eb.1 hs0;have hq64:I64 (a.dec.small.1.tdiv b.dec.small.1):=RG ea.2 hma;have hr64:=ca_ (x:=a.dec.small.1) hy0 eb.2;refine go_ ?_;refine kU (sk (sk (sk (sk (sk s0))))) 8 [] [] (go2 ?_);refine pQ O (aY (lC O O hy0) (congrArg (Value.int .i64) (bV (RG ea.2 hma)))) (go2 ?_);refine pQ O (qU O O hy0) (go8 ?_)
    cases hr0:(a.dec.small.1.tmod b.dec.small.1 != 0)
    ·refine BG ?_;refine sQ (bE aB (cU _ (by first|exact hI1|exact hq64)) O) O ?_;refine go_ ?_;refine sQ (bE aB (cU _ (by first|exact hI2|exact hr64)) O) O ?_;refine aZ O (bN tyT O O uu_ (aF _) O (bI _) (.inl fR) ?_);refine aZ O (bN tyT O O uu_ (aF _) O (bI _) (.inl fR) ?_);refine go2 ?_;refine qE O (.inr O) ⟨_,_,_,_,_,_,rfl,mm_,tyT,_,(dI (aF _)),(aF _),rfl⟩ ⟨_,_,_,_,_,_,rfl,mm_,tyT,_,(dI (aF _)),(aF _),rfl⟩ ?_;exact FT ea.1 eb.1 hs0 (ED hy0 (.inl (by simpa using hr0)))
    refine go4 ?_;refine sQ (vU C6 O O) O (go2 ?_);refine aH _ O (fun hsg=>?_) (fun hsg=>?_)
    ·replace hsg:=cB_ hsg
     have hI1:I64 (a.dec.small.1.tdiv b.dec.small.1 - 1):=XS ea.2 hma;have hI2:=cb_ hy0 eb.2 (bne_iff_ne.2 hsg);refine go2 ?_;refine sQ (aY (qV O O) (congrArg (Value.int .i64) (bV hI1))) O (go2 ?_);refine sQ (aY (j9 O O) (congrArg (Value.int .i64) (bV hI2))) O (go5 ?_);refine sQ (bE aB (cU _ (by first|exact hI1|exact hq64)) O) O ?_;refine go_ ?_;refine sQ (bE aB (cU _ (by first|exact hI2|exact hr64)) O) O ?_;refine aZ O (bN tyT O O uu_ (aF _) O (bI _) (.inl fR) ?_);refine aZ O (bN tyT O O uu_ (aF _) O (bI _) (.inl fR) ?_);refine go2 ?_;refine qE O (.inr O) ⟨_,_,_,_,_,_,rfl,mm_,tyT,_,(dI (aF _)),(aF _),rfl⟩ ⟨_,_,_,_,_,_,rfl,mm_,tyT,_,(dI (aF _)),(aF _),rfl⟩ ?_;exact FT ea.1 eb.1 hs0 (QU hy0 (by simpa using hr0) (bne_iff_ne.2 hsg))
    replace hsg:=cB_ hsg
    refine go3 ?_;refine sQ (bE aB (cU _ (by first|exact hI1|exact hq64)) O) O ?_;refine go_ ?_;refine sQ (bE aB (cU _ (by first|exact hI2|exact hr64)) O) O ?_;refine aZ O (bN tyT O O uu_ (aF _) O (bI _) (.inl fR) ?_);refine aZ O (bN tyT O O uu_ (aF _) O (bI _) (.inl fR) ?_);refine go2 ?_;refine qE O (.inr O) ⟨_,_,_,_,_,_,rfl,mm_,tyT,_,(dI (aF _)),(aF _),rfl⟩ ⟨_,_,_,_,_,_,rfl,mm_,tyT,_,(dI (aF _)),(aF _),rfl⟩ ?_;exact FT ea.1 eb.1 hs0 (ED hy0 (.inr (by simpa using hsg)))
   replace hmb:=cB_ hmb
   refine go_ ?_;refine J6 _ _ pp_ ⟨_,(List.Sublist.cons _ (List.Sublist.refl _)),trivial,?mem,trivial⟩
   case mem=>rfl
  replace hma:=cB_ hma
  refine go_ ?_;refine J6 _ _ pp_ ⟨_,(List.Sublist.cons _ (List.Sublist.refl _)),trivial,?mem,trivial⟩
  case mem=>rfl
 rintro g M ⟨-,rfl,-⟩;refine gS0 ?_;refine go_ ?_;refine sQ (cB fdT dd_ O) O (sQ (jU (vs:=uw a.w) tyT O mm_ (mU ha.len) ((i6 _).trans ha.len)) O ?_);refine sQ (cB fdT dd_ O) O (sQ (jU (vs:=uw b.w) tyT O mm_ (mU hb.len) ((i6 _).trans hb.len)) O ?_);refine sQ (bE aB (tO a.w b.w ha.len hb.len ha.lim hb.lim hp) O) O (go3 ?_);refine aZ O (eM rB (fun b12 hb12=>aZ O (eM rB (fun b13 hb13=>aZ O (bN tyT O O uu_ (by simp [uw,cN]) (by simp [uw]) (jK _) (.inl fR) ?_)))));refine aZ O (bN tyT O O uu_ (by simp [uw,cN]) (by simp [uw]) (jK _) (.inl fR) ?_);refine go2 ?_;refine sQ (cB fdT dd_ O) O (sQ (dR tyT O mm_ O) O ?_);refine sQ (cB fdT dd_ O) O (sQ (dR tyT O mm_ O) O ?_);refine sQ (vU C6 O O) O (sQ (cA tyT O mm_ (by simp [uw,cN])) O ?_);refine sQ (aY (bE aB (fD (a.neg != b.neg) _ (cN _ _) (nK _ _)) O) (congrArg RV (o6 _ (XU ha)))) O (aZ O (eM jP (fun b14 hb14=>aZ O (bN tyT O O uu_ (aF _) O (bI _) (.inl fR) ?_))));refine go_ ?_;refine wN (rg [] 86 17) (fun g M=>∃ (z:Z) (l:List Nat),(True)∧M=[⟨b14,31,z.enc.cells⟩,⟨b13,29,uw l⟩,⟨b12,29,uw (toL 16 (val a.w / val b.w))⟩,⟨b5,31,zR⟩,⟨b4,31,zR⟩,⟨b3,31,b.cells⟩,⟨b2,31,a.cells⟩]∧(l.length=16∧Lim l∧z=Z.quo a.dec b.dec∧R.mk false (b.neg && !(val l==0)) l=(Z.rem a.dec b.dec).enc)) (fun K19 J19=>?_) ?_
 ·refine go_ ?_;refine sQ (cA tyT O mm_ (by simp [uw,cN])) O ?_;refine sQ (qT rB arT O (.nil _)) O ?_;refine sQ (AP (r:=(val a.w % val b.w==0)) O O (mS 8 dd_ HY IA (pF (cN _ _)) (pF zz_) (XY ha))) O ?_;refine go_ ?_
  cases hr1:(val a.w % val b.w==0)
  ·refine sQ (cB fdT dd_ O) O (sQ (dR tyT O mm_ O) O ?_);refine sQ (cB fdT dd_ O) O (sQ (dR tyT O mm_ O) O ?_);refine sQ (vU C6 O O) O (go2 ?_);refine aH _ O (fun hne=>?_) (fun hne=>?_)
   ·replace hne:=cB_ hne
    refine gdr (sd (sd (sk (sk (sk (sk (sk s0))))))) [0,4,8,12,16,20,24,29,33] [7,8] mix (by kernel_rfl) (pQ O (cA tyT O mm_ (aF _)) ?_);refine pQ O (bE aB (cU 1 (by unfold I64;decide)) O) (pQ O (bE aB (DJ (Z.of (sgn (a.neg != b.neg) (val a.w / val b.w))).enc (Z.of 1).enc (Z.enc_ok _) (Z.enc_ok _)) O) (pQ O (cB fdT dd_ O) (pQ O (jU (vs:=uw b.w) tyT O mm_ (mU hb.len) ((i6 _).trans hb.len)) ?_)));refine pQ O (cA tyT O mm_ (by simp [uw,cN])) ?_;refine pQ O (bE aB (wQ b.w _ hb.len (cN _ _) hb.lim (nK _ _) (cd_ ha hp)) O) ?_;refine bP O O (bN tyT O O uu_ (aF _) (aF _) (bI _) (.inl fR) ⟨nf,ss_,?_⟩);refine bP O O (bN tyT O O uu_ (by simp [uw,cN]) (by simp [uw,cN]) (jK _) (.inl fR) ⟨nf,ss_,?_⟩);refine go_ ?_;refine J19 _ _ pp_ ⟨_,(List.Sublist.refl _),_,_,trivial,?mem,ZD ha hb hg.1 hg.2 hp (by simpa using hr1) hne⟩
    case mem=>rfl
   replace hne:=cB_ hne
   refine go_ ?_;refine J19 _ _ pp_ ⟨_,(List.Sublist.refl _),_,_,trivial,?mem,OI ha hb hg.1 hg.2 hp (.inr (by simpa using hne))⟩
   case mem=>rfl
  refine go9 ?_;refine J19 _ _ pp_ ⟨_,(List.Sublist.refl _),_,_,trivial,?mem,OI ha hb hg.1 hg.2 hp (.inl (by simpa using hr1))⟩
  case mem=>rfl
 rintro g M ⟨z,l,-,rfl,⟨hl16,hlim,hzq,hzr⟩⟩;refine gS0 ?_;refine go_ ?_;refine gdr (sk (sk (sk (sd (sd (sk (sk s0))))))) [0,4,8,12,16,21,25] [5,6] mix (by kernel_rfl) (pQ O (cA tyT O mm_ (aF _)) ?_);refine pQ O (cB fdT dd_ O) (pQ O (dR tyT O mm_ O) ?_);refine pQ O (cA tyT O mm_ (by rw [i6,hl16])) ?_;refine pQ O (bE aB (fD b.neg l hl16 hlim) O) ?_;refine bP O O (bN tyT O O uu_ (aF _) O (bI _) (.inl fR) ⟨nf,ss_,?_⟩);refine bP O O (bN tyT O O uu_ (jX hl16) O (bI _) (.inl fR) ⟨nf,ss_,?_⟩);refine go2 ?_;refine qE O (.inr O) ⟨_,_,_,_,_,_,rfl,mm_,tyT,_,(dI (aF _)),(aF _),rfl⟩ ⟨_,_,_,_,_,_,rfl,mm_,tyT,_,(dI (jX hl16)),(jX hl16),rfl⟩ ?_
 (subst hzq;exact congrArg (fun r:R=>Value.tuple #[RV (Z.quo a.dec b.dec).enc,RV r]) hzr)
theorem gZ (a b:R) (ha:a.Ok) (hb:b.Ok) :
  Ret prog 103 [RV a,RV b] (RV (Z.quo a.dec b.dec).enc):=by
 refine bG (N:=14) func103 O O zz_ (fun w0=>?_);refine giI ?_;refine go_ ?_;refine aZ O (kV O O (fun b2 hb2=>aZ O (kV O O (fun b3 hb3=>aZ O (eM jP (fun b4 hb4=>go2 ?_))))));refine sQ (cA tyT O mm_ (cC ha)) O ?_;refine sQ (cA tyT O mm_ (cC hb)) O ?_;refine sQ (bE aB (yV a b ha hb) O) O (go3 ?_);refine aZ O (eM jP (fun b5 hb5=>aZ O (eM jP (fun b6 hb6=>aZ O (bN tyT O O uu_ (aF _) O (bI _) (.inl fR) ?_)))));refine aZ O (bN tyT O O uu_ (aF _) O (bI _) (.inl fR) ?_);refine go2 ?_;refine sQ (cA tyT O mm_ (aF _)) O ?_;refine aZ O (bN tyT O O uu_ (aF _) O (bI _) (.inl fR) ?_);refine go2 ?_;refine rtX O ⟨_,_,_,_,_,_,rfl,mm_,tyT,_,(dI (aF _)),(aF _),rfl⟩ ?_;exact rfl
theorem DI (a b:R) (ha:a.Ok) (hb:b.Ok) :
  Ret prog 133 [RV a,RV b] (RV (Z.rem a.dec b.dec).enc):=by
 refine bG (N:=14) func133 O O zz_ (fun w0=>?_);refine giI ?_;refine go_ ?_;refine aZ O (kV O O (fun b2 hb2=>aZ O (kV O O (fun b3 hb3=>aZ O (eM jP (fun b4 hb4=>go2 ?_))))));refine sQ (cA tyT O mm_ (cC ha)) O ?_;refine sQ (cA tyT O mm_ (cC hb)) O ?_;refine sQ (bE aB (yV a b ha hb) O) O (go3 ?_);refine aZ O (eM jP (fun b5 hb5=>aZ O (eM jP (fun b6 hb6=>aZ O (bN tyT O O uu_ (aF _) O (bI _) (.inl fR) ?_)))));refine aZ O (bN tyT O O uu_ (aF _) O (bI _) (.inl fR) ?_);refine go2 ?_;refine sQ (cA tyT O mm_ (aF _)) O ?_;refine aZ O (bN tyT O O uu_ (aF _) O (bI _) (.inl fR) ?_);refine go2 ?_;refine rtX O ⟨_,_,_,_,_,_,rfl,mm_,tyT,_,(dI (aF _)),(aF _),rfl⟩ ?_;exact rfl
theorem DH (a b:R) (ha:a.Ok) (hb:b.Ok) :
    Ret prog 132 [RV a,RV b] (.int .i64 (Z.cmp a.dec b.dec)):=by
 refine bG (N:=47) func132 O O zz_ (fun w0=>?_);refine giI ?_;refine go_ ?_;refine aZ O (kV O O (fun b2 hb2=>aZ O (kV O O (fun b3 hb3=>go3 ?_))));refine gDk (sk (sk s0)) (.quiet 0 [1,2,5,6,7] (.quiet 3 [4,5,6,7] (.both 1 (.quiet 2 [5,6,7] (.only 4 (.quiet 5 [6,7] (.quiet 6 [7] (.quiet 7 [] (.fin)))))) 4 (.only 1 (.quiet 2 [5,6,7] (.quiet 5 [6,7] (.quiet 6 [7] (.quiet 7 [] (.fin))))))))) (rg [] 0 8) mix (by kernel_rfl) (by kernel_rfl) (pQ O (cA tyT O mm_ (cC ha)) ?_);refine pQ O (cA tyT O mm_ (cC hb)) ?_;refine BF ?_ ?_
 ·refine bP O O (kA jO jP kB O dd_ O (xI ha) (fun b8 hb8=>⟨(fun _=>by first|exact sd s0|exact s0),ss_,?_⟩));refine pQ O (dF aB O (fun w hw=>jE [a] (ok1 ha) b8 31 w (hw.mem ⟨b8,31,_⟩ (by first|exact m0|exact m1)) zz_)) ?_;refine bP O O (kA jO jP kB O dd_ O (xI hb) (fun b11 hb11=>⟨(fun _=>by first|exact sd s0|exact s0),ss_,?_⟩));refine pQ O (dF aB O (fun w hw=>jE [b] (ok1 hb) b11 31 w (hw.mem ⟨b11,31,_⟩ (by first|exact m0|exact m1)) zz_)) ?_;refine go9 ?_
  cases hga:[a].all R.good
  ·refine go5 ?_;refine aH _ O (fun hgb=>?_) (fun hgb=>?_)
   ·replace hgb:=cB_ hgb
    refine go4 ?_;refine rt1 ?_;exact congrArg _ (QN (by simpa using hga) (by simpa using hgb))
   replace hgb:=cB_ hgb
   refine j0 ?_;refine rt1 ?_;exact congrArg _ (QO (by simpa using hga) hb (by simpa using hgb))
  refine WJ ?_;refine aH _ O (fun hgb=>?_) (fun hgb=>?_)
  ·replace hgb:=cB_ hgb
   refine go4 ?_;refine rt1 ?_;exact congrArg _ (QP ha (by simpa using hga) (by simpa using hgb))
  replace hgb:=cB_ hgb
  refine go_ ?_;refine sQ (cB fdT dd_ O) O (sQ (dR tyT O mm_ O) O ?_);refine sQ (cB fdT dd_ O) O (sQ (dR tyT O mm_ O) O ?_);refine sQ (vU C6 O O) O (go2 ?_);refine aH _ O (fun hn=>?_) (fun hn=>?_)
  ·replace hn:=cB_ hn
   refine go2 ?_;refine sQ (cB fdT dd_ O) O (sQ (dR tyT O mm_ O) O ?_);refine go_ ?_;refine aH _ O (fun hs=>?_) (fun hs=>?_)
   ·replace hs:=cB_ hs
    refine go4 ?_;refine rt1 ?_;exact congrArg _ (V0 ha hb (by simpa using hga) (by simpa using hgb) hn hs)
   replace hs:=cB_ hs
   refine go5 ?_;refine rt1 ?_;exact congrArg _ (VZ ha hb (by simpa using hga) (by simpa using hgb) hn (by simpa using hs))
  replace hn:=cB_ hn
  refine go_ ?_;refine sQ (cB fdT dd_ O) O (sQ (dR tyT O mm_ O) O ?_);refine go2 ?_;refine aH _ O (fun hs=>?_) (fun hs=>?_)
  ·replace hs:=cB_ hs
   refine go_ ?_;refine sQ (cB fdT dd_ O) O (sQ (jU (vs:=uw b.w) tyT O mm_ (mU hb.len) ((i6 _).trans hb.len)) O ?_);refine sQ (cB fdT dd_ O) O (sQ (jU (vs:=uw a.w) tyT O mm_ (mU ha.len) ((i6 _).trans ha.len)) O ?_);refine sQ (bE aB (pP b.w a.w hb.len ha.len hb.lim ha.lim) O) O (go3 ?_);refine rt1 ?_;exact congrArg _ (V1 ha hb (by simpa using hga) (by simpa using hgb) hn hs)
  replace hs:=cB_ hs
  refine go2 ?_;refine sQ (cB fdT dd_ O) O (sQ (jU (vs:=uw a.w) tyT O mm_ (mU ha.len) ((i6 _).trans ha.len)) O ?_);refine sQ (cB fdT dd_ O) O (sQ (jU (vs:=uw b.w) tyT O mm_ (mU hb.len) ((i6 _).trans hb.len)) O ?_);refine sQ (bE aB (pP a.w b.w ha.len hb.len ha.lim hb.lim) O) O (go3 ?_);refine rt1 ?_;exact congrArg _ (V2 ha hb (by simpa using hga) (by simpa using hgb) hn (by simpa using hs))
 refine bP O O (kA jO jP kB O dd_ O (xI hb) (fun b11 hb11=>⟨(fun _=>by first|exact sd s0|exact s0),ss_,?_⟩));refine bP O O (kA jO jP kB O dd_ O (xI ha) (fun b8 hb8=>⟨(fun _=>by first|exact sd s0|exact s0),ss_,?_⟩));refine pQ O (dF aB O (fun w hw=>jE [a] (ok1 ha) b8 31 w (hw.mem ⟨b8,31,_⟩ (by first|exact m0|exact m1)) zz_)) ?_;refine pQ O (dF aB O (fun w hw=>jE [b] (ok1 hb) b11 31 w (hw.mem ⟨b11,31,_⟩ (by first|exact m0|exact m1)) zz_)) ?_;refine go9 ?_
 cases hga:[a].all R.good
 ·refine go5 ?_;refine aH _ O (fun hgb=>?_) (fun hgb=>?_)
  ·replace hgb:=cB_ hgb
   refine go4 ?_;refine rt1 ?_;exact congrArg _ (QN (by simpa using hga) (by simpa using hgb))
  replace hgb:=cB_ hgb
  refine j0 ?_;refine rt1 ?_;exact congrArg _ (QO (by simpa using hga) hb (by simpa using hgb))
 refine WJ ?_;refine aH _ O (fun hgb=>?_) (fun hgb=>?_)
 ·replace hgb:=cB_ hgb
  refine go4 ?_;refine rt1 ?_;exact congrArg _ (QP ha (by simpa using hga) (by simpa using hgb))
 replace hgb:=cB_ hgb
 refine go_ ?_;refine sQ (cB fdT dd_ O) O (sQ (dR tyT O mm_ O) O ?_);refine sQ (cB fdT dd_ O) O (sQ (dR tyT O mm_ O) O ?_);refine sQ (vU C6 O O) O (go2 ?_);refine aH _ O (fun hn=>?_) (fun hn=>?_)
 ·replace hn:=cB_ hn
  refine go2 ?_;refine sQ (cB fdT dd_ O) O (sQ (dR tyT O mm_ O) O ?_);refine go_ ?_;refine aH _ O (fun hs=>?_) (fun hs=>?_)
  ·replace hs:=cB_ hs
   refine go4 ?_;refine rt1 ?_;exact congrArg _ (V0 ha hb (by simpa using hga) (by simpa using hgb) hn hs)
  replace hs:=cB_ hs
  refine go5 ?_;refine rt1 ?_;exact congrArg _ (VZ ha hb (by simpa using hga) (by simpa using hgb) hn (by simpa using hs))
 replace hn:=cB_ hn
 refine go_ ?_;refine sQ (cB fdT dd_ O) O (sQ (dR tyT O mm_ O) O ?_);refine go2 ?_;refine aH _ O (fun hs=>?_) (fun hs=>?_)
 ·replace hs:=cB_ hs
  refine go_ ?_;refine sQ (cB fdT dd_ O) O (sQ (jU (vs:=uw b.w) tyT O mm_ (mU hb.len) ((i6 _).trans hb.len)) O ?_);refine sQ (cB fdT dd_ O) O (sQ (jU (vs:=uw a.w) tyT O mm_ (mU ha.len) ((i6 _).trans ha.len)) O ?_);refine sQ (bE aB (pP b.w a.w hb.len ha.len hb.lim ha.lim) O) O (go3 ?_);refine rt1 ?_;exact congrArg _ (V1 ha hb (by simpa using hga) (by simpa using hgb) hn hs)
 replace hs:=cB_ hs
 refine go2 ?_;refine sQ (cB fdT dd_ O) O (sQ (jU (vs:=uw a.w) tyT O mm_ (mU ha.len) ((i6 _).trans ha.len)) O ?_);refine sQ (cB fdT dd_ O) O (sQ (jU (vs:=uw b.w) tyT O mm_ (mU hb.len) ((i6 _).trans hb.len)) O ?_);refine sQ (bE aB (pP a.w b.w ha.len hb.len ha.lim hb.lim) O) O (go3 ?_);refine rt1 ?_;exact congrArg _ (V2 ha hb (by simpa using hga) (by simpa using hgb) hn (by simpa using hs))
theorem JE (n:Nat) (IH:∀ (a b:R),a.Ok→b.Ok→val b.w<n→Ret prog 128 [RV a,RV b] (RV (Z.gcd a.dec b.dec).enc)) (a b:R) (ha:a.Ok) (hb:b.Ok) (hn:val b.w=n) :
    Ret prog 128 [RV a,RV b] (RV (Z.gcd a.dec b.dec).enc):=by
 refine bG (N:=80) func128 O O zz_ (fun w0=>?_);refine giI ?_;refine go_ ?_;refine aZ O (kV O O (fun b2 hb2=>aZ O (kV O O (fun b3 hb3=>aZ O (eM jP (fun b4 hb4=>go3 ?_))))));refine sQ (cA tyT O mm_ (cC ha)) O ?_;refine sQ (cA tyT O mm_ (cC hb)) O ?_;refine aZ O (kA jO jP kB O dd_ O (MN ha hb) (fun b13 hb13=>sQ (dF aB O (fun w hw=>jE [a,b] (ok2 ha hb) b13 31 w (hw.mem _ m0) zz_)) O ?_));refine go2 ?_;refine aH _ O (fun hg=>?_) (fun hg=>?_)
 ·replace hg:=cB_ hg
  refine go_ ?_;refine sQ (bE aB fS O) O (aZ O (bN tyT O O uu_ (aF _) O (bI _) (.inl fR) ?_));refine go2 ?_;refine rtX O ⟨_,_,_,_,_,_,rfl,mm_,tyT,_,(dI (aF _)),(aF _),rfl⟩ ?_;exact congrArg RV (ZH hg)
 replace hg:=cB_ hg
 have hg:=all2.1 hg;refine go_ ?_;refine wN (rg [5,6] 17 43) (fun g M=>(True)∧M=[⟨b4,31,zR⟩,⟨b3,31,b.cells⟩,⟨b2,31,a.cells⟩]∧(True)) (fun K5 J5=>?_) ?_
 ·refine go_ ?_;refine sQ (cB fdT dd_ O) O (sQ (jU (vs:=uw a.w) tyT O mm_ (mU ha.len) ((i6 _).trans ha.len)) O ?_);refine sQ (bE aB (pG a.w ha.len) O) O (go2 ?_)
  cases hsz:decide ((szL a.w:Int)≤2)
  ·refine go8 ?_;refine J5 _ _ pp_ ⟨_,(List.Sublist.cons _ (List.Sublist.refl _)),trivial,?mem,trivial⟩
   case mem=>rfl
  refine sQ (cB fdT dd_ O) O (sQ (jU (vs:=uw b.w) tyT O mm_ (mU hb.len) ((i6 _).trans hb.len)) O ?_);refine sQ (bE aB (pG b.w hb.len) O) O (go3 ?_);refine aH _ O (fun hsz2=>?_) (fun hsz2=>?_)
  ·replace hsz2:=cB_ hsz2
   have hA64:=sz2 ha (by have:=of_decide_eq_true hsz;omega);have hB64:=sz2 hb oo_;refine go_ ?_;refine gdr (sk (sk (sk (sk s0)))) [0,4,8,12,16,20,24,28,32,36,40,44,48,52,56,60,64,68,72,76,80,84] [] mix (by kernel_rfl) (pQ O (cB fdT dd_ O) (pQ O (fL arT O O dd_ dd_) (pQ O (dR tyT O mm_ (pH (r:=a) (k:=1) (by rw [ha.len];omega))) ?_)));refine pQ O (aY (eX jA gI O) (xV (eH ha.lim _))) (pQ O (aY (EL O O dd_) (congrArg (Value.int .u64) (yR (eH ha.lim _)))) (pQ O (cB fdT dd_ O) (pQ O (fL arT O O dd_ dd_) (pQ O (dR tyT O mm_ (pH (r:=a) (k:=0) (by rw [ha.len];omega))) ?_))));refine pQ O (aY (eX jA gI O) (xV (eH ha.lim _))) (pQ O (aY (M9 O O) (congrArg (Value.int .u64) ((O7 (eH ha.lim _) (eH ha.lim _)).trans (congrArg (fun m:Nat=>(m:Int)) (DZ ha hA64))))) (pQ O (cB fdT dd_ O) (pQ O (fL arT O O dd_ dd_) (pQ O (dR tyT O mm_ (pH (r:=b) (k:=1) (by rw [hb.len];omega))) ?_))));refine pQ O (aY (eX jA gI O) (xV (eH hb.lim _))) (pQ O (aY (EL O O dd_) (congrArg (Value.int .u64) (yR (eH hb.lim _)))) (pQ O (cB fdT dd_ O) (pQ O (fL arT O O dd_ dd_) (pQ O (dR tyT O mm_ (pH (r:=b) (k:=0) (by rw [hb.len];omega))) ?_))));refine pQ O (aY (eX jA gI O) (xV (eH hb.lim _))) (pQ O (aY (M9 O O) (congrArg (Value.int .u64) ((O7 (eH hb.lim _) (eH hb.lim _)).trans (congrArg (fun m:Nat=>(m:Int)) (DZ hb hB64))))) (go5 ?_));refine bX (rg [5,6] 47 6) (fun g nn M=>∃ (x y:Nat),(g 5 = .int .u64 (x:Int)∧g 6 = .int .u64 (y:Int))∧M=[⟨b4,31,zR⟩,⟨b3,31,b.cells⟩,⟨b2,31,a.cells⟩]∧nn=y∧(x<18446744073709551616∧y<18446744073709551616∧Nat.gcd x y=Nat.gcd (val a.w) (val b.w))) (val b.w) ?start ?round
   case start =>
    refine ⟨_,(List.Sublist.cons _ (List.Sublist.refl _)),_,_,⟨?a5,?a6⟩,?mem0,rfl,⟨hA64,hB64,rfl⟩⟩
    case mem0=>rfl
    case a5=>rfl
    case a6=>rfl
   case round =>
    rintro nn g M ⟨x,y,⟨hg5,hg6⟩,rfl,hmeas,⟨hx64,hy64,hgc⟩⟩;subst nn;refine gS2 hg5 hg6 ?_;clear hg5 hg6;refine go5 ?_;refine aH _ O (fun hy0=>?_) (fun hy0=>?_)
    ·replace hy0:=cB_ hy0
     refine go2 ?_;refine kU (sk (sk (sk s0))) 6 [] [] (go3 ?_);refine pQ O (aY (qU O O oo_) (congrArg (Value.int .u64) (CY _ _))) (go3 ?_);refine ⟨pp_,_,_,(List.Sublist.refl _),(Nat.mod_lt _ oo_),y,x % y,⟨?s5,?s6⟩,?mem,rfl,⟨hy64,Nat.lt_of_le_of_lt (Nat.mod_le _ _) hx64,by rw [Nat.gcd_comm,← Nat.gcd_rec,Nat.gcd_comm];exact hgc⟩⟩
     case mem=>rfl
     case s5=>rfl
     case s6=>rfl
    replace hy0:=cB_ hy0
    refine go3 ?_;refine sQ (eX gI jA O) O (go_ ?_);refine sQ (aY (wS O O dd_) (congrArg (Value.int .u64) (tB _ 32))) O (sQ (eX gI jA O) O (sQ (qT rB arT O (bB_ hx64)) O (sQ (bE aB (fD false _ zz_ (WU (Nat.mod_lt _ dd_) oo_ 14)) O) O ?_)));refine aZ O (bN tyT O O uu_ (jX zz_) O (bI _) (.inl fR) ?_);refine go2 ?_;refine rtX O ⟨_,_,_,_,_,_,rfl,mm_,tyT,_,(dI (jX zz_)),(jX zz_),rfl⟩ ?_;exact ZI ha hb hg.1 hg.2 hx64 (ZJ hx64 hgc oo_)
  replace hsz2:=cB_ hsz2
  refine go_ ?_;refine J5 _ _ pp_ ⟨_,(List.Sublist.cons _ (List.Sublist.refl _)),trivial,?mem,trivial⟩
  case mem=>rfl
 rintro g M ⟨-,rfl,-⟩;refine gS0 ?_;refine go2 ?_;refine gDk (sk (sk (sk s0))) (.quiet 0 [1,6,7] (.quiet 1 [6,7] (.still 2 [3,7] (.still 3 [7] (.both 4 (.only 5 (.only 6 (.only 7 (.fin)))) 5 (.only 4 (.only 6 (.only 7 (.fin))))))))) [0,1,2,3,4,5] mix (by kernel_rfl) (by kernel_rfl) (pQ O (cB fdT dd_ O) (pQ O (jU (vs:=uw a.w) tyT O mm_ (mU ha.len) ((i6 _).trans ha.len)) ?_));refine E5 O O (cB fdT dd_ O) (E5 O O (jU (vs:=uw b.w) tyT O mm_ (mU hb.len) ((i6 _).trans hb.len)) ?_);refine BF ?_ ?_
 ·refine bP O O (eM rB (fun b7 hb7=>⟨(fun _=>by first|exact sd s0|exact s0),ss_,?_⟩));refine bP O O (eM rB (fun b8 hb8=>⟨(fun _=>by first|exact sd s0|exact s0),ss_,?_⟩));refine bP O O (bN tyT O O uu_ (by simp [uw,ha.len]) (by simp [uw]) (jK _) (.inl fR) ⟨nf,ss_,?_⟩);refine bP O O (bN tyT O O uu_ (by simp [uw,hb.len]) (by simp [uw]) (jK _) (.inl fR) ⟨nf,ss_,?_⟩);refine go2 ?_;refine sQ (cA tyT O mm_ (by simp [uw,hb.len])) O ?_;refine sQ (qT rB arT O (.nil _)) O ?_;refine sQ (AP (r:=(val b.w==0)) O O (mS 8 dd_ HY IA (pF hb.len) (pF zz_) (C5 hb.len hb.lim))) O ?_;refine go_ ?_;refine aH _ O (fun hb0=>?_) (fun hb0=>?_)
  ·replace hb0:=cB_ hb0
   have hp:0<val b.w:=Nat.pos_of_ne_zero (by simpa using hb0);refine go_ ?_;refine sQ (cA tyT O mm_ (by simp [uw,ha.len])) O ?_;refine sQ (cA tyT O mm_ (by simp [uw,hb.len])) O ?_;refine sQ (bE aB (tO a.w b.w ha.len hb.len ha.lim hb.lim hp) O) O (go3 ?_);refine aZ O (eM rB (fun b9 hb9=>aZ O (eM rB (fun b10 hb10=>aZ O (bN tyT O O uu_ (by simp [uw,cN]) (by simp [uw]) (jK _) (.inl fR) ?_)))));refine aZ O (bN tyT O O uu_ (by simp [uw,cN]) (by simp [uw]) (jK _) (.inl fR) ?_);refine go2 ?_;refine gdr (sk (sk (sk (sk (sd (sk (sk s0))))))) [0,4,8,12,16,21] [5] mix (by kernel_rfl) (pQ O (cA tyT O mm_ (by simp [uw,hb.len])) ?_);refine pQ O (aY (bE aB (fD false b.w hb.len hb.lim) O) (F2 hb.len hb.lim false)) (pQ O (cA tyT O mm_ (by simp [uw,cN])) ?_);refine pQ O (aY (bE aB (fD false _ (cN _ _) (nK _ _)) O) (congrArg RV (o6 false (uR ha)))) (pQ O (bE aB (IH (Z.of (sgn false (val b.w))).enc (Z.of (sgn false (val a.w % val b.w))).enc (Z.enc_ok _) (Z.enc_ok _) (by rw [SA (uR ha),← hn];exact Nat.mod_lt _ hp)) O) ?_);refine bP O O (bN tyT O O uu_ (aF _) O (bI _) (.inl fR) ⟨nf,ss_,?_⟩);refine go2 ?_;refine rtX O ⟨_,_,_,_,_,_,rfl,mm_,tyT,_,(dI (aF _)),(aF _),rfl⟩ ?_;exact OR ha hb hg.1 hg.2
  replace hb0:=cB_ hb0
  refine go2 ?_;refine sQ (cA tyT O mm_ (cC ha)) O ?_;refine sQ (bE aB (DF a ha) O) O (aZ O (bN tyT O O uu_ (aF _) O (bI _) (.inl fR) ?_));refine go2 ?_;refine rtX O ⟨_,_,_,_,_,_,rfl,mm_,tyT,_,(dI (aF _)),(aF _),rfl⟩ ?_;exact OS ha hb hg.1 hg.2 (by simpa using hb0)
 refine bP O O (eM rB (fun b8 hb8=>⟨(fun _=>by first|exact sd s0|exact s0),ss_,?_⟩));refine bP O O (eM rB (fun b7 hb7=>⟨(fun _=>by first|exact sd s0|exact s0),ss_,?_⟩));refine bP O O (bN tyT O O uu_ (by simp [uw,ha.len]) (by simp [uw]) (jK _) (.inl fR) ⟨nf,ss_,?_⟩);refine bP O O (bN tyT O O uu_ (by simp [uw,hb.len]) (by simp [uw]) (jK _) (.inl fR) ⟨nf,ss_,?_⟩);refine go2 ?_;refine sQ (cA tyT O mm_ (by simp [uw,hb.len])) O ?_;refine sQ (qT rB arT O (.nil _)) O ?_;refine sQ (AP (r:=(val b.w==0)) O O (mS 8 dd_ HY IA (pF hb.len) (pF zz_) (C5 hb.len hb.lim))) O ?_;refine go_ ?_;refine aH _ O (fun hb0=>?_) (fun hb0=>?_)
 ·replace hb0:=cB_ hb0
  have hp:0<val b.w:=Nat.pos_of_ne_zero (by simpa using hb0);refine go_ ?_;refine sQ (cA tyT O mm_ (by simp [uw,ha.len])) O ?_;refine sQ (cA tyT O mm_ (by simp [uw,hb.len])) O ?_;refine sQ (bE aB (tO a.w b.w ha.len hb.len ha.lim hb.lim hp) O) O (go3 ?_);refine aZ O (eM rB (fun b9 hb9=>aZ O (eM rB (fun b10 hb10=>aZ O (bN tyT O O uu_ (by simp [uw,cN]) (by simp [uw]) (jK _) (.inl fR) ?_)))));refine aZ O (bN tyT O O uu_ (by simp [uw,cN]) (by simp [uw]) (jK _) (.inl fR) ?_);refine go2 ?_;refine gdr (sk (sk (sk (sk (sd (sk (sk s0))))))) [0,4,8,12,16,21] [5] mix (by kernel_rfl) (pQ O (cA tyT O mm_ (by simp [uw,hb.len])) ?_);refine pQ O (aY (bE aB (fD false b.w hb.len hb.lim) O) (F2 hb.len hb.lim false)) (pQ O (cA tyT O mm_ (by simp [uw,cN])) ?_);refine pQ O (aY (bE aB (fD false _ (cN _ _) (nK _ _)) O) (congrArg RV (o6 false (uR ha)))) (pQ O (bE aB (IH (Z.of (sgn false (val b.w))).enc (Z.of (sgn false (val a.w % val b.w))).enc (Z.enc_ok _) (Z.enc_ok _) (by rw [SA (uR ha),← hn];exact Nat.mod_lt _ hp)) O) ?_);refine bP O O (bN tyT O O uu_ (aF _) O (bI _) (.inl fR) ⟨nf,ss_,?_⟩);refine go2 ?_;refine rtX O ⟨_,_,_,_,_,_,rfl,mm_,tyT,_,(dI (aF _)),(aF _),rfl⟩ ?_;exact OR ha hb hg.1 hg.2
 replace hb0:=cB_ hb0
 refine go2 ?_;refine sQ (cA tyT O mm_ (cC ha)) O ?_;refine sQ (bE aB (DF a ha) O) O (aZ O (bN tyT O O uu_ (aF _) O (bI _) (.inl fR) ?_));refine go2 ?_;refine rtX O ⟨_,_,_,_,_,_,rfl,mm_,tyT,_,(dI (aF _)),(aF _),rfl⟩ ?_;exact OS ha hb hg.1 hg.2 (by simpa using hb0)
theorem qO (a b:R) (ha:a.Ok) (hb:b.Ok):Ret prog 128 [RV a,RV b] (RV (Z.gcd a.dec b.dec).enc):=by
 generalize hn:val b.w=n
 induction n using Nat.strongRecOn generalizing a b with
 | ind n ih=>exact JE n (fun a b ha hb h=>ih _ h a b ha hb O) a b ha hb hn
end Go.Proofs.YtkjjponijamaoaaGreatDoor
