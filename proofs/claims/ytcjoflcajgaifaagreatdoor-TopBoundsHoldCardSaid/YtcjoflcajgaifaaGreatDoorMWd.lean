/- Lemmas: what they ask stands in their statements. -/
import Derived.Test.YtcjoflcajgaifaaGreatDoorMWa
set_option linter.unusedSimpArgs false
set_option linter.unusedVariables false
set_option maxHeartbeats 8000000
set_option maxRecDepth 20000
namespace Go.Proofs.YtcjoflcajgaifaaGreatDoor
open Go.Kn Go.Num Tryz
attribute [local irreducible] Go.Kn.W WL PL OpQ OpR OpS
theorem I7 (x:Nat) (hx:x<4294967296) :
    Ret prog 215 [U32 x] (.int .i64 ((bl x:Nat):Int)):=by
 refine bI (N:=19) func215 O O zz_ (fun w0=>?_);refine giI ?_;refine go8 ?_;refine aS _ O (fun h1=>?_) (fun h1=>?_)
 ·replace h1:=cB_ h1
  refine go2 ?_;refine sQ (aE (r9 O O dd_) (MJ x 16)) O (oF ?_);refine aS _ O (fun h2=>?_) (fun h2=>?_)
  ·replace h2:=cB_ h2
   refine go2 ?_;refine sQ (aE (r9 O O dd_) (MJ _ 8)) O (oF ?_);refine sQ (aE (dJ fM OJ O) (UR oo_)) O (sQ (GJ (n:=256) bl cz_ O O oo_ (by decide +kernel)) O (sQ (aE (dJ OJ zW O) (EJ oo_)) O (go4 ?_)));refine rt1 ?_;exact ES (c:=24) O dd_ oo_ (by rw [x9 (k:=16) oo_,x9 (n:=x / 2 ^ 16) (k:=8) oo_];omega)
  replace h2:=cB_ h2
  refine go4 ?_;refine sQ (aE (dJ fM OJ O) (UR oo_)) O (sQ (GJ (n:=256) bl cz_ O O oo_ (by decide +kernel)) O (sQ (aE (dJ OJ zW O) (EJ oo_)) O (go4 ?_)));refine rt1 ?_;exact ES (c:=16) O dd_ oo_ (by rw [x9 (k:=16) oo_])
 replace h1:=cB_ h1
 refine go6 ?_;refine aS _ O (fun h2=>?_) (fun h2=>?_)
 ·replace h2:=cB_ h2
  refine go2 ?_;refine sQ (aE (r9 O O dd_) (MJ _ 8)) O (oF ?_);refine sQ (aE (dJ fM OJ O) (UR oo_)) O (sQ (GJ (n:=256) bl cz_ O O oo_ (by decide +kernel)) O (sQ (aE (dJ OJ zW O) (EJ oo_)) O (go4 ?_)));refine rt1 ?_;exact ES (c:=8) O dd_ oo_ (by rw [x9 (k:=8) oo_])
 replace h2:=cB_ h2
 refine go4 ?_;refine sQ (aE (dJ fM OJ O) (UR oo_)) O (sQ (GJ (n:=256) bl cz_ O O oo_ (by decide +kernel)) O (sQ (aE (dJ OJ zW O) (EJ oo_)) O (go4 ?_)));refine rt1 ?_;exact ES (c:=0) O dd_ oo_ oo_
theorem ZG (x:Nat) (hx:x<4294967296) :
  Ret prog 199 [U32 x] (.int .i64 ((32 - bl x:Nat):Int)):=by
 refine bI (N:=6) func199 O O zz_ (fun w0=>?_);refine giI ?_;refine go5 ?_;refine sQ (aY aK (I7 x hx) O) O (go4 ?_);refine rt1 ?_;exact congrArg (Value.int .i64) (es_ hx)
theorem B8 (xs:List Nat) (hx:xs.length=16) (lx:Lim xs) (n:Nat) (hn:n<32) :
    Ret prog 200 [UV xs,.int .i64 (n:Int)] (.tuple #[UV (toL 16 (val xs*2 ^ n)),U32 (val xs*2 ^ n / 4294967296 ^ 16)]):=by
 refine bI (N:=30) func200 O O zz_ (fun w0=>?_);refine giI ?_;refine go_ ?_;refine aQ O (iG O O (fun b2 hb2=>aQ O (dP mE (fun b4 hb4=>go3 ?_))));refine aQ O (dP mE (fun b6 hb6=>go9 ?_));refine cF (rg [] 7 20) (fun g nn M=>∃ (k:Nat),(g 7 = .int .u64 ((mc (val xs) (2 ^ n) k:Nat):Int)∧g 9 = .int .i64 (k:Int))∧M=[⟨b6,29,uw (vJ k (val xs*2 ^ n) 16)⟩,⟨b4,29,uw (List.replicate 16 0)⟩,⟨b2,29,uw xs⟩]∧nn=16 - k∧(k≤16)) (16) ?start ?round
 case start =>
  refine ⟨_,(List.Sublist.refl _),0,⟨?a7,?a9⟩,?mem0,rfl,Nat.zero_le _⟩
  case mem0=>rw [wL]
  case a7=>rw [bX_];rfl
  case a9=>rfl
 case round =>
  rintro nn g M ⟨k,⟨hg7,hg9⟩,rfl,hmeas,hk⟩;subst nn;refine gS2 hg7 hg9 ?_;clear hg7 hg9;refine go4 ?_;refine aS _ O (fun hc=>?_) (fun hc=>?_)
  ·replace hc:=cB_ hc
   have hc:k<16:=by omega
   refine oF ?_;refine sQ (dX arT O O oo_ oo_) O (sQ (cZ tyT O mm_ (q8 oo_)) O ?_);refine sQ (dJ fM eS O) O (go_ ?_);refine sQ (aE (BS O O oo_) (congrArg (Value.int .u64) (cw_ (dG lx k) oo_))) O (sQ (aE (LZ O O) (congrArg (Value.int .u64) (gJ_ (de_ (m:=2 ^ n) _ k (Nat.pow_pos dd_)) (dG lx k) hn))) O (go5 ?_));refine sQ (aE (dJ eS fM O) (l4 _)) O (sQ (dX arT O O oo_ oo_) O (aQ O (kZ tyT O O uu_ (by rw [gX _ hk];exact hc) (.inl eX) ?_)));refine go3 ?_;refine sQ (aE (r9 O O dd_) (congrArg (Value.int .u64) (oJ _ 32))) O (go6 ?_);refine ⟨pp_,_,_,(List.Sublist.refl _),oo_,k+1,⟨?s7,?s9⟩,?mem,rfl,oo_⟩
   case mem=>rw [dY xs k lx,ZL,vK _ hc]
   case s7=>exact congrArg (fun m:Nat=>Value.int .u64 (m:Int)) (by rw [dY xs k lx];exact ZK _ _ _)
   case s9=>exact congrArg (Value.int .i64) (iH oo_)
  replace hc:=cB_ hc
  obtain rfl:k=16:=by omega
  refine go2 ?_;refine sQ (bZ tyT O mm_ (by simp [uw,gX])) O ?_;refine go_ ?_;refine sQ (aE (dJ eS fM O) (l4 _)) O (aQ O (bK tyT O O uu_ (by simp [uw,gX]) O (fS _) (.inl eX) ?_));refine go3 ?_;refine wS O (.inr O) ⟨_,_,_,_,_,_,rfl,mm_,tyT,_,(dH (by simp [uw,gX])),(by simp [uw,gX]),rfl⟩ O ?_
  (rw [zE,f3_ hx lx,Nat.mod_eq_of_lt (US hx lx hn)];rfl)
theorem HR (xs:List Nat) (hx:xs.length=16) (lx:Lim xs) (n:Nat) (hn:n<32) :
    Ret prog 204 [UV xs,.int .i64 (n:Int)] (UV (toL 16 (val xs / 2 ^ n))):=by
 refine bI (N:=33) func204 O O zz_ (fun w0=>?_);refine giI ?_;refine go_ ?_;refine aQ O (iG O O (fun b2 hb2=>aQ O (dP mE (fun b4 hb4=>go2 ?_))));refine aQ O (dP mE (fun b5 hb5=>go6 ?_));refine cF (rg [] 6 26) (fun g nn M=>∃ (k:Nat),(g 8 = .int .i64 (k:Int))∧M=[⟨b5,29,uw (vJ k (val xs / 2 ^ n) 16)⟩,⟨b4,29,uw (List.replicate 16 0)⟩,⟨b2,29,uw xs⟩]∧nn=16 - k∧(k≤16)) (16) ?start ?round
 case start =>
  refine ⟨_,(List.Sublist.refl _),0,?a8,?mem0,rfl,Nat.zero_le _⟩
  case mem0=>rw [wL]
  case a8=>rfl
 case round =>
  rintro nn g M ⟨k,hg8,rfl,hmeas,hk⟩;subst nn;refine gS1 hg8 ?_;clear hg8;refine go4 ?_;refine aS _ O (fun hc=>?_) (fun hc=>?_)
  ·replace hc:=cB_ hc
   have hc:k<16:=by omega
   refine bL_ ?_;refine sQ (aE (gP O O) (congrArg (Value.int .i64) (iH oo_))) O (go2 ?_);refine aS _ O (fun h13=>?_) (fun h13=>?_)
   ·replace h13:=cB_ h13
    refine go2 ?_;refine sQ (aE (gP O O) (congrArg (Value.int .i64) (iH oo_))) O (sQ (dX arT O O oo_ oo_) O (sQ (cZ tyT O mm_ (q8 oo_)) O ?_));refine sQ (aE (dJ fM eS O) (congrArg (Value.int .u64) (i7 (dG lx _)))) O (go4 ?_);refine sQ (aE (iF O) (show _=Value.int .u64 ((dig (val xs) (k+1):Nat):Int) from by first|exact congrArg (fun m:Nat=>Value.int .u64 (m:Int)) (dY xs (k+1) lx)|exact congrArg (fun m:Nat=>Value.int .u64 (m:Int)) (NU hx lx oo_).symm)) O ?_;refine sQ (aE (BS O O dd_) (congrArg (Value.int .u64) (uY (nV _ _)))) O (go_ ?_);refine sQ (dX arT O O oo_ oo_) O (sQ (cZ tyT O mm_ (q8 oo_)) O ?_);refine sQ (aE (dJ fM eS O) (congrArg (Value.int .u64) ((i7 (dG lx _)).trans (by rw [dY xs k lx])))) O (sQ (aE (LZ O O) (congrArg (Value.int .u64) (EL (nV _ _) (nV _ _)))) O (go_ ?_));refine sQ (aE (r9 O O oo_) (congrArg (Value.int .u64) (dr_ hn))) O (sQ (aE (dJ eS fM O) (l4 _)) O (sQ (dX arT O O oo_ oo_) O (aQ O (kZ tyT O O uu_ (by rw [gX _ hk];exact hc) (.inl eX) ?_))));refine go5 ?_;refine ⟨pp_,_,_,(List.Sublist.refl _),oo_,k+1,?s8,?mem,rfl,oo_⟩
    case mem=>rw [FG k oo_,vK _ hc]
    case s8=>exact congrArg (Value.int .i64) (iH oo_)
   replace h13:=cB_ h13
   refine go3 ?_;refine sQ (aE (iF O) (show _=Value.int .u64 ((dig (val xs) (k+1):Nat):Int) from by first|exact congrArg (fun m:Nat=>Value.int .u64 (m:Int)) (dY xs (k+1) lx)|exact congrArg (fun m:Nat=>Value.int .u64 (m:Int)) (NU hx lx oo_).symm)) O ?_;refine sQ (aE (BS O O dd_) (congrArg (Value.int .u64) (uY (nV _ _)))) O (go_ ?_);refine sQ (dX arT O O oo_ oo_) O (sQ (cZ tyT O mm_ (q8 oo_)) O ?_);refine sQ (aE (dJ fM eS O) (congrArg (Value.int .u64) ((i7 (dG lx _)).trans (by rw [dY xs k lx])))) O (sQ (aE (LZ O O) (congrArg (Value.int .u64) (EL (nV _ _) (nV _ _)))) O (go_ ?_));refine sQ (aE (r9 O O oo_) (congrArg (Value.int .u64) (dr_ hn))) O (sQ (aE (dJ eS fM O) (l4 _)) O (sQ (dX arT O O oo_ oo_) O (aQ O (kZ tyT O O uu_ (by rw [gX _ hk];exact hc) (.inl eX) ?_))));refine go5 ?_;refine ⟨pp_,_,_,(List.Sublist.refl _),oo_,k+1,?s8,?mem,rfl,oo_⟩
   case mem=>rw [FG k oo_,vK _ hc]
   case s8=>exact congrArg (Value.int .i64) (iH oo_)
  replace hc:=cB_ hc
  obtain rfl:k=16:=by omega
  refine go2 ?_;refine sQ (bZ tyT O mm_ (by simp [uw,gX])) O ?_;refine aQ O (bK tyT O O uu_ (by simp [uw,gX]) O (fS _) (.inl eX) ?_);refine go2 ?_;refine rtX O ⟨_,_,_,_,_,_,rfl,mm_,tyT,_,(dH (by simp [uw,gX])),(by simp [uw,gX]),rfl⟩ ?_
  (rw [zE];rfl)
theorem xN (xs:List Nat) (hx:xs.length=16) (lx:Lim xs) (d:Nat) (hd:d<4294967296) (h0:0<d) :
    Ret prog 147 [UV xs,U32 d] (.tuple #[UV (toL 16 (val xs / d)),U32 (val xs % d)]):=by
 refine bI (N:=33) func147 O O zz_ (fun w0=>?_);refine giI ?_;refine go_ ?_;refine aQ O (iG O O (fun b2 hb2=>aQ O (dP mE (fun b4 hb4=>oF ?_))));refine cF (rg [] 6 24) (fun g nn M=>∃ (k:Nat),(g 6 = .int .u64 ((val xs / 4294967296 ^ k % d:Nat):Int)∧g 7 = .int .i64 ((k:Int) - 1))∧M=[⟨b4,29,uw (uO k (val xs / d))⟩,⟨b2,29,uw xs⟩]∧nn=k+0∧(k≤16)) (16) ?start ?round
 case start =>
  refine ⟨_,(List.Sublist.refl _),16,⟨?a6,?a7⟩,?mem0,rfl,Nat.le_refl _⟩
  case mem0=>rw [VI]
  case a6=>rw [fN_ hx lx];rfl
  case a7=>rfl
 case round =>
  rintro nn g M ⟨k,⟨hg6,hg7⟩,rfl,hmeas,hk⟩;subst nn;refine gS2 hg6 hg7 ?_;clear hg6 hg7;refine go5 ?_;refine aS _ O (fun hc=>?_) (fun hc=>?_)
  ·replace hc:=cB_ hc
   obtain ⟨m,rfl⟩:∃ m,k=m+1:=⟨k - 1,by omega⟩;have hr:val xs / 4294967296 ^ (m+1) % d<4294967296:=Nat.lt_trans (Nat.mod_lt _ h0) hd;refine go4 ?_;refine sQ (aE (iF O) O) O (sQ (aE (BS O O dd_) (congrArg (Value.int .u64) (uY hr))) O (sQ (aE (iF O) (congrArg (Value.int .i64) (show (((m+1:Nat):Int) - 1)=(m:Int) by omega))) O (sQ (dX arT O O oo_ oo_) O (sQ (cZ tyT O mm_ (q8 oo_)) O ?_))));refine sQ (aE (dJ fM eS O) (congrArg (Value.int .u64) ((i7 (dG lx _)).trans (by rw [dY xs m lx])))) O (sQ (aE (LZ O O) (congrArg (Value.int .u64) (EL hr (nV _ _)))) O (go3 ?_));refine sQ (aE (iF O) (congrArg (Value.int .i64) (show (((m+1:Nat):Int) - 1)=(m:Int) by omega))) O (go2 ?_);refine sQ (aE (dJ fM eS O) (congrArg (Value.int .u64) (i7 hd))) O (sQ (aE (o4 O O oo_) (congrArg (Value.int .u64) (T4 _ _))) O (sQ (aE (dJ eS fM O) (l4 _)) O (sQ (dX arT O O oo_ oo_) O (aQ O (kZ tyT O O uu_ (by rw [kW _ oo_];omega) (.inl eX) ?_)))));refine go4 ?_;refine sQ (aE (dJ fM eS O) (congrArg (Value.int .u64) (i7 hd))) O (sQ (aE (rA O O oo_) (congrArg (Value.int .u64) (zO _ _))) O (go3 ?_));refine sQ (aE (iF O) (congrArg (Value.int .i64) (show (((m+1:Nat):Int) - 1)=(m:Int) by omega))) O (go3 ?_);refine ⟨pp_,_,_,(List.Sublist.refl _),oo_,m,⟨?s6,?s7⟩,?mem,rfl,oo_⟩
   case mem=>rw [R6 m h0,CK oo_]
   case s6=>exact congrArg (fun m:Nat=>Value.int .u64 (m:Int)) (DU m h0).2
   case s7=>exact congrArg (Value.int .i64) (bV (n:=(m:Int) - 1) (by unfold I64;omega))
  replace hc:=cB_ hc
  obtain rfl:k=0:=by omega
  refine go2 ?_;refine sQ (bZ tyT O mm_ (by simp [uw,kW])) O ?_;refine go_ ?_;refine sQ (aE (dJ eS fM O) (l4 _)) O (aQ O (bK tyT O O uu_ (by simp [uw,kW]) (by simp [uw,kW]) (fS _) (.inl eX) ?_));refine go3 ?_;refine wS O (.inr O) ⟨_,_,_,_,_,_,rfl,mm_,tyT,_,(dH (by simp [uw,kW])),(by simp [uw,kW]),rfl⟩ O ?_
  (rw [I5,Nat.pow_zero,Nat.div_one,Nat.mod_eq_of_lt (Nat.lt_trans (Nat.mod_lt _ h0) hd)];rfl)
theorem pH (xs ys:List Nat) (hx:xs.length=16) (hy:ys.length=16) (lx:Lim xs) (ly:Lim ys) (h0:0<val ys) :
    Ret prog 166 [UV xs,UV ys] (.tuple #[UV (toL 16 (val xs / val ys)),UV (toL 16 (val xs % val ys))]):=by
 refine bI (N:=94) func166 O O zz_ (fun w0=>?_);refine giI ?_;refine go_ ?_;refine aQ O (iG O O (fun b2 hb2=>aQ O (iG O O (fun b3 hb3=>aQ O (dP mE (fun b4 hb4=>aQ O (dP mE (fun b5 hb5=>go2 ?_))))))));refine kV (sk (sk (sk (sk s0)))) 6 [] [] (pQ O (bZ tyT O mm_ (by simp [uw,hy])) ?_);refine pQ O (aY aK (lB ys hy) O) (pQ O (bZ tyT O mm_ (by simp [uw,hx])) ?_);refine pQ O (aY aK (lB xs hx) O) (go5 ?_);refine sQ (bZ tyT O mm_ (by simp [uw,hx])) O ?_;refine sQ (bZ tyT O mm_ (by simp [uw,hy])) O ?_;refine sQ (aY aK (lI xs ys hx hy lx ly) O) O (go2 ?_);refine aS _ O (fun ho=>?_) (fun ho=>?_)
 ·replace ho:=cB_ ho
  have hlt:=XN ho;refine go_ ?_;refine gdr (sd (sd (sk (sk s0)))) [0,6,9,13] [2,3] mix (by kernel_rfl) (pQ O (lP mE arT O (.nil _)) (E5 O O (bZ tyT O mm_ (by simp [uw,hx])) ?_));refine dA O O (bK tyT O O uu_ (by simp [uw,List.length_replicate]) (by simp [uw]) (fS _) (.inl eX) ⟨nf,ss_,?_⟩);refine dA O O (bK tyT O O uu_ (by simp [uw,hx]) (by simp [uw]) (fS _) (.inl eX) ⟨nf,ss_,?_⟩);refine go2 ?_;refine wS O (.inr O) ⟨_,_,_,_,_,_,rfl,mm_,tyT,_,(dH (by simp [uw])),(by simp [uw]),rfl⟩ ⟨_,_,_,_,_,_,rfl,mm_,tyT,_,(dH (by simp [uw,hx])),(by simp [uw,hx]),rfl⟩ ?_;exact af_ hx lx hlt
 replace ho:=cB_ ho
 have hle:=SS (Int.not_lt.1 ho);have hsp:=e9_ h0;have hsz:=sO ys;rw [hy] at hsz;refine go6 ?_;refine aS _ O (fun h29=>?_) (fun h29=>?_)
 ·replace h29:=cB_ h29
  have hsz1:szL ys=1:=by omega
  refine go_ ?_;refine sQ (bZ tyT O mm_ (by simp [uw,hx])) O ?_;refine sQ (dX arT O O dd_ dd_) O (sQ (cZ tyT O mm_ (q8 (k:=0) oo_)) O ?_);refine sQ (aY aK (xN xs hx lx _ (dG ly 0) (TV hsz1)) O) O (go3 ?_);refine aQ O (dP mE (fun b8 hb8=>aQ O (bK tyT O O uu_ (by simp [uw,cU]) (by simp [uw]) (fS _) (.inl eX) ?_)));refine go3 ?_;refine sQ (bZ tyT O mm_ (by simp [uw,cU])) O ?_;refine go_ ?_;refine sQ (lP mE arT O (fT_ _)) O (aQ O (bK tyT O O uu_ (by simp [uw,cU]) (by simp [uw]) (fS _) (.inl eX) ?_));refine aQ O (bK tyT O O uu_ (by simp [uw,List.length_replicate]) (by simp [uw]) (fS _) (.inl eX) ?_);refine go2 ?_;refine wS O (.inr O) ⟨_,_,_,_,_,_,rfl,mm_,tyT,_,(dH (by simp [uw,cU])),(by simp [uw,cU]),rfl⟩ ⟨_,_,_,_,_,_,rfl,mm_,tyT,_,(dH (by simp [uw])),(by simp [uw]),rfl⟩ ?_;exact cl_ ly hsz1
 replace h29:=cB_ h29
 have h2:2≤szL ys:=by omega
 have D:DV xs ys (szL ys) (32 - bl (ys.getD (szL ys - 1) 0)):=⟨hx,hy,lx,ly,rfl,h2,rfl,hle⟩;refine go3 ?_;refine sQ (aE (lV O O) (congrArg (Value.int .i64) (qX (b:=1) O oo_ oo_))) O (sQ (dX arT O O oo_ oo_) O (sQ (cZ tyT O mm_ (q8 oo_)) O ?_));refine sQ (aY aK (ZG _ (dG ly _)) O) O (go3 ?_);refine sQ (bZ tyT O mm_ (by simp [uw,hy])) O ?_;refine go_ ?_;refine sQ (aY aK (B8 ys hy ly _ D.s32) O) O (go3 ?_);refine aQ O (dP mE (fun b11 hb11=>aQ O (bK tyT O O uu_ (by simp [uw,cU]) (by simp [uw]) (fS _) (.inl eX) ?_)));refine go3 ?_;refine sQ (bZ tyT O mm_ (by simp [uw,hx])) O ?_;refine go_ ?_;refine sQ (aY aK (B8 xs hx lx _ D.s32) O) O (go3 ?_);refine aQ O (dP mE (fun b13 hb13=>aQ O (bK tyT O O uu_ (by simp [uw,cU]) (by simp [uw]) (fS _) (.inl eX) ?_)));refine go3 ?_;refine aQ O (dP gP_ (fun b15 hb15=>go2 ?_));refine gdr (sd (sk (sk (sk (sk (sk (sk s0))))))) [0,4,9] [2] mix (by kernel_rfl) (pQ O (GL arT O O O dd_ dd_ dd_ dd_) (pQ O (GL arT O O O dd_ dd_ dd_ dd_) ?_));refine dA O O (eS_ e4_ O O mm_ uu_ (fun v hv=>fS _ v (List.mem_of_mem_drop (List.mem_of_mem_take hv))) (by simp [uw,cU]) (by simp [uw]) (by_ (cU _ _)) (.inl eX) ⟨nf,ss_,?_⟩);refine go3 ?_;refine sQ (dX arT O O dd_ dd_) O (aQ O (kZ (k:=16) tyT O O uu_ (by simp [cU]) (.inl eX) ?_));refine go5 ?_;refine sQ (aE (lV O O) (congrArg (Value.int .i64) (UH D.nm (by have:=D.m16;omega)))) O (go3 ?_);refine cF (rg [16,17] 65 23) (fun g nn M=>∃ (k:Nat) (l:List Nat),(g 16 = .int .i64 ((k:Int) - 1))∧M=[⟨b15,225,uw l⟩,⟨b13,29,uw (toL 16 (val xs*2 ^ (32 - bl (ys.getD (szL ys - 1) 0))))⟩,⟨b11,29,uw (toL 16 (val ys*2 ^ (32 - bl (ys.getD (szL ys - 1) 0))))⟩,⟨b5,29,uw (List.replicate 16 0)⟩,⟨b4,29,uw (uO k (val xs / val ys))⟩,⟨b3,29,uw ys⟩,⟨b2,29,uw xs⟩]∧nn=k+0∧(k+szL ys≤17∧QI xs ys (32 - bl (ys.getD (szL ys - 1) 0)) k l)) (szL xs - szL ys+1) ?start ?round
 case start =>
  refine ⟨_,(List.Sublist.refl _),szL xs - szL ys+1,((toL 16 (val xs*2 ^ (32 - bl (ys.getD (szL ys - 1) 0)))++[0]).set 16 (val xs*2 ^ (32 - bl (ys.getD (szL ys - 1) 0)) / 4294967296 ^ 16)),?a16,?mem0,rfl,⟨by have:=D.nm;have:=D.m16;omega,QI.start D⟩⟩
  case mem0=>rw [← DV.qstart D]
  case a16=>exact congrArg (Value.int .i64) oo_
 case round =>
  rintro nn g M ⟨k,l,hg16,rfl,hmeas,⟨hkn,hq⟩⟩;subst nn;refine gS1 hg16 ?_;clear hg16;refine go5 ?_;refine aS _ O (fun hc=>?_) (fun hc=>?_)
  ·replace hc:=cB_ hc
   obtain ⟨m,rfl⟩:∃ m,k=m+1:=⟨k - 1,by omega⟩;refine go4 ?_;refine sQ (bZ tyT O mm_ (by simp [uw,cU])) O ?_;refine go_ ?_;refine sQ (aE (iF O) (congrArg (Value.int .i64) (show (((m+1:Nat):Int) - 1)=(m:Int) by omega))) O (aQ O (co_ aK O (fun w hw=>ED l _ (szL ys) m (hq.qh D oo_) b15 225 w (hw.mem _ m0)) (fun d hd=>go4 ?_)));refine sQ (bZ tyT O mm_ (by simp [uw,cU])) O ?_;refine go_ ?_;refine sQ (aE (iF O) (congrArg (Value.int .i64) (show (((m+1:Nat):Int) - 1)=(m:Int) by omega))) O (go_ ?_);refine aQ O (T6 aK O (fun w hw=>HU l _ (szL ys) m d hq.len hq.lim (cU _ _) (kE _ _) (by rw [D.v16];exact D.vlt) oo_ (hq.small D) hd.1 b15 225 w (hw.mem _ m0)) (fun x=>uu_) (.inl eX) (fun x ht=>?_));refine go_ ?_;refine aS _ O (fun h77=>?_) (fun h77=>?_)
   ·replace h77:=cB_ h77
    refine go2 ?_;refine sQ (aE (lV O O) (congrArg (Value.int .u64) (G7 O (ht.pos oo_) (by have:=hd.1;omega)))) O (go3 ?_);refine sQ (bZ tyT O mm_ (by simp [uw,cU])) O ?_;refine go_ ?_;refine sQ (aE (iF O) (congrArg (Value.int .i64) (show (((m+1:Nat):Int) - 1)=(m:Int) by omega))) O (aQ O (T6 aK O (fun w hw=>HS x.1 _ (szL ys) m ht.len ht.lim (cU _ _) (kE _ _) (by rw [D.v16];exact D.vlt) oo_ ht.small b15 225 w (hw.mem _ m0)) (fun y=>uu_) (.inl eX) (fun y hgv=>?_)));refine go_ ?_;obtain ⟨hz,hdz,_⟩:=hq.took1 D hd ht oo_ hgv;refine go_ ?_;refine sQ (aE (iF O) (congrArg (Value.int .i64) (show (((m+1:Nat):Int) - 1)=(m:Int) by omega))) O (go_ ?_);refine sQ (aE (dJ eS fM O) (l4 _)) O (sQ (dX arT O O oo_ oo_) O (aQ O (kZ tyT O O uu_ (by rw [kW _ oo_];omega) (.inl eX) ?_)));refine go2 ?_;refine sQ (aE (iF O) (congrArg (Value.int .i64) (show (((m+1:Nat):Int) - 1)=(m:Int) by omega))) O (go3 ?_);refine ⟨pp_,_,_,(List.Sublist.refl _),oo_,m,_,?s16,?mem,rfl,⟨by omega,hz⟩⟩
    case mem=>rw [hdz,CK oo_]
    case s16=>exact congrArg (Value.int .i64) (bV (n:=(m:Int) - 1) (by unfold I64;omega))
   replace h77:=cB_ h77
   obtain ⟨hz,hdz⟩:=hq.took0 D hd ht oo_;refine go2 ?_;refine sQ (aE (iF O) (congrArg (Value.int .i64) (show (((m+1:Nat):Int) - 1)=(m:Int) by omega))) O (go_ ?_);refine sQ (aE (dJ eS fM O) (l4 _)) O (sQ (dX arT O O oo_ oo_) O (aQ O (kZ tyT O O uu_ (by rw [kW _ oo_];omega) (.inl eX) ?_)));refine go2 ?_;refine sQ (aE (iF O) (congrArg (Value.int .i64) (show (((m+1:Nat):Int) - 1)=(m:Int) by omega))) O (go3 ?_);refine ⟨pp_,_,_,(List.Sublist.refl _),oo_,m,_,?s16,?mem,rfl,⟨by omega,hz⟩⟩
   case mem=>rw [hdz,CK oo_]
   case s16=>exact congrArg (Value.int .i64) (bV (n:=(m:Int) - 1) (by unfold I64;omega))
  replace hc:=cB_ hc
  obtain rfl:k=0:=by omega
  refine go2 ?_;refine gdr (sk (sk (sk (sd (sd (sk (sk s0))))))) [0,4,8,12,16,20,25,29] [6,7] mix (by kernel_rfl) (pQ O (bZ tyT O mm_ (by rw [fG,kW _ oo_])) ?_);refine pQ O (GL arT O O O dd_ dd_ dd_ dd_) (pQ O (ab_ arT O dd_) (pQ O (fU (vs:=uw (l.take 16)) tyT O mm_ cF_ (by simp [uw,hq.len])) ?_));refine go_ ?_;refine pQ O (aY aK (HR (l.take 16) (by simp [hq.len]) (hq.lim.take 16) _ D.s32) O) ?_;refine dA O O (bK tyT O O uu_ (by rw [fG,kW _ oo_]) (by rw [fG,kW _ oo_]) (fS _) (.inl eX) ⟨nf,ss_,?_⟩);refine dA O O (bK tyT O O uu_ (by simp [uw,cU]) (by simp [uw]) (fS _) (.inl eX) ⟨nf,ss_,?_⟩);refine go2 ?_;refine wS O (.inr O) ⟨_,_,_,_,_,_,rfl,mm_,tyT,_,(dH (by rw [fG,kW _ oo_])),(by rw [fG,kW _ oo_]),rfl⟩ ⟨_,_,_,_,_,_,rfl,mm_,tyT,_,(dH (by simp [uw,cU])),(by simp [uw,cU]),rfl⟩ ?_
  (rw [I5,hq.fin D];rfl)
theorem HP (a:R) (ha:a.Ok) :
   Ret prog 198 [RV a] (.int .i64 (a.dec.bits:Int)):=by
 refine bI (N:=25) func198 O O zz_ (fun w0=>?_);refine giI ?_;refine go_ ?_;refine aQ O (iG O O (fun b1 hb1=>go3 ?_));refine sQ (bX fdT dd_ O) O (sQ (fU (vs:=uw a.w) tyT O mm_ (jD ha.len) ((fG _).trans ha.len)) O ?_);refine sQ (aY aK (lB a.w ha.len) O) O (go4 ?_);refine sQ (bZ tyT O mm_ (cO ha)) O ?_;refine aQ O (hZ n7 kA n6 O dd_ O (u3 ha) (fun b8 hb8=>sQ (dZ aK O (fun w hw=>gA [a] (ok1 ha) b8 31 w (hw.mem _ m0) zz_)) O ?_));refine go2 ?_
 cases hg:[a].all R.good
 ·refine go9 ?_;refine rt1 ?_;exact congrArg (fun n:Nat=>Value.int .i64 (n:Int)) (XH (by simpa using hg))
 refine go4 ?_;refine aS _ O (fun hz=>?_) (fun hz=>?_)
 ·replace hz:=cB_ hz
  refine go4 ?_;refine rt1 ?_;exact congrArg (fun n:Nat=>Value.int .i64 (n:Int)) (U5 ha (by simpa using hg) oo_)
 replace hz:=cB_ hz
 refine go2 ?_
 have hs1:1≤szL a.w:=by omega
 have hs16:szL a.w≤16:=by have:=sO a.w;rw [ha.len] at this;exact this
 refine go_ ?_;refine sQ (aE (lV O O) (congrArg (Value.int .i64) (qX (b:=1) O oo_ oo_))) O (sQ (aE (TZ O O) (congrArg (Value.int .i64) (f6_ O oo_))) O (go_ ?_));refine sQ (aE (lV O O) (congrArg (Value.int .i64) (qX (b:=1) O oo_ oo_))) O (sQ (bX fdT dd_ O) O (sQ (dX arT O O oo_ oo_) O (sQ (cZ tyT O mm_ (lC (r:=a) (k:=szL a.w - 1) (by rw [ha.len];omega))) O ?_)));refine sQ (aY aK (I7 _ (dG ha.lim _)) O) O (sQ (aE (gP O O) (congrArg (Value.int .i64) (lN (by have:=tK (k:=32) (dG ha.lim (szL a.w - 1));omega)))) O (go3 ?_));refine rt1 ?_;exact congrArg (fun n:Nat=>Value.int .i64 (n:Int)) (XJ ha (by simpa using hg) hs1)
theorem xM (a:R) (ha:a.Ok) :
    Ret prog 165 [RV a] (.tuple #[.int .i64 a.dec.small.1,.bool a.dec.small.2]):=by
 refine bI (N:=44) func165 O O zz_ (fun w0=>?_);refine giI ?_;refine go_ ?_;refine aQ O (iG O O (fun b1 hb1=>go5 ?_));refine sQ (bZ tyT O mm_ (cO ha)) O ?_;refine aQ O (hZ n7 kA n6 O dd_ O (u3 ha) (fun b6 hb6=>sQ (dZ aK O (fun w hw=>gA [a] (ok1 ha) b6 31 w (hw.mem _ m0) zz_)) O ?_));refine go2 ?_
 cases hg:[a].all R.good
 ·refine LF ?_;refine rt2 ?_;exact WB (by simpa using hg)
 refine sQ (bZ tyT O mm_ (cO ha)) O ?_;refine sQ (aY aK (HP a ha) O) O (go3 ?_);refine aS _ O (fun hb=>?_) (fun hb=>?_)
 ·replace hb:=cB_ hb
  refine go5 ?_;refine rt2 ?_;exact R7 ha (by simpa using hg) hb
 replace hb:=cB_ hb
 have h64:=dY_ ha (by simpa using hg) hb;refine go2 ?_;refine sQ (bX fdT dd_ O) O (sQ (dX arT O O dd_ dd_) O (sQ (cZ tyT O mm_ (lC (r:=a) (k:=1) (by rw [ha.len];omega))) O ?_));refine sQ (aE (dJ fM eS O) (uC (dG ha.lim _))) O (sQ (aE (BS O O dd_) (congrArg (Value.int .u64) (uY (dG ha.lim _)))) O (sQ (bX fdT dd_ O) O (sQ (dX arT O O dd_ dd_) O (sQ (cZ tyT O mm_ (lC (r:=a) (k:=0) (by rw [ha.len];omega))) O ?_))));refine sQ (aE (dJ fM eS O) (uC (dG ha.lim _))) O (sQ (aE (LZ O O) (congrArg (Value.int .u64) ((OX (dG ha.lim _) (dG ha.lim _)).trans (congrArg (fun m:Nat=>(m:Int)) (AR ha h64))))) O (go5 ?_));refine sQ (bX fdT dd_ O) O (sQ (cZ tyT O mm_ O) O ?_);refine go_ ?_
 cases hn:a.neg
 ·refine go7 ?_;refine sQ (bX fdT dd_ O) O (sQ (cZ tyT O mm_ O) O ?_);refine go_ ?_;rw [hn];refine go6 ?_;refine aS _ O (fun hlt=>?_) (fun hlt=>?_)
  ·replace hlt:=cB_ hlt
   refine go2 ?_;refine sQ (aE (dJ eS zW O) (congrArg (Value.int .i64) (WD oo_))) O (go4 ?_);refine rt2 ?_;exact PQ ha (by simpa using hg) (by rw [hn];rfl) (by rw [hn,vY];omega)
  replace hlt:=cB_ hlt
  refine go6 ?_;refine rt2 ?_;exact C7 ha (by simpa using hg) (by rw [hn,vY];omega)
 refine go5 ?_;refine aS _ O (fun hle=>?_) (fun hle=>?_)
 ·replace hle:=cB_ hle
  refine go3 ?_;refine sQ (aE (dJ eS zW O) (congrArg (Value.int .i64) (WC oo_))) O (go4 ?_);refine rt2 ?_;exact PQ ha (by simpa using hg) (by rw [hn];rfl) (by rw [hn,yW];omega)
 replace hle:=cB_ hle
 refine go_ ?_;refine sQ (bX fdT dd_ O) O (sQ (cZ tyT O mm_ O) O ?_);refine go_ ?_;rw [hn];refine bL_ ?_;refine rt2 ?_;exact C7 ha (by simpa using hg) (by rw [hn,yW];omega)
theorem u1 (a b:R) (ha:a.Ok) (hb:b.Ok) :
    Ret prog 114 [RV a,RV b] (.tuple #[RV (Z.quo a.dec b.dec).enc,RV (Z.rem a.dec b.dec).enc]):=by
 refine bI (N:=108) func114 O O zz_ (fun w0=>?_);refine giI ?_;refine go_ ?_;refine aQ O (iG O O (fun b2 hb2=>aQ O (iG O O (fun b3 hb3=>aQ O (dP kA (fun b4 hb4=>aQ O (dP kA (fun b5 hb5=>go3 ?_))))))));refine sQ (bZ tyT O mm_ (cO ha)) O ?_;refine sQ (bZ tyT O mm_ (cO hb)) O ?_;refine aQ O (hZ n7 kA n6 O dd_ O (KY ha hb) (fun b17 hb17=>sQ (dZ aK O (fun w hw=>gA [a,b] (ok2 ha hb) b17 31 w (hw.mem _ m0) zz_)) O ?_));refine go2 ?_
 cases hg:[a,b].all R.good
 ·refine go7 ?_;refine sQ (aY aK gR O) O (sQ (aY aK gR O) O (aQ O (bK tyT O O uu_ (aI _) O (bJ _) (.inl eX) ?_)));refine aQ O (bK tyT O O uu_ (aI _) O (bJ _) (.inl eX) ?_);refine go2 ?_;refine wS O (.inr O) ⟨_,_,_,_,_,_,rfl,mm_,tyT,_,(dH (aI _)),(aI _),rfl⟩ ⟨_,_,_,_,_,_,rfl,mm_,tyT,_,(dH (aI _)),(aI _),rfl⟩ ?_;exact ck_ (BM hg)
 have hg:=all2.1 hg;refine sQ (bZ tyT O mm_ (cO hb)) O ?_;refine sQ (aY aK (fD b hb) O) O (go3 ?_);refine aS _ O (fun hs0=>?_) (fun hs0=>?_)
 ·replace hs0:=cB_ hs0
  refine go_ ?_;refine sQ (aY aK gR O) O (sQ (aY aK gR O) O (aQ O (bK tyT O O uu_ (aI _) O (bJ _) (.inl eX) ?_)));refine aQ O (bK tyT O O uu_ (aI _) O (bJ _) (.inl eX) ?_);refine go2 ?_;refine wS O (.inr O) ⟨_,_,_,_,_,_,rfl,mm_,tyT,_,(dH (aI _)),(aI _),rfl⟩ ⟨_,_,_,_,_,_,rfl,mm_,tyT,_,(dH (aI _)),(aI _),rfl⟩ ?_;exact ah_ ha hb hg.1 hg.2 hs0
 replace hs0:=cB_ hs0
 have hs0:b.dec.sign≠0:=hs0;have hp:=EC hb hg.2 hs0;refine go_ ?_;refine kG (rg [6,7,8,9,10,11] 27 44) (fun g M=>(True)∧M=[⟨b5,31,zR⟩,⟨b4,31,zR⟩,⟨b3,31,b.cells⟩,⟨b2,31,a.cells⟩]∧(True)) (fun K6 J6=>?_) ?_
 ·refine go_ ?_;refine sQ (bZ tyT O mm_ (cO ha)) O ?_;refine sQ (aY aK (xM a ha) O) O (go9 ?_)
  cases hsa:a.dec.small.2
  ·refine go6 ?_;refine J6 _ _ pp_ ⟨_,(List.Sublist.cons _ (List.Sublist.refl _)),trivial,?mem,trivial⟩
   case mem=>rfl
  refine go4 ?_;refine aS _ O (fun hma=>?_) (fun hma=>?_)
  ·replace hma:=cB_ hma
   have ea:=G3 hsa;refine go_ ?_;refine sQ (bZ tyT O mm_ (cO hb)) O ?_;refine sQ (aY aK (xM b hb) O) O (go9 ?_)
   cases hsb:b.dec.small.2
   ·refine go6 ?_;refine J6 _ _ pp_ ⟨_,(List.Sublist.cons _ (List.Sublist.refl _)),trivial,?mem,trivial⟩
    case mem=>rfl
   refine go4 ?_;refine aS _ O (fun hmb=>?_) (fun hmb=>?_)
   ·replace hmb:=cB_ hmb
    have eb:=G3 hsb;have hy0:=MK eb.1 hs0;have hq64:I64 (a.dec.small.1.tdiv b.dec.small.1):=ae_ ea.2 hma;have hr64:=eW_ (x:=a.dec.small.1) hy0 eb.2;refine go_ ?_;refine kV (sk (sk (sk (sk (sk s0))))) 8 [] [] (go2 ?_);refine pQ O (aE (o4 O O hy0) (congrArg (Value.int .i64) (bV (ae_ ea.2 hma)))) (go2 ?_);refine pQ O (rA O O hy0) (go8 ?_)
    cases hr0:(a.dec.small.1.tmod b.dec.small.1 != 0)
    ·refine LF ?_;refine sQ (aY aK (dV _ (by first|exact hI1|exact hq64)) O) O ?_;refine go_ ?_;refine sQ (aY aK (dV _ (by first|exact hI2|exact hr64)) O) O ?_;refine aQ O (bK tyT O O uu_ (aI _) O (bJ _) (.inl eX) ?_);refine aQ O (bK tyT O O uu_ (aI _) O (bJ _) (.inl eX) ?_);refine go2 ?_;refine wS O (.inr O) ⟨_,_,_,_,_,_,rfl,mm_,tyT,_,(dH (aI _)),(aI _),rfl⟩ ⟨_,_,_,_,_,_,rfl,mm_,tyT,_,(dH (aI _)),(aI _),rfl⟩ ?_;exact C6 ea.1 eb.1 hs0 (S7 hy0 (.inl (by simpa using hr0)))
    refine go4 ?_;refine sQ (CX QV O O) O (go2 ?_);refine aS _ O (fun hsg=>?_) (fun hsg=>?_)
    ·replace hsg:=cB_ hsg
     have hI1:I64 (a.dec.small.1.tdiv b.dec.small.1 - 1):=eQ_ ea.2 hma;have hI2:=eX_ hy0 eb.2 (bne_iff_ne.2 hsg);refine go2 ?_;refine sQ (aE (lV O O) (congrArg (Value.int .i64) (bV hI1))) O (go2 ?_);refine sQ (aE (gP O O) (congrArg (Value.int .i64) (bV hI2))) O (go5 ?_);refine sQ (aY aK (dV _ (by first|exact hI1|exact hq64)) O) O ?_;refine go_ ?_;refine sQ (aY aK (dV _ (by first|exact hI2|exact hr64)) O) O ?_;refine aQ O (bK tyT O O uu_ (aI _) O (bJ _) (.inl eX) ?_);refine aQ O (bK tyT O O uu_ (aI _) O (bJ _) (.inl eX) ?_);refine go2 ?_;refine wS O (.inr O) ⟨_,_,_,_,_,_,rfl,mm_,tyT,_,(dH (aI _)),(aI _),rfl⟩ ⟨_,_,_,_,_,_,rfl,mm_,tyT,_,(dH (aI _)),(aI _),rfl⟩ ?_;exact C6 ea.1 eb.1 hs0 (eb_ hy0 (by simpa using hr0) (bne_iff_ne.2 hsg))
    replace hsg:=cB_ hsg
    refine go3 ?_;refine sQ (aY aK (dV _ (by first|exact hI1|exact hq64)) O) O ?_;refine go_ ?_;refine sQ (aY aK (dV _ (by first|exact hI2|exact hr64)) O) O ?_;refine aQ O (bK tyT O O uu_ (aI _) O (bJ _) (.inl eX) ?_);refine aQ O (bK tyT O O uu_ (aI _) O (bJ _) (.inl eX) ?_);refine go2 ?_;refine wS O (.inr O) ⟨_,_,_,_,_,_,rfl,mm_,tyT,_,(dH (aI _)),(aI _),rfl⟩ ⟨_,_,_,_,_,_,rfl,mm_,tyT,_,(dH (aI _)),(aI _),rfl⟩ ?_;exact C6 ea.1 eb.1 hs0 (S7 hy0 (.inr (by simpa using hsg)))
   replace hmb:=cB_ hmb
   refine go_ ?_;refine J6 _ _ pp_ ⟨_,(List.Sublist.cons _ (List.Sublist.refl _)),trivial,?mem,trivial⟩
   case mem=>rfl
  replace hma:=cB_ hma
  refine go_ ?_;refine J6 _ _ pp_ ⟨_,(List.Sublist.cons _ (List.Sublist.refl _)),trivial,?mem,trivial⟩
  case mem=>rfl
 rintro g M ⟨-,rfl,-⟩;refine gS0 ?_;refine go_ ?_;refine sQ (bX fdT dd_ O) O (sQ (fU (vs:=uw a.w) tyT O mm_ (jD ha.len) ((fG _).trans ha.len)) O ?_);refine sQ (bX fdT dd_ O) O (sQ (fU (vs:=uw b.w) tyT O mm_ (jD hb.len) ((fG _).trans hb.len)) O ?_);refine sQ (aY aK (pH a.w b.w ha.len hb.len ha.lim hb.lim hp) O) O (go3 ?_);refine aQ O (dP mE (fun b12 hb12=>aQ O (dP mE (fun b13 hb13=>aQ O (bK tyT O O uu_ (by simp [uw,cU]) (by simp [uw]) (fS _) (.inl eX) ?_)))));refine aQ O (bK tyT O O uu_ (by simp [uw,cU]) (by simp [uw]) (fS _) (.inl eX) ?_);refine go2 ?_;refine sQ (bX fdT dd_ O) O (sQ (cZ tyT O mm_ O) O ?_);refine sQ (bX fdT dd_ O) O (sQ (cZ tyT O mm_ O) O ?_);refine sQ (CX QV O O) O (sQ (bZ tyT O mm_ (by simp [uw,cU])) O ?_);refine sQ (aE (aY aK (eY (a.neg != b.neg) _ (cU _ _) (kE _ _)) O) (congrArg RV (mN _ (ag_ ha)))) O (aQ O (dP kA (fun b14 hb14=>aQ O (bK tyT O O uu_ (aI _) O (bJ _) (.inl eX) ?_))));refine go_ ?_;refine kG (rg [] 86 17) (fun g M=>∃ (z:Z) (l:List Nat),(True)∧M=[⟨b14,31,z.enc.cells⟩,⟨b13,29,uw l⟩,⟨b12,29,uw (toL 16 (val a.w / val b.w))⟩,⟨b5,31,zR⟩,⟨b4,31,zR⟩,⟨b3,31,b.cells⟩,⟨b2,31,a.cells⟩]∧(l.length=16∧Lim l∧z=Z.quo a.dec b.dec∧R.mk false (b.neg && !(val l==0)) l=(Z.rem a.dec b.dec).enc)) (fun K19 J19=>?_) ?_
 ·refine go_ ?_;refine sQ (bZ tyT O mm_ (by simp [uw,cU])) O ?_;refine sQ (lP mE arT O (.nil _)) O ?_;refine sQ (GK (r:=(val a.w % val b.w==0)) O O (jY 8 dd_ DH DQ (kC (cU _ _)) (kC zz_) (al_ ha))) O ?_;refine go_ ?_
  cases hr1:(val a.w % val b.w==0)
  ·refine sQ (bX fdT dd_ O) O (sQ (cZ tyT O mm_ O) O ?_);refine sQ (bX fdT dd_ O) O (sQ (cZ tyT O mm_ O) O ?_);refine sQ (CX QV O O) O (go2 ?_);refine aS _ O (fun hne=>?_) (fun hne=>?_)
   ·replace hne:=cB_ hne
    refine gdr (sd (sd (sk (sk (sk (sk (sk s0))))))) [0,4,8,12,16,20,24,29,33] [7,8] mix (by kernel_rfl) (pQ O (bZ tyT O mm_ (aI _)) ?_);refine pQ O (aY aK (dV 1 (by unfold I64;decide)) O) (pQ O (aY aK (o8 (Z.of (sgn (a.neg != b.neg) (val a.w / val b.w))).enc (Z.of 1).enc (Z.enc_ok _) (Z.enc_ok _)) O) (pQ O (bX fdT dd_ O) (pQ O (fU (vs:=uw b.w) tyT O mm_ (jD hb.len) ((fG _).trans hb.len)) ?_)));refine pQ O (bZ tyT O mm_ (by simp [uw,cU])) ?_;refine pQ O (aY aK (sU b.w _ hb.len (cU _ _) hb.lim (kE _ _) (eY_ ha hp)) O) ?_;refine dA O O (bK tyT O O uu_ (aI _) (aI _) (bJ _) (.inl eX) ⟨nf,ss_,?_⟩);refine dA O O (bK tyT O O uu_ (by simp [uw,cU]) (by simp [uw,cU]) (fS _) (.inl eX) ⟨nf,ss_,?_⟩);refine go_ ?_;refine J19 _ _ pp_ ⟨_,(List.Sublist.refl _),_,_,trivial,?mem,bB_ ha hb hg.1 hg.2 hp (by simpa using hr1) hne⟩
    case mem=>rfl
   replace hne:=cB_ hne
   refine go_ ?_;refine J19 _ _ pp_ ⟨_,(List.Sublist.refl _),_,_,trivial,?mem,NW ha hb hg.1 hg.2 hp (.inr (by simpa using hne))⟩
   case mem=>rfl
  refine go9 ?_;refine J19 _ _ pp_ ⟨_,(List.Sublist.refl _),_,_,trivial,?mem,NW ha hb hg.1 hg.2 hp (.inl (by simpa using hr1))⟩
  case mem=>rfl
 rintro g M ⟨z,l,-,rfl,⟨hl16,hlim,hzq,hzr⟩⟩;refine gS0 ?_;refine go_ ?_;refine gdr (sk (sk (sk (sd (sd (sk (sk s0))))))) [0,4,8,12,16,21,25] [5,6] mix (by kernel_rfl) (pQ O (bZ tyT O mm_ (aI _)) ?_);refine pQ O (bX fdT dd_ O) (pQ O (cZ tyT O mm_ O) ?_);refine pQ O (bZ tyT O mm_ (by rw [fG,hl16])) ?_;refine pQ O (aY aK (eY b.neg l hl16 hlim) O) ?_;refine dA O O (bK tyT O O uu_ (aI _) O (bJ _) (.inl eX) ⟨nf,ss_,?_⟩);refine dA O O (bK tyT O O uu_ (jM hl16) O (bJ _) (.inl eX) ⟨nf,ss_,?_⟩);refine go2 ?_;refine wS O (.inr O) ⟨_,_,_,_,_,_,rfl,mm_,tyT,_,(dH (aI _)),(aI _),rfl⟩ ⟨_,_,_,_,_,_,rfl,mm_,tyT,_,(dH (jM hl16)),(jM hl16),rfl⟩ ?_
 (subst hzq;exact congrArg (fun r:R=>Value.tuple #[RV (Z.quo a.dec b.dec).enc,RV r]) hzr)
theorem iM (a b:R) (ha:a.Ok) (hb:b.Ok) :
  Ret prog 59 [RV a,RV b] (RV (Z.quo a.dec b.dec).enc):=by
 refine bI (N:=14) func59 O O zz_ (fun w0=>?_);refine giI ?_;refine go_ ?_;refine aQ O (iG O O (fun b2 hb2=>aQ O (iG O O (fun b3 hb3=>aQ O (dP kA (fun b4 hb4=>go2 ?_))))));refine sQ (bZ tyT O mm_ (cO ha)) O ?_;refine sQ (bZ tyT O mm_ (cO hb)) O ?_;refine sQ (aY aK (u1 a b ha hb) O) O (go3 ?_);refine aQ O (dP kA (fun b5 hb5=>aQ O (dP kA (fun b6 hb6=>aQ O (bK tyT O O uu_ (aI _) O (bJ _) (.inl eX) ?_)))));refine aQ O (bK tyT O O uu_ (aI _) O (bJ _) (.inl eX) ?_);refine go2 ?_;refine sQ (bZ tyT O mm_ (aI _)) O ?_;refine aQ O (bK tyT O O uu_ (aI _) O (bJ _) (.inl eX) ?_);refine go2 ?_;refine rtX O ⟨_,_,_,_,_,_,rfl,mm_,tyT,_,(dH (aI _)),(aI _),rfl⟩ ?_;exact rfl
theorem z7 (a b:R) (ha:a.Ok) (hb:b.Ok) :
  Ret prog 118 [RV a,RV b] (RV (Z.rem a.dec b.dec).enc):=by
 refine bI (N:=14) func118 O O zz_ (fun w0=>?_);refine giI ?_;refine go_ ?_;refine aQ O (iG O O (fun b2 hb2=>aQ O (iG O O (fun b3 hb3=>aQ O (dP kA (fun b4 hb4=>go2 ?_))))));refine sQ (bZ tyT O mm_ (cO ha)) O ?_;refine sQ (bZ tyT O mm_ (cO hb)) O ?_;refine sQ (aY aK (u1 a b ha hb) O) O (go3 ?_);refine aQ O (dP kA (fun b5 hb5=>aQ O (dP kA (fun b6 hb6=>aQ O (bK tyT O O uu_ (aI _) O (bJ _) (.inl eX) ?_)))));refine aQ O (bK tyT O O uu_ (aI _) O (bJ _) (.inl eX) ?_);refine go2 ?_;refine sQ (bZ tyT O mm_ (aI _)) O ?_;refine aQ O (bK tyT O O uu_ (aI _) O (bJ _) (.inl eX) ?_);refine go2 ?_;refine rtX O ⟨_,_,_,_,_,_,rfl,mm_,tyT,_,(dH (aI _)),(aI _),rfl⟩ ?_;exact rfl
theorem IB (a b:R) (ha:a.Ok) (hb:b.Ok) :
    Ret prog 117 [RV a,RV b] (.int .i64 (Z.cmp a.dec b.dec)):=by
 refine bI (N:=47) func117 O O zz_ (fun w0=>?_);refine giI ?_;refine go_ ?_;refine aQ O (iG O O (fun b2 hb2=>aQ O (iG O O (fun b3 hb3=>go3 ?_))));refine gDk (sk (sk s0)) (.quiet 0 [1,2,5,6,7] (.quiet 3 [4,5,6,7] (.both 1 (.quiet 2 [5,6,7] (.only 4 (.quiet 5 [6,7] (.quiet 6 [7] (.quiet 7 [] (.fin)))))) 4 (.only 1 (.quiet 2 [5,6,7] (.quiet 5 [6,7] (.quiet 6 [7] (.quiet 7 [] (.fin))))))))) (rg [] 0 8) mix (by kernel_rfl) (by kernel_rfl) (pQ O (bZ tyT O mm_ (cO ha)) ?_);refine pQ O (bZ tyT O mm_ (cO hb)) ?_;refine vG ?_ ?_
 ·refine dA O O (hZ n7 kA n6 O dd_ O (u3 ha) (fun b8 hb8=>⟨(fun _=>by first|exact sd s0|exact s0),ss_,?_⟩));refine pQ O (dZ aK O (fun w hw=>gA [a] (ok1 ha) b8 31 w (hw.mem ⟨b8,31,_⟩ (by first|exact m0|exact m1)) zz_)) ?_;refine dA O O (hZ n7 kA n6 O dd_ O (u3 hb) (fun b11 hb11=>⟨(fun _=>by first|exact sd s0|exact s0),ss_,?_⟩));refine pQ O (dZ aK O (fun w hw=>gA [b] (ok1 hb) b11 31 w (hw.mem ⟨b11,31,_⟩ (by first|exact m0|exact m1)) zz_)) ?_;refine go9 ?_
  cases hga:[a].all R.good
  ·refine go5 ?_;refine aS _ O (fun hgb=>?_) (fun hgb=>?_)
   ·replace hgb:=cB_ hgb
    refine go4 ?_;refine rt1 ?_;exact congrArg _ (XP (by simpa using hga) (by simpa using hgb))
   replace hgb:=cB_ hgb
   refine oF ?_;refine rt1 ?_;exact congrArg _ (XQ (by simpa using hga) hb (by simpa using hgb))
  refine ef_ ?_;refine aS _ O (fun hgb=>?_) (fun hgb=>?_)
  ·replace hgb:=cB_ hgb
   refine go4 ?_;refine rt1 ?_;exact congrArg _ (XR ha (by simpa using hga) (by simpa using hgb))
  replace hgb:=cB_ hgb
  refine go_ ?_;refine sQ (bX fdT dd_ O) O (sQ (cZ tyT O mm_ O) O ?_);refine sQ (bX fdT dd_ O) O (sQ (cZ tyT O mm_ O) O ?_);refine sQ (CX QV O O) O (go2 ?_);refine aS _ O (fun hn=>?_) (fun hn=>?_)
  ·replace hn:=cB_ hn
   refine go2 ?_;refine sQ (bX fdT dd_ O) O (sQ (cZ tyT O mm_ O) O ?_);refine go_ ?_;refine aS _ O (fun hs=>?_) (fun hs=>?_)
   ·replace hs:=cB_ hs
    refine go4 ?_;refine rt1 ?_;exact congrArg _ (XT ha hb (by simpa using hga) (by simpa using hgb) hn hs)
   replace hs:=cB_ hs
   refine go5 ?_;refine rt1 ?_;exact congrArg _ (XS ha hb (by simpa using hga) (by simpa using hgb) hn (by simpa using hs))
  replace hn:=cB_ hn
  refine go_ ?_;refine sQ (bX fdT dd_ O) O (sQ (cZ tyT O mm_ O) O ?_);refine go2 ?_;refine aS _ O (fun hs=>?_) (fun hs=>?_)
  ·replace hs:=cB_ hs
   refine go_ ?_;refine sQ (bX fdT dd_ O) O (sQ (fU (vs:=uw b.w) tyT O mm_ (jD hb.len) ((fG _).trans hb.len)) O ?_);refine sQ (bX fdT dd_ O) O (sQ (fU (vs:=uw a.w) tyT O mm_ (jD ha.len) ((fG _).trans ha.len)) O ?_);refine sQ (aY aK (lI b.w a.w hb.len ha.len hb.lim ha.lim) O) O (go3 ?_);refine rt1 ?_;exact congrArg _ (XU ha hb (by simpa using hga) (by simpa using hgb) hn hs)
  replace hs:=cB_ hs
  refine go2 ?_;refine sQ (bX fdT dd_ O) O (sQ (fU (vs:=uw a.w) tyT O mm_ (jD ha.len) ((fG _).trans ha.len)) O ?_);refine sQ (bX fdT dd_ O) O (sQ (fU (vs:=uw b.w) tyT O mm_ (jD hb.len) ((fG _).trans hb.len)) O ?_);refine sQ (aY aK (lI a.w b.w ha.len hb.len ha.lim hb.lim) O) O (go3 ?_);refine rt1 ?_;exact congrArg _ (XV ha hb (by simpa using hga) (by simpa using hgb) hn (by simpa using hs))
 refine dA O O (hZ n7 kA n6 O dd_ O (u3 hb) (fun b11 hb11=>⟨(fun _=>by first|exact sd s0|exact s0),ss_,?_⟩));refine dA O O (hZ n7 kA n6 O dd_ O (u3 ha) (fun b8 hb8=>⟨(fun _=>by first|exact sd s0|exact s0),ss_,?_⟩));refine pQ O (dZ aK O (fun w hw=>gA [a] (ok1 ha) b8 31 w (hw.mem ⟨b8,31,_⟩ (by first|exact m0|exact m1)) zz_)) ?_;refine pQ O (dZ aK O (fun w hw=>gA [b] (ok1 hb) b11 31 w (hw.mem ⟨b11,31,_⟩ (by first|exact m0|exact m1)) zz_)) ?_;refine go9 ?_
 cases hga:[a].all R.good
 ·refine go5 ?_;refine aS _ O (fun hgb=>?_) (fun hgb=>?_)
  ·replace hgb:=cB_ hgb
   refine go4 ?_;refine rt1 ?_;exact congrArg _ (XP (by simpa using hga) (by simpa using hgb))
  replace hgb:=cB_ hgb
  refine oF ?_;refine rt1 ?_;exact congrArg _ (XQ (by simpa using hga) hb (by simpa using hgb))
 refine ef_ ?_;refine aS _ O (fun hgb=>?_) (fun hgb=>?_)
 ·replace hgb:=cB_ hgb
  refine go4 ?_;refine rt1 ?_;exact congrArg _ (XR ha (by simpa using hga) (by simpa using hgb))
 replace hgb:=cB_ hgb
 refine go_ ?_;refine sQ (bX fdT dd_ O) O (sQ (cZ tyT O mm_ O) O ?_);refine sQ (bX fdT dd_ O) O (sQ (cZ tyT O mm_ O) O ?_);refine sQ (CX QV O O) O (go2 ?_);refine aS _ O (fun hn=>?_) (fun hn=>?_)
 ·replace hn:=cB_ hn
  refine go2 ?_;refine sQ (bX fdT dd_ O) O (sQ (cZ tyT O mm_ O) O ?_);refine go_ ?_;refine aS _ O (fun hs=>?_) (fun hs=>?_)
  ·replace hs:=cB_ hs
   refine go4 ?_;refine rt1 ?_;exact congrArg _ (XT ha hb (by simpa using hga) (by simpa using hgb) hn hs)
  replace hs:=cB_ hs
  refine go5 ?_;refine rt1 ?_;exact congrArg _ (XS ha hb (by simpa using hga) (by simpa using hgb) hn (by simpa using hs))
 replace hn:=cB_ hn
 refine go_ ?_;refine sQ (bX fdT dd_ O) O (sQ (cZ tyT O mm_ O) O ?_);refine go2 ?_;refine aS _ O (fun hs=>?_) (fun hs=>?_)
 ·replace hs:=cB_ hs
  refine go_ ?_;refine sQ (bX fdT dd_ O) O (sQ (fU (vs:=uw b.w) tyT O mm_ (jD hb.len) ((fG _).trans hb.len)) O ?_);refine sQ (bX fdT dd_ O) O (sQ (fU (vs:=uw a.w) tyT O mm_ (jD ha.len) ((fG _).trans ha.len)) O ?_);refine sQ (aY aK (lI b.w a.w hb.len ha.len hb.lim ha.lim) O) O (go3 ?_);refine rt1 ?_;exact congrArg _ (XU ha hb (by simpa using hga) (by simpa using hgb) hn hs)
 replace hs:=cB_ hs
 refine go2 ?_;refine sQ (bX fdT dd_ O) O (sQ (fU (vs:=uw a.w) tyT O mm_ (jD ha.len) ((fG _).trans ha.len)) O ?_);refine sQ (bX fdT dd_ O) O (sQ (fU (vs:=uw b.w) tyT O mm_ (jD hb.len) ((fG _).trans hb.len)) O ?_);refine sQ (aY aK (lI a.w b.w ha.len hb.len ha.lim hb.lim) O) O (go3 ?_);refine rt1 ?_;exact congrArg _ (XV ha hb (by simpa using hga) (by simpa using hgb) hn (by simpa using hs))
theorem HQ (n:Nat) (IH:∀ (a b:R),a.Ok→b.Ok→val b.w<n→Ret prog 116 [RV a,RV b] (RV (Z.gcd a.dec b.dec).enc)) (a b:R) (ha:a.Ok) (hb:b.Ok) (hn:val b.w=n) :
    Ret prog 116 [RV a,RV b] (RV (Z.gcd a.dec b.dec).enc):=by
 refine bI (N:=80) func116 O O zz_ (fun w0=>?_);refine giI ?_;refine go_ ?_;refine aQ O (iG O O (fun b2 hb2=>aQ O (iG O O (fun b3 hb3=>aQ O (dP kA (fun b4 hb4=>go3 ?_))))));refine sQ (bZ tyT O mm_ (cO ha)) O ?_;refine sQ (bZ tyT O mm_ (cO hb)) O ?_;refine aQ O (hZ n7 kA n6 O dd_ O (KY ha hb) (fun b13 hb13=>sQ (dZ aK O (fun w hw=>gA [a,b] (ok2 ha hb) b13 31 w (hw.mem _ m0) zz_)) O ?_));refine go2 ?_;refine aS _ O (fun hg=>?_) (fun hg=>?_)
 ·replace hg:=cB_ hg
  refine go_ ?_;refine sQ (aY aK gR O) O (aQ O (bK tyT O O uu_ (aI _) O (bJ _) (.inl eX) ?_));refine go2 ?_;refine rtX O ⟨_,_,_,_,_,_,rfl,mm_,tyT,_,(dH (aI _)),(aI _),rfl⟩ ?_;exact congrArg RV (bI_ hg)
 replace hg:=cB_ hg
 have hg:=all2.1 hg;refine go_ ?_;refine kG (rg [5,6] 17 43) (fun g M=>(True)∧M=[⟨b4,31,zR⟩,⟨b3,31,b.cells⟩,⟨b2,31,a.cells⟩]∧(True)) (fun K5 J5=>?_) ?_
 ·refine go_ ?_;refine sQ (bX fdT dd_ O) O (sQ (fU (vs:=uw a.w) tyT O mm_ (jD ha.len) ((fG _).trans ha.len)) O ?_);refine sQ (aY aK (lB a.w ha.len) O) O (go2 ?_)
  cases hsz:decide ((szL a.w:Int)≤2)
  ·refine go8 ?_;refine J5 _ _ pp_ ⟨_,(List.Sublist.cons _ (List.Sublist.refl _)),trivial,?mem,trivial⟩
   case mem=>rfl
  refine sQ (bX fdT dd_ O) O (sQ (fU (vs:=uw b.w) tyT O mm_ (jD hb.len) ((fG _).trans hb.len)) O ?_);refine sQ (aY aK (lB b.w hb.len) O) O (go3 ?_);refine aS _ O (fun hsz2=>?_) (fun hsz2=>?_)
  ·replace hsz2:=cB_ hsz2
   have hA64:=sz2 ha (by have:=of_decide_eq_true hsz;omega);have hB64:=sz2 hb oo_;refine go_ ?_;refine gdr (sk (sk (sk (sk s0)))) [0,4,8,12,16,20,24,28,32,36,40,44,48,52,56,60,64,68,72,76,80,84] [] mix (by kernel_rfl) (pQ O (bX fdT dd_ O) (pQ O (dX arT O O dd_ dd_) (pQ O (cZ tyT O mm_ (lC (r:=a) (k:=1) (by rw [ha.len];omega))) ?_)));refine pQ O (aE (dJ fM eS O) (uC (dG ha.lim _))) (pQ O (aE (BS O O dd_) (congrArg (Value.int .u64) (uY (dG ha.lim _)))) (pQ O (bX fdT dd_ O) (pQ O (dX arT O O dd_ dd_) (pQ O (cZ tyT O mm_ (lC (r:=a) (k:=0) (by rw [ha.len];omega))) ?_))));refine pQ O (aE (dJ fM eS O) (uC (dG ha.lim _))) (pQ O (aE (LZ O O) (congrArg (Value.int .u64) ((OX (dG ha.lim _) (dG ha.lim _)).trans (congrArg (fun m:Nat=>(m:Int)) (AR ha hA64))))) (pQ O (bX fdT dd_ O) (pQ O (dX arT O O dd_ dd_) (pQ O (cZ tyT O mm_ (lC (r:=b) (k:=1) (by rw [hb.len];omega))) ?_))));refine pQ O (aE (dJ fM eS O) (uC (dG hb.lim _))) (pQ O (aE (BS O O dd_) (congrArg (Value.int .u64) (uY (dG hb.lim _)))) (pQ O (bX fdT dd_ O) (pQ O (dX arT O O dd_ dd_) (pQ O (cZ tyT O mm_ (lC (r:=b) (k:=0) (by rw [hb.len];omega))) ?_))));refine pQ O (aE (dJ fM eS O) (uC (dG hb.lim _))) (pQ O (aE (LZ O O) (congrArg (Value.int .u64) ((OX (dG hb.lim _) (dG hb.lim _)).trans (congrArg (fun m:Nat=>(m:Int)) (AR hb hB64))))) (go5 ?_));refine cF (rg [5,6] 47 6) (fun g nn M=>∃ (x y:Nat),(g 5 = .int .u64 (x:Int)∧g 6 = .int .u64 (y:Int))∧M=[⟨b4,31,zR⟩,⟨b3,31,b.cells⟩,⟨b2,31,a.cells⟩]∧nn=y∧(x<18446744073709551616∧y<18446744073709551616∧Nat.gcd x y=Nat.gcd (val a.w) (val b.w))) (val b.w) ?start ?round
   case start =>
    refine ⟨_,(List.Sublist.cons _ (List.Sublist.refl _)),_,_,⟨?a5,?a6⟩,?mem0,rfl,⟨hA64,hB64,rfl⟩⟩
    case mem0=>rfl
    case a5=>rfl
    case a6=>rfl
   case round =>
    rintro nn g M ⟨x,y,⟨hg5,hg6⟩,rfl,hmeas,⟨hx64,hy64,hgc⟩⟩;subst nn;refine gS2 hg5 hg6 ?_;clear hg5 hg6;refine go5 ?_;refine aS _ O (fun hy0=>?_) (fun hy0=>?_)
    ·replace hy0:=cB_ hy0
     refine go2 ?_;refine kV (sk (sk (sk s0))) 6 [] [] (go3 ?_);refine pQ O (aE (rA O O oo_) (congrArg (Value.int .u64) (zO _ _))) (go3 ?_);refine ⟨pp_,_,_,(List.Sublist.refl _),(Nat.mod_lt _ oo_),y,x % y,⟨?s5,?s6⟩,?mem,rfl,⟨hy64,Nat.lt_of_le_of_lt (Nat.mod_le _ _) hx64,by rw [Nat.gcd_comm,← Nat.gcd_rec,Nat.gcd_comm];exact hgc⟩⟩
     case mem=>rfl
     case s5=>rfl
     case s6=>rfl
    replace hy0:=cB_ hy0
    refine go3 ?_;refine sQ (dJ eS fM O) O (go_ ?_);refine sQ (aE (r9 O O dd_) (congrArg (Value.int .u64) (oJ _ 32))) O (sQ (dJ eS fM O) O (sQ (lP mE arT O (ea_ hx64)) O (sQ (aY aK (eY false _ zz_ (ZB (Nat.mod_lt _ dd_) oo_ 14)) O) O ?_)));refine aQ O (bK tyT O O uu_ (jM zz_) O (bJ _) (.inl eX) ?_);refine go2 ?_;refine rtX O ⟨_,_,_,_,_,_,rfl,mm_,tyT,_,(dH (jM zz_)),(jM zz_),rfl⟩ ?_;exact bJ_ ha hb hg.1 hg.2 hx64 (bK_ hx64 hgc oo_)
  replace hsz2:=cB_ hsz2
  refine go_ ?_;refine J5 _ _ pp_ ⟨_,(List.Sublist.cons _ (List.Sublist.refl _)),trivial,?mem,trivial⟩
  case mem=>rfl
 rintro g M ⟨-,rfl,-⟩;refine gS0 ?_;refine go2 ?_;refine gDk (sk (sk (sk s0))) (.quiet 0 [1,6,7] (.quiet 1 [6,7] (.still 2 [3,7] (.still 3 [7] (.both 4 (.only 5 (.only 6 (.only 7 (.fin)))) 5 (.only 4 (.only 6 (.only 7 (.fin))))))))) [0,1,2,3,4,5] mix (by kernel_rfl) (by kernel_rfl) (pQ O (bX fdT dd_ O) (pQ O (fU (vs:=uw a.w) tyT O mm_ (jD ha.len) ((fG _).trans ha.len)) ?_));refine E5 O O (bX fdT dd_ O) (E5 O O (fU (vs:=uw b.w) tyT O mm_ (jD hb.len) ((fG _).trans hb.len)) ?_);refine vG ?_ ?_
 ·refine dA O O (dP mE (fun b7 hb7=>⟨(fun _=>by first|exact sd s0|exact s0),ss_,?_⟩));refine dA O O (dP mE (fun b8 hb8=>⟨(fun _=>by first|exact sd s0|exact s0),ss_,?_⟩));refine dA O O (bK tyT O O uu_ (by simp [uw,ha.len]) (by simp [uw]) (fS _) (.inl eX) ⟨nf,ss_,?_⟩);refine dA O O (bK tyT O O uu_ (by simp [uw,hb.len]) (by simp [uw]) (fS _) (.inl eX) ⟨nf,ss_,?_⟩);refine go2 ?_;refine sQ (bZ tyT O mm_ (by simp [uw,hb.len])) O ?_;refine sQ (lP mE arT O (.nil _)) O ?_;refine sQ (GK (r:=(val b.w==0)) O O (jY 8 dd_ DH DQ (kC hb.len) (kC zz_) (zU hb.len hb.lim))) O ?_;refine go_ ?_;refine aS _ O (fun hb0=>?_) (fun hb0=>?_)
  ·replace hb0:=cB_ hb0
   have hp:0<val b.w:=Nat.pos_of_ne_zero (by simpa using hb0);refine go_ ?_;refine sQ (bZ tyT O mm_ (by simp [uw,ha.len])) O ?_;refine sQ (bZ tyT O mm_ (by simp [uw,hb.len])) O ?_;refine sQ (aY aK (pH a.w b.w ha.len hb.len ha.lim hb.lim hp) O) O (go3 ?_);refine aQ O (dP mE (fun b9 hb9=>aQ O (dP mE (fun b10 hb10=>aQ O (bK tyT O O uu_ (by simp [uw,cU]) (by simp [uw]) (fS _) (.inl eX) ?_)))));refine aQ O (bK tyT O O uu_ (by simp [uw,cU]) (by simp [uw]) (fS _) (.inl eX) ?_);refine go2 ?_;refine gdr (sk (sk (sk (sk (sd (sk (sk s0))))))) [0,4,8,12,16,21] [5] mix (by kernel_rfl) (pQ O (bZ tyT O mm_ (by simp [uw,hb.len])) ?_);refine pQ O (aE (aY aK (eY false b.w hb.len hb.lim) O) (DI hb.len hb.lim false)) (pQ O (bZ tyT O mm_ (by simp [uw,cU])) ?_);refine pQ O (aE (aY aK (eY false _ (cU _ _) (kE _ _)) O) (congrArg RV (mN false (qM ha)))) (pQ O (aY aK (IH (Z.of (sgn false (val b.w))).enc (Z.of (sgn false (val a.w % val b.w))).enc (Z.enc_ok _) (Z.enc_ok _) (by rw [S5 (qM ha),← hn];exact Nat.mod_lt _ hp)) O) ?_);refine dA O O (bK tyT O O uu_ (aI _) O (bJ _) (.inl eX) ⟨nf,ss_,?_⟩);refine go2 ?_;refine rtX O ⟨_,_,_,_,_,_,rfl,mm_,tyT,_,(dH (aI _)),(aI _),rfl⟩ ?_;exact OF ha hb hg.1 hg.2
  replace hb0:=cB_ hb0
  refine go2 ?_;refine sQ (bZ tyT O mm_ (cO ha)) O ?_;refine sQ (aY aK (vC a ha) O) O (aQ O (bK tyT O O uu_ (aI _) O (bJ _) (.inl eX) ?_));refine go2 ?_;refine rtX O ⟨_,_,_,_,_,_,rfl,mm_,tyT,_,(dH (aI _)),(aI _),rfl⟩ ?_;exact OG ha hb hg.1 hg.2 (by simpa using hb0)
 refine dA O O (dP mE (fun b8 hb8=>⟨(fun _=>by first|exact sd s0|exact s0),ss_,?_⟩));refine dA O O (dP mE (fun b7 hb7=>⟨(fun _=>by first|exact sd s0|exact s0),ss_,?_⟩));refine dA O O (bK tyT O O uu_ (by simp [uw,ha.len]) (by simp [uw]) (fS _) (.inl eX) ⟨nf,ss_,?_⟩);refine dA O O (bK tyT O O uu_ (by simp [uw,hb.len]) (by simp [uw]) (fS _) (.inl eX) ⟨nf,ss_,?_⟩);refine go2 ?_;refine sQ (bZ tyT O mm_ (by simp [uw,hb.len])) O ?_;refine sQ (lP mE arT O (.nil _)) O ?_;refine sQ (GK (r:=(val b.w==0)) O O (jY 8 dd_ DH DQ (kC hb.len) (kC zz_) (zU hb.len hb.lim))) O ?_;refine go_ ?_;refine aS _ O (fun hb0=>?_) (fun hb0=>?_)
 ·replace hb0:=cB_ hb0
  have hp:0<val b.w:=Nat.pos_of_ne_zero (by simpa using hb0);refine go_ ?_;refine sQ (bZ tyT O mm_ (by simp [uw,ha.len])) O ?_;refine sQ (bZ tyT O mm_ (by simp [uw,hb.len])) O ?_;refine sQ (aY aK (pH a.w b.w ha.len hb.len ha.lim hb.lim hp) O) O (go3 ?_);refine aQ O (dP mE (fun b9 hb9=>aQ O (dP mE (fun b10 hb10=>aQ O (bK tyT O O uu_ (by simp [uw,cU]) (by simp [uw]) (fS _) (.inl eX) ?_)))));refine aQ O (bK tyT O O uu_ (by simp [uw,cU]) (by simp [uw]) (fS _) (.inl eX) ?_);refine go2 ?_;refine gdr (sk (sk (sk (sk (sd (sk (sk s0))))))) [0,4,8,12,16,21] [5] mix (by kernel_rfl) (pQ O (bZ tyT O mm_ (by simp [uw,hb.len])) ?_);refine pQ O (aE (aY aK (eY false b.w hb.len hb.lim) O) (DI hb.len hb.lim false)) (pQ O (bZ tyT O mm_ (by simp [uw,cU])) ?_);refine pQ O (aE (aY aK (eY false _ (cU _ _) (kE _ _)) O) (congrArg RV (mN false (qM ha)))) (pQ O (aY aK (IH (Z.of (sgn false (val b.w))).enc (Z.of (sgn false (val a.w % val b.w))).enc (Z.enc_ok _) (Z.enc_ok _) (by rw [S5 (qM ha),← hn];exact Nat.mod_lt _ hp)) O) ?_);refine dA O O (bK tyT O O uu_ (aI _) O (bJ _) (.inl eX) ⟨nf,ss_,?_⟩);refine go2 ?_;refine rtX O ⟨_,_,_,_,_,_,rfl,mm_,tyT,_,(dH (aI _)),(aI _),rfl⟩ ?_;exact OF ha hb hg.1 hg.2
 replace hb0:=cB_ hb0
 refine go2 ?_;refine sQ (bZ tyT O mm_ (cO ha)) O ?_;refine sQ (aY aK (vC a ha) O) O (aQ O (bK tyT O O uu_ (aI _) O (bJ _) (.inl eX) ?_));refine go2 ?_;refine rtX O ⟨_,_,_,_,_,_,rfl,mm_,tyT,_,(dH (aI _)),(aI _),rfl⟩ ?_;exact OG ha hb hg.1 hg.2 (by simpa using hb0)
theorem rY (a b:R) (ha:a.Ok) (hb:b.Ok):Ret prog 116 [RV a,RV b] (RV (Z.gcd a.dec b.dec).enc):=by
 generalize hn:val b.w=n
 induction n using Nat.strongRecOn generalizing a b with
 | ind n ih=>exact HQ n (fun a b ha hb h=>ih _ h a b ha hb O) a b ha hb hn
end Go.Proofs.YtcjoflcajgaifaaGreatDoor
