/- Lemmas: what they ask stands in their statements. -/
import Derived.Test.YtokjfhfiodopdaaGreatUWc
set_option linter.unusedSimpArgs false
set_option linter.unusedVariables false
set_option maxHeartbeats 8000000
set_option maxRecDepth 20000
namespace Go.Proofs.YtokjfhfiodopdaaGreat
open Go.Kn Go.Num Tryz
attribute [local irreducible] Go.Kn.W WL PL OpQ OpR OpS
theorem LF (x:Nat) (hx:x<4294967296) :
    Ret prog 197 [U32 x] (.int .i64 ((bl x:Nat):Int)):=by
 refine cL (N:=19) func197 rfl rfl (by simp) (fun w0=>?_);simp only [bS,Nat.reduceAdd];refine go8 ?_;refine aT _ rfl (fun h1=>?_) (fun h1=>?_)
 ·replace h1:=cB_ h1
  refine go2 ?_;refine sQ (aV (u5 rfl rfl dd_) (OA x 16)) rfl (oS ?_);refine aT _ rfl (fun h2=>?_) (fun h2=>?_)
  ·replace h2:=cB_ h2
   refine go2 ?_;refine sQ (aV (u5 rfl rfl dd_) (OA _ 8)) rfl (oS ?_);refine sQ (aV (eX iF PW rfl) (VJ oo_)) rfl (sQ (NY (n:=256) bl co_ rfl rfl oo_ (by decide +kernel)) rfl (sQ (aV (eX PW ET rfl) (GK oo_)) rfl (go4 ?_)));refine bP rfl (.inr rfl) rfl ?_;exact GT (c:=24) rfl dd_ oo_ (by rw [AC (k:=16) oo_,AC (n:=x / 2 ^ 16) (k:=8) oo_];omega)
  replace h2:=cB_ h2
  refine go4 ?_;refine sQ (aV (eX iF PW rfl) (VJ oo_)) rfl (sQ (NY (n:=256) bl co_ rfl rfl oo_ (by decide +kernel)) rfl (sQ (aV (eX PW ET rfl) (GK oo_)) rfl (go4 ?_)));refine bP rfl (.inr rfl) rfl ?_;exact GT (c:=16) rfl dd_ oo_ (by rw [AC (k:=16) oo_])
 replace h1:=cB_ h1
 refine go6 ?_;refine aT _ rfl (fun h2=>?_) (fun h2=>?_)
 ·replace h2:=cB_ h2
  refine go2 ?_;refine sQ (aV (u5 rfl rfl dd_) (OA _ 8)) rfl (oS ?_);refine sQ (aV (eX iF PW rfl) (VJ oo_)) rfl (sQ (NY (n:=256) bl co_ rfl rfl oo_ (by decide +kernel)) rfl (sQ (aV (eX PW ET rfl) (GK oo_)) rfl (go4 ?_)));refine bP rfl (.inr rfl) rfl ?_;exact GT (c:=8) rfl dd_ oo_ (by rw [AC (k:=8) oo_])
 replace h2:=cB_ h2
 refine go4 ?_;refine sQ (aV (eX iF PW rfl) (VJ oo_)) rfl (sQ (NY (n:=256) bl co_ rfl rfl oo_ (by decide +kernel)) rfl (sQ (aV (eX PW ET rfl) (GK oo_)) rfl (go4 ?_)));refine bP rfl (.inr rfl) rfl ?_;exact GT (c:=0) rfl dd_ oo_ oo_
theorem Z2 (x:Nat) (hx:x<4294967296) :
    Ret prog 188 [U32 x] (.int .i64 ((32 - bl x:Nat):Int)):=by
 refine cL (N:=6) func188 rfl rfl (by simp) (fun w0=>?_);simp only [bS,Nat.reduceAdd];refine go5 ?_;refine sQ (bZ aJ (LF x hx) rfl) rfl (go4 ?_);refine bP rfl (.inr rfl) rfl ?_;exact congrArg (Value.int .i64) (ej_ hx)
theorem EC (xs:List Nat) (hx:xs.length=16) (lx:Lim xs) (n:Nat) (hn:n<32) :
    Ret prog 189 [UV xs,.int .i64 (n:Int)] (.tuple #[UV (toL 16 (val xs * 2 ^ n)),U32 (val xs * 2 ^ n / 4294967296 ^ 16)]):=by
 refine cL (N:=30) func189 rfl rfl (by simp) (fun w0=>?_);simp only [bS,Nat.reduceAdd];refine go_ ?_;refine bJ rfl (kC rfl rfl (fun b2 hb2=>bJ rfl (fB pS (fun b4 hb4=>go3 ?_))));refine bJ rfl (fB pS (fun b6 hb6=>go9 ?_));refine cO [7,8,9,10,11,12,13,14,15,16,17,18,19,20,21,22,23,24,25,26] (fun g nn M=>∃ (k:Nat),(g 7 = .int .u64 ((mc (val xs) (2 ^ n) k:Nat):Int)∧g 9 = .int .i64 (k:Int))∧M=[⟨b6,25,uw (xO k (val xs * 2 ^ n) 16)⟩,⟨b4,25,uw (List.replicate 16 0)⟩,⟨b2,25,uw xs⟩]∧nn=16 - k∧(k≤16)) (16) ?start ?round
 case start =>
  refine ⟨_,(List.Sublist.refl _),0,⟨?a7,?a9⟩,?mem0,rfl,Nat.zero_le _⟩
  case mem0=>rw [yQ]
  case a7=>rw [bW_];rfl
  case a9=>rfl
 case round =>
  rintro nn g M ⟨k,⟨hg7,hg9⟩,rfl,hmeas,hk⟩;subst nn;simp only [eO,hg7,hg9];clear hg7 hg9;refine go4 ?_;refine aT _ rfl (fun hc=>?_) (fun hc=>?_)
  ·replace hc:=cB_ hc
   have hc:k<16:=by omega
   refine oS ?_;refine sQ (fI arT rfl rfl oo_ oo_) rfl (sQ (d8 tyT rfl mm_ (tZ oo_)) rfl ?_);refine sQ (eX iF fY rfl) rfl (go_ ?_);refine sQ (aV (DU rfl rfl oo_) (congrArg (Value.int .u64) (cl_ (eG lx k) oo_))) rfl (sQ (aV (N0 rfl rfl) (congrArg (Value.int .u64) (gq_ (cZ_ (m:=2 ^ n) _ k (Nat.pow_pos dd_)) (eG lx k) hn))) rfl (go5 ?_));refine sQ (aV (eX fY iF rfl) (oP _)) rfl (sQ (fI arT rfl rfl oo_ oo_) rfl (bJ rfl (nM tyT rfl rfl uu_ (by rw [jO _ hk];exact hc) (.inl (by assumption)) ?_)));refine go3 ?_;refine sQ (aV (u5 rfl rfl dd_) (congrArg (Value.int .u64) (rA _ 32))) rfl (go6 ?_);refine ⟨pp_,_,_,(List.Sublist.refl _),oo_,k+1,⟨?s7,?s9⟩,?mem,rfl,oo_⟩
   case mem=>rw [fK xs k lx,Z7,xP _ hc]
   case s7=>exact congrArg (fun m:Nat=>Value.int .u64 (m:Int)) (by rw [fK xs k lx];exact Z6 _ _ _)
   case s9=>exact congrArg (Value.int .i64) (j9 oo_)
  replace hc:=cB_ hc
  obtain rfl:k=16:=by omega
  refine go2 ?_;refine sQ (dF tyT rfl mm_ (by simp [uw,jO])) rfl ?_;refine go_ ?_;refine sQ (aV (eX fY iF rfl) (oP _)) rfl (bJ rfl (cG tyT rfl rfl uu_ (by simp [uw,jO]) rfl (i6 _) (.inl (by assumption)) ?_));refine go3 ?_;refine i7 rfl (.inr rfl) ⟨_,_,_,_,_,_,rfl,mm_,tyT,_,(eH (by simp [uw,jO])),(by simp [uw,jO]),rfl⟩ rfl ?_
  (rw [BI,fE_ hx lx,Nat.mod_eq_of_lt (VK hx lx hn)];rfl)
theorem JI (xs:List Nat) (hx:xs.length=16) (lx:Lim xs) (n:Nat) (hn:n<32) :
    Ret prog 193 [UV xs,.int .i64 (n:Int)] (UV (toL 16 (val xs / 2 ^ n))):=by
 refine cL (N:=33) func193 rfl rfl (by simp) (fun w0=>?_);simp only [bS,Nat.reduceAdd];refine go_ ?_;refine bJ rfl (kC rfl rfl (fun b2 hb2=>bJ rfl (fB pS (fun b4 hb4=>go2 ?_))));refine bJ rfl (fB pS (fun b5 hb5=>go6 ?_));refine cO [6,7,8,9,10,11,12,13,14,15,16,17,18,19,20,21,22,23,24,25,26,27,28,29,30,31] (fun g nn M=>∃ (k:Nat),(g 8 = .int .i64 (k:Int))∧M=[⟨b5,25,uw (xO k (val xs / 2 ^ n) 16)⟩,⟨b4,25,uw (List.replicate 16 0)⟩,⟨b2,25,uw xs⟩]∧nn=16 - k∧(k≤16)) (16) ?start ?round
 case start =>
  refine ⟨_,(List.Sublist.refl _),0,?a8,?mem0,rfl,Nat.zero_le _⟩
  case mem0=>rw [yQ]
  case a8=>rfl
 case round =>
  rintro nn g M ⟨k,hg8,rfl,hmeas,hk⟩;subst nn;simp only [eO,hg8];clear hg8;refine go4 ?_;refine aT _ rfl (fun hc=>?_) (fun hc=>?_)
  ·replace hc:=cB_ hc
   have hc:k<16:=by omega
   refine F7 ?_;refine sQ (aV (jE rfl rfl) (congrArg (Value.int .i64) (j9 oo_))) rfl (go2 ?_);refine aT _ rfl (fun h13=>?_) (fun h13=>?_)
   ·replace h13:=cB_ h13
    refine go2 ?_;refine sQ (aV (jE rfl rfl) (congrArg (Value.int .i64) (j9 oo_))) rfl (sQ (fI arT rfl rfl oo_ oo_) rfl (sQ (d8 tyT rfl mm_ (tZ oo_)) rfl ?_));refine sQ (aV (eX iF fY rfl) (congrArg (Value.int .u64) (kW (eG lx _)))) rfl (go4 ?_);refine sQ (aV (kE rfl) (show _=Value.int .u64 ((dig (val xs) (k+1):Nat):Int) from by first | exact congrArg (fun m:Nat=>Value.int .u64 (m:Int)) (fK xs (k+1) lx) | exact congrArg (fun m:Nat=>Value.int .u64 (m:Int)) (PC hx lx oo_).symm)) rfl ?_;refine sQ (aV (DU rfl rfl dd_) (congrArg (Value.int .u64) (xC (qD _ _)))) rfl (go_ ?_);refine sQ (fI arT rfl rfl oo_ oo_) rfl (sQ (d8 tyT rfl mm_ (tZ oo_)) rfl ?_);refine sQ (aV (eX iF fY rfl) (congrArg (Value.int .u64) ((kW (eG lx _)).trans (by rw [fK xs k lx])))) rfl (sQ (aV (N0 rfl rfl) (congrArg (Value.int .u64) (GO (qD _ _) (qD _ _)))) rfl (go_ ?_));refine sQ (aV (u5 rfl rfl oo_) (congrArg (Value.int .u64) (de_ hn))) rfl (sQ (aV (eX fY iF rfl) (oP _)) rfl (sQ (fI arT rfl rfl oo_ oo_) rfl (bJ rfl (nM tyT rfl rfl uu_ (by rw [jO _ hk];exact hc) (.inl (by assumption)) ?_))));refine go5 ?_;refine ⟨pp_,_,_,(List.Sublist.refl _),oo_,k+1,?s8,?mem,rfl,oo_⟩
    case mem=>rw [HJ k oo_,xP _ hc]
    case s8=>exact congrArg (Value.int .i64) (j9 oo_)
   replace h13:=cB_ h13
   refine go3 ?_;refine sQ (aV (kE rfl) (show _=Value.int .u64 ((dig (val xs) (k+1):Nat):Int) from by first | exact congrArg (fun m:Nat=>Value.int .u64 (m:Int)) (fK xs (k+1) lx) | exact congrArg (fun m:Nat=>Value.int .u64 (m:Int)) (PC hx lx oo_).symm)) rfl ?_;refine sQ (aV (DU rfl rfl dd_) (congrArg (Value.int .u64) (xC (qD _ _)))) rfl (go_ ?_);refine sQ (fI arT rfl rfl oo_ oo_) rfl (sQ (d8 tyT rfl mm_ (tZ oo_)) rfl ?_);refine sQ (aV (eX iF fY rfl) (congrArg (Value.int .u64) ((kW (eG lx _)).trans (by rw [fK xs k lx])))) rfl (sQ (aV (N0 rfl rfl) (congrArg (Value.int .u64) (GO (qD _ _) (qD _ _)))) rfl (go_ ?_));refine sQ (aV (u5 rfl rfl oo_) (congrArg (Value.int .u64) (de_ hn))) rfl (sQ (aV (eX fY iF rfl) (oP _)) rfl (sQ (fI arT rfl rfl oo_ oo_) rfl (bJ rfl (nM tyT rfl rfl uu_ (by rw [jO _ hk];exact hc) (.inl (by assumption)) ?_))));refine go5 ?_;refine ⟨pp_,_,_,(List.Sublist.refl _),oo_,k+1,?s8,?mem,rfl,oo_⟩
   case mem=>rw [HJ k oo_,xP _ hc]
   case s8=>exact congrArg (Value.int .i64) (j9 oo_)
  replace hc:=cB_ hc
  obtain rfl:k=16:=by omega
  refine go2 ?_;refine sQ (dF tyT rfl mm_ (by simp [uw,jO])) rfl ?_;refine bJ rfl (cG tyT rfl rfl uu_ (by simp [uw,jO]) rfl (i6 _) (.inl (by assumption)) ?_);refine go2 ?_;refine bP rfl (.inr rfl) ⟨_,_,_,_,_,_,rfl,mm_,tyT,_,(eH (by simp [uw,jO])),(by simp [uw,jO]),rfl⟩ ?_
  (rw [BI];rfl)
theorem GE (xs:List Nat) (hx:xs.length=16) (lx:Lim xs) (d:Nat) (hd:d<4294967296) (h0:0<d) :
    Ret prog 187 [UV xs,U32 d] (.tuple #[UV (toL 16 (val xs / d)),U32 (val xs % d)]):=by
 refine cL (N:=33) func187 rfl rfl (by simp) (fun w0=>?_);simp only [bS,Nat.reduceAdd];refine go_ ?_;refine bJ rfl (kC rfl rfl (fun b2 hb2=>bJ rfl (fB pS (fun b4 hb4=>oS ?_))));refine cO [6,7,8,9,10,11,12,13,14,15,16,17,18,19,20,21,22,23,24,25,26,27,28,29] (fun g nn M=>∃ (k:Nat),(g 6 = .int .u64 ((val xs / 4294967296 ^ k % d:Nat):Int)∧g 7 = .int .i64 ((k:Int) - 1))∧M=[⟨b4,25,uw (wY k (val xs / d))⟩,⟨b2,25,uw xs⟩]∧nn=k+0∧(k≤16)) (16) ?start ?round
 case start =>
  refine ⟨_,(List.Sublist.refl _),16,⟨?a6,?a7⟩,?mem0,rfl,Nat.le_refl _⟩
  case mem0=>rw [WA]
  case a6=>rw [fs_ hx lx];rfl
  case a7=>rfl
 case round =>
  rintro nn g M ⟨k,⟨hg6,hg7⟩,rfl,hmeas,hk⟩;subst nn;simp only [eO,hg6,hg7];clear hg6 hg7;refine go5 ?_;refine aT _ rfl (fun hc=>?_) (fun hc=>?_)
  ·replace hc:=cB_ hc
   obtain ⟨m,rfl⟩:∃ m,k=m+1:=⟨k - 1,by omega⟩;have hr:val xs / 4294967296 ^ (m+1) % d<4294967296:=Nat.lt_trans (Nat.mod_lt _ h0) hd;refine go4 ?_;refine sQ (aV (kE rfl) rfl) rfl (sQ (aV (DU rfl rfl dd_) (congrArg (Value.int .u64) (xC hr))) rfl (sQ (aV (kE rfl) (congrArg (Value.int .i64) (show (((m+1:Nat):Int) - 1)=(m:Int) by omega))) rfl (sQ (fI arT rfl rfl oo_ oo_) rfl (sQ (d8 tyT rfl mm_ (tZ oo_)) rfl ?_))));refine sQ (aV (eX iF fY rfl) (congrArg (Value.int .u64) ((kW (eG lx _)).trans (by rw [fK xs m lx])))) rfl (sQ (aV (N0 rfl rfl) (congrArg (Value.int .u64) (GO hr (qD _ _)))) rfl (go3 ?_));refine sQ (aV (kE rfl) (congrArg (Value.int .i64) (show (((m+1:Nat):Int) - 1)=(m:Int) by omega))) rfl (go2 ?_);refine sQ (aV (eX iF fY rfl) (congrArg (Value.int .u64) (kW hd))) rfl (sQ (aV (tL rfl rfl oo_) (congrArg (Value.int .u64) (UX _ _))) rfl (sQ (aV (eX fY iF rfl) (oP _)) rfl (sQ (fI arT rfl rfl oo_ oo_) rfl (bJ rfl (nM tyT rfl rfl uu_ (by rw [nK _ oo_];omega) (.inl (by assumption)) ?_)))));refine go4 ?_;refine sQ (aV (eX iF fY rfl) (congrArg (Value.int .u64) (kW hd))) rfl (sQ (aV (t7 rfl rfl oo_) (congrArg (Value.int .u64) (BR _ _))) rfl (go3 ?_));refine sQ (aV (kE rfl) (congrArg (Value.int .i64) (show (((m+1:Nat):Int) - 1)=(m:Int) by omega))) rfl (go3 ?_);refine ⟨pp_,_,_,(List.Sublist.refl _),oo_,m,⟨?s6,?s7⟩,?mem,rfl,oo_⟩
   case mem=>rw [SX m h0,ES oo_]
   case s6=>exact congrArg (fun m:Nat=>Value.int .u64 (m:Int)) (FZ m h0).2
   case s7=>exact congrArg (Value.int .i64) (cJ (n:=(m:Int) - 1) (by unfold I64;omega))
  replace hc:=cB_ hc
  obtain rfl:k=0:=by omega
  refine go2 ?_;refine sQ (dF tyT rfl mm_ (by simp [uw,nK])) rfl ?_;refine go_ ?_;refine sQ (aV (eX fY iF rfl) (oP _)) rfl (bJ rfl (cG tyT rfl rfl uu_ (by simp [uw,nK]) (by simp [uw,nK]) (i6 _) (.inl (by assumption)) ?_));refine go3 ?_;refine i7 rfl (.inr rfl) ⟨_,_,_,_,_,_,rfl,mm_,tyT,_,(eH (by simp [uw,nK])),(by simp [uw,nK]),rfl⟩ rfl ?_
  (rw [LD,Nat.pow_zero,Nat.div_one,Nat.mod_eq_of_lt (Nat.lt_trans (Nat.mod_lt _ h0) hd)];rfl)
theorem rY (xs ys:List Nat) (hx:xs.length=16) (hy:ys.length=16) (lx:Lim xs) (ly:Lim ys) (h0:0<val ys) :
    Ret prog 180 [UV xs,UV ys] (.tuple #[UV (toL 16 (val xs / val ys)),UV (toL 16 (val xs % val ys))]):=by
 refine cL (N:=94) func180 rfl rfl (by simp) (fun w0=>?_);simp only [bS,Nat.reduceAdd];refine go_ ?_;refine bJ rfl (kC rfl rfl (fun b2 hb2=>bJ rfl (kC rfl rfl (fun b3 hb3=>bJ rfl (fB pS (fun b4 hb4=>bJ rfl (fB pS (fun b5 hb5=>go2 ?_))))))));refine rE (sk (sk (sk (sk (s0))))) 6 [] [] (pQ rfl (dF tyT rfl mm_ (by simp [uw,hy])) ?_);refine pQ rfl (bZ aJ (nP ys hy) rfl) (pQ rfl (dF tyT rfl mm_ (by simp [uw,hx])) ?_);refine pQ rfl (bZ aJ (nP xs hx) rfl) (go5 ?_);refine sQ (dF tyT rfl mm_ (by simp [uw,hx])) rfl ?_;refine sQ (dF tyT rfl mm_ (by simp [uw,hy])) rfl ?_;refine sQ (bZ aJ (n5 xs ys hx hy lx ly) rfl) rfl (go2 ?_);refine aT _ rfl (fun ho=>?_) (fun ho=>?_)
 ·replace ho:=cB_ ho
  have hlt:=YC ho;refine go_ ?_;refine gdr (sd (sd (sk (sk (s0))))) [0,6,9,13] [2,3] mix (by kernel_rfl) (pQ rfl (oV pS arT rfl (.nil _)) (G6 rfl rfl (dF tyT rfl mm_ (by simp [uw,hx])) ?_));refine fT rfl rfl (cG tyT rfl rfl uu_ (by simp [uw,List.length_replicate]) (by simp [uw]) (i6 _) (.inl (by assumption)) ⟨nf,ss_,?_⟩);refine fT rfl rfl (cG tyT rfl rfl uu_ (by simp [uw,hx]) (by simp [uw]) (i6 _) (.inl (by assumption)) ⟨nf,ss_,?_⟩);refine go2 ?_;refine i7 rfl (.inr rfl) ⟨_,_,_,_,_,_,rfl,mm_,tyT,_,(eH (by simp [uw])),(by simp [uw]),rfl⟩ ⟨_,_,_,_,_,_,rfl,mm_,tyT,_,(eH (by simp [uw,hx])),(by simp [uw,hx]),rfl⟩ ?_;exact aw_ hx lx hlt
 replace ho:=cB_ ho
 have hle:=TK (Int.not_lt.1 ho);have hsp:=eV_ h0;have hsz:=vD ys;rw [hy] at hsz;refine go6 ?_;refine aT _ rfl (fun h29=>?_) (fun h29=>?_)
 ·replace h29:=cB_ h29
  have hsz1:szL ys=1:=by omega
  refine go_ ?_;refine sQ (dF tyT rfl mm_ (by simp [uw,hx])) rfl ?_;refine sQ (fI arT rfl rfl dd_ dd_) rfl (sQ (d8 tyT rfl mm_ (tZ (k:=0) oo_)) rfl ?_);refine sQ (bZ aJ (GE xs hx lx _ (eG ly 0) (UQ hsz1)) rfl) rfl (go3 ?_);refine bJ rfl (fB pS (fun b8 hb8=>bJ rfl (cG tyT rfl rfl uu_ (by simp [uw,dW]) (by simp [uw]) (i6 _) (.inl (by assumption)) ?_)));refine go3 ?_;refine sQ (dF tyT rfl mm_ (by simp [uw,dW])) rfl ?_;refine go_ ?_;refine sQ (oV pS arT rfl (fx_ _)) rfl (bJ rfl (cG tyT rfl rfl uu_ (by simp [uw,dW]) (by simp [uw]) (i6 _) (.inl (by assumption)) ?_));refine bJ rfl (cG tyT rfl rfl uu_ (by simp [uw,List.length_replicate]) (by simp [uw]) (i6 _) (.inl (by assumption)) ?_);refine go2 ?_;refine i7 rfl (.inr rfl) ⟨_,_,_,_,_,_,rfl,mm_,tyT,_,(eH (by simp [uw,dW])),(by simp [uw,dW]),rfl⟩ ⟨_,_,_,_,_,_,rfl,mm_,tyT,_,(eH (by simp [uw])),(by simp [uw]),rfl⟩ ?_;exact cg_ ly hsz1
 replace h29:=cB_ h29
 have h2:2≤szL ys:=by omega
 have D:DV xs ys (szL ys) (32 - bl (ys.getD (szL ys - 1) 0)):=⟨hx,hy,lx,ly,rfl,h2,rfl,hle⟩;refine go3 ?_;refine sQ (aV (oD rfl rfl) (congrArg (Value.int .i64) (tW (b:=1) rfl oo_ oo_))) rfl (sQ (fI arT rfl rfl oo_ oo_) rfl (sQ (d8 tyT rfl mm_ (tZ oo_)) rfl ?_));refine sQ (bZ aJ (Z2 _ (eG ly _)) rfl) rfl (go3 ?_);refine sQ (dF tyT rfl mm_ (by simp [uw,hy])) rfl ?_;refine go_ ?_;refine sQ (bZ aJ (EC ys hy ly _ D.s32) rfl) rfl (go3 ?_);refine bJ rfl (fB pS (fun b11 hb11=>bJ rfl (cG tyT rfl rfl uu_ (by simp [uw,dW]) (by simp [uw]) (i6 _) (.inl (by assumption)) ?_)));refine go3 ?_;refine sQ (dF tyT rfl mm_ (by simp [uw,hx])) rfl ?_;refine go_ ?_;refine sQ (bZ aJ (EC xs hx lx _ D.s32) rfl) rfl (go3 ?_);refine bJ rfl (fB pS (fun b13 hb13=>bJ rfl (cG tyT rfl rfl uu_ (by simp [uw,dW]) (by simp [uw]) (i6 _) (.inl (by assumption)) ?_)));refine go3 ?_;refine bJ rfl (fB gv_ (fun b15 hb15=>go2 ?_));refine gdr (sd (sk (sk (sk (sk (sk (sk (s0)))))))) [0,4,9] [2] mix (by kernel_rfl) (pQ rfl (IM arT rfl rfl rfl dd_ dd_ dd_ dd_) (pQ rfl (IM arT rfl rfl rfl dd_ dd_ dd_ dd_) ?_));refine fT rfl rfl (eE_ eR_ rfl rfl mm_ uu_ (fun v hv=>i6 _ v (List.mem_of_mem_drop (List.mem_of_mem_take hv))) (by simp [uw,dW]) (by simp [uw]) (bB_ (dW _ _)) (.inl (by assumption)) ⟨nf,ss_,?_⟩);refine go3 ?_;refine sQ (fI arT rfl rfl dd_ dd_) rfl (bJ rfl (nM (k:=16) tyT rfl rfl uu_ (by simp [dW]) (.inl (by assumption)) ?_));refine go5 ?_;refine sQ (aV (oD rfl rfl) (congrArg (Value.int .i64) (U9 D.nm (by have:=D.m16;omega)))) rfl (go3 ?_);refine cO [16,17,65,66,67,68,69,70,71,72,73,74,75,76,77,78,79,80,81,82,83,84,85,86,87] (fun g nn M=>∃ (k:Nat) (l:List Nat),(g 16 = .int .i64 ((k:Int) - 1))∧M=[⟨b15,181,uw l⟩,⟨b13,25,uw (toL 16 (val xs * 2 ^ (32 - bl (ys.getD (szL ys - 1) 0))))⟩,⟨b11,25,uw (toL 16 (val ys * 2 ^ (32 - bl (ys.getD (szL ys - 1) 0))))⟩,⟨b5,25,uw (List.replicate 16 0)⟩,⟨b4,25,uw (wY k (val xs / val ys))⟩,⟨b3,25,uw ys⟩,⟨b2,25,uw xs⟩]∧nn=k+0∧(k+szL ys≤17∧QI xs ys (32 - bl (ys.getD (szL ys - 1) 0)) k l)) (szL xs - szL ys+1) ?start ?round
 case start =>
  refine ⟨_,(List.Sublist.refl _),szL xs - szL ys+1,((toL 16 (val xs * 2 ^ (32 - bl (ys.getD (szL ys - 1) 0))) ++ [0]).set 16 (val xs * 2 ^ (32 - bl (ys.getD (szL ys - 1) 0)) / 4294967296 ^ 16)),?a16,?mem0,rfl,⟨by have:=D.nm;have:=D.m16;omega,QI.start D⟩⟩
  case mem0=>rw [← DV.qstart D]
  case a16=>exact congrArg (Value.int .i64) oo_
 case round =>
  rintro nn g M ⟨k,l,hg16,rfl,hmeas,⟨hkn,hq⟩⟩;subst nn;simp only [eO,hg16];clear hg16;refine go5 ?_;refine aT _ rfl (fun hc=>?_) (fun hc=>?_)
  ·replace hc:=cB_ hc
   obtain ⟨m,rfl⟩:∃ m,k=m+1:=⟨k - 1,by omega⟩;refine go4 ?_;refine sQ (dF tyT rfl mm_ (by simp [uw,dW])) rfl ?_;refine go_ ?_;refine sQ (aV (kE rfl) (congrArg (Value.int .i64) (show (((m+1:Nat):Int) - 1)=(m:Int) by omega))) rfl (bJ rfl (ci_ aJ rfl (fun w hw=>GD l _ (szL ys) m (hq.qh D oo_) b15 181 w (hw.mem _ m0)) (fun d hd=>go4 ?_)));refine sQ (dF tyT rfl mm_ (by simp [uw,dW])) rfl ?_;refine go_ ?_;refine sQ (aV (kE rfl) (congrArg (Value.int .i64) (show (((m+1:Nat):Int) - 1)=(m:Int) by omega))) rfl (go_ ?_);refine bJ rfl (UY aJ rfl (fun w hw=>JL l _ (szL ys) m d hq.len hq.lim (dW _ _) (m7 _ _) (by rw [D.v16];exact D.vlt) oo_ (hq.small D) hd.1 b15 181 w (hw.mem _ m0)) (fun x=>uu_) (.inl (by assumption)) (fun x ht=>?_));refine go_ ?_;refine aT _ rfl (fun h77=>?_) (fun h77=>?_)
   ·replace h77:=cB_ h77
    refine go2 ?_;refine sQ (aV (oD rfl rfl) (congrArg (Value.int .u64) (I6 rfl (ht.pos oo_) (by have:=hd.1;omega)))) rfl (go3 ?_);refine sQ (dF tyT rfl mm_ (by simp [uw,dW])) rfl ?_;refine go_ ?_;refine sQ (aV (kE rfl) (congrArg (Value.int .i64) (show (((m+1:Nat):Int) - 1)=(m:Int) by omega))) rfl (bJ rfl (UY aJ rfl (fun w hw=>JJ x.1 _ (szL ys) m ht.len ht.lim (dW _ _) (m7 _ _) (by rw [D.v16];exact D.vlt) oo_ ht.small b15 181 w (hw.mem _ m0)) (fun y=>uu_) (.inl (by assumption)) (fun y hgv=>?_)));refine go_ ?_;obtain ⟨hz,hdz,_⟩:=hq.took1 D hd ht oo_ hgv;refine go_ ?_;refine sQ (aV (kE rfl) (congrArg (Value.int .i64) (show (((m+1:Nat):Int) - 1)=(m:Int) by omega))) rfl (go_ ?_);refine sQ (aV (eX fY iF rfl) (oP _)) rfl (sQ (fI arT rfl rfl oo_ oo_) rfl (bJ rfl (nM tyT rfl rfl uu_ (by rw [nK _ oo_];omega) (.inl (by assumption)) ?_)));refine go2 ?_;refine sQ (aV (kE rfl) (congrArg (Value.int .i64) (show (((m+1:Nat):Int) - 1)=(m:Int) by omega))) rfl (go3 ?_);refine ⟨pp_,_,_,(List.Sublist.refl _),oo_,m,_,?s16,?mem,rfl,⟨by omega,hz⟩⟩
    case mem=>rw [hdz,ES oo_]
    case s16=>exact congrArg (Value.int .i64) (cJ (n:=(m:Int) - 1) (by unfold I64;omega))
   replace h77:=cB_ h77
   obtain ⟨hz,hdz⟩:=hq.took0 D hd ht oo_;refine go2 ?_;refine sQ (aV (kE rfl) (congrArg (Value.int .i64) (show (((m+1:Nat):Int) - 1)=(m:Int) by omega))) rfl (go_ ?_);refine sQ (aV (eX fY iF rfl) (oP _)) rfl (sQ (fI arT rfl rfl oo_ oo_) rfl (bJ rfl (nM tyT rfl rfl uu_ (by rw [nK _ oo_];omega) (.inl (by assumption)) ?_)));refine go2 ?_;refine sQ (aV (kE rfl) (congrArg (Value.int .i64) (show (((m+1:Nat):Int) - 1)=(m:Int) by omega))) rfl (go3 ?_);refine ⟨pp_,_,_,(List.Sublist.refl _),oo_,m,_,?s16,?mem,rfl,⟨by omega,hz⟩⟩
   case mem=>rw [hdz,ES oo_]
   case s16=>exact congrArg (Value.int .i64) (cJ (n:=(m:Int) - 1) (by unfold I64;omega))
  replace hc:=cB_ hc
  obtain rfl:k=0:=by omega
  refine go2 ?_;refine gdr (sk (sk (sk (sd (sd (sk (sk (s0)))))))) [0,4,8,12,16,20,25,29] [6,7] mix (by kernel_rfl) (pQ rfl (dF tyT rfl mm_ (by rw [iE,nK _ oo_])) ?_);refine pQ rfl (IM arT rfl rfl rfl dd_ dd_ dd_ dd_) (pQ rfl (as_ arT rfl dd_) (pQ rfl (iZ (vs:=uw (l.take 16)) tyT rfl mm_ cu_ (by simp [uw,hq.len])) ?_));refine go_ ?_;refine pQ rfl (bZ aJ (JI (l.take 16) (by simp [hq.len]) (hq.lim.take 16) _ D.s32) rfl) ?_;refine fT rfl rfl (cG tyT rfl rfl uu_ (by rw [iE,nK _ oo_]) (by rw [iE,nK _ oo_]) (i6 _) (.inl (by assumption)) ⟨nf,ss_,?_⟩);refine fT rfl rfl (cG tyT rfl rfl uu_ (by simp [uw,dW]) (by simp [uw]) (i6 _) (.inl (by assumption)) ⟨nf,ss_,?_⟩);refine go2 ?_;refine i7 rfl (.inr rfl) ⟨_,_,_,_,_,_,rfl,mm_,tyT,_,(eH (by rw [iE,nK _ oo_])),(by rw [iE,nK _ oo_]),rfl⟩ ⟨_,_,_,_,_,_,rfl,mm_,tyT,_,(eH (by simp [uw,dW])),(by simp [uw,dW]),rfl⟩ ?_
  (rw [LD,hq.fin D];rfl)
end Go.Proofs.YtokjfhfiodopdaaGreat
