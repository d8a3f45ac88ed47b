/- Lemmas: what they ask stands in their statements. -/
import Derived.Test.YtkjjponijamaoaaGreatDoorYWc
set_option linter.unusedSimpArgs false
set_option linter.unusedVariables false
set_option maxHeartbeats 8000000
set_option maxRecDepth 20000
namespace Go.Proofs.YtkjjponijamaoaaGreatDoor
open Go.Kn Go.Num
theorem Y2 (x:Nat) (hx:x<4294967296) :
    Ret Tryz.prog 232 [U32 x] (.int .i64 ((bl x:Nat):Int)):=by
 refine cM (N:=19) Tryz.func232 rfl rfl (by simp) (fun w0=>?_);simp only [cS,Nat.reduceAdd];refine Sq fun K1 J1=>Rk fun K J=>sE rfl (nl J (J1 _ _ (Sq fun K2 J2=>Sq fun K3 J3=>Rk fun K J=>sE rfl (sE rfl (nl J (J3 _ _ ?_))))));refine fN _ rfl (fun h1=>?_) (fun h1=>?_)
 ·replace h1:=cB_ h1
  refine Sq fun K4 J4=>Rk fun K J=>sE rfl (sQ (aZ (E3 rfl rfl dd_) (bf_ x 16)) rfl (sE rfl (nl J (J4 _ _ (Rk fun K J=>sE rfl (nl J (J2 _ _ (Sq fun K5 J5=>Sq fun K6 J6=>Rk fun K J=>sE rfl (sE rfl (nl J (J6 _ _ ?_)))))))))));refine fN _ rfl (fun h2=>?_) (fun h2=>?_)
  ·replace h2:=cB_ h2
   refine Sq fun K7 J7=>Rk fun K J=>sE rfl (sQ (aZ (E3 rfl rfl dd_) (bf_ _ 8)) rfl (sE rfl (nl J (J7 _ _ (Rk fun K J=>sE rfl (sE rfl (sE rfl (nl J (J5 _ _ (Sq fun K8 J8=>Rk fun K J=>sE rfl (sE rfl (sQ (aZ (i7 nP X1 rfl) (gi_ oo_)) rfl (sQ (a0_ (n:=256) bl mN_ rfl rfl oo_ (by decide +kernel)) rfl (sQ (aZ (i7 X1 OW rfl) (T5 oo_)) rfl ?_))))))))))))));refine sE rfl (sE rfl (nl J (J8 _ _ (aL (cC rfl (.inr rfl) rfl ?_)))));exact UF (c:=24) rfl dd_ oo_ (by rw [MZ (k:=16) oo_,MZ (n:=x / 2 ^ 16) (k:=8) oo_];omega)
  replace h2:=cB_ h2
  refine aG (J5 _ _ (Sq fun K9 J9=>Rk fun K J=>sE rfl (sE rfl (sQ (aZ (i7 nP X1 rfl) (gi_ oo_)) rfl (sQ (a0_ (n:=256) bl mN_ rfl rfl oo_ (by decide +kernel)) rfl (sQ (aZ (i7 X1 OW rfl) (T5 oo_)) rfl (sE rfl (sE rfl (nl J (J9 _ _ (aL (cC rfl (.inr rfl) rfl ?_))))))))))));exact UF (c:=16) rfl dd_ oo_ (by rw [MZ (k:=16) oo_])
 replace h1:=cB_ h1
 refine aG (J2 _ _ (Sq fun K10 J10=>Sq fun K11 J11=>Rk fun K J=>sE rfl (sE rfl (nl J (J11 _ _ ?_)))));refine fN _ rfl (fun h2=>?_) (fun h2=>?_)
 ·replace h2:=cB_ h2
  refine Sq fun K12 J12=>Rk fun K J=>sE rfl (sQ (aZ (E3 rfl rfl dd_) (bf_ _ 8)) rfl (sE rfl (nl J (J12 _ _ (Rk fun K J=>sE rfl (sE rfl (sE rfl (nl J (J10 _ _ (Sq fun K13 J13=>Rk fun K J=>sE rfl (sE rfl (sQ (aZ (i7 nP X1 rfl) (gi_ oo_)) rfl (sQ (a0_ (n:=256) bl mN_ rfl rfl oo_ (by decide +kernel)) rfl (sQ (aZ (i7 X1 OW rfl) (T5 oo_)) rfl ?_))))))))))))));refine sE rfl (sE rfl (nl J (J13 _ _ (aL (cC rfl (.inr rfl) rfl ?_)))));exact UF (c:=8) rfl dd_ oo_ (by rw [MZ (k:=8) oo_])
 replace h2:=cB_ h2
 refine aG (J10 _ _ (Sq fun K14 J14=>Rk fun K J=>sE rfl (sE rfl (sQ (aZ (i7 nP X1 rfl) (gi_ oo_)) rfl (sQ (a0_ (n:=256) bl mN_ rfl rfl oo_ (by decide +kernel)) rfl (sQ (aZ (i7 X1 OW rfl) (T5 oo_)) rfl (sE rfl (sE rfl (nl J (J14 _ _ (aL (cC rfl (.inr rfl) rfl ?_))))))))))));exact UF (c:=0) rfl dd_ oo_ oo_

theorem jJ_ (x:Nat) (hx:x<4294967296) :
    Ret Tryz.prog 252 [U32 x] (.int .i64 ((32 - bl x:Nat):Int)):=by
 refine cM (N:=6) Tryz.func252 rfl rfl (by simp) (fun w0=>?_);simp only [cS,Nat.reduceAdd];refine Sq fun K1 J1=>Rk fun K J=>sE rfl (nl J (J1 _ _ (Sq fun K2 J2=>Rk fun K J=>sE rfl (sQ (bZ iQ_ (Y2 x hx) rfl) rfl (sE rfl (sE rfl (nl J (J2 _ _ (aL (cC rfl (.inr rfl) rfl ?_))))))))));exact congrArg (Value.int .i64) (pT_ hx)

theorem FS (xs:List Nat) (hx:xs.length=16) (lx:Lim xs) (n:Nat) (hn:n<32) :
    Ret Tryz.prog 230 [UV xs,.int .i64 (n:Int)] (.tuple #[UV (toL 16 (val xs * 2 ^ n)),U32 (val xs * 2 ^ n / 4294967296 ^ 16)]):=by
 refine cM (N:=30) Tryz.func230 rfl rfl (by simp) (fun w0=>?_);simp only [cS,Nat.reduceAdd];refine Sq fun K1 J1=>Rk fun K J=>bA rfl (qR rfl rfl (fun b2 hb2=>bA rfl (i1 y6 (fun b4 hb4=>sE rfl (nl J (J1 _ _ (Sq fun K2 J2=>Rk fun K J=>bA rfl (i1 y6 (fun b6 hb6=>nl J (J2 _ _ (Sq fun K3 J3=>Rk fun K J=>sE rfl (nl J (J3 _ _ (Sq fun K4 J4=>Sq fun K5 J5=>Rk fun K J=>?_))))))))))))));refine sE rfl (nl J (J5 _ _ (aJ ?_)));refine eA [7,8,9,10,11,12,13,14,15,16,17,18,19,20,21,22,23,24,25,26] (fun g nn M=>∃ (k:Nat),(g 7 = .int .u64 ((mc (val xs) (2 ^ n) k:Nat):Int)∧g 9 = .int .i64 (k:Int))∧M=[⟨b6,29,uw (IF k (val xs * 2 ^ n) 16)⟩,⟨b4,29,uw (List.replicate 16 0)⟩,⟨b2,29,uw xs⟩]∧nn=16 - k∧(k≤16)) (16) ?start ?round
 case start =>
  refine ⟨_,(List.Sublist.refl _),0,⟨?a7,?a9⟩,?mem0,rfl,Nat.zero_le _⟩
  case mem0=>rw [KC]
  case a7=>rw [mf_];rfl
  case a9=>rfl
 case round =>
  rintro nn g M ⟨k,⟨hg7,hg9⟩,rfl,hmeas,hk⟩;subst nn;simp only [dQ,hg7,hg9];clear hg7 hg9;refine Sq fun K6 J6=>Rk fun K J=>sE rfl (nl J (J6 _ _ (Sq fun K7 J7=>?_)));refine fN _ rfl (fun hc=>?_) (fun hc=>?_)
  ·replace hc:=cB_ hc
   have hc:k<16:=by omega
   refine aG (J7 _ _ (Sq fun K8 J8=>aJ (Sq fun K9 J9=>Rk fun K J=>sE rfl (sE rfl (nl J (J9 _ _ (Sq fun K10 J10=>Rk fun K J=>sE rfl (sE rfl (sQ (j7 mI rfl rfl oo_ oo_) rfl (sQ (iA n9 rfl mm_ (DW oo_)) rfl ?_))))))))));refine sQ (i7 nP kV rfl) rfl (sE rfl (sQ (aZ (LX rfl rfl oo_) (congrArg (Value.int .u64) (mF_ (iZ lx k) oo_))) rfl (sQ (aZ (a2_ rfl rfl) (congrArg (Value.int .u64) (sb_ (nD_ (m:=2 ^ n) _ k (Nat.pow_pos dd_)) (iZ lx k) hn))) rfl (sE rfl (nl J (J10 _ _ (Sq fun K11 J11=>Rk fun K J=>sE rfl (sE rfl (sQ (aZ (i7 kV nP rfl) (yM _)) rfl (sQ (j7 mI rfl rfl oo_ oo_) rfl (bA rfl (w7 n9 rfl rfl uu_ (by rw [qY _ hk];exact hc) (.inl (by assumption)) ?_))))))))))));refine nl J (J11 _ _ (Rk fun K J=>sE rfl (sQ (aZ (E3 rfl rfl dd_) (congrArg (Value.int .u64) (A5 _ 32))) rfl (sE rfl (nl J (J8 _ _ (Rk fun K J=>sE rfl (sE rfl (nl J ?_)))))))));refine ⟨pp_,_,_,(List.Sublist.refl _),oo_,k+1,⟨?s7,?s9⟩,?mem,rfl,oo_⟩
   case mem=>rw [kJ xs k lx,jQ_,IG _ hc]
   case s7=>exact congrArg (fun m:Nat=>Value.int .u64 (m:Int)) (by rw [kJ xs k lx];exact jP_ _ _ _)
   case s9=>exact congrArg (Value.int .i64) (rF oo_)
  replace hc:=cB_ hc
  obtain rfl:k=16:=by omega
  refine dW (aU (aU (bJ (J4 _ _ (Sq fun K12 J12=>Rk fun K J=>sQ (eG iJ rfl mm_ (by simp [uw,qY])) rfl ?_)))));refine sE rfl (sQ (aZ (i7 kV nP rfl) (yM _)) rfl (bA rfl (dX iJ rfl rfl uu_ (by simp [uw,qY]) rfl (oQ _) (.inl (by assumption)) ?_)));refine sE rfl (nl J (J12 _ _ (aL (o6 rfl (.inr rfl) ⟨_,_,_,_,_,_,rfl,mm_,iJ,_,(gS (by simp [uw,qY])),(by simp [uw,qY]),rfl⟩ rfl ?_))))
  (rw [OD,rB_ hx lx,Nat.mod_eq_of_lt (gj_ hx lx hn)];rfl)

theorem N4 (xs:List Nat) (hx:xs.length=16) (lx:Lim xs) (n:Nat) (hn:n<32) :
    Ret Tryz.prog 231 [UV xs,.int .i64 (n:Int)] (UV (toL 16 (val xs / 2 ^ n))):=by
 refine cM (N:=33) Tryz.func231 rfl rfl (by simp) (fun w0=>?_);simp only [cS,Nat.reduceAdd];refine Sq fun K1 J1=>Rk fun K J=>bA rfl (qR rfl rfl (fun b2 hb2=>bA rfl (i1 y6 (fun b4 hb4=>nl J (J1 _ _ (Sq fun K2 J2=>Rk fun K J=>bA rfl (i1 y6 (fun b5 hb5=>nl J (J2 _ _ (Sq fun K3 J3=>Sq fun K4 J4=>Rk fun K J=>sE rfl (nl J (J4 _ _ (aJ ?_)))))))))))));refine eA [6,7,8,9,10,11,12,13,14,15,16,17,18,19,20,21,22,23,24,25,26,27,28,29,30,31] (fun g nn M=>∃ (k:Nat),(g 8 = .int .i64 (k:Int))∧M=[⟨b5,29,uw (IF k (val xs / 2 ^ n) 16)⟩,⟨b4,29,uw (List.replicate 16 0)⟩,⟨b2,29,uw xs⟩]∧nn=16 - k∧(k≤16)) (16) ?start ?round
 case start =>
  refine ⟨_,(List.Sublist.refl _),0,?a8,?mem0,rfl,Nat.zero_le _⟩
  case mem0=>rw [KC]
  case a8=>rfl
 case round =>
  rintro nn g M ⟨k,hg8,rfl,hmeas,hk⟩;subst nn;simp only [dQ,hg8];clear hg8;refine Sq fun K5 J5=>Rk fun K J=>sE rfl (nl J (J5 _ _ (Sq fun K6 J6=>?_)));refine fN _ rfl (fun hc=>?_) (fun hc=>?_)
  ·replace hc:=cB_ hc
   have hc:k<16:=by omega
   refine aG (J6 _ _ (Sq fun K7 J7=>aJ (Sq fun K8 J8=>Rk fun K J=>sE rfl (sE rfl (nl J (J8 _ _ (Sq fun K9 J9=>Rk fun K J=>sE rfl (nl J (J9 _ _ (Sq fun K10 J10=>Sq fun K11 J11=>Rk fun K J=>sE rfl (sQ (aZ (pH rfl rfl) (congrArg (Value.int .i64) (rF oo_))) rfl ?_)))))))))));refine sE rfl (nl J (J11 _ _ ?_));refine fN _ rfl (fun h13=>?_) (fun h13=>?_)
   ·replace h13:=cB_ h13
    refine Rk fun K J=>sE rfl (sQ (aZ (pH rfl rfl) (congrArg (Value.int .i64) (rF oo_))) rfl (sQ (j7 mI rfl rfl oo_ oo_) rfl (sQ (iA n9 rfl mm_ (DW oo_)) rfl ?_)));refine sQ (aZ (i7 nP kV rfl) (congrArg (Value.int .u64) (tL (iZ lx _)))) rfl (sE rfl (nl J (J10 _ _ (Rk fun K J=>sE rfl (sQ (aZ (rS rfl) (show _=Value.int .u64 ((dig (val xs) (k+1):Nat):Int) from by first | exact congrArg (fun m:Nat=>Value.int .u64 (m:Int)) (kJ xs (k+1) lx) | exact congrArg (fun m:Nat=>Value.int .u64 (m:Int)) (b4_ hx lx oo_).symm)) rfl ?_)))));refine sQ (aZ (LX rfl rfl dd_) (congrArg (Value.int .u64) (HI (AM _ _)))) rfl (sE rfl (sQ (j7 mI rfl rfl oo_ oo_) rfl (sQ (iA n9 rfl mm_ (DW oo_)) rfl ?_)));refine sQ (aZ (i7 nP kV rfl) (congrArg (Value.int .u64) ((tL (iZ lx _)).trans (by rw [kJ xs k lx])))) rfl (sQ (aZ (a2_ rfl rfl) (congrArg (Value.int .u64) (T6 (AM _ _) (AM _ _)))) rfl (sE rfl (sQ (aZ (E3 rfl rfl oo_) (congrArg (Value.int .u64) (nS_ hn))) rfl (sQ (aZ (i7 kV nP rfl) (yM _)) rfl (sQ (j7 mI rfl rfl oo_ oo_) rfl (bA rfl (w7 n9 rfl rfl uu_ (by rw [qY _ hk];exact hc) (.inl (by assumption)) ?_)))))));refine nl J (J7 _ _ (Rk fun K J=>sE rfl (sE rfl (nl J ?_))));refine ⟨pp_,_,_,(List.Sublist.refl _),oo_,k+1,?s8,?mem,rfl,oo_⟩
    case mem=>rw [VC k oo_,IG _ hc]
    case s8=>exact congrArg (Value.int .i64) (rF oo_)
   replace h13:=cB_ h13
   refine aG (J10 _ _ (Rk fun K J=>sE rfl (sQ (aZ (rS rfl) (show _=Value.int .u64 ((dig (val xs) (k+1):Nat):Int) from by first | exact congrArg (fun m:Nat=>Value.int .u64 (m:Int)) (kJ xs (k+1) lx) | exact congrArg (fun m:Nat=>Value.int .u64 (m:Int)) (b4_ hx lx oo_).symm)) rfl ?_)));refine sQ (aZ (LX rfl rfl dd_) (congrArg (Value.int .u64) (HI (AM _ _)))) rfl (sE rfl (sQ (j7 mI rfl rfl oo_ oo_) rfl (sQ (iA n9 rfl mm_ (DW oo_)) rfl ?_)));refine sQ (aZ (i7 nP kV rfl) (congrArg (Value.int .u64) ((tL (iZ lx _)).trans (by rw [kJ xs k lx])))) rfl (sQ (aZ (a2_ rfl rfl) (congrArg (Value.int .u64) (T6 (AM _ _) (AM _ _)))) rfl (sE rfl (sQ (aZ (E3 rfl rfl oo_) (congrArg (Value.int .u64) (nS_ hn))) rfl (sQ (aZ (i7 kV nP rfl) (yM _)) rfl (sQ (j7 mI rfl rfl oo_ oo_) rfl (bA rfl (w7 n9 rfl rfl uu_ (by rw [qY _ hk];exact hc) (.inl (by assumption)) ?_)))))));refine nl J (J7 _ _ (Rk fun K J=>sE rfl (sE rfl (nl J ?_))));refine ⟨pp_,_,_,(List.Sublist.refl _),oo_,k+1,?s8,?mem,rfl,oo_⟩
   case mem=>rw [VC k oo_,IG _ hc]
   case s8=>exact congrArg (Value.int .i64) (rF oo_)
  replace hc:=cB_ hc
  obtain rfl:k=16:=by omega
  refine dW (aU (aU (bJ (J3 _ _ (Sq fun K12 J12=>Rk fun K J=>sQ (eG iJ rfl mm_ (by simp [uw,qY])) rfl ?_)))));refine bA rfl (dX iJ rfl rfl uu_ (by simp [uw,qY]) rfl (oQ _) (.inl (by assumption)) ?_);refine nl J (J12 _ _ (aL (cC rfl (.inr rfl) ⟨_,_,_,_,_,_,rfl,mm_,iJ,_,(gS (by simp [uw,qY])),(by simp [uw,qY]),rfl⟩ ?_)))
  (rw [OD];rfl)

theorem TX (xs:List Nat) (hx:xs.length=16) (lx:Lim xs) (d:Nat) (hd:d<4294967296) (h0:0<d) :
    Ret Tryz.prog 251 [UV xs,U32 d] (.tuple #[UV (toL 16 (val xs / d)),U32 (val xs % d)]):=by
 refine cM (N:=33) Tryz.func251 rfl rfl (by simp) (fun w0=>?_);simp only [cS,Nat.reduceAdd];refine Sq fun K1 J1=>Rk fun K J=>bA rfl (qR rfl rfl (fun b2 hb2=>bA rfl (i1 y6 (fun b4 hb4=>sE rfl (nl J (J1 _ _ (Sq fun K2 J2=>Rk fun K J=>sE rfl (nl J (J2 _ _ (Sq fun K3 J3=>Sq fun K4 J4=>Rk fun K J=>sE rfl (nl J (J4 _ _ (aJ ?_)))))))))))));refine eA [6,7,8,9,10,11,12,13,14,15,16,17,18,19,20,21,22,23,24,25,26,27,28,29] (fun g nn M=>∃ (k:Nat),(g 6 = .int .u64 ((val xs / 4294967296 ^ k % d:Nat):Int)∧g 7 = .int .i64 ((k:Int) - 1))∧M=[⟨b4,29,uw (HC k (val xs / d))⟩,⟨b2,29,uw xs⟩]∧nn=k+0∧(k≤16)) (16) ?start ?round
 case start =>
  refine ⟨_,(List.Sublist.refl _),16,⟨?a6,?a7⟩,?mem0,rfl,Nat.le_refl _⟩
  case mem0=>rw [gK_]
  case a6=>rw [q0_ hx lx];rfl
  case a7=>rfl
 case round =>
  rintro nn g M ⟨k,⟨hg6,hg7⟩,rfl,hmeas,hk⟩;subst nn;simp only [dQ,hg6,hg7];clear hg6 hg7;refine Sq fun K5 J5=>Sq fun K6 J6=>Rk fun K J=>sE rfl (sE rfl (nl J (J6 _ _ ?_)));refine fN _ rfl (fun hc=>?_) (fun hc=>?_)
  ·replace hc:=cB_ hc
   obtain ⟨m,rfl⟩:∃ m,k=m+1:=⟨k - 1,by omega⟩;have hr:val xs / 4294967296 ^ (m+1) % d<4294967296:=Nat.lt_trans (Nat.mod_lt _ h0) hd;refine aG (J5 _ _ (Sq fun K7 J7=>aJ (Sq fun K8 J8=>Rk fun K J=>sQ (aZ (rS rfl) rfl) rfl (sQ (aZ (LX rfl rfl dd_) (congrArg (Value.int .u64) (HI hr))) rfl (sQ (aZ (rS rfl) (congrArg (Value.int .i64) (show (((m+1:Nat):Int) - 1)=(m:Int) by omega))) rfl (sQ (j7 mI rfl rfl oo_ oo_) rfl (sQ (iA n9 rfl mm_ (DW oo_)) rfl ?_)))))));refine sQ (aZ (i7 nP kV rfl) (congrArg (Value.int .u64) ((tL (iZ lx _)).trans (by rw [kJ xs m lx])))) rfl (sQ (aZ (a2_ rfl rfl) (congrArg (Value.int .u64) (T6 hr (AM _ _)))) rfl (sE rfl (nl J (J8 _ _ (Sq fun K9 J9=>Rk fun K J=>sQ (aZ (rS rfl) (congrArg (Value.int .i64) (show (((m+1:Nat):Int) - 1)=(m:Int) by omega))) rfl (sE rfl (sE rfl (sQ (aZ (i7 nP kV rfl) (congrArg (Value.int .u64) (tL hd))) rfl (sQ (aZ (rA rfl rfl oo_) (congrArg (Value.int .u64) (fV_ _ _))) rfl (sQ (aZ (i7 kV nP rfl) (yM _)) rfl (sQ (j7 mI rfl rfl oo_ oo_) rfl (bA rfl (w7 n9 rfl rfl uu_ (by rw [wW _ oo_];omega) (.inl (by assumption)) ?_)))))))))))));refine nl J (J9 _ _ (Rk fun K J=>sE rfl (sE rfl (sQ (aZ (i7 nP kV rfl) (congrArg (Value.int .u64) (tL hd))) rfl (sQ (aZ (w6 rfl rfl oo_) (congrArg (Value.int .u64) (OO _ _))) rfl (sE rfl (nl J (J7 _ _ (Rk fun K J=>sQ (aZ (rS rfl) (congrArg (Value.int .i64) (show (((m+1:Nat):Int) - 1)=(m:Int) by omega))) rfl (sE rfl (sE rfl (nl J ?_))))))))))));refine ⟨pp_,_,_,(List.Sublist.refl _),oo_,m,⟨?s6,?s7⟩,?mem,rfl,oo_⟩
   case mem=>rw [eJ_ m h0,RZ oo_]
   case s6=>exact congrArg (fun m:Nat=>Value.int .u64 (m:Int)) (TB m h0).2
   case s7=>exact congrArg (Value.int .i64) (eM (n:=(m:Int) - 1) (by unfold I64;omega))
  replace hc:=cB_ hc
  obtain rfl:k=0:=by omega
  refine dW (aU (aU (bJ (J3 _ _ (Sq fun K10 J10=>Rk fun K J=>sQ (eG iJ rfl mm_ (by simp [uw,wW])) rfl ?_)))));refine sE rfl (sQ (aZ (i7 kV nP rfl) (yM _)) rfl (bA rfl (dX iJ rfl rfl uu_ (by simp [uw,wW]) (by simp [uw,wW]) (oQ _) (.inl (by assumption)) ?_)));refine sE rfl (nl J (J10 _ _ (aL (o6 rfl (.inr rfl) ⟨_,_,_,_,_,_,rfl,mm_,iJ,_,(gS (by simp [uw,wW])),(by simp [uw,wW]),rfl⟩ rfl ?_))))
  (rw [Y0,Nat.pow_zero,Nat.div_one,Nat.mod_eq_of_lt (Nat.lt_trans (Nat.mod_lt _ h0) hd)];rfl)
theorem B4 (xs ys:List Nat) (hx:xs.length=16) (hy:ys.length=16) (lx:Lim xs) (ly:Lim ys) (h0:0<val ys) :
    Ret Tryz.prog 206 [UV xs,UV ys] (.tuple #[UV (toL 16 (val xs / val ys)),UV (toL 16 (val xs % val ys))]):=by
 refine cM (N:=94) Tryz.func206 rfl rfl (by simp) (fun w0=>?_);simp only [cS,Nat.reduceAdd];refine Sq fun K1 J1=>Rk fun K J=>bA rfl (qR rfl rfl (fun b2 hb2=>bA rfl (qR rfl rfl (fun b3 hb3=>bA rfl (i1 y6 (fun b4 hb4=>bA rfl (i1 y6 (fun b5 hb5=>nl J (J1 _ _ (Sq fun K2 J2=>dr (sk (sk (sk (sk (s0))))) [0,4,8,12,16,20] [] mix (by kernel_rfl) (fun K J=>pQ rfl (eG iJ rfl mm_ (by simp [uw,hy])) ?_)))))))))));refine pQ rfl (bZ PQ (xD ys hy) rfl) (pQ rfl (eG iJ rfl mm_ (by simp [uw,hx])) ?_);refine pQ rfl (bZ PQ (xD xs hx) rfl) (pE rfl (pE rfl (fl J (J2 _ _ (Sq fun K3 J3=>Sq fun K4 J4=>Rk fun K J=>sQ (eG iJ rfl mm_ (by simp [uw,hx])) rfl ?_)))));refine sQ (eG iJ rfl mm_ (by simp [uw,hy])) rfl ?_;refine sQ (bZ RU (xR xs ys hx hy lx ly) rfl) rfl (sE rfl (nl J (J4 _ _ ?_)));refine fN _ rfl (fun ho=>?_) (fun ho=>?_)
 ·replace ho:=cB_ ho
  have hlt:=h9_ ho;refine Sq fun K5 J5=>dr (sd (sd (sk (sk (s0))))) [0,6,9,13] [2,3] mix (by kernel_rfl) (fun K J=>pQ rfl (yU y6 mI rfl (.nil _)) (RL rfl rfl (eG iJ rfl mm_ (by simp [uw,hx])) ?_));refine d7 rfl rfl (dX iJ rfl rfl uu_ (by simp [uw,List.length_replicate]) (by simp [uw]) (oQ _) (.inl (by assumption)) ⟨nf,ss_,?_⟩);refine d7 rfl rfl (dX iJ rfl rfl uu_ (by simp [uw,hx]) (by simp [uw]) (oQ _) (.inl (by assumption)) ⟨nf,ss_,?_⟩);refine fl J (J5 _ _ (aL (aB (o6 rfl (.inr rfl) ⟨_,_,_,_,_,_,rfl,mm_,iJ,_,(gS (by simp [uw])),(by simp [uw]),rfl⟩ ⟨_,_,_,_,_,_,rfl,mm_,iJ,_,(gS (by simp [uw,hx])),(by simp [uw,hx]),rfl⟩ ?_))));exact ks_ hx lx hlt
 replace ho:=cB_ ho
 have hle:=e9_ (Int.not_lt.1 ho);have hsp:=qy_ h0;have hsz:=FD ys;rw [hy] at hsz;refine aG (J3 _ _ (Sq fun K6 J6=>Sq fun K7 J7=>Rk fun K J=>sE rfl (sE rfl (nl J (J7 _ _ ?_)))));refine fN _ rfl (fun h29=>?_) (fun h29=>?_)
 ·replace h29:=cB_ h29
  have hsz1:szL ys=1:=by omega
  refine Sq fun K8 J8=>Rk fun K J=>sQ (eG iJ rfl mm_ (by simp [uw,hx])) rfl ?_;refine sQ (j7 mI rfl rfl dd_ dd_) rfl (sQ (iA n9 rfl mm_ (DW (k:=0) oo_)) rfl ?_);refine sQ (bZ pn_ (TX xs hx lx _ (iZ ly 0) (fM_ hsz1)) rfl) rfl (sE rfl (sE rfl (sE rfl (bA rfl (i1 y6 (fun b8 hb8=>bA rfl (dX iJ rfl rfl uu_ (by simp [uw,fT]) (by simp [uw]) (oQ _) (.inl (by assumption)) ?_)))))));refine sE rfl (nl J (J8 _ _ (Sq fun K9 J9=>Rk fun K J=>sQ (eG iJ rfl mm_ (by simp [uw,fT])) rfl ?_)));refine sE rfl (sQ (yU y6 mI rfl (rt_ _)) rfl (bA rfl (dX iJ rfl rfl uu_ (by simp [uw,fT]) (by simp [uw]) (oQ _) (.inl (by assumption)) ?_)));refine bA rfl (dX iJ rfl rfl uu_ (by simp [uw,List.length_replicate]) (by simp [uw]) (oQ _) (.inl (by assumption)) ?_);refine nl J (J9 _ _ (aL (aB (o6 rfl (.inr rfl) ⟨_,_,_,_,_,_,rfl,mm_,iJ,_,(gS (by simp [uw,fT])),(by simp [uw,fT]),rfl⟩ ⟨_,_,_,_,_,_,rfl,mm_,iJ,_,(gS (by simp [uw])),(by simp [uw]),rfl⟩ ?_))));exact mv_ ly hsz1
 replace h29:=cB_ h29
 have h2:2≤szL ys:=by omega
 have D:DV xs ys (szL ys) (32 - bl (ys.getD (szL ys - 1) 0)):=⟨hx,hy,lx,ly,rfl,h2,rfl,hle⟩;refine aG (J6 _ _ (Sq fun K10 J10=>Rk fun K J=>sE rfl (sQ (aZ (x9 rfl rfl) (congrArg (Value.int .i64) (DS (b:=1) rfl oo_ oo_))) rfl (sQ (j7 mI rfl rfl oo_ oo_) rfl (sQ (iA n9 rfl mm_ (DW oo_)) rfl ?_)))));refine sQ (bZ po_ (jJ_ _ (iZ ly _)) rfl) rfl (sE rfl (nl J (J10 _ _ (Sq fun K11 J11=>Rk fun K J=>sQ (eG iJ rfl mm_ (by simp [uw,hy])) rfl ?_))));refine sE rfl (sQ (bZ ay_ (FS ys hy ly _ D.s32) rfl) rfl (sE rfl (sE rfl (sE rfl (bA rfl (i1 y6 (fun b11 hb11=>bA rfl (dX iJ rfl rfl uu_ (by simp [uw,fT]) (by simp [uw]) (oQ _) (.inl (by assumption)) ?_))))))));refine sE rfl (nl J (J11 _ _ (Sq fun K12 J12=>Rk fun K J=>sQ (eG iJ rfl mm_ (by simp [uw,hx])) rfl ?_)));refine sE rfl (sQ (bZ ay_ (FS xs hx lx _ D.s32) rfl) rfl (sE rfl (sE rfl (sE rfl (bA rfl (i1 y6 (fun b13 hb13=>bA rfl (dX iJ rfl rfl uu_ (by simp [uw,fT]) (by simp [uw]) (oQ _) (.inl (by assumption)) ?_))))))));refine sE rfl (nl J (J12 _ _ (Sq fun K13 J13=>Rk fun K J=>bA rfl (i1 sh_ (fun b15 hb15=>nl J (J13 _ _ (Sq fun K14 J14=>dr (sd (sk (sk (sk (sk (sk (sk (s0)))))))) [0,4,9] [2] mix (by kernel_rfl) (fun K J=>pQ rfl (EI CR rfl rfl rfl dd_ dd_ dd_ dd_) (pQ rfl (EI mI rfl rfl rfl dd_ dd_ dd_ dd_) ?_)))))))));refine d7 rfl rfl (a5_ bh_ rfl rfl mm_ uu_ (fun v hv=>oQ _ v (List.mem_of_mem_drop (List.mem_of_mem_take hv))) (by simp [uw,fT]) (by simp [uw]) (lM_ (fT _ _)) (.inl (by assumption)) ⟨nf,ss_,?_⟩);refine fl J (J14 _ _ (Sq fun K15 J15=>Rk fun K J=>sE rfl (sQ (j7 CR rfl rfl dd_ dd_) rfl (bA rfl (w7 (k:=16) n9 rfl rfl uu_ (by simp [fT]) (.inl (by assumption)) ?_)))));refine nl J (J15 _ _ (Sq fun K16 J16=>Sq fun K17 J17=>Rk fun K J=>sE rfl (sE rfl (sQ (aZ (x9 rfl rfl) (congrArg (Value.int .i64) (gb_ D.nm (by have:=D.m16;omega)))) rfl (sE rfl (nl J (J17 _ _ (aJ ?_))))))));refine eA [16,17,65,66,67,68,69,70,71,72,73,74,75,76,77,78,79,80,81,82,83,84,85,86,87] (fun g nn M=>∃ (k:Nat) (l:List Nat),(g 16 = .int .i64 ((k:Int) - 1))∧M=[⟨b15,254,uw l⟩,⟨b13,29,uw (toL 16 (val xs * 2 ^ (32 - bl (ys.getD (szL ys - 1) 0))))⟩,⟨b11,29,uw (toL 16 (val ys * 2 ^ (32 - bl (ys.getD (szL ys - 1) 0))))⟩,⟨b5,29,uw (List.replicate 16 0)⟩,⟨b4,29,uw (HC k (val xs / val ys))⟩,⟨b3,29,uw ys⟩,⟨b2,29,uw xs⟩]∧nn=k+0∧(k+szL ys≤17∧QI xs ys (32 - bl (ys.getD (szL ys - 1) 0)) k l)) (szL xs - szL ys+1) ?start ?round
 case start =>
  refine ⟨_,(List.Sublist.refl _),szL xs - szL ys+1,((toL 16 (val xs * 2 ^ (32 - bl (ys.getD (szL ys - 1) 0))) ++ [0]).set 16 (val xs * 2 ^ (32 - bl (ys.getD (szL ys - 1) 0)) / 4294967296 ^ 16)),?a16,?mem0,rfl,⟨by have:=D.nm;have:=D.m16;omega,QI.start D⟩⟩
  case mem0=>rw [← DV.qstart D]
  case a16=>exact congrArg (Value.int .i64) oo_
 case round =>
  rintro nn g M ⟨k,l,hg16,rfl,hmeas,⟨hkn,hq⟩⟩;subst nn;simp only [dQ,hg16];clear hg16;refine Sq fun K18 J18=>Sq fun K19 J19=>Rk fun K J=>sE rfl (sE rfl (nl J (J19 _ _ ?_)));refine fN _ rfl (fun hc=>?_) (fun hc=>?_)
  ·replace hc:=cB_ hc
   obtain ⟨m,rfl⟩:∃ m,k=m+1:=⟨k - 1,by omega⟩;refine aG (J18 _ _ (Sq fun K20 J20=>aJ (Sq fun K21 J21=>Rk fun K J=>sQ (eG iJ rfl mm_ (by simp [uw,fT])) rfl ?_)));refine sE rfl (sQ (aZ (rS rfl) (congrArg (Value.int .i64) (show (((m+1:Nat):Int) - 1)=(m:Int) by omega))) rfl (bA rfl (mx_ pq_ rfl (fun w hw=>TW l _ (szL ys) m (hq.qh D oo_) b15 254 w (hw.mem _ m0)) (fun d hd=>sE rfl (nl J (J21 _ _ (Sq fun K22 J22=>Sq fun K23 J23=>Rk fun K J=>sQ (eG iJ rfl mm_ (by simp [uw,fT])) rfl ?_)))))));refine sE rfl (sQ (aZ (rS rfl) (congrArg (Value.int .i64) (show (((m+1:Nat):Int) - 1)=(m:Int) by omega))) rfl (sE rfl (bA rfl (fW_ pr_ rfl (fun w hw=>XV l _ (szL ys) m d hq.len hq.lim (fT _ _) (uP _ _) (by rw [D.v16];exact D.vlt) oo_ (hq.small D) hd.1 b15 254 w (hw.mem _ m0)) (fun x=>uu_) (.inl (by assumption)) (fun x ht=>?_)))));refine nl J (J23 _ _ ?_);refine fN _ rfl (fun h77=>?_) (fun h77=>?_)
   ·replace h77:=cB_ h77
    refine Sq fun K24 J24=>Rk fun K J=>sE rfl (sQ (aZ (x9 rfl rfl) (congrArg (Value.int .u64) (W9 rfl (ht.pos oo_) (by have:=hd.1;omega)))) rfl (sE rfl (nl J (J24 _ _ (Rk fun K J=>sQ (eG iJ rfl mm_ (by simp [uw,fT])) rfl ?_)))));refine sE rfl (sQ (aZ (rS rfl) (congrArg (Value.int .i64) (show (((m+1:Nat):Int) - 1)=(m:Int) by omega))) rfl (bA rfl (fW_ ps_ rfl (fun w hw=>XS x.1 _ (szL ys) m ht.len ht.lim (fT _ _) (uP _ _) (by rw [D.v16];exact D.vlt) oo_ ht.small b15 254 w (hw.mem _ m0)) (fun y=>uu_) (.inl (by assumption)) (fun y hgv=>?_))));refine nl J ?_;obtain ⟨hz,hdz,_⟩:=hq.took1 D hd ht oo_ hgv;refine J22 _ _ (Rk fun K J=>sQ (aZ (rS rfl) (congrArg (Value.int .i64) (show (((m+1:Nat):Int) - 1)=(m:Int) by omega))) rfl (sE rfl (sQ (aZ (i7 kV nP rfl) (yM _)) rfl (sQ (j7 mI rfl rfl oo_ oo_) rfl (bA rfl (w7 n9 rfl rfl uu_ (by rw [wW _ oo_];omega) (.inl (by assumption)) ?_))))));refine nl J (J20 _ _ (Rk fun K J=>sQ (aZ (rS rfl) (congrArg (Value.int .i64) (show (((m+1:Nat):Int) - 1)=(m:Int) by omega))) rfl (sE rfl (sE rfl (nl J ?_)))));refine ⟨pp_,_,_,(List.Sublist.refl _),oo_,m,_,?s16,?mem,rfl,⟨by omega,hz⟩⟩
    case mem=>rw [hdz,RZ oo_]
    case s16=>exact congrArg (Value.int .i64) (eM (n:=(m:Int) - 1) (by unfold I64;omega))
   replace h77:=cB_ h77
   obtain ⟨hz,hdz⟩:=hq.took0 D hd ht oo_;refine aG (J22 _ _ (Rk fun K J=>sQ (aZ (rS rfl) (congrArg (Value.int .i64) (show (((m+1:Nat):Int) - 1)=(m:Int) by omega))) rfl (sE rfl (sQ (aZ (i7 kV nP rfl) (yM _)) rfl (sQ (j7 mI rfl rfl oo_ oo_) rfl (bA rfl (w7 n9 rfl rfl uu_ (by rw [wW _ oo_];omega) (.inl (by assumption)) ?_)))))));refine nl J (J20 _ _ (Rk fun K J=>sQ (aZ (rS rfl) (congrArg (Value.int .i64) (show (((m+1:Nat):Int) - 1)=(m:Int) by omega))) rfl (sE rfl (sE rfl (nl J ?_)))));refine ⟨pp_,_,_,(List.Sublist.refl _),oo_,m,_,?s16,?mem,rfl,⟨by omega,hz⟩⟩
   case mem=>rw [hdz,RZ oo_]
   case s16=>exact congrArg (Value.int .i64) (eM (n:=(m:Int) - 1) (by unfold I64;omega))
  replace hc:=cB_ hc
  obtain rfl:k=0:=by omega
  refine dW (aU (aU (bJ (J16 _ _ (Sq fun K25 J25=>dr (sk (sk (sk (sd (sd (sk (sk (s0)))))))) [0,4,8,12,16,20,25,29] [6,7] mix (by kernel_rfl) (fun K J=>pQ rfl (eG iJ rfl mm_ (by rw [nW,wW _ oo_])) ?_))))));refine pQ rfl (EI CR rfl rfl rfl dd_ dd_ dd_ dd_) (pQ rfl (ko_ mI rfl dd_) (pQ rfl (oZ (vs:=uw (l.take 16)) iJ rfl mm_ mT_ (by simp [uw,hq.len])) ?_));refine pE rfl (pQ rfl (bZ iP_ (N4 (l.take 16) (by simp [hq.len]) (hq.lim.take 16) _ D.s32) rfl) ?_);refine d7 rfl rfl (dX iJ rfl rfl uu_ (by rw [nW,wW _ oo_]) (by rw [nW,wW _ oo_]) (oQ _) (.inl (by assumption)) ⟨nf,ss_,?_⟩);refine d7 rfl rfl (dX iJ rfl rfl uu_ (by simp [uw,fT]) (by simp [uw]) (oQ _) (.inl (by assumption)) ⟨nf,ss_,?_⟩);refine fl J (J25 _ _ (aL (o6 rfl (.inr rfl) ⟨_,_,_,_,_,_,rfl,mm_,iJ,_,(gS (by rw [nW,wW _ oo_])),(by rw [nW,wW _ oo_]),rfl⟩ ⟨_,_,_,_,_,_,rfl,mm_,iJ,_,(gS (by simp [uw,fT])),(by simp [uw,fT]),rfl⟩ ?_)))
  (rw [Y0,hq.fin D];rfl)
end Go.Proofs.YtkjjponijamaoaaGreatDoor

