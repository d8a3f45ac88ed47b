/- Lemmas: what they ask stands in their statements. -/
import Derived.Test.YtkjjponijamaoaaGreatDoorYFa0
set_option linter.unusedSimpArgs false
set_option linter.unusedVariables false
set_option maxHeartbeats 8000000
set_option maxRecDepth 20000
namespace Go.Proofs.YtkjjponijamaoaaGreatDoor
open Go.Kn Go.Num
theorem nD (va:Value) (l:List Nat) (k:Nat) (w:World) (hva:Sl w va l) :
    Calls Tryz.prog 236 [va,.int .i64 (k:Int)].toArray w (fun e w'=>e = .returned (.int .i64 ((l.getD k 0:Nat):Int))∧Ext w w'):=by
 refine d6 (N:=13) Tryz.func236 rfl rfl (by simp) ?_;obtain ⟨w0,rfl⟩:∃ w0,w0=w:=⟨_,rfl⟩;simp only [cS,Nat.reduceAdd];refine Sq fun K1 J1=>Rk fun K J=>sE rfl (nl J (J1 _ _ (Sq fun K2 J2=>Sq fun K3 J3=>Rk fun K J=>sE rfl (sE rfl (sQ (vV mT rfl hva.old) rfl (sE rfl (nl J (J3 _ _ ?_))))))));refine fN _ rfl (fun hk=>?_) (fun hk=>?_)
 ·replace hk:=cB_ hk
  refine Sq fun K4 J4=>Rk fun K J=>sE rfl (sE rfl (sQ (KU mT rfl rfl hva.old oo_) rfl (sQ (FL dP rfl hva.old oo_) rfl (sE rfl (nl J (J4 _ _ (aL (aB (cC rfl (.inr rfl) rfl ?_)))))))));exact rfl
 replace hk:=cB_ hk
 refine aG (J2 _ _ (Sq fun K5 J5=>Rk fun K J=>sE rfl (nl J (J5 _ _ (aL (cC rfl (.inr rfl) rfl ?_))))));exact congrArg (fun n:Nat=>Value.int .i64 (n:Int)) (show 0=l.getD k 0 by simp [List.getD,List.getElem?_eq_none (show l.length≤k by omega)])

theorem qO (va:Value) (l:List Nat) (hD:DL l) (hn:l.length≤1000) (w:World) (hva:Sl w va l) :
    Calls Tryz.prog 235 [va].toArray w (fun e w'=>e = .returned (sls va (dl (dv l)).length)∧Ext w w'):=by
 refine d6 (N:=21) Tryz.func235 rfl rfl (by simp) ?_;obtain ⟨w0,rfl⟩:∃ w0,w0=w:=⟨_,rfl⟩;simp only [cS,Nat.reduceAdd];refine Sq fun K1 J1=>Rk fun K J=>sE rfl (nl J (J1 _ _ (Sq fun K2 J2=>Rk fun K J=>sE rfl (sQ (vV mT rfl hva.old) rfl (sE rfl (nl J (J2 _ _ (Sq fun K3 J3=>aJ ?_))))))));refine eA [3,6,7,8,9,10,11,12,13,14,15,16,17] (fun g nn M=>∃ (k:Nat),(g 3 = .int .i64 (k:Int))∧M=[]∧nn=k+0∧(k≤l.length∧∀ j,k≤j→l.getD j 0=0)) (l.length) ?start ?round
 case start =>
  refine ⟨_,(List.Sublist.refl _),l.length,?a3,?mem0,rfl,⟨Nat.le_refl _,fun j hj=>by simp [List.getD,List.getElem?_eq_none (show l.length≤j by omega)]⟩⟩
  case mem0=>rfl
  case a3=>rfl
 case round =>
  rintro nn g M ⟨k,hg3,rfl,hmeas,⟨hk,hhi⟩⟩;subst nn;simp only [dQ,hg3];clear hg3;refine Sq fun K4 J4=>Sq fun K5 J5=>Rk fun K J=>sE rfl (sE rfl (sE rfl ?_))
  cases hz:decide ((0:Int)<(k:Int))
  ·refine aI rfl (aI rfl (aI rfl (aI rfl (aI rfl (aI rfl (sE rfl (nl J (J5 _ _ (gJ rfl (dW (aU (aU (bJ (J3 _ _ (Sq fun K6 J6=>Rk fun K J=>sE rfl (sE rfl (sQ (kp_ mT rfl rfl hva.old oo_) rfl (sE rfl (nl J (J6 _ _ ?_))))))))))))))))))));refine aL (cC rfl (.inr rfl) rfl ?_);rw [XE hD,bl_ hhi (.inl (by have:=of_decide_eq_false hz;omega))]
  have hz':=of_decide_eq_true hz;obtain ⟨m,rfl⟩:∃ m,k=m+1:=⟨k - 1,by omega⟩;refine sE rfl (sE rfl (sQ (aZ (x9 rfl rfl) (congrArg (Value.int .i64) (I3 oo_))) rfl (sQ (KU mT rfl rfl hva.old oo_) rfl (sQ (FL dP rfl hva.old oo_) rfl (sE rfl (sE rfl (nl J (J5 _ _ ?_))))))));refine fN _ rfl (fun h0=>?_) (fun h0=>?_)
  ·replace h0:=cB_ h0
   refine aG (J4 _ _ (aJ (Rk fun K J=>sE rfl (sQ (aZ (x9 rfl rfl) (congrArg (Value.int .i64) (I3 oo_))) rfl (sE rfl (nl J ?_))))));refine ⟨pp_,_,_,(List.Sublist.refl _),oo_,m,?s3,?mem,rfl,⟨by omega,fun j hj=>by rcases Nat.eq_or_lt_of_le hj with rfl | hj;omega;exact hhi j hj⟩⟩
   case mem=>rfl
   case s3=>rfl
  replace h0:=cB_ h0
  refine dW (aU (aU (bJ (J3 _ _ (Sq fun K7 J7=>Rk fun K J=>sE rfl (sE rfl (sQ (kp_ mT rfl rfl hva.old oo_) rfl (sE rfl (nl J (J7 _ _ (aL (cC rfl (.inr rfl) rfl ?_))))))))))));rw [XE hD,bl_ hhi (.inr (by simp only [Nat.add_sub_cancel];omega))]

theorem eC (a:R) (ha:a.Ok) (w:World)  :
    Calls Tryz.prog 163 [RV a].toArray w (fun e w'=>∃ v,e = .returned v∧Ext w w'∧Slf w.heap.size w' v (dl (val a.w))):=by
 refine CT (N:=26) Tryz.func163 rfl rfl (by simp) ?_;obtain ⟨w0,rfl⟩:∃ w0,w0=w:=⟨_,rfl⟩;simp only [cS,Nat.reduceAdd];refine Sq fun K1 J1=>Rk fun K J=>bA rfl (qR rfl rfl (fun b1 hb1=>sE rfl (nl J (J1 _ _ (Sq fun K2 J2=>Rk fun K J=>sE rfl (nl J (J2 _ _ (Sq fun K3 J3=>Sq fun K4 J4=>Rk fun K J=>sE rfl (nl J (J4 _ _ (aJ ?_)))))))))));refine eA [3,4,5,6,7,8,9,10,11,12,13,14,15,16,17,18,19,20,21,22,23] (fun g nn M=>∃ (k:Nat) (v:Value) (l:List Nat) (L:List Blk),(g 3=v∧g 4 = .int .i64 (k:Int))∧M=L ++ [⟨b1,31,a.cells⟩]∧nn=16 - k∧(k≤16∧OwnL w0 3 v l L∧DL l∧l.length=2 * k∧dv l=val a.w % 4294967296 ^ k)) (16) ?start ?round
 case start =>
  refine ⟨_,(List.Sublist.refl _),0,_,[],[],⟨?a3,?a4⟩,?mem0,rfl,⟨Nat.zero_le _,.nil,DL.nil,rfl,by simp [dv,Nat.mod_one]⟩⟩
  case mem0=>rfl
  case a3=>rfl
  case a4=>rfl
 case round =>
  rintro nn g M ⟨k,v,l,L,⟨hg3,hg4⟩,rfl,hmeas,⟨hk,hO,hD,hlen,hdv⟩⟩;subst nn;simp only [dQ,hg3,hg4];clear hg3 hg4;refine Sq fun K5 J5=>Sq fun K6 J6=>Rk fun K J=>sE rfl (sE rfl (nl J (J6 _ _ ?_)));refine fN _ rfl (fun hc=>?_) (fun hc=>?_)
  ·replace hc:=cB_ hc
   have hc:k<16:=by omega
   refine aG (J5 _ _ (Sq fun K7 J7=>aJ (dr sn [0,4,8,12,16,20,24,28,32,36,40,44,48,53,57,60] [14] mix (by kernel_rfl) (fun K J=>pE rfl (pE rfl (pQ rfl (eX jY dd_ rfl) (pQ rfl (j7 mI rfl rfl oo_ oo_) (pQ rfl (iA n9 rfl mm_ (wA (r:=a) (k:=k) (by rw [ha.len];omega))) ?_))))))));refine pQ rfl (w6 rfl rfl dd_) (pQ rfl (aZ (i7 nP OW rfl) (rY_ (iZ ha.lim k))) (pE rfl (pQ rfl (eX jY dd_ rfl) (pQ rfl (j7 mI rfl rfl oo_ oo_) (pQ rfl (iA n9 rfl mm_ (wA (r:=a) (k:=k) (by rw [ha.len];omega))) ?_)))));refine pQ rfl (rA rfl rfl dd_) (pQ rfl (aZ (i7 nP OW rfl) (rV_ (iZ ha.lim k))) ?_);refine d7 rfl rfl (pW mG z_3 xK rfl dd_ rfl (pI_ _ _) (fun b22 hb22=>⟨(fun _=>by first | exact sd s0 | exact s0),ss_,?_⟩));refine d7 rfl rfl (NP mG cI_ rfl rfl hO (SL.mine (l:=[a.w.getD k 0 % 65536,a.w.getD k 0 / 65536]) (.head _) (Nat.le_refl _)) (List.sublist_cons_self _ _) (by simp;omega) (fun v' L' hO'=>⟨nf,ss_,?_⟩));refine pE rfl (fl J (J7 _ _ (Rk fun K J=>sE rfl (sQ (aZ (pH rfl rfl) (congrArg (Value.int .i64) (rF oo_))) rfl (sE rfl (nl J ?_))))));refine ⟨pp_,_,_,(List.Sublist.refl _),oo_,k+1,_,_,_,⟨?s3,?s4⟩,?mem,rfl,⟨by omega,hO',hD.append (DL.two (iZ ha.lim k)),by simp [hlen];omega,b5_ ha.lim hlen hdv⟩⟩
   case mem=>rfl
   case s3=>rfl
   case s4=>rfl
  replace hc:=cB_ hc
  obtain rfl:k=16:=by omega
  refine dW (aU (aU (bJ (J3 _ _ (Sq fun K8 J8=>Rk fun K J=>sE rfl (sQ (dA PV rfl (fun w hw=>qO v l hD oo_ w (SL.sl (hO.sl lZ) hw))) rfl (sE rfl (nl J (J8 _ _ (aL (cC rfl (.inr rfl) rfl ?_)))))))))));exact FX hD (by rw [hdv,dI_ ha]) (hO.slf lZ)

theorem gH  :
    Ret Tryz.prog 89 [] (RV Z.bad.enc):=by
 refine cM (N:=2) Tryz.func89 rfl rfl (by simp) (fun w0=>?_);simp only [cS,Nat.reduceAdd];refine Sq fun K1 J1=>Rk fun K J=>bA rfl (i1 oM (fun b0 hb0=>nl J (J1 _ _ (Sq fun K2 J2=>Rk fun K J=>sQ (GE oM IW rfl (.cons rfl (vs:=[.bool true]) rfl rfl (by simp [zR]) (z':=Z.bad.enc.cells) rfl (.nil _))) rfl ?_))));refine bA rfl (dX aD rfl rfl uu_ rfl rfl (dL Z.bad.enc) (.inl (by assumption)) ?_);refine nl J (J2 _ _ (aL (cC rfl (.inr rfl) ⟨_,_,_,_,_,_,rfl,mm_,aD,_,(gS rfl),rfl,rfl⟩ ?_)));exact rfl

theorem CB (r:R) (h:r.Ok) :
    Ret Tryz.prog 227 [RV r] (.bool r.valid):=by
 refine cM (N:=32) Tryz.func227 rfl rfl (by simp) (fun w0=>?_);simp only [cS,Nat.reduceAdd];refine Sq fun K1 J1=>Rk fun K J=>bA rfl (qR rfl rfl (fun b1 hb1=>sE rfl (nl J (J1 _ _ (Sq fun K2 J2=>Rk fun K J=>sE rfl (nl J (J2 _ _ (Sq fun K3 J3=>Sq fun K4 J4=>Rk fun K J=>sE rfl (nl J (J4 _ _ (aJ ?_)))))))))));refine eA [3,4,5,6,7,8,9,10,11,12,13,14,15,16] (fun g nn M=>∃ (k:Nat) (z:Bool),(g 3 = .bool z∧g 4 = .int .i64 (k:Int))∧M=[⟨b1,31,r.cells⟩]∧nn=16 - k∧(k≤16∧(z=true ↔ ∀ j,j<k→r.w.getD j 0=0))) (16) ?start ?round
 case start =>
  refine ⟨_,(List.Sublist.refl _),0,true,⟨?a3,?a4⟩,?mem0,rfl,⟨Nat.zero_le _,⟨fun _ j hj=>by omega,fun _=>rfl⟩⟩⟩
  case mem0=>rfl
  case a3=>rfl
  case a4=>rfl
 case round =>
  rintro nn g M ⟨k,z,⟨hg3,hg4⟩,rfl,hmeas,⟨hk,hz⟩⟩;subst nn;simp only [dQ,hg3,hg4];clear hg3 hg4;refine Sq fun K5 J5=>Sq fun K6 J6=>Rk fun K J=>sE rfl (sE rfl (nl J (J6 _ _ ?_)));refine fN _ rfl (fun hc=>?_) (fun hc=>?_)
  ·replace hc:=cB_ hc
   have hc:k<16:=by omega
   refine aG (J5 _ _ (Sq fun K7 J7=>aJ (Rk fun K J=>sE rfl (sE rfl ?_))))
   cases z
   ·refine aI rfl (aI rfl (aI rfl (aI rfl (aI rfl (sE rfl (sE rfl (nl J (J7 _ _ (Rk fun K J=>sE rfl (sQ (aZ (pH rfl rfl) (congrArg (Value.int .i64) (rF oo_))) rfl (sE rfl (nl J ?_))))))))))));refine ⟨pp_,_,_,(List.Sublist.refl _),oo_,k+1,?zz_1,⟨?s3,?s4⟩,?mem,rfl,⟨by omega,?inv_1⟩⟩
    case mem=>rfl
    case s3=>rfl
    case s4=>rfl
    first | exact dl_ hz | exact gn_ hz
   refine sE rfl (sQ (eX jY dd_ rfl) rfl (sQ (j7 mI rfl rfl oo_ oo_) rfl (sQ (iA n9 rfl mm_ (wA (r:=r) (k:=k) (by rw [h.len];omega))) rfl ?_)));refine sE rfl (sE rfl (sE rfl (nl J (J7 _ _ (Rk fun K J=>sE rfl (sQ (aZ (pH rfl rfl) (congrArg (Value.int .i64) (rF oo_))) rfl (sE rfl (nl J ?_))))))));refine ⟨pp_,_,_,(List.Sublist.refl _),oo_,k+1,?zz_2,⟨?s3,?s4⟩,?mem,rfl,⟨by omega,?inv_2⟩⟩
   case mem=>rfl
   case s3=>rfl
   case s4=>rfl
   first | exact dl_ hz | exact gn_ hz
  replace hc:=cB_ hc
  obtain rfl:k=16:=by omega
  obtain rfl:z=r.zero:=mX_ h hz;refine dW (aU (aU (bJ (J3 _ _ (Sq fun K8 J8=>Sq fun K9 J9=>Rk fun K J=>sQ (eX uX dd_ rfl) rfl (sQ (iA mF rfl mm_ rfl) rfl ?_))))));refine nl J (J9 _ _ ?_);refine fN _ rfl (fun hb=>?_) (fun hb=>?_)
  ·replace hb:=cB_ hb
   refine Sq fun K10 J10=>Rk fun K J=>sE rfl (sE rfl ?_)
   cases hz0:r.zero
   ·refine aI rfl (aI rfl (aI rfl (sE rfl (sE rfl (nl J (J10 _ _ (aL (aB (cC rfl (.inr rfl) rfl ?_)))))))))
    simp [R.valid, *]
   refine sQ (eX jC dd_ rfl) rfl (sQ (iA mF rfl mm_ rfl) rfl ?_);refine sE rfl (sE rfl (sE rfl (nl J (J10 _ _ (aL (aB (cC rfl (.inr rfl) rfl ?_)))))))
   simp [R.valid, *]
  replace hb:=cB_ hb
  refine aG (J8 _ _ (Sq fun K11 J11=>Rk fun K J=>sE rfl (sE rfl (sE rfl ?_))))
  cases hz0:r.zero
  ·refine aI rfl (aI rfl (aI rfl (sE rfl (sE rfl (nl J (J11 _ _ (aL (cC rfl (.inr rfl) rfl ?_))))))))
   simp [R.valid, *]
  refine sQ (eX jC dd_ rfl) rfl (sQ (iA mF rfl mm_ rfl) rfl ?_);refine sE rfl (sE rfl (sE rfl (nl J (J11 _ _ (aL (cC rfl (.inr rfl) rfl ?_))))))
  simp [R.valid, *]

theorem d9 (r:R) (h:r.Ok) :
    Ret Tryz.prog 148 [RV r] (.bool r.good):=by
 refine cM (N:=12) Tryz.func148 rfl rfl (by simp) (fun w0=>?_);simp only [cS,Nat.reduceAdd];refine Sq fun K1 J1=>Rk fun K J=>bA rfl (qR rfl rfl (fun b1 hb1=>sE rfl (nl J (J1 _ _ (Sq fun K2 J2=>Rk fun K J=>sQ (eG aD rfl mm_ (eO h)) rfl ?_)))));refine sQ (bZ iO_ (CB r h) rfl) rfl (sE rfl (nl J (J2 _ _ (Sq fun K3 J3=>Rk fun K J=>sE rfl (sE rfl ?_)))))
 cases hv:r.valid
 ·refine aI rfl (aI rfl (aI rfl (sE rfl (sE rfl (nl J (J3 _ _ (aL (cC rfl (.inr rfl) rfl ?_))))))))
  simp [R.good, *]
 refine sQ (eX uX dd_ rfl) rfl (sQ (iA mF rfl mm_ rfl) rfl ?_);refine sE rfl (sE rfl (sE rfl (nl J (J3 _ _ (aL (cC rfl (.inr rfl) rfl ?_))))))
 simp [R.good, *]

theorem iE (neg:Bool) (va:Value) (l:List Nat) (hD:DL l) (hn:l.length≤1000) (w:World) (hva:Sl w va l) :
    Calls Tryz.prog 168 [.bool neg,va].toArray w (fun e w'=>e = .returned (RV (Z.of (sgn neg (dv l))).enc)∧Ext w w'):=by
 refine d6 (N:=62) Tryz.func168 rfl rfl (by simp) ?_;obtain ⟨w0,rfl⟩:∃ w0,w0=w:=⟨_,rfl⟩;simp only [cS,Nat.reduceAdd];have hu0:∀ M,SL w0 [] M (sls va (dl (dv l)).length) (dl (dv l)):=fun M=>k0_ hD hva.old;refine Sq fun K1 J1=>Rk fun K J=>bA rfl (i1 oM (fun b4 hb4=>nl J (J1 _ _ (Sq fun K2 J2=>Rk fun K J=>sE rfl (sQ (dA PV rfl (fun w hw=>qO va l hD hn w (SL.sl (M:=_) hva.old hw))) rfl (sE rfl (nl J (J2 _ _ (Sq fun K3 J3=>Sq fun K4 J4=>Rk fun K J=>sE rfl (sQ (vV mT rfl (hu0 _)) rfl (sE rfl (nl J (J4 _ _ ?_)))))))))))));refine fN _ rfl (fun hbig=>?_) (fun hbig=>?_)
 ·replace hbig:=cB_ hbig
  refine Sq fun K5 J5=>Rk fun K J=>sQ (bZ B8 (gH) rfl) rfl (bA rfl (dX aD rfl rfl uu_ (aS _) rfl (dL _) (.inl (by assumption)) ?_));refine nl J (J5 _ _ (aL (aB (cC rfl (.inr rfl) ⟨_,_,_,_,_,_,rfl,mm_,aD,_,(gS (aS _)),(aS _),rfl⟩ ?_))));exact er_ oo_
 replace hbig:=cB_ hbig
 have hlen:(dl (dv l)).length≤32:=by omega
 refine aG (J3 _ _ ?_);refine dH [6,14,15,16,17,18,19,20] (fun g M=>∃ (b6:Nat),(g 6 = .pointer (some ⟨b6,0,none⟩))∧M=⟨b6,31,R.cells (R.mk false (neg&&decide ((0:Int)<((dl (dv l)).length:Int))) (List.replicate 16 0))⟩ :: [⟨b4,31,zR⟩]∧(w0.heap.size≤b6)) (fun K6 J6=>?_) ?_
 ·refine Rk fun K J=>sE rfl (sE rfl ?_)
  cases neg
  ·refine aI rfl (aI rfl (aI rfl (sE rfl (sQ (GE oM IW rfl (jh_ _)) rfl (bA rfl (i1 oM (fun b6 hb6=>bA rfl (dX aD rfl rfl uu_ (by simp [R.cells,nW]) rfl (dL _) (.inl (by assumption)) ?_))))))));refine nl J ?_;refine J6 _ _ pp_ ⟨_,(List.Sublist.refl _),_,?s6,?mem,hb6⟩
   case mem=>rfl
   case s6=>rfl
  refine sE rfl (sQ (vV mT rfl (hu0 _)) rfl (sE rfl (sE rfl (sQ (GE oM IW rfl (jh_ _)) rfl (bA rfl (i1 oM (fun b6 hb6=>bA rfl (dX aD rfl rfl uu_ (by simp [R.cells,nW]) rfl (dL _) (.inl (by assumption)) ?_))))))));refine nl J ?_;refine J6 _ _ pp_ ⟨_,(List.Sublist.refl _),_,?s6,?mem,hb6⟩
  case mem=>rfl
  case s6=>rfl
 rintro g M ⟨b6,hg6,rfl,hb6⟩;simp only [dQ,hg6];clear hg6;refine Sq fun K7 J7=>Sq fun K8 J8=>Rk fun K J=>sE rfl (nl J (J8 _ _ (aJ ?_)));refine eA [7,21,22,23,24,25,26,27,28,29,30,31,32,33,34,35,36,37,38,39,40,41,42,43,44,45,46,47,48,49,50,51,52,53,54,55,56,57,58,59,60] (fun g nn M=>∃ (k:Nat) (ws:List Nat),(g 7 = .int .i64 (k:Int))∧M=⟨b6,31,R.cells (R.mk false (neg&&decide ((0:Int)<((dl (dv l)).length:Int))) ws)⟩ :: [⟨b4,31,zR⟩]∧nn=(dl (dv l)).length - k∧(k≤(dl (dv l)).length∧NumIn (dv l) k ws)) ((dl (dv l)).length - 0) ?start ?round
 case start =>
  refine ⟨_,(List.Sublist.refl _),0,_,?a7,?mem0,rfl,⟨Nat.zero_le _,NumIn.start _⟩⟩
  case mem0=>rfl
  case a7=>rfl
 case round =>
  rintro nn g M ⟨k,ws,hg7,rfl,hmeas,⟨hk,hI⟩⟩;subst nn;simp only [dQ,hg7];clear hg7;refine Sq fun K9 J9=>Sq fun K10 J10=>Rk fun K J=>sE rfl (sE rfl (sQ (vV mT rfl (hu0 _)) rfl (sE rfl (nl J (J10 _ _ ?_)))));refine fN _ rfl (fun hc=>?_) (fun hc=>?_)
  ·replace hc:=cB_ hc
   have hk32:k<32:=by omega
   refine aG (J9 _ _ (Sq fun K11 J11=>aJ (Sq fun K12 J12=>Rk fun K J=>sE rfl (sQ (aZ (w6 rfl rfl dd_) (congrArg (Value.int .i64) (sJ_ k))) rfl (sE rfl (nl J (J12 _ _ ?_)))))));refine fN _ rfl (fun hpar=>?_) (fun hpar=>?_)
   ·replace hpar:=cB_ hpar
    have hpar:k % 2=0:=by omega
    have hz:=(hI.even hpar hk32).2;refine dr (sd (sk (s0))) [0,4,8,12,16,20,24,28,32,36,40,44,48,52,56,61] [15] mix (by kernel_rfl) (fun K J=>pE rfl (pQ rfl (aZ (rA rfl rfl dd_) (congrArg (Value.int .i64) (ms_ k oo_))) (pE rfl (pQ rfl (aZ (rA rfl rfl dd_) (congrArg (Value.int .i64) (ms_ k oo_))) (pQ rfl (eX jY dd_ rfl) (pQ rfl (j7 mI rfl rfl oo_ oo_) (pQ rfl (iA n9 rfl mm_ (wA (r:=R.mk false (neg&&decide ((0:Int)<((dl (dv l)).length:Int))) ws) (k:=k / 2) (by simp only [hI.len];omega))) ?_)))))));refine pE rfl (pE rfl (pQ rfl (KU mT rfl rfl (hu0 _) oo_) (pQ rfl (FL dP rfl (hu0 _) oo_) (pQ rfl (i7 OW nP rfl) (pQ rfl (aZ (pH rfl rfl) (show _=U32 (dg (dv l) k) by rw [(hI.even hpar hk32).1,OC];exact hV_ (xL _ _))) (pQ rfl (eX jY dd_ rfl) (pQ rfl (j7 mI rfl rfl oo_ oo_) ?_)))))));refine d7 rfl rfl (cZ_ (k:=k / 2) n9 rfl rfl uu_ (by rw [hI.len];omega) (.inl (by assumption)) ⟨nf,ss_,?_⟩);refine fl J (J11 _ _ (Rk fun K J=>sE rfl (sQ (aZ (pH rfl rfl) (congrArg (Value.int .i64) (rF oo_))) rfl (sE rfl (nl J ?_)))));refine ⟨pp_,_,_,(List.Sublist.refl _),oo_,k+1,_,?s7,?mem,rfl,⟨by omega,hz⟩⟩
    case mem=>rfl
    case s7=>rfl
   replace hpar:=cB_ hpar
   have hpar:¬ k % 2=0:=by omega
   have hz:=(hI.odd hpar hk32).2;refine dr (sd (sk (s0))) [0,4,8,12,16,20,24,28,32,36,40,44,48,52,56,60,65] [16] mix (by kernel_rfl) (fun K J=>pE rfl (pQ rfl (aZ (rA rfl rfl dd_) (congrArg (Value.int .i64) (ms_ k oo_))) (pE rfl (pQ rfl (aZ (rA rfl rfl dd_) (congrArg (Value.int .i64) (ms_ k oo_))) (pQ rfl (eX jY dd_ rfl) (pQ rfl (j7 mI rfl rfl oo_ oo_) (pQ rfl (iA n9 rfl mm_ (wA (r:=R.mk false (neg&&decide ((0:Int)<((dl (dv l)).length:Int))) ws) (k:=k / 2) (by simp only [hI.len];omega))) ?_)))))));refine pE rfl (pE rfl (pQ rfl (KU mT rfl rfl (hu0 _) oo_) (pQ rfl (FL dP rfl (hu0 _) oo_) (pQ rfl (i7 OW nP rfl) (pE rfl (pQ rfl (aZ (pH rfl rfl) (show _=U32 (ws.getD (k / 2) 0+dg (dv l) k * 65536) by rw [OC];exact lv_ (hI.odd hpar hk32).1 (xL _ _))) (pQ rfl (eX jY dd_ rfl) (pQ rfl (j7 mI rfl rfl oo_ oo_) ?_))))))));refine d7 rfl rfl (cZ_ (k:=k / 2) n9 rfl rfl uu_ (by rw [hI.len];omega) (.inl (by assumption)) ⟨nf,ss_,?_⟩);refine fl J (J11 _ _ (Rk fun K J=>sE rfl (sQ (aZ (pH rfl rfl) (congrArg (Value.int .i64) (rF oo_))) rfl (sE rfl (nl J ?_)))));refine ⟨pp_,_,_,(List.Sublist.refl _),oo_,k+1,_,?s7,?mem,rfl,⟨by omega,hz⟩⟩
   case mem=>rfl
   case s7=>rfl
  replace hc:=cB_ hc
  obtain rfl:k=(dl (dv l)).length:=by omega
  refine dW (aU (aU (bJ (J7 _ _ (Sq fun K13 J13=>Rk fun K J=>sQ (eG aD rfl mm_ (by simp [R.cells,nW,hI.len])) rfl ?_)))));refine bA rfl (dX aD rfl rfl uu_ (by simp [R.cells,nW,hI.len]) rfl (dL _) (.inl (by assumption)) ?_);refine nl J (J13 _ _ (aL (cC rfl (.inr rfl) ⟨_,_,_,_,_,_,rfl,mm_,aD,_,(gS (by simp [R.cells,nW,hI.len])),(by simp [R.cells,nW,hI.len]),rfl⟩ ?_)));exact es_ hI
theorem wO (va vb:Value) (la lb:List Nat) (hDa:DL la) (hDb:DL lb) (hna:la.length≤200) (hnb:lb.length≤200) (w:World) (hva:Sl w va la) (hvb:Sl w vb lb) :
    Calls Tryz.prog 164 [va,vb].toArray w (fun e w'=>∃ v,e = .returned v∧Ext w w'∧Slf w.heap.size w' v (dl (dv la+dv lb))):=by
 refine CT (N:=37) Tryz.func164 rfl rfl (by simp) ?_;obtain ⟨w0,rfl⟩:∃ w0,w0=w:=⟨_,rfl⟩;simp only [cS,Nat.reduceAdd];refine Sq fun K1 J1=>Rk fun K J=>sE rfl (nl J (J1 _ _ (Sq fun K2 J2=>Rk fun K J=>sE rfl (nl J (J2 _ _ (Sq fun K3 J3=>Rk fun K J=>sE rfl (nl J (J3 _ _ (Sq fun K4 J4=>Sq fun K5 J5=>Rk fun K J=>sE rfl (nl J ?_))))))))));refine J5 _ _ (aJ ?_);refine eA [5,6,7,8,9,10,11,12,13,14,15,16,17,18,19,20,21,22,23,24,25,26,27,28,29,30,31,32,33,34] (fun g nn M=>∃ (k:Nat) (v:Value) (l:List Nat) (L:List Blk),(g 5=v∧g 6 = .int .i64 ((cD (dv la) (dv lb) k:Nat):Int)∧g 7 = .int .i64 (k:Int))∧M=L ++ []∧nn=max la.length lb.length+1 - k∧(k≤max la.length lb.length+1∧OwnL w0 3 v l L∧DL l∧l.length=k∧dv l=(dv la+dv lb) % 65536 ^ k)) (max la.length lb.length+1 - 0) ?start ?round
 case start =>
  refine ⟨_,(List.Sublist.refl _),0,_,[],[],⟨?a5,?a6,?a7⟩,?mem0,rfl,⟨Nat.zero_le _,.nil,DL.nil,rfl,by simp [dv,Nat.mod_one]⟩⟩
  case mem0=>rfl
  case a5=>rfl
  case a6=>rw [lF_];rfl
  case a7=>rfl
 case round =>
  rintro nn g M ⟨k,v,l,L,⟨hg5,hg6,hg7⟩,rfl,hmeas,⟨hk,hO,hD,hlen,hdv⟩⟩;subst nn;simp only [dQ,hg5,hg6,hg7];clear hg5 hg6 hg7;refine Sq fun K6 J6=>Sq fun K7 J7=>Rk fun K J=>sE rfl (sE rfl (sQ (vV mT rfl hva.old) rfl (sE rfl (sQ (vV mT rfl hvb.old) rfl (sQ (kl_ rfl rfl) rfl (sQ (aZ (pH rfl rfl) (congrArg (Value.int .i64) (rF oo_))) rfl (sE rfl (nl J (J7 _ _ ?_)))))))));refine fN _ rfl (fun hc=>?_) (fun hc=>?_)
  ·replace hc:=cB_ hc
   have hc:k<max la.length lb.length+1:=by omega
   refine aG (J6 _ _ (Sq fun K8 J8=>aJ (Sq fun K9 J9=>Rk fun K J=>sE rfl (sE rfl (sQ (dA KJ rfl (fun w hw=>nD va la k w (SL.sl (M:=_) hva.old hw))) rfl (sE rfl (sE rfl (sQ (dA KJ rfl (fun w hw=>nD vb lb k w (SL.sl (M:=_) hvb.old hw))) rfl (sE rfl (sE rfl (sQ (aZ (pH rfl rfl) (congrArg (Value.int .i64) ((show _=((cD (dv la) (dv lb) k+dg (dv la) k+dg (dv lb) k:Nat):Int) by rw [zG la k hDa,zG lb k hDb];exact sz_ (xL _ _) (xL _ _) (m8_ _ _ _))))) rfl (sE rfl (nl J (J9 _ _ (Sq fun K10 J10=>Rk fun K J=>?_)))))))))))))));refine sE rfl (sE rfl (sQ (aZ (w6 rfl rfl dd_) (c1_ _)) rfl (bA rfl (pW mG z_3 xK rfl dd_ rfl (NF _) (fun b31 hb31=>bA rfl (NP mG cI_ rfl rfl hO (SL.mine (l:=[(cD (dv la) (dv lb) k+dg (dv la) k+dg (dv lb) k) % 65536]) (.head _) (Nat.le_refl _)) (List.sublist_cons_self _ _) (by simp;omega) (fun v' L' hO'=>?_)))))));refine sE rfl (nl J (J10 _ _ (Rk fun K J=>sE rfl (sQ (aZ (rA rfl rfl dd_) (congrArg (Value.int .i64) (rW_ (by have:=m8_ (dv la) (dv lb) k;have:=xL (dv la) k;have:=xL (dv lb) k;omega)))) rfl (sE rfl (nl J (J8 _ _ (Rk fun K J=>sE rfl (sQ (aZ (pH rfl rfl) (congrArg (Value.int .i64) (rF oo_))) rfl (sE rfl (nl J ?_)))))))))));refine ⟨pp_,_,_,(List.Sublist.refl _),oo_,k+1,_,_,_,⟨?s5,?s6,?s7⟩,?mem,rfl,⟨by omega,hO',hD.append (DL.one (Nat.mod_lt _ dd_)),by simp [hlen],ex_ hlen hdv⟩⟩
   case mem=>rfl
   case s5=>rfl
   case s6=>rw [← cM_];rfl
   case s7=>rfl
  replace hc:=cB_ hc
  obtain rfl:k=max la.length lb.length+1:=by omega
  refine dW (aU (aU (bJ (J4 _ _ (Sq fun K11 J11=>Rk fun K J=>sE rfl (sQ (dA PV rfl (fun w hw=>qO v l hD oo_ w (SL.sl (hO.sl lZ) hw))) rfl (sE rfl (nl J (J11 _ _ (aL (cC rfl (.inr rfl) rfl ?_)))))))))));exact FX hD (by rw [hdv,gZ_ hDa hDb]) (hO.slf lZ)

theorem tW (va vb:Value) (la lb:List Nat) (hDa:DL la) (hDb:DL lb) (hna:la.length≤200) (hnb:lb.length≤200) (hle:dv lb≤dv la) (w:World) (hva:Sl w va la) (hvb:Sl w vb lb) :
    Calls Tryz.prog 171 [va,vb].toArray w (fun e w'=>∃ v,e = .returned v∧Ext w w'∧Slf w.heap.size w' v (dl (dv la - dv lb))):=by
 refine CT (N:=35) Tryz.func171 rfl rfl (by simp) ?_;obtain ⟨w0,rfl⟩:∃ w0,w0=w:=⟨_,rfl⟩;simp only [cS,Nat.reduceAdd];refine Sq fun K1 J1=>Rk fun K J=>sE rfl (nl J (J1 _ _ (Sq fun K2 J2=>Rk fun K J=>sE rfl (nl J (J2 _ _ (Sq fun K3 J3=>Rk fun K J=>sE rfl (nl J (J3 _ _ (Sq fun K4 J4=>Sq fun K5 J5=>Rk fun K J=>sE rfl (nl J ?_))))))))));refine J5 _ _ (aJ ?_);refine eA [5,6,7,8,9,10,11,12,13,14,15,16,17,18,19,20,21,22,23,24,25,26,27,28,29,30,31,32] (fun g nn M=>∃ (k:Nat) (v:Value) (l:List Nat) (L:List Blk) (c:Nat),(g 5=v∧g 6 = .int .i64 (c:Int)∧g 7 = .int .i64 (k:Int))∧M=L ++ []∧nn=la.length - k∧(k≤la.length∧OwnL w0 3 v l L∧DL l∧l.length=k∧c≤1∧dv l+dv lb % 65536 ^ k=dv la % 65536 ^ k+c * 65536 ^ k)) (la.length - 0) ?start ?round
 case start =>
  refine ⟨_,(List.Sublist.refl _),0,_,[],[],0,⟨?a5,?a6,?a7⟩,?mem0,rfl,⟨Nat.zero_le _,.nil,DL.nil,rfl,by decide,by simp [dv,Nat.mod_one]⟩⟩
  case mem0=>rfl
  case a5=>rfl
  case a6=>rfl
  case a7=>rfl
 case round =>
  rintro nn g M ⟨k,v,l,L,c,⟨hg5,hg6,hg7⟩,rfl,hmeas,⟨hk,hO,hD,hlen,hcb,hdv⟩⟩;subst nn;simp only [dQ,hg5,hg6,hg7];clear hg5 hg6 hg7;refine Sq fun K6 J6=>Sq fun K7 J7=>Rk fun K J=>sE rfl (sE rfl (sQ (vV mT rfl hva.old) rfl (sE rfl (nl J (J7 _ _ ?_)))));refine fN _ rfl (fun hc=>?_) (fun hc=>?_)
  ·replace hc:=cB_ hc
   have hc:k<la.length:=by omega
   refine aG (J6 _ _ (Sq fun K8 J8=>aJ (Sq fun K9 J9=>dr sn [0,4,8,12,16,20,24,28,32,36,40] [] mix (by kernel_rfl) (fun K J=>pE rfl (pE rfl (pQ rfl (KU mT rfl rfl hva.old oo_) (pQ rfl (FL dP rfl hva.old oo_) (pE rfl (pE rfl (pQ rfl (dA KJ rfl (fun w hw=>nD vb lb k w (SL.sl (M:=_) hvb.old hw))) (pE rfl (pE rfl (pQ rfl (aZ (x9 rfl rfl) (congrArg (Value.int .i64) ((show _=((dg (dv la) k:Nat):Int) - ((dg (dv lb) k:Nat):Int) - (c:Int) by rw [zG la k hDa,zG lb k hDb];exact sN_ (xL _ _) (xL _ _) hcb)))) (pE rfl (fl J (J9 _ _ (Sq fun K10 J10=>?_)))))))))))))))));refine Rk fun K J=>sE rfl (nl J (J10 _ _ (Sq fun K11 J11=>Sq fun K12 J12=>Rk fun K J=>sE rfl (sE rfl (nl J (J12 _ _ ?_))))));refine fN _ rfl (fun h26=>?_) (fun h26=>?_)
   ·replace h26:=cB_ h26
    refine Sq fun K13 J13=>Rk fun K J=>sE rfl (sE rfl (sE rfl (nl J (J13 _ _ (Rk fun K J=>sE rfl (nl J (J11 _ _ (Rk fun K J=>sE rfl (sQ (aZ (rS rfl) (show _=IV (md (dg (dv la) k) (dg (dv lb) k) c) by first | exact jR_ (xL _ _) (xL _ _) hcb h26 | exact jS_ h26)) rfl ?_)))))))));refine bA rfl (pW mG z_3 xK rfl dd_ rfl (NF _) (fun b31 hb31=>bA rfl (NP mG cI_ rfl rfl hO (SL.mine (l:=[md (dg (dv la) k) (dg (dv lb) k) c]) (.head _) (Nat.le_refl _)) (List.sublist_cons_self _ _) (by simp;omega) (fun v' L' hO'=>?_))));refine sE rfl (nl J (J8 _ _ (Rk fun K J=>sE rfl (sQ (aZ (pH rfl rfl) (congrArg (Value.int .i64) (rF oo_))) rfl (sE rfl (nl J ?_))))));refine ⟨pp_,_,_,(List.Sublist.refl _),oo_,k+1,_,_,_,mb (dg (dv la) k) (dg (dv lb) k) c,⟨?s5,?s6,?s7⟩,?mem,rfl,⟨by omega,hO',hD.append (DL.one (nE_ (xL _ _) (xL _ _) hcb)),by simp [hlen],nB_ _ _ _,S4 hlen hcb hdv⟩⟩
    case mem=>rfl
    case s5=>rfl
    case s6=>first | exact jN_ h26 | exact jO_ h26
    case s7=>rfl
   replace h26:=cB_ h26
   refine aG (J11 _ _ (Rk fun K J=>sE rfl (sQ (aZ (rS rfl) (show _=IV (md (dg (dv la) k) (dg (dv lb) k) c) by first | exact jR_ (xL _ _) (xL _ _) hcb h26 | exact jS_ h26)) rfl ?_)));refine bA rfl (pW mG z_3 xK rfl dd_ rfl (NF _) (fun b31 hb31=>bA rfl (NP mG cI_ rfl rfl hO (SL.mine (l:=[md (dg (dv la) k) (dg (dv lb) k) c]) (.head _) (Nat.le_refl _)) (List.sublist_cons_self _ _) (by simp;omega) (fun v' L' hO'=>?_))));refine sE rfl (nl J (J8 _ _ (Rk fun K J=>sE rfl (sQ (aZ (pH rfl rfl) (congrArg (Value.int .i64) (rF oo_))) rfl (sE rfl (nl J ?_))))));refine ⟨pp_,_,_,(List.Sublist.refl _),oo_,k+1,_,_,_,mb (dg (dv la) k) (dg (dv lb) k) c,⟨?s5,?s6,?s7⟩,?mem,rfl,⟨by omega,hO',hD.append (DL.one (nE_ (xL _ _) (xL _ _) hcb)),by simp [hlen],nB_ _ _ _,S4 hlen hcb hdv⟩⟩
   case mem=>rfl
   case s5=>rfl
   case s6=>first | exact jN_ h26 | exact jO_ h26
   case s7=>rfl
  replace hc:=cB_ hc
  obtain rfl:k=la.length:=by omega
  refine dW (aU (aU (bJ (J4 _ _ (Sq fun K14 J14=>Rk fun K J=>sE rfl (sQ (dA PV rfl (fun w hw=>qO v l hD oo_ w (SL.sl (hO.sl lZ) hw))) rfl (sE rfl (nl J (J14 _ _ (aL (cC rfl (.inr rfl) rfl ?_)))))))))));exact FX hD (em_ hDa hD hlen hle hdv hcb) (hO.slf lZ)

theorem qN (va vb:Value) (la lb:List Nat) (hDa:DL la) (hDb:DL lb) (hna:la.length≤200) (hnb:lb.length≤200) (w:World) (hva:Sl w va la) (hvb:Sl w vb lb) :
    Calls Tryz.prog 166 [va,vb].toArray w (fun e w'=>e = .returned (.bool (decide (dv la<dv lb)))∧Ext w w'):=by
 refine d6 (N:=30) Tryz.func166 rfl rfl (by simp) ?_;obtain ⟨w0,rfl⟩:∃ w0,w0=w:=⟨_,rfl⟩;simp only [cS,Nat.reduceAdd];refine Sq fun K1 J1=>Rk fun K J=>sE rfl (nl J (J1 _ _ (Sq fun K2 J2=>Sq fun K3 J3=>Rk fun K J=>sE rfl (sQ (vV mT rfl hva.old) rfl (sE rfl (sQ (vV mT rfl hvb.old) rfl (sQ (kl_ rfl rfl) rfl (sE rfl (sE rfl (nl J (J3 _ _ (aJ ?_))))))))))));refine eA [4,5,12,13,14,15,16,17,18,19,20,21,22,23,24,25,26,27,28,29] (fun g nn M=>∃ (k:Nat),(g 5 = .int .i64 ((k:Int) - 1))∧M=[]∧nn=k+0∧(k≤max la.length lb.length∧dv la / 65536 ^ k=dv lb / 65536 ^ k)) (max la.length lb.length) ?start ?round
 case start =>
  refine ⟨_,(List.Sublist.refl _),max la.length lb.length,?a5,?mem0,rfl,⟨Nat.le_refl _,ei_ hDa hDb⟩⟩
  case mem0=>rfl
  case a5=>exact congrArg (Value.int .i64) (eM (by unfold I64;omega))
 case round =>
  rintro nn g M ⟨k,hg5,rfl,hmeas,⟨hk,hd⟩⟩;subst nn;simp only [dQ,hg5];clear hg5;refine Sq fun K4 J4=>Sq fun K5 J5=>Rk fun K J=>sE rfl (sE rfl (nl J (J5 _ _ ?_)));refine fN _ rfl (fun hc=>?_) (fun hc=>?_)
  ·replace hc:=cB_ hc
   obtain ⟨m,rfl⟩:∃ m,k=m+1:=⟨k - 1,by omega⟩;refine aG (J4 _ _ (Sq fun K6 J6=>aJ (Sq fun K7 J7=>Rk fun K J=>sE rfl (sQ (aZ (rS rfl) (congrArg (Value.int .i64) (show (((m+1:Nat):Int) - 1)=(m:Int) by omega))) rfl (sQ (dA KJ rfl (fun w hw=>nD va la m w (SL.sl (M:=_) hva.old hw))) rfl (sE rfl (sQ (aZ (rS rfl) (congrArg (Value.int .i64) (show (((m+1:Nat):Int) - 1)=(m:Int) by omega))) rfl (sQ (dA KJ rfl (fun w hw=>nD vb lb m w (SL.sl (M:=_) hvb.old hw))) rfl (sE rfl (nl J (J7 _ _ ?_)))))))))));refine fN _ rfl (fun hne=>?_) (fun hne=>?_)
   ·replace hne:=cB_ hne
    have hne':dg (dv la) m≠dg (dv lb) m:=by rw [← zG la m hDa,← zG lb m hDb];omega
    refine Sq fun K8 J8=>Rk fun K J=>sE rfl (sQ (aZ (rS rfl) (congrArg (Value.int .i64) (show (((m+1:Nat):Int) - 1)=(m:Int) by omega))) rfl (sQ (dA KJ rfl (fun w hw=>nD va la m w (SL.sl (M:=_) hva.old hw))) rfl (sE rfl (sQ (aZ (rS rfl) (congrArg (Value.int .i64) (show (((m+1:Nat):Int) - 1)=(m:Int) by omega))) rfl (sQ (dA KJ rfl (fun w hw=>nD vb lb m w (SL.sl (M:=_) hvb.old hw))) rfl (sE rfl (sE rfl (nl J (J8 _ _ (aL (aT (aB (aB (aT (aB (cC rfl (.inr rfl) rfl ?_))))))))))))))))
    (rw [zG la m hDa,zG lb m hDb];exact congrArg Value.bool (gQ_ hd hne'))
   replace hne:=cB_ hne
   have heq':dg (dv la) m=dg (dv lb) m:=by rw [← zG la m hDa,← zG lb m hDb];omega
   refine aG (J6 _ _ (Rk fun K J=>sQ (aZ (rS rfl) (congrArg (Value.int .i64) (show (((m+1:Nat):Int) - 1)=(m:Int) by omega))) rfl (sE rfl (sE rfl (nl J ?_)))));refine ⟨pp_,_,_,(List.Sublist.refl _),oo_,m,?s5,?mem,rfl,⟨by omega,gP_ hd heq'⟩⟩
   case mem=>rfl
   case s5=>exact congrArg (Value.int .i64) (eM (n:=(m:Int) - 1) (by unfold I64;omega))
  replace hc:=cB_ hc
  obtain rfl:k=0:=by omega
  refine dW (aU (aU (bJ (J2 _ _ (Sq fun K9 J9=>Rk fun K J=>sE rfl (nl J (J9 _ _ (aL (cC rfl (.inr rfl) rfl ?_)))))))))
  (simp only [Nat.pow_zero,Nat.div_one] at hd;rw [hd];exact congrArg Value.bool (decide_eq_false (Nat.lt_irrefl _)).symm)

theorem yX (va vb:Value) (la lb:List Nat) (hDa:DL la) (hDb:DL lb) (hna:la.length≤200) (hnb:lb.length≤200) (w:World) (hva:Sl w va la) (hvb:Sl w vb lb) :
    Calls Tryz.prog 167 [va,vb].toArray w (fun e w'=>∃ v,e = .returned v∧Ext w w'∧Slf w.heap.size w' v (dl (dv la * dv lb))):=by
 refine CT (N:=72) Tryz.func167 rfl rfl (by simp) ?_;obtain ⟨w0,rfl⟩:∃ w0,w0=w:=⟨_,rfl⟩;simp only [cS,Nat.reduceAdd];refine Sq fun K1 J1=>Rk fun K J=>sE rfl (nl J (J1 _ _ (Sq fun K2 J2=>Rk fun K J=>sE rfl (sQ (vV mT rfl hva.old) rfl (sE rfl (sQ (vV mT rfl hvb.old) rfl (sQ (aZ (pH rfl rfl) (congrArg (Value.int .i64) (xV oo_))) rfl (sQ (aZ (pH rfl rfl) (congrArg (Value.int .i64) (rF oo_))) rfl (bA rfl (eB_ mG cI_ z_3 rfl rfl oo_ (fun b17 hb17=>sE rfl (nl J (J2 _ _ (Sq fun K3 J3=>Sq fun K4 J4=>Rk fun K J=>?_))))))))))))));refine sE rfl (nl J (J4 _ _ (aJ ?_)));refine eA [6,7,8,9,10,18,19,20,21,22,23,24,25,26,27,28,29,30,31,32,33,34,35,36,37,38,39,40,41,42,43,44,45,46,47,48,49,50,51,52,53,54,55,56,57,58,59,60,61,62,63,64,65,66,67,68,69] (fun g nn M=>∃ (i:Nat) (o:List Nat),(g 6 = .int .i64 (i:Int))∧M=[⟨b17,3,iw o⟩]∧nn=la.length - i∧(i≤la.length∧DL o∧o.length=(la.length+lb.length+1)∧dv o=dv la % 65536 ^ i * dv lb)) (la.length - 0) ?start ?round
 case start =>
  refine ⟨_,(List.Sublist.refl _),0,List.replicate (la.length+lb.length+1) 0,?a6,?mem0,rfl,⟨Nat.zero_le _,fun d hd=>by rw [List.eq_of_mem_replicate hd];decide,by simp,by rw [QP,Nat.pow_zero,Nat.mod_one,Nat.zero_mul]⟩⟩
  case mem0=>rfl
  case a6=>rfl
 case round =>
  rintro nn g M ⟨i,o,hg6,rfl,hmeas,⟨hi,hDo,hlo,hdv⟩⟩;subst nn;simp only [dQ,hg6];clear hg6;refine Sq fun K5 J5=>Sq fun K6 J6=>Rk fun K J=>sE rfl (sE rfl (sQ (vV mT rfl hva.old) rfl (sE rfl (nl J (J6 _ _ ?_)))));refine fN _ rfl (fun hc=>?_) (fun hc=>?_)
  ·replace hc:=cB_ hc
   have hc:i<la.length:=by omega
   refine aG (J5 _ _ (Sq fun K7 J7=>aJ (Sq fun K8 J8=>Sq fun K9 J9=>Rk fun K J=>sE rfl (nl J (J9 _ _ (aJ ?_))))));refine eA [7,24,25,26,27,28,29,30,31,32,33,34,35,36,37,38,39,40,41,42,43,44,45,46,47,48,49,50] (fun g nn M=>∃ (k:Nat) (l:List Nat),(g 7 = .int .i64 (k:Int))∧M=[⟨b17,3,iw l⟩]∧nn=lb.length - k∧(k≤lb.length∧RowIn (la.length+lb.length+1) (dv lb) i (dg (dv la) i) o k l)) (lb.length - 0) ?start ?round
   case start =>
    refine ⟨_,(List.Sublist.refl _),0,o,?a7,?mem0,rfl,⟨Nat.zero_le _,RowIn.start _ _ _ hDo hlo⟩⟩
    case mem0=>rfl
    case a7=>rfl
   case round =>
    rintro nn g M ⟨k,l,hg7,rfl,hmeas,⟨hkl,hR⟩⟩;subst nn;simp only [dQ,hg7];clear hg7;refine Sq fun K10 J10=>Sq fun K11 J11=>Rk fun K J=>sE rfl (sE rfl (sQ (vV mT rfl hvb.old) rfl (sE rfl (nl J (J11 _ _ ?_)))));refine fN _ rfl (fun hk2=>?_) (fun hk2=>?_)
    ·replace hk2:=cB_ hk2
     have hk2:k<lb.length:=by omega
     refine aG (J10 _ _ (Sq fun K12 J12=>aJ (dr sn [0,4,8,12,16,20,24,28,32,36,40,44,48,52,56,60,64,68,72,76,80,85] [21] mix (by kernel_rfl) (fun K J=>pE rfl (pE rfl (pE rfl (pQ rfl (aZ (pH rfl rfl) (congrArg (Value.int .i64) (xV oo_))) (pE rfl (pE rfl (pE rfl (pQ rfl (aZ (pH rfl rfl) (congrArg (Value.int .i64) (xV oo_))) (pQ rfl (yV mT rfl rfl oo_ oo_) (pQ rfl (iA dP rfl mm_ (ry_ (by rw [hR.len];omega))) ?_)))))))))))));refine pE rfl (pE rfl (pQ rfl (KU mT rfl rfl hva.old oo_) (pQ rfl (FL dP rfl hva.old oo_) (pE rfl (pE rfl (pQ rfl (KU mT rfl rfl hvb.old oo_) (pQ rfl (FL dP rfl hvb.old oo_) (pE rfl (pQ rfl (aZ (pH rfl rfl) (show _=IV (l.getD (i+k) 0+dg (dv la) i * dg (dv lb) k) by rw [zG la i hDa,zG lb k hDb];exact md_ (hR.high _ (Nat.le_refl _)) (xL _ _) (xL _ _))) (pQ rfl (yV mT rfl rfl oo_ oo_) ?_))))))))));refine d7 rfl rfl (Q1 dP rfl rfl uu_ (by rw [hR.len];omega) (.inl (by assumption)) ⟨nf,ss_,?_⟩);refine fl J (J12 _ _ (Rk fun K J=>sE rfl (sQ (aZ (pH rfl rfl) (congrArg (Value.int .i64) (rF oo_))) rfl (sE rfl (nl J ?_)))));refine ⟨pp_,_,_,(List.Sublist.refl _),oo_,k+1,_,?s7,?mem,rfl,⟨by omega,hR.step oo_ (xL _ _)⟩⟩
     case mem=>rfl
     case s7=>rfl
    replace hk2:=cB_ hk2
    obtain rfl:k=lb.length:=by omega
    refine dW (aU (aU (bJ (J8 _ _ (Sq fun K13 J13=>Rk fun K J=>sE rfl (nl J (J13 _ _ (Sq fun K14 J14=>Rk fun K J=>sE rfl (nl J (J14 _ _ (aJ ?_)))))))))));refine eA [8,9,10,51,52,53,54,55,56,57,58,59,60,61,62,63,64,65,66,67,68,69] (fun g nn M=>∃ (m:Nat) (l:List Nat) (c:Nat),(g 8 = .int .i64 (c:Int)∧g 9 = .int .i64 (m:Int))∧M=[⟨b17,3,iw l⟩]∧nn=(la.length+lb.length+1) - m∧(m≤(la.length+lb.length+1)∧CarryIn (la.length+lb.length+1) (dv o+65536 ^ i * (dg (dv la) i * (dv lb % 65536 ^ lb.length))) m l c)) ((la.length+lb.length+1) - 0) ?start ?round
    case start =>
     refine ⟨_,(List.Sublist.refl _),0,l,0,⟨?a8,?a9⟩,?mem0,rfl,⟨Nat.zero_le _,hR.done⟩⟩
     case mem0=>rfl
     case a8=>rfl
     case a9=>rfl
    case round =>
     rintro nn g M ⟨m,l,c,⟨hg8,hg9⟩,rfl,hmeas,⟨hml,hC⟩⟩;subst nn;simp only [dQ,hg8,hg9];clear hg8 hg9;refine Sq fun K15 J15=>Sq fun K16 J16=>Rk fun K J=>sE rfl (sE rfl (sQ (LW mT rfl) rfl (sE rfl (nl J (J16 _ _ ?_)))));refine fN _ rfl (fun hm2=>?_) (fun hm2=>?_)
     ·replace hm2:=cB_ hm2
      have hm2:m<(la.length+lb.length+1):=by omega
      refine aG (J15 _ _ (Sq fun K17 J17=>aJ (Sq fun K18 J18=>Rk fun K J=>sE rfl (sE rfl (sQ (yV mT rfl rfl oo_ oo_) rfl (sQ (iA dP rfl mm_ (ry_ (by rw [hC.len];omega))) rfl ?_))))));refine sE rfl (sQ (aZ (pH rfl rfl) (congrArg (Value.int .i64) (sA_ (by have:=hC.low m;have:=hC.clt;omega)))) rfl (sE rfl (nl J (J18 _ _ (Sq fun K19 J19=>Rk fun K J=>sE rfl (sE rfl (sE rfl (sQ (aZ (w6 rfl rfl dd_) (c1_ _)) rfl (sQ (yV mT rfl rfl oo_ oo_) rfl (bA rfl (Q1 dP rfl rfl uu_ (by rw [hC.len];omega) (.inl (by assumption)) ?_)))))))))));refine nl J (J19 _ _ (Rk fun K J=>sE rfl (sQ (aZ (rA rfl rfl dd_) (congrArg (Value.int .i64) (rW_ (by have:=hC.low m;have:=hC.clt;omega)))) rfl (sE rfl (nl J (J17 _ _ (Rk fun K J=>sE rfl (sQ (aZ (pH rfl rfl) (congrArg (Value.int .i64) (rF oo_))) rfl (sE rfl (nl J ?_))))))))));refine ⟨pp_,_,_,(List.Sublist.refl _),oo_,m+1,_,_,⟨?s8,?s9⟩,?mem,rfl,⟨by omega,hC.step oo_⟩⟩
      case mem=>rfl
      case s8=>rfl
      case s9=>rfl
     replace hm2:=cB_ hm2
     obtain rfl:m=(la.length+lb.length+1):=by omega
     have hT:(dv o+65536 ^ i * (dg (dv la) i * (dv lb % 65536 ^ lb.length)))=dv la % 65536 ^ (i+1) * dv lb:=by rw [hdv];exact hp_ (IJ lb hDb)
     have hF:=hC.fin (by rw [hT];exact kX_ oo_ (IJ lb hDb));rw [hT] at hF;refine dW (aU (aU (bJ (J7 _ _ (Rk fun K J=>sE rfl (sQ (aZ (pH rfl rfl) (congrArg (Value.int .i64) (rF oo_))) rfl (sE rfl (nl J ?_))))))));refine ⟨pp_,_,_,(List.Sublist.refl _),oo_,i+1,_,?s6,?mem,rfl,⟨by omega,hF⟩⟩
     case mem=>rfl
     case s6=>rfl
  replace hc:=cB_ hc
  obtain rfl:i=la.length:=by omega
  refine dW (aU (aU (bJ (J3 _ _ (Sq fun K20 J20=>Rk fun K J=>sE rfl (sQ (dA PV rfl (fun w hw=>qO _ o hDo oo_ w (SL.sl (SL.mine' (.head _) hlo (Nat.le_refl _)) hw))) rfl (sE rfl (nl J (J20 _ _ (aL (cC rfl (.inr rfl) rfl ?_)))))))))));exact FX hDo (by rw [hdv,Nat.mod_eq_of_lt (IJ la hDa)]) (SLf.mine hb17 (.head _) hlo (Nat.le_refl _))

theorem yA (va:Value) (la:List Nat) (k:Int) (w:World) (hva:Sl w va la) :
    Calls Tryz.prog 247 [va,.int .i64 k].toArray w (fun e w'=>e = .returned (.int .i64 ((atD la k:Nat):Int))∧Ext w w'):=by
 refine d6 (N:=10) Tryz.func247 rfl rfl (by simp) ?_;obtain ⟨w0,rfl⟩:∃ w0,w0=w:=⟨_,rfl⟩;simp only [cS,Nat.reduceAdd];refine Sq fun K1 J1=>Rk fun K J=>sE rfl (nl J (J1 _ _ (Sq fun K2 J2=>Sq fun K3 J3=>Rk fun K J=>sE rfl (sE rfl (nl J (J3 _ _ ?_))))));refine fN _ rfl (fun h0=>?_) (fun h0=>?_)
 ·replace h0:=cB_ h0
  refine Sq fun K4 J4=>Rk fun K J=>sE rfl (nl J (J4 _ _ (aL (aB (cC rfl (.inr rfl) rfl ?_)))))
  (rw [lx_ h0];rfl)
 replace h0:=cB_ h0
 refine aG (J2 _ _ (Sq fun K5 J5=>Rk fun K J=>sE rfl (sQ (aZ (rS rfl) (show _=Value.int .i64 ((k.toNat:Nat):Int) from congrArg (Value.int .i64) oo_)) rfl (sQ (dA KJ rfl (fun w hw=>nD va la k.toNat w (SL.sl (M:=_) hva.old hw))) rfl (sE rfl (nl J (J5 _ _ (aL (cC rfl (.inr rfl) rfl ?_)))))))));rw [ly_ h0]

theorem CC (n m:Int) (hn:I64 n) (hnm:n ≠ -9223372036854775808) (hm:m≠0) :
    Ret Tryz.prog 197 [.int .i64 n,.int .i64 m] (.int .i64 (n.fdiv m)):=by
 refine cM (N:=23) Tryz.func197 rfl rfl (by simp) (fun w0=>?_);simp only [cS,Nat.reduceAdd];refine Sq fun K1 J1=>Rk fun K J=>sE rfl (nl J (J1 _ _ (Sq fun K2 J2=>Rk fun K J=>sE rfl (sE rfl (sQ (aZ (rA rfl rfl hm) (congrArg (Value.int .i64) (eM (eA_ hn hnm)))) rfl (sE rfl (nl J (J2 _ _ (Sq fun K3 J3=>Sq fun K4 J4=>Rk fun K J=>sE rfl (sE rfl (sQ (w6 rfl rfl hm) rfl (sE rfl ?_))))))))))));refine sE rfl ?_
 cases h0:(n.tmod m != 0)
 ·refine aI rfl (aI rfl (aI rfl (aI rfl (aI rfl (sE rfl (nl J (J4 _ _ (gJ rfl (aG (J3 _ _ (Sq fun K5 J5=>Rk fun K J=>sE rfl (sE rfl (nl J (J5 _ _ (aL (cC rfl (.inr rfl) rfl ?_))))))))))))))));exact congrArg (Value.int .i64) (QU hm (.inl (by simpa using h0))).1.symm
 refine sE rfl (sE rfl (sE rfl (sE rfl (sQ (EH GS rfl rfl) rfl (sE rfl (nl J (J4 _ _ ?_)))))));refine fN _ rfl (fun hs=>?_) (fun hs=>?_)
 ·replace hs:=cB_ hs
  refine Rk fun K J=>sE rfl (sQ (aZ (x9 rfl rfl) (congrArg (Value.int .i64) (eM (kr_ hn hnm)))) rfl (sE rfl (nl J (J3 _ _ (Sq fun K6 J6=>Rk fun K J=>sE rfl (sE rfl (nl J (J6 _ _ (aL (cC rfl (.inr rfl) rfl ?_))))))))));exact congrArg (Value.int .i64) (d8_ hm (by simpa using h0) (bne_iff_ne.2 (by rw [ZN (by simpa using h0)];exact hs))).1.symm
 replace hs:=cB_ hs
 refine aG (J3 _ _ (Sq fun K7 J7=>Rk fun K J=>sE rfl (sE rfl (nl J (J7 _ _ (aL (cC rfl (.inr rfl) rfl ?_)))))));exact congrArg (Value.int .i64) (QU hm (.inr (by rw [ZN (by simpa using h0)];simpa using hs))).1.symm
end Go.Proofs.YtkjjponijamaoaaGreatDoor

