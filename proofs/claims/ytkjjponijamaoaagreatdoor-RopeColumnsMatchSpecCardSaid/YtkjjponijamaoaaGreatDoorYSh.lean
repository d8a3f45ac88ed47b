/- Lemmas: what they ask stands in their statements. -/
import Derived.Test.YtkjjponijamaoaaGreatDoorYSf
set_option linter.unusedSimpArgs false
set_option linter.unusedVariables false
set_option maxHeartbeats 8000000
set_option maxRecDepth 20000
namespace Go.Proofs.YtkjjponijamaoaaGreatDoor
open Go.Kn Go.Num
theorem pK (a b:R) (ha:a.Ok) (hb:b.Ok) :
    Ret Tryz.prog 150 [RV a,RV b] (RV (Z.gcd a.dec b.dec).enc):=by
 refine cM (N:=64) Tryz.func150 rfl rfl (by simp) (fun w0=>?_);simp only [cS,Nat.reduceAdd];have hla:=ny_ ha;have hlb:=ny_ hb;refine Sq fun K1 J1=>Rk fun K J=>bA rfl (qR rfl rfl (fun b2 hb2=>bA rfl (qR rfl rfl (fun b3 hb3=>bA rfl (i1 oM (fun b4 hb4=>nl J (J1 _ _ (Sq fun K2 J2=>Rk fun K J=>sQ (eG aD rfl mm_ (eO ha)) rfl ?_))))))));refine sQ (bZ HN (mE a ha) rfl) rfl (sE rfl (sE rfl (sE rfl (sE rfl (sE rfl (nl J (J2 _ _ (Sq fun K3 J3=>Rk fun K J=>sQ (eG aD rfl mm_ (eO hb)) rfl ?_))))))));refine sQ (bZ HN (mE b hb) rfl) rfl (sE rfl (sE rfl (sE rfl (sE rfl (sE rfl (nl J (J3 _ _ (Sq fun K4 J4=>Sq fun K5 J5=>Rk fun K J=>sE rfl (sE rfl ?_)))))))))
 cases w1:lJ a
 ·refine aI rfl (sE rfl (nl J (J5 _ _ (gJ rfl (aG (J4 _ _ (Sq fun K6 J6=>Sq fun K7 J7=>Rk fun K J=>sQ (eG aD rfl mm_ (eO ha)) rfl ?_)))))));refine sQ (bZ vE (d9 a ha) rfl) rfl (sE rfl (sE rfl ?_))
  cases ga:a.good
  ·refine aI rfl (aI rfl (aI rfl (sE rfl (nl J (J7 _ _ (dE rfl (Sq fun K8 J8=>Rk fun K J=>sQ (bZ B8 gH rfl) rfl (bA rfl (dX aD rfl rfl uu_ (aS _) rfl (dL _) (.inl (by assumption)) ?_)))))))));refine nl J (J8 _ _ (aL (aB (cC rfl (.inr rfl) ⟨_,_,_,_,_,_,rfl,mm_,aD,_,(gS (aS _)),(aS _),rfl⟩ ?_))))
   (rw [Z.gcd,uU (.inl (TJ ga))];rfl)
  refine sQ (eG aD rfl mm_ (eO hb)) rfl ?_;refine sQ (bZ vE (d9 b hb) rfl) rfl (sE rfl (sE rfl (nl J (J7 _ _ ?_))));refine fN _ rfl (fun gb=>?_) (fun gb=>?_)
  ·replace gb:=cB_ gb
   refine Sq fun K9 J9=>Rk fun K J=>sQ (bZ B8 gH rfl) rfl (bA rfl (dX aD rfl rfl uu_ (aS _) rfl (dL _) (.inl (by assumption)) ?_));refine nl J (J9 _ _ (aL (aB (cC rfl (.inr rfl) ⟨_,_,_,_,_,_,rfl,mm_,aD,_,(gS (aS _)),(aS _),rfl⟩ ?_))))
   (rw [Z.gcd,uU (.inr (TJ gb))];rfl)
  replace gb:=cB_ gb
  refine aG (J6 _ _ (Sq fun K10 J10=>Rk fun K J=>sQ (eG aD rfl mm_ (eO ha)) rfl ?_));refine bA rfl (j9 wN rfl (fun w hw=>eC a ha w) (fun v5 L5 h5=>sE rfl (nl J (J10 _ _ (Sq fun K11 J11=>Rk fun K J=>sQ (eG aD rfl mm_ (eO hb)) rfl ?_)))));refine bA rfl (j9 wN rfl (fun w hw=>eC b hb w) (fun v6 L6 h6=>sE rfl (nl J (J11 _ _ (Sq fun K12 J12=>aJ ?_)))));refine eA [10,11,12,13,51,52,53,54,55,56,57,58,59,60,61] (fun g nn M=>∃ (X Y:Nat) (vx vy:Value) (Lx Ly:List Blk),(g 10=vx∧g 11=vy)∧M=Ly ++ (Lx ++ [⟨b4,31,zR⟩,⟨b3,31,b.cells⟩,⟨b2,31,a.cells⟩])∧nn=Y∧((X<65536 ^ 32∧Y<65536 ^ 32)∧Nat.gcd X Y=Nat.gcd (val a.w) (val b.w)∧SL w0 [] Lx vx (dl X)∧SL w0 [] Ly vy (dl Y))) (val b.w) ?start ?round
  case start =>
   refine ⟨_,(List.Sublist.refl _),val a.w,val b.w,v5,v6,L5,L6,⟨?a10,?a11⟩,?mem0,rfl,⟨⟨fD_ ha,fD_ hb⟩,rfl,h5.sl,h6.sl⟩⟩
   case mem0=>rfl
   case a10=>rfl
   case a11=>rfl
  case round =>
   rintro nn g M ⟨X,Y,vx,vy,Lx,Ly,⟨hg10,hg11⟩,rfl,hmeas,⟨hb3,hgc,hX,hY⟩⟩;subst nn;simp only [dQ,hg10,hg11];clear hg10 hg11;refine Sq fun K13 J13=>Sq fun K14 J14=>Rk fun K J=>sE rfl (sQ (vV mT rfl (hY.sub lZ)) rfl (sE rfl (nl J (J14 _ _ ?_))));refine fN _ rfl (fun h53=>?_) (fun h53=>?_)
   ·replace h53:=cB_ h53
    have hYp:0<Y:=fB_ h53;refine aG (J13 _ _ (aJ (Sq fun K15 J15=>Rk fun K J=>sE rfl (sE rfl (bA rfl (ON av_ rfl (fun w hw=>vL vx vy X Y hYp (R0 hb3.1) (R0 hb3.2) w (SL.sl (hX.sub (.trans lZ (List.sublist_append_right _ _))) hw) (SL.sl (hY.sub lZ) hw)) (fun vq vr Lr hq hr=>sE rfl (sE rfl (sE rfl (sE rfl (sE rfl (nl J (J15 _ _ (Sq fun K16 J16=>Rk fun K J=>sE rfl (sE rfl (nl J ?_))))))))))))))));refine J16 _ _ (Rk fun K J=>sE rfl (sE rfl (nl J ?_)));refine ⟨pp_,_,_,(List.Sublist.append (List.Sublist.refl _) (List.Sublist.append (List.Sublist.refl _) (List.sublist_append_right _ _))),(Nat.mod_lt _ hYp),Y,X % Y,vy,vr,Ly,Lr,⟨?s10,?s11⟩,?mem,rfl,⟨⟨hb3.2,Nat.lt_of_le_of_lt (Nat.mod_le _ _) hb3.1⟩,by rw [← hgc];exact aI_ X Y,hY,hr⟩⟩
    case mem=>rfl
    case s10=>rfl
    case s11=>rfl
   replace h53:=cB_ h53
   have hY0:Y=0:=cz_ h53;refine dW (aU (aU (bJ (J12 _ _ (Sq fun K17 J17=>Rk fun K J=>sE rfl (sQ (dA BX rfl (fun w hw=>iE false _ _ (qQ _) (Nat.le_trans (R0 hb3.1) dd_) w (SL.sl (hX.sub (.trans lZ (List.sublist_append_right _ _))) hw))) rfl (bA rfl (dX aD rfl rfl uu_ (aS _) rfl (dL _) (.inl (by assumption)) ?_))))))));refine nl J (J17 _ _ (aL (cC rfl (.inr rfl) ⟨_,_,_,_,_,_,rfl,mm_,aD,_,(gS (aS _)),(aS _),rfl⟩ ?_)))
   (rw [jm_ ha hb ga gb (by rw [← hgc,hY0,Nat.gcd_zero_right]),kY];rfl)
 refine sE rfl (sE rfl (nl J (J5 _ _ ?_)));refine fN _ rfl (fun w2=>?_) (fun w2=>?_)
 ·replace w2:=cB_ w2
  refine Sq fun K18 J18=>aJ ?_;refine eA [5,7,9,28,29,30,31,32,33,34] (fun g nn M=>∃ (x y:Int),(g 5 = .int .i64 x∧g 7 = .int .i64 y)∧M=[⟨b4,31,zR⟩,⟨b3,31,b.cells⟩,⟨b2,31,a.cells⟩]∧nn=y.natAbs∧((-4611686018427387904<x∧x<4611686018427387904)∧(-4611686018427387904<y∧y<4611686018427387904)∧Int.gcd x y=Int.gcd (rK a) (rK b))) ((rK b).natAbs) ?start ?round
  case start =>
   refine ⟨_,(List.Sublist.refl _),rK a,rK b,⟨?a5,?a7⟩,?mem0,rfl,⟨(uR ha w1).2.2.2,(uR hb w2).2.2.2,rfl⟩⟩
   case mem0=>rfl
   case a5=>rfl
   case a7=>rfl
  case round =>
   rintro nn g M ⟨x,y,⟨hg5,hg7⟩,rfl,hmeas,⟨hx,hy,hgc⟩⟩;subst nn;simp only [dQ,hg5,hg7];clear hg5 hg7;refine Sq fun K19 J19=>Sq fun K20 J20=>Rk fun K J=>sE rfl (sE rfl (nl J (J20 _ _ ?_)));refine fN _ rfl (fun h29=>?_) (fun h29=>?_)
   ·replace h29:=cB_ h29
    refine aG (J19 _ _ (aJ (Sq fun K21 J21=>Rk fun K J=>sE rfl (sE rfl (sQ (w6 rfl rfl h29) rfl (sE rfl (nl J (J21 _ _ (Sq fun K22 J22=>Rk fun K J=>sE rfl (sE rfl (nl J (J22 _ _ (Rk fun K J=>sE rfl (sE rfl ?_))))))))))))));refine nl J ?_;refine ⟨pp_,_,_,(List.Sublist.refl _),(EN (by simpa using h29)).1,y,x.tmod y,⟨?s5,?s7⟩,?mem,rfl,⟨hy,pO_ hx,by rw [← hgc];exact jw_ x y⟩⟩
    case mem=>rfl
    case s5=>rfl
    case s7=>rfl
   replace h29:=cB_ h29
   have hy0:y=0:=by simpa using h29
   refine dW (aU (aU (bJ (J18 _ _ (Sq fun K23 J23=>Rk fun K J=>sE rfl (sQ (bZ vP (dV x (pN_ hx)) rfl) rfl (sQ (bZ pe_ (MH (Z.of x).enc (Z.enc_ok _)) rfl) rfl (bA rfl (dX aD rfl rfl uu_ (aS _) rfl (dL _) (.inl (by assumption)) ?_)))))))));refine nl J (J23 _ _ (aL (aB (cC rfl (.inr rfl) ⟨_,_,_,_,_,_,rfl,mm_,aD,_,(gS (aS _)),(aS _),rfl⟩ ?_))))
   (rw [G9,gF_ ha hb w1 w2 hgc hy0];rfl)
 replace w2:=cB_ w2
 refine aG (J4 _ _ (Sq fun K24 J24=>Sq fun K25 J25=>Rk fun K J=>sQ (eG aD rfl mm_ (eO ha)) rfl ?_));refine sQ (bZ vE (d9 a ha) rfl) rfl (sE rfl (sE rfl ?_))
 cases ga:a.good
 ·refine aI rfl (aI rfl (aI rfl (sE rfl (nl J (J25 _ _ (dE rfl (Sq fun K26 J26=>Rk fun K J=>sQ (bZ B8 gH rfl) rfl (bA rfl (dX aD rfl rfl uu_ (aS _) rfl (dL _) (.inl (by assumption)) ?_)))))))));refine nl J (J26 _ _ (aL (aB (cC rfl (.inr rfl) ⟨_,_,_,_,_,_,rfl,mm_,aD,_,(gS (aS _)),(aS _),rfl⟩ ?_))))
  (rw [Z.gcd,uU (.inl (TJ ga))];rfl)
 refine sQ (eG aD rfl mm_ (eO hb)) rfl ?_;refine sQ (bZ vE (d9 b hb) rfl) rfl (sE rfl (sE rfl (nl J (J25 _ _ ?_))));refine fN _ rfl (fun gb=>?_) (fun gb=>?_)
 ·replace gb:=cB_ gb
  refine Sq fun K27 J27=>Rk fun K J=>sQ (bZ B8 gH rfl) rfl (bA rfl (dX aD rfl rfl uu_ (aS _) rfl (dL _) (.inl (by assumption)) ?_));refine nl J (J27 _ _ (aL (aB (cC rfl (.inr rfl) ⟨_,_,_,_,_,_,rfl,mm_,aD,_,(gS (aS _)),(aS _),rfl⟩ ?_))))
  (rw [Z.gcd,uU (.inr (TJ gb))];rfl)
 replace gb:=cB_ gb
 refine aG (J24 _ _ (Sq fun K28 J28=>Rk fun K J=>sQ (eG aD rfl mm_ (eO ha)) rfl ?_));refine bA rfl (j9 wN rfl (fun w hw=>eC a ha w) (fun v5 L5 h5=>sE rfl (nl J (J28 _ _ (Sq fun K29 J29=>Rk fun K J=>sQ (eG aD rfl mm_ (eO hb)) rfl ?_)))));refine bA rfl (j9 wN rfl (fun w hw=>eC b hb w) (fun v6 L6 h6=>sE rfl (nl J (J29 _ _ (Sq fun K30 J30=>aJ ?_)))));refine eA [10,11,12,13,51,52,53,54,55,56,57,58,59,60,61] (fun g nn M=>∃ (X Y:Nat) (vx vy:Value) (Lx Ly:List Blk),(g 10=vx∧g 11=vy)∧M=Ly ++ (Lx ++ [⟨b4,31,zR⟩,⟨b3,31,b.cells⟩,⟨b2,31,a.cells⟩])∧nn=Y∧((X<65536 ^ 32∧Y<65536 ^ 32)∧Nat.gcd X Y=Nat.gcd (val a.w) (val b.w)∧SL w0 [] Lx vx (dl X)∧SL w0 [] Ly vy (dl Y))) (val b.w) ?start ?round
 case start =>
  refine ⟨_,(List.Sublist.refl _),val a.w,val b.w,v5,v6,L5,L6,⟨?a10,?a11⟩,?mem0,rfl,⟨⟨fD_ ha,fD_ hb⟩,rfl,h5.sl,h6.sl⟩⟩
  case mem0=>rfl
  case a10=>rfl
  case a11=>rfl
 case round =>
  rintro nn g M ⟨X,Y,vx,vy,Lx,Ly,⟨hg10,hg11⟩,rfl,hmeas,⟨hb3,hgc,hX,hY⟩⟩;subst nn;simp only [dQ,hg10,hg11];clear hg10 hg11;refine Sq fun K31 J31=>Sq fun K32 J32=>Rk fun K J=>sE rfl (sQ (vV mT rfl (hY.sub lZ)) rfl (sE rfl (nl J (J32 _ _ ?_))));refine fN _ rfl (fun h53=>?_) (fun h53=>?_)
  ·replace h53:=cB_ h53
   have hYp:0<Y:=fB_ h53;refine aG (J31 _ _ (aJ (Sq fun K33 J33=>Rk fun K J=>sE rfl (sE rfl (bA rfl (ON av_ rfl (fun w hw=>vL vx vy X Y hYp (R0 hb3.1) (R0 hb3.2) w (SL.sl (hX.sub (.trans lZ (List.sublist_append_right _ _))) hw) (SL.sl (hY.sub lZ) hw)) (fun vq vr Lr hq hr=>sE rfl (sE rfl (sE rfl (sE rfl (sE rfl (nl J (J33 _ _ (Sq fun K34 J34=>Rk fun K J=>sE rfl (sE rfl (nl J ?_))))))))))))))));refine J34 _ _ (Rk fun K J=>sE rfl (sE rfl (nl J ?_)));refine ⟨pp_,_,_,(List.Sublist.append (List.Sublist.refl _) (List.Sublist.append (List.Sublist.refl _) (List.sublist_append_right _ _))),(Nat.mod_lt _ hYp),Y,X % Y,vy,vr,Ly,Lr,⟨?s10,?s11⟩,?mem,rfl,⟨⟨hb3.2,Nat.lt_of_le_of_lt (Nat.mod_le _ _) hb3.1⟩,by rw [← hgc];exact aI_ X Y,hY,hr⟩⟩
   case mem=>rfl
   case s10=>rfl
   case s11=>rfl
  replace h53:=cB_ h53
  have hY0:Y=0:=cz_ h53;refine dW (aU (aU (bJ (J30 _ _ (Sq fun K35 J35=>Rk fun K J=>sE rfl (sQ (dA BX rfl (fun w hw=>iE false _ _ (qQ _) (Nat.le_trans (R0 hb3.1) dd_) w (SL.sl (hX.sub (.trans lZ (List.sublist_append_right _ _))) hw))) rfl (bA rfl (dX aD rfl rfl uu_ (aS _) rfl (dL _) (.inl (by assumption)) ?_))))))));refine nl J (J35 _ _ (aL (cC rfl (.inr rfl) ⟨_,_,_,_,_,_,rfl,mm_,aD,_,(gS (aS _)),(aS _),rfl⟩ ?_)))
  (rw [jm_ ha hb ga gb (by rw [← hgc,hY0,Nat.gcd_zero_right]),kY];rfl)
theorem BV (r:R) (h:r.Ok) :
    Ret Tryz.prog 203 [RV r] (.bool r.valid):=by
 refine cM (N:=23) Tryz.func203 rfl rfl (by simp) (fun w0=>?_);simp only [cS,Nat.reduceAdd];refine Sq fun K1 J1=>Rk fun K J=>bA rfl (qR rfl rfl (fun b1 hb1=>sE rfl (nl J (J1 _ _ (Sq fun K2 J2=>Rk fun K J=>sQ (eX jY dd_ rfl) rfl (sQ (oZ (vs:=uw r.w) iJ rfl mm_ (t9 h.len) ((nW _).trans h.len)) rfl ?_))))));refine sQ (yU y6 mI rfl (.nil _)) rfl ?_;refine sQ (rG (r:=r.zero) rfl rfl (kR 8 dd_ VE WD (xC h.len) (xC (by simp)) h.zero_iff)) rfl ?_;refine sE rfl (nl J (J2 _ _ (Sq fun K3 J3=>Sq fun K4 J4=>Rk fun K J=>sQ (eX uX dd_ rfl) rfl (sQ (iA mF rfl mm_ rfl) rfl ?_))));refine nl J (J4 _ _ ?_);refine fN _ rfl (fun hb=>?_) (fun hb=>?_)
 ·replace hb:=cB_ hb
  refine Sq fun K5 J5=>Rk fun K J=>sE rfl (sE rfl ?_)
  cases hz:r.zero
  ·refine aI rfl (aI rfl (aI rfl (sE rfl (sE rfl (nl J (J5 _ _ (aL (aB (cC rfl (.inr rfl) rfl ?_)))))))))
   simp [R.valid, *]
  refine sQ (eX jC dd_ rfl) rfl (sQ (iA mF rfl mm_ rfl) rfl ?_);refine sE rfl (sE rfl (sE rfl (nl J (J5 _ _ (aL (aB (cC rfl (.inr rfl) rfl ?_)))))))
  simp [R.valid, *]
 replace hb:=cB_ hb
 refine aG (J3 _ _ (Sq fun K6 J6=>Rk fun K J=>sE rfl (sE rfl (sE rfl ?_))))
 cases hz:r.zero
 ·refine aI rfl (aI rfl (aI rfl (sE rfl (sE rfl (nl J (J6 _ _ (aL (cC rfl (.inr rfl) rfl ?_))))))))
  simp [R.valid, *]
 refine sQ (eX jC dd_ rfl) rfl (sQ (iA mF rfl mm_ rfl) rfl ?_);refine sE rfl (sE rfl (sE rfl (nl J (J6 _ _ (aL (cC rfl (.inr rfl) rfl ?_))))))
 simp [R.valid, *]

theorem kO  :
    Ret Tryz.prog 77 [] (RV Z.bad.enc):=by
 refine cM (N:=2) Tryz.func77 rfl rfl (by simp) (fun w0=>?_);simp only [cS,Nat.reduceAdd];refine Sq fun K1 J1=>Rk fun K J=>bA rfl (i1 oM (fun b0 hb0=>nl J (J1 _ _ (Sq fun K2 J2=>Rk fun K J=>sQ (GE oM IW rfl (.cons rfl (vs:=[.bool true]) rfl rfl (by simp [zR]) (z':=Z.bad.enc.cells) rfl (.nil _))) rfl ?_))));refine bA rfl (dX aD rfl rfl uu_ rfl rfl (dL Z.bad.enc) (.inl (by assumption)) ?_);refine nl J (J2 _ _ (aL (cC rfl (.inr rfl) ⟨_,_,_,_,_,_,rfl,mm_,aD,_,(gS rfl),rfl,rfl⟩ ?_)));exact rfl

theorem kA (neg:Bool) (w:List Nat) (hw:w.length=16) (hlim:Lim w) :
    Ret Tryz.prog 121 [.bool neg,UV w] (RV ⟨false,neg && !(val w==0),w⟩):=by
 refine cM (N:=13) Tryz.func121 rfl rfl (by simp) (fun w0=>?_);simp only [cS,Nat.reduceAdd]
 have hlw:(uw w).length=16:=by rw [nW,hw]
 refine Sq fun K1 J1=>Rk fun K J=>bA rfl (qR rfl rfl (fun b3 hb3=>bA rfl (i1 oM (fun b4 hb4=>nl J (J1 _ _ (Sq fun K2 J2=>dr (sd (sk (s0))) [0,4,8,12,16,20,24,28,33] [8] mix (by kernel_rfl) (fun K J=>pE rfl (pE rfl ?_))))))))
 cases neg
 ·refine aP rfl rfl (aP rfl rfl (aP rfl rfl (pE rfl (pQ rfl (eG iJ rfl mm_ hlw) ?_))));refine pQ rfl (GE oM IW rfl (ji_ hw)) ?_;refine d7 rfl rfl (dX aD rfl rfl uu_ (by simp [R.cells,hlw]) rfl (dL _) (.inl (by assumption)) ⟨nf,ss_,?_⟩);refine fl J (J2 _ _ (aL (cC rfl (.inr rfl) ⟨_,_,_,_,_,_,rfl,mm_,aD,_,(gS (by simp [R.cells,hlw])),(by simp [R.cells,hlw]),rfl⟩ ?_)));rfl
 refine pQ rfl (eG iJ rfl mm_ hlw) ?_;refine pQ rfl (yU y6 mI rfl (.nil _)) ?_;refine pQ rfl (EG (r:=(val w==0)) rfl rfl (kR 8 dd_ VE WD (xC hw) (xC (by simp)) (OV hw hlim))) ?_;refine pE rfl (pQ rfl (eG iJ rfl mm_ hlw) ?_);refine pQ rfl (GE oM IW rfl (ji_ hw)) ?_;refine d7 rfl rfl (dX aD rfl rfl uu_ (by simp [R.cells,hlw]) rfl (dL _) (.inl (by assumption)) ⟨nf,ss_,?_⟩);refine fl J (J2 _ _ (aL (cC rfl (.inr rfl) ⟨_,_,_,_,_,_,rfl,mm_,aD,_,(gS (by simp [R.cells,hlw])),(by simp [R.cells,hlw]),rfl⟩ ?_)));rfl

theorem oE (rs:List R) (hrs:∀ r∈rs,r.Ok) (b T:Nat) (w:World) (hb:w.heap[b]? = some (.cells (rs.flatMap R.cells).toArray T (0,0))) (hn:rs.length≤1000) :
    Calls Tryz.prog 119 [.slice (some ⟨b,0,none⟩) rs.length rs.length].toArray w (fun e w'=>e = .returned (.bool (rs.all R.good))∧Ext w w'):=by
 refine d6 (N:=19) Tryz.func119 rfl rfl (by simp) ?_;obtain ⟨w0,rfl⟩:∃ w0,w0=w:=⟨_,rfl⟩;simp only [cS,Nat.reduceAdd];refine Sq fun K1 J1=>Rk fun K J=>sE rfl (nl J (J1 _ _ (Sq fun K2 J2=>Sq fun K3 J3=>Rk fun K J=>sE rfl (sQ (LW vG rfl) rfl (sE rfl (nl J (J3 _ _ (aJ ?_))))))));refine eA [2,4,7,8,9,10,11,12,13,14,15,16,17,18] (fun g nn M=>∃ (k:Nat),(g 7 = .int .i64 (k:Int))∧M=[]∧nn=rs.length - k∧(k≤rs.length∧(rs.take k).all R.good=true)) (rs.length - 0) ?start ?round
 case start =>
  refine ⟨_,(List.Sublist.refl _),0,?a7,?mem0,rfl,⟨Nat.zero_le _,rfl⟩⟩
  case mem0=>rfl
  case a7=>rfl
 case round =>
  rintro nn g M ⟨k,hg7,rfl,hmeas,⟨hk,hall⟩⟩;subst nn;simp only [dQ,hg7];clear hg7;refine Sq fun K4 J4=>Rk fun K J=>sE rfl (nl J (J4 _ _ (Sq fun K5 J5=>?_)));refine fN _ rfl (fun hc=>?_) (fun hc=>?_)
  ·replace hc:=cB_ hc
   obtain ⟨r,hr⟩:∃ r,rs[k]? = some r:=⟨_,List.getElem?_eq_getElem oo_⟩;have hrok:=hrs r (List.mem_of_getElem? hr);refine aG (J5 _ _ (Sq fun K6 J6=>aJ (Sq fun K7 J7=>Rk fun K J=>sQ (yV vG rfl rfl oo_ oo_) rfl (sQ (cV_ (vs:=r.cells) aD rfl hb (by simp) (by rw [show (0+(k:Int).toNat * 18)=k * 18 by omega];exact RB R.cells 18 rs k r (fun y hy=>eO (hrs y hy)) hr) (eO hrok)) rfl ?_))));refine bA rfl (i1 oM (fun b4 hb4=>bA rfl (dX aD rfl rfl uu_ (eO hrok) rfl (dL _) (.inl (by assumption)) ?_)));refine nl J (J7 _ _ (Sq fun K8 J8=>Rk fun K J=>sQ (eX uX dd_ rfl) rfl (sQ (iA mF rfl mm_ rfl) rfl ?_)));refine sE rfl ?_
   cases hbad:r.bad
   ·refine sQ (eG aD rfl mm_ (eO hrok)) rfl ?_;refine sQ (bZ aw_ (BV r hrok) rfl) rfl (sE rfl (sE rfl (nl J (J8 _ _ ?_))));refine fN _ rfl (fun hx=>?_) (fun hx=>?_)
    ·replace hx:=cB_ hx
     skip
     refine Sq fun K9 J9=>Rk fun K J=>sE rfl (nl J (J9 _ _ (aL (aT (aB (aB (aT (aB (cC rfl (.inr rfl) rfl ?_)))))))));exact congrArg Value.bool (QG hr (by simp [R.good,hbad,hx]))
    replace hx:=cB_ hx
    skip
    refine aG (J6 _ _ (Rk fun K J=>sE rfl (sE rfl (nl J ?_))));refine ⟨pp_,_,_,(List.Sublist.cons _ (List.Sublist.refl _)),oo_,k+1,?s7,?mem,rfl,⟨by omega,by rw [YA oo_ hr];simp [hall,R.good,hbad,hx]⟩⟩
    case mem=>rfl
    case s7=>(show Value.int .i64 _=_;rw [eM (by unfold I64;omega)];rfl)
   refine aI rfl (aI rfl (aI rfl (sE rfl (nl J (J8 _ _ (dE rfl (Sq fun K10 J10=>Rk fun K J=>sE rfl (nl J (J10 _ _ (aL (aT (aB (aB (aT (aB (cC rfl (.inr rfl) rfl ?_))))))))))))))));exact congrArg Value.bool (QG hr (by simp [R.good,hbad]))
  replace hc:=cB_ hc
  have hke:k=rs.length:=by omega
  refine dW (aU (aU (bJ (J2 _ _ (Sq fun K11 J11=>Rk fun K J=>sE rfl (nl J (J11 _ _ (aL (cC rfl (.inr rfl) rfl ?_)))))))))
  (subst hke;rw [List.take_length] at hall;exact congrArg Value.bool hall.symm)

theorem XU (xs ys:List Nat) (hx:xs.length=16) (hy:ys.length=16) (lx:Lim xs) (ly:Lim ys) :
    Ret Tryz.prog 122 [UV xs,UV ys] (.tuple #[UV (toL 16 (val xs+val ys)),.bool (((cy (val xs) (val ys) 16:Nat):Int)==0)]):=by
 refine cM (N:=33) Tryz.func122 rfl rfl (by simp) (fun w0=>?_);simp only [cS,Nat.reduceAdd];refine Sq fun K1 J1=>Rk fun K J=>bA rfl (qR rfl rfl (fun b2 hb2=>bA rfl (qR rfl rfl (fun b3 hb3=>bA rfl (i1 y6 (fun b4 hb4=>sE rfl (nl J (J1 _ _ (Sq fun K2 J2=>Rk fun K J=>bA rfl (i1 y6 (fun b6 hb6=>nl J (J2 _ _ (Sq fun K3 J3=>Rk fun K J=>sE rfl (nl J (J3 _ _ (Sq fun K4 J4=>Sq fun K5 J5=>?_))))))))))))))));refine Rk fun K J=>sE rfl (nl J (J5 _ _ (aJ ?_)));refine eA [7,8,9,10,11,12,13,14,15,16,17,18,19,20,21,22,23,24,25,26,27,28,29] (fun g nn M=>∃ (k:Nat),(g 7 = .int .u64 ((cy (val xs) (val ys) k:Nat):Int)∧g 9 = .int .i64 (k:Int))∧M=[⟨b6,29,uw (IF k (val xs+val ys) 16)⟩,⟨b4,29,uw (List.replicate 16 0)⟩,⟨b3,29,uw ys⟩,⟨b2,29,uw xs⟩]∧nn=16 - k∧(k≤16)) (16) ?start ?round
 case start =>
  refine ⟨_,(List.Sublist.refl _),0,⟨?a7,?a9⟩,?mem0,rfl,Nat.zero_le _⟩
  case mem0=>rw [KC]
  case a7=>rw [lO_];rfl
  case a9=>rfl
 case round =>
  rintro nn g M ⟨k,⟨hg7,hg9⟩,rfl,hmeas,hk⟩;subst nn;simp only [dQ,hg7,hg9];clear hg7 hg9;refine Sq fun K6 J6=>Rk fun K J=>sE rfl (nl J (J6 _ _ (Sq fun K7 J7=>?_)));refine fN _ rfl (fun hc=>?_) (fun hc=>?_)
  ·replace hc:=cB_ hc
   have hc:k<16:=by omega
   have hcy:=qX_ (val xs) (val ys) k;refine aG (J7 _ _ (Sq fun K8 J8=>aJ (Sq fun K9 J9=>Rk fun K J=>sE rfl (sE rfl (nl J (J9 _ _ (Sq fun K10 J10=>dr (sk (sk (sk (sk (s0))))) [0,4,8,12,16,20,24,28,32,36,40,44] [] mix (by kernel_rfl) (fun K J=>pE rfl (pE rfl (pQ rfl (j7 mI rfl rfl oo_ oo_) (pQ rfl (iA n9 rfl mm_ (DW oo_)) ?_)))))))))));refine pQ rfl (i7 nP kV rfl) (pE rfl (pQ rfl (j7 mI rfl rfl oo_ oo_) (pQ rfl (iA n9 rfl mm_ (DW oo_)) ?_)));refine pQ rfl (i7 nP kV rfl) (pE rfl (pQ rfl (aZ (pH rfl rfl) (congrArg (Value.int .u64) (p9_ hcy (iZ lx k) (iZ ly k)))) (pE rfl (fl J (J10 _ _ (Sq fun K11 J11=>Rk fun K J=>sE rfl (sE rfl (sQ (aZ (i7 kV nP rfl) (yM _)) rfl (sQ (j7 mI rfl rfl oo_ oo_) rfl (bA rfl (w7 n9 rfl rfl uu_ (by rw [qY _ hk];exact hc) (.inl (by assumption)) ?_)))))))))));refine nl J (J11 _ _ (Rk fun K J=>sE rfl (sQ (aZ (E3 rfl rfl dd_) (congrArg (Value.int .u64) (A5 _ 32))) rfl (sE rfl (nl J (J8 _ _ (Rk fun K J=>sE rfl (sE rfl (nl J ?_)))))))));refine ⟨pp_,_,_,(List.Sublist.refl _),oo_,k+1,⟨?s7,?s9⟩,?mem,rfl,oo_⟩
   case mem=>rw [kJ xs k lx,kJ ys k ly,ez_,IG _ hc]
   case s7=>rw [← ey_,← kJ xs k lx,← kJ ys k ly];rfl
   case s9=>exact congrArg (Value.int .i64) (eM (n:=(k:Int)+1) (by unfold I64;omega))
  replace hc:=cB_ hc
  obtain rfl:k=16:=by omega
  refine dW (aU (aU (bJ (J4 _ _ (Sq fun K12 J12=>Rk fun K J=>sQ (eG iJ rfl mm_ (by simp [uw,qY])) rfl ?_)))));refine sE rfl (sE rfl (bA rfl (dX iJ rfl rfl uu_ (by simp [uw,qY]) rfl (oQ _) (.inl (by assumption)) ?_)));refine sE rfl (nl J (J12 _ _ (aL (o6 rfl (.inr rfl) ⟨_,_,_,_,_,_,rfl,mm_,iJ,_,(gS (by simp [uw,qY])),(by simp [uw,qY]),rfl⟩ rfl ?_))));rw [OD];rfl

theorem FE (xs ys:List Nat) (hx:xs.length=16) (hy:ys.length=16) (lx:Lim xs) (ly:Lim ys) (hle:val ys≤val xs) :
    Ret Tryz.prog 124 [UV xs,UV ys] (UV (toL 16 (val xs - val ys))):=by
 refine cM (N:=31) Tryz.func124 rfl rfl (by simp) (fun w0=>?_);simp only [cS,Nat.reduceAdd];refine Sq fun K1 J1=>Rk fun K J=>bA rfl (qR rfl rfl (fun b2 hb2=>bA rfl (qR rfl rfl (fun b3 hb3=>bA rfl (i1 y6 (fun b4 hb4=>nl J (J1 _ _ (Sq fun K2 J2=>Rk fun K J=>bA rfl (i1 y6 (fun b5 hb5=>nl J (J2 _ _ (Sq fun K3 J3=>Rk fun K J=>sE rfl (nl J (J3 _ _ (Sq fun K4 J4=>Sq fun K5 J5=>Rk fun K J=>?_)))))))))))))));refine sE rfl (nl J (J5 _ _ (aJ ?_)));refine eA [6,7,8,9,10,11,12,13,14,15,16,17,18,19,20,21,22,23,24,25,26,27,28,29] (fun g nn M=>∃ (k:Nat),(g 6 = .int .u64 ((bw (val xs) (val ys) k:Nat):Int)∧g 9 = .int .i64 (k:Int))∧M=[⟨b5,29,uw (IF k (val xs - val ys) 16)⟩,⟨b4,29,uw (List.replicate 16 0)⟩,⟨b3,29,uw ys⟩,⟨b2,29,uw xs⟩]∧nn=16 - k∧(k≤16)) (16) ?start ?round
 case start =>
  refine ⟨_,(List.Sublist.refl _),0,⟨?a6,?a9⟩,?mem0,rfl,Nat.zero_le _⟩
  case mem0=>rw [KC]
  case a6=>rw [lE_];rfl
  case a9=>rfl
 case round =>
  rintro nn g M ⟨k,⟨hg6,hg9⟩,rfl,hmeas,hk⟩;subst nn;simp only [dQ,hg6,hg9];clear hg6 hg9;refine Sq fun K6 J6=>Rk fun K J=>sE rfl (nl J (J6 _ _ (Sq fun K7 J7=>?_)));refine fN _ rfl (fun hc=>?_) (fun hc=>?_)
  ·replace hc:=cB_ hc
   have hc:k<16:=by omega
   have hbw:=qT_ (val xs) (val ys) k;refine aG (J7 _ _ (Sq fun K8 J8=>aJ (Sq fun K9 J9=>Rk fun K J=>sE rfl (sE rfl (nl J (J9 _ _ (Sq fun K10 J10=>dr (sk (sk (sk (sk (s0))))) [0,4,8,12,16,20,24,28,32,36,40,44] [] mix (by kernel_rfl) (fun K J=>pE rfl (pQ rfl (j7 mI rfl rfl oo_ oo_) (pQ rfl (iA n9 rfl mm_ (DW oo_)) ?_))))))))));refine pQ rfl (i7 nP kV rfl) (pE rfl (pQ rfl (j7 mI rfl rfl oo_ oo_) (pQ rfl (iA n9 rfl mm_ (DW oo_)) ?_)));refine pQ rfl (i7 nP kV rfl) (pE rfl (pE rfl (pQ rfl (aZ (x9 rfl rfl) (congrArg (Value.int .u64) (fF_ hbw (iZ lx k) (iZ ly k)))) (pE rfl (fl J (J10 _ _ (Sq fun K11 J11=>Rk fun K J=>sE rfl (sE rfl (sQ (aZ (i7 kV nP rfl) (yM _)) rfl (sQ (j7 mI rfl rfl oo_ oo_) rfl (bA rfl (w7 n9 rfl rfl uu_ (by rw [qY _ hk];exact hc) (.inl (by assumption)) ?_))))))))))));refine nl J (J11 _ _ (Rk fun K J=>sE rfl (sQ (aZ (E3 rfl rfl dd_) (congrArg (Value.int .u64) (A5 _ 63))) rfl (sE rfl (nl J (J8 _ _ (Rk fun K J=>sE rfl (sE rfl (nl J ?_)))))))));refine ⟨pp_,_,_,(List.Sublist.refl _),oo_,k+1,⟨?s6,?s9⟩,?mem,rfl,oo_⟩
   case mem=>rw [kJ xs k lx,kJ ys k ly,cE_ k hle,IG _ hc]
   case s6=>rw [← aO_,← kJ xs k lx,← kJ ys k ly];rfl
   case s9=>exact congrArg (Value.int .i64) (eM (n:=(k:Int)+1) (by unfold I64;omega))
  replace hc:=cB_ hc
  obtain rfl:k=16:=by omega
  refine dW (aU (aU (bJ (J4 _ _ (Sq fun K12 J12=>Rk fun K J=>sQ (eG iJ rfl mm_ (by simp [uw,qY])) rfl ?_)))));refine bA rfl (dX iJ rfl rfl uu_ (by simp [uw,qY]) rfl (oQ _) (.inl (by assumption)) ?_);refine nl J (J12 _ _ (aL (cC rfl (.inr rfl) ⟨_,_,_,_,_,_,rfl,mm_,iJ,_,(gS (by simp [uw,qY])),(by simp [uw,qY]),rfl⟩ ?_)));rw [OD];rfl

theorem SZ (x:Nat) :
    Ret Tryz.prog 250 [U32 x] (.bool false):=by
 refine cM (N:=6) Tryz.func250 rfl rfl (by simp) (fun w0=>?_);simp only [cS,Nat.reduceAdd];refine Sq fun K1 J1=>Rk fun K J=>sE rfl (nl J (J1 _ _ (Sq fun K2 J2=>Rk fun K J=>sE rfl (sE rfl (sQ (aZ (nM_ rfl rfl) (congrArg Value.bool (bne_self_eq_false _))) rfl (sE rfl (nl J (J2 _ _ (aL (cC rfl (.inr rfl) rfl ?_))))))))));exact rfl

theorem gC_ (x y:Nat) :
    Ret Tryz.prog 204 [U32 x,U32 y] (.int .i64 (CU x y)):=by
 refine cM (N:=20) Tryz.func204 rfl rfl (by simp) (fun w0=>?_);simp only [cS,Nat.reduceAdd];refine Sq fun K1 J1=>Rk fun K J=>sE rfl (nl J (J1 _ _ (Sq fun K2 J2=>Rk fun K J=>sE rfl (sQ (bZ iT_ (SZ x) rfl) rfl (sE rfl (nl J (J2 _ _ (Sq fun K3 J3=>Rk fun K J=>sE rfl (sQ (bZ iT_ (SZ y) rfl) rfl (sE rfl (nl J (J3 _ _ (Sq fun K4 J4=>?_)))))))))))));refine Sq fun K5 J5=>Rk fun K J=>sE rfl (nl J (J5 _ _ (gJ rfl (aG (J4 _ _ (Sq fun K6 J6=>Sq fun K7 J7=>Rk fun K J=>sE rfl (nl J (J7 _ _ (gJ rfl (aG (J6 _ _ (Sq fun K8 J8=>Sq fun K9 J9=>Rk fun K J=>?_))))))))))));refine sE rfl (sE rfl (sE rfl (nl J (J9 _ _ ?_))));refine fN _ rfl (fun h1=>?_) (fun h1=>?_)
 ·replace h1:=cB_ h1
  refine Sq fun K10 J10=>Rk fun K J=>sE rfl (nl J (J10 _ _ (aL (aB (cC rfl (.inr rfl) rfl ?_)))));exact congrArg _ (G6 h1).symm
 replace h1:=cB_ h1
 refine aG (J8 _ _ (Sq fun K11 J11=>Sq fun K12 J12=>Rk fun K J=>sE rfl (sE rfl (sE rfl (nl J (J12 _ _ ?_))))));refine fN _ rfl (fun h2=>?_) (fun h2=>?_)
 ·replace h2:=cB_ h2
  refine Sq fun K13 J13=>Rk fun K J=>sE rfl (nl J (J13 _ _ (aL (aB (cC rfl (.inr rfl) rfl ?_)))));exact congrArg _ (G5 h2).symm
 replace h2:=cB_ h2
 refine aG (J11 _ _ (Sq fun K14 J14=>Rk fun K J=>sE rfl (nl J (J14 _ _ (aL (cC rfl (.inr rfl) rfl ?_))))))
 (obtain rfl:x=y:=by omega);exact congrArg _ (QK _).symm

theorem xR (xs ys:List Nat) (hx:xs.length=16) (hy:ys.length=16) (lx:Lim xs) (ly:Lim ys) :
    Ret Tryz.prog 123 [UV xs,UV ys] (.int .i64 (CU (val xs) (val ys))):=by
 refine cM (N:=24) Tryz.func123 rfl rfl (by simp) (fun w0=>?_);simp only [cS,Nat.reduceAdd];refine Sq fun K1 J1=>Rk fun K J=>bA rfl (qR rfl rfl (fun b2 hb2=>bA rfl (qR rfl rfl (fun b3 hb3=>sE rfl (nl J (J1 _ _ (Sq fun K2 J2=>Sq fun K3 J3=>Rk fun K J=>sE rfl (nl J (J3 _ _ (aJ ?_))))))))));refine eA [4,5,6,7,8,9,10,11,12,13,14,15,16,17,18,19,20,21,22,23] (fun g nn M=>∃ (k:Nat),(g 5 = .int .i64 ((k:Int) - 1))∧M=[⟨b3,29,uw ys⟩,⟨b2,29,uw xs⟩]∧nn=k+0∧(k≤16∧xs.drop k=ys.drop k)) (16) ?start ?round
 case start =>
  refine ⟨_,(List.Sublist.refl _),16,?a5,?mem0,rfl,⟨Nat.le_refl _,by rw [List.drop_eq_nil_of_le oo_,List.drop_eq_nil_of_le oo_]⟩⟩
  case mem0=>rfl
  case a5=>rfl
 case round =>
  rintro nn g M ⟨k,hg5,rfl,hmeas,⟨hk,hd⟩⟩;subst nn;simp only [dQ,hg5];clear hg5;refine Sq fun K4 J4=>Sq fun K5 J5=>Rk fun K J=>sE rfl (sE rfl (nl J (J5 _ _ ?_)));refine fN _ rfl (fun hc=>?_) (fun hc=>?_)
  ·replace hc:=cB_ hc
   obtain ⟨m,rfl⟩:∃ m,k=m+1:=⟨k - 1,by omega⟩;refine aG (J4 _ _ (Sq fun K6 J6=>aJ (Sq fun K7 J7=>dr (sk (sk (s0))) [0,4,8,12,16,20,24] [] mix (by kernel_rfl) (fun K J=>pQ rfl (aZ (rS rfl) (congrArg (Value.int .i64) (show (((m+1:Nat):Int) - 1)=(m:Int) by omega))) (pQ rfl (j7 mI rfl rfl oo_ oo_) (pQ rfl (iA n9 rfl mm_ (DW oo_)) ?_))))));refine pQ rfl (aZ (rS rfl) (congrArg (Value.int .i64) (show (((m+1:Nat):Int) - 1)=(m:Int) by omega))) (pQ rfl (j7 mI rfl rfl oo_ oo_) (pQ rfl (iA n9 rfl mm_ (DW oo_)) ?_));refine pE rfl (fl J (J7 _ _ ?_));refine fN _ rfl (fun hne=>?_) (fun hne=>?_)
   ·replace hne:=cB_ hne
    refine Sq fun K8 J8=>dr (sk (sk (s0))) [0,4,8,12,16,20,24,28] [] mix (by kernel_rfl) (fun K J=>pQ rfl (aZ (rS rfl) (congrArg (Value.int .i64) (show (((m+1:Nat):Int) - 1)=(m:Int) by omega))) (pQ rfl (j7 mI rfl rfl oo_ oo_) (pQ rfl (iA n9 rfl mm_ (DW oo_)) ?_)));refine pQ rfl (aZ (rS rfl) (congrArg (Value.int .i64) (show (((m+1:Nat):Int) - 1)=(m:Int) by omega))) (pQ rfl (j7 mI rfl rfl oo_ oo_) (pQ rfl (iA n9 rfl mm_ (DW oo_)) ?_));refine pQ rfl (bZ oW_ (gC_ _ _) rfl) (pE rfl (fl J (J8 _ _ (aL (aT (aB (aB (aT (aB (cC rfl (.inr rfl) rfl ?_))))))))));exact congrArg _ (eu_ lx ly oo_ hd oo_)
   replace hne:=cB_ hne
   refine aG (J6 _ _ (Rk fun K J=>sQ (aZ (rS rfl) (congrArg (Value.int .i64) (show (((m+1:Nat):Int) - 1)=(m:Int) by omega))) rfl (sE rfl (sE rfl (nl J ?_)))));refine ⟨pp_,_,_,(List.Sublist.refl _),oo_,m,?s5,?mem,rfl,⟨by omega,ak_ oo_ hd oo_ oo_⟩⟩
   case mem=>rfl
   case s5=>exact congrArg (Value.int .i64) (eM (n:=(m:Int) - 1) (by unfold I64;omega))
  replace hc:=cB_ hc
  obtain rfl:k=0:=by omega
  refine dW (aU (aU (bJ (J2 _ _ (Sq fun K9 J9=>Rk fun K J=>sE rfl (nl J (J9 _ _ (aL (cC rfl (.inr rfl) rfl ?_)))))))))
  (rw [List.drop_zero,List.drop_zero] at hd;subst hd;exact congrArg _ (QK _).symm)

theorem xD (xs:List Nat) (hx:xs.length=16) :
    Ret Tryz.prog 120 [UV xs] (.int .i64 ((szL xs:Nat):Int)):=by
 refine cM (N:=16) Tryz.func120 rfl rfl (by simp) (fun w0=>?_);simp only [cS,Nat.reduceAdd];refine Sq fun K1 J1=>Rk fun K J=>bA rfl (qR rfl rfl (fun b1 hb1=>sE rfl (nl J (J1 _ _ (Sq fun K2 J2=>Rk fun K J=>sE rfl (nl J (J2 _ _ (Sq fun K3 J3=>aJ ?_))))))));refine eA [3,4,5,6,7,8,9,10,11,12,13,14] (fun g nn M=>∃ (k:Nat),(g 3 = .int .i64 (k:Int))∧M=[⟨b1,29,uw xs⟩]∧nn=k+0∧(k≤16∧∀ j,k≤j→xs.getD j 0=0)) (16) ?start ?round
 case start =>
  refine ⟨_,(List.Sublist.refl _),16,?a3,?mem0,rfl,⟨Nat.le_refl _,fun j hj=>by simp [List.getD,List.getElem?_eq_none (show xs.length≤j by omega)]⟩⟩
  case mem0=>rfl
  case a3=>rfl
 case round =>
  rintro nn g M ⟨k,hg3,rfl,hmeas,⟨hk,hhi⟩⟩;subst nn;simp only [dQ,hg3];clear hg3;refine Sq fun K4 J4=>Sq fun K5 J5=>Rk fun K J=>sE rfl (sE rfl (sE rfl ?_))
  cases hz:decide ((0:Int)<(k:Int))
  ·refine aI rfl (aI rfl (aI rfl (aI rfl (aI rfl (sE rfl (nl J (J5 _ _ (gJ rfl (dW (aU (aU (bJ (J3 _ _ (Sq fun K6 J6=>Rk fun K J=>sE rfl (sE rfl (nl J (J6 _ _ (aL (cC rfl (.inr rfl) rfl ?_)))))))))))))))))));exact congrArg (fun n:Nat=>Value.int .i64 (n:Int)) (bl_ hhi (.inl (by have:=of_decide_eq_false hz;omega))).symm
  have hz':=of_decide_eq_true hz;obtain ⟨m,rfl⟩:∃ m,k=m+1:=⟨k - 1,by omega⟩;refine sE rfl (sQ (aZ (x9 rfl rfl) (congrArg (Value.int .i64) (I3 oo_))) rfl (sQ (j7 mI rfl rfl oo_ oo_) rfl (sQ (iA n9 rfl mm_ (DW oo_)) rfl ?_)));refine sE rfl (sE rfl (nl J (J5 _ _ ?_)));refine fN _ rfl (fun h0=>?_) (fun h0=>?_)
  ·replace h0:=cB_ h0
   refine aG (J4 _ _ (aJ (Rk fun K J=>sE rfl (sQ (aZ (x9 rfl rfl) (congrArg (Value.int .i64) (I3 oo_))) rfl (sE rfl (nl J ?_))))));refine ⟨pp_,_,_,(List.Sublist.refl _),oo_,m,?s3,?mem,rfl,⟨by omega,fun j hj=>by rcases Nat.eq_or_lt_of_le hj with rfl | hj;omega;exact hhi j hj⟩⟩
   case mem=>rfl
   case s3=>rfl
  replace h0:=cB_ h0
  refine dW (aU (aU (bJ (J3 _ _ (Sq fun K7 J7=>Rk fun K J=>sE rfl (sE rfl (nl J (J7 _ _ (aL (cC rfl (.inr rfl) rfl ?_))))))))));exact congrArg (fun n:Nat=>Value.int .i64 (n:Int)) (bl_ hhi (.inr (by simp only [Nat.add_sub_cancel];omega))).symm
end Go.Proofs.YtkjjponijamaoaaGreatDoor

