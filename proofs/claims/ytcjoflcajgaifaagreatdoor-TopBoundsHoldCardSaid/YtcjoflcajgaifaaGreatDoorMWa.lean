/- Lemmas: what they ask stands in their statements. -/
import Derived.Test.YtcjoflcajgaifaaGreatDoorMGE
set_option linter.unusedSimpArgs false
set_option linter.unusedVariables false
set_option maxHeartbeats 8000000
set_option maxRecDepth 20000
namespace Go.Proofs.YtcjoflcajgaifaaGreatDoor
open Go.Kn Go.Num Tryz
attribute [local irreducible] Go.Kn.W WL PL OpQ OpR OpS
theorem sP (r:R) (h:r.Ok) :
    Ret prog 107 [RV r] (.bool r.valid):=by
 refine bI (N:=23) func107 O O zz_ (fun w0=>?_);refine giI ?_;refine go_ ?_;refine aQ O (iG O O (fun b1 hb1=>go3 ?_));refine sQ (bX fdT dd_ O) O (sQ (fU (vs:=uw r.w) tyT O mm_ (jD h.len) ((fG _).trans h.len)) O ?_);refine sQ (lP mE arT O (.nil _)) O ?_;refine sQ (nX (r:=r.zero) O O (jY 8 dd_ DH DQ (kC h.len) (kC zz_) h.zero_iff)) O ?_;refine go4 ?_;refine sQ (bX fdT dd_ O) O (sQ (cZ tyT O mm_ O) O ?_);refine go_ ?_;refine aS _ O (fun hb=>?_) (fun hb=>?_)
 ·replace hb:=cB_ hb
  refine go3 ?_
  cases hz:r.zero
  ·refine go7 ?_;refine rt1 ?_
   simp [R.valid, *]
  refine sQ (bX fdT dd_ O) O (sQ (cZ tyT O mm_ O) O ?_);refine go5 ?_;refine rt1 ?_
  simp [R.valid, *]
 replace hb:=cB_ hb
 refine go5 ?_
 cases hz:r.zero
 ·refine go7 ?_;refine rt1 ?_
  simp [R.valid, *]
 refine sQ (bX fdT dd_ O) O (sQ (cZ tyT O mm_ O) O ?_);refine go5 ?_;refine rt1 ?_
 simp [R.valid, *]
theorem gR  :
  Ret prog 49 [] (RV Z.bad.enc):=by
 refine bI (N:=2) func49 O O zz_ (fun w0=>?_);refine giI ?_;refine go_ ?_;refine aQ O (dP kA (fun b0 hb0=>go2 ?_));refine sQ (tU kA plT O (.cons O (vs:=[.bool true]) O O (by simp [zR]) (z':=Z.bad.enc.cells) O (.nil _))) O ?_;refine aQ O (bK tyT O O uu_ O O (bJ Z.bad.enc) (.inl eX) ?_);refine go2 ?_;refine rtX O ⟨_,_,_,_,_,_,rfl,mm_,tyT,_,(dH O),rfl,rfl⟩ ?_;exact rfl
theorem eY (neg:Bool) (w:List Nat) (hw:w.length=16) (hlim:Lim w) :
   Ret prog 50 [.bool neg,UV w] (RV ⟨false,neg && !(val w==0),w⟩):=by
 refine bI (N:=13) func50 O O zz_ (fun w0=>?_);refine giI ?_
 have hlw:(uw w).length=16:=by rw [fG,hw]
 refine go_ ?_;refine aQ O (iG O O (fun b3 hb3=>aQ O (dP kA (fun b4 hb4=>go2 ?_))));refine kV (sd (sk s0)) 9 [8] [8] (go2 ?_)
 cases neg
 ·refine go4 ?_;refine pQ O (bZ tyT O mm_ hlw) ?_;refine pQ O (tU kA plT O (YM hw)) ?_;refine dA O O (bK tyT O O uu_ (by simp [R.cells,hlw]) O (bJ _) (.inl eX) ⟨nf,ss_,?_⟩);refine go2 ?_;refine rtX O ⟨_,_,_,_,_,_,rfl,mm_,tyT,_,(dH (by simp [R.cells,hlw])),(by simp [R.cells,hlw]),rfl⟩ ?_;rfl
 refine pQ O (bZ tyT O mm_ hlw) ?_;refine pQ O (lP mE arT O (.nil _)) ?_;refine pQ O (GK (r:=(val w==0)) O O (jY 8 dd_ DH DQ (kC hw) (kC zz_) (zU hw hlim))) ?_;refine go_ ?_;refine pQ O (bZ tyT O mm_ hlw) ?_;refine pQ O (tU kA plT O (YM hw)) ?_;refine dA O O (bK tyT O O uu_ (by simp [R.cells,hlw]) O (bJ _) (.inl eX) ⟨nf,ss_,?_⟩);refine go2 ?_;refine rtX O ⟨_,_,_,_,_,_,rfl,mm_,tyT,_,(dH (by simp [R.cells,hlw])),(by simp [R.cells,hlw]),rfl⟩ ?_;rfl
theorem gA (rs:List R) (hrs:∀ r∈rs,r.Ok) (b T:Nat) (w:World) (hb:w.heap[b]? = some (.cells (rs.flatMap R.cells).toArray T (0,0))) (hn:rs.length≤1000) :
    Calls prog 48 [.slice (some ⟨b,0,none⟩) rs.length rs.length].toArray w (fun e w'=>e = .returned (.bool (rs.all R.good))∧Ext w w'):=by
 refine cY (N:=19) func48 O O zz_ ?_;obtain ⟨w0,rfl⟩:=nm w;refine giI ?_;refine go6 ?_;refine sQ (DT o7 O) O (go3 ?_);refine cF (rg [2,4] 7 12) (fun g nn M=>∃ (k:Nat),(g 7 = .int .i64 (k:Int))∧M=[]∧nn=rs.length - k∧(k≤rs.length∧(rs.take k).all R.good=true)) (rs.length - 0) ?start ?round
 case start =>
  refine ⟨_,(List.Sublist.refl _),0,?a7,?mem0,rfl,⟨Nat.zero_le _,rfl⟩⟩
  case mem0=>rfl
  case a7=>rfl
 case round =>
  rintro nn g M ⟨k,hg7,rfl,hmeas,⟨hk,hall⟩⟩;subst nn;refine gS1 hg7 ?_;clear hg7;refine go4 ?_;refine aS _ O (fun hc=>?_) (fun hc=>?_)
  ·replace hc:=cB_ hc
   obtain ⟨r,hr⟩:∃ r,rs[k]? = some r:=⟨_,List.getElem?_eq_getElem oo_⟩;have hrok:=hrs r (List.mem_of_getElem? hr);refine go4 ?_;refine sQ (AN o7 O O oo_ oo_) O (sQ (O6 (vs:=r.cells) tyT O hb zz_ (by rw [show (0+(k:Int).toNat*18)=k*18 by omega];exact BZ R.cells 18 rs k r (fun y hy=>cO (hrs y hy)) hr) (cO hrok)) O ?_);refine aQ O (dP kA (fun b4 hb4=>aQ O (bK tyT O O uu_ (cO hrok) O (bJ _) (.inl eX) ?_)));refine go2 ?_;refine sQ (bX fdT dd_ O) O (sQ (cZ tyT O mm_ O) O ?_);refine go_ ?_
   cases hbad:r.bad
   ·refine sQ (bZ tyT O mm_ (cO hrok)) O ?_;refine sQ (aY aK (sP r hrok) O) O (go3 ?_);refine aS _ O (fun hx=>?_) (fun hx=>?_)
    ·replace hx:=cB_ hx
     skip
     refine go4 ?_;refine rt1 ?_;exact congrArg Value.bool (AX hr (by simp [R.good,hbad,hx]))
    replace hx:=cB_ hx
    skip
    refine go5 ?_;refine ⟨pp_,_,_,(List.Sublist.cons _ (List.Sublist.refl _)),oo_,k+1,?s7,?mem,rfl,⟨by omega,by rw [IA oo_ hr];simp [hall,R.good,hbad,hx]⟩⟩
    case mem=>rfl
    case s7=>(show Value.int .i64 _=_;rw [bV (by unfold I64;omega)];rfl)
   refine oF ?_;refine rt1 ?_;exact congrArg Value.bool (AX hr (by simp [R.good,hbad]))
  replace hc:=cB_ hc
  have hke:k=rs.length:=by omega
  refine go5 ?_;refine rt1 ?_
  (subst hke;rw [List.take_length] at hall;exact congrArg Value.bool hall.symm)
theorem HT (xs ys:List Nat) (hx:xs.length=16) (hy:ys.length=16) (lx:Lim xs) (ly:Lim ys) :
    Ret prog 103 [UV xs,UV ys] (.tuple #[UV (toL 16 (val xs+val ys)),.bool (((cy (val xs) (val ys) 16:Nat):Int)==0)]):=by
 refine bI (N:=33) func103 O O zz_ (fun w0=>?_);refine giI ?_;refine go_ ?_;refine aQ O (iG O O (fun b2 hb2=>aQ O (iG O O (fun b3 hb3=>aQ O (dP mE (fun b4 hb4=>go3 ?_))))));refine aQ O (dP mE (fun b6 hb6=>go9 ?_));refine cF (rg [] 7 23) (fun g nn M=>∃ (k:Nat),(g 7 = .int .u64 ((cy (val xs) (val ys) k:Nat):Int)∧g 9 = .int .i64 (k:Int))∧M=[⟨b6,29,uw (vJ k (val xs+val ys) 16)⟩,⟨b4,29,uw (List.replicate 16 0)⟩,⟨b3,29,uw ys⟩,⟨b2,29,uw xs⟩]∧nn=16 - k∧(k≤16)) (16) ?start ?round
 case start =>
  refine ⟨_,(List.Sublist.refl _),0,⟨?a7,?a9⟩,?mem0,rfl,Nat.zero_le _⟩
  case mem0=>rw [wL]
  case a7=>rw [bz_];rfl
  case a9=>rfl
 case round =>
  rintro nn g M ⟨k,⟨hg7,hg9⟩,rfl,hmeas,hk⟩;subst nn;refine gS2 hg7 hg9 ?_;clear hg7 hg9;refine go4 ?_;refine aS _ O (fun hc=>?_) (fun hc=>?_)
  ·replace hc:=cB_ hc
   have hc:k<16:=by omega
   have hcy:=fL_ (val xs) (val ys) k;refine go8 ?_;refine kV (sk (sk (sk (sk s0)))) 12 [] [] (go2 ?_);refine pQ O (dX arT O O oo_ oo_) (pQ O (cZ tyT O mm_ (q8 oo_)) ?_);refine pQ O (dJ fM eS O) (go_ ?_);refine pQ O (dX arT O O oo_ oo_) (pQ O (cZ tyT O mm_ (q8 oo_)) ?_);refine pQ O (dJ fM eS O) (go_ ?_);refine pQ O (aE (gP O O) (congrArg (Value.int .u64) (eI_ hcy (dG lx k) (dG ly k)))) (go5 ?_);refine sQ (aE (dJ eS fM O) (l4 _)) O (sQ (dX arT O O oo_ oo_) O (aQ O (kZ tyT O O uu_ (by rw [gX _ hk];exact hc) (.inl eX) ?_)));refine go3 ?_;refine sQ (aE (r9 O O dd_) (congrArg (Value.int .u64) (oJ _ 32))) O (go6 ?_);refine ⟨pp_,_,_,(List.Sublist.refl _),oo_,k+1,⟨?s7,?s9⟩,?mem,rfl,oo_⟩
   case mem=>rw [dY xs k lx,dY ys k ly,RZ,vK _ hc]
   case s7=>rw [← RY,← dY xs k lx,← dY ys k ly];rfl
   case s9=>exact congrArg (Value.int .i64) (bV (n:=(k:Int)+1) (by unfold I64;omega))
  replace hc:=cB_ hc
  obtain rfl:k=16:=by omega
  refine go2 ?_;refine sQ (bZ tyT O mm_ (by simp [uw,gX])) O ?_;refine go2 ?_;refine aQ O (bK tyT O O uu_ (by simp [uw,gX]) O (fS _) (.inl eX) ?_);refine go3 ?_;refine wS O (.inr O) ⟨_,_,_,_,_,_,rfl,mm_,tyT,_,(dH (by simp [uw,gX])),(by simp [uw,gX]),rfl⟩ O ?_;rw [zE];rfl
theorem sU (xs ys:List Nat) (hx:xs.length=16) (hy:ys.length=16) (lx:Lim xs) (ly:Lim ys) (hle:val ys≤val xs) :
    Ret prog 105 [UV xs,UV ys] (UV (toL 16 (val xs - val ys))):=by
 refine bI (N:=31) func105 O O zz_ (fun w0=>?_);refine giI ?_;refine go_ ?_;refine aQ O (iG O O (fun b2 hb2=>aQ O (iG O O (fun b3 hb3=>aQ O (dP mE (fun b4 hb4=>go2 ?_))))));refine aQ O (dP mE (fun b5 hb5=>go9 ?_));refine cF (rg [] 6 24) (fun g nn M=>∃ (k:Nat),(g 6 = .int .u64 ((bw (val xs) (val ys) k:Nat):Int)∧g 9 = .int .i64 (k:Int))∧M=[⟨b5,29,uw (vJ k (val xs - val ys) 16)⟩,⟨b4,29,uw (List.replicate 16 0)⟩,⟨b3,29,uw ys⟩,⟨b2,29,uw xs⟩]∧nn=16 - k∧(k≤16)) (16) ?start ?round
 case start =>
  refine ⟨_,(List.Sublist.refl _),0,⟨?a6,?a9⟩,?mem0,rfl,Nat.zero_le _⟩
  case mem0=>rw [wL]
  case a6=>rw [bs_];rfl
  case a9=>rfl
 case round =>
  rintro nn g M ⟨k,⟨hg6,hg9⟩,rfl,hmeas,hk⟩;subst nn;refine gS2 hg6 hg9 ?_;clear hg6 hg9;refine go4 ?_;refine aS _ O (fun hc=>?_) (fun hc=>?_)
  ·replace hc:=cB_ hc
   have hc:k<16:=by omega
   have hbw:=fH_ (val xs) (val ys) k;refine go8 ?_;refine kV (sk (sk (sk (sk s0)))) 12 [] [] (go_ ?_);refine pQ O (dX arT O O oo_ oo_) (pQ O (cZ tyT O mm_ (q8 oo_)) ?_);refine pQ O (dJ fM eS O) (go_ ?_);refine pQ O (dX arT O O oo_ oo_) (pQ O (cZ tyT O mm_ (q8 oo_)) ?_);refine pQ O (dJ fM eS O) (go2 ?_);refine pQ O (aE (lV O O) (congrArg (Value.int .u64) (TQ hbw (dG lx k) (dG ly k)))) (go5 ?_);refine sQ (aE (dJ eS fM O) (l4 _)) O (sQ (dX arT O O oo_ oo_) O (aQ O (kZ tyT O O uu_ (by rw [gX _ hk];exact hc) (.inl eX) ?_)));refine go3 ?_;refine sQ (aE (r9 O O dd_) (congrArg (Value.int .u64) (oJ _ 63))) O (go6 ?_);refine ⟨pp_,_,_,(List.Sublist.refl _),oo_,k+1,⟨?s6,?s9⟩,?mem,rfl,oo_⟩
   case mem=>rw [dY xs k lx,dY ys k ly,OR k hle,vK _ hc]
   case s6=>rw [← LH,← dY xs k lx,← dY ys k ly];rfl
   case s9=>exact congrArg (Value.int .i64) (bV (n:=(k:Int)+1) (by unfold I64;omega))
  replace hc:=cB_ hc
  obtain rfl:k=16:=by omega
  refine go2 ?_;refine sQ (bZ tyT O mm_ (by simp [uw,gX])) O ?_;refine aQ O (bK tyT O O uu_ (by simp [uw,gX]) O (fS _) (.inl eX) ?_);refine go2 ?_;refine rtX O ⟨_,_,_,_,_,_,rfl,mm_,tyT,_,(dH (by simp [uw,gX])),(by simp [uw,gX]),rfl⟩ ?_;rw [zE];rfl
theorem DM (x:Nat) :
  Ret prog 196 [U32 x] (.bool false):=by
 refine bI (N:=6) func196 O O zz_ (fun w0=>?_);refine giI ?_;refine go6 ?_;refine sQ (aE (dj_ O O) (congrArg Value.bool (bne_self_eq_false _))) O (go3 ?_);refine rt1 ?_;exact rfl
theorem U8 (x y:Nat) :
   Ret prog 160 [U32 x,U32 y] (.int .i64 (uI x y)):=by
 refine bI (N:=20) func160 O O zz_ (fun w0=>?_);refine giI ?_;refine go5 ?_;refine sQ (aY aK (DM x) O) O (go4 ?_);refine sQ (aY aK (DM y) O) O (Q7 ?_);refine aS _ O (fun h1=>?_) (fun h1=>?_)
 ·replace h1:=cB_ h1
  refine go4 ?_;refine rt1 ?_;exact congrArg _ (A6 h1).symm
 replace h1:=cB_ h1
 refine go7 ?_;refine aS _ O (fun h2=>?_) (fun h2=>?_)
 ·replace h2:=cB_ h2
  refine go4 ?_;refine rt1 ?_;exact congrArg _ (A5 h2).symm
 replace h2:=cB_ h2
 refine go5 ?_;refine rt1 ?_
 (obtain rfl:x=y:=by omega);exact congrArg _ (KN _).symm
theorem lI (xs ys:List Nat) (hx:xs.length=16) (hy:ys.length=16) (lx:Lim xs) (ly:Lim ys) :
    Ret prog 104 [UV xs,UV ys] (.int .i64 (uI (val xs) (val ys))):=by
 refine bI (N:=24) func104 O O zz_ (fun w0=>?_);refine giI ?_;refine go_ ?_;refine aQ O (iG O O (fun b2 hb2=>aQ O (iG O O (fun b3 hb3=>go7 ?_))));refine cF (rg [] 4 20) (fun g nn M=>∃ (k:Nat),(g 5 = .int .i64 ((k:Int) - 1))∧M=[⟨b3,29,uw ys⟩,⟨b2,29,uw xs⟩]∧nn=k+0∧(k≤16∧xs.drop k=ys.drop k)) (16) ?start ?round
 case start =>
  refine ⟨_,(List.Sublist.refl _),16,?a5,?mem0,rfl,⟨Nat.le_refl _,by rw [List.drop_eq_nil_of_le oo_,List.drop_eq_nil_of_le oo_]⟩⟩
  case mem0=>rfl
  case a5=>rfl
 case round =>
  rintro nn g M ⟨k,hg5,rfl,hmeas,⟨hk,hd⟩⟩;subst nn;refine gS1 hg5 ?_;clear hg5;refine go5 ?_;refine aS _ O (fun hc=>?_) (fun hc=>?_)
  ·replace hc:=cB_ hc
   obtain ⟨m,rfl⟩:∃ m,k=m+1:=⟨k - 1,by omega⟩;refine go4 ?_;refine kV (sk (sk s0)) 7 [] [] (pQ O (aE (iF O) (congrArg (Value.int .i64) (show (((m+1:Nat):Int) - 1)=(m:Int) by omega))) (pQ O (dX arT O O oo_ oo_) (pQ O (cZ tyT O mm_ (q8 oo_)) ?_)));refine pQ O (aE (iF O) (congrArg (Value.int .i64) (show (((m+1:Nat):Int) - 1)=(m:Int) by omega))) (pQ O (dX arT O O oo_ oo_) (pQ O (cZ tyT O mm_ (q8 oo_)) ?_));refine go2 ?_;refine aS _ O (fun hne=>?_) (fun hne=>?_)
   ·replace hne:=cB_ hne
    refine go_ ?_;refine kV (sk (sk s0)) 8 [] [] (pQ O (aE (iF O) (congrArg (Value.int .i64) (show (((m+1:Nat):Int) - 1)=(m:Int) by omega))) (pQ O (dX arT O O oo_ oo_) (pQ O (cZ tyT O mm_ (q8 oo_)) ?_)));refine pQ O (aE (iF O) (congrArg (Value.int .i64) (show (((m+1:Nat):Int) - 1)=(m:Int) by omega))) (pQ O (dX arT O O oo_ oo_) (pQ O (cZ tyT O mm_ (q8 oo_)) ?_));refine pQ O (aY aK (U8 _ _) O) (go3 ?_);refine rt1 ?_;exact congrArg _ (RW lx ly oo_ hd oo_)
   replace hne:=cB_ hne
   refine go2 ?_;refine sQ (aE (iF O) (congrArg (Value.int .i64) (show (((m+1:Nat):Int) - 1)=(m:Int) by omega))) O (go3 ?_);refine ⟨pp_,_,_,(List.Sublist.refl _),oo_,m,?s5,?mem,rfl,⟨by omega,KS oo_ hd oo_ oo_⟩⟩
   case mem=>rfl
   case s5=>exact congrArg (Value.int .i64) (bV (n:=(m:Int) - 1) (by unfold I64;omega))
  replace hc:=cB_ hc
  obtain rfl:k=0:=by omega
  refine go5 ?_;refine rt1 ?_
  (rw [List.drop_zero,List.drop_zero] at hd;subst hd;exact congrArg _ (KN _).symm)
theorem lB (xs:List Nat) (hx:xs.length=16) :
    Ret prog 106 [UV xs] (.int .i64 ((szL xs:Nat):Int)):=by
 refine bI (N:=16) func106 O O zz_ (fun w0=>?_);refine giI ?_;refine go_ ?_;refine aQ O (iG O O (fun b1 hb1=>go7 ?_));refine cF (rg [] 3 12) (fun g nn M=>∃ (k:Nat),(g 3 = .int .i64 (k:Int))∧M=[⟨b1,29,uw xs⟩]∧nn=k+0∧(k≤16∧∀ j,k≤j→xs.getD j 0=0)) (16) ?start ?round
 case start =>
  refine ⟨_,(List.Sublist.refl _),16,?a3,?mem0,rfl,⟨Nat.le_refl _,fun j hj=>by simp [List.getD,List.getElem?_eq_none (show xs.length≤j by omega)]⟩⟩
  case mem0=>rfl
  case a3=>rfl
 case round =>
  rintro nn g M ⟨k,hg3,rfl,hmeas,⟨hk,hhi⟩⟩;subst nn;refine gS1 hg3 ?_;clear hg3;refine go5 ?_
  cases hz:decide ((0:Int)<(k:Int))
  ·refine D5 ?_;refine rt1 ?_;exact congrArg (fun n:Nat=>Value.int .i64 (n:Int)) (MT hhi (.inl (by have:=of_decide_eq_false hz;omega))).symm
  have hz':=of_decide_eq_true hz;obtain ⟨m,rfl⟩:∃ m,k=m+1:=⟨k - 1,by omega⟩;refine go_ ?_;refine sQ (aE (lV O O) (congrArg (Value.int .i64) (vW oo_))) O (sQ (dX arT O O oo_ oo_) O (sQ (cZ tyT O mm_ (q8 oo_)) O ?_));refine go3 ?_;refine aS _ O (fun h0=>?_) (fun h0=>?_)
  ·replace h0:=cB_ h0
   refine go4 ?_;refine sQ (aE (lV O O) (congrArg (Value.int .i64) (vW oo_))) O (go2 ?_);refine ⟨pp_,_,_,(List.Sublist.refl _),oo_,m,?s3,?mem,rfl,⟨by omega,fun j hj=>by rcases Nat.eq_or_lt_of_le hj with rfl|hj;omega;exact hhi j hj⟩⟩
   case mem=>rfl
   case s3=>rfl
  replace h0:=cB_ h0
  refine go6 ?_;refine rt1 ?_;exact congrArg (fun n:Nat=>Value.int .i64 (n:Int)) (MT hhi (.inr (by simp only [Nat.add_sub_cancel];omega))).symm
theorem vD (a:R) (ha:a.Ok) :
   Ret prog 10 [RV a] (RV (Z.neg a.dec).enc):=by
 refine bI (N:=14) func10 O O zz_ (fun w0=>?_);refine giI ?_;refine go_ ?_;refine aQ O (iG O O (fun b1 hb1=>aQ O (dP kA (fun b2 hb2=>go3 ?_))));refine sQ (bZ tyT O mm_ (cO ha)) O ?_;refine aQ O (hZ n7 kA n6 O dd_ O (u3 ha) (fun b4 hb4=>sQ (dZ aK O (fun w hw=>gA [a] (ok1 ha) b4 31 w (hw.mem _ m0) zz_)) O ?_));refine go2 ?_;refine aS _ O (fun hg=>?_) (fun hg=>?_)
 ·replace hg:=cB_ hg
  refine go_ ?_;refine sQ (aY aK gR O) O (aQ O (bK tyT O O uu_ (aI _) O (bJ _) (.inl eX) ?_));refine go2 ?_;refine rtX O ⟨_,_,_,_,_,_,rfl,mm_,tyT,_,(dH (aI _)),(aI _),rfl⟩ ?_
  (rw [Z.neg,rH (OT hg)];rfl)
 replace hg:=cB_ hg
 refine go2 ?_;refine sQ (bX fdT dd_ O) O (sQ (cZ tyT O mm_ O) O ?_);refine go_ ?_;refine sQ (bX fdT dd_ O) O (sQ (fU (vs:=uw a.w) tyT O mm_ (jD ha.len) ((fG _).trans ha.len)) O ?_);refine sQ (aY aK (eY (!a.neg) a.w ha.len ha.lim) O) O (aQ O (bK tyT O O uu_ (jM ha.len) O (bJ _) (.inl eX) ?_));refine go2 ?_;refine rtX O ⟨_,_,_,_,_,_,rfl,mm_,tyT,_,(dH (jM ha.len)),(jM ha.len),rfl⟩ ?_;exact congrArg RV (ez_ ha (by simpa using hg))
theorem vC (a:R) (ha:a.Ok) :
   Ret prog 162 [RV a] (RV (Z.abs a.dec).enc):=by
 refine bI (N:=11) func162 O O zz_ (fun w0=>?_);refine giI ?_;refine go_ ?_;refine aQ O (iG O O (fun b1 hb1=>aQ O (dP kA (fun b2 hb2=>go3 ?_))));refine sQ (bZ tyT O mm_ (cO ha)) O ?_;refine aQ O (hZ n7 kA n6 O dd_ O (u3 ha) (fun b4 hb4=>sQ (dZ aK O (fun w hw=>gA [a] (ok1 ha) b4 31 w (hw.mem _ m0) zz_)) O ?_));refine go2 ?_;refine aS _ O (fun hg=>?_) (fun hg=>?_)
 ·replace hg:=cB_ hg
  refine go_ ?_;refine sQ (aY aK gR O) O (aQ O (bK tyT O O uu_ (aI _) O (bJ _) (.inl eX) ?_));refine go2 ?_;refine rtX O ⟨_,_,_,_,_,_,rfl,mm_,tyT,_,(dH (aI _)),(aI _),rfl⟩ ?_
  (rw [Z.abs,rH (OT hg)];rfl)
 replace hg:=cB_ hg
 refine go2 ?_;refine sQ (bX fdT dd_ O) O (sQ (fU (vs:=uw a.w) tyT O mm_ (jD ha.len) ((fG _).trans ha.len)) O ?_);refine sQ (aY aK (eY false a.w ha.len ha.lim) O) O (aQ O (bK tyT O O uu_ (jM ha.len) O (bJ _) (.inl eX) ?_));refine go2 ?_;refine rtX O ⟨_,_,_,_,_,_,rfl,mm_,tyT,_,(dH (jM ha.len)),(jM ha.len),rfl⟩ ?_;exact congrArg RV (dU_ ha (by simpa using hg))
theorem gQ (a b:R) (ha:a.Ok) (hb:b.Ok) :
    Ret prog 44 [RV a,RV b] (RV (Z.add a.dec b.dec).enc):=by
 refine bI (N:=55) func44 O O zz_ (fun w0=>?_);refine giI ?_;refine go_ ?_;refine aQ O (iG O O (fun b2 hb2=>aQ O (iG O O (fun b3 hb3=>aQ O (dP kA (fun b4 hb4=>go3 ?_))))));refine sQ (bZ tyT O mm_ (cO ha)) O ?_;refine sQ (bZ tyT O mm_ (cO hb)) O ?_;refine aQ O (hZ n7 kA n6 O dd_ O (KY ha hb) (fun b9 hb9=>sQ (dZ aK O (fun w hw=>gA [a,b] (ok2 ha hb) b9 31 w (hw.mem _ m0) zz_)) O ?_));refine go2 ?_;refine aS _ O (fun hg=>?_) (fun hg=>?_)
 ·replace hg:=cB_ hg
  refine go_ ?_;refine sQ (aY aK gR O) O (aQ O (bK tyT O O uu_ (aI _) O (bJ _) (.inl eX) ?_));refine go2 ?_;refine rtX O ⟨_,_,_,_,_,_,rfl,mm_,tyT,_,(dH (aI _)),(aI _),rfl⟩ ?_
  (rw [Z.add,jQ (BM hg)];rfl)
 replace hg:=cB_ hg
 have hg:=all2.1 hg;refine go3 ?_;refine sQ (bX fdT dd_ O) O (sQ (cZ tyT O mm_ O) O ?_);refine sQ (bX fdT dd_ O) O (sQ (cZ tyT O mm_ O) O ?_);refine sQ (eK_ QV O O) O (go_ ?_);refine aS _ O (fun hn=>?_) (fun hn=>?_)
 ·replace hn:=cB_ hn
  refine go_ ?_;refine sQ (bX fdT dd_ O) O (sQ (fU (vs:=uw a.w) tyT O mm_ (jD ha.len) ((fG _).trans ha.len)) O ?_);refine sQ (bX fdT dd_ O) O (sQ (fU (vs:=uw b.w) tyT O mm_ (jD hb.len) ((fG _).trans hb.len)) O ?_);refine sQ (aY aK (HT a.w b.w ha.len hb.len ha.lim hb.lim) O) O (go3 ?_);refine aQ O (dP mE (fun b5 hb5=>aQ O (bK tyT O O uu_ (by rw [fG,cU]) O (fS _) (.inl eX) ?_)));refine go7 ?_;refine aS _ O (fun hc=>?_) (fun hc=>?_)
  ·replace hc:=cB_ hc
   refine go_ ?_;refine sQ (aY aK gR O) O (aQ O (bK tyT O O uu_ (aI _) O (bJ _) (.inl eX) ?_));refine go2 ?_;refine rtX O ⟨_,_,_,_,_,_,rfl,mm_,tyT,_,(dH (aI _)),(aI _),rfl⟩ ?_;exact congrArg RV (W6 ha hb hg.1 hg.2 hn oo_)
  replace hc:=cB_ hc
  refine go2 ?_;refine sQ (bX fdT dd_ O) O (sQ (cZ tyT O mm_ O) O ?_);refine sQ (bZ tyT O mm_ (by rw [fG,cU])) O ?_;refine sQ (aY aK (eY a.neg _ (cU _ _) (kE _ _)) O) O (aQ O (bK tyT O O uu_ (jM (cU _ _)) O (bJ _) (.inl eX) ?_));refine go2 ?_;refine rtX O ⟨_,_,_,_,_,_,rfl,mm_,tyT,_,(dH (jM (cU _ _))),(jM (cU _ _)),rfl⟩ ?_;exact congrArg RV (W7 ha hb hg.1 hg.2 hn oo_)
 replace hn:=cB_ hn
 refine go3 ?_;refine sQ (bX fdT dd_ O) O (sQ (fU (vs:=uw a.w) tyT O mm_ (jD ha.len) ((fG _).trans ha.len)) O ?_);refine sQ (bX fdT dd_ O) O (sQ (fU (vs:=uw b.w) tyT O mm_ (jD hb.len) ((fG _).trans hb.len)) O ?_);refine sQ (aY aK (lI a.w b.w ha.len hb.len ha.lim hb.lim) O) O (go2 ?_);refine aS _ O (fun ho=>?_) (fun ho=>?_)
 ·replace ho:=cB_ ho
  have hle:val b.w≤val a.w:=SS ho;refine go_ ?_;refine kV (sk (sd (sk (sk s0)))) 9 [8] [8] (pQ O (bX fdT dd_ O) (pQ O (cZ tyT O mm_ O) ?_));refine pQ O (bX fdT dd_ O) (pQ O (fU (vs:=uw a.w) tyT O mm_ (jD ha.len) ((fG _).trans ha.len)) ?_);refine pQ O (bX fdT dd_ O) (pQ O (fU (vs:=uw b.w) tyT O mm_ (jD hb.len) ((fG _).trans hb.len)) ?_);refine pQ O (aY aK (sU a.w b.w ha.len hb.len ha.lim hb.lim hle) O) (pQ O (aY aK (eY a.neg _ (cU _ _) (kE _ _)) O) ?_);refine dA O O (bK tyT O O uu_ (jM (cU _ _)) O (bJ _) (.inl eX) ⟨nf,ss_,?_⟩);refine go2 ?_;refine rtX O ⟨_,_,_,_,_,_,rfl,mm_,tyT,_,(dH (jM (cU _ _))),(jM (cU _ _)),rfl⟩ ?_;exact congrArg RV (W8 ha hb hg.1 hg.2 hn hle)
 replace ho:=cB_ ho
 have hle:val a.w≤val b.w:=XO ho;refine go2 ?_;refine kV (sk (sd (sk (sk s0)))) 9 [8] [8] (pQ O (bX fdT dd_ O) (pQ O (cZ tyT O mm_ O) ?_));refine pQ O (bX fdT dd_ O) (pQ O (fU (vs:=uw b.w) tyT O mm_ (jD hb.len) ((fG _).trans hb.len)) ?_);refine pQ O (bX fdT dd_ O) (pQ O (fU (vs:=uw a.w) tyT O mm_ (jD ha.len) ((fG _).trans ha.len)) ?_);refine pQ O (aY aK (sU b.w a.w hb.len ha.len hb.lim ha.lim hle) O) (pQ O (aY aK (eY b.neg _ (cU _ _) (kE _ _)) O) ?_);refine dA O O (bK tyT O O uu_ (jM (cU _ _)) O (bJ _) (.inl eX) ⟨nf,ss_,?_⟩);refine go2 ?_;refine rtX O ⟨_,_,_,_,_,_,rfl,mm_,tyT,_,(dH (jM (cU _ _))),(jM (cU _ _)),rfl⟩ ?_;exact congrArg RV (W9 ha hb hg.1 hg.2 hn hle)
theorem o8 (a b:R) (ha:a.Ok) (hb:b.Ok) :
  Ret prog 60 [RV a,RV b] (RV (Z.sub a.dec b.dec).enc):=by
 refine bI (N:=9) func60 O O zz_ (fun w0=>?_);refine giI ?_;refine go_ ?_;refine aQ O (iG O O (fun b2 hb2=>aQ O (iG O O (fun b3 hb3=>aQ O (dP kA (fun b4 hb4=>go2 ?_))))));refine kV (sd (sk (sk s0))) 5 [4] [4] (pQ O (bZ tyT O mm_ (cO ha)) ?_);refine pQ O (bZ tyT O mm_ (cO hb)) ?_;refine pQ O (aY aK (vD b hb) O) (pQ O (aY aK (gQ a (Z.neg b.dec).enc ha (Z.enc_ok _)) O) ?_);refine dA O O (bK tyT O O uu_ (aI _) O (bJ _) (.inl eX) ⟨nf,ss_,?_⟩);refine go2 ?_;refine rtX O ⟨_,_,_,_,_,_,rfl,mm_,tyT,_,(dH (aI _)),(aI _),rfl⟩ ?_
 (rw [wK];rfl)
theorem fD (a:R) (ha:a.Ok) :
   Ret prog 28 [RV a] (.int .i64 a.dec.sign):=by
 refine bI (N:=17) func28 O O zz_ (fun w0=>?_);refine giI ?_;refine go_ ?_;refine aQ O (iG O O (fun b1 hb1=>go5 ?_));refine sQ (bZ tyT O mm_ (cO ha)) O ?_;refine aQ O (hZ n7 kA n6 O dd_ O (u3 ha) (fun b5 hb5=>sQ (dZ aK O (fun w hw=>gA [a] (ok1 ha) b5 31 w (hw.mem _ m0) zz_)) O ?_));refine go2 ?_
 cases hg:[a].all R.good
 ·refine yD ?_;refine rt1 ?_;exact congrArg _ (zS ha (.inl (by simpa using hg)))
 refine sQ (bX fdT dd_ O) O (sQ (fU (vs:=uw a.w) tyT O mm_ (jD ha.len) ((fG _).trans ha.len)) O ?_);refine sQ (lP mE arT O (.nil _)) O ?_;refine sQ (nX (r:=a.zero) O O (jY 8 dd_ DH DQ (kC ha.len) (kC zz_) ha.zero_iff)) O ?_;refine go3 ?_;refine aS _ O (fun hz=>?_) (fun hz=>?_)
 ·replace hz:=cB_ hz
  refine go4 ?_;refine rt1 ?_;exact congrArg _ (zS ha (.inr hz))
 replace hz:=cB_ hz
 refine go_ ?_;refine sQ (bX fdT dd_ O) O (sQ (cZ tyT O mm_ O) O ?_);refine go2 ?_;refine aS _ O (fun hn=>?_) (fun hn=>?_)
 ·replace hn:=cB_ hn
  refine go4 ?_;refine rt1 ?_;exact congrArg _ (PO ha (by simpa using hg) hz hn)
 replace hn:=cB_ hn
 refine go5 ?_;refine rt1 ?_;exact congrArg _ (PP ha (by simpa using hg) hz hn)
theorem dV (n:Int) (hn:I64 n) :
   Ret prog 34 [.int .i64 n] (RV (Z.of n).enc):=by
 refine bI (N:=19) func34 O O zz_ (fun w0=>?_);refine giI ?_;refine go_ ?_;refine aQ O (dP kA (fun b2 hb2=>go3 ?_));refine sQ (dJ zW eS O) O (go7 ?_);refine aS _ O (fun h0=>?_) (fun h0=>?_)
 ·replace h0:=cB_ h0
  refine go2 ?_;refine sQ (aE (aa_ O) (congrArg (Value.int .u64) (eB_ hn h0))) O (go5 ?_);refine sQ (aE (iF O) (show _=Value.int .u64 (n.natAbs:Int) from by first|rfl|exact congrArg (Value.int .u64) (LO hn h0))) O ?_;refine sQ (dJ eS fM O) O (sQ (aE (iF O) (show _=Value.int .u64 (n.natAbs:Int) from by first|rfl|exact congrArg (Value.int .u64) (LO hn h0))) O ?_);refine sQ (aE (r9 O O dd_) (congrArg (Value.int .u64) (oJ _ 32))) O (sQ (dJ eS fM O) O (sQ (lP mE arT O (YJ (ZX _) (ZW (by unfold I64 at hn;omega)))) O (sQ (aY aK (eY (decide (n<0)) _ zz_ (ZB (Nat.mod_lt _ dd_) (by unfold I64 at hn;omega) 14)) O) O ?_)));refine aQ O (bK tyT O O uu_ (jM zz_) O (bJ _) (.inl eX) ?_);refine go2 ?_;refine rtX O ⟨_,_,_,_,_,_,rfl,mm_,tyT,_,(dH (jM zz_)),(jM zz_),rfl⟩ ?_;exact congrArg RV (ZV hn O O)
 replace h0:=cB_ h0
 refine go4 ?_;refine sQ (aE (iF O) (show _=Value.int .u64 (n.natAbs:Int) from by first|rfl|exact congrArg (Value.int .u64) (LO hn h0))) O ?_;refine sQ (dJ eS fM O) O (sQ (aE (iF O) (show _=Value.int .u64 (n.natAbs:Int) from by first|rfl|exact congrArg (Value.int .u64) (LO hn h0))) O ?_);refine sQ (aE (r9 O O dd_) (congrArg (Value.int .u64) (oJ _ 32))) O (sQ (dJ eS fM O) O (sQ (lP mE arT O (YJ (ZX _) (ZW (by unfold I64 at hn;omega)))) O (sQ (aY aK (eY (decide (n<0)) _ zz_ (ZB (Nat.mod_lt _ dd_) (by unfold I64 at hn;omega) 14)) O) O ?_)));refine aQ O (bK tyT O O uu_ (jM zz_) O (bJ _) (.inl eX) ?_);refine go2 ?_;refine rtX O ⟨_,_,_,_,_,_,rfl,mm_,tyT,_,(dH (jM zz_)),(jM zz_),rfl⟩ ?_;exact congrArg RV (ZV hn O O)
theorem cV (a b:R) (ha:a.Ok) (hb:b.Ok) :
    Ret prog 45 [RV a,RV b] (RV (Z.mul a.dec b.dec).enc):=by
 refine bI (N:=82) func45 O O zz_ (fun w0=>?_);refine giI ?_;refine go_ ?_;refine aQ O (iG O O (fun b2 hb2=>aQ O (iG O O (fun b3 hb3=>aQ O (dP kA (fun b4 hb4=>go3 ?_))))));refine sQ (bZ tyT O mm_ (cO ha)) O ?_;refine sQ (bZ tyT O mm_ (cO hb)) O ?_;refine aQ O (hZ n7 kA n6 O dd_ O (KY ha hb) (fun b13 hb13=>sQ (dZ aK O (fun w hw=>gA [a,b] (ok2 ha hb) b13 31 w (hw.mem _ m0) zz_)) O ?_));refine go2 ?_;refine aS _ O (fun hg=>?_) (fun hg=>?_)
 ·replace hg:=cB_ hg
  refine go_ ?_;refine sQ (aY aK gR O) O (aQ O (bK tyT O O uu_ (aI _) O (bJ _) (.inl eX) ?_));refine go2 ?_;refine rtX O ⟨_,_,_,_,_,_,rfl,mm_,tyT,_,(dH (aI _)),(aI _),rfl⟩ ?_
  (rw [Z.mul,jQ (BM hg)];rfl)
 replace hg:=cB_ hg
 have hg:=all2.1 hg;refine go2 ?_;refine aQ O (dP gO_ (fun b5 hb5=>go2 ?_));have hsa:=sO a.w;have hsb:=sO b.w;rw [ha.len] at hsa;rw [hb.len] at hsb;refine kV (sk (sk (sk (sk (sk s0))))) 8 [] [] (pQ O (bX fdT dd_ O) (pQ O (fU (vs:=uw a.w) tyT O mm_ (jD ha.len) ((fG _).trans ha.len)) ?_));refine pQ O (aY aK (lB a.w ha.len) O) (pQ O (bX fdT dd_ O) (pQ O (fU (vs:=uw b.w) tyT O mm_ (jD hb.len) ((fG _).trans hb.len)) ?_));refine pQ O (aY aK (lB b.w hb.len) O) (go9 ?_);refine cF (rg [8,9,10] 24 43) (fun g nn M=>∃ (i:Nat) (l:List Nat),(g 24 = .int .i64 (i:Int))∧M=[⟨b5,139,uw l⟩,⟨b4,31,zR⟩,⟨b3,31,b.cells⟩,⟨b2,31,a.cells⟩]∧nn=szL a.w - i∧(i≤szL a.w∧MulOut (val a.w) (val b.w) (szL b.w) i l)) (szL a.w - 0) ?start ?round
 case start =>
  refine ⟨_,(List.Sublist.cons_cons _ (List.Sublist.cons _ (List.Sublist.refl _))),0,_,?a24,?mem0,rfl,⟨Nat.zero_le _,MulOut.start _ _ _⟩⟩
  case mem0=>rfl
  case a24=>rfl
 case round =>
  rintro nn g M ⟨i,l,hg24,rfl,hmeas,⟨hile,hM⟩⟩;subst nn;refine gS1 hg24 ?_;clear hg24;refine go4 ?_;refine aS _ O (fun hi=>?_) (fun hi=>?_)
  ·replace hi:=cB_ hi
   have hia:i<a.w.length:=by rw [ha.len];omega
   refine Q6 ?_;refine cF (rg [9,10] 28 32) (fun g nn M=>∃ (k:Nat) (l:List Nat) (c:Nat),(g 9 = .int .u64 (c:Int)∧g 28 = .int .i64 (k:Int))∧M=[⟨b5,139,uw l⟩,⟨b4,31,zR⟩,⟨b3,31,b.cells⟩,⟨b2,31,a.cells⟩]∧nn=szL b.w - k∧(k≤szL b.w∧MulIn (val a.w) (val b.w) (szL b.w) i k l c)) (szL b.w - 0) ?start ?round
   case start =>
    refine ⟨_,(List.Sublist.refl _),0,l,0,⟨?a9,?a28⟩,?mem0,rfl,⟨Nat.zero_le _,hM.row⟩⟩
    case mem0=>rfl
    case a9=>rfl
    case a28=>rfl
   case round =>
    rintro nn g M ⟨k,l,c,⟨hg9,hg28⟩,rfl,hmeas,⟨hkle,hM⟩⟩;subst nn;refine gS2 hg9 hg28 ?_;clear hg9 hg28;refine go4 ?_;refine aS _ O (fun hk=>?_) (fun hk=>?_)
    ·replace hk:=cB_ hk
     have hkb:k<b.w.length:=by rw [hb.len];omega
     refine go8 ?_;refine gdr (sk (sk (sk (sk s0)))) [0,4,8,12,16,20,24,28,32,36,40,44,48,52,56,60,64,68,72,76,80] [] mix (by kernel_rfl) (go2 ?_);refine pQ O (bX fdT dd_ O) (pQ O (dX arT O O oo_ oo_) (pQ O (cZ tyT O mm_ (lC hia)) ?_));refine pQ O (dJ fM eS O) (go_ ?_);refine pQ O (bX fdT dd_ O) (pQ O (dX arT O O oo_ oo_) (pQ O (cZ tyT O mm_ (lC hkb)) ?_));refine pQ O (dJ fM eS O) (go3 ?_);refine pQ O (aE (gP O O) (congrArg (Value.int .i64) (lN oo_))) (pQ O (dX arT O O oo_ oo_) (pQ O (cZ tyT O mm_ (q8 (by rw [hM.len];omega))) ?_));refine pQ O (dJ fM eS O) (go_ ?_);refine pQ O (aE (gP O O) (congrArg (Value.int .u64) (f7_ (dG ha.lim i) (dG hb.lim k) (dG hM.lim (i+k)) hM.clt))) (go5 ?_);refine sQ (aE (gP O O) (congrArg (Value.int .i64) (lN oo_))) O (go_ ?_);refine sQ (aE (dJ eS fM O) (l4 _)) O (sQ (dX arT O O oo_ oo_) O (aQ O (kZ tyT O O uu_ (by rw [hM.len];omega) (.inl eX) ?_)));refine go3 ?_;refine sQ (aE (r9 O O dd_) (congrArg (Value.int .u64) (oJ _ 32))) O (go3 ?_);refine sQ (aE (gP O O) (congrArg (Value.int .i64) (iH oo_))) O (go2 ?_);refine ⟨pp_,_,_,(List.Sublist.refl _),oo_,k+1,_,_,⟨?s9,?s28⟩,?mem,rfl,⟨by omega,VR hM ha.lim hb.lim oo_ oo_⟩⟩
     case mem=>rfl
     case s9=>rfl
     case s28=>rfl
    replace hk:=cB_ hk
    obtain rfl:k=szL b.w:=by omega
    refine go4 ?_;refine sQ (aE (gP O O) (congrArg (Value.int .i64) (lN oo_))) O (go_ ?_);refine sQ (aE (dJ eS fM O) (fg_ hM.clt)) O (sQ (dX arT O O oo_ oo_) O (aQ O (kZ tyT O O uu_ (by rw [hM.len];omega) (.inl eX) ?_)));refine go2 ?_;refine sQ (aE (gP O O) (congrArg (Value.int .i64) (iH oo_))) O (go2 ?_);refine ⟨pp_,_,_,(List.Sublist.refl _),oo_,i+1,_,?s24,?mem,rfl,⟨by omega,hM.done oo_ (rM hb.lim)⟩⟩
    case mem=>rfl
    case s24=>rfl
  replace hi:=cB_ hi
  obtain rfl:i=szL a.w:=by omega
  refine go3 ?_;refine sQ (GL arT O O O dd_ dd_ dd_ dd_) O (sQ (ab_ arT O dd_) O (sQ (fU (vs:=uw (l.drop 16)) tyT O mm_ (gK_ hM.len) (by simp [uw,hM.len])) O ?_));refine sQ (lP mE arT O (.nil _)) O ?_;refine sQ (GK (r:=decide (l.drop 16=List.replicate 16 0)) O O (jY 8 dd_ DH DQ (kC (by simp [hM.len])) (kC zz_) (d4_ _ _))) O ?_;refine go_ ?_;refine aS _ O (fun h71=>?_) (fun h71=>?_)
  ·replace h71:=cB_ h71
   refine go_ ?_;refine sQ (aY aK gR O) O (aQ O (bK tyT O O uu_ (aI _) O (bJ _) (.inl eX) ?_));refine go2 ?_;refine rtX O ⟨_,_,_,_,_,_,rfl,mm_,tyT,_,(dH (aI _)),(aI _),rfl⟩ ?_;exact congrArg RV (b0_ ha hb hg.1 hg.2 hM.len hM.lim (F8 hM ha) (by simpa using h71))
  replace h71:=cB_ h71
  refine go2 ?_;refine kV (sk (sd (sk (sk s0)))) 10 [9] [9] (pQ O (bX fdT dd_ O) (pQ O (cZ tyT O mm_ O) ?_));refine pQ O (bX fdT dd_ O) (pQ O (cZ tyT O mm_ O) ?_);refine pQ O (CX QV O O) (pQ O (GL arT O O O dd_ dd_ dd_ dd_) (pQ O (ab_ arT O dd_) (pQ O (fU (vs:=uw (l.take 16)) tyT O mm_ (gL_ hM.len) (by simp [uw,hM.len])) ?_)));refine pQ O (aY aK (eY (a.neg != b.neg) (l.take 16) (by simp [hM.len]) (hM.lim.take 16)) O) ?_;refine dA O O (bK tyT O O uu_ (jM (by simp [hM.len])) O (bJ _) (.inl eX) ⟨nf,ss_,?_⟩);refine go2 ?_;refine rtX O ⟨_,_,_,_,_,_,rfl,mm_,tyT,_,(dH (jM (by simp [hM.len]))),(jM (by simp [hM.len])),rfl⟩ ?_;exact congrArg RV (b1_ ha hb hg.1 hg.2 hM.len hM.lim (F8 hM ha) (by simpa using h71))
theorem ED (us vs:List Nat) (n j:Nat) (H:QH us vs n j) (bu T:Nat) (w:World) (hbu:w.heap[bu]? = some (.cells (uw us).toArray T (0,0))) :
    Calls prog 201 [.pointer (some ⟨bu,0,none⟩),UV vs,.int .i64 (n:Int),.int .i64 (j:Int)].toArray w (fun e w'=>∃ x:Nat,e = .returned (.int .u64 (x:Int))∧Ext w w'∧M7 us vs j x):=by
 refine NQ (N:=77) (g:=fun x:Nat=>.int .u64 (x:Int)) (Q:=fun x:Nat=>M7 us vs j x) func201 O O zz_ ?_;obtain ⟨w0,rfl⟩:=nm w;refine giI ?_;have G:=H.gh;have hn2:=H.n2;have hjn:=H.jn;have hul:=H.ulen;have hvl:=H.vlen;refine go_ ?_;refine aQ O (iG O O (fun b5 hb5=>go3 ?_));refine gdr (sk s0) [0,4,8,12,16,20,24,28,32,36,40,44,48,52,56,60,64,68,72,76] [] mix (by kernel_rfl) (go3 ?_);refine pQ O (aE (gP O O) (congrArg (Value.int .i64) (lN oo_))) (go_ ?_);refine pQ O (dX arT O O oo_ oo_) (pQ O (EU tyT O hbu zz_ (q8 oo_)) ?_);refine pQ O (aE (dJ fM eS O) (uC (dG H.ulim _))) (pQ O (aE (BS O O dd_) (congrArg (Value.int .u64) (uY (dG H.ulim _)))) (go3 ?_));refine pQ O (aE (gP O O) (congrArg (Value.int .i64) (lN oo_))) (pQ O (aE (lV O O) (congrArg (Value.int .i64) (qX (b:=1) O oo_ oo_))) (go_ ?_));refine pQ O (dX arT O O oo_ oo_) (pQ O (EU tyT O hbu zz_ (q8 oo_)) ?_);refine pQ O (aE (dJ fM eS O) (uC (dG H.ulim _))) (pQ O (aE (LZ O O) (congrArg (Value.int .u64) (OX (dG H.ulim _) (dG H.ulim _)))) (go4 ?_));refine sQ (aE (lV O O) (congrArg (Value.int .i64) (qX (b:=1) O oo_ oo_))) O (sQ (dX arT O O oo_ oo_) O (sQ (cZ tyT O mm_ (q8 oo_)) O ?_));refine sQ (aE (dJ fM eS O) (uC (dG H.vlim _))) O (go3 ?_);refine kV (sk s0) 8 [] [] (go2 ?_);refine pQ O (aE (o4 O O (by have:=G.f0;omega)) (congrArg (Value.int .u64) (cm_ (by have:=G.topLt;have:=G.f1;omega)))) (go2 ?_);refine pQ O (aE (rA O O (by have:=G.f0;omega)) (congrArg (Value.int .u64) (zO _ _))) (go5 ?_);refine cF (rg [11,12] 43 33) (fun g nn M=>∃ (d rest:Nat),(g 11 = .int .u64 (d:Int)∧g 12 = .int .u64 (rest:Int))∧M=[⟨b5,29,uw vs⟩]∧nn=d∧(GI (vs.getD (n - 1) 0) (us.getD (j+n) 0*4294967296+us.getD (j+n - 1) 0) (val us / (val vs*4294967296 ^ j)) d rest)) ((us.getD (j+n) 0*4294967296+us.getD (j+n - 1) 0) / vs.getD (n - 1) 0) ?start ?round
 case start =>
  refine ⟨_,(List.Sublist.refl _),_,_,⟨?a11,?a12⟩,?mem0,rfl,GI.start G⟩
  case mem0=>rfl
  case a11=>rfl
  case a12=>rfl
 case round =>
  rintro nn g M ⟨d,rest,⟨hg11,hg12⟩,rfl,hmeas,hG⟩;subst nn;refine gS2 hg11 hg12 ?_;clear hg11 hg12;refine go2 ?_;refine gdr (sk s0) [0,4,8,12,16,20,24,28,32,36,40,44,48,52,56,60,64,68,72,76,80,84,88,92,96,100,104,108] [] mix (by kernel_rfl) (go3 ?_)
  cases h2:decide ((rest:Int)<4294967296)
  ·refine he_ ?_;refine rt1 ?_;exact ⟨d,rfl,I4 H hG (.inl (by have:=of_decide_eq_false h2;omega))⟩
  refine go3 ?_
  cases h5:decide ((4294967296:Int)≤(d:Int))
  ·refine go2 ?_;refine pQ O (aE (lV O O) (congrArg (Value.int .i64) (qX (b:=2) O oo_ oo_))) (pQ O (dX arT O O oo_ oo_) (pQ O (cZ tyT O mm_ (q8 oo_)) ?_));refine pQ O (aE (dJ fM eS O) (uC (dG H.vlim _))) (pQ O (aE (TZ O O) (congrArg (Value.int .u64) (TR (TP (by have:=of_decide_eq_false h5;omega) (dG H.vlim _))))) (go_ ?_));refine pQ O (aE (BS O O dd_) (congrArg (Value.int .u64) (uY (by have:=of_decide_eq_true h2;omega)))) (go3 ?_);refine pQ O (aE (gP O O) (congrArg (Value.int .i64) (lN oo_))) (pQ O (aE (lV O O) (congrArg (Value.int .i64) (qX (b:=2) O oo_ oo_))) (go_ ?_));refine pQ O (dX arT O O oo_ oo_) (pQ O (EU tyT O hbu zz_ (q8 oo_)) ?_);refine pQ O (aE (dJ fM eS O) (uC (dG H.ulim _))) (pQ O (aE (LZ O O) (congrArg (Value.int .u64) (OX (by have:=of_decide_eq_true h2;omega) (dG H.ulim _)))) (go4 ?_));refine aS _ O (fun h68=>?_) (fun h68=>?_)
   ·replace h68:=cB_ h68
    refine go3 ?_;have hmore:=GI.more G hG (by have:=of_decide_eq_true h2;omega) (by first|exact .inl (by have:=of_decide_eq_true h5;omega)|exact .inr (by exact_mod_cast h68));refine go_ ?_;refine sQ (aE (lV O O) (congrArg (Value.int .u64) (G7 O hmore.1 (by have:=GI.dlt G hG;omega)))) O (go5 ?_);refine sQ (aE (gP O O) (congrArg (Value.int .u64) (KI (by have:=hG.rlt;have:=G.f1;omega)))) O (go2 ?_);refine ⟨pp_,_,_,(List.Sublist.refl _),(by have:=hmore.1;omega),d - 1,rest+vs.getD (n - 1) 0,⟨?s11,?s12⟩,?mem,rfl,hmore.2⟩
    case mem=>rfl
    case s11=>rfl
    case s12=>rfl
   replace h68:=cB_ h68
   refine go6 ?_;refine rt1 ?_;exact ⟨d,rfl,I4 H hG (.inr ⟨by have:=of_decide_eq_false h5;omega,by have h69:=Int.not_lt.1 h68;exact_mod_cast h69⟩)⟩
  refine hd_ ?_;have hmore:=GI.more G hG (by have:=of_decide_eq_true h2;omega) (by first|exact .inl (by have:=of_decide_eq_true h5;omega)|exact .inr (by exact_mod_cast h68));refine go_ ?_;refine sQ (aE (lV O O) (congrArg (Value.int .u64) (G7 O hmore.1 (by have:=GI.dlt G hG;omega)))) O (go5 ?_);refine sQ (aE (gP O O) (congrArg (Value.int .u64) (KI (by have:=hG.rlt;have:=G.f1;omega)))) O (go2 ?_);refine ⟨pp_,_,_,(List.Sublist.refl _),(by have:=hmore.1;omega),d - 1,rest+vs.getD (n - 1) 0,⟨?s11,?s12⟩,?mem,rfl,hmore.2⟩
  case mem=>rfl
  case s11=>rfl
  case s12=>rfl
theorem HU (us vs:List Nat) (n j d:Nat) (hu:us.length=17) (lu:Lim us) (hv:vs.length=16) (lv:Lim vs) (hV:val vs<4294967296 ^ n) (hjn:j+n≤16) (hsm:val us<4294967296 ^ (j+n+1)) (hd:d<4294967296) (bu T:Nat) (w:World) (hbu:w.heap[bu]? = some (.cells (uw us).toArray T (0,0))) :
    Calls prog 202 [.pointer (some ⟨bu,0,none⟩),UV vs,.int .i64 (n:Int),.int .i64 (j:Int),.int .u64 (d:Int)].toArray w (fun e w'=>∃ x:List Nat×Nat,e = .returned (.bool (((x.2:Nat):Int)==1))∧ExtX [bu] w w'∧w'.heap[bu]? = some (.cells (uw x.1).toArray T (0,0))∧Took us (val vs) d j n x):=by
 refine NP (N:=78) (g:=fun x:List Nat×Nat=>.bool (((x.2:Nat):Int)==1)) (cs':=fun x:List Nat×Nat=>uw x.1) (Q:=fun x:List Nat×Nat=>Took us (val vs) d j n x) func202 O O zz_ hbu ?_;obtain ⟨w0,rfl⟩:=nm w;refine giI ?_;refine go_ ?_;refine aQ O (iG O O (fun b6 hb6=>yD ?_));refine cF (rg [11,12,13,14] 17 38) (fun g nn M=>∃ (i:Nat) (l:List Nat) (c bo:Nat),(g 11 = .int .u64 (c:Int)∧g 12 = .int .u64 (bo:Int)∧g 17 = .int .i64 (i:Int))∧M=[⟨b6,29,uw vs⟩,⟨bu,T,uw l⟩]∧nn=n - i∧(i≤n∧TakeIn us (val vs) d j i l c bo)) (n - 0) ?start ?round
 case start =>
  refine ⟨_,(List.Sublist.refl _),0,us,0,0,⟨?a11,?a12,?a17⟩,?mem0,rfl,⟨Nat.zero_le _,TakeIn.start hu lu _ _ _⟩⟩
  case mem0=>rfl
  case a11=>rfl
  case a12=>rfl
  case a17=>rfl
 case round =>
  rintro nn g M ⟨i,l,c,bo,⟨hg11,hg12,hg17⟩,rfl,hmeas,⟨hi,hT⟩⟩;subst nn;refine gS3 hg11 hg12 hg17 ?_;clear hg11 hg12 hg17;refine go4 ?_;refine aS _ O (fun hc=>?_) (fun hc=>?_)
  ·replace hc:=cB_ hc
   have hc:i<n:=by omega
   refine LF ?_;refine sQ (dX arT O O oo_ oo_) O (sQ (cZ tyT O mm_ (q8 oo_)) O ?_);refine sQ (dJ fM eS O) O (go_ ?_);refine sQ (aE (gP O O) (congrArg (Value.int .u64) (fa_ hT.clt hd (dG lv i)))) O (go6 ?_);refine sQ (aE (gP O O) (congrArg (Value.int .i64) (lN oo_))) O (go_ ?_);refine sQ (dX arT O O oo_ oo_) O (sQ (cZ tyT O mm_ (q8 (by rw [hT.len];omega))) O ?_);refine sQ (dJ fM eS O) O (go_ ?_);refine sQ (aE (dJ eS fM O) (l4 _)) O (sQ (dJ fM eS O) O (go2 ?_));refine sQ (aE (lV O O) (congrArg (Value.int .u64) (dv_ hT.ble (dG hT.lim _) (Nat.mod_lt _ dd_)))) O (go6 ?_);refine sQ (aE (gP O O) (congrArg (Value.int .i64) (lN oo_))) O (go_ ?_);refine sQ (aE (dJ eS fM O) (l4 _)) O (go_ ?_);refine sQ (dX arT O O oo_ oo_) O (aQ O (kZ tyT O O uu_ (by rw [hT.len];omega) (by first|exact .inl eX|exact .inr (List.mem_singleton.2 O)) ?_));refine go3 ?_;refine sQ (aE (r9 O O dd_) (congrArg (Value.int .u64) (oJ _ 63))) O (go4 ?_);refine sQ (aE (r9 O O dd_) (congrArg (Value.int .u64) (oJ _ 32))) O (go3 ?_);refine sQ (aE (gP O O) (congrArg (Value.int .i64) (iH oo_))) O (go2 ?_);refine ⟨pp_,_,_,(List.Sublist.refl _),oo_,i+1,_,_,_,⟨?s11,?s12,?s17⟩,?mem,rfl,⟨by omega,R9 hT lv oo_ hd⟩⟩
   case mem=>rfl
   case s11=>rfl
   case s12=>rfl
   case s17=>rfl
  replace hc:=cB_ hc
  obtain rfl:n=i:=by omega
  refine go5 ?_;refine sQ (aE (gP O O) (congrArg (Value.int .i64) (lN oo_))) O (go_ ?_);refine sQ (dX arT O O oo_ oo_) O (sQ (cZ tyT O mm_ (q8 (by rw [hT.len];omega))) O ?_);refine sQ (dJ fM eS O) O (go3 ?_);refine sQ (aE (lV O O) (congrArg (Value.int .u64) (e8_ hT.ble (dG hT.lim _) hT.clt))) O (go6 ?_);refine sQ (aE (gP O O) (congrArg (Value.int .i64) (lN oo_))) O (go_ ?_);refine sQ (aE (dJ eS fM O) (l4 _)) O (go_ ?_);refine sQ (dX arT O O oo_ oo_) O (aQ O (kZ tyT O O uu_ (by rw [hT.len];omega) (by first|exact .inl eX|exact .inr (List.mem_singleton.2 O)) ?_));refine go3 ?_;refine sQ (aE (r9 O O dd_) (congrArg (Value.int .u64) (oJ _ 63))) O (go4 ?_);refine rt1 ?_;exact ⟨(_,_),rfl,by first|exact .tail _ (.head _)|exact .head _,TakeIn.took hT oo_ hV lu hsm⟩
theorem HS (us vs:List Nat) (n j:Nat) (hu:us.length=17) (lu:Lim us) (hv:vs.length=16) (lv:Lim vs) (hV:val vs<4294967296 ^ n) (hjn:j+n≤16) (hsm:val us<4294967296 ^ (j+n+1)) (bu T:Nat) (w:World) (hbu:w.heap[bu]? = some (.cells (uw us).toArray T (0,0))) :
    Calls prog 203 [.pointer (some ⟨bu,0,none⟩),UV vs,.int .i64 (n:Int),.int .i64 (j:Int)].toArray w (fun e w'=>∃ x:List Nat,e = .returned (.tuple #[])∧ExtX [bu] w w'∧w'.heap[bu]? = some (.cells (uw x).toArray T (0,0))∧Gave us (val vs) j n x):=by
 refine NP (N:=52) (g:=fun x:List Nat=>.tuple #[]) (cs':=fun x:List Nat=>uw x) (Q:=fun x:List Nat=>Gave us (val vs) j n x) func203 O O zz_ hbu ?_;obtain ⟨w0,rfl⟩:=nm w;refine giI ?_;refine go_ ?_;refine aQ O (iG O O (fun b5 hb5=>oF ?_));refine cF (rg [8,9] 11 29) (fun g nn M=>∃ (i:Nat) (l:List Nat) (c:Nat),(g 8 = .int .u64 (c:Int)∧g 11 = .int .i64 (i:Int))∧M=[⟨b5,29,uw vs⟩,⟨bu,T,uw l⟩]∧nn=n - i∧(i≤n∧GiveIn us (val vs) j i l c)) (n - 0) ?start ?round
 case start =>
  refine ⟨_,(List.Sublist.refl _),0,us,0,⟨?a8,?a11⟩,?mem0,rfl,⟨Nat.zero_le _,GiveIn.start hu lu _ _⟩⟩
  case mem0=>rfl
  case a8=>rfl
  case a11=>rfl
 case round =>
  rintro nn g M ⟨i,l,c,⟨hg8,hg11⟩,rfl,hmeas,⟨hi,hT⟩⟩;subst nn;refine gS2 hg8 hg11 ?_;clear hg8 hg11;refine go4 ?_;refine aS _ O (fun hc=>?_) (fun hc=>?_)
  ·replace hc:=cB_ hc
   have hc:i<n:=by omega
   refine go8 ?_;refine kV (sk (sk s0)) 16 [] [] (go4 ?_);refine pQ O (aE (gP O O) (congrArg (Value.int .i64) (lN oo_))) (go_ ?_);refine pQ O (dX arT O O oo_ oo_) (pQ O (cZ tyT O mm_ (q8 (by rw [hT.len];omega))) ?_);refine pQ O (dJ fM eS O) (go_ ?_);refine pQ O (dX arT O O oo_ oo_) (pQ O (cZ tyT O mm_ (q8 oo_)) ?_);refine pQ O (dJ fM eS O) (go_ ?_);refine pQ O (aE (gP O O) (congrArg (Value.int .u64) (ee_ hT.cle (dG hT.lim _) (dG lv i)))) (go6 ?_);refine sQ (aE (gP O O) (congrArg (Value.int .i64) (lN oo_))) O (go_ ?_);refine sQ (aE (dJ eS fM O) (l4 _)) O (go_ ?_);refine sQ (dX arT O O oo_ oo_) O (aQ O (kZ tyT O O uu_ (by rw [hT.len];omega) (by first|exact .inl eX|exact .inr (List.mem_singleton.2 O)) ?_));refine go3 ?_;refine sQ (aE (r9 O O dd_) (congrArg (Value.int .u64) (oJ _ 32))) O (go3 ?_);refine sQ (aE (gP O O) (congrArg (Value.int .i64) (iH oo_))) O (go2 ?_);refine ⟨pp_,_,_,(List.Sublist.refl _),oo_,i+1,_,_,⟨?s8,?s11⟩,?mem,rfl,⟨by omega,Q5 hT lv oo_⟩⟩
   case mem=>rfl
   case s8=>rfl
   case s11=>rfl
  replace hc:=cB_ hc
  obtain rfl:n=i:=by omega
  refine go_ ?_;refine kV (sk (sd s0)) 13 [12] [12] (go3 ?_);refine pQ O (aE (gP O O) (congrArg (Value.int .i64) (lN oo_))) (go_ ?_);refine pQ O (dX arT O O oo_ oo_) (pQ O (cZ tyT O mm_ (q8 (by rw [hT.len];omega))) ?_);refine go_ ?_;refine pQ O (dJ eS fM O) (pQ O (aE (gP O O) (ed_ (dG hT.lim _) hT.cle)) (go_ ?_));refine pQ O (dX arT O O oo_ oo_) ?_;refine dA O O (kZ tyT O O uu_ (by rw [hT.len];omega) (by first|exact .inl eX|exact .inr (List.mem_singleton.2 O)) ⟨nf,ss_,?_⟩);refine go_ ?_;refine u9 O (.inl O) ?_;exact ⟨_,rfl,by first|exact .tail _ (.head _)|exact .head _,GiveIn.gave hT oo_ hV lu hsm⟩
end Go.Proofs.YtcjoflcajgaifaaGreatDoor
