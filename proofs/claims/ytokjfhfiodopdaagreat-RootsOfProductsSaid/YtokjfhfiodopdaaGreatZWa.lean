/- Lemmas: what they ask stands in their statements. -/
import Derived.Test.YtokjfhfiodopdaaGreatZGE
set_option linter.unusedSimpArgs false
set_option linter.unusedVariables false
set_option maxHeartbeats 8000000
set_option maxRecDepth 20000
namespace Go.Proofs.YtokjfhfiodopdaaGreat
open Go.Kn Go.Num Tryz
attribute [local irreducible] Go.Kn.W WL PL OpQ OpR OpS
theorem sW (r:R) (h:r.Ok) :
    Ret prog 140 [RV r] (.bool r.valid):=by
 refine bU (N:=23) func140 O O zz_ (fun w0=>?_);refine giI ?_;refine go_ ?_;refine aZ O (i7 O O (fun b1 hb1=>go3 ?_));refine sQ (bV fdT dd_ O) O (sQ (gP (vs:=uw r.w) tyT O mm_ (jZ h.len) ((fW _).trans h.len)) O ?_);refine sQ (m6 oA arT O (.nil _)) O ?_;refine sQ (wP (r:=r.zero) O O (nJ 8 dd_ E6 FN (lY h.len) (lY zz_) h.zero_iff)) O ?_;refine go4 ?_;refine sQ (bV fdT dd_ O) O (sQ (dD tyT O mm_ O) O ?_);refine go_ ?_;refine aQ _ O (fun hb=>?_) (fun hb=>?_)
 ·replace hb:=cB_ hb
  refine go3 ?_
  cases hz:r.zero
  ·refine go7 ?_;refine rt1 ?_
   simp [R.valid, *]
  refine sQ (bV fdT dd_ O) O (sQ (dD tyT O mm_ O) O ?_);refine go5 ?_;refine rt1 ?_
  simp [R.valid, *]
 replace hb:=cB_ hb
 refine go5 ?_
 cases hz:r.zero
 ·refine go7 ?_;refine rt1 ?_
  simp [R.valid, *]
 refine sQ (bV fdT dd_ O) O (sQ (dD tyT O mm_ O) O ?_);refine go5 ?_;refine rt1 ?_
 simp [R.valid, *]
theorem iB  :
  Ret prog 161 [] (RV Z.bad.enc):=by
 refine bU (N:=2) func161 O O zz_ (fun w0=>?_);refine giI ?_;refine go_ ?_;refine aZ O (eB kF (fun b0 hb0=>go2 ?_));refine sQ (tY kF plT O (.cons O (vs:=[.bool true]) O O (by simp [zR]) (z':=Z.bad.enc.cells) O (.nil _))) O ?_;refine aZ O (bN tyT O O uu_ O O (bJ Z.bad.enc) (.inl e6) ?_);refine go2 ?_;refine rtX O ⟨_,_,_,_,_,_,rfl,mm_,tyT,_,(dO O),rfl,rfl⟩ ?_;exact rfl
theorem eZ (neg:Bool) (w:List Nat) (hw:w.length=16) (hlim:Lim w) :
   Ret prog 153 [.bool neg,UV w] (RV ⟨false,neg && !(val w==0),w⟩):=by
 refine bU (N:=13) func153 O O zz_ (fun w0=>?_);refine giI ?_
 have hlw:(uw w).length=16:=by rw [fW,hw]
 refine go_ ?_;refine aZ O (i7 O O (fun b3 hb3=>aZ O (eB kF (fun b4 hb4=>go2 ?_))));refine qH (sd (sk s0)) 9 [8] [8] (go2 ?_)
 cases neg
 ·refine go4 ?_;refine pQ O (cC tyT O mm_ hlw) ?_;refine pQ O (tY kF plT O (XF hw)) ?_;refine fP O O (bN tyT O O uu_ (by simp [R.cells,hlw]) O (bJ _) (.inl e6) ⟨nf,ss_,?_⟩);refine go2 ?_;refine rtX O ⟨_,_,_,_,_,_,rfl,mm_,tyT,_,(dO (by simp [R.cells,hlw])),(by simp [R.cells,hlw]),rfl⟩ ?_;rfl
 refine pQ O (cC tyT O mm_ hlw) ?_;refine pQ O (m6 oA arT O (.nil _)) ?_;refine pQ O (CP (r:=(val w==0)) O O (nJ 8 dd_ E6 FN (lY hw) (lY zz_) (zE hw hlim))) ?_;refine go_ ?_;refine pQ O (cC tyT O mm_ hlw) ?_;refine pQ O (tY kF plT O (XF hw)) ?_;refine fP O O (bN tyT O O uu_ (by simp [R.cells,hlw]) O (bJ _) (.inl e6) ⟨nf,ss_,?_⟩);refine go2 ?_;refine rtX O ⟨_,_,_,_,_,_,rfl,mm_,tyT,_,(dO (by simp [R.cells,hlw])),(by simp [R.cells,hlw]),rfl⟩ ?_;rfl
theorem gZ (rs:List R) (hrs:∀ r∈rs,r.Ok) (b T:Nat) (w:World) (hb:w.heap[b]? = some (.cells (rs.flatMap R.cells).toArray T (0,0))) (hn:rs.length≤1000) :
    Calls prog 121 [.slice (some ⟨b,0,none⟩) rs.length rs.length].toArray w (fun e w'=>e = .returned (.bool (rs.all R.good))∧Ext w w'):=by
 refine cQ (N:=19) func121 O O zz_ ?_;obtain ⟨w0,rfl⟩:=nm w;refine giI ?_;refine go6 ?_;refine sQ (SI oL O) O (go3 ?_);refine bP (rg [2,4] 7 12) (fun g nn M=>∃ (k:Nat),(g 7 = .int .i64 (k:Int))∧M=[]∧nn=rs.length - k∧(k≤rs.length∧(rs.take k).all R.good=true)) (rs.length - 0) ?start ?round
 case start =>
  refine ⟨_,(List.Sublist.refl _),0,?a7,?mem0,rfl,⟨Nat.zero_le _,rfl⟩⟩
  case mem0=>rfl
  case a7=>rfl
 case round =>
  rintro nn g M ⟨k,hg7,rfl,hmeas,⟨hk,hall⟩⟩;subst nn;refine gS1 hg7 ?_;clear hg7;refine go4 ?_;refine aQ _ O (fun hc=>?_) (fun hc=>?_)
  ·replace hc:=cB_ hc
   obtain ⟨r,hr⟩:∃ r,rs[k]? = some r:=⟨_,List.getElem?_eq_getElem oo_⟩;have hrok:=hrs r (List.mem_of_getElem? hr);refine go4 ?_;refine sQ (AA oL O O oo_ oo_) O (sQ (OD (vs:=r.cells) tyT O hb zz_ (by rw [show (0+(k:Int).toNat*18)=k*18 by omega];exact BU R.cells 18 rs k r (fun y hy=>cU (hrs y hy)) hr) (cU hrok)) O ?_);refine aZ O (eB kF (fun b4 hb4=>aZ O (bN tyT O O uu_ (cU hrok) O (bJ _) (.inl e6) ?_)));refine go2 ?_;refine sQ (bV fdT dd_ O) O (sQ (dD tyT O mm_ O) O ?_);refine go_ ?_
   cases hbad:r.bad
   ·refine sQ (cC tyT O mm_ (cU hrok)) O ?_;refine sQ (bR aM (sW r hrok) O) O (go3 ?_);refine aQ _ O (fun hx=>?_) (fun hx=>?_)
    ·replace hx:=cB_ hx
     skip
     refine go4 ?_;refine rt1 ?_;exact congrArg Value.bool (AK hr (by simp [R.good,hbad,hx]))
    replace hx:=cB_ hx
    skip
    refine go5 ?_;refine ⟨pp_,_,_,(List.Sublist.cons _ (List.Sublist.refl _)),oo_,k+1,?s7,?mem,rfl,⟨by omega,by rw [HP oo_ hr];simp [hall,R.good,hbad,hx]⟩⟩
    case mem=>rfl
    case s7=>(show Value.int .i64 _=_;rw [bQ (by unfold I64;omega)];rfl)
   refine o2 ?_;refine rt1 ?_;exact congrArg Value.bool (AK hr (by simp [R.good,hbad]))
  replace hc:=cB_ hc
  have hke:k=rs.length:=by omega
  refine go5 ?_;refine rt1 ?_
  (subst hke;rw [List.take_length] at hall;exact congrArg Value.bool hall.symm)
theorem G6 (xs ys:List Nat) (hx:xs.length=16) (hy:ys.length=16) (lx:Lim xs) (ly:Lim ys) :
    Ret prog 168 [UV xs,UV ys] (.tuple #[UV (toL 16 (val xs+val ys)),.bool (((cy (val xs) (val ys) 16:Nat):Int)==0)]):=by
 refine bU (N:=33) func168 O O zz_ (fun w0=>?_);refine giI ?_;refine go_ ?_;refine aZ O (i7 O O (fun b2 hb2=>aZ O (i7 O O (fun b3 hb3=>aZ O (eB oA (fun b4 hb4=>go3 ?_))))));refine aZ O (eB oA (fun b6 hb6=>go9 ?_));refine bP (rg [] 7 23) (fun g nn M=>∃ (k:Nat),(g 7 = .int .u64 ((cy (val xs) (val ys) k:Nat):Int)∧g 9 = .int .i64 (k:Int))∧M=[⟨b6,25,uw (vE k (val xs+val ys) 16)⟩,⟨b4,25,uw (List.replicate 16 0)⟩,⟨b3,25,uw ys⟩,⟨b2,25,uw xs⟩]∧nn=16 - k∧(k≤16)) (16) ?start ?round
 case start =>
  refine ⟨_,(List.Sublist.refl _),0,⟨?a7,?a9⟩,?mem0,rfl,Nat.zero_le _⟩
  case mem0=>rw [wH]
  case a7=>rw [aN_];rfl
  case a9=>rfl
 case round =>
  rintro nn g M ⟨k,⟨hg7,hg9⟩,rfl,hmeas,hk⟩;subst nn;refine gS2 hg7 hg9 ?_;clear hg7 hg9;refine go4 ?_;refine aQ _ O (fun hc=>?_) (fun hc=>?_)
  ·replace hc:=cB_ hc
   have hc:k<16:=by omega
   have hcy:=eG_ (val xs) (val ys) k;refine go8 ?_;refine qH (sk (sk (sk (sk s0)))) 12 [] [] (go2 ?_);refine pQ O (eJ arT O O oo_ oo_) (pQ O (dD tyT O mm_ (rE oo_)) ?_);refine pQ O (dA fX eV O) (go_ ?_);refine pQ O (eJ arT O O oo_ oo_) (pQ O (dD tyT O mm_ (rE oo_)) ?_);refine pQ O (dA fX eV O) (go_ ?_);refine pQ O (aW (hZ O O) (congrArg (Value.int .u64) (dL_ hcy (dN lx k) (dN ly k)))) (go5 ?_);refine sQ (aW (dA eV fX O) (mV _)) O (sQ (eJ arT O O oo_ oo_) O (aZ O (lX tyT O O uu_ (by rw [iN _ hk];exact hc) (.inl e6) ?_)));refine go3 ?_;refine sQ (aW (r7 O O dd_) (congrArg (Value.int .u64) (oW _ 32))) O (go6 ?_);refine ⟨pp_,_,_,(List.Sublist.refl _),oo_,k+1,⟨?s7,?s9⟩,?mem,rfl,oo_⟩
   case mem=>rw [eM xs k lx,eM ys k ly,QG,vF _ hc]
   case s7=>rw [← QF,← eM xs k lx,← eM ys k ly];rfl
   case s9=>exact congrArg (Value.int .i64) (bQ (n:=(k:Int)+1) (by unfold I64;omega))
  replace hc:=cB_ hc
  obtain rfl:k=16:=by omega
  refine go2 ?_;refine sQ (cC tyT O mm_ (by simp [uw,iN])) O ?_;refine go2 ?_;refine aZ O (bN tyT O O uu_ (by simp [uw,iN]) O (gU _) (.inl e6) ?_);refine go3 ?_;refine sO O (.inr O) ⟨_,_,_,_,_,_,rfl,mm_,tyT,_,(dO (by simp [uw,iN])),(by simp [uw,iN]),rfl⟩ O ?_;rw [yW];rfl
theorem sY (xs ys:List Nat) (hx:xs.length=16) (hy:ys.length=16) (lx:Lim xs) (ly:Lim ys) (hle:val ys≤val xs) :
    Ret prog 170 [UV xs,UV ys] (UV (toL 16 (val xs - val ys))):=by
 refine bU (N:=31) func170 O O zz_ (fun w0=>?_);refine giI ?_;refine go_ ?_;refine aZ O (i7 O O (fun b2 hb2=>aZ O (i7 O O (fun b3 hb3=>aZ O (eB oA (fun b4 hb4=>go2 ?_))))));refine aZ O (eB oA (fun b5 hb5=>go9 ?_));refine bP (rg [] 6 24) (fun g nn M=>∃ (k:Nat),(g 6 = .int .u64 ((bw (val xs) (val ys) k:Nat):Int)∧g 9 = .int .i64 (k:Int))∧M=[⟨b5,25,uw (vE k (val xs - val ys) 16)⟩,⟨b4,25,uw (List.replicate 16 0)⟩,⟨b3,25,uw ys⟩,⟨b2,25,uw xs⟩]∧nn=16 - k∧(k≤16)) (16) ?start ?round
 case start =>
  refine ⟨_,(List.Sublist.refl _),0,⟨?a6,?a9⟩,?mem0,rfl,Nat.zero_le _⟩
  case mem0=>rw [wH]
  case a6=>rw [aG_];rfl
  case a9=>rfl
 case round =>
  rintro nn g M ⟨k,⟨hg6,hg9⟩,rfl,hmeas,hk⟩;subst nn;refine gS2 hg6 hg9 ?_;clear hg6 hg9;refine go4 ?_;refine aQ _ O (fun hc=>?_) (fun hc=>?_)
  ·replace hc:=cB_ hc
   have hc:k<16:=by omega
   have hbw:=eC_ (val xs) (val ys) k;refine go8 ?_;refine qH (sk (sk (sk (sk s0)))) 12 [] [] (go_ ?_);refine pQ O (eJ arT O O oo_ oo_) (pQ O (dD tyT O mm_ (rE oo_)) ?_);refine pQ O (dA fX eV O) (go_ ?_);refine pQ O (eJ arT O O oo_ oo_) (pQ O (dD tyT O mm_ (rE oo_)) ?_);refine pQ O (dA fX eV O) (go2 ?_);refine pQ O (aW (mM O O) (congrArg (Value.int .u64) (R7 hbw (dN lx k) (dN ly k)))) (go5 ?_);refine sQ (aW (dA eV fX O) (mV _)) O (sQ (eJ arT O O oo_ oo_) O (aZ O (lX tyT O O uu_ (by rw [iN _ hk];exact hc) (.inl e6) ?_)));refine go3 ?_;refine sQ (aW (r7 O O dd_) (congrArg (Value.int .u64) (oW _ 63))) O (go6 ?_);refine ⟨pp_,_,_,(List.Sublist.refl _),oo_,k+1,⟨?s6,?s9⟩,?mem,rfl,oo_⟩
   case mem=>rw [eM xs k lx,eM ys k ly,NW k hle,vF _ hc]
   case s6=>rw [← KJ,← eM xs k lx,← eM ys k ly];rfl
   case s9=>exact congrArg (Value.int .i64) (bQ (n:=(k:Int)+1) (by unfold I64;omega))
  replace hc:=cB_ hc
  obtain rfl:k=16:=by omega
  refine go2 ?_;refine sQ (cC tyT O mm_ (by simp [uw,iN])) O ?_;refine aZ O (bN tyT O O uu_ (by simp [uw,iN]) O (gU _) (.inl e6) ?_);refine go2 ?_;refine rtX O ⟨_,_,_,_,_,_,rfl,mm_,tyT,_,(dO (by simp [uw,iN])),(by simp [uw,iN]),rfl⟩ ?_;rw [yW];rfl
theorem DE (x:Nat) :
  Ret prog 195 [U32 x] (.bool false):=by
 refine bU (N:=6) func195 O O zz_ (fun w0=>?_);refine giI ?_;refine go6 ?_;refine sQ (aW (ch_ O O) (congrArg Value.bool (bne_self_eq_false _))) O (go3 ?_);refine rt1 ?_;exact rfl
theorem TW (x y:Nat) :
   Ret prog 185 [U32 x,U32 y] (.int .i64 (uO x y)):=by
 refine bU (N:=20) func185 O O zz_ (fun w0=>?_);refine giI ?_;refine go5 ?_;refine sQ (bR aM (DE x) O) O (go4 ?_);refine sQ (bR aM (DE y) O) O (eU_ ?_);refine aQ _ O (fun h1=>?_) (fun h1=>?_)
 ·replace h1:=cB_ h1
  refine go4 ?_;refine rt1 ?_;exact congrArg _ (AP h1).symm
 replace h1:=cB_ h1
 refine go7 ?_;refine aQ _ O (fun h2=>?_) (fun h2=>?_)
 ·replace h2:=cB_ h2
  refine go4 ?_;refine rt1 ?_;exact congrArg _ (AO h2).symm
 replace h2:=cB_ h2
 refine go5 ?_;refine rt1 ?_
 (obtain rfl:x=y:=by omega);exact congrArg _ (JP _).symm
theorem mI (xs ys:List Nat) (hx:xs.length=16) (hy:ys.length=16) (lx:Lim xs) (ly:Lim ys) :
    Ret prog 169 [UV xs,UV ys] (.int .i64 (uO (val xs) (val ys))):=by
 refine bU (N:=24) func169 O O zz_ (fun w0=>?_);refine giI ?_;refine go_ ?_;refine aZ O (i7 O O (fun b2 hb2=>aZ O (i7 O O (fun b3 hb3=>go7 ?_))));refine bP (rg [] 4 20) (fun g nn M=>∃ (k:Nat),(g 5 = .int .i64 ((k:Int) - 1))∧M=[⟨b3,25,uw ys⟩,⟨b2,25,uw xs⟩]∧nn=k+0∧(k≤16∧xs.drop k=ys.drop k)) (16) ?start ?round
 case start =>
  refine ⟨_,(List.Sublist.refl _),16,?a5,?mem0,rfl,⟨Nat.le_refl _,by rw [List.drop_eq_nil_of_le oo_,List.drop_eq_nil_of_le oo_]⟩⟩
  case mem0=>rfl
  case a5=>rfl
 case round =>
  rintro nn g M ⟨k,hg5,rfl,hmeas,⟨hk,hd⟩⟩;subst nn;refine gS1 hg5 ?_;clear hg5;refine go5 ?_;refine aQ _ O (fun hc=>?_) (fun hc=>?_)
  ·replace hc:=cB_ hc
   obtain ⟨m,rfl⟩:∃ m,k=m+1:=⟨k - 1,by omega⟩;refine go4 ?_;refine qH (sk (sk s0)) 7 [] [] (pQ O (aW (jA O) (congrArg (Value.int .i64) (show (((m+1:Nat):Int) - 1)=(m:Int) by omega))) (pQ O (eJ arT O O oo_ oo_) (pQ O (dD tyT O mm_ (rE oo_)) ?_)));refine pQ O (aW (jA O) (congrArg (Value.int .i64) (show (((m+1:Nat):Int) - 1)=(m:Int) by omega))) (pQ O (eJ arT O O oo_ oo_) (pQ O (dD tyT O mm_ (rE oo_)) ?_));refine go2 ?_;refine aQ _ O (fun hne=>?_) (fun hne=>?_)
   ·replace hne:=cB_ hne
    refine go_ ?_;refine qH (sk (sk s0)) 8 [] [] (pQ O (aW (jA O) (congrArg (Value.int .i64) (show (((m+1:Nat):Int) - 1)=(m:Int) by omega))) (pQ O (eJ arT O O oo_ oo_) (pQ O (dD tyT O mm_ (rE oo_)) ?_)));refine pQ O (aW (jA O) (congrArg (Value.int .i64) (show (((m+1:Nat):Int) - 1)=(m:Int) by omega))) (pQ O (eJ arT O O oo_ oo_) (pQ O (dD tyT O mm_ (rE oo_)) ?_));refine pQ O (bR aM (TW _ _) O) (go3 ?_);refine rt1 ?_;exact congrArg _ (QD lx ly oo_ hd oo_)
   replace hne:=cB_ hne
   refine go2 ?_;refine sQ (aW (jA O) (congrArg (Value.int .i64) (show (((m+1:Nat):Int) - 1)=(m:Int) by omega))) O (go3 ?_);refine ⟨pp_,_,_,(List.Sublist.refl _),oo_,m,?s5,?mem,rfl,⟨by omega,JT oo_ hd oo_ oo_⟩⟩
   case mem=>rfl
   case s5=>exact congrArg (Value.int .i64) (bQ (n:=(m:Int) - 1) (by unfold I64;omega))
  replace hc:=cB_ hc
  obtain rfl:k=0:=by omega
  refine go5 ?_;refine rt1 ?_
  (rw [List.drop_zero,List.drop_zero] at hd;subst hd;exact congrArg _ (JP _).symm)
theorem l4 (xs:List Nat) (hx:xs.length=16) :
    Ret prog 171 [UV xs] (.int .i64 ((szL xs:Nat):Int)):=by
 refine bU (N:=16) func171 O O zz_ (fun w0=>?_);refine giI ?_;refine go_ ?_;refine aZ O (i7 O O (fun b1 hb1=>go7 ?_));refine bP (rg [] 3 12) (fun g nn M=>∃ (k:Nat),(g 3 = .int .i64 (k:Int))∧M=[⟨b1,25,uw xs⟩]∧nn=k+0∧(k≤16∧∀ j,k≤j→xs.getD j 0=0)) (16) ?start ?round
 case start =>
  refine ⟨_,(List.Sublist.refl _),16,?a3,?mem0,rfl,⟨Nat.le_refl _,fun j hj=>by simp [List.getD,List.getElem?_eq_none (show xs.length≤j by omega)]⟩⟩
  case mem0=>rfl
  case a3=>rfl
 case round =>
  rintro nn g M ⟨k,hg3,rfl,hmeas,⟨hk,hhi⟩⟩;subst nn;refine gS1 hg3 ?_;clear hg3;refine go5 ?_
  cases hz:decide ((0:Int)<(k:Int))
  ·refine PV ?_;refine rt1 ?_;exact congrArg (fun n:Nat=>Value.int .i64 (n:Int)) (LU hhi (.inl (by have:=of_decide_eq_false hz;omega))).symm
  have hz':=of_decide_eq_true hz;obtain ⟨m,rfl⟩:∃ m,k=m+1:=⟨k - 1,by omega⟩;refine go_ ?_;refine sQ (aW (mM O O) (congrArg (Value.int .i64) (vP oo_))) O (sQ (eJ arT O O oo_ oo_) O (sQ (dD tyT O mm_ (rE oo_)) O ?_));refine go3 ?_;refine aQ _ O (fun h0=>?_) (fun h0=>?_)
  ·replace h0:=cB_ h0
   refine go4 ?_;refine sQ (aW (mM O O) (congrArg (Value.int .i64) (vP oo_))) O (go2 ?_);refine ⟨pp_,_,_,(List.Sublist.refl _),oo_,m,?s3,?mem,rfl,⟨by omega,fun j hj=>by rcases Nat.eq_or_lt_of_le hj with rfl|hj;omega;exact hhi j hj⟩⟩
   case mem=>rfl
   case s3=>rfl
  replace h0:=cB_ h0
  refine go6 ?_;refine rt1 ?_;exact congrArg (fun n:Nat=>Value.int .i64 (n:Int)) (LU hhi (.inr (by simp only [Nat.add_sub_cancel];omega))).symm
theorem vB (a:R) (ha:a.Ok) :
   Ret prog 176 [RV a] (RV (Z.neg a.dec).enc):=by
 refine bU (N:=14) func176 O O zz_ (fun w0=>?_);refine giI ?_;refine go_ ?_;refine aZ O (i7 O O (fun b1 hb1=>aZ O (eB kF (fun b2 hb2=>go3 ?_))));refine sQ (cC tyT O mm_ (cU ha)) O ?_;refine aZ O (iS nC kF nB O dd_ O (wK ha) (fun b4 hb4=>sQ (eH aM O (fun w hw=>gZ [a] (ok1 ha) b4 27 w (hw.mem _ m0) zz_)) O ?_));refine go2 ?_;refine aQ _ O (fun hg=>?_) (fun hg=>?_)
 ·replace hg:=cB_ hg
  refine go_ ?_;refine sQ (bR aM iB O) O (aZ O (bN tyT O O uu_ (aJ _) O (bJ _) (.inl e6) ?_));refine go2 ?_;refine rtX O ⟨_,_,_,_,_,_,rfl,mm_,tyT,_,(dO (aJ _)),(aJ _),rfl⟩ ?_
  (rw [Z.neg,pR (NY hg)];rfl)
 replace hg:=cB_ hg
 refine go2 ?_;refine sQ (bV fdT dd_ O) O (sQ (dD tyT O mm_ O) O ?_);refine go_ ?_;refine sQ (bV fdT dd_ O) O (sQ (gP (vs:=uw a.w) tyT O mm_ (jZ ha.len) ((fW _).trans ha.len)) O ?_);refine sQ (bR aM (eZ (!a.neg) a.w ha.len ha.lim) O) O (aZ O (bN tyT O O uu_ (j4 ha.len) O (bJ _) (.inl e6) ?_));refine go2 ?_;refine rtX O ⟨_,_,_,_,_,_,rfl,mm_,tyT,_,(dO (j4 ha.len)),(j4 ha.len),rfl⟩ ?_;exact congrArg RV (dC_ ha (by simpa using hg))
theorem vA (a:R) (ha:a.Ok) :
   Ret prog 152 [RV a] (RV (Z.abs a.dec).enc):=by
 refine bU (N:=11) func152 O O zz_ (fun w0=>?_);refine giI ?_;refine go_ ?_;refine aZ O (i7 O O (fun b1 hb1=>aZ O (eB kF (fun b2 hb2=>go3 ?_))));refine sQ (cC tyT O mm_ (cU ha)) O ?_;refine aZ O (iS nC kF nB O dd_ O (wK ha) (fun b4 hb4=>sQ (eH aM O (fun w hw=>gZ [a] (ok1 ha) b4 27 w (hw.mem _ m0) zz_)) O ?_));refine go2 ?_;refine aQ _ O (fun hg=>?_) (fun hg=>?_)
 ·replace hg:=cB_ hg
  refine go_ ?_;refine sQ (bR aM iB O) O (aZ O (bN tyT O O uu_ (aJ _) O (bJ _) (.inl e6) ?_));refine go2 ?_;refine rtX O ⟨_,_,_,_,_,_,rfl,mm_,tyT,_,(dO (aJ _)),(aJ _),rfl⟩ ?_
  (rw [Z.abs,pR (NY hg)];rfl)
 replace hg:=cB_ hg
 refine go2 ?_;refine sQ (bV fdT dd_ O) O (sQ (gP (vs:=uw a.w) tyT O mm_ (jZ ha.len) ((fW _).trans ha.len)) O ?_);refine sQ (bR aM (eZ false a.w ha.len ha.lim) O) O (aZ O (bN tyT O O uu_ (j4 ha.len) O (bJ _) (.inl e6) ?_));refine go2 ?_;refine rtX O ⟨_,_,_,_,_,_,rfl,mm_,tyT,_,(dO (j4 ha.len)),(j4 ha.len),rfl⟩ ?_;exact congrArg RV (c0_ ha (by simpa using hg))
theorem mT (a b:R) (ha:a.Ok) (hb:b.Ok) :
    Ret prog 116 [RV a,RV b] (RV (Z.add a.dec b.dec).enc):=by
 refine bU (N:=55) func116 O O zz_ (fun w0=>?_);refine giI ?_;refine go_ ?_;refine aZ O (i7 O O (fun b2 hb2=>aZ O (i7 O O (fun b3 hb3=>aZ O (eB kF (fun b4 hb4=>go3 ?_))))));refine sQ (cC tyT O mm_ (cU ha)) O ?_;refine sQ (cC tyT O mm_ (cU hb)) O ?_;refine aZ O (iS nC kF nB O dd_ O (JY ha hb) (fun b9 hb9=>sQ (eH aM O (fun w hw=>gZ [a,b] (ok2 ha hb) b9 27 w (hw.mem _ m0) zz_)) O ?_));refine go2 ?_;refine aQ _ O (fun hg=>?_) (fun hg=>?_)
 ·replace hg:=cB_ hg
  refine go_ ?_;refine sQ (bR aM iB O) O (aZ O (bN tyT O O uu_ (aJ _) O (bJ _) (.inl e6) ?_));refine go2 ?_;refine rtX O ⟨_,_,_,_,_,_,rfl,mm_,tyT,_,(dO (aJ _)),(aJ _),rfl⟩ ?_
  (rw [Z.add,i9 (BF hg)];rfl)
 replace hg:=cB_ hg
 have hg:=all2.1 hg;refine go3 ?_;refine sQ (bV fdT dd_ O) O (sQ (dD tyT O mm_ O) O ?_);refine sQ (bV fdT dd_ O) O (sQ (dD tyT O mm_ O) O ?_);refine sQ (QM AM O O) O (go_ ?_);refine aQ _ O (fun hn=>?_) (fun hn=>?_)
 ·replace hn:=cB_ hn
  refine go_ ?_;refine sQ (bV fdT dd_ O) O (sQ (gP (vs:=uw a.w) tyT O mm_ (jZ ha.len) ((fW _).trans ha.len)) O ?_);refine sQ (bV fdT dd_ O) O (sQ (gP (vs:=uw b.w) tyT O mm_ (jZ hb.len) ((fW _).trans hb.len)) O ?_);refine sQ (bR aM (G6 a.w b.w ha.len hb.len ha.lim hb.lim) O) O (go3 ?_);refine aZ O (eB oA (fun b5 hb5=>aZ O (bN tyT O O uu_ (by rw [fW,cW]) O (gU _) (.inl e6) ?_)));refine go7 ?_;refine aQ _ O (fun hc=>?_) (fun hc=>?_)
  ·replace hc:=cB_ hc
   refine go_ ?_;refine sQ (bR aM iB O) O (aZ O (bN tyT O O uu_ (aJ _) O (bJ _) (.inl e6) ?_));refine go2 ?_;refine rtX O ⟨_,_,_,_,_,_,rfl,mm_,tyT,_,(dO (aJ _)),(aJ _),rfl⟩ ?_;exact congrArg RV (VT ha hb hg.1 hg.2 hn oo_)
  replace hc:=cB_ hc
  refine go2 ?_;refine sQ (bV fdT dd_ O) O (sQ (dD tyT O mm_ O) O ?_);refine sQ (cC tyT O mm_ (by rw [fW,cW])) O ?_;refine sQ (bR aM (eZ a.neg _ (cW _ _) (lE _ _)) O) O (aZ O (bN tyT O O uu_ (j4 (cW _ _)) O (bJ _) (.inl e6) ?_));refine go2 ?_;refine rtX O ⟨_,_,_,_,_,_,rfl,mm_,tyT,_,(dO (j4 (cW _ _))),(j4 (cW _ _)),rfl⟩ ?_;exact congrArg RV (VU ha hb hg.1 hg.2 hn oo_)
 replace hn:=cB_ hn
 refine go3 ?_;refine sQ (bV fdT dd_ O) O (sQ (gP (vs:=uw a.w) tyT O mm_ (jZ ha.len) ((fW _).trans ha.len)) O ?_);refine sQ (bV fdT dd_ O) O (sQ (gP (vs:=uw b.w) tyT O mm_ (jZ hb.len) ((fW _).trans hb.len)) O ?_);refine sQ (bR aM (mI a.w b.w ha.len hb.len ha.lim hb.lim) O) O (go2 ?_);refine aQ _ O (fun ho=>?_) (fun ho=>?_)
 ·replace ho:=cB_ ho
  have hle:val b.w≤val a.w:=RC ho;refine go_ ?_;refine qH (sk (sd (sk (sk s0)))) 9 [8] [8] (pQ O (bV fdT dd_ O) (pQ O (dD tyT O mm_ O) ?_));refine pQ O (bV fdT dd_ O) (pQ O (gP (vs:=uw a.w) tyT O mm_ (jZ ha.len) ((fW _).trans ha.len)) ?_);refine pQ O (bV fdT dd_ O) (pQ O (gP (vs:=uw b.w) tyT O mm_ (jZ hb.len) ((fW _).trans hb.len)) ?_);refine pQ O (bR aM (sY a.w b.w ha.len hb.len ha.lim hb.lim hle) O) (pQ O (bR aM (eZ a.neg _ (cW _ _) (lE _ _)) O) ?_);refine fP O O (bN tyT O O uu_ (j4 (cW _ _)) O (bJ _) (.inl e6) ⟨nf,ss_,?_⟩);refine go2 ?_;refine rtX O ⟨_,_,_,_,_,_,rfl,mm_,tyT,_,(dO (j4 (cW _ _))),(j4 (cW _ _)),rfl⟩ ?_;exact congrArg RV (VV ha hb hg.1 hg.2 hn hle)
 replace ho:=cB_ ho
 have hle:val a.w≤val b.w:=WA ho;refine go2 ?_;refine qH (sk (sd (sk (sk s0)))) 9 [8] [8] (pQ O (bV fdT dd_ O) (pQ O (dD tyT O mm_ O) ?_));refine pQ O (bV fdT dd_ O) (pQ O (gP (vs:=uw b.w) tyT O mm_ (jZ hb.len) ((fW _).trans hb.len)) ?_);refine pQ O (bV fdT dd_ O) (pQ O (gP (vs:=uw a.w) tyT O mm_ (jZ ha.len) ((fW _).trans ha.len)) ?_);refine pQ O (bR aM (sY b.w a.w hb.len ha.len hb.lim ha.lim hle) O) (pQ O (bR aM (eZ b.neg _ (cW _ _) (lE _ _)) O) ?_);refine fP O O (bN tyT O O uu_ (j4 (cW _ _)) O (bJ _) (.inl e6) ⟨nf,ss_,?_⟩);refine go2 ?_;refine rtX O ⟨_,_,_,_,_,_,rfl,mm_,tyT,_,(dO (j4 (cW _ _))),(j4 (cW _ _)),rfl⟩ ?_;exact congrArg RV (VW ha hb hg.1 hg.2 hn hle)
theorem pG (a b:R) (ha:a.Ok) (hb:b.Ok) :
  Ret prog 144 [RV a,RV b] (RV (Z.sub a.dec b.dec).enc):=by
 refine bU (N:=9) func144 O O zz_ (fun w0=>?_);refine giI ?_;refine go_ ?_;refine aZ O (i7 O O (fun b2 hb2=>aZ O (i7 O O (fun b3 hb3=>aZ O (eB kF (fun b4 hb4=>go2 ?_))))));refine qH (sd (sk (sk s0))) 5 [4] [4] (pQ O (cC tyT O mm_ (cU ha)) ?_);refine pQ O (cC tyT O mm_ (cU hb)) ?_;refine pQ O (bR aM (vB b hb) O) (pQ O (bR aM (mT a (Z.neg b.dec).enc ha (Z.enc_ok _)) O) ?_);refine fP O O (bN tyT O O uu_ (aJ _) O (bJ _) (.inl e6) ⟨nf,ss_,?_⟩);refine go2 ?_;refine rtX O ⟨_,_,_,_,_,_,rfl,mm_,tyT,_,(dO (aJ _)),(aJ _),rfl⟩ ?_
 (rw [wG];rfl)
theorem gD (a:R) (ha:a.Ok) :
   Ret prog 60 [RV a] (.int .i64 a.dec.sign):=by
 refine bU (N:=17) func60 O O zz_ (fun w0=>?_);refine giI ?_;refine go_ ?_;refine aZ O (i7 O O (fun b1 hb1=>go5 ?_));refine sQ (cC tyT O mm_ (cU ha)) O ?_;refine aZ O (iS nC kF nB O dd_ O (wK ha) (fun b5 hb5=>sQ (eH aM O (fun w hw=>gZ [a] (ok1 ha) b5 27 w (hw.mem _ m0) zz_)) O ?_));refine go2 ?_
 cases hg:[a].all R.good
 ·refine T5 ?_;refine rt1 ?_;exact congrArg _ (zB ha (.inl (by simpa using hg)))
 refine sQ (bV fdT dd_ O) O (sQ (gP (vs:=uw a.w) tyT O mm_ (jZ ha.len) ((fW _).trans ha.len)) O ?_);refine sQ (m6 oA arT O (.nil _)) O ?_;refine sQ (wP (r:=a.zero) O O (nJ 8 dd_ E6 FN (lY ha.len) (lY zz_) ha.zero_iff)) O ?_;refine go3 ?_;refine aQ _ O (fun hz=>?_) (fun hz=>?_)
 ·replace hz:=cB_ hz
  refine go4 ?_;refine rt1 ?_;exact congrArg _ (zB ha (.inr hz))
 replace hz:=cB_ hz
 refine go_ ?_;refine sQ (bV fdT dd_ O) O (sQ (dD tyT O mm_ O) O ?_);refine go2 ?_;refine aQ _ O (fun hn=>?_) (fun hn=>?_)
 ·replace hn:=cB_ hn
  refine go4 ?_;refine rt1 ?_;exact congrArg _ (OR ha (by simpa using hg) hz hn)
 replace hn:=cB_ hn
 refine go5 ?_;refine rt1 ?_;exact congrArg _ (OS ha (by simpa using hg) hz hn)
theorem fS (n:Int) (hn:I64 n) :
   Ret prog 97 [.int .i64 n] (RV (Z.of n).enc):=by
 refine bU (N:=19) func97 O O zz_ (fun w0=>?_);refine giI ?_;refine go_ ?_;refine aZ O (eB kF (fun b2 hb2=>go3 ?_));refine sQ (dA sL eV O) O (go7 ?_);refine aQ _ O (fun h0=>?_) (fun h0=>?_)
 ·replace h0:=cB_ h0
  refine go2 ?_;refine sQ (aW (Y4 O) (congrArg (Value.int .u64) (dE_ hn h0))) O (go5 ?_);refine sQ (aW (jA O) (show _=Value.int .u64 (n.natAbs:Int) from by first|rfl|exact congrArg (Value.int .u64) (KN hn h0))) O ?_;refine sQ (dA eV fX O) O (sQ (aW (jA O) (show _=Value.int .u64 (n.natAbs:Int) from by first|rfl|exact congrArg (Value.int .u64) (KN hn h0))) O ?_);refine sQ (aW (r7 O O dd_) (congrArg (Value.int .u64) (oW _ 32))) O (sQ (dA eV fX O) O (sQ (m6 oA arT O (XC (YS _) (YR (by unfold I64 at hn;omega)))) O (sQ (bR aM (eZ (decide (n<0)) _ zz_ (X3 (Nat.mod_lt _ dd_) (by unfold I64 at hn;omega) 14)) O) O ?_)));refine aZ O (bN tyT O O uu_ (j4 zz_) O (bJ _) (.inl e6) ?_);refine go2 ?_;refine rtX O ⟨_,_,_,_,_,_,rfl,mm_,tyT,_,(dO (j4 zz_)),(j4 zz_),rfl⟩ ?_;exact congrArg RV (YP hn O O)
 replace h0:=cB_ h0
 refine go4 ?_;refine sQ (aW (jA O) (show _=Value.int .u64 (n.natAbs:Int) from by first|rfl|exact congrArg (Value.int .u64) (KN hn h0))) O ?_;refine sQ (dA eV fX O) O (sQ (aW (jA O) (show _=Value.int .u64 (n.natAbs:Int) from by first|rfl|exact congrArg (Value.int .u64) (KN hn h0))) O ?_);refine sQ (aW (r7 O O dd_) (congrArg (Value.int .u64) (oW _ 32))) O (sQ (dA eV fX O) O (sQ (m6 oA arT O (XC (YS _) (YR (by unfold I64 at hn;omega)))) O (sQ (bR aM (eZ (decide (n<0)) _ zz_ (X3 (Nat.mod_lt _ dd_) (by unfold I64 at hn;omega) 14)) O) O ?_)));refine aZ O (bN tyT O O uu_ (j4 zz_) O (bJ _) (.inl e6) ?_);refine go2 ?_;refine rtX O ⟨_,_,_,_,_,_,rfl,mm_,tyT,_,(dO (j4 zz_)),(j4 zz_),rfl⟩ ?_;exact congrArg RV (YP hn O O)
theorem dQ (a b:R) (ha:a.Ok) (hb:b.Ok) :
    Ret prog 117 [RV a,RV b] (RV (Z.mul a.dec b.dec).enc):=by
 refine bU (N:=82) func117 O O zz_ (fun w0=>?_);refine giI ?_;refine go_ ?_;refine aZ O (i7 O O (fun b2 hb2=>aZ O (i7 O O (fun b3 hb3=>aZ O (eB kF (fun b4 hb4=>go3 ?_))))));refine sQ (cC tyT O mm_ (cU ha)) O ?_;refine sQ (cC tyT O mm_ (cU hb)) O ?_;refine aZ O (iS nC kF nB O dd_ O (JY ha hb) (fun b13 hb13=>sQ (eH aM O (fun w hw=>gZ [a,b] (ok2 ha hb) b13 27 w (hw.mem _ m0) zz_)) O ?_));refine go2 ?_;refine aQ _ O (fun hg=>?_) (fun hg=>?_)
 ·replace hg:=cB_ hg
  refine go_ ?_;refine sQ (bR aM iB O) O (aZ O (bN tyT O O uu_ (aJ _) O (bJ _) (.inl e6) ?_));refine go2 ?_;refine rtX O ⟨_,_,_,_,_,_,rfl,mm_,tyT,_,(dO (aJ _)),(aJ _),rfl⟩ ?_
  (rw [Z.mul,i9 (BF hg)];rfl)
 replace hg:=cB_ hg
 have hg:=all2.1 hg;refine go2 ?_;refine aZ O (eB fR_ (fun b5 hb5=>go2 ?_));have hsa:=sU a.w;have hsb:=sU b.w;rw [ha.len] at hsa;rw [hb.len] at hsb;refine qH (sk (sk (sk (sk (sk s0))))) 8 [] [] (pQ O (bV fdT dd_ O) (pQ O (gP (vs:=uw a.w) tyT O mm_ (jZ ha.len) ((fW _).trans ha.len)) ?_));refine pQ O (bR aM (l4 a.w ha.len) O) (pQ O (bV fdT dd_ O) (pQ O (gP (vs:=uw b.w) tyT O mm_ (jZ hb.len) ((fW _).trans hb.len)) ?_));refine pQ O (bR aM (l4 b.w hb.len) O) (go9 ?_);refine bP (rg [8,9,10] 24 43) (fun g nn M=>∃ (i:Nat) (l:List Nat),(g 24 = .int .i64 (i:Int))∧M=[⟨b5,168,uw l⟩,⟨b4,27,zR⟩,⟨b3,27,b.cells⟩,⟨b2,27,a.cells⟩]∧nn=szL a.w - i∧(i≤szL a.w∧MulOut (val a.w) (val b.w) (szL b.w) i l)) (szL a.w - 0) ?start ?round
 case start =>
  refine ⟨_,(List.Sublist.cons_cons _ (List.Sublist.cons _ (List.Sublist.refl _))),0,_,?a24,?mem0,rfl,⟨Nat.zero_le _,MulOut.start _ _ _⟩⟩
  case mem0=>rfl
  case a24=>rfl
 case round =>
  rintro nn g M ⟨i,l,hg24,rfl,hmeas,⟨hile,hM⟩⟩;subst nn;refine gS1 hg24 ?_;clear hg24;refine go4 ?_;refine aQ _ O (fun hi=>?_) (fun hi=>?_)
  ·replace hi:=cB_ hi
   have hia:i<a.w.length:=by rw [ha.len];omega
   refine eT_ ?_;refine bP (rg [9,10] 28 32) (fun g nn M=>∃ (k:Nat) (l:List Nat) (c:Nat),(g 9 = .int .u64 (c:Int)∧g 28 = .int .i64 (k:Int))∧M=[⟨b5,168,uw l⟩,⟨b4,27,zR⟩,⟨b3,27,b.cells⟩,⟨b2,27,a.cells⟩]∧nn=szL b.w - k∧(k≤szL b.w∧MulIn (val a.w) (val b.w) (szL b.w) i k l c)) (szL b.w - 0) ?start ?round
   case start =>
    refine ⟨_,(List.Sublist.refl _),0,l,0,⟨?a9,?a28⟩,?mem0,rfl,⟨Nat.zero_le _,hM.row⟩⟩
    case mem0=>rfl
    case a9=>rfl
    case a28=>rfl
   case round =>
    rintro nn g M ⟨k,l,c,⟨hg9,hg28⟩,rfl,hmeas,⟨hkle,hM⟩⟩;subst nn;refine gS2 hg9 hg28 ?_;clear hg9 hg28;refine go4 ?_;refine aQ _ O (fun hk=>?_) (fun hk=>?_)
    ·replace hk:=cB_ hk
     have hkb:k<b.w.length:=by rw [hb.len];omega
     refine go8 ?_;refine gdr (sk (sk (sk (sk s0)))) [0,4,8,12,16,20,24,28,32,36,40,44,48,52,56,60,64,68,72,76,80] [] mix (by kernel_rfl) (go2 ?_);refine pQ O (bV fdT dd_ O) (pQ O (eJ arT O O oo_ oo_) (pQ O (dD tyT O mm_ (l6 hia)) ?_));refine pQ O (dA fX eV O) (go_ ?_);refine pQ O (bV fdT dd_ O) (pQ O (eJ arT O O oo_ oo_) (pQ O (dD tyT O mm_ (l6 hkb)) ?_));refine pQ O (dA fX eV O) (go3 ?_);refine pQ O (aW (hZ O O) (congrArg (Value.int .i64) (mJ oo_))) (pQ O (eJ arT O O oo_ oo_) (pQ O (dD tyT O mm_ (rE (by rw [hM.len];omega))) ?_));refine pQ O (dA fX eV O) (go_ ?_);refine pQ O (aW (hZ O O) (congrArg (Value.int .u64) (e6_ (dN ha.lim i) (dN hb.lim k) (dN hM.lim (i+k)) hM.clt))) (go5 ?_);refine sQ (aW (hZ O O) (congrArg (Value.int .i64) (mJ oo_))) O (go_ ?_);refine sQ (aW (dA eV fX O) (mV _)) O (sQ (eJ arT O O oo_ oo_) O (aZ O (lX tyT O O uu_ (by rw [hM.len];omega) (.inl e6) ?_)));refine go3 ?_;refine sQ (aW (r7 O O dd_) (congrArg (Value.int .u64) (oW _ 32))) O (go3 ?_);refine sQ (aW (hZ O O) (congrArg (Value.int .i64) (i4 oo_))) O (go2 ?_);refine ⟨pp_,_,_,(List.Sublist.refl _),oo_,k+1,_,_,⟨?s9,?s28⟩,?mem,rfl,⟨by omega,UH hM ha.lim hb.lim oo_ oo_⟩⟩
     case mem=>rfl
     case s9=>rfl
     case s28=>rfl
    replace hk:=cB_ hk
    obtain rfl:k=szL b.w:=by omega
    refine go4 ?_;refine sQ (aW (hZ O O) (congrArg (Value.int .i64) (mJ oo_))) O (go_ ?_);refine sQ (aW (dA eV fX O) (eh_ hM.clt)) O (sQ (eJ arT O O oo_ oo_) O (aZ O (lX tyT O O uu_ (by rw [hM.len];omega) (.inl e6) ?_)));refine go2 ?_;refine sQ (aW (hZ O O) (congrArg (Value.int .i64) (i4 oo_))) O (go2 ?_);refine ⟨pp_,_,_,(List.Sublist.refl _),oo_,i+1,_,?s24,?mem,rfl,⟨by omega,hM.done oo_ (rP hb.lim)⟩⟩
    case mem=>rfl
    case s24=>rfl
  replace hi:=cB_ hi
  obtain rfl:i=szL a.w:=by omega
  refine go3 ?_;refine sQ (F5 arT O O O dd_ dd_ dd_ dd_) O (sQ (Y5 arT O dd_) O (sQ (gP (vs:=uw (l.drop 16)) tyT O mm_ (fN_ hM.len) (by simp [uw,hM.len])) O ?_));refine sQ (m6 oA arT O (.nil _)) O ?_;refine sQ (CP (r:=decide (l.drop 16=List.replicate 16 0)) O O (nJ 8 dd_ E6 FN (lY (by simp [hM.len])) (lY zz_) (df_ _ _))) O ?_;refine go_ ?_;refine aQ _ O (fun h71=>?_) (fun h71=>?_)
  ·replace h71:=cB_ h71
   refine go_ ?_;refine sQ (bR aM iB O) O (aZ O (bN tyT O O uu_ (aJ _) O (bJ _) (.inl e6) ?_));refine go2 ?_;refine rtX O ⟨_,_,_,_,_,_,rfl,mm_,tyT,_,(dO (aJ _)),(aJ _),rfl⟩ ?_;exact congrArg RV (bb_ ha hb hg.1 hg.2 hM.len hM.lim (FR hM ha) (by simpa using h71))
  replace h71:=cB_ h71
  refine go2 ?_;refine qH (sk (sd (sk (sk s0)))) 10 [9] [9] (pQ O (bV fdT dd_ O) (pQ O (dD tyT O mm_ O) ?_));refine pQ O (bV fdT dd_ O) (pQ O (dD tyT O mm_ O) ?_);refine pQ O (uA AM O O) (pQ O (F5 arT O O O dd_ dd_ dd_ dd_) (pQ O (Y5 arT O dd_) (pQ O (gP (vs:=uw (l.take 16)) tyT O mm_ (fO_ hM.len) (by simp [uw,hM.len])) ?_)));refine pQ O (bR aM (eZ (a.neg != b.neg) (l.take 16) (by simp [hM.len]) (hM.lim.take 16)) O) ?_;refine fP O O (bN tyT O O uu_ (j4 (by simp [hM.len])) O (bJ _) (.inl e6) ⟨nf,ss_,?_⟩);refine go2 ?_;refine rtX O ⟨_,_,_,_,_,_,rfl,mm_,tyT,_,(dO (j4 (by simp [hM.len]))),(j4 (by simp [hM.len])),rfl⟩ ?_;exact congrArg RV (bc_ ha hb hg.1 hg.2 hM.len hM.lim (FR hM ha) (by simpa using h71))
theorem DU (us vs:List Nat) (n j:Nat) (H:QH us vs n j) (bu T:Nat) (w:World) (hbu:w.heap[bu]? = some (.cells (uw us).toArray T (0,0))) :
    Calls prog 190 [.pointer (some ⟨bu,0,none⟩),UV vs,.int .i64 (n:Int),.int .i64 (j:Int)].toArray w (fun e w'=>∃ x:Nat,e = .returned (.int .u64 (x:Int))∧Ext w w'∧MC us vs j x):=by
 refine MV (N:=77) (g:=fun x:Nat=>.int .u64 (x:Int)) (Q:=fun x:Nat=>MC us vs j x) func190 O O zz_ ?_;obtain ⟨w0,rfl⟩:=nm w;refine giI ?_;have G:=H.gh;have hn2:=H.n2;have hjn:=H.jn;have hul:=H.ulen;have hvl:=H.vlen;refine go_ ?_;refine aZ O (i7 O O (fun b5 hb5=>go3 ?_));refine gdr (sk s0) [0,4,8,12,16,20,24,28,32,36,40,44,48,52,56,60,64,68,72,76] [] mix (by kernel_rfl) (go3 ?_);refine pQ O (aW (hZ O O) (congrArg (Value.int .i64) (mJ oo_))) (go_ ?_);refine pQ O (eJ arT O O oo_ oo_) (pQ O (EH tyT O hbu zz_ (rE oo_)) ?_);refine pQ O (aW (dA fX eV O) (uJ (dN H.ulim _))) (pQ O (aW (BK O O dd_) (congrArg (Value.int .u64) (uY (dN H.ulim _)))) (go3 ?_));refine pQ O (aW (hZ O O) (congrArg (Value.int .i64) (mJ oo_))) (pQ O (aW (mM O O) (congrArg (Value.int .i64) (rA (b:=1) O oo_ oo_))) (go_ ?_));refine pQ O (eJ arT O O oo_ oo_) (pQ O (EH tyT O hbu zz_ (rE oo_)) ?_);refine pQ O (aW (dA fX eV O) (uJ (dN H.ulim _))) (pQ O (aW (K0 O O) (congrArg (Value.int .u64) (N2 (dN H.ulim _) (dN H.ulim _)))) (go4 ?_));refine sQ (aW (mM O O) (congrArg (Value.int .i64) (rA (b:=1) O oo_ oo_))) O (sQ (eJ arT O O oo_ oo_) O (sQ (dD tyT O mm_ (rE oo_)) O ?_));refine sQ (aW (dA fX eV O) (uJ (dN H.vlim _))) O (go3 ?_);refine qH (sk s0) 8 [] [] (go2 ?_);refine pQ O (aW (qR O O (by have:=G.f0;omega)) (congrArg (Value.int .u64) (bu_ (by have:=G.topLt;have:=G.f1;omega)))) (go2 ?_);refine pQ O (aW (pT O O (by have:=G.f0;omega)) (congrArg (Value.int .u64) (y7 _ _))) (go5 ?_);refine bP (rg [11,12] 43 33) (fun g nn M=>∃ (d rest:Nat),(g 11 = .int .u64 (d:Int)∧g 12 = .int .u64 (rest:Int))∧M=[⟨b5,25,uw vs⟩]∧nn=d∧(GI (vs.getD (n - 1) 0) (us.getD (j+n) 0*4294967296+us.getD (j+n - 1) 0) (val us / (val vs*4294967296 ^ j)) d rest)) ((us.getD (j+n) 0*4294967296+us.getD (j+n - 1) 0) / vs.getD (n - 1) 0) ?start ?round
 case start =>
  refine ⟨_,(List.Sublist.refl _),_,_,⟨?a11,?a12⟩,?mem0,rfl,GI.start G⟩
  case mem0=>rfl
  case a11=>rfl
  case a12=>rfl
 case round =>
  rintro nn g M ⟨d,rest,⟨hg11,hg12⟩,rfl,hmeas,hG⟩;subst nn;refine gS2 hg11 hg12 ?_;clear hg11 hg12;refine go2 ?_;refine gdr (sk s0) [0,4,8,12,16,20,24,28,32,36,40,44,48,52,56,60,64,68,72,76,80,84,88,92,96,100,104,108] [] mix (by kernel_rfl) (go3 ?_)
  cases h2:decide ((rest:Int)<4294967296)
  ·refine gh_ ?_;refine rt1 ?_;exact ⟨d,rfl,IC H hG (.inl (by have:=of_decide_eq_false h2;omega))⟩
  refine go3 ?_
  cases h5:decide ((4294967296:Int)≤(d:Int))
  ·refine go2 ?_;refine pQ O (aW (mM O O) (congrArg (Value.int .i64) (rA (b:=2) O oo_ oo_))) (pQ O (eJ arT O O oo_ oo_) (pQ O (dD tyT O mm_ (rE oo_)) ?_));refine pQ O (aW (dA fX eV O) (uJ (dN H.vlim _))) (pQ O (aW (SK O O) (congrArg (Value.int .u64) (R9 (R5 (by have:=of_decide_eq_false h5;omega) (dN H.vlim _))))) (go_ ?_));refine pQ O (aW (BK O O dd_) (congrArg (Value.int .u64) (uY (by have:=of_decide_eq_true h2;omega)))) (go3 ?_);refine pQ O (aW (hZ O O) (congrArg (Value.int .i64) (mJ oo_))) (pQ O (aW (mM O O) (congrArg (Value.int .i64) (rA (b:=2) O oo_ oo_))) (go_ ?_));refine pQ O (eJ arT O O oo_ oo_) (pQ O (EH tyT O hbu zz_ (rE oo_)) ?_);refine pQ O (aW (dA fX eV O) (uJ (dN H.ulim _))) (pQ O (aW (K0 O O) (congrArg (Value.int .u64) (N2 (by have:=of_decide_eq_true h2;omega) (dN H.ulim _)))) (go4 ?_));refine aQ _ O (fun h68=>?_) (fun h68=>?_)
   ·replace h68:=cB_ h68
    refine go3 ?_;have hmore:=GI.more G hG (by have:=of_decide_eq_true h2;omega) (by first|exact .inl (by have:=of_decide_eq_true h5;omega)|exact .inr (by exact_mod_cast h68));refine go_ ?_;refine sQ (aW (mM O O) (congrArg (Value.int .u64) (GN O hmore.1 (by have:=GI.dlt G hG;omega)))) O (go5 ?_);refine sQ (aW (hZ O O) (congrArg (Value.int .u64) (JJ (by have:=hG.rlt;have:=G.f1;omega)))) O (go2 ?_);refine ⟨pp_,_,_,(List.Sublist.refl _),(by have:=hmore.1;omega),d - 1,rest+vs.getD (n - 1) 0,⟨?s11,?s12⟩,?mem,rfl,hmore.2⟩
    case mem=>rfl
    case s11=>rfl
    case s12=>rfl
   replace h68:=cB_ h68
   refine go6 ?_;refine rt1 ?_;exact ⟨d,rfl,IC H hG (.inr ⟨by have:=of_decide_eq_false h5;omega,by have h69:=Int.not_lt.1 h68;exact_mod_cast h69⟩)⟩
  refine eV_ ?_;have hmore:=GI.more G hG (by have:=of_decide_eq_true h2;omega) (by first|exact .inl (by have:=of_decide_eq_true h5;omega)|exact .inr (by exact_mod_cast h68));refine go_ ?_;refine sQ (aW (mM O O) (congrArg (Value.int .u64) (GN O hmore.1 (by have:=GI.dlt G hG;omega)))) O (go5 ?_);refine sQ (aW (hZ O O) (congrArg (Value.int .u64) (JJ (by have:=hG.rlt;have:=G.f1;omega)))) O (go2 ?_);refine ⟨pp_,_,_,(List.Sublist.refl _),(by have:=hmore.1;omega),d - 1,rest+vs.getD (n - 1) 0,⟨?s11,?s12⟩,?mem,rfl,hmore.2⟩
  case mem=>rfl
  case s11=>rfl
  case s12=>rfl
theorem G7 (us vs:List Nat) (n j d:Nat) (hu:us.length=17) (lu:Lim us) (hv:vs.length=16) (lv:Lim vs) (hV:val vs<4294967296 ^ n) (hjn:j+n≤16) (hsm:val us<4294967296 ^ (j+n+1)) (hd:d<4294967296) (bu T:Nat) (w:World) (hbu:w.heap[bu]? = some (.cells (uw us).toArray T (0,0))) :
    Calls prog 191 [.pointer (some ⟨bu,0,none⟩),UV vs,.int .i64 (n:Int),.int .i64 (j:Int),.int .u64 (d:Int)].toArray w (fun e w'=>∃ x:List Nat×Nat,e = .returned (.bool (((x.2:Nat):Int)==1))∧ExtX [bu] w w'∧w'.heap[bu]? = some (.cells (uw x.1).toArray T (0,0))∧Took us (val vs) d j n x):=by
 refine MU (N:=78) (g:=fun x:List Nat×Nat=>.bool (((x.2:Nat):Int)==1)) (cs':=fun x:List Nat×Nat=>uw x.1) (Q:=fun x:List Nat×Nat=>Took us (val vs) d j n x) func191 O O zz_ hbu ?_;obtain ⟨w0,rfl⟩:=nm w;refine giI ?_;refine go_ ?_;refine aZ O (i7 O O (fun b6 hb6=>T5 ?_));refine bP (rg [11,12,13,14] 17 38) (fun g nn M=>∃ (i:Nat) (l:List Nat) (c bo:Nat),(g 11 = .int .u64 (c:Int)∧g 12 = .int .u64 (bo:Int)∧g 17 = .int .i64 (i:Int))∧M=[⟨b6,25,uw vs⟩,⟨bu,T,uw l⟩]∧nn=n - i∧(i≤n∧TakeIn us (val vs) d j i l c bo)) (n - 0) ?start ?round
 case start =>
  refine ⟨_,(List.Sublist.refl _),0,us,0,0,⟨?a11,?a12,?a17⟩,?mem0,rfl,⟨Nat.zero_le _,TakeIn.start hu lu _ _ _⟩⟩
  case mem0=>rfl
  case a11=>rfl
  case a12=>rfl
  case a17=>rfl
 case round =>
  rintro nn g M ⟨i,l,c,bo,⟨hg11,hg12,hg17⟩,rfl,hmeas,⟨hi,hT⟩⟩;subst nn;refine gS3 hg11 hg12 hg17 ?_;clear hg11 hg12 hg17;refine go4 ?_;refine aQ _ O (fun hc=>?_) (fun hc=>?_)
  ·replace hc:=cB_ hc
   have hc:i<n:=by omega
   refine vL ?_;refine sQ (eJ arT O O oo_ oo_) O (sQ (dD tyT O mm_ (rE oo_)) O ?_);refine sQ (dA fX eV O) O (go_ ?_);refine sQ (aW (hZ O O) (congrArg (Value.int .u64) (ed_ hT.clt hd (dN lv i)))) O (go6 ?_);refine sQ (aW (hZ O O) (congrArg (Value.int .i64) (mJ oo_))) O (go_ ?_);refine sQ (eJ arT O O oo_ oo_) O (sQ (dD tyT O mm_ (rE (by rw [hT.len];omega))) O ?_);refine sQ (dA fX eV O) O (go_ ?_);refine sQ (aW (dA eV fX O) (mV _)) O (sQ (dA fX eV O) O (go2 ?_));refine sQ (aW (mM O O) (congrArg (Value.int .u64) (cr_ hT.ble (dN hT.lim _) (Nat.mod_lt _ dd_)))) O (go6 ?_);refine sQ (aW (hZ O O) (congrArg (Value.int .i64) (mJ oo_))) O (go_ ?_);refine sQ (aW (dA eV fX O) (mV _)) O (go_ ?_);refine sQ (eJ arT O O oo_ oo_) O (aZ O (lX tyT O O uu_ (by rw [hT.len];omega) (by first|exact .inl e6|exact .inr (List.mem_singleton.2 O)) ?_));refine go3 ?_;refine sQ (aW (r7 O O dd_) (congrArg (Value.int .u64) (oW _ 63))) O (go4 ?_);refine sQ (aW (r7 O O dd_) (congrArg (Value.int .u64) (oW _ 32))) O (go3 ?_);refine sQ (aW (hZ O O) (congrArg (Value.int .i64) (i4 oo_))) O (go2 ?_);refine ⟨pp_,_,_,(List.Sublist.refl _),oo_,i+1,_,_,_,⟨?s11,?s12,?s17⟩,?mem,rfl,⟨by omega,QW hT lv oo_ hd⟩⟩
   case mem=>rfl
   case s11=>rfl
   case s12=>rfl
   case s17=>rfl
  replace hc:=cB_ hc
  obtain rfl:n=i:=by omega
  refine go5 ?_;refine sQ (aW (hZ O O) (congrArg (Value.int .i64) (mJ oo_))) O (go_ ?_);refine sQ (eJ arT O O oo_ oo_) O (sQ (dD tyT O mm_ (rE (by rw [hT.len];omega))) O ?_);refine sQ (dA fX eV O) O (go3 ?_);refine sQ (aW (mM O O) (congrArg (Value.int .u64) (eb_ hT.ble (dN hT.lim _) hT.clt))) O (go6 ?_);refine sQ (aW (hZ O O) (congrArg (Value.int .i64) (mJ oo_))) O (go_ ?_);refine sQ (aW (dA eV fX O) (mV _)) O (go_ ?_);refine sQ (eJ arT O O oo_ oo_) O (aZ O (lX tyT O O uu_ (by rw [hT.len];omega) (by first|exact .inl e6|exact .inr (List.mem_singleton.2 O)) ?_));refine go3 ?_;refine sQ (aW (r7 O O dd_) (congrArg (Value.int .u64) (oW _ 63))) O (go4 ?_);refine rt1 ?_;exact ⟨(_,_),rfl,by first|exact .tail _ (.head _)|exact .head _,TakeIn.took hT oo_ hV lu hsm⟩
theorem G5 (us vs:List Nat) (n j:Nat) (hu:us.length=17) (lu:Lim us) (hv:vs.length=16) (lv:Lim vs) (hV:val vs<4294967296 ^ n) (hjn:j+n≤16) (hsm:val us<4294967296 ^ (j+n+1)) (bu T:Nat) (w:World) (hbu:w.heap[bu]? = some (.cells (uw us).toArray T (0,0))) :
    Calls prog 192 [.pointer (some ⟨bu,0,none⟩),UV vs,.int .i64 (n:Int),.int .i64 (j:Int)].toArray w (fun e w'=>∃ x:List Nat,e = .returned (.tuple #[])∧ExtX [bu] w w'∧w'.heap[bu]? = some (.cells (uw x).toArray T (0,0))∧Gave us (val vs) j n x):=by
 refine MU (N:=52) (g:=fun x:List Nat=>.tuple #[]) (cs':=fun x:List Nat=>uw x) (Q:=fun x:List Nat=>Gave us (val vs) j n x) func192 O O zz_ hbu ?_;obtain ⟨w0,rfl⟩:=nm w;refine giI ?_;refine go_ ?_;refine aZ O (i7 O O (fun b5 hb5=>o2 ?_));refine bP (rg [8,9] 11 29) (fun g nn M=>∃ (i:Nat) (l:List Nat) (c:Nat),(g 8 = .int .u64 (c:Int)∧g 11 = .int .i64 (i:Int))∧M=[⟨b5,25,uw vs⟩,⟨bu,T,uw l⟩]∧nn=n - i∧(i≤n∧GiveIn us (val vs) j i l c)) (n - 0) ?start ?round
 case start =>
  refine ⟨_,(List.Sublist.refl _),0,us,0,⟨?a8,?a11⟩,?mem0,rfl,⟨Nat.zero_le _,GiveIn.start hu lu _ _⟩⟩
  case mem0=>rfl
  case a8=>rfl
  case a11=>rfl
 case round =>
  rintro nn g M ⟨i,l,c,⟨hg8,hg11⟩,rfl,hmeas,⟨hi,hT⟩⟩;subst nn;refine gS2 hg8 hg11 ?_;clear hg8 hg11;refine go4 ?_;refine aQ _ O (fun hc=>?_) (fun hc=>?_)
  ·replace hc:=cB_ hc
   have hc:i<n:=by omega
   refine go8 ?_;refine qH (sk (sk s0)) 16 [] [] (go4 ?_);refine pQ O (aW (hZ O O) (congrArg (Value.int .i64) (mJ oo_))) (go_ ?_);refine pQ O (eJ arT O O oo_ oo_) (pQ O (dD tyT O mm_ (rE (by rw [hT.len];omega))) ?_);refine pQ O (dA fX eV O) (go_ ?_);refine pQ O (eJ arT O O oo_ oo_) (pQ O (dD tyT O mm_ (rE oo_)) ?_);refine pQ O (dA fX eV O) (go_ ?_);refine pQ O (aW (hZ O O) (congrArg (Value.int .u64) (dn_ hT.cle (dN hT.lim _) (dN lv i)))) (go6 ?_);refine sQ (aW (hZ O O) (congrArg (Value.int .i64) (mJ oo_))) O (go_ ?_);refine sQ (aW (dA eV fX O) (mV _)) O (go_ ?_);refine sQ (eJ arT O O oo_ oo_) O (aZ O (lX tyT O O uu_ (by rw [hT.len];omega) (by first|exact .inl e6|exact .inr (List.mem_singleton.2 O)) ?_));refine go3 ?_;refine sQ (aW (r7 O O dd_) (congrArg (Value.int .u64) (oW _ 32))) O (go3 ?_);refine sQ (aW (hZ O O) (congrArg (Value.int .i64) (i4 oo_))) O (go2 ?_);refine ⟨pp_,_,_,(List.Sublist.refl _),oo_,i+1,_,_,⟨?s8,?s11⟩,?mem,rfl,⟨by omega,PU hT lv oo_⟩⟩
   case mem=>rfl
   case s8=>rfl
   case s11=>rfl
  replace hc:=cB_ hc
  obtain rfl:n=i:=by omega
  refine go_ ?_;refine qH (sk (sd s0)) 13 [12] [12] (go3 ?_);refine pQ O (aW (hZ O O) (congrArg (Value.int .i64) (mJ oo_))) (go_ ?_);refine pQ O (eJ arT O O oo_ oo_) (pQ O (dD tyT O mm_ (rE (by rw [hT.len];omega))) ?_);refine go_ ?_;refine pQ O (dA eV fX O) (pQ O (aW (hZ O O) (dm_ (dN hT.lim _) hT.cle)) (go_ ?_));refine pQ O (eJ arT O O oo_ oo_) ?_;refine fP O O (lX tyT O O uu_ (by rw [hT.len];omega) (by first|exact .inl e6|exact .inr (List.mem_singleton.2 O)) ⟨nf,ss_,?_⟩);refine go_ ?_;refine DS O (.inl O) ?_;exact ⟨_,rfl,by first|exact .tail _ (.head _)|exact .head _,GiveIn.gave hT oo_ hV lu hsm⟩
theorem IF (x:Nat) (hx:x<4294967296) :
    Ret prog 197 [U32 x] (.int .i64 ((bl x:Nat):Int)):=by
 refine bU (N:=19) func197 O O zz_ (fun w0=>?_);refine giI ?_;refine go8 ?_;refine aQ _ O (fun h1=>?_) (fun h1=>?_)
 ·replace h1:=cB_ h1
  refine go2 ?_;refine sQ (aW (r7 O O dd_) (LM x 16)) O (o2 ?_);refine aQ _ O (fun h2=>?_) (fun h2=>?_)
  ·replace h2:=cB_ h2
   refine go2 ?_;refine sQ (aW (r7 O O dd_) (LM _ 8)) O (o2 ?_);refine sQ (aW (dA fX NO O) (TE oo_)) O (sQ (KY (n:=256) bl bC_ O O oo_ (by decide +kernel)) O (sQ (aW (dA NO sL O) (D2 oo_)) O (go4 ?_)));refine rt1 ?_;exact EB (c:=24) O dd_ oo_ (by rw [xP (k:=16) oo_,xP (n:=x / 2 ^ 16) (k:=8) oo_];omega)
  replace h2:=cB_ h2
  refine go4 ?_;refine sQ (aW (dA fX NO O) (TE oo_)) O (sQ (KY (n:=256) bl bC_ O O oo_ (by decide +kernel)) O (sQ (aW (dA NO sL O) (D2 oo_)) O (go4 ?_)));refine rt1 ?_;exact EB (c:=16) O dd_ oo_ (by rw [xP (k:=16) oo_])
 replace h1:=cB_ h1
 refine go6 ?_;refine aQ _ O (fun h2=>?_) (fun h2=>?_)
 ·replace h2:=cB_ h2
  refine go2 ?_;refine sQ (aW (r7 O O dd_) (LM _ 8)) O (o2 ?_);refine sQ (aW (dA fX NO O) (TE oo_)) O (sQ (KY (n:=256) bl bC_ O O oo_ (by decide +kernel)) O (sQ (aW (dA NO sL O) (D2 oo_)) O (go4 ?_)));refine rt1 ?_;exact EB (c:=8) O dd_ oo_ (by rw [xP (k:=8) oo_])
 replace h2:=cB_ h2
 refine go4 ?_;refine sQ (aW (dA fX NO O) (TE oo_)) O (sQ (KY (n:=256) bl bC_ O O oo_ (by decide +kernel)) O (sQ (aW (dA NO sL O) (D2 oo_)) O (go4 ?_)));refine rt1 ?_;exact EB (c:=0) O dd_ oo_ oo_
theorem X9 (x:Nat) (hx:x<4294967296) :
  Ret prog 188 [U32 x] (.int .i64 ((32 - bl x:Nat):Int)):=by
 refine bU (N:=6) func188 O O zz_ (fun w0=>?_);refine giI ?_;refine go5 ?_;refine sQ (bR aM (IF x hx) O) O (go4 ?_);refine rt1 ?_;exact congrArg (Value.int .i64) (dw_ hx)
theorem B3 (xs:List Nat) (hx:xs.length=16) (lx:Lim xs) (n:Nat) (hn:n<32) :
    Ret prog 189 [UV xs,.int .i64 (n:Int)] (.tuple #[UV (toL 16 (val xs*2 ^ n)),U32 (val xs*2 ^ n / 4294967296 ^ 16)]):=by
 refine bU (N:=30) func189 O O zz_ (fun w0=>?_);refine giI ?_;refine go_ ?_;refine aZ O (i7 O O (fun b2 hb2=>aZ O (eB oA (fun b4 hb4=>go3 ?_))));refine aZ O (eB oA (fun b6 hb6=>go9 ?_));refine bP (rg [] 7 20) (fun g nn M=>∃ (k:Nat),(g 7 = .int .u64 ((mc (val xs) (2 ^ n) k:Nat):Int)∧g 9 = .int .i64 (k:Int))∧M=[⟨b6,25,uw (vE k (val xs*2 ^ n) 16)⟩,⟨b4,25,uw (List.replicate 16 0)⟩,⟨b2,25,uw xs⟩]∧nn=16 - k∧(k≤16)) (16) ?start ?round
 case start =>
  refine ⟨_,(List.Sublist.refl _),0,⟨?a7,?a9⟩,?mem0,rfl,Nat.zero_le _⟩
  case mem0=>rw [wH]
  case a7=>rw [ba_];rfl
  case a9=>rfl
 case round =>
  rintro nn g M ⟨k,⟨hg7,hg9⟩,rfl,hmeas,hk⟩;subst nn;refine gS2 hg7 hg9 ?_;clear hg7 hg9;refine go4 ?_;refine aQ _ O (fun hc=>?_) (fun hc=>?_)
  ·replace hc:=cB_ hc
   have hc:k<16:=by omega
   refine o2 ?_;refine sQ (eJ arT O O oo_ oo_) O (sQ (dD tyT O mm_ (rE oo_)) O ?_);refine sQ (dA fX eV O) O (go_ ?_);refine sQ (aW (BK O O oo_) (congrArg (Value.int .u64) (bz_ (dN lx k) oo_))) O (sQ (aW (K0 O O) (congrArg (Value.int .u64) (fM_ (ca_ (m:=2 ^ n) _ k (Nat.pow_pos dd_)) (dN lx k) hn))) O (go5 ?_));refine sQ (aW (dA eV fX O) (mV _)) O (sQ (eJ arT O O oo_ oo_) O (aZ O (lX tyT O O uu_ (by rw [iN _ hk];exact hc) (.inl e6) ?_)));refine go3 ?_;refine sQ (aW (r7 O O dd_) (congrArg (Value.int .u64) (oW _ 32))) O (go6 ?_);refine ⟨pp_,_,_,(List.Sublist.refl _),oo_,k+1,⟨?s7,?s9⟩,?mem,rfl,oo_⟩
   case mem=>rw [eM xs k lx,YE,vF _ hc]
   case s7=>exact congrArg (fun m:Nat=>Value.int .u64 (m:Int)) (by rw [eM xs k lx];exact YD _ _ _)
   case s9=>exact congrArg (Value.int .i64) (i4 oo_)
  replace hc:=cB_ hc
  obtain rfl:k=16:=by omega
  refine go2 ?_;refine sQ (cC tyT O mm_ (by simp [uw,iN])) O ?_;refine go_ ?_;refine sQ (aW (dA eV fX O) (mV _)) O (aZ O (bN tyT O O uu_ (by simp [uw,iN]) O (gU _) (.inl e6) ?_));refine go3 ?_;refine sO O (.inr O) ⟨_,_,_,_,_,_,rfl,mm_,tyT,_,(dO (by simp [uw,iN])),(by simp [uw,iN]),rfl⟩ O ?_
  (rw [yW,e2_ hx lx,Nat.mod_eq_of_lt (TF hx lx hn)];rfl)
theorem G4 (xs:List Nat) (hx:xs.length=16) (lx:Lim xs) (n:Nat) (hn:n<32) :
    Ret prog 193 [UV xs,.int .i64 (n:Int)] (UV (toL 16 (val xs / 2 ^ n))):=by
 refine bU (N:=33) func193 O O zz_ (fun w0=>?_);refine giI ?_;refine go_ ?_;refine aZ O (i7 O O (fun b2 hb2=>aZ O (eB oA (fun b4 hb4=>go2 ?_))));refine aZ O (eB oA (fun b5 hb5=>go6 ?_));refine bP (rg [] 6 26) (fun g nn M=>∃ (k:Nat),(g 8 = .int .i64 (k:Int))∧M=[⟨b5,25,uw (vE k (val xs / 2 ^ n) 16)⟩,⟨b4,25,uw (List.replicate 16 0)⟩,⟨b2,25,uw xs⟩]∧nn=16 - k∧(k≤16)) (16) ?start ?round
 case start =>
  refine ⟨_,(List.Sublist.refl _),0,?a8,?mem0,rfl,Nat.zero_le _⟩
  case mem0=>rw [wH]
  case a8=>rfl
 case round =>
  rintro nn g M ⟨k,hg8,rfl,hmeas,hk⟩;subst nn;refine gS1 hg8 ?_;clear hg8;refine go4 ?_;refine aQ _ O (fun hc=>?_) (fun hc=>?_)
  ·replace hc:=cB_ hc
   have hc:k<16:=by omega
   refine KG ?_;refine sQ (aW (hZ O O) (congrArg (Value.int .i64) (i4 oo_))) O (go2 ?_);refine aQ _ O (fun h13=>?_) (fun h13=>?_)
   ·replace h13:=cB_ h13
    refine go2 ?_;refine sQ (aW (hZ O O) (congrArg (Value.int .i64) (i4 oo_))) O (sQ (eJ arT O O oo_ oo_) O (sQ (dD tyT O mm_ (rE oo_)) O ?_));refine sQ (aW (dA fX eV O) (congrArg (Value.int .u64) (jO (dN lx _)))) O (go4 ?_);refine sQ (aW (jA O) (show _=Value.int .u64 ((dig (val xs) (k+1):Nat):Int) from by first|exact congrArg (fun m:Nat=>Value.int .u64 (m:Int)) (eM xs (k+1) lx)|exact congrArg (fun m:Nat=>Value.int .u64 (m:Int)) (MZ hx lx oo_).symm)) O ?_;refine sQ (aW (BK O O dd_) (congrArg (Value.int .u64) (uY (oG _ _)))) O (go_ ?_);refine sQ (eJ arT O O oo_ oo_) O (sQ (dD tyT O mm_ (rE oo_)) O ?_);refine sQ (aW (dA fX eV O) (congrArg (Value.int .u64) ((jO (dN lx _)).trans (by rw [eM xs k lx])))) O (sQ (aW (K0 O O) (congrArg (Value.int .u64) (D6 (oG _ _) (oG _ _)))) O (go_ ?_));refine sQ (aW (r7 O O oo_) (congrArg (Value.int .u64) (cp_ hn))) O (sQ (aW (dA eV fX O) (mV _)) O (sQ (eJ arT O O oo_ oo_) O (aZ O (lX tyT O O uu_ (by rw [iN _ hk];exact hc) (.inl e6) ?_))));refine go5 ?_;refine ⟨pp_,_,_,(List.Sublist.refl _),oo_,k+1,?s8,?mem,rfl,oo_⟩
    case mem=>rw [E5 k oo_,vF _ hc]
    case s8=>exact congrArg (Value.int .i64) (i4 oo_)
   replace h13:=cB_ h13
   refine go3 ?_;refine sQ (aW (jA O) (show _=Value.int .u64 ((dig (val xs) (k+1):Nat):Int) from by first|exact congrArg (fun m:Nat=>Value.int .u64 (m:Int)) (eM xs (k+1) lx)|exact congrArg (fun m:Nat=>Value.int .u64 (m:Int)) (MZ hx lx oo_).symm)) O ?_;refine sQ (aW (BK O O dd_) (congrArg (Value.int .u64) (uY (oG _ _)))) O (go_ ?_);refine sQ (eJ arT O O oo_ oo_) O (sQ (dD tyT O mm_ (rE oo_)) O ?_);refine sQ (aW (dA fX eV O) (congrArg (Value.int .u64) ((jO (dN lx _)).trans (by rw [eM xs k lx])))) O (sQ (aW (K0 O O) (congrArg (Value.int .u64) (D6 (oG _ _) (oG _ _)))) O (go_ ?_));refine sQ (aW (r7 O O oo_) (congrArg (Value.int .u64) (cp_ hn))) O (sQ (aW (dA eV fX O) (mV _)) O (sQ (eJ arT O O oo_ oo_) O (aZ O (lX tyT O O uu_ (by rw [iN _ hk];exact hc) (.inl e6) ?_))));refine go5 ?_;refine ⟨pp_,_,_,(List.Sublist.refl _),oo_,k+1,?s8,?mem,rfl,oo_⟩
   case mem=>rw [E5 k oo_,vF _ hc]
   case s8=>exact congrArg (Value.int .i64) (i4 oo_)
  replace hc:=cB_ hc
  obtain rfl:k=16:=by omega
  refine go2 ?_;refine sQ (cC tyT O mm_ (by simp [uw,iN])) O ?_;refine aZ O (bN tyT O O uu_ (by simp [uw,iN]) O (gU _) (.inl e6) ?_);refine go2 ?_;refine rtX O ⟨_,_,_,_,_,_,rfl,mm_,tyT,_,(dO (by simp [uw,iN])),(by simp [uw,iN]),rfl⟩ ?_
  (rw [yW];rfl)
theorem DW (xs:List Nat) (hx:xs.length=16) (lx:Lim xs) (d:Nat) (hd:d<4294967296) (h0:0<d) :
    Ret prog 187 [UV xs,U32 d] (.tuple #[UV (toL 16 (val xs / d)),U32 (val xs % d)]):=by
 refine bU (N:=33) func187 O O zz_ (fun w0=>?_);refine giI ?_;refine go_ ?_;refine aZ O (i7 O O (fun b2 hb2=>aZ O (eB oA (fun b4 hb4=>o2 ?_))));refine bP (rg [] 6 24) (fun g nn M=>∃ (k:Nat),(g 6 = .int .u64 ((val xs / 4294967296 ^ k % d:Nat):Int)∧g 7 = .int .i64 ((k:Int) - 1))∧M=[⟨b4,25,uw (uS k (val xs / d))⟩,⟨b2,25,uw xs⟩]∧nn=k+0∧(k≤16)) (16) ?start ?round
 case start =>
  refine ⟨_,(List.Sublist.refl _),16,⟨?a6,?a7⟩,?mem0,rfl,Nat.le_refl _⟩
  case mem0=>rw [T7]
  case a6=>rw [eJ_ hx lx];rfl
  case a7=>rfl
 case round =>
  rintro nn g M ⟨k,⟨hg6,hg7⟩,rfl,hmeas,hk⟩;subst nn;refine gS2 hg6 hg7 ?_;clear hg6 hg7;refine go5 ?_;refine aQ _ O (fun hc=>?_) (fun hc=>?_)
  ·replace hc:=cB_ hc
   obtain ⟨m,rfl⟩:∃ m,k=m+1:=⟨k - 1,by omega⟩;have hr:val xs / 4294967296 ^ (m+1) % d<4294967296:=Nat.lt_trans (Nat.mod_lt _ h0) hd;refine go4 ?_;refine sQ (aW (jA O) O) O (sQ (aW (BK O O dd_) (congrArg (Value.int .u64) (uY hr))) O (sQ (aW (jA O) (congrArg (Value.int .i64) (show (((m+1:Nat):Int) - 1)=(m:Int) by omega))) O (sQ (eJ arT O O oo_ oo_) O (sQ (dD tyT O mm_ (rE oo_)) O ?_))));refine sQ (aW (dA fX eV O) (congrArg (Value.int .u64) ((jO (dN lx _)).trans (by rw [eM xs m lx])))) O (sQ (aW (K0 O O) (congrArg (Value.int .u64) (D6 hr (oG _ _)))) O (go3 ?_));refine sQ (aW (jA O) (congrArg (Value.int .i64) (show (((m+1:Nat):Int) - 1)=(m:Int) by omega))) O (go2 ?_);refine sQ (aW (dA fX eV O) (congrArg (Value.int .u64) (jO hd))) O (sQ (aW (qR O O oo_) (congrArg (Value.int .u64) (SM _ _))) O (sQ (aW (dA eV fX O) (mV _)) O (sQ (eJ arT O O oo_ oo_) O (aZ O (lX tyT O O uu_ (by rw [lR _ oo_];omega) (.inl e6) ?_)))));refine go4 ?_;refine sQ (aW (dA fX eV O) (congrArg (Value.int .u64) (jO hd))) O (sQ (aW (pT O O oo_) (congrArg (Value.int .u64) (y7 _ _))) O (go3 ?_));refine sQ (aW (jA O) (congrArg (Value.int .i64) (show (((m+1:Nat):Int) - 1)=(m:Int) by omega))) O (go3 ?_);refine ⟨pp_,_,_,(List.Sublist.refl _),oo_,m,⟨?s6,?s7⟩,?mem,rfl,oo_⟩
   case mem=>rw [QS m h0,CG oo_]
   case s6=>exact congrArg (fun m:Nat=>Value.int .u64 (m:Int)) (DM m h0).2
   case s7=>exact congrArg (Value.int .i64) (bQ (n:=(m:Int) - 1) (by unfold I64;omega))
  replace hc:=cB_ hc
  obtain rfl:k=0:=by omega
  refine go2 ?_;refine sQ (cC tyT O mm_ (by simp [uw,lR])) O ?_;refine go_ ?_;refine sQ (aW (dA eV fX O) (mV _)) O (aZ O (bN tyT O O uu_ (by simp [uw,lR]) (by simp [uw,lR]) (gU _) (.inl e6) ?_));refine go3 ?_;refine sO O (.inr O) ⟨_,_,_,_,_,_,rfl,mm_,tyT,_,(dO (by simp [uw,lR])),(by simp [uw,lR]),rfl⟩ O ?_
  (rw [ID,Nat.pow_zero,Nat.div_one,Nat.mod_eq_of_lt (Nat.lt_trans (Nat.mod_lt _ h0) hd)];rfl)
end Go.Proofs.YtokjfhfiodopdaaGreat
