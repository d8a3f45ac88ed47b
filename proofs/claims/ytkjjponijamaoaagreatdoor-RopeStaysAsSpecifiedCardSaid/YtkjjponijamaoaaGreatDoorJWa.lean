/- Lemmas: what they ask stands in their statements. -/
import Derived.Test.YtkjjponijamaoaaGreatDoorJGE
set_option linter.unusedSimpArgs false
set_option linter.unusedVariables false
set_option maxHeartbeats 8000000
set_option maxRecDepth 20000
namespace Go.Proofs.YtkjjponijamaoaaGreatDoor
open Go.Kn Go.Num Tryz
attribute [local irreducible] Go.Kn.W WL PL OpQ OpR OpS
theorem tK (r:R) (h:r.Ok) :
    Ret prog 203 [RV r] (.bool r.valid):=by
 refine bG (N:=23) func203 O O zz_ (fun w0=>?_);refine giI ?_;refine go_ ?_;refine aZ O (kV O O (fun b1 hb1=>go3 ?_));refine sQ (cB fdT dd_ O) O (sQ (jU (vs:=uw r.w) tyT O mm_ (mU h.len) ((i6 _).trans h.len)) O ?_);refine sQ (qT rB arT O (.nil _)) O ?_;refine sQ (tM (r:=r.zero) O O (mS 8 dd_ HY IA (pF h.len) (pF zz_) h.zero_iff)) O ?_;refine go4 ?_;refine sQ (cB fdT dd_ O) O (sQ (dR tyT O mm_ O) O ?_);refine go_ ?_;refine aH _ O (fun hb=>?_) (fun hb=>?_)
 ·replace hb:=cB_ hb
  refine go3 ?_
  cases hz:r.zero
  ·refine go7 ?_;refine rt1 ?_
   simp [R.valid, *]
  refine sQ (cB fdT dd_ O) O (sQ (dR tyT O mm_ O) O ?_);refine go5 ?_;refine rt1 ?_
  simp [R.valid, *]
 replace hb:=cB_ hb
 refine go5 ?_
 cases hz:r.zero
 ·refine go7 ?_;refine rt1 ?_
  simp [R.valid, *]
 refine sQ (cB fdT dd_ O) O (sQ (dR tyT O mm_ O) O ?_);refine go5 ?_;refine rt1 ?_
 simp [R.valid, *]
theorem fS  :
  Ret prog 77 [] (RV Z.bad.enc):=by
 refine bG (N:=2) func77 O O zz_ (fun w0=>?_);refine giI ?_;refine go_ ?_;refine aZ O (eM jP (fun b0 hb0=>go2 ?_));refine sQ (xN jP plT O (.cons O (vs:=[.bool true]) O O (by simp [zR]) (z':=Z.bad.enc.cells) O (.nil _))) O ?_;refine aZ O (bN tyT O O uu_ O O (bI Z.bad.enc) (.inl fR) ?_);refine go2 ?_;refine rtX O ⟨_,_,_,_,_,_,rfl,mm_,tyT,_,(dI O),rfl,rfl⟩ ?_;exact rfl
theorem fD (neg:Bool) (w:List Nat) (hw:w.length=16) (hlim:Lim w) :
   Ret prog 121 [.bool neg,UV w] (RV ⟨false,neg && !(val w==0),w⟩):=by
 refine bG (N:=13) func121 O O zz_ (fun w0=>?_);refine giI ?_
 have hlw:(uw w).length=16:=by rw [i6,hw]
 refine go_ ?_;refine aZ O (kV O O (fun b3 hb3=>aZ O (eM jP (fun b4 hb4=>go2 ?_))));refine kU (sd (sk s0)) 9 [8] [8] (go2 ?_)
 cases neg
 ·refine go4 ?_;refine pQ O (cA tyT O mm_ hlw) ?_;refine pQ O (xN jP plT O (WG hw)) ?_;refine bP O O (bN tyT O O uu_ (by simp [R.cells,hlw]) O (bI _) (.inl fR) ⟨nf,ss_,?_⟩);refine go2 ?_;refine rtX O ⟨_,_,_,_,_,_,rfl,mm_,tyT,_,(dI (by simp [R.cells,hlw])),(by simp [R.cells,hlw]),rfl⟩ ?_;rfl
 refine pQ O (cA tyT O mm_ hlw) ?_;refine pQ O (qT rB arT O (.nil _)) ?_;refine pQ O (AP (r:=(val w==0)) O O (mS 8 dd_ HY IA (pF hw) (pF zz_) (C5 hw hlim))) ?_;refine go_ ?_;refine pQ O (cA tyT O mm_ hlw) ?_;refine pQ O (xN jP plT O (WG hw)) ?_;refine bP O O (bN tyT O O uu_ (by simp [R.cells,hlw]) O (bI _) (.inl fR) ⟨nf,ss_,?_⟩);refine go2 ?_;refine rtX O ⟨_,_,_,_,_,_,rfl,mm_,tyT,_,(dI (by simp [R.cells,hlw])),(by simp [R.cells,hlw]),rfl⟩ ?_;rfl
theorem jE (rs:List R) (hrs:∀ r∈rs,r.Ok) (b T:Nat) (w:World) (hb:w.heap[b]? = some (.cells (rs.flatMap R.cells).toArray T (0,0))) (hn:rs.length≤1000) :
    Calls prog 119 [.slice (some ⟨b,0,none⟩) rs.length rs.length].toArray w (fun e w'=>e = .returned (.bool (rs.all R.good))∧Ext w w'):=by
 refine cM (N:=19) func119 O O zz_ ?_;obtain ⟨w0,rfl⟩:=nm w;refine giI ?_;refine go6 ?_;refine sQ (A8 nX O) O (go3 ?_);refine bX (rg [2,4] 7 12) (fun g nn M=>∃ (k:Nat),(g 7 = .int .i64 (k:Int))∧M=[]∧nn=rs.length - k∧(k≤rs.length∧(rs.take k).all R.good=true)) (rs.length - 0) ?start ?round
 case start =>
  refine ⟨_,(List.Sublist.refl _),0,?a7,?mem0,rfl,⟨Nat.zero_le _,rfl⟩⟩
  case mem0=>rfl
  case a7=>rfl
 case round =>
  rintro nn g M ⟨k,hg7,rfl,hmeas,⟨hk,hall⟩⟩;subst nn;refine gS1 hg7 ?_;clear hg7;refine go4 ?_;refine aH _ O (fun hc=>?_) (fun hc=>?_)
  ·replace hc:=cB_ hc
   obtain ⟨r,hr⟩:∃ r,rs[k]? = some r:=⟨_,List.getElem?_eq_getElem oo_⟩;have hrok:=hrs r (List.mem_of_getElem? hr);refine go4 ?_;refine sQ (rK nX O O oo_ oo_) O (sQ (PI (vs:=r.cells) tyT O hb zz_ (by rw [show (0+(k:Int).toNat*18)=k*18 by omega];exact EV R.cells 18 rs k r (fun y hy=>cC (hrs y hy)) hr) (cC hrok)) O ?_);refine aZ O (eM jP (fun b4 hb4=>aZ O (bN tyT O O uu_ (cC hrok) O (bI _) (.inl fR) ?_)));refine go2 ?_;refine sQ (cB fdT dd_ O) O (sQ (dR tyT O mm_ O) O ?_);refine go_ ?_
   cases hbad:r.bad
   ·refine sQ (cA tyT O mm_ (cC hrok)) O ?_;refine sQ (bE aB (tK r hrok) O) O (go3 ?_);refine aH _ O (fun hx=>?_) (fun hx=>?_)
    ·replace hx:=cB_ hx
     skip
     refine go4 ?_;refine rt1 ?_;exact congrArg Value.bool (D2 hr (by simp [R.good,hbad,hx]))
    replace hx:=cB_ hx
    skip
    refine go5 ?_;refine ⟨pp_,_,_,(List.Sublist.cons _ (List.Sublist.refl _)),oo_,k+1,?s7,?mem,rfl,⟨by omega,by rw [J0 oo_ hr];simp [hall,R.good,hbad,hx]⟩⟩
    case mem=>rfl
    case s7=>(show Value.int .i64 _=_;rw [bV (by unfold I64;omega)];rfl)
   refine j0 ?_;refine rt1 ?_;exact congrArg Value.bool (D2 hr (by simp [R.good,hbad]))
  replace hc:=cB_ hc
  have hke:k=rs.length:=by omega
  refine go5 ?_;refine rt1 ?_
  (subst hke;rw [List.take_length] at hall;exact congrArg Value.bool hall.symm)
theorem JJ (xs ys:List Nat) (hx:xs.length=16) (hy:ys.length=16) (lx:Lim xs) (ly:Lim ys) :
    Ret prog 122 [UV xs,UV ys] (.tuple #[UV (toL 16 (val xs+val ys)),.bool (((cy (val xs) (val ys) 16:Nat):Int)==0)]):=by
 refine bG (N:=33) func122 O O zz_ (fun w0=>?_);refine giI ?_;refine go_ ?_;refine aZ O (kV O O (fun b2 hb2=>aZ O (kV O O (fun b3 hb3=>aZ O (eM rB (fun b4 hb4=>go3 ?_))))));refine aZ O (eM rB (fun b6 hb6=>go9 ?_));refine bX (rg [] 7 23) (fun g nn M=>∃ (k:Nat),(g 7 = .int .u64 ((cy (val xs) (val ys) k:Nat):Int)∧g 9 = .int .i64 (k:Int))∧M=[⟨b6,29,uw (zF k (val xs+val ys) 16)⟩,⟨b4,29,uw (List.replicate 16 0)⟩,⟨b3,29,uw ys⟩,⟨b2,29,uw xs⟩]∧nn=16 - k∧(k≤16)) (16) ?start ?round
 case start =>
  refine ⟨_,(List.Sublist.refl _),0,⟨?a7,?a9⟩,?mem0,rfl,Nat.zero_le _⟩
  case mem0=>rw [AK]
  case a7=>rw [ZC];rfl
  case a9=>rfl
 case round =>
  rintro nn g M ⟨k,⟨hg7,hg9⟩,rfl,hmeas,hk⟩;subst nn;refine gS2 hg7 hg9 ?_;clear hg7 hg9;refine go4 ?_;refine aH _ O (fun hc=>?_) (fun hc=>?_)
  ·replace hc:=cB_ hc
   have hc:k<16:=by omega
   have hcy:=cW_ (val xs) (val ys) k;refine go8 ?_;refine kU (sk (sk (sk (sk s0)))) 12 [] [] (go2 ?_);refine pQ O (fL arT O O oo_ oo_) (pQ O (dR tyT O mm_ (vJ oo_)) ?_);refine pQ O (eX jA gI O) (go_ ?_);refine pQ O (fL arT O O oo_ oo_) (pQ O (dR tyT O mm_ (vJ oo_)) ?_);refine pQ O (eX jA gI O) (go_ ?_);refine pQ O (aY (j9 O O) (congrArg (Value.int .u64) (b3_ hcy (eH lx k) (eH ly k)))) (go5 ?_);refine sQ (aY (eX gI jA O) (qQ _)) O (sQ (fL arT O O oo_ oo_) O (aZ O (o8 tyT O O uu_ (by rw [kP _ hk];exact hc) (.inl fR) ?_)));refine go3 ?_;refine sQ (aY (wS O O dd_) (congrArg (Value.int .u64) (tB _ 32))) O (go6 ?_);refine ⟨pp_,_,_,(List.Sublist.refl _),oo_,k+1,⟨?s7,?s9⟩,?mem,rfl,oo_⟩
   case mem=>rw [fO xs k lx,fO ys k ly,RE,zG _ hc]
   case s7=>rw [← RD,← fO xs k lx,← fO ys k ly];rfl
   case s9=>exact congrArg (Value.int .i64) (bV (n:=(k:Int)+1) (by unfold I64;omega))
  replace hc:=cB_ hc
  obtain rfl:k=16:=by omega
  refine go2 ?_;refine sQ (cA tyT O mm_ (by simp [uw,kP])) O ?_;refine go2 ?_;refine aZ O (bN tyT O O uu_ (by simp [uw,kP]) O (jK _) (.inl fR) ?_);refine go3 ?_;refine qE O (.inr O) ⟨_,_,_,_,_,_,rfl,mm_,tyT,_,(dI (by simp [uw,kP])),(by simp [uw,kP]),rfl⟩ O ?_;rw [CR];rfl
theorem wQ (xs ys:List Nat) (hx:xs.length=16) (hy:ys.length=16) (lx:Lim xs) (ly:Lim ys) (hle:val ys≤val xs) :
    Ret prog 124 [UV xs,UV ys] (UV (toL 16 (val xs - val ys))):=by
 refine bG (N:=31) func124 O O zz_ (fun w0=>?_);refine giI ?_;refine go_ ?_;refine aZ O (kV O O (fun b2 hb2=>aZ O (kV O O (fun b3 hb3=>aZ O (eM rB (fun b4 hb4=>go2 ?_))))));refine aZ O (eM rB (fun b5 hb5=>go9 ?_));refine bX (rg [] 6 24) (fun g nn M=>∃ (k:Nat),(g 6 = .int .u64 ((bw (val xs) (val ys) k:Nat):Int)∧g 9 = .int .i64 (k:Int))∧M=[⟨b5,29,uw (zF k (val xs - val ys) 16)⟩,⟨b4,29,uw (List.replicate 16 0)⟩,⟨b3,29,uw ys⟩,⟨b2,29,uw xs⟩]∧nn=16 - k∧(k≤16)) (16) ?start ?round
 case start =>
  refine ⟨_,(List.Sublist.refl _),0,⟨?a6,?a9⟩,?mem0,rfl,Nat.zero_le _⟩
  case mem0=>rw [AK]
  case a6=>rw [Y4];rfl
  case a9=>rfl
 case round =>
  rintro nn g M ⟨k,⟨hg6,hg9⟩,rfl,hmeas,hk⟩;subst nn;refine gS2 hg6 hg9 ?_;clear hg6 hg9;refine go4 ?_;refine aH _ O (fun hc=>?_) (fun hc=>?_)
  ·replace hc:=cB_ hc
   have hc:k<16:=by omega
   have hbw:=cS_ (val xs) (val ys) k;refine go8 ?_;refine kU (sk (sk (sk (sk s0)))) 12 [] [] (go_ ?_);refine pQ O (fL arT O O oo_ oo_) (pQ O (dR tyT O mm_ (vJ oo_)) ?_);refine pQ O (eX jA gI O) (go_ ?_);refine pQ O (fL arT O O oo_ oo_) (pQ O (dR tyT O mm_ (vJ oo_)) ?_);refine pQ O (eX jA gI O) (go2 ?_);refine pQ O (aY (qV O O) (congrArg (Value.int .u64) (SJ hbw (eH lx k) (eH ly k)))) (go5 ?_);refine sQ (aY (eX gI jA O) (qQ _)) O (sQ (fL arT O O oo_ oo_) O (aZ O (o8 tyT O O uu_ (by rw [kP _ hk];exact hc) (.inl fR) ?_)));refine go3 ?_;refine sQ (aY (wS O O dd_) (congrArg (Value.int .u64) (tB _ 63))) O (go6 ?_);refine ⟨pp_,_,_,(List.Sublist.refl _),oo_,k+1,⟨?s6,?s9⟩,?mem,rfl,oo_⟩
   case mem=>rw [fO xs k lx,fO ys k ly,O2 k hle,zG _ hc]
   case s6=>rw [← MV,← fO xs k lx,← fO ys k ly];rfl
   case s9=>exact congrArg (Value.int .i64) (bV (n:=(k:Int)+1) (by unfold I64;omega))
  replace hc:=cB_ hc
  obtain rfl:k=16:=by omega
  refine go2 ?_;refine sQ (cA tyT O mm_ (by simp [uw,kP])) O ?_;refine aZ O (bN tyT O O uu_ (by simp [uw,kP]) O (jK _) (.inl fR) ?_);refine go2 ?_;refine rtX O ⟨_,_,_,_,_,_,rfl,mm_,tyT,_,(dI (by simp [uw,kP])),(by simp [uw,kP]),rfl⟩ ?_;rw [CR];rfl
theorem F6 (x:Nat) :
  Ret prog 250 [U32 x] (.bool false):=by
 refine bG (N:=6) func250 O O zz_ (fun w0=>?_);refine giI ?_;refine go6 ?_;refine sQ (aY (aR_ O O) (congrArg Value.bool (bne_self_eq_false _))) O (go3 ?_);refine rt1 ?_;exact rfl
theorem TT (x y:Nat) :
   Ret prog 204 [U32 x,U32 y] (.int .i64 (wV x y)):=by
 refine bG (N:=20) func204 O O zz_ (fun w0=>?_);refine giI ?_;refine go5 ?_;refine sQ (bE aB (F6 x) O) O (go4 ?_);refine sQ (bE aB (F6 y) O) O (bH_ ?_);refine aH _ O (fun h1=>?_) (fun h1=>?_)
 ·replace h1:=cB_ h1
  refine go4 ?_;refine rt1 ?_;exact congrArg _ (AI h1).symm
 replace h1:=cB_ h1
 refine go7 ?_;refine aH _ O (fun h2=>?_) (fun h2=>?_)
 ·replace h2:=cB_ h2
  refine go4 ?_;refine rt1 ?_;exact congrArg _ (AH h2).symm
 replace h2:=cB_ h2
 refine go5 ?_;refine rt1 ?_
 (obtain rfl:x=y:=by omega);exact congrArg _ (G7 _).symm
theorem pP (xs ys:List Nat) (hx:xs.length=16) (hy:ys.length=16) (lx:Lim xs) (ly:Lim ys) :
    Ret prog 123 [UV xs,UV ys] (.int .i64 (wV (val xs) (val ys))):=by
 refine bG (N:=24) func123 O O zz_ (fun w0=>?_);refine giI ?_;refine go_ ?_;refine aZ O (kV O O (fun b2 hb2=>aZ O (kV O O (fun b3 hb3=>go7 ?_))));refine bX (rg [] 4 20) (fun g nn M=>∃ (k:Nat),(g 5 = .int .i64 ((k:Int) - 1))∧M=[⟨b3,29,uw ys⟩,⟨b2,29,uw xs⟩]∧nn=k+0∧(k≤16∧xs.drop k=ys.drop k)) (16) ?start ?round
 case start =>
  refine ⟨_,(List.Sublist.refl _),16,?a5,?mem0,rfl,⟨Nat.le_refl _,by rw [List.drop_eq_nil_of_le oo_,List.drop_eq_nil_of_le oo_]⟩⟩
  case mem0=>rfl
  case a5=>rfl
 case round =>
  rintro nn g M ⟨k,hg5,rfl,hmeas,⟨hk,hd⟩⟩;subst nn;refine gS1 hg5 ?_;clear hg5;refine go5 ?_;refine aH _ O (fun hc=>?_) (fun hc=>?_)
  ·replace hc:=cB_ hc
   obtain ⟨m,rfl⟩:∃ m,k=m+1:=⟨k - 1,by omega⟩;refine go4 ?_;refine kU (sk (sk s0)) 7 [] [] (pQ O (aY (lI O) (congrArg (Value.int .i64) (show (((m+1:Nat):Int) - 1)=(m:Int) by omega))) (pQ O (fL arT O O oo_ oo_) (pQ O (dR tyT O mm_ (vJ oo_)) ?_)));refine pQ O (aY (lI O) (congrArg (Value.int .i64) (show (((m+1:Nat):Int) - 1)=(m:Int) by omega))) (pQ O (fL arT O O oo_ oo_) (pQ O (dR tyT O mm_ (vJ oo_)) ?_));refine go2 ?_;refine aH _ O (fun hne=>?_) (fun hne=>?_)
   ·replace hne:=cB_ hne
    refine go_ ?_;refine kU (sk (sk s0)) 8 [] [] (pQ O (aY (lI O) (congrArg (Value.int .i64) (show (((m+1:Nat):Int) - 1)=(m:Int) by omega))) (pQ O (fL arT O O oo_ oo_) (pQ O (dR tyT O mm_ (vJ oo_)) ?_)));refine pQ O (aY (lI O) (congrArg (Value.int .i64) (show (((m+1:Nat):Int) - 1)=(m:Int) by omega))) (pQ O (fL arT O O oo_ oo_) (pQ O (dR tyT O mm_ (vJ oo_)) ?_));refine pQ O (bE aB (TT _ _) O) (go3 ?_);refine rt1 ?_;exact congrArg _ (RB lx ly oo_ hd oo_)
   replace hne:=cB_ hne
   refine go2 ?_;refine sQ (aY (lI O) (congrArg (Value.int .i64) (show (((m+1:Nat):Int) - 1)=(m:Int) by omega))) O (go3 ?_);refine ⟨pp_,_,_,(List.Sublist.refl _),oo_,m,?s5,?mem,rfl,⟨by omega,MJ oo_ hd oo_ oo_⟩⟩
   case mem=>rfl
   case s5=>exact congrArg (Value.int .i64) (bV (n:=(m:Int) - 1) (by unfold I64;omega))
  replace hc:=cB_ hc
  obtain rfl:k=0:=by omega
  refine go5 ?_;refine rt1 ?_
  (rw [List.drop_zero,List.drop_zero] at hd;subst hd;exact congrArg _ (G7 _).symm)
theorem pG (xs:List Nat) (hx:xs.length=16) :
    Ret prog 120 [UV xs] (.int .i64 ((szL xs:Nat):Int)):=by
 refine bG (N:=16) func120 O O zz_ (fun w0=>?_);refine giI ?_;refine go_ ?_;refine aZ O (kV O O (fun b1 hb1=>go7 ?_));refine bX (rg [] 3 12) (fun g nn M=>∃ (k:Nat),(g 3 = .int .i64 (k:Int))∧M=[⟨b1,29,uw xs⟩]∧nn=k+0∧(k≤16∧∀ j,k≤j→xs.getD j 0=0)) (16) ?start ?round
 case start =>
  refine ⟨_,(List.Sublist.refl _),16,?a3,?mem0,rfl,⟨Nat.le_refl _,fun j hj=>by simp [List.getD,List.getElem?_eq_none (show xs.length≤j by omega)]⟩⟩
  case mem0=>rfl
  case a3=>rfl
 case round =>
  rintro nn g M ⟨k,hg3,rfl,hmeas,⟨hk,hhi⟩⟩;subst nn;refine gS1 hg3 ?_;clear hg3;refine go5 ?_
  cases hz:decide ((0:Int)<(k:Int))
  ·refine zO ?_;refine rt1 ?_;exact congrArg (fun n:Nat=>Value.int .i64 (n:Int)) (NP hhi (.inl (by have:=of_decide_eq_false hz;omega))).symm
  have hz':=of_decide_eq_true hz;obtain ⟨m,rfl⟩:∃ m,k=m+1:=⟨k - 1,by omega⟩;refine go_ ?_;refine sQ (aY (qV O O) (congrArg (Value.int .i64) (EI oo_))) O (sQ (fL arT O O oo_ oo_) O (sQ (dR tyT O mm_ (vJ oo_)) O ?_));refine go3 ?_;refine aH _ O (fun h0=>?_) (fun h0=>?_)
  ·replace h0:=cB_ h0
   refine go4 ?_;refine sQ (aY (qV O O) (congrArg (Value.int .i64) (EI oo_))) O (go2 ?_);refine ⟨pp_,_,_,(List.Sublist.refl _),oo_,m,?s3,?mem,rfl,⟨by omega,fun j hj=>by rcases Nat.eq_or_lt_of_le hj with rfl|hj;omega;exact hhi j hj⟩⟩
   case mem=>rfl
   case s3=>rfl
  replace h0:=cB_ h0
  refine go6 ?_;refine rt1 ?_;exact congrArg (fun n:Nat=>Value.int .i64 (n:Int)) (NP hhi (.inr (by simp only [Nat.add_sub_cancel];omega))).symm
theorem y9 (a:R) (ha:a.Ok) :
   Ret prog 125 [RV a] (RV (Z.neg a.dec).enc):=by
 refine bG (N:=14) func125 O O zz_ (fun w0=>?_);refine giI ?_;refine go_ ?_;refine aZ O (kV O O (fun b1 hb1=>aZ O (eM jP (fun b2 hb2=>go3 ?_))));refine sQ (cA tyT O mm_ (cC ha)) O ?_;refine aZ O (kA jO jP kB O dd_ O (xI ha) (fun b4 hb4=>sQ (dF aB O (fun w hw=>jE [a] (ok1 ha) b4 31 w (hw.mem _ m0) zz_)) O ?_));refine go2 ?_;refine aH _ O (fun hg=>?_) (fun hg=>?_)
 ·replace hg:=cB_ hg
  refine go_ ?_;refine sQ (bE aB fS O) O (aZ O (bN tyT O O uu_ (aF _) O (bI _) (.inl fR) ?_));refine go2 ?_;refine rtX O ⟨_,_,_,_,_,_,rfl,mm_,tyT,_,(dI (aF _)),(aF _),rfl⟩ ?_
  (rw [Z.neg,zQ (O3 hg)];rfl)
 replace hg:=cB_ hg
 refine go2 ?_;refine sQ (cB fdT dd_ O) O (sQ (dR tyT O mm_ O) O ?_);refine go_ ?_;refine sQ (cB fdT dd_ O) O (sQ (jU (vs:=uw a.w) tyT O mm_ (mU ha.len) ((i6 _).trans ha.len)) O ?_);refine sQ (bE aB (fD (!a.neg) a.w ha.len ha.lim) O) O (aZ O (bN tyT O O uu_ (jX ha.len) O (bI _) (.inl fR) ?_));refine go2 ?_;refine rtX O ⟨_,_,_,_,_,_,rfl,mm_,tyT,_,(dI (jX ha.len)),(jX ha.len),rfl⟩ ?_;exact congrArg RV (bU_ ha (by simpa using hg))
theorem DF (a:R) (ha:a.Ok) :
   Ret prog 207 [RV a] (RV (Z.abs a.dec).enc):=by
 refine bG (N:=11) func207 O O zz_ (fun w0=>?_);refine giI ?_;refine go_ ?_;refine aZ O (kV O O (fun b1 hb1=>aZ O (eM jP (fun b2 hb2=>go3 ?_))));refine sQ (cA tyT O mm_ (cC ha)) O ?_;refine aZ O (kA jO jP kB O dd_ O (xI ha) (fun b4 hb4=>sQ (dF aB O (fun w hw=>jE [a] (ok1 ha) b4 31 w (hw.mem _ m0) zz_)) O ?_));refine go2 ?_;refine aH _ O (fun hg=>?_) (fun hg=>?_)
 ·replace hg:=cB_ hg
  refine go_ ?_;refine sQ (bE aB fS O) O (aZ O (bN tyT O O uu_ (aF _) O (bI _) (.inl fR) ?_));refine go2 ?_;refine rtX O ⟨_,_,_,_,_,_,rfl,mm_,tyT,_,(dI (aF _)),(aF _),rfl⟩ ?_
  (rw [Z.abs,zQ (O3 hg)];rfl)
 replace hg:=cB_ hg
 refine go2 ?_;refine sQ (cB fdT dd_ O) O (sQ (jU (vs:=uw a.w) tyT O mm_ (mU ha.len) ((i6 _).trans ha.len)) O ?_);refine sQ (bE aB (fD false a.w ha.len ha.lim) O) O (aZ O (bN tyT O O uu_ (jX ha.len) O (bI _) (.inl fR) ?_));refine go2 ?_;refine rtX O ⟨_,_,_,_,_,_,rfl,mm_,tyT,_,(dI (jX ha.len)),(jX ha.len),rfl⟩ ?_;exact congrArg RV (bl_ ha (by simpa using hg))
theorem mY (a b:R) (ha:a.Ok) (hb:b.Ok) :
    Ret prog 38 [RV a,RV b] (RV (Z.add a.dec b.dec).enc):=by
 refine bG (N:=55) func38 O O zz_ (fun w0=>?_);refine giI ?_;refine go_ ?_;refine aZ O (kV O O (fun b2 hb2=>aZ O (kV O O (fun b3 hb3=>aZ O (eM jP (fun b4 hb4=>go3 ?_))))));refine sQ (cA tyT O mm_ (cC ha)) O ?_;refine sQ (cA tyT O mm_ (cC hb)) O ?_;refine aZ O (kA jO jP kB O dd_ O (MN ha hb) (fun b9 hb9=>sQ (dF aB O (fun w hw=>jE [a,b] (ok2 ha hb) b9 31 w (hw.mem _ m0) zz_)) O ?_));refine go2 ?_;refine aH _ O (fun hg=>?_) (fun hg=>?_)
 ·replace hg:=cB_ hg
  refine go_ ?_;refine sQ (bE aB fS O) O (aZ O (bN tyT O O uu_ (aF _) O (bI _) (.inl fR) ?_));refine go2 ?_;refine rtX O ⟨_,_,_,_,_,_,rfl,mm_,tyT,_,(dI (aF _)),(aF _),rfl⟩ ?_
  (rw [Z.add,oN (EG hg)];rfl)
 replace hg:=cB_ hg
 have hg:=all2.1 hg;refine go3 ?_;refine sQ (cB fdT dd_ O) O (sQ (dR tyT O mm_ O) O ?_);refine sQ (cB fdT dd_ O) O (sQ (dR tyT O mm_ O) O ?_);refine sQ (RF C6 O O) O (go_ ?_);refine aH _ O (fun hn=>?_) (fun hn=>?_)
 ·replace hn:=cB_ hn
  refine go_ ?_;refine sQ (cB fdT dd_ O) O (sQ (jU (vs:=uw a.w) tyT O mm_ (mU ha.len) ((i6 _).trans ha.len)) O ?_);refine sQ (cB fdT dd_ O) O (sQ (jU (vs:=uw b.w) tyT O mm_ (mU hb.len) ((i6 _).trans hb.len)) O ?_);refine sQ (bE aB (JJ a.w b.w ha.len hb.len ha.lim hb.lim) O) O (go3 ?_);refine aZ O (eM rB (fun b5 hb5=>aZ O (bN tyT O O uu_ (by rw [i6,cN]) O (jK _) (.inl fR) ?_)));refine go7 ?_;refine aH _ O (fun hc=>?_) (fun hc=>?_)
  ·replace hc:=cB_ hc
   refine go_ ?_;refine sQ (bE aB fS O) O (aZ O (bN tyT O O uu_ (aF _) O (bI _) (.inl fR) ?_));refine go2 ?_;refine rtX O ⟨_,_,_,_,_,_,rfl,mm_,tyT,_,(dI (aF _)),(aF _),rfl⟩ ?_;exact congrArg RV (VN ha hb hg.1 hg.2 hn oo_)
  replace hc:=cB_ hc
  refine go2 ?_;refine sQ (cB fdT dd_ O) O (sQ (dR tyT O mm_ O) O ?_);refine sQ (cA tyT O mm_ (by rw [i6,cN])) O ?_;refine sQ (bE aB (fD a.neg _ (cN _ _) (nK _ _)) O) O (aZ O (bN tyT O O uu_ (jX (cN _ _)) O (bI _) (.inl fR) ?_));refine go2 ?_;refine rtX O ⟨_,_,_,_,_,_,rfl,mm_,tyT,_,(dI (jX (cN _ _))),(jX (cN _ _)),rfl⟩ ?_;exact congrArg RV (VO ha hb hg.1 hg.2 hn oo_)
 replace hn:=cB_ hn
 refine go3 ?_;refine sQ (cB fdT dd_ O) O (sQ (jU (vs:=uw a.w) tyT O mm_ (mU ha.len) ((i6 _).trans ha.len)) O ?_);refine sQ (cB fdT dd_ O) O (sQ (jU (vs:=uw b.w) tyT O mm_ (mU hb.len) ((i6 _).trans hb.len)) O ?_);refine sQ (bE aB (pP a.w b.w ha.len hb.len ha.lim hb.lim) O) O (go2 ?_);refine aH _ O (fun ho=>?_) (fun ho=>?_)
 ·replace ho:=cB_ ho
  have hle:val b.w≤val a.w:=R6 ho;refine go_ ?_;refine kU (sk (sd (sk (sk s0)))) 9 [8] [8] (pQ O (cB fdT dd_ O) (pQ O (dR tyT O mm_ O) ?_));refine pQ O (cB fdT dd_ O) (pQ O (jU (vs:=uw a.w) tyT O mm_ (mU ha.len) ((i6 _).trans ha.len)) ?_);refine pQ O (cB fdT dd_ O) (pQ O (jU (vs:=uw b.w) tyT O mm_ (mU hb.len) ((i6 _).trans hb.len)) ?_);refine pQ O (bE aB (wQ a.w b.w ha.len hb.len ha.lim hb.lim hle) O) (pQ O (bE aB (fD a.neg _ (cN _ _) (nK _ _)) O) ?_);refine bP O O (bN tyT O O uu_ (jX (cN _ _)) O (bI _) (.inl fR) ⟨nf,ss_,?_⟩);refine go2 ?_;refine rtX O ⟨_,_,_,_,_,_,rfl,mm_,tyT,_,(dI (jX (cN _ _))),(jX (cN _ _)),rfl⟩ ?_;exact congrArg RV (VP ha hb hg.1 hg.2 hn hle)
 replace ho:=cB_ ho
 have hle:val a.w≤val b.w:=VW ho;refine go2 ?_;refine kU (sk (sd (sk (sk s0)))) 9 [8] [8] (pQ O (cB fdT dd_ O) (pQ O (dR tyT O mm_ O) ?_));refine pQ O (cB fdT dd_ O) (pQ O (jU (vs:=uw b.w) tyT O mm_ (mU hb.len) ((i6 _).trans hb.len)) ?_);refine pQ O (cB fdT dd_ O) (pQ O (jU (vs:=uw a.w) tyT O mm_ (mU ha.len) ((i6 _).trans ha.len)) ?_);refine pQ O (bE aB (wQ b.w a.w hb.len ha.len hb.lim ha.lim hle) O) (pQ O (bE aB (fD b.neg _ (cN _ _) (nK _ _)) O) ?_);refine bP O O (bN tyT O O uu_ (jX (cN _ _)) O (bI _) (.inl fR) ⟨nf,ss_,?_⟩);refine go2 ?_;refine rtX O ⟨_,_,_,_,_,_,rfl,mm_,tyT,_,(dI (jX (cN _ _))),(jX (cN _ _)),rfl⟩ ?_;exact congrArg RV (VQ ha hb hg.1 hg.2 hn hle)
theorem DJ (a b:R) (ha:a.Ok) (hb:b.Ok) :
  Ret prog 39 [RV a,RV b] (RV (Z.sub a.dec b.dec).enc):=by
 refine bG (N:=9) func39 O O zz_ (fun w0=>?_);refine giI ?_;refine go_ ?_;refine aZ O (kV O O (fun b2 hb2=>aZ O (kV O O (fun b3 hb3=>aZ O (eM jP (fun b4 hb4=>go2 ?_))))));refine kU (sd (sk (sk s0))) 5 [4] [4] (pQ O (cA tyT O mm_ (cC ha)) ?_);refine pQ O (cA tyT O mm_ (cC hb)) ?_;refine pQ O (bE aB (y9 b hb) O) (pQ O (bE aB (mY a (Z.neg b.dec).enc ha (Z.enc_ok _)) O) ?_);refine bP O O (bN tyT O O uu_ (aF _) O (bI _) (.inl fR) ⟨nf,ss_,?_⟩);refine go2 ?_;refine rtX O ⟨_,_,_,_,_,_,rfl,mm_,tyT,_,(dI (aF _)),(aF _),rfl⟩ ?_
 (rw [AJ];rfl)
theorem iH (a:R) (ha:a.Ok) :
   Ret prog 40 [RV a] (.int .i64 a.dec.sign):=by
 refine bG (N:=17) func40 O O zz_ (fun w0=>?_);refine giI ?_;refine go_ ?_;refine aZ O (kV O O (fun b1 hb1=>go5 ?_));refine sQ (cA tyT O mm_ (cC ha)) O ?_;refine aZ O (kA jO jP kB O dd_ O (xI ha) (fun b5 hb5=>sQ (dF aB O (fun w hw=>jE [a] (ok1 ha) b5 31 w (hw.mem _ m0) zz_)) O ?_));refine go2 ?_
 cases hg:[a].all R.good
 ·refine tL ?_;refine rt1 ?_;exact congrArg _ (C2 ha (.inl (by simpa using hg)))
 refine sQ (cB fdT dd_ O) O (sQ (jU (vs:=uw a.w) tyT O mm_ (mU ha.len) ((i6 _).trans ha.len)) O ?_);refine sQ (qT rB arT O (.nil _)) O ?_;refine sQ (tM (r:=a.zero) O O (mS 8 dd_ HY IA (pF ha.len) (pF zz_) ha.zero_iff)) O ?_;refine go3 ?_;refine aH _ O (fun hz=>?_) (fun hz=>?_)
 ·replace hz:=cB_ hz
  refine go4 ?_;refine rt1 ?_;exact congrArg _ (C2 ha (.inr hz))
 replace hz:=cB_ hz
 refine go_ ?_;refine sQ (cB fdT dd_ O) O (sQ (dR tyT O mm_ O) O ?_);refine go2 ?_;refine aH _ O (fun hn=>?_) (fun hn=>?_)
 ·replace hn:=cB_ hn
  refine go4 ?_;refine rt1 ?_;exact congrArg _ (PW ha (by simpa using hg) hz hn)
 replace hn:=cB_ hn
 refine go5 ?_;refine rt1 ?_;exact congrArg _ (PX ha (by simpa using hg) hz hn)
theorem cU (n:Int) (hn:I64 n) :
   Ret prog 37 [.int .i64 n] (RV (Z.of n).enc):=by
 refine bG (N:=19) func37 O O zz_ (fun w0=>?_);refine giI ?_;refine go_ ?_;refine aZ O (eM jP (fun b2 hb2=>go3 ?_));refine sQ (eX FG gI O) O (go7 ?_);refine aH _ O (fun h0=>?_) (fun h0=>?_)
 ·replace h0:=cB_ h0
  refine go2 ?_;refine sQ (aY (XO O) (congrArg (Value.int .u64) (bZ_ hn h0))) O (go5 ?_);refine sQ (aY (lI O) (show _=Value.int .u64 (n.natAbs:Int) from by first|rfl|exact congrArg (Value.int .u64) (MY hn h0))) O ?_;refine sQ (eX gI jA O) O (sQ (aY (lI O) (show _=Value.int .u64 (n.natAbs:Int) from by first|rfl|exact congrArg (Value.int .u64) (MY hn h0))) O ?_);refine sQ (aY (wS O O dd_) (congrArg (Value.int .u64) (tB _ 32))) O (sQ (eX gI jA O) O (sQ (qT rB arT O (WD (XF _) (XE (by unfold I64 at hn;omega)))) O (sQ (bE aB (fD (decide (n<0)) _ zz_ (WU (Nat.mod_lt _ dd_) (by unfold I64 at hn;omega) 14)) O) O ?_)));refine aZ O (bN tyT O O uu_ (jX zz_) O (bI _) (.inl fR) ?_);refine go2 ?_;refine rtX O ⟨_,_,_,_,_,_,rfl,mm_,tyT,_,(dI (jX zz_)),(jX zz_),rfl⟩ ?_;exact congrArg RV (XD hn O O)
 replace h0:=cB_ h0
 refine go4 ?_;refine sQ (aY (lI O) (show _=Value.int .u64 (n.natAbs:Int) from by first|rfl|exact congrArg (Value.int .u64) (MY hn h0))) O ?_;refine sQ (eX gI jA O) O (sQ (aY (lI O) (show _=Value.int .u64 (n.natAbs:Int) from by first|rfl|exact congrArg (Value.int .u64) (MY hn h0))) O ?_);refine sQ (aY (wS O O dd_) (congrArg (Value.int .u64) (tB _ 32))) O (sQ (eX gI jA O) O (sQ (qT rB arT O (WD (XF _) (XE (by unfold I64 at hn;omega)))) O (sQ (bE aB (fD (decide (n<0)) _ zz_ (WU (Nat.mod_lt _ dd_) (by unfold I64 at hn;omega) 14)) O) O ?_)));refine aZ O (bN tyT O O uu_ (jX zz_) O (bI _) (.inl fR) ?_);refine go2 ?_;refine rtX O ⟨_,_,_,_,_,_,rfl,mm_,tyT,_,(dI (jX zz_)),(jX zz_),rfl⟩ ?_;exact congrArg RV (XD hn O O)
theorem eL (a b:R) (ha:a.Ok) (hb:b.Ok) :
    Ret prog 36 [RV a,RV b] (RV (Z.mul a.dec b.dec).enc):=by
 refine bG (N:=82) func36 O O zz_ (fun w0=>?_);refine giI ?_;refine go_ ?_;refine aZ O (kV O O (fun b2 hb2=>aZ O (kV O O (fun b3 hb3=>aZ O (eM jP (fun b4 hb4=>go3 ?_))))));refine sQ (cA tyT O mm_ (cC ha)) O ?_;refine sQ (cA tyT O mm_ (cC hb)) O ?_;refine aZ O (kA jO jP kB O dd_ O (MN ha hb) (fun b13 hb13=>sQ (dF aB O (fun w hw=>jE [a,b] (ok2 ha hb) b13 31 w (hw.mem _ m0) zz_)) O ?_));refine go2 ?_;refine aH _ O (fun hg=>?_) (fun hg=>?_)
 ·replace hg:=cB_ hg
  refine go_ ?_;refine sQ (bE aB fS O) O (aZ O (bN tyT O O uu_ (aF _) O (bI _) (.inl fR) ?_));refine go2 ?_;refine rtX O ⟨_,_,_,_,_,_,rfl,mm_,tyT,_,(dI (aF _)),(aF _),rfl⟩ ?_
  (rw [Z.mul,oN (EG hg)];rfl)
 replace hg:=cB_ hg
 have hg:=all2.1 hg;refine go2 ?_;refine aZ O (eM ef_ (fun b5 hb5=>go2 ?_));have hsa:=wP a.w;have hsb:=wP b.w;rw [ha.len] at hsa;rw [hb.len] at hsb;refine kU (sk (sk (sk (sk (sk s0))))) 8 [] [] (pQ O (cB fdT dd_ O) (pQ O (jU (vs:=uw a.w) tyT O mm_ (mU ha.len) ((i6 _).trans ha.len)) ?_));refine pQ O (bE aB (pG a.w ha.len) O) (pQ O (cB fdT dd_ O) (pQ O (jU (vs:=uw b.w) tyT O mm_ (mU hb.len) ((i6 _).trans hb.len)) ?_));refine pQ O (bE aB (pG b.w hb.len) O) (go9 ?_);refine bX (rg [8,9,10] 24 43) (fun g nn M=>∃ (i:Nat) (l:List Nat),(g 24 = .int .i64 (i:Int))∧M=[⟨b5,162,uw l⟩,⟨b4,31,zR⟩,⟨b3,31,b.cells⟩,⟨b2,31,a.cells⟩]∧nn=szL a.w - i∧(i≤szL a.w∧MulOut (val a.w) (val b.w) (szL b.w) i l)) (szL a.w - 0) ?start ?round
 case start =>
  refine ⟨_,(List.Sublist.cons_cons _ (List.Sublist.cons _ (List.Sublist.refl _))),0,_,?a24,?mem0,rfl,⟨Nat.zero_le _,MulOut.start _ _ _⟩⟩
  case mem0=>rfl
  case a24=>rfl
 case round =>
  rintro nn g M ⟨i,l,hg24,rfl,hmeas,⟨hile,hM⟩⟩;subst nn;refine gS1 hg24 ?_;clear hg24;refine go4 ?_;refine aH _ O (fun hi=>?_) (fun hi=>?_)
  ·replace hi:=cB_ hi
   have hia:i<a.w.length:=by rw [ha.len];omega
   refine QY ?_;refine bX (rg [9,10] 28 32) (fun g nn M=>∃ (k:Nat) (l:List Nat) (c:Nat),(g 9 = .int .u64 (c:Int)∧g 28 = .int .i64 (k:Int))∧M=[⟨b5,162,uw l⟩,⟨b4,31,zR⟩,⟨b3,31,b.cells⟩,⟨b2,31,a.cells⟩]∧nn=szL b.w - k∧(k≤szL b.w∧MulIn (val a.w) (val b.w) (szL b.w) i k l c)) (szL b.w - 0) ?start ?round
   case start =>
    refine ⟨_,(List.Sublist.refl _),0,l,0,⟨?a9,?a28⟩,?mem0,rfl,⟨Nat.zero_le _,hM.row⟩⟩
    case mem0=>rfl
    case a9=>rfl
    case a28=>rfl
   case round =>
    rintro nn g M ⟨k,l,c,⟨hg9,hg28⟩,rfl,hmeas,⟨hkle,hM⟩⟩;subst nn;refine gS2 hg9 hg28 ?_;clear hg9 hg28;refine go4 ?_;refine aH _ O (fun hk=>?_) (fun hk=>?_)
    ·replace hk:=cB_ hk
     have hkb:k<b.w.length:=by rw [hb.len];omega
     refine go8 ?_;refine gdr (sk (sk (sk (sk s0)))) [0,4,8,12,16,20,24,28,32,36,40,44,48,52,56,60,64,68,72,76,80] [] mix (by kernel_rfl) (go2 ?_);refine pQ O (cB fdT dd_ O) (pQ O (fL arT O O oo_ oo_) (pQ O (dR tyT O mm_ (pH hia)) ?_));refine pQ O (eX jA gI O) (go_ ?_);refine pQ O (cB fdT dd_ O) (pQ O (fL arT O O oo_ oo_) (pQ O (dR tyT O mm_ (pH hkb)) ?_));refine pQ O (eX jA gI O) (go3 ?_);refine pQ O (aY (j9 O O) (congrArg (Value.int .i64) (pT oo_))) (pQ O (fL arT O O oo_ oo_) (pQ O (dR tyT O mm_ (vJ (by rw [hM.len];omega))) ?_));refine pQ O (eX jA gI O) (go_ ?_);refine pQ O (aY (j9 O O) (congrArg (Value.int .u64) (di_ (eH ha.lim i) (eH hb.lim k) (eH hM.lim (i+k)) hM.clt))) (go5 ?_);refine sQ (aY (j9 O O) (congrArg (Value.int .i64) (pT oo_))) O (go_ ?_);refine sQ (aY (eX gI jA O) (qQ _)) O (sQ (fL arT O O oo_ oo_) O (aZ O (o8 tyT O O uu_ (by rw [hM.len];omega) (.inl fR) ?_)));refine go3 ?_;refine sQ (aY (wS O O dd_) (congrArg (Value.int .u64) (tB _ 32))) O (go3 ?_);refine sQ (aY (j9 O O) (congrArg (Value.int .i64) (lD oo_))) O (go2 ?_);refine ⟨pp_,_,_,(List.Sublist.refl _),oo_,k+1,_,_,⟨?s9,?s28⟩,?mem,rfl,⟨by omega,UG hM ha.lim hb.lim oo_ oo_⟩⟩
     case mem=>rfl
     case s9=>rfl
     case s28=>rfl
    replace hk:=cB_ hk
    obtain rfl:k=szL b.w:=by omega
    refine go4 ?_;refine sQ (aY (j9 O O) (congrArg (Value.int .i64) (pT oo_))) O (go_ ?_);refine sQ (aY (eX gI jA O) (cF_ hM.clt)) O (sQ (fL arT O O oo_ oo_) O (aZ O (o8 tyT O O uu_ (by rw [hM.len];omega) (.inl fR) ?_)));refine go2 ?_;refine sQ (aY (j9 O O) (congrArg (Value.int .i64) (lD oo_))) O (go2 ?_);refine ⟨pp_,_,_,(List.Sublist.refl _),oo_,i+1,_,?s24,?mem,rfl,⟨by omega,hM.done oo_ (vZ hb.lim)⟩⟩
    case mem=>rfl
    case s24=>rfl
  replace hi:=cB_ hi
  obtain rfl:i=szL a.w:=by omega
  refine go3 ?_;refine sQ (vV arT O O O dd_ dd_ dd_ dd_) O (sQ (XP arT O dd_) O (sQ (jU (vs:=uw (l.drop 16)) tyT O mm_ (ec_ hM.len) (by simp [uw,hM.len])) O ?_));refine sQ (qT rB arT O (.nil _)) O ?_;refine sQ (AP (r:=decide (l.drop 16=List.replicate 16 0)) O O (mS 8 dd_ HY IA (pF (by simp [hM.len])) (pF zz_) (bx_ _ _))) O ?_;refine go_ ?_;refine aH _ O (fun h71=>?_) (fun h71=>?_)
  ·replace h71:=cB_ h71
   refine go_ ?_;refine sQ (bE aB fS O) O (aZ O (bN tyT O O uu_ (aF _) O (bI _) (.inl fR) ?_));refine go2 ?_;refine rtX O ⟨_,_,_,_,_,_,rfl,mm_,tyT,_,(dI (aF _)),(aF _),rfl⟩ ?_;exact congrArg RV (ZU ha hb hg.1 hg.2 hM.len hM.lim (IE hM ha) (by simpa using h71))
  replace h71:=cB_ h71
  refine go2 ?_;refine kU (sk (sd (sk (sk s0)))) 10 [9] [9] (pQ O (cB fdT dd_ O) (pQ O (dR tyT O mm_ O) ?_));refine pQ O (cB fdT dd_ O) (pQ O (dR tyT O mm_ O) ?_);refine pQ O (vU C6 O O) (pQ O (vV arT O O O dd_ dd_ dd_ dd_) (pQ O (XP arT O dd_) (pQ O (jU (vs:=uw (l.take 16)) tyT O mm_ (ed_ hM.len) (by simp [uw,hM.len])) ?_)));refine pQ O (bE aB (fD (a.neg != b.neg) (l.take 16) (by simp [hM.len]) (hM.lim.take 16)) O) ?_;refine bP O O (bN tyT O O uu_ (jX (by simp [hM.len])) O (bI _) (.inl fR) ⟨nf,ss_,?_⟩);refine go2 ?_;refine rtX O ⟨_,_,_,_,_,_,rfl,mm_,tyT,_,(dI (jX (by simp [hM.len]))),(jX (by simp [hM.len])),rfl⟩ ?_;exact congrArg RV (ZV ha hb hg.1 hg.2 hM.len hM.lim (IE hM ha) (by simpa using h71))
theorem G2 (us vs:List Nat) (n j:Nat) (H:QH us vs n j) (bu T:Nat) (w:World) (hbu:w.heap[bu]? = some (.cells (uw us).toArray T (0,0))) :
    Calls prog 253 [.pointer (some ⟨bu,0,none⟩),UV vs,.int .i64 (n:Int),.int .i64 (j:Int)].toArray w (fun e w'=>∃ x:Nat,e = .returned (.int .u64 (x:Int))∧Ext w w'∧NV us vs j x):=by
 refine OC (N:=77) (g:=fun x:Nat=>.int .u64 (x:Int)) (Q:=fun x:Nat=>NV us vs j x) func253 O O zz_ ?_;obtain ⟨w0,rfl⟩:=nm w;refine giI ?_;have G:=H.gh;have hn2:=H.n2;have hjn:=H.jn;have hul:=H.ulen;have hvl:=H.vlen;refine go_ ?_;refine aZ O (kV O O (fun b5 hb5=>go3 ?_));refine gdr (sk s0) [0,4,8,12,16,20,24,28,32,36,40,44,48,52,56,60,64,68,72,76] [] mix (by kernel_rfl) (go3 ?_);refine pQ O (aY (j9 O O) (congrArg (Value.int .i64) (pT oo_))) (go_ ?_);refine pQ O (fL arT O O oo_ oo_) (pQ O (HF tyT O hbu zz_ (vJ oo_)) ?_);refine pQ O (aY (eX jA gI O) (xV (eH H.ulim _))) (pQ O (aY (EL O O dd_) (congrArg (Value.int .u64) (yR (eH H.ulim _)))) (go3 ?_));refine pQ O (aY (j9 O O) (congrArg (Value.int .i64) (pT oo_))) (pQ O (aY (qV O O) (congrArg (Value.int .i64) (vF (b:=1) O oo_ oo_))) (go_ ?_));refine pQ O (fL arT O O oo_ oo_) (pQ O (HF tyT O hbu zz_ (vJ oo_)) ?_);refine pQ O (aY (eX jA gI O) (xV (eH H.ulim _))) (pQ O (aY (M9 O O) (congrArg (Value.int .u64) (O7 (eH H.ulim _) (eH H.ulim _)))) (go4 ?_));refine sQ (aY (qV O O) (congrArg (Value.int .i64) (vF (b:=1) O oo_ oo_))) O (sQ (fL arT O O oo_ oo_) O (sQ (dR tyT O mm_ (vJ oo_)) O ?_));refine sQ (aY (eX jA gI O) (xV (eH H.vlim _))) O (go3 ?_);refine kU (sk s0) 8 [] [] (go2 ?_);refine pQ O (aY (lC O O (by have:=G.f0;omega)) (congrArg (Value.int .u64) (Z8 (by have:=G.topLt;have:=G.f1;omega)))) (go2 ?_);refine pQ O (aY (qU O O (by have:=G.f0;omega)) (congrArg (Value.int .u64) (CY _ _))) (go5 ?_);refine bX (rg [11,12] 43 33) (fun g nn M=>∃ (d rest:Nat),(g 11 = .int .u64 (d:Int)∧g 12 = .int .u64 (rest:Int))∧M=[⟨b5,29,uw vs⟩]∧nn=d∧(GI (vs.getD (n - 1) 0) (us.getD (j+n) 0*4294967296+us.getD (j+n - 1) 0) (val us / (val vs*4294967296 ^ j)) d rest)) ((us.getD (j+n) 0*4294967296+us.getD (j+n - 1) 0) / vs.getD (n - 1) 0) ?start ?round
 case start =>
  refine ⟨_,(List.Sublist.refl _),_,_,⟨?a11,?a12⟩,?mem0,rfl,GI.start G⟩
  case mem0=>rfl
  case a11=>rfl
  case a12=>rfl
 case round =>
  rintro nn g M ⟨d,rest,⟨hg11,hg12⟩,rfl,hmeas,hG⟩;subst nn;refine gS2 hg11 hg12 ?_;clear hg11 hg12;refine go2 ?_;refine gdr (sk s0) [0,4,8,12,16,20,24,28,32,36,40,44,48,52,56,60,64,68,72,76,80,84,88,92,96,100,104,108] [] mix (by kernel_rfl) (go3 ?_)
  cases h2:decide ((rest:Int)<4294967296)
  ·refine eC_ ?_;refine rt1 ?_;exact ⟨d,rfl,KT H hG (.inl (by have:=of_decide_eq_false h2;omega))⟩
  refine go3 ?_
  cases h5:decide ((4294967296:Int)≤(d:Int))
  ·refine go2 ?_;refine pQ O (aY (qV O O) (congrArg (Value.int .i64) (vF (b:=2) O oo_ oo_))) (pQ O (fL arT O O oo_ oo_) (pQ O (dR tyT O mm_ (vJ oo_)) ?_));refine pQ O (aY (eX jA gI O) (xV (eH H.vlim _))) (pQ O (aY (XN O O) (congrArg (Value.int .u64) (SM (SI (by have:=of_decide_eq_false h5;omega) (eH H.vlim _))))) (go_ ?_));refine pQ O (aY (EL O O dd_) (congrArg (Value.int .u64) (yR (by have:=of_decide_eq_true h2;omega)))) (go3 ?_);refine pQ O (aY (j9 O O) (congrArg (Value.int .i64) (pT oo_))) (pQ O (aY (qV O O) (congrArg (Value.int .i64) (vF (b:=2) O oo_ oo_))) (go_ ?_));refine pQ O (fL arT O O oo_ oo_) (pQ O (HF tyT O hbu zz_ (vJ oo_)) ?_);refine pQ O (aY (eX jA gI O) (xV (eH H.ulim _))) (pQ O (aY (M9 O O) (congrArg (Value.int .u64) (O7 (by have:=of_decide_eq_true h2;omega) (eH H.ulim _)))) (go4 ?_));refine aH _ O (fun h68=>?_) (fun h68=>?_)
   ·replace h68:=cB_ h68
    refine go3 ?_;have hmore:=GI.more G hG (by have:=of_decide_eq_true h2;omega) (by first|exact .inl (by have:=of_decide_eq_true h5;omega)|exact .inr (by exact_mod_cast h68));refine go_ ?_;refine sQ (aY (qV O O) (congrArg (Value.int .u64) (I5 O hmore.1 (by have:=GI.dlt G hG;omega)))) O (go5 ?_);refine sQ (aY (j9 O O) (congrArg (Value.int .u64) (MF (by have:=hG.rlt;have:=G.f1;omega)))) O (go2 ?_);refine ⟨pp_,_,_,(List.Sublist.refl _),(by have:=hmore.1;omega),d - 1,rest+vs.getD (n - 1) 0,⟨?s11,?s12⟩,?mem,rfl,hmore.2⟩
    case mem=>rfl
    case s11=>rfl
    case s12=>rfl
   replace h68:=cB_ h68
   refine go6 ?_;refine rt1 ?_;exact ⟨d,rfl,KT H hG (.inr ⟨by have:=of_decide_eq_false h5;omega,by have h69:=Int.not_lt.1 h68;exact_mod_cast h69⟩)⟩
  refine da_ ?_;have hmore:=GI.more G hG (by have:=of_decide_eq_true h2;omega) (by first|exact .inl (by have:=of_decide_eq_true h5;omega)|exact .inr (by exact_mod_cast h68));refine go_ ?_;refine sQ (aY (qV O O) (congrArg (Value.int .u64) (I5 O hmore.1 (by have:=GI.dlt G hG;omega)))) O (go5 ?_);refine sQ (aY (j9 O O) (congrArg (Value.int .u64) (MF (by have:=hG.rlt;have:=G.f1;omega)))) O (go2 ?_);refine ⟨pp_,_,_,(List.Sublist.refl _),(by have:=hmore.1;omega),d - 1,rest+vs.getD (n - 1) 0,⟨?s11,?s12⟩,?mem,rfl,hmore.2⟩
  case mem=>rfl
  case s11=>rfl
  case s12=>rfl
theorem JK (us vs:List Nat) (n j d:Nat) (hu:us.length=17) (lu:Lim us) (hv:vs.length=16) (lv:Lim vs) (hV:val vs<4294967296 ^ n) (hjn:j+n≤16) (hsm:val us<4294967296 ^ (j+n+1)) (hd:d<4294967296) (bu T:Nat) (w:World) (hbu:w.heap[bu]? = some (.cells (uw us).toArray T (0,0))) :
    Calls prog 254 [.pointer (some ⟨bu,0,none⟩),UV vs,.int .i64 (n:Int),.int .i64 (j:Int),.int .u64 (d:Int)].toArray w (fun e w'=>∃ x:List Nat×Nat,e = .returned (.bool (((x.2:Nat):Int)==1))∧ExtX [bu] w w'∧w'.heap[bu]? = some (.cells (uw x.1).toArray T (0,0))∧Took us (val vs) d j n x):=by
 refine OB (N:=78) (g:=fun x:List Nat×Nat=>.bool (((x.2:Nat):Int)==1)) (cs':=fun x:List Nat×Nat=>uw x.1) (Q:=fun x:List Nat×Nat=>Took us (val vs) d j n x) func254 O O zz_ hbu ?_;obtain ⟨w0,rfl⟩:=nm w;refine giI ?_;refine go_ ?_;refine aZ O (kV O O (fun b6 hb6=>tL ?_));refine bX (rg [11,12,13,14] 17 38) (fun g nn M=>∃ (i:Nat) (l:List Nat) (c bo:Nat),(g 11 = .int .u64 (c:Int)∧g 12 = .int .u64 (bo:Int)∧g 17 = .int .i64 (i:Int))∧M=[⟨b6,29,uw vs⟩,⟨bu,T,uw l⟩]∧nn=n - i∧(i≤n∧TakeIn us (val vs) d j i l c bo)) (n - 0) ?start ?round
 case start =>
  refine ⟨_,(List.Sublist.refl _),0,us,0,0,⟨?a11,?a12,?a17⟩,?mem0,rfl,⟨Nat.zero_le _,TakeIn.start hu lu _ _ _⟩⟩
  case mem0=>rfl
  case a11=>rfl
  case a12=>rfl
  case a17=>rfl
 case round =>
  rintro nn g M ⟨i,l,c,bo,⟨hg11,hg12,hg17⟩,rfl,hmeas,⟨hi,hT⟩⟩;subst nn;refine gS3 hg11 hg12 hg17 ?_;clear hg11 hg12 hg17;refine go4 ?_;refine aH _ O (fun hc=>?_) (fun hc=>?_)
  ·replace hc:=cB_ hc
   have hc:i<n:=by omega
   refine BG ?_;refine sQ (fL arT O O oo_ oo_) O (sQ (dR tyT O mm_ (vJ oo_)) O ?_);refine sQ (eX jA gI O) O (go_ ?_);refine sQ (aY (j9 O O) (congrArg (Value.int .u64) (cn_ hT.clt hd (eH lv i)))) O (go6 ?_);refine sQ (aY (j9 O O) (congrArg (Value.int .i64) (pT oo_))) O (go_ ?_);refine sQ (fL arT O O oo_ oo_) O (sQ (dR tyT O mm_ (vJ (by rw [hT.len];omega))) O ?_);refine sQ (eX jA gI O) O (go_ ?_);refine sQ (aY (eX gI jA O) (qQ _)) O (sQ (eX jA gI O) O (go2 ?_));refine sQ (aY (qV O O) (congrArg (Value.int .u64) (aX_ hT.ble (eH hT.lim _) (Nat.mod_lt _ dd_)))) O (go6 ?_);refine sQ (aY (j9 O O) (congrArg (Value.int .i64) (pT oo_))) O (go_ ?_);refine sQ (aY (eX gI jA O) (qQ _)) O (go_ ?_);refine sQ (fL arT O O oo_ oo_) O (aZ O (o8 tyT O O uu_ (by rw [hT.len];omega) (by first|exact .inl fR|exact .inr (List.mem_singleton.2 O)) ?_));refine go3 ?_;refine sQ (aY (wS O O dd_) (congrArg (Value.int .u64) (tB _ 63))) O (go4 ?_);refine sQ (aY (wS O O dd_) (congrArg (Value.int .u64) (tB _ 32))) O (go3 ?_);refine sQ (aY (j9 O O) (congrArg (Value.int .i64) (lD oo_))) O (go2 ?_);refine ⟨pp_,_,_,(List.Sublist.refl _),oo_,i+1,_,_,_,⟨?s11,?s12,?s17⟩,?mem,rfl,⟨by omega,RS hT lv oo_ hd⟩⟩
   case mem=>rfl
   case s11=>rfl
   case s12=>rfl
   case s17=>rfl
  replace hc:=cB_ hc
  obtain rfl:n=i:=by omega
  refine go5 ?_;refine sQ (aY (j9 O O) (congrArg (Value.int .i64) (pT oo_))) O (go_ ?_);refine sQ (fL arT O O oo_ oo_) O (sQ (dR tyT O mm_ (vJ (by rw [hT.len];omega))) O ?_);refine sQ (eX jA gI O) O (go3 ?_);refine sQ (aY (qV O O) (congrArg (Value.int .u64) (cl_ hT.ble (eH hT.lim _) hT.clt))) O (go6 ?_);refine sQ (aY (j9 O O) (congrArg (Value.int .i64) (pT oo_))) O (go_ ?_);refine sQ (aY (eX gI jA O) (qQ _)) O (go_ ?_);refine sQ (fL arT O O oo_ oo_) O (aZ O (o8 tyT O O uu_ (by rw [hT.len];omega) (by first|exact .inl fR|exact .inr (List.mem_singleton.2 O)) ?_));refine go3 ?_;refine sQ (aY (wS O O dd_) (congrArg (Value.int .u64) (tB _ 63))) O (go4 ?_);refine rt1 ?_;exact ⟨(_,_),rfl,by first|exact .tail _ (.head _)|exact .head _,TakeIn.took hT oo_ hV lu hsm⟩
theorem JH (us vs:List Nat) (n j:Nat) (hu:us.length=17) (lu:Lim us) (hv:vs.length=16) (lv:Lim vs) (hV:val vs<4294967296 ^ n) (hjn:j+n≤16) (hsm:val us<4294967296 ^ (j+n+1)) (bu T:Nat) (w:World) (hbu:w.heap[bu]? = some (.cells (uw us).toArray T (0,0))) :
    Calls prog 255 [.pointer (some ⟨bu,0,none⟩),UV vs,.int .i64 (n:Int),.int .i64 (j:Int)].toArray w (fun e w'=>∃ x:List Nat,e = .returned (.tuple #[])∧ExtX [bu] w w'∧w'.heap[bu]? = some (.cells (uw x).toArray T (0,0))∧Gave us (val vs) j n x):=by
 refine OB (N:=52) (g:=fun x:List Nat=>.tuple #[]) (cs':=fun x:List Nat=>uw x) (Q:=fun x:List Nat=>Gave us (val vs) j n x) func255 O O zz_ hbu ?_;obtain ⟨w0,rfl⟩:=nm w;refine giI ?_;refine go_ ?_;refine aZ O (kV O O (fun b5 hb5=>j0 ?_));refine bX (rg [8,9] 11 29) (fun g nn M=>∃ (i:Nat) (l:List Nat) (c:Nat),(g 8 = .int .u64 (c:Int)∧g 11 = .int .i64 (i:Int))∧M=[⟨b5,29,uw vs⟩,⟨bu,T,uw l⟩]∧nn=n - i∧(i≤n∧GiveIn us (val vs) j i l c)) (n - 0) ?start ?round
 case start =>
  refine ⟨_,(List.Sublist.refl _),0,us,0,⟨?a8,?a11⟩,?mem0,rfl,⟨Nat.zero_le _,GiveIn.start hu lu _ _⟩⟩
  case mem0=>rfl
  case a8=>rfl
  case a11=>rfl
 case round =>
  rintro nn g M ⟨i,l,c,⟨hg8,hg11⟩,rfl,hmeas,⟨hi,hT⟩⟩;subst nn;refine gS2 hg8 hg11 ?_;clear hg8 hg11;refine go4 ?_;refine aH _ O (fun hc=>?_) (fun hc=>?_)
  ·replace hc:=cB_ hc
   have hc:i<n:=by omega
   refine go8 ?_;refine kU (sk (sk s0)) 16 [] [] (go4 ?_);refine pQ O (aY (j9 O O) (congrArg (Value.int .i64) (pT oo_))) (go_ ?_);refine pQ O (fL arT O O oo_ oo_) (pQ O (dR tyT O mm_ (vJ (by rw [hT.len];omega))) ?_);refine pQ O (eX jA gI O) (go_ ?_);refine pQ O (fL arT O O oo_ oo_) (pQ O (dR tyT O mm_ (vJ oo_)) ?_);refine pQ O (eX jA gI O) (go_ ?_);refine pQ O (aY (j9 O O) (congrArg (Value.int .u64) (bF_ hT.cle (eH hT.lim _) (eH lv i)))) (go6 ?_);refine sQ (aY (j9 O O) (congrArg (Value.int .i64) (pT oo_))) O (go_ ?_);refine sQ (aY (eX gI jA O) (qQ _)) O (go_ ?_);refine sQ (fL arT O O oo_ oo_) O (aZ O (o8 tyT O O uu_ (by rw [hT.len];omega) (by first|exact .inl fR|exact .inr (List.mem_singleton.2 O)) ?_));refine go3 ?_;refine sQ (aY (wS O O dd_) (congrArg (Value.int .u64) (tB _ 32))) O (go3 ?_);refine sQ (aY (j9 O O) (congrArg (Value.int .i64) (lD oo_))) O (go2 ?_);refine ⟨pp_,_,_,(List.Sublist.refl _),oo_,i+1,_,_,⟨?s8,?s11⟩,?mem,rfl,⟨by omega,QX hT lv oo_⟩⟩
   case mem=>rfl
   case s8=>rfl
   case s11=>rfl
  replace hc:=cB_ hc
  obtain rfl:n=i:=by omega
  refine go_ ?_;refine kU (sk (sd s0)) 13 [12] [12] (go3 ?_);refine pQ O (aY (j9 O O) (congrArg (Value.int .i64) (pT oo_))) (go_ ?_);refine pQ O (fL arT O O oo_ oo_) (pQ O (dR tyT O mm_ (vJ (by rw [hT.len];omega))) ?_);refine go_ ?_;refine pQ O (eX gI jA O) (pQ O (aY (j9 O O) (bE_ (eH hT.lim _) hT.cle)) (go_ ?_));refine pQ O (fL arT O O oo_ oo_) ?_;refine bP O O (o8 tyT O O uu_ (by rw [hT.len];omega) (by first|exact .inl fR|exact .inr (List.mem_singleton.2 O)) ⟨nf,ss_,?_⟩);refine go_ ?_;refine eL_ O (.inl O) ?_;exact ⟨_,rfl,by first|exact .tail _ (.head _)|exact .head _,GiveIn.gave hT oo_ hV lu hsm⟩
end Go.Proofs.YtkjjponijamaoaaGreatDoor
