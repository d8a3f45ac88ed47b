/- Lemmas: what they ask stands in their statements. -/
import Derived.Test.YtkjjponijamaoaaGreatDoorTFa0
set_option linter.unusedSimpArgs false
set_option linter.unusedVariables false
set_option maxHeartbeats 8000000
set_option maxRecDepth 20000
namespace Go.Proofs.YtkjjponijamaoaaGreatDoor
open Go.Kn Go.Num Tryz
attribute [local irreducible] Go.Kn.W WL PL OpQ OpR OpS
theorem vR (r:R) (h:r.Ok) :
    Ret prog 203 [RV r] (.bool r.valid):=by
 refine bL (N:=23) func203 rfl rfl (by simp) (fun w0=>?_);simp only [bO,Nat.reduceAdd];refine go_ ?_;refine bD rfl (mB rfl rfl (fun b1 hb1=>go3 ?_));refine sQ (cU fdT dd_ rfl) rfl (sQ (kS (vs:=uw r.w) tyT rfl mm_ (oD h.len) ((j1 _).trans h.len)) rfl ?_);refine sQ (tF tK arT rfl (.nil _)) rfl ?_;refine sQ (vT (r:=r.zero) rfl rfl (oB 8 dd_ LP MJ (rI h.len) (rI (by simp)) h.zero_iff)) rfl ?_;refine go4 ?_;refine sQ (cU fdT dd_ rfl) rfl (sQ (eM tyT rfl mm_ rfl) rfl ?_);refine go_ ?_;refine aH _ rfl (fun hb=>?_) (fun hb=>?_)
 ·replace hb:=cB_ hb
  refine go3 ?_
  cases hz:r.zero
  ·refine go7 ?_;refine bA rfl (.inr rfl) rfl ?_
   simp [R.valid, *]
  refine sQ (cU fdT dd_ rfl) rfl (sQ (eM tyT rfl mm_ rfl) rfl ?_);refine go5 ?_;refine bA rfl (.inr rfl) rfl ?_
  simp [R.valid, *]
 replace hb:=cB_ hb
 refine go5 ?_
 cases hz:r.zero
 ·refine go7 ?_;refine bA rfl (.inr rfl) rfl ?_
  simp [R.valid, *]
 refine sQ (cU fdT dd_ rfl) rfl (sQ (eM tyT rfl mm_ rfl) rfl ?_);refine go5 ?_;refine bA rfl (.inr rfl) rfl ?_
 simp [R.valid, *]
theorem gX  :
    Ret prog 77 [] (RV Z.bad.enc):=by
 refine bL (N:=2) func77 rfl rfl (by simp) (fun w0=>?_);simp only [bO,Nat.reduceAdd];refine go_ ?_;refine bD rfl (fP kN (fun b0 hb0=>go2 ?_));refine sQ (z5 kN plT rfl (.cons rfl (vs:=[.bool true]) rfl rfl (by simp [zR]) (z':=Z.bad.enc.cells) rfl (.nil _))) rfl ?_;refine bD rfl (cC tyT rfl rfl uu_ rfl rfl (bV Z.bad.enc) (.inl (by assumption)) ?_);refine go2 ?_;refine bA rfl (.inr rfl) ⟨_,_,_,_,_,_,rfl,mm_,tyT,_,(eC rfl),rfl,rfl⟩ ?_;exact rfl
theorem gL (neg:Bool) (w:List Nat) (hw:w.length=16) (hlim:Lim w) :
    Ret prog 121 [.bool neg,UV w] (RV ⟨false,neg && !(val w==0),w⟩):=by
 refine bL (N:=13) func121 rfl rfl (by simp) (fun w0=>?_);simp only [bO,Nat.reduceAdd]
 have hlw:(uw w).length=16:=by rw [j1,hw]
 refine go_ ?_;refine bD rfl (mB rfl rfl (fun b3 hb3=>bD rfl (fP kN (fun b4 hb4=>go2 ?_))));refine jQ (sd (sk (s0))) 9 [8] [8] (go2 ?_)
 cases neg
 ·refine go4 ?_;refine pQ rfl (cP tyT rfl mm_ hlw) ?_;refine pQ rfl (z5 kN plT rfl (bf_ hw)) ?_;refine cF rfl rfl (cC tyT rfl rfl uu_ (by simp [R.cells,hlw]) rfl (bV _) (.inl (by assumption)) ⟨nf,ss_,?_⟩);refine go2 ?_;refine bA rfl (.inr rfl) ⟨_,_,_,_,_,_,rfl,mm_,tyT,_,(eC (by simp [R.cells,hlw])),(by simp [R.cells,hlw]),rfl⟩ ?_;rfl
 refine pQ rfl (cP tyT rfl mm_ hlw) ?_;refine pQ rfl (tF tK arT rfl (.nil _)) ?_;refine pQ rfl (DC (r:=(val w==0)) rfl rfl (oB 8 dd_ LP MJ (rI hw) (rI (by simp)) (F1 hw hlim))) ?_;refine go_ ?_;refine pQ rfl (cP tyT rfl mm_ hlw) ?_;refine pQ rfl (z5 kN plT rfl (bf_ hw)) ?_;refine cF rfl rfl (cC tyT rfl rfl uu_ (by simp [R.cells,hlw]) rfl (bV _) (.inl (by assumption)) ⟨nf,ss_,?_⟩);refine go2 ?_;refine bA rfl (.inr rfl) ⟨_,_,_,_,_,_,rfl,mm_,tyT,_,(eC (by simp [R.cells,hlw])),(by simp [R.cells,hlw]),rfl⟩ ?_;rfl
theorem kB (rs:List R) (hrs:∀ r∈rs,r.Ok) (b T:Nat) (w:World) (hb:w.heap[b]? = some (.cells (rs.flatMap R.cells).toArray T (0,0))) (hn:rs.length≤1000) :
    Calls prog 119 [.slice (some ⟨b,0,none⟩) rs.length rs.length].toArray w (fun e w'=>e = .returned (.bool (rs.all R.good))∧Ext w w'):=by
 refine cS (N:=19) func119 rfl rfl (by simp) ?_;obtain ⟨w0,rfl⟩:∃ w0,w0=w:=⟨_,rfl⟩;simp only [bO,Nat.reduceAdd];refine go6 ?_;refine sQ (DW pF rfl) rfl (go3 ?_);refine cK [2,4,7,8,9,10,11,12,13,14,15,16,17,18] (fun g nn M=>∃ (k:Nat),(g 7 = .int .i64 (k:Int))∧M=[]∧nn=rs.length - k∧(k≤rs.length∧(rs.take k).all R.good=true)) (rs.length - 0) ?start ?round
 case start =>
  refine ⟨_,(List.Sublist.refl _),0,?a7,?mem0,rfl,⟨Nat.zero_le _,rfl⟩⟩
  case mem0=>rfl
  case a7=>rfl
 case round =>
  rintro nn g M ⟨k,hg7,rfl,hmeas,⟨hk,hall⟩⟩;subst nn;simp only [fF,hg7];clear hg7;refine go4 ?_;refine aH _ rfl (fun hc=>?_) (fun hc=>?_)
  ·replace hc:=cB_ hc
   obtain ⟨r,hr⟩:∃ r,rs[k]? = some r:=⟨_,List.getElem?_eq_getElem oo_⟩;have hrok:=hrs r (List.mem_of_getElem? hr);refine go4 ?_;refine sQ (tU pF rfl rfl oo_ oo_) rfl (sQ (TS (vs:=r.cells) tyT rfl hb (by simp) (by rw [show (0+(k:Int).toNat * 18)=k * 18 by omega];exact HZ R.cells 18 rs k r (fun y hy=>cT (hrs y hy)) hr) (cT hrok)) rfl ?_);refine bD rfl (fP kN (fun b4 hb4=>bD rfl (cC tyT rfl rfl uu_ (cT hrok) rfl (bV _) (.inl (by assumption)) ?_)));refine go2 ?_;refine sQ (cU fdT dd_ rfl) rfl (sQ (eM tyT rfl mm_ rfl) rfl ?_);refine go_ ?_
   cases hbad:r.bad
   ·refine sQ (cP tyT rfl mm_ (cT hrok)) rfl ?_;refine sQ (bI aB (vR r hrok) rfl) rfl (go3 ?_);refine aH _ rfl (fun hx=>?_) (fun hx=>?_)
    ·replace hx:=cB_ hx
     skip
     refine go4 ?_;refine bA rfl (.inr rfl) rfl ?_;exact congrArg Value.bool (G3 hr (by simp [R.good,hbad,hx]))
    replace hx:=cB_ hx
    skip
    refine go5 ?_;refine ⟨pp_,_,_,(List.Sublist.cons _ (List.Sublist.refl _)),oo_,k+1,?s7,?mem,rfl,⟨by omega,by rw [OC oo_ hr];simp [hall,R.good,hbad,hx]⟩⟩
    case mem=>rfl
    case s7=>(show Value.int .i64 _=_;rw [cO (by unfold I64;omega)];rfl)
   refine jT ?_;refine bA rfl (.inr rfl) rfl ?_;exact congrArg Value.bool (G3 hr (by simp [R.good,hbad]))
  replace hc:=cB_ hc
  have hke:k=rs.length:=by omega
  refine go5 ?_;refine bA rfl (.inr rfl) rfl ?_
  (subst hke;rw [List.take_length] at hall;exact congrArg Value.bool hall.symm)
theorem NX (xs ys:List Nat) (hx:xs.length=16) (hy:ys.length=16) (lx:Lim xs) (ly:Lim ys) :
    Ret prog 122 [UV xs,UV ys] (.tuple #[UV (toL 16 (val xs+val ys)),.bool (((cy (val xs) (val ys) 16:Nat):Int)==0)]):=by
 refine bL (N:=33) func122 rfl rfl (by simp) (fun w0=>?_);simp only [bO,Nat.reduceAdd];refine go_ ?_;refine bD rfl (mB rfl rfl (fun b2 hb2=>bD rfl (mB rfl rfl (fun b3 hb3=>bD rfl (fP tK (fun b4 hb4=>go3 ?_))))));refine bD rfl (fP tK (fun b6 hb6=>go9 ?_));refine cK [7,8,9,10,11,12,13,14,15,16,17,18,19,20,21,22,23,24,25,26,27,28,29] (fun g nn M=>∃ (k:Nat),(g 7 = .int .u64 ((cy (val xs) (val ys) k:Nat):Int)∧g 9 = .int .i64 (k:Int))∧M=[⟨b6,29,uw (B2 k (val xs+val ys) 16)⟩,⟨b4,29,uw (List.replicate 16 0)⟩,⟨b3,29,uw ys⟩,⟨b2,29,uw xs⟩]∧nn=16 - k∧(k≤16)) (16) ?start ?round
 case start =>
  refine ⟨_,(List.Sublist.refl _),0,⟨?a7,?a9⟩,?mem0,rfl,Nat.zero_le _⟩
  case mem0=>rw [C5]
  case a7=>rw [do_];rfl
  case a9=>rfl
 case round =>
  rintro nn g M ⟨k,⟨hg7,hg9⟩,rfl,hmeas,hk⟩;subst nn;simp only [fF,hg7,hg9];clear hg7 hg9;refine go4 ?_;refine aH _ rfl (fun hc=>?_) (fun hc=>?_)
  ·replace hc:=cB_ hc
   have hc:k<16:=by omega
   have hcy:=g0_ (val xs) (val ys) k;refine go8 ?_;refine jQ (sk (sk (sk (sk (s0))))) 12 [] [] (go2 ?_);refine pQ rfl (gQ arT rfl rfl oo_ oo_) (pQ rfl (eM tyT rfl mm_ (xU oo_)) ?_);refine pQ rfl (fW j6 iQ rfl) (go_ ?_);refine pQ rfl (gQ arT rfl rfl oo_ oo_) (pQ rfl (eM tyT rfl mm_ (xU oo_)) ?_);refine pQ rfl (fW j6 iQ rfl) (go_ ?_);refine pQ rfl (aL (lE rfl rfl) (congrArg (Value.int .u64) (ge_ hcy (fJ lx k) (fJ ly k)))) (go5 ?_);refine sQ (aL (fW iQ j6 rfl) (tB _)) rfl (sQ (gQ arT rfl rfl oo_ oo_) rfl (bD rfl (rE tyT rfl rfl uu_ (by rw [lY _ hk];exact hc) (.inl (by assumption)) ?_)));refine go3 ?_;refine sQ (aL (yZ rfl rfl dd_) (congrArg (Value.int .u64) (vK _ 32))) rfl (go6 ?_);refine ⟨pp_,_,_,(List.Sublist.refl _),oo_,k+1,⟨?s7,?s9⟩,?mem,rfl,oo_⟩
   case mem=>rw [gS xs k lx,gS ys k ly,VZ,B3 _ hc]
   case s7=>rw [← VY,← gS xs k lx,← gS ys k ly];rfl
   case s9=>exact congrArg (Value.int .i64) (cO (n:=(k:Int)+1) (by unfold I64;omega))
  replace hc:=cB_ hc
  obtain rfl:k=16:=by omega
  refine go2 ?_;refine sQ (cP tyT rfl mm_ (by simp [uw,lY])) rfl ?_;refine go2 ?_;refine bD rfl (cC tyT rfl rfl uu_ (by simp [uw,lY]) rfl (kH _) (.inl (by assumption)) ?_);refine go3 ?_;refine l8 rfl (.inr rfl) ⟨_,_,_,_,_,_,rfl,mm_,tyT,_,(eC (by simp [uw,lY])),(by simp [uw,lY]),rfl⟩ rfl ?_;rw [FN];rfl
theorem y9 (xs ys:List Nat) (hx:xs.length=16) (hy:ys.length=16) (lx:Lim xs) (ly:Lim ys) (hle:val ys≤val xs) :
    Ret prog 124 [UV xs,UV ys] (UV (toL 16 (val xs - val ys))):=by
 refine bL (N:=31) func124 rfl rfl (by simp) (fun w0=>?_);simp only [bO,Nat.reduceAdd];refine go_ ?_;refine bD rfl (mB rfl rfl (fun b2 hb2=>bD rfl (mB rfl rfl (fun b3 hb3=>bD rfl (fP tK (fun b4 hb4=>go2 ?_))))));refine bD rfl (fP tK (fun b5 hb5=>go9 ?_));refine cK [6,7,8,9,10,11,12,13,14,15,16,17,18,19,20,21,22,23,24,25,26,27,28,29] (fun g nn M=>∃ (k:Nat),(g 6 = .int .u64 ((bw (val xs) (val ys) k:Nat):Int)∧g 9 = .int .i64 (k:Int))∧M=[⟨b5,29,uw (B2 k (val xs - val ys) 16)⟩,⟨b4,29,uw (List.replicate 16 0)⟩,⟨b3,29,uw ys⟩,⟨b2,29,uw xs⟩]∧nn=16 - k∧(k≤16)) (16) ?start ?round
 case start =>
  refine ⟨_,(List.Sublist.refl _),0,⟨?a6,?a9⟩,?mem0,rfl,Nat.zero_le _⟩
  case mem0=>rw [C5]
  case a6=>rw [df_];rfl
  case a9=>rfl
 case round =>
  rintro nn g M ⟨k,⟨hg6,hg9⟩,rfl,hmeas,hk⟩;subst nn;simp only [fF,hg6,hg9];clear hg6 hg9;refine go4 ?_;refine aH _ rfl (fun hc=>?_) (fun hc=>?_)
  ·replace hc:=cB_ hc
   have hc:k<16:=by omega
   have hbw:=gW_ (val xs) (val ys) k;refine go8 ?_;refine jQ (sk (sk (sk (sk (s0))))) 12 [] [] (go_ ?_);refine pQ rfl (gQ arT rfl rfl oo_ oo_) (pQ rfl (eM tyT rfl mm_ (xU oo_)) ?_);refine pQ rfl (fW j6 iQ rfl) (go_ ?_);refine pQ rfl (gQ arT rfl rfl oo_ oo_) (pQ rfl (eM tyT rfl mm_ (xU oo_)) ?_);refine pQ rfl (fW j6 iQ rfl) (go2 ?_);refine pQ rfl (aL (sK rfl rfl) (congrArg (Value.int .u64) (XJ hbw (fJ lx k) (fJ ly k)))) (go5 ?_);refine sQ (aL (fW iQ j6 rfl) (tB _)) rfl (sQ (gQ arT rfl rfl oo_ oo_) rfl (bD rfl (rE tyT rfl rfl uu_ (by rw [lY _ hk];exact hc) (.inl (by assumption)) ?_)));refine go3 ?_;refine sQ (aL (yZ rfl rfl dd_) (congrArg (Value.int .u64) (vK _ 63))) rfl (go6 ?_);refine ⟨pp_,_,_,(List.Sublist.refl _),oo_,k+1,⟨?s6,?s9⟩,?mem,rfl,oo_⟩
   case mem=>rw [gS xs k lx,gS ys k ly,TA k hle,B3 _ hc]
   case s6=>rw [← QN,← gS xs k lx,← gS ys k ly];rfl
   case s9=>exact congrArg (Value.int .i64) (cO (n:=(k:Int)+1) (by unfold I64;omega))
  replace hc:=cB_ hc
  obtain rfl:k=16:=by omega
  refine go2 ?_;refine sQ (cP tyT rfl mm_ (by simp [uw,lY])) rfl ?_;refine bD rfl (cC tyT rfl rfl uu_ (by simp [uw,lY]) rfl (kH _) (.inl (by assumption)) ?_);refine go2 ?_;refine bA rfl (.inr rfl) ⟨_,_,_,_,_,_,rfl,mm_,tyT,_,(eC (by simp [uw,lY])),(by simp [uw,lY]),rfl⟩ ?_;rw [FN];rfl
theorem JA (x:Nat) :
    Ret prog 250 [U32 x] (.bool false):=by
 refine bL (N:=6) func250 rfl rfl (by simp) (fun w0=>?_);simp only [bO,Nat.reduceAdd];refine go6 ?_;refine sQ (aL (eQ_ rfl rfl) (congrArg Value.bool (bne_self_eq_false _))) rfl (go3 ?_);refine bA rfl (.inr rfl) rfl ?_;exact rfl
theorem Y2 (x y:Nat) :
    Ret prog 204 [U32 x,U32 y] (.int .i64 (zC x y)):=by
 refine bL (N:=20) func204 rfl rfl (by simp) (fun w0=>?_);simp only [bO,Nat.reduceAdd];refine go5 ?_;refine sQ (bI aB (JA x) rfl) rfl (go4 ?_);refine sQ (bI aB (JA y) rfl) rfl (fR_ ?_);refine aH _ rfl (fun h1=>?_) (fun h1=>?_)
 ·replace h1:=cB_ h1
  refine go4 ?_;refine bA rfl (.inr rfl) rfl ?_;exact congrArg _ (AU h1).symm
 replace h1:=cB_ h1
 refine go7 ?_;refine aH _ rfl (fun h2=>?_) (fun h2=>?_)
 ·replace h2:=cB_ h2
  refine go4 ?_;refine bA rfl (.inr rfl) rfl ?_;exact congrArg _ (AT h2).symm
 replace h2:=cB_ h2
 refine go5 ?_;refine bA rfl (.inr rfl) rfl ?_
 (obtain rfl:x=y:=by omega);exact congrArg _ (G5 _).symm
theorem rX (xs ys:List Nat) (hx:xs.length=16) (hy:ys.length=16) (lx:Lim xs) (ly:Lim ys) :
    Ret prog 123 [UV xs,UV ys] (.int .i64 (zC (val xs) (val ys))):=by
 refine bL (N:=24) func123 rfl rfl (by simp) (fun w0=>?_);simp only [bO,Nat.reduceAdd];refine go_ ?_;refine bD rfl (mB rfl rfl (fun b2 hb2=>bD rfl (mB rfl rfl (fun b3 hb3=>go7 ?_))));refine cK [4,5,6,7,8,9,10,11,12,13,14,15,16,17,18,19,20,21,22,23] (fun g nn M=>∃ (k:Nat),(g 5 = .int .i64 ((k:Int) - 1))∧M=[⟨b3,29,uw ys⟩,⟨b2,29,uw xs⟩]∧nn=k+0∧(k≤16∧xs.drop k=ys.drop k)) (16) ?start ?round
 case start =>
  refine ⟨_,(List.Sublist.refl _),16,?a5,?mem0,rfl,⟨Nat.le_refl _,by rw [List.drop_eq_nil_of_le oo_,List.drop_eq_nil_of_le oo_]⟩⟩
  case mem0=>rfl
  case a5=>rfl
 case round =>
  rintro nn g M ⟨k,hg5,rfl,hmeas,⟨hk,hd⟩⟩;subst nn;simp only [fF,hg5];clear hg5;refine go5 ?_;refine aH _ rfl (fun hc=>?_) (fun hc=>?_)
  ·replace hc:=cB_ hc
   obtain ⟨m,rfl⟩:∃ m,k=m+1:=⟨k - 1,by omega⟩;refine go4 ?_;refine jQ (sk (sk (s0))) 7 [] [] (pQ rfl (aL (mV rfl) (congrArg (Value.int .i64) (show (((m+1:Nat):Int) - 1)=(m:Int) by omega))) (pQ rfl (gQ arT rfl rfl oo_ oo_) (pQ rfl (eM tyT rfl mm_ (xU oo_)) ?_)));refine pQ rfl (aL (mV rfl) (congrArg (Value.int .i64) (show (((m+1:Nat):Int) - 1)=(m:Int) by omega))) (pQ rfl (gQ arT rfl rfl oo_ oo_) (pQ rfl (eM tyT rfl mm_ (xU oo_)) ?_));refine go2 ?_;refine aH _ rfl (fun hne=>?_) (fun hne=>?_)
   ·replace hne:=cB_ hne
    refine go_ ?_;refine jQ (sk (sk (s0))) 8 [] [] (pQ rfl (aL (mV rfl) (congrArg (Value.int .i64) (show (((m+1:Nat):Int) - 1)=(m:Int) by omega))) (pQ rfl (gQ arT rfl rfl oo_ oo_) (pQ rfl (eM tyT rfl mm_ (xU oo_)) ?_)));refine pQ rfl (aL (mV rfl) (congrArg (Value.int .i64) (show (((m+1:Nat):Int) - 1)=(m:Int) by omega))) (pQ rfl (gQ arT rfl rfl oo_ oo_) (pQ rfl (eM tyT rfl mm_ (xU oo_)) ?_));refine pQ rfl (bI aB (Y2 _ _) rfl) (go3 ?_);refine bA rfl (.inr rfl) rfl ?_;exact congrArg _ (VW lx ly oo_ hd oo_)
   replace hne:=cB_ hne
   refine go2 ?_;refine sQ (aL (mV rfl) (congrArg (Value.int .i64) (show (((m+1:Nat):Int) - 1)=(m:Int) by omega))) rfl (go3 ?_);refine ⟨pp_,_,_,(List.Sublist.refl _),oo_,m,?s5,?mem,rfl,⟨by omega,P7 oo_ hd oo_ oo_⟩⟩
   case mem=>rfl
   case s5=>exact congrArg (Value.int .i64) (cO (n:=(m:Int) - 1) (by unfold I64;omega))
  replace hc:=cB_ hc
  obtain rfl:k=0:=by omega
  refine go5 ?_;refine bA rfl (.inr rfl) rfl ?_
  (rw [List.drop_zero,List.drop_zero] at hd;subst hd;exact congrArg _ (G5 _).symm)
theorem rJ (xs:List Nat) (hx:xs.length=16) :
    Ret prog 120 [UV xs] (.int .i64 ((szL xs:Nat):Int)):=by
 refine bL (N:=16) func120 rfl rfl (by simp) (fun w0=>?_);simp only [bO,Nat.reduceAdd];refine go_ ?_;refine bD rfl (mB rfl rfl (fun b1 hb1=>go7 ?_));refine cK [3,4,5,6,7,8,9,10,11,12,13,14] (fun g nn M=>∃ (k:Nat),(g 3 = .int .i64 (k:Int))∧M=[⟨b1,29,uw xs⟩]∧nn=k+0∧(k≤16∧∀ j,k≤j→xs.getD j 0=0)) (16) ?start ?round
 case start =>
  refine ⟨_,(List.Sublist.refl _),16,?a3,?mem0,rfl,⟨Nat.le_refl _,fun j hj=>by simp [List.getD,List.getElem?_eq_none (show xs.length≤j by omega)]⟩⟩
  case mem0=>rfl
  case a3=>rfl
 case round =>
  rintro nn g M ⟨k,hg3,rfl,hmeas,⟨hk,hhi⟩⟩;subst nn;simp only [fF,hg3];clear hg3;refine go5 ?_
  cases hz:decide ((0:Int)<(k:Int))
  ·refine AH ?_;refine bA rfl (.inr rfl) rfl ?_;exact congrArg (fun n:Nat=>Value.int .i64 (n:Int)) (RH hhi (.inl (by have:=of_decide_eq_false hz;omega))).symm
  have hz':=of_decide_eq_true hz;obtain ⟨m,rfl⟩:∃ m,k=m+1:=⟨k - 1,by omega⟩;refine go_ ?_;refine sQ (aL (sK rfl rfl) (congrArg (Value.int .i64) (CK oo_))) rfl (sQ (gQ arT rfl rfl oo_ oo_) rfl (sQ (eM tyT rfl mm_ (xU oo_)) rfl ?_));refine go3 ?_;refine aH _ rfl (fun h0=>?_) (fun h0=>?_)
  ·replace h0:=cB_ h0
   refine go4 ?_;refine sQ (aL (sK rfl rfl) (congrArg (Value.int .i64) (CK oo_))) rfl (go2 ?_);refine ⟨pp_,_,_,(List.Sublist.refl _),oo_,m,?s3,?mem,rfl,⟨by omega,fun j hj=>by rcases Nat.eq_or_lt_of_le hj with rfl | hj;omega;exact hhi j hj⟩⟩
   case mem=>rfl
   case s3=>rfl
  replace h0:=cB_ h0
  refine go6 ?_;refine bA rfl (.inr rfl) rfl ?_;exact congrArg (fun n:Nat=>Value.int .i64 (n:Int)) (RH hhi (.inr (by simp only [Nat.add_sub_cancel];omega))).symm
theorem BT (a:R) (ha:a.Ok) :
    Ret prog 125 [RV a] (RV (Z.neg a.dec).enc):=by
 refine bL (N:=14) func125 rfl rfl (by simp) (fun w0=>?_);simp only [bO,Nat.reduceAdd];refine go_ ?_;refine bD rfl (mB rfl rfl (fun b1 hb1=>bD rfl (fP kN (fun b2 hb2=>go3 ?_))));refine sQ (cP tyT rfl mm_ (cT ha)) rfl ?_;refine bD rfl (lF kL kN lG rfl dd_ rfl (zV ha) (fun b4 hb4=>sQ (bT aB rfl (fun w hw=>kB [a] (ok1 ha) b4 31 w (hw.mem _ m0) (by simp))) rfl ?_));refine go2 ?_;refine aH _ rfl (fun hg=>?_) (fun hg=>?_)
 ·replace hg:=cB_ hg
  refine go_ ?_;refine sQ (bI aB gX rfl) rfl (bD rfl (cC tyT rfl rfl uu_ (aF _) rfl (bV _) (.inl (by assumption)) ?_));refine go2 ?_;refine bA rfl (.inr rfl) ⟨_,_,_,_,_,_,rfl,mm_,tyT,_,(eC (aF _)),(aF _),rfl⟩ ?_
  (rw [Z.neg,CC (TD hg)];rfl)
 replace hg:=cB_ hg
 refine go2 ?_;refine sQ (cU fdT dd_ rfl) rfl (sQ (eM tyT rfl mm_ rfl) rfl ?_);refine go_ ?_;refine sQ (cU fdT dd_ rfl) rfl (sQ (kS (vs:=uw a.w) tyT rfl mm_ (oD ha.len) ((j1 _).trans ha.len)) rfl ?_);refine sQ (bI aB (gL (!a.neg) a.w ha.len ha.lim) rfl) rfl (bD rfl (cC tyT rfl rfl uu_ (kV ha.len) rfl (bV _) (.inl (by assumption)) ?_));refine go2 ?_;refine bA rfl (.inr rfl) ⟨_,_,_,_,_,_,rfl,mm_,tyT,_,(eC (kV ha.len)),(kV ha.len),rfl⟩ ?_;exact congrArg RV (f6_ ha (by simpa using hg))
theorem GD (a:R) (ha:a.Ok) :
    Ret prog 207 [RV a] (RV (Z.abs a.dec).enc):=by
 refine bL (N:=11) func207 rfl rfl (by simp) (fun w0=>?_);simp only [bO,Nat.reduceAdd];refine go_ ?_;refine bD rfl (mB rfl rfl (fun b1 hb1=>bD rfl (fP kN (fun b2 hb2=>go3 ?_))));refine sQ (cP tyT rfl mm_ (cT ha)) rfl ?_;refine bD rfl (lF kL kN lG rfl dd_ rfl (zV ha) (fun b4 hb4=>sQ (bT aB rfl (fun w hw=>kB [a] (ok1 ha) b4 31 w (hw.mem _ m0) (by simp))) rfl ?_));refine go2 ?_;refine aH _ rfl (fun hg=>?_) (fun hg=>?_)
 ·replace hg:=cB_ hg
  refine go_ ?_;refine sQ (bI aB gX rfl) rfl (bD rfl (cC tyT rfl rfl uu_ (aF _) rfl (bV _) (.inl (by assumption)) ?_));refine go2 ?_;refine bA rfl (.inr rfl) ⟨_,_,_,_,_,_,rfl,mm_,tyT,_,(eC (aF _)),(aF _),rfl⟩ ?_
  (rw [Z.abs,CC (TD hg)];rfl)
 replace hg:=cB_ hg
 refine go2 ?_;refine sQ (cU fdT dd_ rfl) rfl (sQ (kS (vs:=uw a.w) tyT rfl mm_ (oD ha.len) ((j1 _).trans ha.len)) rfl ?_);refine sQ (bI aB (gL false a.w ha.len ha.lim) rfl) rfl (bD rfl (cC tyT rfl rfl uu_ (kV ha.len) rfl (bV _) (.inl (by assumption)) ?_));refine go2 ?_;refine bA rfl (.inr rfl) ⟨_,_,_,_,_,_,rfl,mm_,tyT,_,(eC (kV ha.len)),(kV ha.len),rfl⟩ ?_;exact congrArg RV (fp_ ha (by simpa using hg))
theorem oH (a b:R) (ha:a.Ok) (hb:b.Ok) :
    Ret prog 38 [RV a,RV b] (RV (Z.add a.dec b.dec).enc):=by
 refine bL (N:=55) func38 rfl rfl (by simp) (fun w0=>?_);simp only [bO,Nat.reduceAdd];refine go_ ?_;refine bD rfl (mB rfl rfl (fun b2 hb2=>bD rfl (mB rfl rfl (fun b3 hb3=>bD rfl (fP kN (fun b4 hb4=>go3 ?_))))));refine sQ (cP tyT rfl mm_ (cT ha)) rfl ?_;refine sQ (cP tyT rfl mm_ (cT hb)) rfl ?_;refine bD rfl (lF kL kN lG rfl dd_ rfl (QD ha hb) (fun b9 hb9=>sQ (bT aB rfl (fun w hw=>kB [a,b] (ok2 ha hb) b9 31 w (hw.mem _ m0) (by simp))) rfl ?_));refine go2 ?_;refine aH _ rfl (fun hg=>?_) (fun hg=>?_)
 ·replace hg:=cB_ hg
  refine go_ ?_;refine sQ (bI aB gX rfl) rfl (bD rfl (cC tyT rfl rfl uu_ (aF _) rfl (bV _) (.inl (by assumption)) ?_));refine go2 ?_;refine bA rfl (.inr rfl) ⟨_,_,_,_,_,_,rfl,mm_,tyT,_,(eC (aF _)),(aF _),rfl⟩ ?_
  (rw [Z.add,oU (HJ hg)];rfl)
 replace hg:=cB_ hg
 have hg:=all2.1 hg;refine go3 ?_;refine sQ (cU fdT dd_ rfl) rfl (sQ (eM tyT rfl mm_ rfl) rfl ?_);refine sQ (cU fdT dd_ rfl) rfl (sQ (eM tyT rfl mm_ rfl) rfl ?_);refine sQ (V0 F2 rfl rfl) rfl (go_ ?_);refine aH _ rfl (fun hn=>?_) (fun hn=>?_)
 ·replace hn:=cB_ hn
  refine go_ ?_;refine sQ (cU fdT dd_ rfl) rfl (sQ (kS (vs:=uw a.w) tyT rfl mm_ (oD ha.len) ((j1 _).trans ha.len)) rfl ?_);refine sQ (cU fdT dd_ rfl) rfl (sQ (kS (vs:=uw b.w) tyT rfl mm_ (oD hb.len) ((j1 _).trans hb.len)) rfl ?_);refine sQ (bI aB (NX a.w b.w ha.len hb.len ha.lim hb.lim) rfl) rfl (go3 ?_);refine bD rfl (fP tK (fun b5 hb5=>bD rfl (cC tyT rfl rfl uu_ (by rw [j1,dI]) rfl (kH _) (.inl (by assumption)) ?_)));refine go7 ?_;refine aH _ rfl (fun hc=>?_) (fun hc=>?_)
  ·replace hc:=cB_ hc
   refine go_ ?_;refine sQ (bI aB gX rfl) rfl (bD rfl (cC tyT rfl rfl uu_ (aF _) rfl (bV _) (.inl (by assumption)) ?_));refine go2 ?_;refine bA rfl (.inr rfl) ⟨_,_,_,_,_,_,rfl,mm_,tyT,_,(eC (aF _)),(aF _),rfl⟩ ?_;exact congrArg RV (aF_ ha hb hg.1 hg.2 hn oo_)
  replace hc:=cB_ hc
  refine go2 ?_;refine sQ (cU fdT dd_ rfl) rfl (sQ (eM tyT rfl mm_ rfl) rfl ?_);refine sQ (cP tyT rfl mm_ (by rw [j1,dI])) rfl ?_;refine sQ (bI aB (gL a.neg _ (dI _ _) (oQ _ _)) rfl) rfl (bD rfl (cC tyT rfl rfl uu_ (kV (dI _ _)) rfl (bV _) (.inl (by assumption)) ?_));refine go2 ?_;refine bA rfl (.inr rfl) ⟨_,_,_,_,_,_,rfl,mm_,tyT,_,(eC (kV (dI _ _))),(kV (dI _ _)),rfl⟩ ?_;exact congrArg RV (aG_ ha hb hg.1 hg.2 hn oo_)
 replace hn:=cB_ hn
 refine go3 ?_;refine sQ (cU fdT dd_ rfl) rfl (sQ (kS (vs:=uw a.w) tyT rfl mm_ (oD ha.len) ((j1 _).trans ha.len)) rfl ?_);refine sQ (cU fdT dd_ rfl) rfl (sQ (kS (vs:=uw b.w) tyT rfl mm_ (oD hb.len) ((j1 _).trans hb.len)) rfl ?_);refine sQ (bI aB (rX a.w b.w ha.len hb.len ha.lim hb.lim) rfl) rfl (go2 ?_);refine aH _ rfl (fun ho=>?_) (fun ho=>?_)
 ·replace ho:=cB_ ho
  have hle:val b.w≤val a.w:=WZ ho;refine go_ ?_;refine jQ (sk (sd (sk (sk (s0))))) 9 [8] [8] (pQ rfl (cU fdT dd_ rfl) (pQ rfl (eM tyT rfl mm_ rfl) ?_));refine pQ rfl (cU fdT dd_ rfl) (pQ rfl (kS (vs:=uw a.w) tyT rfl mm_ (oD ha.len) ((j1 _).trans ha.len)) ?_);refine pQ rfl (cU fdT dd_ rfl) (pQ rfl (kS (vs:=uw b.w) tyT rfl mm_ (oD hb.len) ((j1 _).trans hb.len)) ?_);refine pQ rfl (bI aB (y9 a.w b.w ha.len hb.len ha.lim hb.lim hle) rfl) (pQ rfl (bI aB (gL a.neg _ (dI _ _) (oQ _ _)) rfl) ?_);refine cF rfl rfl (cC tyT rfl rfl uu_ (kV (dI _ _)) rfl (bV _) (.inl (by assumption)) ⟨nf,ss_,?_⟩);refine go2 ?_;refine bA rfl (.inr rfl) ⟨_,_,_,_,_,_,rfl,mm_,tyT,_,(eC (kV (dI _ _))),(kV (dI _ _)),rfl⟩ ?_;exact congrArg RV (aH_ ha hb hg.1 hg.2 hn hle)
 replace ho:=cB_ ho
 have hle:val a.w≤val b.w:=aT_ ho;refine go2 ?_;refine jQ (sk (sd (sk (sk (s0))))) 9 [8] [8] (pQ rfl (cU fdT dd_ rfl) (pQ rfl (eM tyT rfl mm_ rfl) ?_));refine pQ rfl (cU fdT dd_ rfl) (pQ rfl (kS (vs:=uw b.w) tyT rfl mm_ (oD hb.len) ((j1 _).trans hb.len)) ?_);refine pQ rfl (cU fdT dd_ rfl) (pQ rfl (kS (vs:=uw a.w) tyT rfl mm_ (oD ha.len) ((j1 _).trans ha.len)) ?_);refine pQ rfl (bI aB (y9 b.w a.w hb.len ha.len hb.lim ha.lim hle) rfl) (pQ rfl (bI aB (gL b.neg _ (dI _ _) (oQ _ _)) rfl) ?_);refine cF rfl rfl (cC tyT rfl rfl uu_ (kV (dI _ _)) rfl (bV _) (.inl (by assumption)) ⟨nf,ss_,?_⟩);refine go2 ?_;refine bA rfl (.inr rfl) ⟨_,_,_,_,_,_,rfl,mm_,tyT,_,(eC (kV (dI _ _))),(kV (dI _ _)),rfl⟩ ?_;exact congrArg RV (aI_ ha hb hg.1 hg.2 hn hle)
theorem GG (a b:R) (ha:a.Ok) (hb:b.Ok) :
    Ret prog 39 [RV a,RV b] (RV (Z.sub a.dec b.dec).enc):=by
 refine bL (N:=9) func39 rfl rfl (by simp) (fun w0=>?_);simp only [bO,Nat.reduceAdd];refine go_ ?_;refine bD rfl (mB rfl rfl (fun b2 hb2=>bD rfl (mB rfl rfl (fun b3 hb3=>bD rfl (fP kN (fun b4 hb4=>go2 ?_))))));refine jQ (sd (sk (sk (s0)))) 5 [4] [4] (pQ rfl (cP tyT rfl mm_ (cT ha)) ?_);refine pQ rfl (cP tyT rfl mm_ (cT hb)) ?_;refine pQ rfl (bI aB (BT b hb) rfl) (pQ rfl (bI aB (oH a (Z.neg b.dec).enc ha (Z.enc_ok _)) rfl) ?_);refine cF rfl rfl (cC tyT rfl rfl uu_ (aF _) rfl (bV _) (.inl (by assumption)) ⟨nf,ss_,?_⟩);refine go2 ?_;refine bA rfl (.inr rfl) ⟨_,_,_,_,_,_,rfl,mm_,tyT,_,(eC (aF _)),(aF _),rfl⟩ ?_
 (rw [C4];rfl)
theorem iY (a:R) (ha:a.Ok) :
    Ret prog 40 [RV a] (.int .i64 a.dec.sign):=by
 refine bL (N:=17) func40 rfl rfl (by simp) (fun w0=>?_);simp only [bO,Nat.reduceAdd];refine go_ ?_;refine bD rfl (mB rfl rfl (fun b1 hb1=>go5 ?_));refine sQ (cP tyT rfl mm_ (cT ha)) rfl ?_;refine bD rfl (lF kL kN lG rfl dd_ rfl (zV ha) (fun b5 hb5=>sQ (bT aB rfl (fun w hw=>kB [a] (ok1 ha) b5 31 w (hw.mem _ m0) (by simp))) rfl ?_));refine go2 ?_
 cases hg:[a].all R.good
 ·refine vH ?_;refine bA rfl (.inr rfl) rfl ?_;exact congrArg _ (FY ha (.inl (by simpa using hg)))
 refine sQ (cU fdT dd_ rfl) rfl (sQ (kS (vs:=uw a.w) tyT rfl mm_ (oD ha.len) ((j1 _).trans ha.len)) rfl ?_);refine sQ (tF tK arT rfl (.nil _)) rfl ?_;refine sQ (vT (r:=a.zero) rfl rfl (oB 8 dd_ LP MJ (rI ha.len) (rI (by simp)) ha.zero_iff)) rfl ?_;refine go3 ?_;refine aH _ rfl (fun hz=>?_) (fun hz=>?_)
 ·replace hz:=cB_ hz
  refine go4 ?_;refine bA rfl (.inr rfl) rfl ?_;exact congrArg _ (FY ha (.inr hz))
 replace hz:=cB_ hz
 refine go_ ?_;refine sQ (cU fdT dd_ rfl) rfl (sQ (eM tyT rfl mm_ rfl) rfl ?_);refine go2 ?_;refine aH _ rfl (fun hn=>?_) (fun hn=>?_)
 ·replace hn:=cB_ hn
  refine go4 ?_;refine bA rfl (.inr rfl) rfl ?_;exact congrArg _ (T9 ha (by simpa using hg) hz hn)
 replace hn:=cB_ hn
 refine go5 ?_;refine bA rfl (.inr rfl) rfl ?_;exact congrArg _ (UA ha (by simpa using hg) hz hn)
theorem dO (n:Int) (hn:I64 n) :
    Ret prog 37 [.int .i64 n] (RV (Z.of n).enc):=by
 refine bL (N:=19) func37 rfl rfl (by simp) (fun w0=>?_);simp only [bO,Nat.reduceAdd];refine go_ ?_;refine bD rfl (fP kN (fun b2 hb2=>go3 ?_));refine sQ (fW HH iQ rfl) rfl (go7 ?_);refine aH _ rfl (fun h0=>?_) (fun h0=>?_)
 ·replace h0:=cB_ h0
  refine go2 ?_;refine sQ (aL (b6_ rfl) (congrArg (Value.int .u64) (f9_ hn h0))) rfl (go5 ?_);refine sQ (aL (mV rfl) (show _=Value.int .u64 ((n.natAbs:Nat):Int) from by first | rfl | exact congrArg (Value.int .u64) (QT hn h0))) rfl ?_;refine sQ (fW iQ j6 rfl) rfl (sQ (aL (mV rfl) (show _=Value.int .u64 ((n.natAbs:Nat):Int) from by first | rfl | exact congrArg (Value.int .u64) (QT hn h0))) rfl ?_);refine sQ (aL (yZ rfl rfl dd_) (congrArg (Value.int .u64) (vK _ 32))) rfl (sQ (fW iQ j6 rfl) rfl (sQ (tF tK arT rfl (bc_ (bT_ _) (bS_ (by unfold I64 at hn;omega)))) rfl (sQ (bI aB (gL (decide (n<0)) _ (by simp) (bx_ (Nat.mod_lt _ dd_) (by unfold I64 at hn;omega) 14)) rfl) rfl ?_)));refine bD rfl (cC tyT rfl rfl uu_ (kV (by simp)) rfl (bV _) (.inl (by assumption)) ?_);refine go2 ?_;refine bA rfl (.inr rfl) ⟨_,_,_,_,_,_,rfl,mm_,tyT,_,(eC (kV (by simp))),(kV (by simp)),rfl⟩ ?_;exact congrArg RV (bR_ hn rfl rfl)
 replace h0:=cB_ h0
 refine go4 ?_;refine sQ (aL (mV rfl) (show _=Value.int .u64 ((n.natAbs:Nat):Int) from by first | rfl | exact congrArg (Value.int .u64) (QT hn h0))) rfl ?_;refine sQ (fW iQ j6 rfl) rfl (sQ (aL (mV rfl) (show _=Value.int .u64 ((n.natAbs:Nat):Int) from by first | rfl | exact congrArg (Value.int .u64) (QT hn h0))) rfl ?_);refine sQ (aL (yZ rfl rfl dd_) (congrArg (Value.int .u64) (vK _ 32))) rfl (sQ (fW iQ j6 rfl) rfl (sQ (tF tK arT rfl (bc_ (bT_ _) (bS_ (by unfold I64 at hn;omega)))) rfl (sQ (bI aB (gL (decide (n<0)) _ (by simp) (bx_ (Nat.mod_lt _ dd_) (by unfold I64 at hn;omega) 14)) rfl) rfl ?_)));refine bD rfl (cC tyT rfl rfl uu_ (kV (by simp)) rfl (bV _) (.inl (by assumption)) ?_);refine go2 ?_;refine bA rfl (.inr rfl) ⟨_,_,_,_,_,_,rfl,mm_,tyT,_,(eC (kV (by simp))),(kV (by simp)),rfl⟩ ?_;exact congrArg RV (bR_ hn rfl rfl)
end Go.Proofs.YtkjjponijamaoaaGreatDoor
