/- Lemmas: what they ask stands in their statements. -/
import Derived.Test.YtbjlhfochebmiaaGreatDoorXGE
set_option linter.unusedSimpArgs false
set_option linter.unusedVariables false
set_option maxHeartbeats 8000000
set_option maxRecDepth 20000
namespace Go.Proofs.YtbjlhfochebmiaaGreatDoor
open Go.Kn Go.Num
attribute [local irreducible] Go.Kn.W WL PL OpQ OpR OpS
theorem n4 (r:R) (h:r.Ok) :
    Ret Tryz.prog 195 [RV r] (.bool r.valid):=by
 refine aW (N:=23) Tryz.func195 rfl rfl (by simp) (fun w0=>?_);simp only [bA,Nat.reduceAdd];refine go_ ?_;refine aU rfl (fV rfl rfl (fun b1 hb1=>go3 ?_));refine sQ (bB fdT dd_ rfl) rfl (sQ (eU (vs:=uw r.w) tyT rfl mm_ (iD h.len) ((d8 _).trans h.len)) rfl ?_);refine sQ (lB lH arT rfl (.nil _)) rfl ?_;refine sQ (d5 (r:=r.zero) rfl rfl (cL 8 dd_ CR C9 (j6 h.len) (j6 (by simp)) h.zero_iff)) rfl ?_;refine go4 ?_;refine sQ (bB fdT dd_ rfl) rfl (sQ (cA tyT rfl mm_ rfl) rfl ?_);refine go_ ?_;refine aK _ rfl (fun hb=>?_) (fun hb=>?_)
 ·replace hb:=cB_ hb
  refine go3 ?_
  cases hz:r.zero
  ·refine go7 ?_;refine aS rfl (.inr rfl) rfl ?_
   simp [R.valid, *]
  refine sQ (bB fdT dd_ rfl) rfl (sQ (cA tyT rfl mm_ rfl) rfl ?_);refine go5 ?_;refine aS rfl (.inr rfl) rfl ?_
  simp [R.valid, *]
 replace hb:=cB_ hb
 refine go5 ?_
 cases hz:r.zero
 ·refine go7 ?_;refine aS rfl (.inr rfl) rfl ?_
  simp [R.valid, *]
 refine sQ (bB fdT dd_ rfl) rfl (sQ (cA tyT rfl mm_ rfl) rfl ?_);refine go5 ?_;refine aS rfl (.inr rfl) rfl ?_
 simp [R.valid, *]

theorem dR  :
    Ret Tryz.prog 160 [] (RV Z.bad.enc):=by
 refine aW (N:=2) Tryz.func160 rfl rfl (by simp) (fun w0=>?_);simp only [bA,Nat.reduceAdd];refine go_ ?_;refine aU rfl (cM i2 (fun b0 hb0=>go2 ?_));refine sQ (sD i2 plT rfl (.cons rfl (vs:=[.bool true]) rfl rfl (by simp [zR]) (z':=Z.bad.enc.cells) rfl (.nil _))) rfl ?_;refine aU rfl (aX tyT rfl rfl uu_ rfl rfl (aV Z.bad.enc) (.inl (by assumption)) ?_);refine go2 ?_;refine aS rfl (.inr rfl) ⟨_,_,_,_,_,_,rfl,mm_,tyT,_,(bX rfl),rfl,rfl⟩ ?_;exact rfl

theorem cW (neg:Bool) (w:List Nat) (hw:w.length=16) (hlim:Lim w) :
    Ret Tryz.prog 126 [.bool neg,UV w] (RV ⟨false,neg && !(val w==0),w⟩):=by
 refine aW (N:=13) Tryz.func126 rfl rfl (by simp) (fun w0=>?_);simp only [bA,Nat.reduceAdd]
 have hlw:(uw w).length=16:=by rw [d8,hw]
 refine go_ ?_;refine aU rfl (fV rfl rfl (fun b3 hb3=>aU rfl (cM i2 (fun b4 hb4=>go2 ?_))));refine gdr (sd (sk (s0))) [0,4,8,12,16,20,24,28,33] [8] mix (by kernel_rfl) (go2 ?_)
 cases neg
 ·refine go4 ?_;refine pQ rfl (bE tyT rfl mm_ hlw) ?_;refine pQ rfl (sD i2 plT rfl (RW hw)) ?_;refine cS rfl rfl (aX tyT rfl rfl uu_ (by simp [R.cells,hlw]) rfl (aV _) (.inl (by assumption)) ⟨nf,ss_,?_⟩);refine go2 ?_;refine aS rfl (.inr rfl) ⟨_,_,_,_,_,_,rfl,mm_,tyT,_,(bX (by simp [R.cells,hlw])),(by simp [R.cells,hlw]),rfl⟩ ?_;rfl
 refine pQ rfl (bE tyT rfl mm_ hlw) ?_;refine pQ rfl (lB lH arT rfl (.nil _)) ?_;refine pQ rfl (AP (r:=(val w==0)) rfl rfl (cL 8 dd_ CR C9 (j6 hw) (j6 (by simp)) (xY hw hlim))) ?_;refine go_ ?_;refine pQ rfl (bE tyT rfl mm_ hlw) ?_;refine pQ rfl (sD i2 plT rfl (RW hw)) ?_;refine cS rfl rfl (aX tyT rfl rfl uu_ (by simp [R.cells,hlw]) rfl (aV _) (.inl (by assumption)) ⟨nf,ss_,?_⟩);refine go2 ?_;refine aS rfl (.inr rfl) ⟨_,_,_,_,_,_,rfl,mm_,tyT,_,(bX (by simp [R.cells,hlw])),(by simp [R.cells,hlw]),rfl⟩ ?_;rfl

theorem eB (rs:List R) (hrs:∀ r∈rs,r.Ok) (b T:Nat) (w:World) (hb:w.heap[b]? = some (.cells (rs.flatMap R.cells).toArray T (0,0))) (hn:rs.length≤1000) :
    Calls Tryz.prog 158 [.slice (some ⟨b,0,none⟩) rs.length rs.length].toArray w (fun e w'=>e = .returned (.bool (rs.all R.good))∧Ext w w'):=by
 refine cX (N:=19) Tryz.func158 rfl rfl (by simp) ?_;obtain ⟨w0,rfl⟩:∃ w0,w0=w:=⟨_,rfl⟩;simp only [bA,Nat.reduceAdd];refine go6 ?_;refine sQ (vW pM rfl) rfl (go3 ?_);refine cC [2,4,7,8,9,10,11,12,13,14,15,16,17,18] (fun g nn M=>∃ (k:Nat),(g 7 = .int .i64 (k:Int))∧M=[]∧nn=rs.length - k∧(k≤rs.length∧(rs.take k).all R.good=true)) (rs.length - 0) ?start ?round
 case start =>
  refine ⟨_,(List.Sublist.refl _),0,?a7,?mem0,rfl,⟨Nat.zero_le _,rfl⟩⟩
  case mem0=>rfl
  case a7=>rfl
 case round =>
  rintro nn g M ⟨k,hg7,rfl,hmeas,⟨hk,hall⟩⟩;subst nn;simp only [eJ,hg7];clear hg7;refine go4 ?_;refine aK _ rfl (fun hc=>?_) (fun hc=>?_)
  ·replace hc:=cB_ hc
   obtain ⟨r,hr⟩:∃ r,rs[k]? = some r:=⟨_,List.getElem?_eq_getElem oo_⟩;have hrok:=hrs r (List.mem_of_getElem? hr);refine go4 ?_;refine sQ (lU pM rfl rfl oo_ oo_) rfl (sQ (JK (vs:=r.cells) tyT rfl hb (by simp) (by rw [show (0+(k:Int).toNat * 18)=k * 18 by omega];exact zY R.cells 18 rs k r (fun y hy=>bG (hrs y hy)) hr) (bG hrok)) rfl ?_);refine aU rfl (cM i2 (fun b4 hb4=>aU rfl (aX tyT rfl rfl uu_ (bG hrok) rfl (aV _) (.inl (by assumption)) ?_)));refine go2 ?_;refine sQ (bB fdT dd_ rfl) rfl (sQ (cA tyT rfl mm_ rfl) rfl ?_);refine go_ ?_
   cases hbad:r.bad
   ·refine sQ (bE tyT rfl mm_ (bG hrok)) rfl ?_;refine sQ (aZ GU (n4 r hrok) rfl) rfl (go3 ?_);refine aK _ rfl (fun hx=>?_) (fun hx=>?_)
    ·replace hx:=cB_ hx
     skip
     refine go4 ?_;refine aS rfl (.inr rfl) rfl ?_;exact congrArg Value.bool (y9 hr (by simp [R.good,hbad,hx]))
    replace hx:=cB_ hx
    skip
    refine go5 ?_;refine ⟨pp_,_,_,(List.Sublist.cons _ (List.Sublist.refl _)),oo_,k+1,?s7,?mem,rfl,⟨by omega,by rw [EZ oo_ hr];simp [hall,R.good,hbad,hx]⟩⟩
    case mem=>rfl
    case s7=>(show Value.int .i64 _=_;rw [bD (by unfold I64;omega)];rfl)
   refine iE ?_;refine aS rfl (.inr rfl) rfl ?_;exact congrArg Value.bool (y9 hr (by simp [R.good,hbad]))
  replace hc:=cB_ hc
  have hke:k=rs.length:=by omega
  refine go5 ?_;refine aS rfl (.inr rfl) rfl ?_
  (subst hke;rw [List.take_length] at hall;exact congrArg Value.bool hall.symm)

theorem EK (xs ys:List Nat) (hx:xs.length=16) (hy:ys.length=16) (lx:Lim xs) (ly:Lim ys) :
    Ret Tryz.prog 191 [UV xs,UV ys] (.tuple #[UV (toL 16 (val xs+val ys)),.bool (((cy (val xs) (val ys) 16:Nat):Int)==0)]):=by
 refine aW (N:=33) Tryz.func191 rfl rfl (by simp) (fun w0=>?_);simp only [bA,Nat.reduceAdd];refine go_ ?_;refine aU rfl (fV rfl rfl (fun b2 hb2=>aU rfl (fV rfl rfl (fun b3 hb3=>aU rfl (cM lH (fun b4 hb4=>go3 ?_))))));refine aU rfl (cM lH (fun b6 hb6=>go9 ?_));refine cC [7,8,9,10,11,12,13,14,15,16,17,18,19,20,21,22,23,24,25,26,27,28,29] (fun g nn M=>∃ (k:Nat),(g 7 = .int .u64 ((cy (val xs) (val ys) k:Nat):Int)∧g 9 = .int .i64 (k:Int))∧M=[⟨b6,31,uw (tZ k (val xs+val ys) 16)⟩,⟨b4,31,uw (List.replicate 16 0)⟩,⟨b3,31,uw ys⟩,⟨b2,31,uw xs⟩]∧nn=16 - k∧(k≤16)) (16) ?start ?round
 case start =>
  refine ⟨_,(List.Sublist.refl _),0,⟨?a7,?a9⟩,?mem0,rfl,Nat.zero_le _⟩
  case mem0=>rw [u3]
  case a7=>rw [U4];rfl
  case a9=>rfl
 case round =>
  rintro nn g M ⟨k,⟨hg7,hg9⟩,rfl,hmeas,hk⟩;subst nn;simp only [eJ,hg7,hg9];clear hg7 hg9;refine go4 ?_;refine aK _ rfl (fun hc=>?_) (fun hc=>?_)
  ·replace hc:=cB_ hc
   have hc:k<16:=by omega
   have hcy:=bj_ (val xs) (val ys) k;refine go8 ?_;refine gdr (sk (sk (sk (sk (s0))))) [0,4,8,12,16,20,24,28,32,36,40,44] [] mix (by kernel_rfl) (go2 ?_);refine pQ rfl (cU arT rfl rfl oo_ oo_) (pQ rfl (cA tyT rfl mm_ (pF oo_)) ?_);refine pQ rfl (cP d9 dJ rfl) (go_ ?_);refine pQ rfl (cU arT rfl rfl oo_ oo_) (pQ rfl (cA tyT rfl mm_ (pF oo_)) ?_);refine pQ rfl (cP d9 dJ rfl) (go_ ?_);refine pQ rfl (aI (e9 rfl rfl) (congrArg (Value.int .u64) (aA_ hcy (cF lx k) (cF ly k)))) (go5 ?_);refine sQ (aI (cP dJ d9 rfl) (k5 _)) rfl (sQ (cU arT rfl rfl oo_ oo_) rfl (aU rfl (j3 tyT rfl rfl uu_ (by rw [fM _ hk];exact hc) (.inl (by assumption)) ?_)));refine go3 ?_;refine sQ (aI (qO rfl rfl dd_) (congrArg (Value.int .u64) (nJ _ 32))) rfl (go6 ?_);refine ⟨pp_,_,_,(List.Sublist.refl _),oo_,k+1,⟨?s7,?s9⟩,?mem,rfl,oo_⟩
   case mem=>rw [cY xs k lx,cY ys k ly,MH,t7 _ hc]
   case s7=>rw [← MG,← cY xs k lx,← cY ys k ly];rfl
   case s9=>exact congrArg (Value.int .i64) (bD (n:=(k:Int)+1) (by unfold I64;omega))
  replace hc:=cB_ hc
  obtain rfl:k=16:=by omega
  refine go2 ?_;refine sQ (bE tyT rfl mm_ (by simp [uw,fM])) rfl ?_;refine go2 ?_;refine aU rfl (aX tyT rfl rfl uu_ (by simp [uw,fM]) rfl (eK _) (.inl (by assumption)) ?_);refine go3 ?_;refine mD rfl (.inr rfl) ⟨_,_,_,_,_,_,rfl,mm_,tyT,_,(bX (by simp [uw,fM])),(by simp [uw,fM]),rfl⟩ rfl ?_;rw [xI];rfl

theorem qY (xs ys:List Nat) (hx:xs.length=16) (hy:ys.length=16) (lx:Lim xs) (ly:Lim ys) (hle:val ys≤val xs) :
    Ret Tryz.prog 192 [UV xs,UV ys] (UV (toL 16 (val xs - val ys))):=by
 refine aW (N:=31) Tryz.func192 rfl rfl (by simp) (fun w0=>?_);simp only [bA,Nat.reduceAdd];refine go_ ?_;refine aU rfl (fV rfl rfl (fun b2 hb2=>aU rfl (fV rfl rfl (fun b3 hb3=>aU rfl (cM lH (fun b4 hb4=>go2 ?_))))));refine aU rfl (cM lH (fun b5 hb5=>go9 ?_));refine cC [6,7,8,9,10,11,12,13,14,15,16,17,18,19,20,21,22,23,24,25,26,27,28,29] (fun g nn M=>∃ (k:Nat),(g 6 = .int .u64 ((bw (val xs) (val ys) k:Nat):Int)∧g 9 = .int .i64 (k:Int))∧M=[⟨b5,31,uw (tZ k (val xs - val ys) 16)⟩,⟨b4,31,uw (List.replicate 16 0)⟩,⟨b3,31,uw ys⟩,⟨b2,31,uw xs⟩]∧nn=16 - k∧(k≤16)) (16) ?start ?round
 case start =>
  refine ⟨_,(List.Sublist.refl _),0,⟨?a6,?a9⟩,?mem0,rfl,Nat.zero_le _⟩
  case mem0=>rw [u3]
  case a6=>rw [UX];rfl
  case a9=>rfl
 case round =>
  rintro nn g M ⟨k,⟨hg6,hg9⟩,rfl,hmeas,hk⟩;subst nn;simp only [eJ,hg6,hg9];clear hg6 hg9;refine go4 ?_;refine aK _ rfl (fun hc=>?_) (fun hc=>?_)
  ·replace hc:=cB_ hc
   have hc:k<16:=by omega
   have hbw:=bh_ (val xs) (val ys) k;refine go8 ?_;refine gdr (sk (sk (sk (sk (s0))))) [0,4,8,12,16,20,24,28,32,36,40,44] [] mix (by kernel_rfl) (go_ ?_);refine pQ rfl (cU arT rfl rfl oo_ oo_) (pQ rfl (cA tyT rfl mm_ (pF oo_)) ?_);refine pQ rfl (cP d9 dJ rfl) (go_ ?_);refine pQ rfl (cU arT rfl rfl oo_ oo_) (pQ rfl (cA tyT rfl mm_ (pF oo_)) ?_);refine pQ rfl (cP d9 dJ rfl) (go2 ?_);refine pQ rfl (aI (kM rfl rfl) (congrArg (Value.int .u64) (NL hbw (cF lx k) (cF ly k)))) (go5 ?_);refine sQ (aI (cP dJ d9 rfl) (k5 _)) rfl (sQ (cU arT rfl rfl oo_ oo_) rfl (aU rfl (j3 tyT rfl rfl uu_ (by rw [fM _ hk];exact hc) (.inl (by assumption)) ?_)));refine go3 ?_;refine sQ (aI (qO rfl rfl dd_) (congrArg (Value.int .u64) (nJ _ 63))) rfl (go6 ?_);refine ⟨pp_,_,_,(List.Sublist.refl _),oo_,k+1,⟨?s6,?s9⟩,?mem,rfl,oo_⟩
   case mem=>rw [cY xs k lx,cY ys k ly,I8 k hle,t7 _ hc]
   case s6=>rw [← G5,← cY xs k lx,← cY ys k ly];rfl
   case s9=>exact congrArg (Value.int .i64) (bD (n:=(k:Int)+1) (by unfold I64;omega))
  replace hc:=cB_ hc
  obtain rfl:k=16:=by omega
  refine go2 ?_;refine sQ (bE tyT rfl mm_ (by simp [uw,fM])) rfl ?_;refine aU rfl (aX tyT rfl rfl uu_ (by simp [uw,fM]) rfl (eK _) (.inl (by assumption)) ?_);refine go2 ?_;refine aS rfl (.inr rfl) ⟨_,_,_,_,_,_,rfl,mm_,tyT,_,(bX (by simp [uw,fM])),(by simp [uw,fM]),rfl⟩ ?_;rw [xI];rfl

theorem A7 (x:Nat) :
    Ret Tryz.prog 231 [U32 x] (.bool false):=by
 refine aW (N:=6) Tryz.func231 rfl rfl (by simp) (fun w0=>?_);simp only [bA,Nat.reduceAdd];refine go6 ?_;refine sQ (aI (XI rfl rfl) (congrArg Value.bool (bne_self_eq_false _))) rfl (go3 ?_);refine aS rfl (.inr rfl) rfl ?_;exact rfl

theorem OQ (x y:Nat) :
    Ret Tryz.prog 207 [U32 x,U32 y] (.int .i64 (rB x y)):=by
 refine aW (N:=20) Tryz.func207 rfl rfl (by simp) (fun w0=>?_);simp only [bA,Nat.reduceAdd];refine go5 ?_;refine sQ (aZ RL (A7 x) rfl) rfl (go4 ?_);refine sQ (aZ RL (A7 y) rfl) rfl (c8_ ?_);refine aK _ rfl (fun h1=>?_) (fun h1=>?_)
 ·replace h1:=cB_ h1
  refine go4 ?_;refine aS rfl (.inr rfl) rfl ?_;exact congrArg _ (sU h1).symm
 replace h1:=cB_ h1
 refine go7 ?_;refine aK _ rfl (fun h2=>?_) (fun h2=>?_)
 ·replace h2:=cB_ h2
  refine go4 ?_;refine aS rfl (.inr rfl) rfl ?_;exact congrArg _ (sS h2).symm
 replace h2:=cB_ h2
 refine go5 ?_;refine aS rfl (.inr rfl) rfl ?_
 (obtain rfl:x=y:=by omega);exact congrArg _ (zB _).symm

theorem kG (xs ys:List Nat) (hx:xs.length=16) (hy:ys.length=16) (lx:Lim xs) (ly:Lim ys) :
    Ret Tryz.prog 171 [UV xs,UV ys] (.int .i64 (rB (val xs) (val ys))):=by
 refine aW (N:=24) Tryz.func171 rfl rfl (by simp) (fun w0=>?_);simp only [bA,Nat.reduceAdd];refine go_ ?_;refine aU rfl (fV rfl rfl (fun b2 hb2=>aU rfl (fV rfl rfl (fun b3 hb3=>go7 ?_))));refine cC [4,5,6,7,8,9,10,11,12,13,14,15,16,17,18,19,20,21,22,23] (fun g nn M=>∃ (k:Nat),(g 5 = .int .i64 ((k:Int) - 1))∧M=[⟨b3,31,uw ys⟩,⟨b2,31,uw xs⟩]∧nn=k+0∧(k≤16∧xs.drop k=ys.drop k)) (16) ?start ?round
 case start =>
  refine ⟨_,(List.Sublist.refl _),16,?a5,?mem0,rfl,⟨Nat.le_refl _,by rw [List.drop_eq_nil_of_le oo_,List.drop_eq_nil_of_le oo_]⟩⟩
  case mem0=>rfl
  case a5=>rfl
 case round =>
  rintro nn g M ⟨k,hg5,rfl,hmeas,⟨hk,hd⟩⟩;subst nn;simp only [eJ,hg5];clear hg5;refine go5 ?_;refine aK _ rfl (fun hc=>?_) (fun hc=>?_)
  ·replace hc:=cB_ hc
   obtain ⟨m,rfl⟩:∃ m,k=m+1:=⟨k - 1,by omega⟩;refine go4 ?_;refine gdr (sk (sk (s0))) [0,4,8,12,16,20,24] [] mix (by kernel_rfl) (pQ rfl (aI (gE rfl) (congrArg (Value.int .i64) (show (((m+1:Nat):Int) - 1)=(m:Int) by omega))) (pQ rfl (cU arT rfl rfl oo_ oo_) (pQ rfl (cA tyT rfl mm_ (pF oo_)) ?_)));refine pQ rfl (aI (gE rfl) (congrArg (Value.int .i64) (show (((m+1:Nat):Int) - 1)=(m:Int) by omega))) (pQ rfl (cU arT rfl rfl oo_ oo_) (pQ rfl (cA tyT rfl mm_ (pF oo_)) ?_));refine go2 ?_;refine aK _ rfl (fun hne=>?_) (fun hne=>?_)
   ·replace hne:=cB_ hne
    refine go_ ?_;refine gdr (sk (sk (s0))) [0,4,8,12,16,20,24,28] [] mix (by kernel_rfl) (pQ rfl (aI (gE rfl) (congrArg (Value.int .i64) (show (((m+1:Nat):Int) - 1)=(m:Int) by omega))) (pQ rfl (cU arT rfl rfl oo_ oo_) (pQ rfl (cA tyT rfl mm_ (pF oo_)) ?_)));refine pQ rfl (aI (gE rfl) (congrArg (Value.int .i64) (show (((m+1:Nat):Int) - 1)=(m:Int) by omega))) (pQ rfl (cU arT rfl rfl oo_ oo_) (pQ rfl (cA tyT rfl mm_ (pF oo_)) ?_));refine pQ rfl (aZ ZR (OQ _ _) rfl) (go3 ?_);refine aS rfl (.inr rfl) rfl ?_;exact congrArg _ (ME lx ly oo_ hd oo_)
   replace hne:=cB_ hne
   refine go2 ?_;refine sQ (aI (gE rfl) (congrArg (Value.int .i64) (show (((m+1:Nat):Int) - 1)=(m:Int) by omega))) rfl (go3 ?_);refine ⟨pp_,_,_,(List.Sublist.refl _),oo_,m,?s5,?mem,rfl,⟨by omega,GM oo_ hd oo_ oo_⟩⟩
   case mem=>rfl
   case s5=>exact congrArg (Value.int .i64) (bD (n:=(m:Int) - 1) (by unfold I64;omega))
  replace hc:=cB_ hc
  obtain rfl:k=0:=by omega
  refine go5 ?_;refine aS rfl (.inr rfl) rfl ?_
  (rw [List.drop_zero,List.drop_zero] at hd;subst hd;exact congrArg _ (zB _).symm)

theorem j7 (xs:List Nat) (hx:xs.length=16) :
    Ret Tryz.prog 188 [UV xs] (.int .i64 ((szL xs:Nat):Int)):=by
 refine aW (N:=16) Tryz.func188 rfl rfl (by simp) (fun w0=>?_);simp only [bA,Nat.reduceAdd];refine go_ ?_;refine aU rfl (fV rfl rfl (fun b1 hb1=>go7 ?_));refine cC [3,4,5,6,7,8,9,10,11,12,13,14] (fun g nn M=>∃ (k:Nat),(g 3 = .int .i64 (k:Int))∧M=[⟨b1,31,uw xs⟩]∧nn=k+0∧(k≤16∧∀ j,k≤j→xs.getD j 0=0)) (16) ?start ?round
 case start =>
  refine ⟨_,(List.Sublist.refl _),16,?a3,?mem0,rfl,⟨Nat.le_refl _,fun j hj=>by simp [List.getD,List.getElem?_eq_none (show xs.length≤j by omega)]⟩⟩
  case mem0=>rfl
  case a3=>rfl
 case round =>
  rintro nn g M ⟨k,hg3,rfl,hmeas,⟨hk,hhi⟩⟩;subst nn;simp only [eJ,hg3];clear hg3;refine go5 ?_
  cases hz:decide ((0:Int)<(k:Int))
  ·refine yU ?_;refine aS rfl (.inr rfl) rfl ?_;exact congrArg (fun n:Nat=>Value.int .i64 (n:Int)) (HW hhi (.inl (by have:=of_decide_eq_false hz;omega))).symm
  have hz':=of_decide_eq_true hz;obtain ⟨m,rfl⟩:∃ m,k=m+1:=⟨k - 1,by omega⟩;refine go_ ?_;refine sQ (aI (kM rfl rfl) (congrArg (Value.int .i64) (uK oo_))) rfl (sQ (cU arT rfl rfl oo_ oo_) rfl (sQ (cA tyT rfl mm_ (pF oo_)) rfl ?_));refine go3 ?_;refine aK _ rfl (fun h0=>?_) (fun h0=>?_)
  ·replace h0:=cB_ h0
   refine go4 ?_;refine sQ (aI (kM rfl rfl) (congrArg (Value.int .i64) (uK oo_))) rfl (go2 ?_);refine ⟨pp_,_,_,(List.Sublist.refl _),oo_,m,?s3,?mem,rfl,⟨by omega,fun j hj=>by rcases Nat.eq_or_lt_of_le hj with rfl | hj;omega;exact hhi j hj⟩⟩
   case mem=>rfl
   case s3=>rfl
  replace h0:=cB_ h0
  refine go6 ?_;refine aS rfl (.inr rfl) rfl ?_;exact congrArg (fun n:Nat=>Value.int .i64 (n:Int)) (HW hhi (.inr (by simp only [Nat.add_sub_cancel];omega))).symm
theorem tQ (a:R) (ha:a.Ok) :
    Ret Tryz.prog 124 [RV a] (RV (Z.neg a.dec).enc):=by
 refine aW (N:=14) Tryz.func124 rfl rfl (by simp) (fun w0=>?_);simp only [bA,Nat.reduceAdd];refine go_ ?_;refine aU rfl (fV rfl rfl (fun b1 hb1=>aU rfl (cM i2 (fun b2 hb2=>go3 ?_))));refine sQ (bE tyT rfl mm_ (bG ha)) rfl ?_;refine aU rfl (fA nX i2 mM rfl dd_ rfl (rY ha) (fun b4 hb4=>sQ (bR nR rfl (fun w hw=>eB [a] (ok1 ha) b4 33 w (hw.mem _ m0) (by simp))) rfl ?_));refine go2 ?_;refine aK _ rfl (fun hg=>?_) (fun hg=>?_)
 ·replace hg:=cB_ hg
  refine go_ ?_;refine sQ (aZ lQ dR rfl) rfl (aU rfl (aX tyT rfl rfl uu_ (aC _) rfl (aV _) (.inl (by assumption)) ?_));refine go2 ?_;refine aS rfl (.inr rfl) ⟨_,_,_,_,_,_,rfl,mm_,tyT,_,(bX (aC _)),(aC _),rfl⟩ ?_
  (rw [Z.neg,uE (I9 hg)];rfl)
 replace hg:=cB_ hg
 refine go2 ?_;refine sQ (bB fdT dd_ rfl) rfl (sQ (cA tyT rfl mm_ rfl) rfl ?_);refine go_ ?_;refine sQ (bB fdT dd_ rfl) rfl (sQ (eU (vs:=uw a.w) tyT rfl mm_ (iD ha.len) ((d8 _).trans ha.len)) rfl ?_);refine sQ (aZ l9 (cW (!a.neg) a.w ha.len ha.lim) rfl) rfl (aU rfl (aX tyT rfl rfl uu_ (eX ha.len) rfl (aV _) (.inl (by assumption)) ?_));refine go2 ?_;refine aS rfl (.inr rfl) ⟨_,_,_,_,_,_,rfl,mm_,tyT,_,(bX (eX ha.len)),(eX ha.len),rfl⟩ ?_;exact congrArg RV (aq_ ha (by simpa using hg))

theorem yG (a:R) (ha:a.Ok) :
    Ret Tryz.prog 190 [RV a] (RV (Z.abs a.dec).enc):=by
 refine aW (N:=11) Tryz.func190 rfl rfl (by simp) (fun w0=>?_);simp only [bA,Nat.reduceAdd];refine go_ ?_;refine aU rfl (fV rfl rfl (fun b1 hb1=>aU rfl (cM i2 (fun b2 hb2=>go3 ?_))));refine sQ (bE tyT rfl mm_ (bG ha)) rfl ?_;refine aU rfl (fA nX i2 mM rfl dd_ rfl (rY ha) (fun b4 hb4=>sQ (bR nR rfl (fun w hw=>eB [a] (ok1 ha) b4 33 w (hw.mem _ m0) (by simp))) rfl ?_));refine go2 ?_;refine aK _ rfl (fun hg=>?_) (fun hg=>?_)
 ·replace hg:=cB_ hg
  refine go_ ?_;refine sQ (aZ lQ dR rfl) rfl (aU rfl (aX tyT rfl rfl uu_ (aC _) rfl (aV _) (.inl (by assumption)) ?_));refine go2 ?_;refine aS rfl (.inr rfl) ⟨_,_,_,_,_,_,rfl,mm_,tyT,_,(bX (aC _)),(aC _),rfl⟩ ?_
  (rw [Z.abs,uE (I9 hg)];rfl)
 replace hg:=cB_ hg
 refine go2 ?_;refine sQ (bB fdT dd_ rfl) rfl (sQ (eU (vs:=uw a.w) tyT rfl mm_ (iD ha.len) ((d8 _).trans ha.len)) rfl ?_);refine sQ (aZ l9 (cW false a.w ha.len ha.lim) rfl) rfl (aU rfl (aX tyT rfl rfl uu_ (eX ha.len) rfl (aV _) (.inl (by assumption)) ?_));refine go2 ?_;refine aS rfl (.inr rfl) ⟨_,_,_,_,_,_,rfl,mm_,tyT,_,(bX (eX ha.len)),(eX ha.len),rfl⟩ ?_;exact congrArg RV (YJ ha (by simpa using hg))

theorem kU (a b:R) (ha:a.Ok) (hb:b.Ok) :
    Ret Tryz.prog 122 [RV a,RV b] (RV (Z.add a.dec b.dec).enc):=by
 refine aW (N:=55) Tryz.func122 rfl rfl (by simp) (fun w0=>?_);simp only [bA,Nat.reduceAdd];refine go_ ?_;refine aU rfl (fV rfl rfl (fun b2 hb2=>aU rfl (fV rfl rfl (fun b3 hb3=>aU rfl (cM i2 (fun b4 hb4=>go3 ?_))))));refine sQ (bE tyT rfl mm_ (bG ha)) rfl ?_;refine sQ (bE tyT rfl mm_ (bG hb)) rfl ?_;refine aU rfl (fA nX i2 mM rfl dd_ rfl (G0 ha hb) (fun b9 hb9=>sQ (bR nR rfl (fun w hw=>eB [a,b] (ok2 ha hb) b9 33 w (hw.mem _ m0) (by simp))) rfl ?_));refine go2 ?_;refine aK _ rfl (fun hg=>?_) (fun hg=>?_)
 ·replace hg:=cB_ hg
  refine go_ ?_;refine sQ (aZ lQ dR rfl) rfl (aU rfl (aX tyT rfl rfl uu_ (aC _) rfl (aV _) (.inl (by assumption)) ?_));refine go2 ?_;refine aS rfl (.inr rfl) ⟨_,_,_,_,_,_,rfl,mm_,tyT,_,(bX (aC _)),(aC _),rfl⟩ ?_
  (rw [Z.add,kE (zP hg)];rfl)
 replace hg:=cB_ hg
 have hg:=all2.1 hg;refine go3 ?_;refine sQ (bB fdT dd_ rfl) rfl (sQ (cA tyT rfl mm_ rfl) rfl ?_);refine sQ (bB fdT dd_ rfl) rfl (sQ (cA tyT rfl mm_ rfl) rfl ?_);refine sQ (aB_ AB rfl rfl) rfl (go_ ?_);refine aK _ rfl (fun hn=>?_) (fun hn=>?_)
 ·replace hn:=cB_ hn
  refine go_ ?_;refine sQ (bB fdT dd_ rfl) rfl (sQ (eU (vs:=uw a.w) tyT rfl mm_ (iD ha.len) ((d8 _).trans ha.len)) rfl ?_);refine sQ (bB fdT dd_ rfl) rfl (sQ (eU (vs:=uw b.w) tyT rfl mm_ (iD hb.len) ((d8 _).trans hb.len)) rfl ?_);refine sQ (aZ ZM (EK a.w b.w ha.len hb.len ha.lim hb.lim) rfl) rfl (go3 ?_);refine aU rfl (cM lH (fun b5 hb5=>aU rfl (aX tyT rfl rfl uu_ (by rw [d8,bN]) rfl (eK _) (.inl (by assumption)) ?_)));refine go7 ?_;refine aK _ rfl (fun hc=>?_) (fun hc=>?_)
  ·replace hc:=cB_ hc
   refine go_ ?_;refine sQ (aZ lQ dR rfl) rfl (aU rfl (aX tyT rfl rfl uu_ (aC _) rfl (aV _) (.inl (by assumption)) ?_));refine go2 ?_;refine aS rfl (.inr rfl) ⟨_,_,_,_,_,_,rfl,mm_,tyT,_,(bX (aC _)),(aC _),rfl⟩ ?_;exact congrArg RV (P9 ha hb hg.1 hg.2 hn oo_)
  replace hc:=cB_ hc
  refine go2 ?_;refine sQ (bB fdT dd_ rfl) rfl (sQ (cA tyT rfl mm_ rfl) rfl ?_);refine sQ (bE tyT rfl mm_ (by rw [d8,bN])) rfl ?_;refine sQ (aZ l9 (cW a.neg _ (bN _ _) (iO _ _)) rfl) rfl (aU rfl (aX tyT rfl rfl uu_ (eX (bN _ _)) rfl (aV _) (.inl (by assumption)) ?_));refine go2 ?_;refine aS rfl (.inr rfl) ⟨_,_,_,_,_,_,rfl,mm_,tyT,_,(bX (eX (bN _ _))),(eX (bN _ _)),rfl⟩ ?_;exact congrArg RV (QA ha hb hg.1 hg.2 hn oo_)
 replace hn:=cB_ hn
 refine go3 ?_;refine sQ (bB fdT dd_ rfl) rfl (sQ (eU (vs:=uw a.w) tyT rfl mm_ (iD ha.len) ((d8 _).trans ha.len)) rfl ?_);refine sQ (bB fdT dd_ rfl) rfl (sQ (eU (vs:=uw b.w) tyT rfl mm_ (iD hb.len) ((d8 _).trans hb.len)) rfl ?_);refine sQ (aZ AG (kG a.w b.w ha.len hb.len ha.lim hb.lim) rfl) rfl (go2 ?_);refine aK _ rfl (fun ho=>?_) (fun ho=>?_)
 ·replace ho:=cB_ ho
  have hle:val b.w≤val a.w:=M6 ho;refine go_ ?_;refine gdr (sk (sd (sk (sk (s0))))) [0,4,8,12,16,20,24,28,33] [8] mix (by kernel_rfl) (pQ rfl (bB fdT dd_ rfl) (pQ rfl (cA tyT rfl mm_ rfl) ?_));refine pQ rfl (bB fdT dd_ rfl) (pQ rfl (eU (vs:=uw a.w) tyT rfl mm_ (iD ha.len) ((d8 _).trans ha.len)) ?_);refine pQ rfl (bB fdT dd_ rfl) (pQ rfl (eU (vs:=uw b.w) tyT rfl mm_ (iD hb.len) ((d8 _).trans hb.len)) ?_);refine pQ rfl (aZ LK (qY a.w b.w ha.len hb.len ha.lim hb.lim hle) rfl) (pQ rfl (aZ l9 (cW a.neg _ (bN _ _) (iO _ _)) rfl) ?_);refine cS rfl rfl (aX tyT rfl rfl uu_ (eX (bN _ _)) rfl (aV _) (.inl (by assumption)) ⟨nf,ss_,?_⟩);refine go2 ?_;refine aS rfl (.inr rfl) ⟨_,_,_,_,_,_,rfl,mm_,tyT,_,(bX (eX (bN _ _))),(eX (bN _ _)),rfl⟩ ?_;exact congrArg RV (QB ha hb hg.1 hg.2 hn hle)
 replace ho:=cB_ ho
 have hle:val a.w≤val b.w:=QN ho;refine go2 ?_;refine gdr (sk (sd (sk (sk (s0))))) [0,4,8,12,16,20,24,28,33] [8] mix (by kernel_rfl) (pQ rfl (bB fdT dd_ rfl) (pQ rfl (cA tyT rfl mm_ rfl) ?_));refine pQ rfl (bB fdT dd_ rfl) (pQ rfl (eU (vs:=uw b.w) tyT rfl mm_ (iD hb.len) ((d8 _).trans hb.len)) ?_);refine pQ rfl (bB fdT dd_ rfl) (pQ rfl (eU (vs:=uw a.w) tyT rfl mm_ (iD ha.len) ((d8 _).trans ha.len)) ?_);refine pQ rfl (aZ LK (qY b.w a.w hb.len ha.len hb.lim ha.lim hle) rfl) (pQ rfl (aZ l9 (cW b.neg _ (bN _ _) (iO _ _)) rfl) ?_);refine cS rfl rfl (aX tyT rfl rfl uu_ (eX (bN _ _)) rfl (aV _) (.inl (by assumption)) ⟨nf,ss_,?_⟩);refine go2 ?_;refine aS rfl (.inr rfl) ⟨_,_,_,_,_,_,rfl,mm_,tyT,_,(bX (eX (bN _ _))),(eX (bN _ _)),rfl⟩ ?_;exact congrArg RV (QC ha hb hg.1 hg.2 hn hle)

theorem yH (a b:R) (ha:a.Ok) (hb:b.Ok) :
    Ret Tryz.prog 133 [RV a,RV b] (RV (Z.sub a.dec b.dec).enc):=by
 refine aW (N:=9) Tryz.func133 rfl rfl (by simp) (fun w0=>?_);simp only [bA,Nat.reduceAdd];refine go_ ?_;refine aU rfl (fV rfl rfl (fun b2 hb2=>aU rfl (fV rfl rfl (fun b3 hb3=>aU rfl (cM i2 (fun b4 hb4=>go2 ?_))))));refine gdr (sd (sk (sk (s0)))) [0,4,8,12,17] [4] mix (by kernel_rfl) (pQ rfl (bE tyT rfl mm_ (bG ha)) ?_);refine pQ rfl (bE tyT rfl mm_ (bG hb)) ?_;refine pQ rfl (aZ LD (tQ b hb) rfl) (pQ rfl (aZ yO (kU a (Z.neg b.dec).enc ha (Z.enc_ok _)) rfl) ?_);refine cS rfl rfl (aX tyT rfl rfl uu_ (aC _) rfl (aV _) (.inl (by assumption)) ⟨nf,ss_,?_⟩);refine go2 ?_;refine aS rfl (.inr rfl) ⟨_,_,_,_,_,_,rfl,mm_,tyT,_,(bX (aC _)),(aC _),rfl⟩ ?_
 (rw [uZ];rfl)

theorem iQ (a:R) (ha:a.Ok) :
    Ret Tryz.prog 103 [RV a] (.int .i64 a.dec.sign):=by
 refine aW (N:=17) Tryz.func103 rfl rfl (by simp) (fun w0=>?_);simp only [bA,Nat.reduceAdd];refine go_ ?_;refine aU rfl (fV rfl rfl (fun b1 hb1=>go5 ?_));refine sQ (bE tyT rfl mm_ (bG ha)) rfl ?_;refine aU rfl (fA nX i2 mM rfl dd_ rfl (rY ha) (fun b5 hb5=>sQ (bR nR rfl (fun w hw=>eB [a] (ok1 ha) b5 33 w (hw.mem _ m0) (by simp))) rfl ?_));refine go2 ?_
 cases hg:[a].all R.good
 ·refine x9 ?_;refine aS rfl (.inr rfl) rfl ?_;exact congrArg _ (xU ha (.inl (by simpa using hg)))
 refine sQ (bB fdT dd_ rfl) rfl (sQ (eU (vs:=uw a.w) tyT rfl mm_ (iD ha.len) ((d8 _).trans ha.len)) rfl ?_);refine sQ (lB lH arT rfl (.nil _)) rfl ?_;refine sQ (d5 (r:=a.zero) rfl rfl (cL 8 dd_ CR C9 (j6 ha.len) (j6 (by simp)) ha.zero_iff)) rfl ?_;refine go3 ?_;refine aK _ rfl (fun hz=>?_) (fun hz=>?_)
 ·replace hz:=cB_ hz
  refine go4 ?_;refine aS rfl (.inr rfl) rfl ?_;exact congrArg _ (xU ha (.inr hz))
 replace hz:=cB_ hz
 refine go_ ?_;refine sQ (bB fdT dd_ rfl) rfl (sQ (cA tyT rfl mm_ rfl) rfl ?_);refine go2 ?_;refine aK _ rfl (fun hn=>?_) (fun hn=>?_)
 ·replace hn:=cB_ hn
  refine go4 ?_;refine aS rfl (.inr rfl) rfl ?_;exact congrArg _ (JX ha (by simpa using hg) hz hn)
 replace hn:=cB_ hn
 refine go5 ?_;refine aS rfl (.inr rfl) rfl ?_;exact congrArg _ (JY ha (by simpa using hg) hz hn)

theorem cN (n:Int) (hn:I64 n) :
    Ret Tryz.prog 59 [.int .i64 n] (RV (Z.of n).enc):=by
 refine aW (N:=19) Tryz.func59 rfl rfl (by simp) (fun w0=>?_);simp only [bA,Nat.reduceAdd];refine go_ ?_;refine aU rfl (cM i2 (fun b2 hb2=>go3 ?_));refine sQ (cP AK dJ rfl) rfl (go7 ?_);refine aK _ rfl (fun h0=>?_) (fun h0=>?_)
 ·replace h0:=cB_ h0
  refine go2 ?_;refine sQ (aI (S4 rfl) (congrArg (Value.int .u64) (av_ hn h0))) rfl (go5 ?_);refine sQ (aI (gE rfl) (show _=Value.int .u64 ((n.natAbs:Nat):Int) from by first | rfl | exact congrArg (Value.int .u64) (HB hn h0))) rfl ?_;refine sQ (cP dJ d9 rfl) rfl (sQ (aI (gE rfl) (show _=Value.int .u64 ((n.natAbs:Nat):Int) from by first | rfl | exact congrArg (Value.int .u64) (HB hn h0))) rfl ?_);refine sQ (aI (qO rfl rfl dd_) (congrArg (Value.int .u64) (nJ _ 32))) rfl (sQ (cP dJ d9 rfl) rfl (sQ (lB lH arT rfl (RS (ST _) (SS (by unfold I64 at hn;omega)))) rfl (sQ (aZ l9 (cW (decide (n<0)) _ (by simp) (R9 (Nat.mod_lt _ dd_) (by unfold I64 at hn;omega) 14)) rfl) rfl ?_)));refine aU rfl (aX tyT rfl rfl uu_ (eX (by simp)) rfl (aV _) (.inl (by assumption)) ?_);refine go2 ?_;refine aS rfl (.inr rfl) ⟨_,_,_,_,_,_,rfl,mm_,tyT,_,(bX (eX (by simp))),(eX (by simp)),rfl⟩ ?_;exact congrArg RV (SR hn rfl rfl)
 replace h0:=cB_ h0
 refine go4 ?_;refine sQ (aI (gE rfl) (show _=Value.int .u64 ((n.natAbs:Nat):Int) from by first | rfl | exact congrArg (Value.int .u64) (HB hn h0))) rfl ?_;refine sQ (cP dJ d9 rfl) rfl (sQ (aI (gE rfl) (show _=Value.int .u64 ((n.natAbs:Nat):Int) from by first | rfl | exact congrArg (Value.int .u64) (HB hn h0))) rfl ?_);refine sQ (aI (qO rfl rfl dd_) (congrArg (Value.int .u64) (nJ _ 32))) rfl (sQ (cP dJ d9 rfl) rfl (sQ (lB lH arT rfl (RS (ST _) (SS (by unfold I64 at hn;omega)))) rfl (sQ (aZ l9 (cW (decide (n<0)) _ (by simp) (R9 (Nat.mod_lt _ dd_) (by unfold I64 at hn;omega) 14)) rfl) rfl ?_)));refine aU rfl (aX tyT rfl rfl uu_ (eX (by simp)) rfl (aV _) (.inl (by assumption)) ?_);refine go2 ?_;refine aS rfl (.inr rfl) ⟨_,_,_,_,_,_,rfl,mm_,tyT,_,(bX (eX (by simp))),(eX (by simp)),rfl⟩ ?_;exact congrArg RV (SR hn rfl rfl)
end Go.Proofs.YtbjlhfochebmiaaGreatDoor

