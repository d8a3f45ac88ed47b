/- Lemmas: what they ask stands in their statements. -/
import Derived.Test.YtokjfhfiodopdaaGreatWPa
set_option linter.unusedSimpArgs false
set_option linter.unusedVariables false
set_option maxHeartbeats 8000000
set_option maxRecDepth 20000
namespace Go.Proofs.YtokjfhfiodopdaaGreat
open Go.Kn Go.Num Tryz
attribute [local irreducible] Go.Kn.W WL PL OpQ OpR OpS
theorem mT (a b:R) (ha:a.Ok) (hb:b.Ok) :
    Ret prog 123 [RV a,RV b] (RV (Z.gcd a.dec b.dec).enc):=by
 refine bT (N:=64) func123 rfl rfl (by simp) (fun w0=>?_);simp only [bK,Nat.reduceAdd];have hla:=ca_ ha;have hlb:=ca_ hb;refine go_ ?_;refine bC rfl (jN rfl rfl (fun b2 hb2=>bC rfl (jN rfl rfl (fun b3 hb3=>bC rfl (eD kR (fun b4 hb4=>go2 ?_))))));refine sQ (cJ tyT rfl mm_ (cX ha)) rfl ?_;refine sQ (bM aJ (fI a ha) rfl) rfl (go7 ?_);refine sQ (cJ tyT rfl mm_ (cX hb)) rfl ?_;refine sQ (bM aJ (fI b hb) rfl) rfl (pO ?_)
 cases w1:gU a
 ·refine go7 ?_;refine sQ (cJ tyT rfl mm_ (cX ha)) rfl ?_;refine sQ (bM aJ (bN a ha) rfl) rfl (go2 ?_)
  cases ga:a.good
  ·refine go7 ?_;refine sQ (bM aJ dL rfl) rfl (bC rfl (bO tyT rfl rfl uu_ (aL _) rfl (bI _) (.inl (by assumption)) ?_));refine go2 ?_;refine bG rfl (.inr rfl) ⟨_,_,_,_,_,_,rfl,mm_,tyT,_,(dS (aL _)),(aL _),rfl⟩ ?_
   (rw [Z.gcd,jB (.inl (D8 ga))];rfl)
  refine sQ (cJ tyT rfl mm_ (cX hb)) rfl ?_;refine sQ (bM aJ (bN b hb) rfl) rfl (go3 ?_);refine aQ _ rfl (fun gb=>?_) (fun gb=>?_)
  ·replace gb:=cB_ gb
   refine go_ ?_;refine sQ (bM aJ dL rfl) rfl (bC rfl (bO tyT rfl rfl uu_ (aL _) rfl (bI _) (.inl (by assumption)) ?_));refine go2 ?_;refine bG rfl (.inr rfl) ⟨_,_,_,_,_,_,rfl,mm_,tyT,_,(dS (aL _)),(aL _),rfl⟩ ?_
   (rw [Z.gcd,jB (.inr (D8 gb))];rfl)
  replace gb:=cB_ gb
  refine go2 ?_;refine sQ (cJ tyT rfl mm_ (cX ha)) rfl ?_;refine bC rfl (fB aJ rfl (fun w hw=>bL a ha w) (fun v5 L5 h5=>go3 ?_));refine sQ (cJ tyT rfl mm_ (cX hb)) rfl ?_;refine bC rfl (fB aJ rfl (fun w hw=>bL b hb w) (fun v6 L6 h6=>go4 ?_));refine cF [10,11,12,13,51,52,53,54,55,56,57,58,59,60,61] (fun g nn M=>∃ (X Y:Nat) (vx vy:Value) (Lx Ly:List Blk),(g 10=vx∧g 11=vy)∧M=Ly ++ (Lx ++ [⟨b4,27,zR⟩,⟨b3,27,b.cells⟩,⟨b2,27,a.cells⟩])∧nn=Y∧((X<65536 ^ 32∧Y<65536 ^ 32)∧Nat.gcd X Y=Nat.gcd (val a.w) (val b.w)∧SL w0 [] Lx vx (dl X)∧SL w0 [] Ly vy (dl Y))) (val b.w) ?start ?round
  case start =>
   refine ⟨_,(List.Sublist.refl _),val a.w,val b.w,v5,v6,L5,L6,⟨?a10,?a11⟩,?mem0,rfl,⟨⟨SN ha,SN hb⟩,rfl,h5.sl,h6.sl⟩⟩
   case mem0=>rfl
   case a10=>rfl
   case a11=>rfl
  case round =>
   rintro nn g M ⟨X,Y,vx,vy,Lx,Ly,⟨hg10,hg11⟩,rfl,hmeas,⟨hb3,hgc,hX,hY⟩⟩;subst nn;simp only [eH,hg10,hg11];clear hg10 hg11;refine go3 ?_;refine sQ (lR jV rfl (hY.sub lZ)) rfl (go2 ?_);refine aQ _ rfl (fun h53=>?_) (fun h53=>?_)
   ·replace h53:=cB_ h53
    have hYp:0<Y:=SM h53;refine go5 ?_;refine bC rfl (zQ aJ rfl (fun w hw=>lD vx vy X Y hYp (CX hb3.1) (CX hb3.2) w (SL.sl (hX.sub (.trans lZ (List.sublist_append_right _ _))) hw) (SL.sl (hY.sub lZ) hw)) (fun vq vr Lr hq hr=>QA ?_));refine ⟨pp_,_,_,(List.Sublist.append (List.Sublist.refl _) (List.Sublist.append (List.Sublist.refl _) (List.sublist_append_right _ _))),(Nat.mod_lt _ hYp),Y,X % Y,vy,vr,Ly,Lr,⟨?s10,?s11⟩,?mem,rfl,⟨⟨hb3.2,Nat.lt_of_le_of_lt (Nat.mod_le _ _) hb3.1⟩,by rw [← hgc];exact KS X Y,hY,hr⟩⟩
    case mem=>rfl
    case s10=>rfl
    case s11=>rfl
   replace h53:=cB_ h53
   have hY0:Y=0:=N6 h53;refine go3 ?_;refine sQ (bE aJ rfl (fun w hw=>dG false _ _ (jR _) (Nat.le_trans (CX hb3.1) dd_) w (SL.sl (hX.sub (.trans lZ (List.sublist_append_right _ _))) hw))) rfl (bC rfl (bO tyT rfl rfl uu_ (aL _) rfl (bI _) (.inl (by assumption)) ?_));refine go2 ?_;refine bG rfl (.inr rfl) ⟨_,_,_,_,_,_,rfl,mm_,tyT,_,(dS (aL _)),(aL _),rfl⟩ ?_
   (rw [XP ha hb ga gb (by rw [← hgc,hY0,Nat.gcd_zero_right]),fL];rfl)
 refine go3 ?_;refine aQ _ rfl (fun w2=>?_) (fun w2=>?_)
 ·replace w2:=cB_ w2
  refine go2 ?_;refine cF [5,7,9,28,29,30,31,32,33,34] (fun g nn M=>∃ (x y:Int),(g 5 = .int .i64 x∧g 7 = .int .i64 y)∧M=[⟨b4,27,zR⟩,⟨b3,27,b.cells⟩,⟨b2,27,a.cells⟩]∧nn=y.natAbs∧((-4611686018427387904<x∧x<4611686018427387904)∧(-4611686018427387904<y∧y<4611686018427387904)∧Int.gcd x y=Int.gcd (jD a) (jD b))) ((jD b).natAbs) ?start ?round
  case start =>
   refine ⟨_,(List.Sublist.refl _),jD a,jD b,⟨?a5,?a7⟩,?mem0,rfl,⟨(kO ha w1).2.2.2,(kO hb w2).2.2.2,rfl⟩⟩
   case mem0=>rfl
   case a5=>rfl
   case a7=>rfl
  case round =>
   rintro nn g M ⟨x,y,⟨hg5,hg7⟩,rfl,hmeas,⟨hx,hy,hgc⟩⟩;subst nn;simp only [eH,hg5,hg7];clear hg5 hg7;refine go5 ?_;refine aQ _ rfl (fun h29=>?_) (fun h29=>?_)
   ·replace h29:=cB_ h29
    refine go5 ?_;refine sQ (rT rfl rfl h29) rfl (pO ?_);refine ⟨pp_,_,_,(List.Sublist.refl _),(sU (by simpa using h29)).1,y,x.tmod y,⟨?s5,?s7⟩,?mem,rfl,⟨hy,dm_ hx,by rw [← hgc];exact XY x y⟩⟩
    case mem=>rfl
    case s5=>rfl
    case s7=>rfl
   replace h29:=cB_ h29
   have hy0:y=0:=by simpa using h29
   refine go3 ?_;refine sQ (bM aJ (eV x (dl_ hx)) rfl) rfl (sQ (bM aJ (xV (Z.of x).enc (Z.enc_ok _)) rfl) rfl (bC rfl (bO tyT rfl rfl uu_ (aL _) rfl (bI _) (.inl (by assumption)) ?_)));refine go2 ?_;refine bG rfl (.inr rfl) ⟨_,_,_,_,_,_,rfl,mm_,tyT,_,(dS (aL _)),(aL _),rfl⟩ ?_
   (rw [wW,UI ha hb w1 w2 hgc hy0];rfl)
 replace w2:=cB_ w2
 refine go3 ?_;refine sQ (cJ tyT rfl mm_ (cX ha)) rfl ?_;refine sQ (bM aJ (bN a ha) rfl) rfl (go2 ?_)
 cases ga:a.good
 ·refine go7 ?_;refine sQ (bM aJ dL rfl) rfl (bC rfl (bO tyT rfl rfl uu_ (aL _) rfl (bI _) (.inl (by assumption)) ?_));refine go2 ?_;refine bG rfl (.inr rfl) ⟨_,_,_,_,_,_,rfl,mm_,tyT,_,(dS (aL _)),(aL _),rfl⟩ ?_
  (rw [Z.gcd,jB (.inl (D8 ga))];rfl)
 refine sQ (cJ tyT rfl mm_ (cX hb)) rfl ?_;refine sQ (bM aJ (bN b hb) rfl) rfl (go3 ?_);refine aQ _ rfl (fun gb=>?_) (fun gb=>?_)
 ·replace gb:=cB_ gb
  refine go_ ?_;refine sQ (bM aJ dL rfl) rfl (bC rfl (bO tyT rfl rfl uu_ (aL _) rfl (bI _) (.inl (by assumption)) ?_));refine go2 ?_;refine bG rfl (.inr rfl) ⟨_,_,_,_,_,_,rfl,mm_,tyT,_,(dS (aL _)),(aL _),rfl⟩ ?_
  (rw [Z.gcd,jB (.inr (D8 gb))];rfl)
 replace gb:=cB_ gb
 refine go2 ?_;refine sQ (cJ tyT rfl mm_ (cX ha)) rfl ?_;refine bC rfl (fB aJ rfl (fun w hw=>bL a ha w) (fun v5 L5 h5=>go3 ?_));refine sQ (cJ tyT rfl mm_ (cX hb)) rfl ?_;refine bC rfl (fB aJ rfl (fun w hw=>bL b hb w) (fun v6 L6 h6=>go4 ?_));refine cF [10,11,12,13,51,52,53,54,55,56,57,58,59,60,61] (fun g nn M=>∃ (X Y:Nat) (vx vy:Value) (Lx Ly:List Blk),(g 10=vx∧g 11=vy)∧M=Ly ++ (Lx ++ [⟨b4,27,zR⟩,⟨b3,27,b.cells⟩,⟨b2,27,a.cells⟩])∧nn=Y∧((X<65536 ^ 32∧Y<65536 ^ 32)∧Nat.gcd X Y=Nat.gcd (val a.w) (val b.w)∧SL w0 [] Lx vx (dl X)∧SL w0 [] Ly vy (dl Y))) (val b.w) ?start ?round
 case start =>
  refine ⟨_,(List.Sublist.refl _),val a.w,val b.w,v5,v6,L5,L6,⟨?a10,?a11⟩,?mem0,rfl,⟨⟨SN ha,SN hb⟩,rfl,h5.sl,h6.sl⟩⟩
  case mem0=>rfl
  case a10=>rfl
  case a11=>rfl
 case round =>
  rintro nn g M ⟨X,Y,vx,vy,Lx,Ly,⟨hg10,hg11⟩,rfl,hmeas,⟨hb3,hgc,hX,hY⟩⟩;subst nn;simp only [eH,hg10,hg11];clear hg10 hg11;refine go3 ?_;refine sQ (lR jV rfl (hY.sub lZ)) rfl (go2 ?_);refine aQ _ rfl (fun h53=>?_) (fun h53=>?_)
  ·replace h53:=cB_ h53
   have hYp:0<Y:=SM h53;refine go5 ?_;refine bC rfl (zQ aJ rfl (fun w hw=>lD vx vy X Y hYp (CX hb3.1) (CX hb3.2) w (SL.sl (hX.sub (.trans lZ (List.sublist_append_right _ _))) hw) (SL.sl (hY.sub lZ) hw)) (fun vq vr Lr hq hr=>QA ?_));refine ⟨pp_,_,_,(List.Sublist.append (List.Sublist.refl _) (List.Sublist.append (List.Sublist.refl _) (List.sublist_append_right _ _))),(Nat.mod_lt _ hYp),Y,X % Y,vy,vr,Ly,Lr,⟨?s10,?s11⟩,?mem,rfl,⟨⟨hb3.2,Nat.lt_of_le_of_lt (Nat.mod_le _ _) hb3.1⟩,by rw [← hgc];exact KS X Y,hY,hr⟩⟩
   case mem=>rfl
   case s10=>rfl
   case s11=>rfl
  replace h53:=cB_ h53
  have hY0:Y=0:=N6 h53;refine go3 ?_;refine sQ (bE aJ rfl (fun w hw=>dG false _ _ (jR _) (Nat.le_trans (CX hb3.1) dd_) w (SL.sl (hX.sub (.trans lZ (List.sublist_append_right _ _))) hw))) rfl (bC rfl (bO tyT rfl rfl uu_ (aL _) rfl (bI _) (.inl (by assumption)) ?_));refine go2 ?_;refine bG rfl (.inr rfl) ⟨_,_,_,_,_,_,rfl,mm_,tyT,_,(dS (aL _)),(aL _),rfl⟩ ?_
  (rw [XP ha hb ga gb (by rw [← hgc,hY0,Nat.gcd_zero_right]),fL];rfl)
theorem tT (r:R) (h:r.Ok) :
    Ret prog 140 [RV r] (.bool r.valid):=by
 refine bT (N:=23) func140 rfl rfl (by simp) (fun w0=>?_);simp only [bK,Nat.reduceAdd];refine go_ ?_;refine bC rfl (jN rfl rfl (fun b1 hb1=>go3 ?_));refine sQ (cC fdT dd_ rfl) rfl (sQ (hZ (vs:=uw r.w) tyT rfl mm_ (kH h.len) ((gI _).trans h.len)) rfl ?_);refine sQ (nR oZ arT rfl (.nil _)) rfl ?_;refine sQ (uR (r:=r.zero) rfl rfl (mQ 8 dd_ FK F7 (mK h.len) (mK (by simp)) h.zero_iff)) rfl ?_;refine go4 ?_;refine sQ (cC fdT dd_ rfl) rfl (sQ (dJ tyT rfl mm_ rfl) rfl ?_);refine go_ ?_;refine aQ _ rfl (fun hb=>?_) (fun hb=>?_)
 ·replace hb:=cB_ hb
  refine go3 ?_
  cases hz:r.zero
  ·refine go7 ?_;refine bG rfl (.inr rfl) rfl ?_
   simp [R.valid, *]
  refine sQ (cC fdT dd_ rfl) rfl (sQ (dJ tyT rfl mm_ rfl) rfl ?_);refine go5 ?_;refine bG rfl (.inr rfl) rfl ?_
  simp [R.valid, *]
 replace hb:=cB_ hb
 refine go5 ?_
 cases hz:r.zero
 ·refine go7 ?_;refine bG rfl (.inr rfl) rfl ?_
  simp [R.valid, *]
 refine sQ (cC fdT dd_ rfl) rfl (sQ (dJ tyT rfl mm_ rfl) rfl ?_);refine go5 ?_;refine bG rfl (.inr rfl) rfl ?_
 simp [R.valid, *]
theorem iQ  :
    Ret prog 161 [] (RV Z.bad.enc):=by
 refine bT (N:=2) func161 rfl rfl (by simp) (fun w0=>?_);simp only [bK,Nat.reduceAdd];refine go_ ?_;refine bC rfl (eD kR (fun b0 hb0=>go2 ?_));refine sQ (uQ kR plT rfl (.cons rfl (vs:=[.bool true]) rfl rfl (by simp [zR]) (z':=Z.bad.enc.cells) rfl (.nil _))) rfl ?_;refine bC rfl (bO tyT rfl rfl uu_ rfl rfl (bI Z.bad.enc) (.inl (by assumption)) ?_);refine go2 ?_;refine bG rfl (.inr rfl) ⟨_,_,_,_,_,_,rfl,mm_,tyT,_,(dS rfl),rfl,rfl⟩ ?_;exact rfl
theorem fH (neg:Bool) (w:List Nat) (hw:w.length=16) (hlim:Lim w) :
    Ret prog 153 [.bool neg,UV w] (RV ⟨false,neg && !(val w==0),w⟩):=by
 refine bT (N:=13) func153 rfl rfl (by simp) (fun w0=>?_);simp only [bK,Nat.reduceAdd]
 have hlw:(uw w).length=16:=by rw [gI,hw]
 refine go_ ?_;refine bC rfl (jN rfl rfl (fun b3 hb3=>bC rfl (eD kR (fun b4 hb4=>go2 ?_))));refine rK (sd (sk (s0))) 9 [8] [8] (go2 ?_)
 cases neg
 ·refine go4 ?_;refine pQ rfl (cJ tyT rfl mm_ hlw) ?_;refine pQ rfl (uQ kR plT rfl (XM hw)) ?_;refine fM rfl rfl (bO tyT rfl rfl uu_ (by simp [R.cells,hlw]) rfl (bI _) (.inl (by assumption)) ⟨nf,ss_,?_⟩);refine go2 ?_;refine bG rfl (.inr rfl) ⟨_,_,_,_,_,_,rfl,mm_,tyT,_,(dS (by simp [R.cells,hlw])),(by simp [R.cells,hlw]),rfl⟩ ?_;rfl
 refine pQ rfl (cJ tyT rfl mm_ hlw) ?_;refine pQ rfl (nR oZ arT rfl (.nil _)) ?_;refine pQ rfl (A5 (r:=(val w==0)) rfl rfl (mQ 8 dd_ FK F7 (mK hw) (mK (by simp)) (z4 hw hlim))) ?_;refine go_ ?_;refine pQ rfl (cJ tyT rfl mm_ hlw) ?_;refine pQ rfl (uQ kR plT rfl (XM hw)) ?_;refine fM rfl rfl (bO tyT rfl rfl uu_ (by simp [R.cells,hlw]) rfl (bI _) (.inl (by assumption)) ⟨nf,ss_,?_⟩);refine go2 ?_;refine bG rfl (.inr rfl) ⟨_,_,_,_,_,_,rfl,mm_,tyT,_,(dS (by simp [R.cells,hlw])),(by simp [R.cells,hlw]),rfl⟩ ?_;rfl
theorem iN (rs:List R) (hrs:∀ r∈rs,r.Ok) (b T:Nat) (w:World) (hb:w.heap[b]? = some (.cells (rs.flatMap R.cells).toArray T (0,0))) (hn:rs.length≤1000) :
    Calls prog 121 [.slice (some ⟨b,0,none⟩) rs.length rs.length].toArray w (fun e w'=>e = .returned (.bool (rs.all R.good))∧Ext w w'):=by
 refine cQ (N:=19) func121 rfl rfl (by simp) ?_;obtain ⟨w0,rfl⟩:∃ w0,w0=w:=⟨_,rfl⟩;simp only [bK,Nat.reduceAdd];refine go6 ?_;refine sQ (S5 pF rfl) rfl (go3 ?_);refine cF [2,4,7,8,9,10,11,12,13,14,15,16,17,18] (fun g nn M=>∃ (k:Nat),(g 7 = .int .i64 (k:Int))∧M=[]∧nn=rs.length - k∧(k≤rs.length∧(rs.take k).all R.good=true)) (rs.length - 0) ?start ?round
 case start =>
  refine ⟨_,(List.Sublist.refl _),0,?a7,?mem0,rfl,⟨Nat.zero_le _,rfl⟩⟩
  case mem0=>rfl
  case a7=>rfl
 case round =>
  rintro nn g M ⟨k,hg7,rfl,hmeas,⟨hk,hall⟩⟩;subst nn;simp only [eH,hg7];clear hg7;refine go4 ?_;refine aQ _ rfl (fun hc=>?_) (fun hc=>?_)
  ·replace hc:=cB_ hc
   obtain ⟨r,hr⟩:∃ r,rs[k]? = some r:=⟨_,List.getElem?_eq_getElem oo_⟩;have hrok:=hrs r (List.mem_of_getElem? hr);refine go4 ?_;refine sQ (AY pF rfl rfl oo_ oo_) rfl (sQ (OP (vs:=r.cells) tyT rfl hb (by simp) (by rw [show (0+(k:Int).toNat * 18)=k * 18 by omega];exact CD R.cells 18 rs k r (fun y hy=>cX (hrs y hy)) hr) (cX hrok)) rfl ?_);refine bC rfl (eD kR (fun b4 hb4=>bC rfl (bO tyT rfl rfl uu_ (cX hrok) rfl (bI _) (.inl (by assumption)) ?_)));refine go2 ?_;refine sQ (cC fdT dd_ rfl) rfl (sQ (dJ tyT rfl mm_ rfl) rfl ?_);refine go_ ?_
   cases hbad:r.bad
   ·refine sQ (cJ tyT rfl mm_ (cX hrok)) rfl ?_;refine sQ (bM aJ (tT r hrok) rfl) rfl (go3 ?_);refine aQ _ rfl (fun hx=>?_) (fun hx=>?_)
    ·replace hx:=cB_ hx
     skip
     refine go4 ?_;refine bG rfl (.inr rfl) rfl ?_;exact congrArg Value.bool (BG hr (by simp [R.good,hbad,hx]))
    replace hx:=cB_ hx
    skip
    refine go5 ?_;refine ⟨pp_,_,_,(List.Sublist.cons _ (List.Sublist.refl _)),oo_,k+1,?s7,?mem,rfl,⟨by omega,by rw [H1 oo_ hr];simp [hall,R.good,hbad,hx]⟩⟩
    case mem=>rfl
    case s7=>(show Value.int .i64 _=_;rw [bQ (by unfold I64;omega)];rfl)
   refine pO ?_;refine bG rfl (.inr rfl) rfl ?_;exact congrArg Value.bool (BG hr (by simp [R.good,hbad]))
  replace hc:=cB_ hc
  have hke:k=rs.length:=by omega
  refine go5 ?_;refine bG rfl (.inr rfl) rfl ?_
  (subst hke;rw [List.take_length] at hall;exact congrArg Value.bool hall.symm)
theorem HL (xs ys:List Nat) (hx:xs.length=16) (hy:ys.length=16) (lx:Lim xs) (ly:Lim ys) :
    Ret prog 168 [UV xs,UV ys] (.tuple #[UV (toL 16 (val xs+val ys)),.bool (((cy (val xs) (val ys) 16:Nat):Int)==0)]):=by
 refine bT (N:=33) func168 rfl rfl (by simp) (fun w0=>?_);simp only [bK,Nat.reduceAdd];refine go_ ?_;refine bC rfl (jN rfl rfl (fun b2 hb2=>bC rfl (jN rfl rfl (fun b3 hb3=>bC rfl (eD oZ (fun b4 hb4=>go3 ?_))))));refine bC rfl (eD oZ (fun b6 hb6=>go9 ?_));refine cF [7,8,9,10,11,12,13,14,15,16,17,18,19,20,21,22,23,24,25,26,27,28,29] (fun g nn M=>∃ (k:Nat),(g 7 = .int .u64 ((cy (val xs) (val ys) k:Nat):Int)∧g 9 = .int .i64 (k:Int))∧M=[⟨b6,25,uw (vU k (val xs+val ys) 16)⟩,⟨b4,25,uw (List.replicate 16 0)⟩,⟨b3,25,uw ys⟩,⟨b2,25,uw xs⟩]∧nn=16 - k∧(k≤16)) (16) ?start ?round
 case start =>
  refine ⟨_,(List.Sublist.refl _),0,⟨?a7,?a9⟩,?mem0,rfl,Nat.zero_le _⟩
  case mem0=>rw [wX]
  case a7=>rw [aP_];rfl
  case a9=>rfl
 case round =>
  rintro nn g M ⟨k,⟨hg7,hg9⟩,rfl,hmeas,hk⟩;subst nn;simp only [eH,hg7,hg9];clear hg7 hg9;refine go4 ?_;refine aQ _ rfl (fun hc=>?_) (fun hc=>?_)
  ·replace hc:=cB_ hc
   have hc:k<16:=by omega
   have hcy:=eF_ (val xs) (val ys) k;refine go8 ?_;refine rK (sk (sk (sk (sk (s0))))) 12 [] [] (go2 ?_);refine pQ rfl (eK arT rfl rfl oo_ oo_) (pQ rfl (dJ tyT rfl mm_ (r8 oo_)) ?_);refine pQ rfl (dY gJ fD rfl) (go_ ?_);refine pQ rfl (eK arT rfl rfl oo_ oo_) (pQ rfl (dJ tyT rfl mm_ (r8 oo_)) ?_);refine pQ rfl (dY gJ fD rfl) (go_ ?_);refine pQ rfl (aS (iO rfl rfl) (congrArg (Value.int .u64) (dL_ hcy (dR lx k) (dR ly k)))) (go5 ?_);refine sQ (aS (dY fD gJ rfl) (nO _)) rfl (sQ (eK arT rfl rfl oo_ oo_) rfl (bC rfl (mJ tyT rfl rfl uu_ (by rw [i4 _ hk];exact hc) (.inl (by assumption)) ?_)));refine go3 ?_;refine sQ (aS (tJ rfl rfl dd_) (congrArg (Value.int .u64) (pR _ 32))) rfl (go6 ?_);refine ⟨pp_,_,_,(List.Sublist.refl _),oo_,k+1,⟨?s7,?s9⟩,?mem,rfl,oo_⟩
   case mem=>rw [eO xs k lx,eO ys k ly,QX,vV _ hc]
   case s7=>rw [← QW,← eO xs k lx,← eO ys k ly];rfl
   case s9=>exact congrArg (Value.int .i64) (bQ (n:=(k:Int)+1) (by unfold I64;omega))
  replace hc:=cB_ hc
  obtain rfl:k=16:=by omega
  refine go2 ?_;refine sQ (cJ tyT rfl mm_ (by simp [uw,i4])) rfl ?_;refine go2 ?_;refine bC rfl (bO tyT rfl rfl uu_ (by simp [uw,i4]) rfl (iG _) (.inl (by assumption)) ?_);refine go3 ?_;refine iY rfl (.inr rfl) ⟨_,_,_,_,_,_,rfl,mm_,tyT,_,(dS (by simp [uw,i4])),(by simp [uw,i4]),rfl⟩ rfl ?_;rw [zI];rfl
theorem tU (xs ys:List Nat) (hx:xs.length=16) (hy:ys.length=16) (lx:Lim xs) (ly:Lim ys) (hle:val ys≤val xs) :
    Ret prog 170 [UV xs,UV ys] (UV (toL 16 (val xs - val ys))):=by
 refine bT (N:=31) func170 rfl rfl (by simp) (fun w0=>?_);simp only [bK,Nat.reduceAdd];refine go_ ?_;refine bC rfl (jN rfl rfl (fun b2 hb2=>bC rfl (jN rfl rfl (fun b3 hb3=>bC rfl (eD oZ (fun b4 hb4=>go2 ?_))))));refine bC rfl (eD oZ (fun b5 hb5=>go9 ?_));refine cF [6,7,8,9,10,11,12,13,14,15,16,17,18,19,20,21,22,23,24,25,26,27,28,29] (fun g nn M=>∃ (k:Nat),(g 6 = .int .u64 ((bw (val xs) (val ys) k:Nat):Int)∧g 9 = .int .i64 (k:Int))∧M=[⟨b5,25,uw (vU k (val xs - val ys) 16)⟩,⟨b4,25,uw (List.replicate 16 0)⟩,⟨b3,25,uw ys⟩,⟨b2,25,uw xs⟩]∧nn=16 - k∧(k≤16)) (16) ?start ?round
 case start =>
  refine ⟨_,(List.Sublist.refl _),0,⟨?a6,?a9⟩,?mem0,rfl,Nat.zero_le _⟩
  case mem0=>rw [wX]
  case a6=>rw [aI_];rfl
  case a9=>rfl
 case round =>
  rintro nn g M ⟨k,⟨hg6,hg9⟩,rfl,hmeas,hk⟩;subst nn;simp only [eH,hg6,hg9];clear hg6 hg9;refine go4 ?_;refine aQ _ rfl (fun hc=>?_) (fun hc=>?_)
  ·replace hc:=cB_ hc
   have hc:k<16:=by omega
   have hbw:=eC_ (val xs) (val ys) k;refine go8 ?_;refine rK (sk (sk (sk (sk (s0))))) 12 [] [] (go_ ?_);refine pQ rfl (eK arT rfl rfl oo_ oo_) (pQ rfl (dJ tyT rfl mm_ (r8 oo_)) ?_);refine pQ rfl (dY gJ fD rfl) (go_ ?_);refine pQ rfl (eK arT rfl rfl oo_ oo_) (pQ rfl (dJ tyT rfl mm_ (r8 oo_)) ?_);refine pQ rfl (dY gJ fD rfl) (go2 ?_);refine pQ rfl (aS (nF rfl rfl) (congrArg (Value.int .u64) (SS hbw (dR lx k) (dR ly k)))) (go5 ?_);refine sQ (aS (dY fD gJ rfl) (nO _)) rfl (sQ (eK arT rfl rfl oo_ oo_) rfl (bC rfl (mJ tyT rfl rfl uu_ (by rw [i4 _ hk];exact hc) (.inl (by assumption)) ?_)));refine go3 ?_;refine sQ (aS (tJ rfl rfl dd_) (congrArg (Value.int .u64) (pR _ 63))) rfl (go6 ?_);refine ⟨pp_,_,_,(List.Sublist.refl _),oo_,k+1,⟨?s6,?s9⟩,?mem,rfl,oo_⟩
   case mem=>rw [eO xs k lx,eO ys k ly,N9 k hle,vV _ hc]
   case s6=>rw [← K0,← eO xs k lx,← eO ys k ly];rfl
   case s9=>exact congrArg (Value.int .i64) (bQ (n:=(k:Int)+1) (by unfold I64;omega))
  replace hc:=cB_ hc
  obtain rfl:k=16:=by omega
  refine go2 ?_;refine sQ (cJ tyT rfl mm_ (by simp [uw,i4])) rfl ?_;refine bC rfl (bO tyT rfl rfl uu_ (by simp [uw,i4]) rfl (iG _) (.inl (by assumption)) ?_);refine go2 ?_;refine bG rfl (.inr rfl) ⟨_,_,_,_,_,_,rfl,mm_,tyT,_,(dS (by simp [uw,i4])),(by simp [uw,i4]),rfl⟩ ?_;rw [zI];rfl
theorem DT (x:Nat) :
    Ret prog 195 [U32 x] (.bool false):=by
 refine bT (N:=6) func195 rfl rfl (by simp) (fun w0=>?_);simp only [bK,Nat.reduceAdd];refine go6 ?_;refine sQ (aS (ch_ rfl rfl) (congrArg Value.bool (bne_self_eq_false _))) rfl (go3 ?_);refine bG rfl (.inr rfl) rfl ?_;exact rfl
theorem UD (x y:Nat) :
    Ret prog 185 [U32 x,U32 y] (.int .i64 (uJ x y)):=by
 refine bT (N:=20) func185 rfl rfl (by simp) (fun w0=>?_);simp only [bK,Nat.reduceAdd];refine go5 ?_;refine sQ (bM aJ (DT x) rfl) rfl (go4 ?_);refine sQ (bM aJ (DT y) rfl) rfl (eQ_ ?_);refine aQ _ rfl (fun h1=>?_) (fun h1=>?_)
 ·replace h1:=cB_ h1
  refine go4 ?_;refine bG rfl (.inr rfl) rfl ?_;exact congrArg _ (u6 h1).symm
 replace h1:=cB_ h1
 refine go7 ?_;refine aQ _ rfl (fun h2=>?_) (fun h2=>?_)
 ·replace h2:=cB_ h2
  refine go4 ?_;refine bG rfl (.inr rfl) rfl ?_;exact congrArg _ (u5 h2).symm
 replace h2:=cB_ h2
 refine go5 ?_;refine bG rfl (.inr rfl) rfl ?_
 (obtain rfl:x=y:=by omega);exact congrArg _ (BH _).symm
theorem m9 (xs ys:List Nat) (hx:xs.length=16) (hy:ys.length=16) (lx:Lim xs) (ly:Lim ys) :
    Ret prog 169 [UV xs,UV ys] (.int .i64 (uJ (val xs) (val ys))):=by
 refine bT (N:=24) func169 rfl rfl (by simp) (fun w0=>?_);simp only [bK,Nat.reduceAdd];refine go_ ?_;refine bC rfl (jN rfl rfl (fun b2 hb2=>bC rfl (jN rfl rfl (fun b3 hb3=>go7 ?_))));refine cF [4,5,6,7,8,9,10,11,12,13,14,15,16,17,18,19,20,21,22,23] (fun g nn M=>∃ (k:Nat),(g 5 = .int .i64 ((k:Int) - 1))∧M=[⟨b3,25,uw ys⟩,⟨b2,25,uw xs⟩]∧nn=k+0∧(k≤16∧xs.drop k=ys.drop k)) (16) ?start ?round
 case start =>
  refine ⟨_,(List.Sublist.refl _),16,?a5,?mem0,rfl,⟨Nat.le_refl _,by rw [List.drop_eq_nil_of_le oo_,List.drop_eq_nil_of_le oo_]⟩⟩
  case mem0=>rfl
  case a5=>rfl
 case round =>
  rintro nn g M ⟨k,hg5,rfl,hmeas,⟨hk,hd⟩⟩;subst nn;simp only [eH,hg5];clear hg5;refine go5 ?_;refine aQ _ rfl (fun hc=>?_) (fun hc=>?_)
  ·replace hc:=cB_ hc
   obtain ⟨m,rfl⟩:∃ m,k=m+1:=⟨k - 1,by omega⟩;refine go4 ?_;refine rK (sk (sk (s0))) 7 [] [] (pQ rfl (aS (jO rfl) (congrArg (Value.int .i64) (show (((m+1:Nat):Int) - 1)=(m:Int) by omega))) (pQ rfl (eK arT rfl rfl oo_ oo_) (pQ rfl (dJ tyT rfl mm_ (r8 oo_)) ?_)));refine pQ rfl (aS (jO rfl) (congrArg (Value.int .i64) (show (((m+1:Nat):Int) - 1)=(m:Int) by omega))) (pQ rfl (eK arT rfl rfl oo_ oo_) (pQ rfl (dJ tyT rfl mm_ (r8 oo_)) ?_));refine go2 ?_;refine aQ _ rfl (fun hne=>?_) (fun hne=>?_)
   ·replace hne:=cB_ hne
    refine go_ ?_;refine rK (sk (sk (s0))) 8 [] [] (pQ rfl (aS (jO rfl) (congrArg (Value.int .i64) (show (((m+1:Nat):Int) - 1)=(m:Int) by omega))) (pQ rfl (eK arT rfl rfl oo_ oo_) (pQ rfl (dJ tyT rfl mm_ (r8 oo_)) ?_)));refine pQ rfl (aS (jO rfl) (congrArg (Value.int .i64) (show (((m+1:Nat):Int) - 1)=(m:Int) by omega))) (pQ rfl (eK arT rfl rfl oo_ oo_) (pQ rfl (dJ tyT rfl mm_ (r8 oo_)) ?_));refine pQ rfl (bM aJ (UD _ _) rfl) (go3 ?_);refine bG rfl (.inr rfl) rfl ?_;exact congrArg _ (QU lx ly oo_ hd oo_)
   replace hne:=cB_ hne
   refine go2 ?_;refine sQ (aS (jO rfl) (congrArg (Value.int .i64) (show (((m+1:Nat):Int) - 1)=(m:Int) by omega))) rfl (go3 ?_);refine ⟨pp_,_,_,(List.Sublist.refl _),oo_,m,?s5,?mem,rfl,⟨by omega,KI oo_ hd oo_ oo_⟩⟩
   case mem=>rfl
   case s5=>exact congrArg (Value.int .i64) (bQ (n:=(m:Int) - 1) (by unfold I64;omega))
  replace hc:=cB_ hc
  obtain rfl:k=0:=by omega
  refine go5 ?_;refine bG rfl (.inr rfl) rfl ?_
  (rw [List.drop_zero,List.drop_zero] at hd;subst hd;exact congrArg _ (BH _).symm)
theorem mL (xs:List Nat) (hx:xs.length=16) :
    Ret prog 171 [UV xs] (.int .i64 ((szL xs:Nat):Int)):=by
 refine bT (N:=16) func171 rfl rfl (by simp) (fun w0=>?_);simp only [bK,Nat.reduceAdd];refine go_ ?_;refine bC rfl (jN rfl rfl (fun b1 hb1=>go7 ?_));refine cF [3,4,5,6,7,8,9,10,11,12,13,14] (fun g nn M=>∃ (k:Nat),(g 3 = .int .i64 (k:Int))∧M=[⟨b1,25,uw xs⟩]∧nn=k+0∧(k≤16∧∀ j,k≤j→xs.getD j 0=0)) (16) ?start ?round
 case start =>
  refine ⟨_,(List.Sublist.refl _),16,?a3,?mem0,rfl,⟨Nat.le_refl _,fun j hj=>by simp [List.getD,List.getElem?_eq_none (show xs.length≤j by omega)]⟩⟩
  case mem0=>rfl
  case a3=>rfl
 case round =>
  rintro nn g M ⟨k,hg3,rfl,hmeas,⟨hk,hhi⟩⟩;subst nn;simp only [eH,hg3];clear hg3;refine go5 ?_
  cases hz:decide ((0:Int)<(k:Int))
  ·refine QA ?_;refine bG rfl (.inr rfl) rfl ?_;exact congrArg (fun n:Nat=>Value.int .i64 (n:Int)) (MJ hhi (.inl (by have:=of_decide_eq_false hz;omega))).symm
  have hz':=of_decide_eq_true hz;obtain ⟨m,rfl⟩:∃ m,k=m+1:=⟨k - 1,by omega⟩;refine go_ ?_;refine sQ (aS (nF rfl rfl) (congrArg (Value.int .i64) (wC oo_))) rfl (sQ (eK arT rfl rfl oo_ oo_) rfl (sQ (dJ tyT rfl mm_ (r8 oo_)) rfl ?_));refine go3 ?_;refine aQ _ rfl (fun h0=>?_) (fun h0=>?_)
  ·replace h0:=cB_ h0
   refine go4 ?_;refine sQ (aS (nF rfl rfl) (congrArg (Value.int .i64) (wC oo_))) rfl (go2 ?_);refine ⟨pp_,_,_,(List.Sublist.refl _),oo_,m,?s3,?mem,rfl,⟨by omega,fun j hj=>by rcases Nat.eq_or_lt_of_le hj with rfl | hj;omega;exact hhi j hj⟩⟩
   case mem=>rfl
   case s3=>rfl
  replace h0:=cB_ h0
  refine go6 ?_;refine bG rfl (.inr rfl) rfl ?_;exact congrArg (fun n:Nat=>Value.int .i64 (n:Int)) (MJ hhi (.inr (by simp only [Nat.add_sub_cancel];omega))).symm
theorem vR (a:R) (ha:a.Ok) :
    Ret prog 176 [RV a] (RV (Z.neg a.dec).enc):=by
 refine bT (N:=14) func176 rfl rfl (by simp) (fun w0=>?_);simp only [bK,Nat.reduceAdd];refine go_ ?_;refine bC rfl (jN rfl rfl (fun b1 hb1=>bC rfl (eD kR (fun b2 hb2=>go3 ?_))));refine sQ (cJ tyT rfl mm_ (cX ha)) rfl ?_;refine bC rfl (jA nM kR nU rfl dd_ rfl (wZ ha) (fun b4 hb4=>sQ (bE aJ rfl (fun w hw=>iN [a] (ok1 ha) b4 27 w (hw.mem _ m0) (by simp))) rfl ?_));refine go2 ?_;refine aQ _ rfl (fun hg=>?_) (fun hg=>?_)
 ·replace hg:=cB_ hg
  refine go_ ?_;refine sQ (bM aJ iQ rfl) rfl (bC rfl (bO tyT rfl rfl uu_ (aL _) rfl (bI _) (.inl (by assumption)) ?_));refine go2 ?_;refine bG rfl (.inr rfl) ⟨_,_,_,_,_,_,rfl,mm_,tyT,_,(dS (aL _)),(aL _),rfl⟩ ?_
  (rw [Z.neg,qV (OB hg)];rfl)
 replace hg:=cB_ hg
 refine go2 ?_;refine sQ (cC fdT dd_ rfl) rfl (sQ (dJ tyT rfl mm_ rfl) rfl ?_);refine go_ ?_;refine sQ (cC fdT dd_ rfl) rfl (sQ (hZ (vs:=uw a.w) tyT rfl mm_ (kH ha.len) ((gI _).trans ha.len)) rfl ?_);refine sQ (bM aJ (fH (!a.neg) a.w ha.len ha.lim) rfl) rfl (bC rfl (bO tyT rfl rfl uu_ (kI ha.len) rfl (bI _) (.inl (by assumption)) ?_));refine go2 ?_;refine bG rfl (.inr rfl) ⟨_,_,_,_,_,_,rfl,mm_,tyT,_,(dS (kI ha.len)),(kI ha.len),rfl⟩ ?_;exact congrArg RV (dB_ ha (by simpa using hg))
theorem vQ (a:R) (ha:a.Ok) :
    Ret prog 152 [RV a] (RV (Z.abs a.dec).enc):=by
 refine bT (N:=11) func152 rfl rfl (by simp) (fun w0=>?_);simp only [bK,Nat.reduceAdd];refine go_ ?_;refine bC rfl (jN rfl rfl (fun b1 hb1=>bC rfl (eD kR (fun b2 hb2=>go3 ?_))));refine sQ (cJ tyT rfl mm_ (cX ha)) rfl ?_;refine bC rfl (jA nM kR nU rfl dd_ rfl (wZ ha) (fun b4 hb4=>sQ (bE aJ rfl (fun w hw=>iN [a] (ok1 ha) b4 27 w (hw.mem _ m0) (by simp))) rfl ?_));refine go2 ?_;refine aQ _ rfl (fun hg=>?_) (fun hg=>?_)
 ·replace hg:=cB_ hg
  refine go_ ?_;refine sQ (bM aJ iQ rfl) rfl (bC rfl (bO tyT rfl rfl uu_ (aL _) rfl (bI _) (.inl (by assumption)) ?_));refine go2 ?_;refine bG rfl (.inr rfl) ⟨_,_,_,_,_,_,rfl,mm_,tyT,_,(dS (aL _)),(aL _),rfl⟩ ?_
  (rw [Z.abs,qV (OB hg)];rfl)
 replace hg:=cB_ hg
 refine go2 ?_;refine sQ (cC fdT dd_ rfl) rfl (sQ (hZ (vs:=uw a.w) tyT rfl mm_ (kH ha.len) ((gI _).trans ha.len)) rfl ?_);refine sQ (bM aJ (fH false a.w ha.len ha.lim) rfl) rfl (bC rfl (bO tyT rfl rfl uu_ (kI ha.len) rfl (bI _) (.inl (by assumption)) ?_));refine go2 ?_;refine bG rfl (.inr rfl) ⟨_,_,_,_,_,_,rfl,mm_,tyT,_,(dS (kI ha.len)),(kI ha.len),rfl⟩ ?_;exact congrArg RV (cU_ ha (by simpa using hg))
theorem nL (a b:R) (ha:a.Ok) (hb:b.Ok) :
    Ret prog 116 [RV a,RV b] (RV (Z.add a.dec b.dec).enc):=by
 refine bT (N:=55) func116 rfl rfl (by simp) (fun w0=>?_);simp only [bK,Nat.reduceAdd];refine go_ ?_;refine bC rfl (jN rfl rfl (fun b2 hb2=>bC rfl (jN rfl rfl (fun b3 hb3=>bC rfl (eD kR (fun b4 hb4=>go3 ?_))))));refine sQ (cJ tyT rfl mm_ (cX ha)) rfl ?_;refine sQ (cJ tyT rfl mm_ (cX hb)) rfl ?_;refine bC rfl (jA nM kR nU rfl dd_ rfl (KN ha hb) (fun b9 hb9=>sQ (bE aJ rfl (fun w hw=>iN [a,b] (ok2 ha hb) b9 27 w (hw.mem _ m0) (by simp))) rfl ?_));refine go2 ?_;refine aQ _ rfl (fun hg=>?_) (fun hg=>?_)
 ·replace hg:=cB_ hg
  refine go_ ?_;refine sQ (bM aJ iQ rfl) rfl (bC rfl (bO tyT rfl rfl uu_ (aL _) rfl (bI _) (.inl (by assumption)) ?_));refine go2 ?_;refine bG rfl (.inr rfl) ⟨_,_,_,_,_,_,rfl,mm_,tyT,_,(dS (aL _)),(aL _),rfl⟩ ?_
  (rw [Z.add,jB (BY hg)];rfl)
 replace hg:=cB_ hg
 have hg:=all2.1 hg;refine go3 ?_;refine sQ (cC fdT dd_ rfl) rfl (sQ (dJ tyT rfl mm_ rfl) rfl ?_);refine sQ (cC fdT dd_ rfl) rfl (sQ (dJ tyT rfl mm_ rfl) rfl ?_);refine sQ (QZ xS rfl rfl) rfl (go_ ?_);refine aQ _ rfl (fun hn=>?_) (fun hn=>?_)
 ·replace hn:=cB_ hn
  refine go_ ?_;refine sQ (cC fdT dd_ rfl) rfl (sQ (hZ (vs:=uw a.w) tyT rfl mm_ (kH ha.len) ((gI _).trans ha.len)) rfl ?_);refine sQ (cC fdT dd_ rfl) rfl (sQ (hZ (vs:=uw b.w) tyT rfl mm_ (kH hb.len) ((gI _).trans hb.len)) rfl ?_);refine sQ (bM aJ (HL a.w b.w ha.len hb.len ha.lim hb.lim) rfl) rfl (go3 ?_);refine bC rfl (eD oZ (fun b5 hb5=>bC rfl (bO tyT rfl rfl uu_ (by rw [gI,dB]) rfl (iG _) (.inl (by assumption)) ?_)));refine go7 ?_;refine aQ _ rfl (fun hc=>?_) (fun hc=>?_)
  ·replace hc:=cB_ hc
   refine go_ ?_;refine sQ (bM aJ iQ rfl) rfl (bC rfl (bO tyT rfl rfl uu_ (aL _) rfl (bI _) (.inl (by assumption)) ?_));refine go2 ?_;refine bG rfl (.inr rfl) ⟨_,_,_,_,_,_,rfl,mm_,tyT,_,(dS (aL _)),(aL _),rfl⟩ ?_;exact congrArg RV (V9 ha hb hg.1 hg.2 hn oo_)
  replace hc:=cB_ hc
  refine go2 ?_;refine sQ (cC fdT dd_ rfl) rfl (sQ (dJ tyT rfl mm_ rfl) rfl ?_);refine sQ (cJ tyT rfl mm_ (by rw [gI,dB])) rfl ?_;refine sQ (bM aJ (fH a.neg _ (dB _ _) (lO _ _)) rfl) rfl (bC rfl (bO tyT rfl rfl uu_ (kI (dB _ _)) rfl (bI _) (.inl (by assumption)) ?_));refine go2 ?_;refine bG rfl (.inr rfl) ⟨_,_,_,_,_,_,rfl,mm_,tyT,_,(dS (kI (dB _ _))),(kI (dB _ _)),rfl⟩ ?_;exact congrArg RV (WA ha hb hg.1 hg.2 hn oo_)
 replace hn:=cB_ hn
 refine go3 ?_;refine sQ (cC fdT dd_ rfl) rfl (sQ (hZ (vs:=uw a.w) tyT rfl mm_ (kH ha.len) ((gI _).trans ha.len)) rfl ?_);refine sQ (cC fdT dd_ rfl) rfl (sQ (hZ (vs:=uw b.w) tyT rfl mm_ (kH hb.len) ((gI _).trans hb.len)) rfl ?_);refine sQ (bM aJ (m9 a.w b.w ha.len hb.len ha.lim hb.lim) rfl) rfl (go2 ?_);refine aQ _ rfl (fun ho=>?_) (fun ho=>?_)
 ·replace ho:=cB_ ho
  have hle:val b.w≤val a.w:=RS ho;refine go_ ?_;refine rK (sk (sd (sk (sk (s0))))) 9 [8] [8] (pQ rfl (cC fdT dd_ rfl) (pQ rfl (dJ tyT rfl mm_ rfl) ?_));refine pQ rfl (cC fdT dd_ rfl) (pQ rfl (hZ (vs:=uw a.w) tyT rfl mm_ (kH ha.len) ((gI _).trans ha.len)) ?_);refine pQ rfl (cC fdT dd_ rfl) (pQ rfl (hZ (vs:=uw b.w) tyT rfl mm_ (kH hb.len) ((gI _).trans hb.len)) ?_);refine pQ rfl (bM aJ (tU a.w b.w ha.len hb.len ha.lim hb.lim hle) rfl) (pQ rfl (bM aJ (fH a.neg _ (dB _ _) (lO _ _)) rfl) ?_);refine fM rfl rfl (bO tyT rfl rfl uu_ (kI (dB _ _)) rfl (bI _) (.inl (by assumption)) ⟨nf,ss_,?_⟩);refine go2 ?_;refine bG rfl (.inr rfl) ⟨_,_,_,_,_,_,rfl,mm_,tyT,_,(dS (kI (dB _ _))),(kI (dB _ _)),rfl⟩ ?_;exact congrArg RV (WB ha hb hg.1 hg.2 hn hle)
 replace ho:=cB_ ho
 have hle:val a.w≤val b.w:=WP ho;refine go2 ?_;refine rK (sk (sd (sk (sk (s0))))) 9 [8] [8] (pQ rfl (cC fdT dd_ rfl) (pQ rfl (dJ tyT rfl mm_ rfl) ?_));refine pQ rfl (cC fdT dd_ rfl) (pQ rfl (hZ (vs:=uw b.w) tyT rfl mm_ (kH hb.len) ((gI _).trans hb.len)) ?_);refine pQ rfl (cC fdT dd_ rfl) (pQ rfl (hZ (vs:=uw a.w) tyT rfl mm_ (kH ha.len) ((gI _).trans ha.len)) ?_);refine pQ rfl (bM aJ (tU b.w a.w hb.len ha.len hb.lim ha.lim hle) rfl) (pQ rfl (bM aJ (fH b.neg _ (dB _ _) (lO _ _)) rfl) ?_);refine fM rfl rfl (bO tyT rfl rfl uu_ (kI (dB _ _)) rfl (bI _) (.inl (by assumption)) ⟨nf,ss_,?_⟩);refine go2 ?_;refine bG rfl (.inr rfl) ⟨_,_,_,_,_,_,rfl,mm_,tyT,_,(dS (kI (dB _ _))),(kI (dB _ _)),rfl⟩ ?_;exact congrArg RV (WC ha hb hg.1 hg.2 hn hle)
theorem qM (a b:R) (ha:a.Ok) (hb:b.Ok) :
    Ret prog 144 [RV a,RV b] (RV (Z.sub a.dec b.dec).enc):=by
 refine bT (N:=9) func144 rfl rfl (by simp) (fun w0=>?_);simp only [bK,Nat.reduceAdd];refine go_ ?_;refine bC rfl (jN rfl rfl (fun b2 hb2=>bC rfl (jN rfl rfl (fun b3 hb3=>bC rfl (eD kR (fun b4 hb4=>go2 ?_))))));refine rK (sd (sk (sk (s0)))) 5 [4] [4] (pQ rfl (cJ tyT rfl mm_ (cX ha)) ?_);refine pQ rfl (cJ tyT rfl mm_ (cX hb)) ?_;refine pQ rfl (bM aJ (vR b hb) rfl) (pQ rfl (bM aJ (nL a (Z.neg b.dec).enc ha (Z.enc_ok _)) rfl) ?_);refine fM rfl rfl (bO tyT rfl rfl uu_ (aL _) rfl (bI _) (.inl (by assumption)) ⟨nf,ss_,?_⟩);refine go2 ?_;refine bG rfl (.inr rfl) ⟨_,_,_,_,_,_,rfl,mm_,tyT,_,(dS (aL _)),(aL _),rfl⟩ ?_
 (rw [wW];rfl)
theorem gM (a:R) (ha:a.Ok) :
    Ret prog 60 [RV a] (.int .i64 a.dec.sign):=by
 refine bT (N:=17) func60 rfl rfl (by simp) (fun w0=>?_);simp only [bK,Nat.reduceAdd];refine go_ ?_;refine bC rfl (jN rfl rfl (fun b1 hb1=>go5 ?_));refine sQ (cJ tyT rfl mm_ (cX ha)) rfl ?_;refine bC rfl (jA nM kR nU rfl dd_ rfl (wZ ha) (fun b5 hb5=>sQ (bE aJ rfl (fun w hw=>iN [a] (ok1 ha) b5 27 w (hw.mem _ m0) (by simp))) rfl ?_));refine go2 ?_
 cases hg:[a].all R.good
 ·refine FU ?_;refine bG rfl (.inr rfl) rfl ?_;exact congrArg _ (zX ha (.inl (by simpa using hg)))
 refine sQ (cC fdT dd_ rfl) rfl (sQ (hZ (vs:=uw a.w) tyT rfl mm_ (kH ha.len) ((gI _).trans ha.len)) rfl ?_);refine sQ (nR oZ arT rfl (.nil _)) rfl ?_;refine sQ (uR (r:=a.zero) rfl rfl (mQ 8 dd_ FK F7 (mK ha.len) (mK (by simp)) ha.zero_iff)) rfl ?_;refine go3 ?_;refine aQ _ rfl (fun hz=>?_) (fun hz=>?_)
 ·replace hz:=cB_ hz
  refine go4 ?_;refine bG rfl (.inr rfl) rfl ?_;exact congrArg _ (zX ha (.inr hz))
 replace hz:=cB_ hz
 refine go_ ?_;refine sQ (cC fdT dd_ rfl) rfl (sQ (dJ tyT rfl mm_ rfl) rfl ?_);refine go2 ?_;refine aQ _ rfl (fun hn=>?_) (fun hn=>?_)
 ·replace hn:=cB_ hn
  refine go4 ?_;refine bG rfl (.inr rfl) rfl ?_;exact congrArg _ (O3 ha (by simpa using hg) hz hn)
 replace hn:=cB_ hn
 refine go5 ?_;refine bG rfl (.inr rfl) rfl ?_;exact congrArg _ (O4 ha (by simpa using hg) hz hn)
theorem gF (n:Int) (hn:I64 n) :
    Ret prog 97 [.int .i64 n] (RV (Z.of n).enc):=by
 refine bT (N:=19) func97 rfl rfl (by simp) (fun w0=>?_);simp only [bK,Nat.reduceAdd];refine go_ ?_;refine bC rfl (eD kR (fun b2 hb2=>go3 ?_));refine sQ (dY BS fD rfl) rfl (go7 ?_);refine aQ _ rfl (fun h0=>?_) (fun h0=>?_)
 ·replace h0:=cB_ h0
  refine go2 ?_;refine sQ (aS (Y5 rfl) (congrArg (Value.int .u64) (dD_ hn h0))) rfl (go5 ?_);refine sQ (aS (jO rfl) (show _=Value.int .u64 ((n.natAbs:Nat):Int) from by first | rfl | exact congrArg (Value.int .u64) (LD hn h0))) rfl ?_;refine sQ (dY fD gJ rfl) rfl (sQ (aS (jO rfl) (show _=Value.int .u64 ((n.natAbs:Nat):Int) from by first | rfl | exact congrArg (Value.int .u64) (LD hn h0))) rfl ?_);refine sQ (aS (tJ rfl rfl dd_) (congrArg (Value.int .u64) (pR _ 32))) rfl (sQ (dY fD gJ rfl) rfl (sQ (nR oZ arT rfl (XJ (YU _) (YT (by unfold I64 at hn;omega)))) rfl (sQ (bM aJ (fH (decide (n<0)) _ (by simp) (X9 (Nat.mod_lt _ dd_) (by unfold I64 at hn;omega) 14)) rfl) rfl ?_)));refine bC rfl (bO tyT rfl rfl uu_ (kI (by simp)) rfl (bI _) (.inl (by assumption)) ?_);refine go2 ?_;refine bG rfl (.inr rfl) ⟨_,_,_,_,_,_,rfl,mm_,tyT,_,(dS (kI (by simp))),(kI (by simp)),rfl⟩ ?_;exact congrArg RV (YS hn rfl rfl)
 replace h0:=cB_ h0
 refine go4 ?_;refine sQ (aS (jO rfl) (show _=Value.int .u64 ((n.natAbs:Nat):Int) from by first | rfl | exact congrArg (Value.int .u64) (LD hn h0))) rfl ?_;refine sQ (dY fD gJ rfl) rfl (sQ (aS (jO rfl) (show _=Value.int .u64 ((n.natAbs:Nat):Int) from by first | rfl | exact congrArg (Value.int .u64) (LD hn h0))) rfl ?_);refine sQ (aS (tJ rfl rfl dd_) (congrArg (Value.int .u64) (pR _ 32))) rfl (sQ (dY fD gJ rfl) rfl (sQ (nR oZ arT rfl (XJ (YU _) (YT (by unfold I64 at hn;omega)))) rfl (sQ (bM aJ (fH (decide (n<0)) _ (by simp) (X9 (Nat.mod_lt _ dd_) (by unfold I64 at hn;omega) 14)) rfl) rfl ?_)));refine bC rfl (bO tyT rfl rfl uu_ (kI (by simp)) rfl (bI _) (.inl (by assumption)) ?_);refine go2 ?_;refine bG rfl (.inr rfl) ⟨_,_,_,_,_,_,rfl,mm_,tyT,_,(dS (kI (by simp))),(kI (by simp)),rfl⟩ ?_;exact congrArg RV (YS hn rfl rfl)
end Go.Proofs.YtokjfhfiodopdaaGreat
