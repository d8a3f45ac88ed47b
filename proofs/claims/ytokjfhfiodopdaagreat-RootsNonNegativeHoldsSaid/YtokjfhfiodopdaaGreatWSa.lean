/- Lemmas: what they ask stands in their statements. -/
import Derived.Test.YtokjfhfiodopdaaGreatWGE
set_option linter.unusedSimpArgs false
set_option linter.unusedVariables false
set_option maxHeartbeats 8000000
set_option maxRecDepth 20000
namespace Go.Proofs.YtokjfhfiodopdaaGreat
open Go.Kn Go.Num Tryz
attribute [local irreducible] Go.Kn.W WL PL OpQ OpR OpS
theorem fR (va:Value) (l:List Nat) (k:Nat) (w:World) (hva:Sl w va l) :
    Calls prog 138 [va,.int .i64 (k:Int)].toArray w (fun e w'=>e = .returned (.int .i64 ((l.getD k 0:Nat):Int))∧Ext w w'):=by
 refine cQ (N:=13) func138 rfl rfl (by simp) ?_;obtain ⟨w0,rfl⟩:∃ w0,w0=w:=⟨_,rfl⟩;simp only [bK,Nat.reduceAdd];refine go7 ?_;refine sQ (lR jV rfl hva.old) rfl (go2 ?_);refine aQ _ rfl (fun hk=>?_) (fun hk=>?_)
 ·replace hk:=cB_ hk
  refine go3 ?_;refine sQ (xA jV rfl rfl hva.old oo_) rfl (sQ (tZ tyT rfl hva.old oo_) rfl (go3 ?_));refine bG rfl (.inr rfl) rfl ?_;exact rfl
 replace hk:=cB_ hk
 refine go5 ?_;refine bG rfl (.inr rfl) rfl ?_;exact congrArg (fun n:Nat=>Value.int .i64 (n:Int)) (show 0=l.getD k 0 by simp [List.getD,List.getElem?_eq_none (show l.length≤k by omega)])
theorem iU (va:Value) (l:List Nat) (hD:DL l) (hn:l.length≤1000) (w:World) (hva:Sl w va l) :
    Calls prog 137 [va].toArray w (fun e w'=>e = .returned (sls va (dl (dv l)).length)∧Ext w w'):=by
 refine cQ (N:=21) func137 rfl rfl (by simp) ?_;obtain ⟨w0,rfl⟩:∃ w0,w0=w:=⟨_,rfl⟩;simp only [bK,Nat.reduceAdd];refine go5 ?_;refine sQ (lR jV rfl hva.old) rfl (go4 ?_);refine cF [3,6,7,8,9,10,11,12,13,14,15,16,17] (fun g nn M=>∃ (k:Nat),(g 3 = .int .i64 (k:Int))∧M=[]∧nn=k+0∧(k≤l.length∧∀ j,k≤j→l.getD j 0=0)) (l.length) ?start ?round
 case start =>
  refine ⟨_,(List.Sublist.refl _),l.length,?a3,?mem0,rfl,⟨Nat.le_refl _,fun j hj=>by simp [List.getD,List.getElem?_eq_none (show l.length≤j by omega)]⟩⟩
  case mem0=>rfl
  case a3=>rfl
 case round =>
  rintro nn g M ⟨k,hg3,rfl,hmeas,⟨hk,hhi⟩⟩;subst nn;simp only [eH,hg3];clear hg3;refine go5 ?_
  cases hz:decide ((0:Int)<(k:Int))
  ·refine FV ?_;refine sQ (Y7 jV rfl rfl hva.old oo_) rfl (go3 ?_);refine bG rfl (.inr rfl) rfl ?_;rw [HC hD,MJ hhi (.inl (by have:=of_decide_eq_false hz;omega))]
  have hz':=of_decide_eq_true hz;obtain ⟨m,rfl⟩:∃ m,k=m+1:=⟨k - 1,by omega⟩;refine go2 ?_;refine sQ (aS (nF rfl rfl) (congrArg (Value.int .i64) (wC oo_))) rfl (sQ (xA jV rfl rfl hva.old oo_) rfl (sQ (tZ tyT rfl hva.old oo_) rfl (go3 ?_)));refine aQ _ rfl (fun h0=>?_) (fun h0=>?_)
  ·replace h0:=cB_ h0
   refine go4 ?_;refine sQ (aS (nF rfl rfl) (congrArg (Value.int .i64) (wC oo_))) rfl (go2 ?_);refine ⟨pp_,_,_,(List.Sublist.refl _),oo_,m,?s3,?mem,rfl,⟨by omega,fun j hj=>by rcases Nat.eq_or_lt_of_le hj with rfl | hj;omega;exact hhi j hj⟩⟩
   case mem=>rfl
   case s3=>rfl
  replace h0:=cB_ h0
  refine go4 ?_;refine sQ (Y7 jV rfl rfl hva.old oo_) rfl (go3 ?_);refine bG rfl (.inr rfl) rfl ?_;rw [HC hD,MJ hhi (.inr (by simp only [Nat.add_sub_cancel];omega))]
theorem bL (a:R) (ha:a.Ok) (w:World)  :
    Calls prog 84 [RV a].toArray w (fun e w'=>∃ v,e = .returned v∧Ext w w'∧Slf w.heap.size w' v (dl (val a.w))):=by
 refine tW (N:=26) func84 rfl rfl (by simp) ?_;obtain ⟨w0,rfl⟩:∃ w0,w0=w:=⟨_,rfl⟩;simp only [bK,Nat.reduceAdd];refine go_ ?_;refine bC rfl (jN rfl rfl (fun b1 hb1=>pO ?_));refine cF [3,4,5,6,7,8,9,10,11,12,13,14,15,16,17,18,19,20,21,22,23] (fun g nn M=>∃ (k:Nat) (v:Value) (l:List Nat) (L:List Blk),(g 3=v∧g 4 = .int .i64 (k:Int))∧M=L ++ [⟨b1,27,a.cells⟩]∧nn=16 - k∧(k≤16∧OwnL w0 3 v l L∧DL l∧l.length=2 * k∧dv l=val a.w % 4294967296 ^ k)) (16) ?start ?round
 case start =>
  refine ⟨_,(List.Sublist.refl _),0,_,[],[],⟨?a3,?a4⟩,?mem0,rfl,⟨Nat.zero_le _,.nil,DL.nil,rfl,by simp [dv,Nat.mod_one]⟩⟩
  case mem0=>rfl
  case a3=>rfl
  case a4=>rfl
 case round =>
  rintro nn g M ⟨k,v,l,L,⟨hg3,hg4⟩,rfl,hmeas,⟨hk,hO,hD,hlen,hdv⟩⟩;subst nn;simp only [eH,hg3,hg4];clear hg3 hg4;refine go5 ?_;refine aQ _ rfl (fun hc=>?_) (fun hc=>?_)
  ·replace hc:=cB_ hc
   have hc:k<16:=by omega
   refine go3 ?_;refine rK sn 16 [13,14] [14] (go2 ?_);refine pQ rfl (cC fdT dd_ rfl) (pQ rfl (eK arT rfl rfl oo_ oo_) (pQ rfl (dJ tyT rfl mm_ (mO (r:=a) (k:=k) (by rw [ha.len];omega))) ?_));refine pQ rfl (rT rfl rfl dd_) (pQ rfl (aS (dY gJ BS rfl) (fk_ (dR ha.lim k))) (go_ ?_));refine pQ rfl (cC fdT dd_ rfl) (pQ rfl (eK arT rfl rfl oo_ oo_) (pQ rfl (dJ tyT rfl mm_ (mO (r:=a) (k:=k) (by rw [ha.len];omega))) ?_));refine pQ rfl (rS rfl rfl dd_) (pQ rfl (aS (dY gJ BS rfl) (fh_ (dR ha.lim k))) ?_);refine fM rfl rfl (jA oL z_3 yF rfl dd_ rfl (dg_ _ _) (fun b22 hb22=>⟨(fun _=>by first | exact sd s0 | exact s0),ss_,?_⟩));refine fM rfl rfl (yW oL QS rfl rfl hO (SL.mine (l:=[a.w.getD k 0 % 65536,a.w.getD k 0 / 65536]) (.head _) (Nat.le_refl _)) (List.sublist_cons_self _ _) (by simp;omega) (fun v' L' hO'=>⟨nf,ss_,?_⟩));refine go4 ?_;refine sQ (aS (iO rfl rfl) (congrArg (Value.int .i64) (jK oo_))) rfl (go2 ?_);refine ⟨pp_,_,_,(List.Sublist.refl _),oo_,k+1,_,_,_,⟨?s3,?s4⟩,?mem,rfl,⟨by omega,hO',hD.append (DL.two (dR ha.lim k)),by simp [hlen];omega,NI ha.lim hlen hdv⟩⟩
   case mem=>rfl
   case s3=>rfl
   case s4=>rfl
  replace hc:=cB_ hc
  obtain rfl:k=16:=by omega
  refine go3 ?_;refine sQ (bE aJ rfl (fun w hw=>iU v l hD oo_ w (SL.sl (hO.sl lZ) hw))) rfl (go3 ?_);refine bG rfl (.inr rfl) rfl ?_;exact uF hD (by rw [hdv,P3 ha]) (hO.slf lZ)
theorem dL  :
    Ret prog 125 [] (RV Z.bad.enc):=by
 refine bT (N:=2) func125 rfl rfl (by simp) (fun w0=>?_);simp only [bK,Nat.reduceAdd];refine go_ ?_;refine bC rfl (eD kR (fun b0 hb0=>go2 ?_));refine sQ (uQ kR plT rfl (.cons rfl (vs:=[.bool true]) rfl rfl (by simp [zR]) (z':=Z.bad.enc.cells) rfl (.nil _))) rfl ?_;refine bC rfl (bO tyT rfl rfl uu_ rfl rfl (bI Z.bad.enc) (.inl (by assumption)) ?_);refine go2 ?_;refine bG rfl (.inr rfl) ⟨_,_,_,_,_,_,rfl,mm_,tyT,_,(dS rfl),rfl,rfl⟩ ?_;exact rfl
theorem qZ (r:R) (h:r.Ok) :
    Ret prog 122 [RV r] (.bool r.valid):=by
 refine bT (N:=32) func122 rfl rfl (by simp) (fun w0=>?_);simp only [bK,Nat.reduceAdd];refine go_ ?_;refine bC rfl (jN rfl rfl (fun b1 hb1=>pO ?_));refine cF [3,4,5,6,7,8,9,10,11,12,13,14,15,16] (fun g nn M=>∃ (k:Nat) (z:Bool),(g 3 = .bool z∧g 4 = .int .i64 (k:Int))∧M=[⟨b1,27,r.cells⟩]∧nn=16 - k∧(k≤16∧(z=true ↔ ∀ j,j<k→r.w.getD j 0=0))) (16) ?start ?round
 case start =>
  refine ⟨_,(List.Sublist.refl _),0,true,⟨?a3,?a4⟩,?mem0,rfl,⟨Nat.zero_le _,⟨fun _ j hj=>by omega,fun _=>rfl⟩⟩⟩
  case mem0=>rfl
  case a3=>rfl
  case a4=>rfl
 case round =>
  rintro nn g M ⟨k,z,⟨hg3,hg4⟩,rfl,hmeas,⟨hk,hz⟩⟩;subst nn;simp only [eH,hg3,hg4];clear hg3 hg4;refine go5 ?_;refine aQ _ rfl (fun hc=>?_) (fun hc=>?_)
  ·replace hc:=cB_ hc
   have hc:k<16:=by omega
   refine go6 ?_
   cases z
   ·refine pO ?_;refine sQ (aS (iO rfl rfl) (congrArg (Value.int .i64) (jK oo_))) rfl (go2 ?_);refine ⟨pp_,_,_,(List.Sublist.refl _),oo_,k+1,?zz_1,⟨?s3,?s4⟩,?mem,rfl,⟨by omega,?inv_1⟩⟩
    case mem=>rfl
    case s3=>rfl
    case s4=>rfl
    first | exact PF hz | exact T4 hz
   refine go_ ?_;refine sQ (cC fdT dd_ rfl) rfl (sQ (eK arT rfl rfl oo_ oo_) rfl (sQ (dJ tyT rfl mm_ (mO (r:=r) (k:=k) (by rw [h.len];omega))) rfl ?_));refine go6 ?_;refine sQ (aS (iO rfl rfl) (congrArg (Value.int .i64) (jK oo_))) rfl (go2 ?_);refine ⟨pp_,_,_,(List.Sublist.refl _),oo_,k+1,?zz_2,⟨?s3,?s4⟩,?mem,rfl,⟨by omega,?inv_2⟩⟩
   case mem=>rfl
   case s3=>rfl
   case s4=>rfl
   first | exact PF hz | exact T4 hz
  replace hc:=cB_ hc
  obtain rfl:k=16:=by omega
  obtain rfl:z=r.zero:=bM_ h hz;refine go3 ?_;refine sQ (cC fdT dd_ rfl) rfl (sQ (dJ tyT rfl mm_ rfl) rfl ?_);refine go_ ?_;refine aQ _ rfl (fun hb=>?_) (fun hb=>?_)
  ·replace hb:=cB_ hb
   refine go3 ?_
   cases hz0:r.zero
   ·refine go7 ?_;refine bG rfl (.inr rfl) rfl ?_
    simp [R.valid, *]
   refine sQ (cC fdT dd_ rfl) rfl (sQ (dJ tyT rfl mm_ rfl) rfl ?_);refine go5 ?_;refine bG rfl (.inr rfl) rfl ?_
   simp [R.valid, *]
  replace hb:=cB_ hb
  refine go5 ?_
  cases hz0:r.zero
  ·refine go7 ?_;refine bG rfl (.inr rfl) rfl ?_
   simp [R.valid, *]
  refine sQ (cC fdT dd_ rfl) rfl (sQ (dJ tyT rfl mm_ rfl) rfl ?_);refine go5 ?_;refine bG rfl (.inr rfl) rfl ?_
  simp [R.valid, *]
theorem bN (r:R) (h:r.Ok) :
    Ret prog 83 [RV r] (.bool r.good):=by
 refine bT (N:=12) func83 rfl rfl (by simp) (fun w0=>?_);simp only [bK,Nat.reduceAdd];refine go_ ?_;refine bC rfl (jN rfl rfl (fun b1 hb1=>go3 ?_));refine sQ (cJ tyT rfl mm_ (cX h)) rfl ?_;refine sQ (bM aJ (qZ r h) rfl) rfl (go5 ?_)
 cases hv:r.valid
 ·refine go7 ?_;refine bG rfl (.inr rfl) rfl ?_
  simp [R.good, *]
 refine sQ (cC fdT dd_ rfl) rfl (sQ (dJ tyT rfl mm_ rfl) rfl ?_);refine go5 ?_;refine bG rfl (.inr rfl) rfl ?_
 simp [R.good, *]
theorem dG (neg:Bool) (va:Value) (l:List Nat) (hD:DL l) (hn:l.length≤1000) (w:World) (hva:Sl w va l) :
    Calls prog 130 [.bool neg,va].toArray w (fun e w'=>e = .returned (RV (Z.of (sgn neg (dv l))).enc)∧Ext w w'):=by
 refine cQ (N:=62) func130 rfl rfl (by simp) ?_;obtain ⟨w0,rfl⟩:∃ w0,w0=w:=⟨_,rfl⟩;simp only [bK,Nat.reduceAdd];have hu0:∀ M,SL w0 [] M (sls va (dl (dv l)).length) (dl (dv l)):=fun M=>Z7 hD hva.old;refine go_ ?_;refine bC rfl (eD kR (fun b4 hb4=>go3 ?_));refine sQ (bE aJ rfl (fun w hw=>iU va l hD hn w (SL.sl (M:=_) hva.old hw))) rfl (go5 ?_);refine sQ (lR jV rfl (hu0 _)) rfl (go2 ?_);refine aQ _ rfl (fun hbig=>?_) (fun hbig=>?_)
 ·replace hbig:=cB_ hbig
  refine go_ ?_;refine sQ (bM aJ (dL) rfl) rfl (bC rfl (bO tyT rfl rfl uu_ (aL _) rfl (bI _) (.inl (by assumption)) ?_));refine go2 ?_;refine bG rfl (.inr rfl) ⟨_,_,_,_,_,_,rfl,mm_,tyT,_,(dS (aL _)),(aL _),rfl⟩ ?_;exact QO oo_
 replace hbig:=cB_ hbig
 have hlen:(dl (dv l)).length≤32:=by omega
 refine go_ ?_;refine tQ [6,14,15,16,17,18,19,20] (fun g M=>∃ (b6:Nat),(g 6 = .pointer (some ⟨b6,0,none⟩))∧M=⟨b6,27,R.cells (R.mk false (neg&&decide ((0:Int)<((dl (dv l)).length:Int))) (List.replicate 16 0))⟩ :: [⟨b4,27,zR⟩]∧(w0.heap.size≤b6)) (fun K6 J6=>?_) ?_
 ·refine go3 ?_
  cases neg
  ·refine go4 ?_;refine sQ (uQ kR plT rfl (XL _)) rfl (bC rfl (eD kR (fun b6 hb6=>bC rfl (bO tyT rfl rfl uu_ (by simp [R.cells,gI]) rfl (bI _) (.inl (by assumption)) ?_))));refine go_ ?_;refine J6 _ _ pp_ ⟨_,(List.Sublist.refl _),_,?s6,?mem,hb6⟩
   case mem=>rfl
   case s6=>rfl
  refine go_ ?_;refine sQ (lR jV rfl (hu0 _)) rfl (go2 ?_);refine sQ (uQ kR plT rfl (XL _)) rfl (bC rfl (eD kR (fun b6 hb6=>bC rfl (bO tyT rfl rfl uu_ (by simp [R.cells,gI]) rfl (bI _) (.inl (by assumption)) ?_))));refine go_ ?_;refine J6 _ _ pp_ ⟨_,(List.Sublist.refl _),_,?s6,?mem,hb6⟩
  case mem=>rfl
  case s6=>rfl
 rintro g M ⟨b6,hg6,rfl,hb6⟩;simp only [eH,hg6];clear hg6;refine go5 ?_;refine cF [7,21,22,23,24,25,26,27,28,29,30,31,32,33,34,35,36,37,38,39,40,41,42,43,44,45,46,47,48,49,50,51,52,53,54,55,56,57,58,59,60] (fun g nn M=>∃ (k:Nat) (ws:List Nat),(g 7 = .int .i64 (k:Int))∧M=⟨b6,27,R.cells (R.mk false (neg&&decide ((0:Int)<((dl (dv l)).length:Int))) ws)⟩ :: [⟨b4,27,zR⟩]∧nn=(dl (dv l)).length - k∧(k≤(dl (dv l)).length∧NumIn (dv l) k ws)) ((dl (dv l)).length - 0) ?start ?round
 case start =>
  refine ⟨_,(List.Sublist.refl _),0,_,?a7,?mem0,rfl,⟨Nat.zero_le _,NumIn.start _⟩⟩
  case mem0=>rfl
  case a7=>rfl
 case round =>
  rintro nn g M ⟨k,ws,hg7,rfl,hmeas,⟨hk,hI⟩⟩;subst nn;simp only [eH,hg7];clear hg7;refine go4 ?_;refine sQ (lR jV rfl (hu0 _)) rfl (go2 ?_);refine aQ _ rfl (fun hc=>?_) (fun hc=>?_)
  ·replace hc:=cB_ hc
   have hk32:k<32:=by omega
   refine go5 ?_;refine sQ (aS (rT rfl rfl dd_) (congrArg (Value.int .i64) (gi_ k))) rfl (go2 ?_);refine aQ _ rfl (fun hpar=>?_) (fun hpar=>?_)
   ·replace hpar:=cB_ hpar
    have hpar:k % 2=0:=by omega
    have hz:=(hI.even hpar hk32).2;refine rK (sd (sk (s0))) 16 [15] [15] (go_ ?_);refine pQ rfl (aS (rS rfl rfl dd_) (congrArg (Value.int .i64) (br_ k oo_))) (go_ ?_);refine pQ rfl (aS (rS rfl rfl dd_) (congrArg (Value.int .i64) (br_ k oo_))) (pQ rfl (cC fdT dd_ rfl) (pQ rfl (eK arT rfl rfl oo_ oo_) (pQ rfl (dJ tyT rfl mm_ (mO (r:=R.mk false (neg&&decide ((0:Int)<((dl (dv l)).length:Int))) ws) (k:=k / 2) (by simp only [hI.len];omega))) ?_)));refine go2 ?_;refine pQ rfl (xA jV rfl rfl (hu0 _) oo_) (pQ rfl (tZ tyT rfl (hu0 _) oo_) (pQ rfl (dY BS gJ rfl) (pQ rfl (aS (iO rfl rfl) (show _=U32 (dg (dv l) k) by rw [(hI.even hpar hk32).1,zH];exact V8 (mW _ _))) (pQ rfl (cC fdT dd_ rfl) (pQ rfl (eK arT rfl rfl oo_ oo_) ?_)))));refine fM rfl rfl (OS (k:=k / 2) tyT rfl rfl uu_ (by rw [hI.len];omega) (.inl (by assumption)) ⟨nf,ss_,?_⟩);refine go3 ?_;refine sQ (aS (iO rfl rfl) (congrArg (Value.int .i64) (jK oo_))) rfl (go2 ?_);refine ⟨pp_,_,_,(List.Sublist.refl _),oo_,k+1,_,?s7,?mem,rfl,⟨by omega,hz⟩⟩
    case mem=>rfl
    case s7=>rfl
   replace hpar:=cB_ hpar
   have hpar:¬ k % 2=0:=by omega
   have hz:=(hI.odd hpar hk32).2;refine gdr (sd (sk (s0))) [0,4,8,12,16,20,24,28,32,36,40,44,48,52,56,60,65] [16] mix (by kernel_rfl) (go_ ?_);refine pQ rfl (aS (rS rfl rfl dd_) (congrArg (Value.int .i64) (br_ k oo_))) (go_ ?_);refine pQ rfl (aS (rS rfl rfl dd_) (congrArg (Value.int .i64) (br_ k oo_))) (pQ rfl (cC fdT dd_ rfl) (pQ rfl (eK arT rfl rfl oo_ oo_) (pQ rfl (dJ tyT rfl mm_ (mO (r:=R.mk false (neg&&decide ((0:Int)<((dl (dv l)).length:Int))) ws) (k:=k / 2) (by simp only [hI.len];omega))) ?_)));refine go2 ?_;refine pQ rfl (xA jV rfl rfl (hu0 _) oo_) (pQ rfl (tZ tyT rfl (hu0 _) oo_) (pQ rfl (dY BS gJ rfl) (go_ ?_)));refine pQ rfl (aS (iO rfl rfl) (show _=U32 (ws.getD (k / 2) 0+dg (dv l) k * 65536) by rw [zH];exact az_ (hI.odd hpar hk32).1 (mW _ _))) (pQ rfl (cC fdT dd_ rfl) (pQ rfl (eK arT rfl rfl oo_ oo_) ?_));refine fM rfl rfl (OS (k:=k / 2) tyT rfl rfl uu_ (by rw [hI.len];omega) (.inl (by assumption)) ⟨nf,ss_,?_⟩);refine go3 ?_;refine sQ (aS (iO rfl rfl) (congrArg (Value.int .i64) (jK oo_))) rfl (go2 ?_);refine ⟨pp_,_,_,(List.Sublist.refl _),oo_,k+1,_,?s7,?mem,rfl,⟨by omega,hz⟩⟩
   case mem=>rfl
   case s7=>rfl
  replace hc:=cB_ hc
  obtain rfl:k=(dl (dv l)).length:=by omega
  refine go2 ?_;refine sQ (cJ tyT rfl mm_ (by simp [R.cells,gI,hI.len])) rfl ?_;refine bC rfl (bO tyT rfl rfl uu_ (by simp [R.cells,gI,hI.len]) rfl (bI _) (.inl (by assumption)) ?_);refine go2 ?_;refine bG rfl (.inr rfl) ⟨_,_,_,_,_,_,rfl,mm_,tyT,_,(dS (by simp [R.cells,gI,hI.len])),(by simp [R.cells,gI,hI.len]),rfl⟩ ?_;exact QQ hI
theorem oA (va vb:Value) (la lb:List Nat) (hDa:DL la) (hDb:DL lb) (hna:la.length≤200) (hnb:lb.length≤200) (w:World) (hva:Sl w va la) (hvb:Sl w vb lb) :
    Calls prog 129 [va,vb].toArray w (fun e w'=>∃ v,e = .returned v∧Ext w w'∧Slf w.heap.size w' v (dl (dv la+dv lb))):=by
 refine tW (N:=37) func129 rfl rfl (by simp) ?_;obtain ⟨w0,rfl⟩:∃ w0,w0=w:=⟨_,rfl⟩;simp only [bK,Nat.reduceAdd];refine QA ?_;refine cF [5,6,7,8,9,10,11,12,13,14,15,16,17,18,19,20,21,22,23,24,25,26,27,28,29,30,31,32,33,34] (fun g nn M=>∃ (k:Nat) (v:Value) (l:List Nat) (L:List Blk),(g 5=v∧g 6 = .int .i64 ((cD (dv la) (dv lb) k:Nat):Int)∧g 7 = .int .i64 (k:Int))∧M=L ++ []∧nn=max la.length lb.length+1 - k∧(k≤max la.length lb.length+1∧OwnL w0 3 v l L∧DL l∧l.length=k∧dv l=(dv la+dv lb) % 65536 ^ k)) (max la.length lb.length+1 - 0) ?start ?round
 case start =>
  refine ⟨_,(List.Sublist.refl _),0,_,[],[],⟨?a5,?a6,?a7⟩,?mem0,rfl,⟨Nat.zero_le _,.nil,DL.nil,rfl,by simp [dv,Nat.mod_one]⟩⟩
  case mem0=>rfl
  case a5=>rfl
  case a6=>rw [aJ_];rfl
  case a7=>rfl
 case round =>
  rintro nn g M ⟨k,v,l,L,⟨hg5,hg6,hg7⟩,rfl,hmeas,⟨hk,hO,hD,hlen,hdv⟩⟩;subst nn;simp only [eH,hg5,hg6,hg7];clear hg5 hg6 hg7;refine go4 ?_;refine sQ (lR jV rfl hva.old) rfl (go_ ?_);refine sQ (lR jV rfl hvb.old) rfl (sQ (Y4 rfl rfl) rfl (sQ (aS (iO rfl rfl) (congrArg (Value.int .i64) (jK oo_))) rfl (go2 ?_)));refine aQ _ rfl (fun hc=>?_) (fun hc=>?_)
  ·replace hc:=cB_ hc
   have hc:k<max la.length lb.length+1:=by omega
   refine go6 ?_;refine sQ (bE aJ rfl (fun w hw=>fR va la k w (SL.sl (M:=_) hva.old hw))) rfl (go2 ?_);refine sQ (bE aJ rfl (fun w hw=>fR vb lb k w (SL.sl (M:=_) hvb.old hw))) rfl (go2 ?_);refine sQ (aS (iO rfl rfl) (congrArg (Value.int .i64) ((show _=((cD (dv la) (dv lb) k+dg (dv la) k+dg (dv lb) k:Nat):Int) by rw [n7 la k hDa,n7 lb k hDb];exact f0_ (mW _ _) (mW _ _) (b1_ _ _ _))))) rfl (go5 ?_);refine sQ (aS (rT rfl rfl dd_) (OU _)) rfl (bC rfl (jA oL z_3 yF rfl dd_ rfl (AO _) (fun b31 hb31=>bC rfl (yW oL QS rfl rfl hO (SL.mine (l:=[(cD (dv la) (dv lb) k+dg (dv la) k+dg (dv lb) k) % 65536]) (.head _) (Nat.le_refl _)) (List.sublist_cons_self _ _) (by simp;omega) (fun v' L' hO'=>?_)))));refine go4 ?_;refine sQ (aS (rS rfl rfl dd_) (congrArg (Value.int .i64) (fi_ (by have:=b1_ (dv la) (dv lb) k;have:=mW (dv la) k;have:=mW (dv lb) k;omega)))) rfl (go4 ?_);refine sQ (aS (iO rfl rfl) (congrArg (Value.int .i64) (jK oo_))) rfl (go2 ?_);refine ⟨pp_,_,_,(List.Sublist.refl _),oo_,k+1,_,_,_,⟨?s5,?s6,?s7⟩,?mem,rfl,⟨by omega,hO',hD.append (DL.one (Nat.mod_lt _ dd_)),by simp [hlen],QV hlen hdv⟩⟩
   case mem=>rfl
   case s5=>rfl
   case s6=>rw [← OH];rfl
   case s7=>rfl
  replace hc:=cB_ hc
  obtain rfl:k=max la.length lb.length+1:=by omega
  refine go3 ?_;refine sQ (bE aJ rfl (fun w hw=>iU v l hD oo_ w (SL.sl (hO.sl lZ) hw))) rfl (go3 ?_);refine bG rfl (.inr rfl) rfl ?_;exact uF hD (by rw [hdv,UY hDa hDb]) (hO.slf lZ)
theorem kF (va vb:Value) (la lb:List Nat) (hDa:DL la) (hDb:DL lb) (hna:la.length≤200) (hnb:lb.length≤200) (hle:dv lb≤dv la) (w:World) (hva:Sl w va la) (hvb:Sl w vb lb) :
    Calls prog 131 [va,vb].toArray w (fun e w'=>∃ v,e = .returned v∧Ext w w'∧Slf w.heap.size w' v (dl (dv la - dv lb))):=by
 refine tW (N:=35) func131 rfl rfl (by simp) ?_;obtain ⟨w0,rfl⟩:∃ w0,w0=w:=⟨_,rfl⟩;simp only [bK,Nat.reduceAdd];refine QA ?_;refine cF [5,6,7,8,9,10,11,12,13,14,15,16,17,18,19,20,21,22,23,24,25,26,27,28,29,30,31,32] (fun g nn M=>∃ (k:Nat) (v:Value) (l:List Nat) (L:List Blk) (c:Nat),(g 5=v∧g 6 = .int .i64 (c:Int)∧g 7 = .int .i64 (k:Int))∧M=L ++ []∧nn=la.length - k∧(k≤la.length∧OwnL w0 3 v l L∧DL l∧l.length=k∧c≤1∧dv l+dv lb % 65536 ^ k=dv la % 65536 ^ k+c * 65536 ^ k)) (la.length - 0) ?start ?round
 case start =>
  refine ⟨_,(List.Sublist.refl _),0,_,[],[],0,⟨?a5,?a6,?a7⟩,?mem0,rfl,⟨Nat.zero_le _,.nil,DL.nil,rfl,by decide,by simp [dv,Nat.mod_one]⟩⟩
  case mem0=>rfl
  case a5=>rfl
  case a6=>rfl
  case a7=>rfl
 case round =>
  rintro nn g M ⟨k,v,l,L,c,⟨hg5,hg6,hg7⟩,rfl,hmeas,⟨hk,hO,hD,hlen,hcb,hdv⟩⟩;subst nn;simp only [eH,hg5,hg6,hg7];clear hg5 hg6 hg7;refine go4 ?_;refine sQ (lR jV rfl hva.old) rfl (go2 ?_);refine aQ _ rfl (fun hc=>?_) (fun hc=>?_)
  ·replace hc:=cB_ hc
   have hc:k<la.length:=by omega
   refine go4 ?_;refine rK sn 11 [] [] (go2 ?_);refine pQ rfl (xA jV rfl rfl hva.old oo_) (pQ rfl (tZ tyT rfl hva.old oo_) (go2 ?_));refine pQ rfl (bE aJ rfl (fun w hw=>fR vb lb k w (SL.sl (M:=_) hvb.old hw))) (go2 ?_);refine pQ rfl (aS (nF rfl rfl) (congrArg (Value.int .i64) ((show _=((dg (dv la) k:Nat):Int) - ((dg (dv lb) k:Nat):Int) - (c:Int) by rw [n7 la k hDa,n7 lb k hDb];exact gn_ (mW _ _) (mW _ _) hcb)))) (pO ?_);refine aQ _ rfl (fun h26=>?_) (fun h26=>?_)
   ·replace h26:=cB_ h26
    refine pO ?_;refine sQ (aS (jO rfl) (show _=IV (md (dg (dv la) k) (dg (dv lb) k) c) by first | exact YK (mW _ _) (mW _ _) hcb h26 | exact YL h26)) rfl ?_;refine bC rfl (jA oL z_3 yF rfl dd_ rfl (AO _) (fun b31 hb31=>bC rfl (yW oL QS rfl rfl hO (SL.mine (l:=[md (dg (dv la) k) (dg (dv lb) k) c]) (.head _) (Nat.le_refl _)) (List.sublist_cons_self _ _) (by simp;omega) (fun v' L' hO'=>?_))));refine go4 ?_;refine sQ (aS (iO rfl rfl) (congrArg (Value.int .i64) (jK oo_))) rfl (go2 ?_);refine ⟨pp_,_,_,(List.Sublist.refl _),oo_,k+1,_,_,_,mb (dg (dv la) k) (dg (dv lb) k) c,⟨?s5,?s6,?s7⟩,?mem,rfl,⟨by omega,hO',hD.append (DL.one (cd_ (mW _ _) (mW _ _) hcb)),by simp [hlen],cb_ _ _ _,DU hlen hcb hdv⟩⟩
    case mem=>rfl
    case s5=>rfl
    case s6=>first | exact YG h26 | exact YH h26
    case s7=>rfl
   replace h26:=cB_ h26
   refine go3 ?_;refine sQ (aS (jO rfl) (show _=IV (md (dg (dv la) k) (dg (dv lb) k) c) by first | exact YK (mW _ _) (mW _ _) hcb h26 | exact YL h26)) rfl ?_;refine bC rfl (jA oL z_3 yF rfl dd_ rfl (AO _) (fun b31 hb31=>bC rfl (yW oL QS rfl rfl hO (SL.mine (l:=[md (dg (dv la) k) (dg (dv lb) k) c]) (.head _) (Nat.le_refl _)) (List.sublist_cons_self _ _) (by simp;omega) (fun v' L' hO'=>?_))));refine go4 ?_;refine sQ (aS (iO rfl rfl) (congrArg (Value.int .i64) (jK oo_))) rfl (go2 ?_);refine ⟨pp_,_,_,(List.Sublist.refl _),oo_,k+1,_,_,_,mb (dg (dv la) k) (dg (dv lb) k) c,⟨?s5,?s6,?s7⟩,?mem,rfl,⟨by omega,hO',hD.append (DL.one (cd_ (mW _ _) (mW _ _) hcb)),by simp [hlen],cb_ _ _ _,DU hlen hcb hdv⟩⟩
   case mem=>rfl
   case s5=>rfl
   case s6=>first | exact YG h26 | exact YH h26
   case s7=>rfl
  replace hc:=cB_ hc
  obtain rfl:k=la.length:=by omega
  refine go3 ?_;refine sQ (bE aJ rfl (fun w hw=>iU v l hD oo_ w (SL.sl (hO.sl lZ) hw))) rfl (go3 ?_);refine bG rfl (.inr rfl) rfl ?_;exact uF hD (QJ hDa hD hlen hle hdv hcb) (hO.slf lZ)
theorem jP (va vb:Value) (la lb:List Nat) (hDa:DL la) (hDb:DL lb) (hna:la.length≤200) (hnb:lb.length≤200) (w:World) (hva:Sl w va la) (hvb:Sl w vb lb) :
    Calls prog 124 [va,vb].toArray w (fun e w'=>e = .returned (.bool (decide (dv la<dv lb)))∧Ext w w'):=by
 refine cQ (N:=30) func124 rfl rfl (by simp) ?_;obtain ⟨w0,rfl⟩:∃ w0,w0=w:=⟨_,rfl⟩;simp only [bK,Nat.reduceAdd];refine go6 ?_;refine sQ (lR jV rfl hva.old) rfl (go_ ?_);refine sQ (lR jV rfl hvb.old) rfl (sQ (Y4 rfl rfl) rfl (go4 ?_));refine cF [4,5,12,13,14,15,16,17,18,19,20,21,22,23,24,25,26,27,28,29] (fun g nn M=>∃ (k:Nat),(g 5 = .int .i64 ((k:Int) - 1))∧M=[]∧nn=k+0∧(k≤max la.length lb.length∧dv la / 65536 ^ k=dv lb / 65536 ^ k)) (max la.length lb.length) ?start ?round
 case start =>
  refine ⟨_,(List.Sublist.refl _),max la.length lb.length,?a5,?mem0,rfl,⟨Nat.le_refl _,QE hDa hDb⟩⟩
  case mem0=>rfl
  case a5=>exact congrArg (Value.int .i64) (bQ (by unfold I64;omega))
 case round =>
  rintro nn g M ⟨k,hg5,rfl,hmeas,⟨hk,hd⟩⟩;subst nn;simp only [eH,hg5];clear hg5;refine go5 ?_;refine aQ _ rfl (fun hc=>?_) (fun hc=>?_)
  ·replace hc:=cB_ hc
   obtain ⟨m,rfl⟩:∃ m,k=m+1:=⟨k - 1,by omega⟩;refine go5 ?_;refine sQ (aS (jO rfl) (congrArg (Value.int .i64) (show (((m+1:Nat):Int) - 1)=(m:Int) by omega))) rfl (sQ (bE aJ rfl (fun w hw=>fR va la m w (SL.sl (M:=_) hva.old hw))) rfl (go_ ?_));refine sQ (aS (jO rfl) (congrArg (Value.int .i64) (show (((m+1:Nat):Int) - 1)=(m:Int) by omega))) rfl (sQ (bE aJ rfl (fun w hw=>fR vb lb m w (SL.sl (M:=_) hvb.old hw))) rfl (go2 ?_));refine aQ _ rfl (fun hne=>?_) (fun hne=>?_)
   ·replace hne:=cB_ hne
    have hne':dg (dv la) m≠dg (dv lb) m:=by rw [← n7 la m hDa,← n7 lb m hDb];omega
    refine go2 ?_;refine sQ (aS (jO rfl) (congrArg (Value.int .i64) (show (((m+1:Nat):Int) - 1)=(m:Int) by omega))) rfl (sQ (bE aJ rfl (fun w hw=>fR va la m w (SL.sl (M:=_) hva.old hw))) rfl (go_ ?_));refine sQ (aS (jO rfl) (congrArg (Value.int .i64) (show (((m+1:Nat):Int) - 1)=(m:Int) by omega))) rfl (sQ (bE aJ rfl (fun w hw=>fR vb lb m w (SL.sl (M:=_) hvb.old hw))) rfl (go4 ?_));refine bG rfl (.inr rfl) rfl ?_
    (rw [n7 la m hDa,n7 lb m hDb];exact congrArg Value.bool (UP hd hne'))
   replace hne:=cB_ hne
   have heq':dg (dv la) m=dg (dv lb) m:=by rw [← n7 la m hDa,← n7 lb m hDb];omega
   refine go2 ?_;refine sQ (aS (jO rfl) (congrArg (Value.int .i64) (show (((m+1:Nat):Int) - 1)=(m:Int) by omega))) rfl (go3 ?_);refine ⟨pp_,_,_,(List.Sublist.refl _),oo_,m,?s5,?mem,rfl,⟨by omega,UO hd heq'⟩⟩
   case mem=>rfl
   case s5=>exact congrArg (Value.int .i64) (bQ (n:=(m:Int) - 1) (by unfold I64;omega))
  replace hc:=cB_ hc
  obtain rfl:k=0:=by omega
  refine go5 ?_;refine bG rfl (.inr rfl) rfl ?_
  (simp only [Nat.pow_zero,Nat.div_one] at hd;rw [hd];exact congrArg Value.bool (decide_eq_false (Nat.lt_irrefl _)).symm)
theorem rB (va vb:Value) (la lb:List Nat) (hDa:DL la) (hDb:DL lb) (hna:la.length≤200) (hnb:lb.length≤200) (w:World) (hva:Sl w va la) (hvb:Sl w vb lb) :
    Calls prog 136 [va,vb].toArray w (fun e w'=>∃ v,e = .returned v∧Ext w w'∧Slf w.heap.size w' v (dl (dv la * dv lb))):=by
 refine tW (N:=72) func136 rfl rfl (by simp) ?_;obtain ⟨w0,rfl⟩:∃ w0,w0=w:=⟨_,rfl⟩;simp only [bK,Nat.reduceAdd];refine go5 ?_;refine sQ (lR jV rfl hva.old) rfl (go_ ?_);refine sQ (lR jV rfl hvb.old) rfl (sQ (aS (iO rfl rfl) (congrArg (Value.int .i64) (nA oo_))) rfl (sQ (aS (iO rfl rfl) (congrArg (Value.int .i64) (jK oo_))) rfl (bC rfl (ZE oL QS z_3 rfl rfl oo_ (fun b17 hb17=>go7 ?_)))));refine cF [6,7,8,9,10,18,19,20,21,22,23,24,25,26,27,28,29,30,31,32,33,34,35,36,37,38,39,40,41,42,43,44,45,46,47,48,49,50,51,52,53,54,55,56,57,58,59,60,61,62,63,64,65,66,67,68,69] (fun g nn M=>∃ (i:Nat) (o:List Nat),(g 6 = .int .i64 (i:Int))∧M=[⟨b17,3,iw o⟩]∧nn=la.length - i∧(i≤la.length∧DL o∧o.length=(la.length+lb.length+1)∧dv o=dv la % 65536 ^ i * dv lb)) (la.length - 0) ?start ?round
 case start =>
  refine ⟨_,(List.Sublist.refl _),0,List.replicate (la.length+lb.length+1) 0,?a6,?mem0,rfl,⟨Nat.zero_le _,fun d hd=>by rw [List.eq_of_mem_replicate hd];decide,by simp,by rw [BN,Nat.pow_zero,Nat.mod_one,Nat.zero_mul]⟩⟩
  case mem0=>rfl
  case a6=>rfl
 case round =>
  rintro nn g M ⟨i,o,hg6,rfl,hmeas,⟨hi,hDo,hlo,hdv⟩⟩;subst nn;simp only [eH,hg6];clear hg6;refine go4 ?_;refine sQ (lR jV rfl hva.old) rfl (go2 ?_);refine aQ _ rfl (fun hc=>?_) (fun hc=>?_)
  ·replace hc:=cB_ hc
   have hc:i<la.length:=by omega
   refine go8 ?_;refine cF [7,24,25,26,27,28,29,30,31,32,33,34,35,36,37,38,39,40,41,42,43,44,45,46,47,48,49,50] (fun g nn M=>∃ (k:Nat) (l:List Nat),(g 7 = .int .i64 (k:Int))∧M=[⟨b17,3,iw l⟩]∧nn=lb.length - k∧(k≤lb.length∧RowIn (la.length+lb.length+1) (dv lb) i (dg (dv la) i) o k l)) (lb.length - 0) ?start ?round
   case start =>
    refine ⟨_,(List.Sublist.refl _),0,o,?a7,?mem0,rfl,⟨Nat.zero_le _,RowIn.start _ _ _ hDo hlo⟩⟩
    case mem0=>rfl
    case a7=>rfl
   case round =>
    rintro nn g M ⟨k,l,hg7,rfl,hmeas,⟨hkl,hR⟩⟩;subst nn;simp only [eH,hg7];clear hg7;refine go4 ?_;refine sQ (lR jV rfl hvb.old) rfl (go2 ?_);refine aQ _ rfl (fun hk2=>?_) (fun hk2=>?_)
    ·replace hk2:=cB_ hk2
     have hk2:k<lb.length:=by omega
     refine go3 ?_;refine gdr sn [0,4,8,12,16,20,24,28,32,36,40,44,48,52,56,60,64,68,72,76,80,85] [21] mix (by kernel_rfl) (go3 ?_);refine pQ rfl (aS (iO rfl rfl) (congrArg (Value.int .i64) (nA oo_))) (go3 ?_);refine pQ rfl (aS (iO rfl rfl) (congrArg (Value.int .i64) (nA oo_))) (pQ rfl (AY jV rfl rfl oo_ oo_) (pQ rfl (dJ tyT rfl mm_ (eU_ (by rw [hR.len];omega))) ?_));refine go2 ?_;refine pQ rfl (xA jV rfl rfl hva.old oo_) (pQ rfl (tZ tyT rfl hva.old oo_) (go2 ?_));refine pQ rfl (xA jV rfl rfl hvb.old oo_) (pQ rfl (tZ tyT rfl hvb.old oo_) (go_ ?_));refine pQ rfl (aS (iO rfl rfl) (show _=IV (l.getD (i+k) 0+dg (dv la) i * dg (dv lb) k) by rw [n7 la i hDa,n7 lb k hDb];exact a9_ (hR.high _ (Nat.le_refl _)) (mW _ _) (mW _ _))) (pQ rfl (AY jV rfl rfl oo_ oo_) ?_);refine fM rfl rfl (GO tyT rfl rfl uu_ (by rw [hR.len];omega) (.inl (by assumption)) ⟨nf,ss_,?_⟩);refine go3 ?_;refine sQ (aS (iO rfl rfl) (congrArg (Value.int .i64) (jK oo_))) rfl (go2 ?_);refine ⟨pp_,_,_,(List.Sublist.refl _),oo_,k+1,_,?s7,?mem,rfl,⟨by omega,hR.step oo_ (mW _ _)⟩⟩
     case mem=>rfl
     case s7=>rfl
    replace hk2:=cB_ hk2
    obtain rfl:k=lb.length:=by omega
    refine go8 ?_;refine cF [8,9,10,51,52,53,54,55,56,57,58,59,60,61,62,63,64,65,66,67,68,69] (fun g nn M=>∃ (m:Nat) (l:List Nat) (c:Nat),(g 8 = .int .i64 (c:Int)∧g 9 = .int .i64 (m:Int))∧M=[⟨b17,3,iw l⟩]∧nn=(la.length+lb.length+1) - m∧(m≤(la.length+lb.length+1)∧CarryIn (la.length+lb.length+1) (dv o+65536 ^ i * (dg (dv la) i * (dv lb % 65536 ^ lb.length))) m l c)) ((la.length+lb.length+1) - 0) ?start ?round
    case start =>
     refine ⟨_,(List.Sublist.refl _),0,l,0,⟨?a8,?a9⟩,?mem0,rfl,⟨Nat.zero_le _,hR.done⟩⟩
     case mem0=>rfl
     case a8=>rfl
     case a9=>rfl
    case round =>
     rintro nn g M ⟨m,l,c,⟨hg8,hg9⟩,rfl,hmeas,⟨hml,hC⟩⟩;subst nn;simp only [eH,hg8,hg9];clear hg8 hg9;refine go4 ?_;refine sQ (S5 jV rfl) rfl (go2 ?_);refine aQ _ rfl (fun hm2=>?_) (fun hm2=>?_)
     ·replace hm2:=cB_ hm2
      have hm2:m<(la.length+lb.length+1):=by omega
      refine go6 ?_;refine sQ (AY jV rfl rfl oo_ oo_) rfl (sQ (dJ tyT rfl mm_ (eU_ (by rw [hC.len];omega))) rfl ?_);refine go_ ?_;refine sQ (aS (iO rfl rfl) (congrArg (Value.int .i64) (f1_ (by have:=hC.low m;have:=hC.clt;omega)))) rfl (go6 ?_);refine sQ (aS (rT rfl rfl dd_) (OU _)) rfl (sQ (AY jV rfl rfl oo_ oo_) rfl (bC rfl (GO tyT rfl rfl uu_ (by rw [hC.len];omega) (.inl (by assumption)) ?_)));refine go3 ?_;refine sQ (aS (rS rfl rfl dd_) (congrArg (Value.int .i64) (fi_ (by have:=hC.low m;have:=hC.clt;omega)))) rfl (go4 ?_);refine sQ (aS (iO rfl rfl) (congrArg (Value.int .i64) (jK oo_))) rfl (go2 ?_);refine ⟨pp_,_,_,(List.Sublist.refl _),oo_,m+1,_,_,⟨?s8,?s9⟩,?mem,rfl,⟨by omega,hC.step oo_⟩⟩
      case mem=>rfl
      case s8=>rfl
      case s9=>rfl
     replace hm2:=cB_ hm2
     obtain rfl:m=(la.length+lb.length+1):=by omega
     have hT:(dv o+65536 ^ i * (dg (dv la) i * (dv lb % 65536 ^ lb.length)))=dv la % 65536 ^ (i+1) * dv lb:=by rw [hdv];exact VJ (vY lb hDb)
     have hF:=hC.fin (by rw [hT];exact Z4 oo_ (vY lb hDb));rw [hT] at hF;refine go3 ?_;refine sQ (aS (iO rfl rfl) (congrArg (Value.int .i64) (jK oo_))) rfl (go2 ?_);refine ⟨pp_,_,_,(List.Sublist.refl _),oo_,i+1,_,?s6,?mem,rfl,⟨by omega,hF⟩⟩
     case mem=>rfl
     case s6=>rfl
  replace hc:=cB_ hc
  obtain rfl:i=la.length:=by omega
  refine go3 ?_;refine sQ (bE aJ rfl (fun w hw=>iU _ o hDo oo_ w (SL.sl (SL.mine' (.head _) hlo (Nat.le_refl _)) hw))) rfl (go3 ?_);refine bG rfl (.inr rfl) rfl ?_;exact uF hDo (by rw [hdv,Nat.mod_eq_of_lt (vY la hDa)]) (SLf.mine hb17 (.head _) hlo (Nat.le_refl _))
theorem nH (va:Value) (la:List Nat) (k:Int) (w:World) (hva:Sl w va la) :
    Calls prog 173 [va,.int .i64 k].toArray w (fun e w'=>e = .returned (.int .i64 ((atD la k:Nat):Int))∧Ext w w'):=by
 refine cQ (N:=10) func173 rfl rfl (by simp) ?_;obtain ⟨w0,rfl⟩:∃ w0,w0=w:=⟨_,rfl⟩;simp only [bK,Nat.reduceAdd];refine go8 ?_;refine aQ _ rfl (fun h0=>?_) (fun h0=>?_)
 ·replace h0:=cB_ h0
  refine go4 ?_;refine bG rfl (.inr rfl) rfl ?_
  (rw [aB_ h0];rfl)
 replace h0:=cB_ h0
 refine go3 ?_;refine sQ (aS (jO rfl) (show _=Value.int .i64 ((k.toNat:Nat):Int) from congrArg (Value.int .i64) oo_)) rfl (sQ (bE aJ rfl (fun w hw=>fR va la k.toNat w (SL.sl (M:=_) hva.old hw))) rfl (go3 ?_));refine bG rfl (.inr rfl) rfl ?_;rw [aC_ h0]
theorem rW (n:Int) :
    Ret prog 135 [.int .i64 n] (.bool (decide (n<2147483648)&&decide (-2147483648<n))):=by
 refine bT (N:=9) func135 rfl rfl (by simp) (fun w0=>?_);simp only [bK,Nat.reduceAdd];refine go7 ?_
 cases h1:decide (n<2147483648)
 ·refine go6 ?_;refine bG rfl (.inr rfl) rfl ?_
  simp [*]
 refine go6 ?_;refine bG rfl (.inr rfl) rfl ?_
 simp [*]
theorem rA (n m:Int) (hn:I64 n) (hnm:n ≠ -9223372036854775808) (hm:m≠0) :
    Ret prog 127 [.int .i64 n,.int .i64 m] (.int .i64 (n.fdiv m)):=by
 refine bT (N:=23) func127 rfl rfl (by simp) (fun w0=>?_);simp only [bK,Nat.reduceAdd];refine go6 ?_;refine sQ (aS (rS rfl rfl hm) (congrArg (Value.int .i64) (bQ (Q3 hn hnm)))) rfl (go6 ?_);refine sQ (rT rfl rfl hm) rfl (go2 ?_)
 cases h0:(n.tmod m != 0)
 ·refine QA ?_;refine bG rfl (.inr rfl) rfl ?_;exact congrArg (Value.int .i64) (BQ hm (.inl (by simpa using h0))).1.symm
 refine go4 ?_;refine sQ (qQ xS rfl rfl) rfl (go2 ?_);refine aQ _ rfl (fun hs=>?_) (fun hs=>?_)
 ·replace hs:=cB_ hs
  refine go2 ?_;refine sQ (aS (nF rfl rfl) (congrArg (Value.int .i64) (bQ (ZA hn hnm)))) rfl (go7 ?_);refine bG rfl (.inr rfl) rfl ?_;exact congrArg (Value.int .i64) (P7 hm (by simpa using h0) (bne_iff_ne.2 (by rw [JD (by simpa using h0)];exact hs))).1.symm
 replace hs:=cB_ hs
 refine go6 ?_;refine bG rfl (.inr rfl) rfl ?_;exact congrArg (Value.int .i64) (BQ hm (.inr (by rw [JD (by simpa using h0)];simpa using hs))).1.symm
theorem fI (a:R) (ha:a.Ok) :
    Ret prog 126 [RV a] (.tuple #[.int .i64 (jD a),.bool (gU a)]):=by
 refine bT (N:=41) func126 rfl rfl (by simp) (fun w0=>?_);simp only [bK,Nat.reduceAdd];refine go_ ?_;refine bC rfl (jN rfl rfl (fun b1 hb1=>go4 ?_));refine sQ (cJ tyT rfl mm_ (cX ha)) rfl ?_;refine sQ (bM aJ (bN a ha) rfl) rfl (go7 ?_)
 cases hg:a.good
 ·refine FU ?_;refine iY rfl (.inr rfl) rfl rfl ?_;exact VM hg
 refine sQ (cC fdT dd_ rfl) rfl (sQ (eK arT rfl rfl dd_ dd_) rfl (sQ (dJ tyT rfl mm_ (mO (r:=a) (k:=1) (by rw [ha.len];decide))) rfl ?_));refine go3 ?_;refine aQ _ rfl (fun h16=>?_) (fun h16=>?_)
 ·replace h16:=cB_ h16
  refine go5 ?_;refine iY rfl (.inr rfl) rfl rfl ?_;exact PJ (ak_ ha h16)
 replace h16:=cB_ h16
 refine go6 ?_;refine cF [2,3,5,17,18,19,20,21,22,23,24,25] (fun g nn M=>∃ (k:Nat),(g 5 = .int .i64 (k:Int))∧M=[⟨b1,27,a.cells⟩]∧nn=16 - k∧(2≤k∧k≤16∧∀ j,2≤j→j<k→a.w.getD j 0=0)) (14) ?start ?round
 case start =>
  refine ⟨_,(List.Sublist.refl _),2,?a5,?mem0,rfl,⟨Nat.le_refl _,by decide,fun j h1 h2=>by omega⟩⟩
  case mem0=>rfl
  case a5=>rfl
 case round =>
  rintro nn g M ⟨k,hg5,rfl,hmeas,⟨hk2,hk,hz⟩⟩;subst nn;simp only [eH,hg5];clear hg5;refine go5 ?_;refine aQ _ rfl (fun hc=>?_) (fun hc=>?_)
  ·replace hc:=cB_ hc
   have hc:k<16:=by omega
   refine go5 ?_;refine sQ (cC fdT dd_ rfl) rfl (sQ (eK arT rfl rfl oo_ oo_) rfl (sQ (dJ tyT rfl mm_ (mO (r:=a) (k:=k) (by rw [ha.len];omega))) rfl ?_));refine go2 ?_;refine aQ _ rfl (fun hz2=>?_) (fun hz2=>?_)
   ·replace hz2:=cB_ hz2
    refine go5 ?_;refine iY rfl (.inr rfl) rfl rfl ?_;exact PJ (VN ha hk2 oo_)
   replace hz2:=cB_ hz2
   refine go3 ?_;refine sQ (aS (iO rfl rfl) (congrArg (Value.int .i64) (jK oo_))) rfl (go2 ?_);refine ⟨pp_,_,_,(List.Sublist.refl _),oo_,k+1,?s5,?mem,rfl,⟨by omega,by omega,fun j h1 h2=>by rcases Nat.eq_or_lt_of_le (Nat.le_of_lt_succ h2) with rfl | h3;omega;exact hz j h1 h3⟩⟩
   case mem=>rfl
   case s5=>rfl
  replace hc:=cB_ hc
  obtain rfl:k=16:=by omega
  have hws:=PK ha oo_ hz;refine go2 ?_;refine sQ (cC fdT dd_ rfl) rfl (sQ (eK arT rfl rfl dd_ dd_) rfl (sQ (dJ tyT rfl mm_ (mO (r:=a) (k:=1) (by rw [ha.len];decide))) rfl ?_));refine sQ (dY gJ BS rfl) rfl (go_ ?_);refine sQ (cC fdT dd_ rfl) rfl (sQ (eK arT rfl rfl dd_ dd_) rfl (sQ (dJ tyT rfl mm_ (mO (r:=a) (k:=0) (by rw [ha.len];decide))) rfl ?_));refine sQ (dY gJ BS rfl) rfl (sQ (aS (iO rfl rfl) (congrArg (Value.int .i64) ((PK ha oo_ hz).1))) rfl (go4 ?_));refine sQ (cC fdT dd_ rfl) rfl (sQ (dJ tyT rfl mm_ rfl) rfl ?_);refine go_ ?_;refine aQ _ rfl (fun hn=>?_) (fun hn=>?_)
  ·replace hn:=cB_ hn
   refine go7 ?_;refine iY rfl (.inr rfl) rfl rfl ?_;exact ai_ hg hws.2 hn
  replace hn:=cB_ hn
  refine go7 ?_;refine iY rfl (.inr rfl) rfl rfl ?_;exact aj_ hg hws.2 hn
theorem eV (n:Int) (hn:I64 n) :
    Ret prog 72 [.int .i64 n] (RV (Z.of n).enc):=by
 refine bT (N:=35) func72 rfl rfl (by simp) (fun w0=>?_);simp only [bK,Nat.reduceAdd];unfold I64 at hn;refine go_ ?_;refine bC rfl (eD kR (fun b2 hb2=>go6 ?_));refine aQ _ rfl (fun h0=>?_) (fun h0=>?_)
 ·replace h0:=cB_ h0
  obtain ⟨m,rfl⟩:∃ m:Nat,n=m:=⟨n.toNat,by omega⟩;refine go2 ?_;refine sQ (aS (rT rfl rfl dd_) (show _=IV (m % 65536) from OU _)) rfl (go_ ?_);refine sQ (aS (rS rfl rfl dd_) (IY 65536 oo_)) rfl (sQ (aS (rT rfl rfl dd_) (show _=IV (m / 65536 % 65536) from OU _)) rfl (go_ ?_));refine sQ (aS (rS rfl rfl dd_) (IY 4294967296 oo_)) rfl (sQ (aS (rT rfl rfl dd_) (show _=IV (m / 4294967296 % 65536) from OU _)) rfl (go_ ?_));refine sQ (aS (rS rfl rfl dd_) (IY 281474976710656 oo_)) rfl (bC rfl (jA oL z_3 yF rfl dd_ rfl (XK _ _ _ _) (fun b16 hb16=>sQ (bE aJ rfl (fun w hw=>dG false _ (dl4 m) (W9 oo_) (by simp [dl4]) w (SL.sl (SL.mine (l:=dl4 m) (.head _) (Nat.le_refl _)) hw))) rfl ?_)));refine bC rfl (bO tyT rfl rfl uu_ (aL _) rfl (bI _) (.inl (by assumption)) ?_);refine go2 ?_;refine bG rfl (.inr rfl) ⟨_,_,_,_,_,_,rfl,mm_,tyT,_,(dS (aL _)),(aL _),rfl⟩ ?_
  (rw [P4,qY];rfl)
 replace h0:=cB_ h0
 obtain ⟨m,rfl⟩:∃ m:Nat,n = -((m:Int)+1):=⟨(-n - 1).toNat,by omega⟩;refine go4 ?_;refine sQ (aS (Y5 rfl) (congrArg (Value.int .i64) (bj_ oo_))) rfl (go4 ?_);refine sQ (aS (rT rfl rfl dd_) (show _=IV (m % 65536) from OU _)) rfl (go_ ?_);refine sQ (aS (rS rfl rfl dd_) (IY 65536 oo_)) rfl (sQ (aS (rT rfl rfl dd_) (show _=IV (m / 65536 % 65536) from OU _)) rfl (go_ ?_));refine sQ (aS (rS rfl rfl dd_) (IY 4294967296 oo_)) rfl (sQ (aS (rT rfl rfl dd_) (show _=IV (m / 4294967296 % 65536) from OU _)) rfl (go_ ?_));refine sQ (aS (rS rfl rfl dd_) (IY 281474976710656 oo_)) rfl (bC rfl (jA oL z_3 yF rfl dd_ rfl (XK _ _ _ _) (fun b31 hb31=>bC rfl (jA oL z_3 yF rfl dd_ rfl (AO 1) (fun b32 hb32=>bC rfl (fB aJ rfl (fun w hw=>oA _ _ (dl4 m) [1] (W9 oo_) (DL.one dd_) (by simp [dl4]) (by simp) w (SL.sl (SL.mine (l:=dl4 m) (.tail _ (.head _)) (Nat.le_refl _)) hw) (SL.sl (SL.mine (l:=[1]) (.head _) (Nat.le_refl _)) hw)) (fun v9 L9 h9=>?_)))))));refine sQ (bE aJ rfl (fun w hw=>dG true _ _ (jR _) (Nat.le_trans (gW (k:=64) (by rw [P4];simp only [dv];omega)) dd_) w (SL.sl (h9.sl.sub lZ) hw))) rfl (bC rfl (bO tyT rfl rfl uu_ (aL _) rfl (bI _) (.inl (by assumption)) ?_));refine go2 ?_;refine bG rfl (.inr rfl) ⟨_,_,_,_,_,_,rfl,mm_,tyT,_,(dS (aL _)),(aL _),rfl⟩ ?_
 (rw [fL,P4];simp only [dv,Nat.mul_zero,Nat.add_zero];rw [fq_];rfl)
end Go.Proofs.YtokjfhfiodopdaaGreat
