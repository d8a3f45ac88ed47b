/- Lemmas: what they ask stands in their statements. -/
import Derived.Test.YtkjjponijamaoaaGreatDoorTFa0
set_option linter.unusedSimpArgs false
set_option linter.unusedVariables false
set_option maxHeartbeats 8000000
set_option maxRecDepth 20000
namespace Go.Proofs.YtkjjponijamaoaaGreatDoor
open Go.Kn Go.Num Tryz
attribute [local irreducible] Go.Kn.W WL PL OpQ OpR OpS
theorem jJ (va:Value) (l:List Nat) (k:Nat) (w:World) (hva:Sl w va l) :
    Calls prog 236 [va,.int .i64 (k:Int)].toArray w (fun e w'=>e = .returned (.int .i64 ((l.getD k 0:Nat):Int))∧Ext w w'):=by
 refine cS (N:=13) func236 rfl rfl (by simp) ?_;obtain ⟨w0,rfl⟩:∃ w0,w0=w:=⟨_,rfl⟩;simp only [bO,Nat.reduceAdd];refine go7 ?_;refine sQ (qK jK rfl hva.old) rfl (go2 ?_);refine aH _ rfl (fun hk=>?_) (fun hk=>?_)
 ·replace hk:=cB_ hk
  refine go3 ?_;refine sQ (DB jK rfl rfl hva.old oo_) rfl (sQ (zE tyT rfl hva.old oo_) rfl (go3 ?_));refine bA rfl (.inr rfl) rfl ?_;exact rfl
 replace hk:=cB_ hk
 refine go5 ?_;refine bA rfl (.inr rfl) rfl ?_;exact congrArg (fun n:Nat=>Value.int .i64 (n:Int)) (show 0=l.getD k 0 by simp [List.getD,List.getElem?_eq_none (show l.length≤k by omega)])
theorem lR (va:Value) (l:List Nat) (hD:DL l) (hn:l.length≤1000) (w:World) (hva:Sl w va l) :
    Calls prog 235 [va].toArray w (fun e w'=>e = .returned (sls va (dl (dv l)).length)∧Ext w w'):=by
 refine cS (N:=21) func235 rfl rfl (by simp) ?_;obtain ⟨w0,rfl⟩:∃ w0,w0=w:=⟨_,rfl⟩;simp only [bO,Nat.reduceAdd];refine go5 ?_;refine sQ (qK jK rfl hva.old) rfl (go4 ?_);refine cK [3,6,7,8,9,10,11,12,13,14,15,16,17] (fun g nn M=>∃ (k:Nat),(g 3 = .int .i64 (k:Int))∧M=[]∧nn=k+0∧(k≤l.length∧∀ j,k≤j→l.getD j 0=0)) (l.length) ?start ?round
 case start =>
  refine ⟨_,(List.Sublist.refl _),l.length,?a3,?mem0,rfl,⟨Nat.le_refl _,fun j hj=>by simp [List.getD,List.getElem?_eq_none (show l.length≤j by omega)]⟩⟩
  case mem0=>rfl
  case a3=>rfl
 case round =>
  rintro nn g M ⟨k,hg3,rfl,hmeas,⟨hk,hhi⟩⟩;subst nn;simp only [fF,hg3];clear hg3;refine go5 ?_
  cases hz:decide ((0:Int)<(k:Int))
  ·refine dy_ ?_;refine sQ (b8_ jK rfl rfl hva.old oo_) rfl (go3 ?_);refine bA rfl (.inr rfl) rfl ?_;rw [NM hD,RH hhi (.inl (by have:=of_decide_eq_false hz;omega))]
  have hz':=of_decide_eq_true hz;obtain ⟨m,rfl⟩:∃ m,k=m+1:=⟨k - 1,by omega⟩;refine go2 ?_;refine sQ (aL (sK rfl rfl) (congrArg (Value.int .i64) (CK oo_))) rfl (sQ (DB jK rfl rfl hva.old oo_) rfl (sQ (zE tyT rfl hva.old oo_) rfl (go3 ?_)));refine aH _ rfl (fun h0=>?_) (fun h0=>?_)
  ·replace h0:=cB_ h0
   refine go4 ?_;refine sQ (aL (sK rfl rfl) (congrArg (Value.int .i64) (CK oo_))) rfl (go2 ?_);refine ⟨pp_,_,_,(List.Sublist.refl _),oo_,m,?s3,?mem,rfl,⟨by omega,fun j hj=>by rcases Nat.eq_or_lt_of_le hj with rfl | hj;omega;exact hhi j hj⟩⟩
   case mem=>rfl
   case s3=>rfl
  replace h0:=cB_ h0
  refine go4 ?_;refine sQ (b8_ jK rfl rfl hva.old oo_) rfl (go3 ?_);refine bA rfl (.inr rfl) rfl ?_;rw [NM hD,RH hhi (.inr (by simp only [Nat.add_sub_cancel];omega))]
theorem cH (a:R) (ha:a.Ok) (w:World)  :
    Calls prog 163 [RV a].toArray w (fun e w'=>∃ v,e = .returned v∧Ext w w'∧Slf w.heap.size w' v (dl (val a.w))):=by
 refine zB (N:=26) func163 rfl rfl (by simp) ?_;obtain ⟨w0,rfl⟩:∃ w0,w0=w:=⟨_,rfl⟩;simp only [bO,Nat.reduceAdd];refine go_ ?_;refine bD rfl (mB rfl rfl (fun b1 hb1=>jT ?_));refine cK [3,4,5,6,7,8,9,10,11,12,13,14,15,16,17,18,19,20,21,22,23] (fun g nn M=>∃ (k:Nat) (v:Value) (l:List Nat) (L:List Blk),(g 3=v∧g 4 = .int .i64 (k:Int))∧M=L ++ [⟨b1,31,a.cells⟩]∧nn=16 - k∧(k≤16∧OwnL w0 3 v l L∧DL l∧l.length=2 * k∧dv l=val a.w % 4294967296 ^ k)) (16) ?start ?round
 case start =>
  refine ⟨_,(List.Sublist.refl _),0,_,[],[],⟨?a3,?a4⟩,?mem0,rfl,⟨Nat.zero_le _,.nil,DL.nil,rfl,by simp [dv,Nat.mod_one]⟩⟩
  case mem0=>rfl
  case a3=>rfl
  case a4=>rfl
 case round =>
  rintro nn g M ⟨k,v,l,L,⟨hg3,hg4⟩,rfl,hmeas,⟨hk,hO,hD,hlen,hdv⟩⟩;subst nn;simp only [fF,hg3,hg4];clear hg3 hg4;refine go5 ?_;refine aH _ rfl (fun hc=>?_) (fun hc=>?_)
  ·replace hc:=cB_ hc
   have hc:k<16:=by omega
   refine go3 ?_;refine jQ sn 16 [13,14] [14] (go2 ?_);refine pQ rfl (cU fdT dd_ rfl) (pQ rfl (gQ arT rfl rfl oo_ oo_) (pQ rfl (eM tyT rfl mm_ (rK (r:=a) (k:=k) (by rw [ha.len];omega))) ?_));refine pQ rfl (rR rfl rfl dd_) (pQ rfl (aL (fW j6 HH rfl) (hH_ (fJ ha.lim k))) (go_ ?_));refine pQ rfl (cU fdT dd_ rfl) (pQ rfl (gQ arT rfl rfl oo_ oo_) (pQ rfl (eM tyT rfl mm_ (rK (r:=a) (k:=k) (by rw [ha.len];omega))) ?_));refine pQ rfl (mG rfl rfl dd_) (pQ rfl (aL (fW j6 HH rfl) (hE_ (fJ ha.lim k))) ?_);refine cF rfl rfl (lF jH z_3 rP rfl dd_ rfl (fL_ _ _) (fun b22 hb22=>⟨(fun _=>by first | exact sd s0 | exact s0),ss_,?_⟩));refine cF rfl rfl (E4 jH VU rfl rfl hO (SL.mine (l:=[a.w.getD k 0 % 65536,a.w.getD k 0 / 65536]) (.head _) (Nat.le_refl _)) (List.sublist_cons_self _ _) (by simp;omega) (fun v' L' hO'=>⟨nf,ss_,?_⟩));refine go4 ?_;refine sQ (aL (lE rfl rfl) (congrArg (Value.int .i64) (mS oo_))) rfl (go2 ?_);refine ⟨pp_,_,_,(List.Sublist.refl _),oo_,k+1,_,_,_,⟨?s3,?s4⟩,?mem,rfl,⟨by omega,hO',hD.append (DL.two (fJ ha.lim k)),by simp [hlen];omega,SG ha.lim hlen hdv⟩⟩
   case mem=>rfl
   case s3=>rfl
   case s4=>rfl
  replace hc:=cB_ hc
  obtain rfl:k=16:=by omega
  refine go3 ?_;refine sQ (bT aB rfl (fun w hw=>lR v l hD oo_ w (SL.sl (hO.sl lZ) hw))) rfl (go3 ?_);refine bA rfl (.inr rfl) rfl ?_;exact zP hD (by rw [hdv,U5 ha]) (hO.slf lZ)
theorem fQ  :
    Ret prog 89 [] (RV Z.bad.enc):=by
 refine bL (N:=2) func89 rfl rfl (by simp) (fun w0=>?_);simp only [bO,Nat.reduceAdd];refine go_ ?_;refine bD rfl (fP kN (fun b0 hb0=>go2 ?_));refine sQ (z5 kN plT rfl (.cons rfl (vs:=[.bool true]) rfl rfl (by simp [zR]) (z':=Z.bad.enc.cells) rfl (.nil _))) rfl ?_;refine bD rfl (cC tyT rfl rfl uu_ rfl rfl (bV Z.bad.enc) (.inl (by assumption)) ?_);refine go2 ?_;refine bA rfl (.inr rfl) ⟨_,_,_,_,_,_,rfl,mm_,tyT,_,(eC rfl),rfl,rfl⟩ ?_;exact rfl
theorem wC (r:R) (h:r.Ok) :
    Ret prog 227 [RV r] (.bool r.valid):=by
 refine bL (N:=32) func227 rfl rfl (by simp) (fun w0=>?_);simp only [bO,Nat.reduceAdd];refine go_ ?_;refine bD rfl (mB rfl rfl (fun b1 hb1=>jT ?_));refine cK [3,4,5,6,7,8,9,10,11,12,13,14,15,16] (fun g nn M=>∃ (k:Nat) (z:Bool),(g 3 = .bool z∧g 4 = .int .i64 (k:Int))∧M=[⟨b1,31,r.cells⟩]∧nn=16 - k∧(k≤16∧(z=true ↔ ∀ j,j<k→r.w.getD j 0=0))) (16) ?start ?round
 case start =>
  refine ⟨_,(List.Sublist.refl _),0,true,⟨?a3,?a4⟩,?mem0,rfl,⟨Nat.zero_le _,⟨fun _ j hj=>by omega,fun _=>rfl⟩⟩⟩
  case mem0=>rfl
  case a3=>rfl
  case a4=>rfl
 case round =>
  rintro nn g M ⟨k,z,⟨hg3,hg4⟩,rfl,hmeas,⟨hk,hz⟩⟩;subst nn;simp only [fF,hg3,hg4];clear hg3 hg4;refine go5 ?_;refine aH _ rfl (fun hc=>?_) (fun hc=>?_)
  ·replace hc:=cB_ hc
   have hc:k<16:=by omega
   refine go6 ?_
   cases z
   ·refine jT ?_;refine sQ (aL (lE rfl rfl) (congrArg (Value.int .i64) (mS oo_))) rfl (go2 ?_);refine ⟨pp_,_,_,(List.Sublist.refl _),oo_,k+1,?zz_1,⟨?s3,?s4⟩,?mem,rfl,⟨by omega,?inv_1⟩⟩
    case mem=>rfl
    case s3=>rfl
    case s4=>rfl
    first | exact UK hz | exact YS hz
   refine go_ ?_;refine sQ (cU fdT dd_ rfl) rfl (sQ (gQ arT rfl rfl oo_ oo_) rfl (sQ (eM tyT rfl mm_ (rK (r:=r) (k:=k) (by rw [h.len];omega))) rfl ?_));refine go6 ?_;refine sQ (aL (lE rfl rfl) (congrArg (Value.int .i64) (mS oo_))) rfl (go2 ?_);refine ⟨pp_,_,_,(List.Sublist.refl _),oo_,k+1,?zz_2,⟨?s3,?s4⟩,?mem,rfl,⟨by omega,?inv_2⟩⟩
   case mem=>rfl
   case s3=>rfl
   case s4=>rfl
   first | exact UK hz | exact YS hz
  replace hc:=cB_ hc
  obtain rfl:k=16:=by omega
  obtain rfl:z=r.zero:=em_ h hz;refine go3 ?_;refine sQ (cU fdT dd_ rfl) rfl (sQ (eM tyT rfl mm_ rfl) rfl ?_);refine go_ ?_;refine aH _ rfl (fun hb=>?_) (fun hb=>?_)
  ·replace hb:=cB_ hb
   refine go3 ?_
   cases hz0:r.zero
   ·refine go7 ?_;refine bA rfl (.inr rfl) rfl ?_
    simp [R.valid, *]
   refine sQ (cU fdT dd_ rfl) rfl (sQ (eM tyT rfl mm_ rfl) rfl ?_);refine go5 ?_;refine bA rfl (.inr rfl) rfl ?_
   simp [R.valid, *]
  replace hb:=cB_ hb
  refine go5 ?_
  cases hz0:r.zero
  ·refine go7 ?_;refine bA rfl (.inr rfl) rfl ?_
   simp [R.valid, *]
  refine sQ (cU fdT dd_ rfl) rfl (sQ (eM tyT rfl mm_ rfl) rfl ?_);refine go5 ?_;refine bA rfl (.inr rfl) rfl ?_
  simp [R.valid, *]
theorem cJ (r:R) (h:r.Ok) :
    Ret prog 148 [RV r] (.bool r.good):=by
 refine bL (N:=12) func148 rfl rfl (by simp) (fun w0=>?_);simp only [bO,Nat.reduceAdd];refine go_ ?_;refine bD rfl (mB rfl rfl (fun b1 hb1=>go3 ?_));refine sQ (cP tyT rfl mm_ (cT h)) rfl ?_;refine sQ (bI aB (wC r h) rfl) rfl (go5 ?_)
 cases hv:r.valid
 ·refine go7 ?_;refine bA rfl (.inr rfl) rfl ?_
  simp [R.good, *]
 refine sQ (cU fdT dd_ rfl) rfl (sQ (eM tyT rfl mm_ rfl) rfl ?_);refine go5 ?_;refine bA rfl (.inr rfl) rfl ?_
 simp [R.good, *]
theorem eS (neg:Bool) (va:Value) (l:List Nat) (hD:DL l) (hn:l.length≤1000) (w:World) (hva:Sl w va l) :
    Calls prog 168 [.bool neg,va].toArray w (fun e w'=>e = .returned (RV (Z.of (sgn neg (dv l))).enc)∧Ext w w'):=by
 refine cS (N:=62) func168 rfl rfl (by simp) ?_;obtain ⟨w0,rfl⟩:∃ w0,w0=w:=⟨_,rfl⟩;simp only [bO,Nat.reduceAdd];have hu0:∀ M,SL w0 [] M (sls va (dl (dv l)).length) (dl (dv l)):=fun M=>cF_ hD hva.old;refine go_ ?_;refine bD rfl (fP kN (fun b4 hb4=>go3 ?_));refine sQ (bT aB rfl (fun w hw=>lR va l hD hn w (SL.sl (M:=_) hva.old hw))) rfl (go5 ?_);refine sQ (qK jK rfl (hu0 _)) rfl (go2 ?_);refine aH _ rfl (fun hbig=>?_) (fun hbig=>?_)
 ·replace hbig:=cB_ hbig
  refine go_ ?_;refine sQ (bI aB (fQ) rfl) rfl (bD rfl (cC tyT rfl rfl uu_ (aF _) rfl (bV _) (.inl (by assumption)) ?_));refine go2 ?_;refine bA rfl (.inr rfl) ⟨_,_,_,_,_,_,rfl,mm_,tyT,_,(eC (aF _)),(aF _),rfl⟩ ?_;exact VR oo_
 replace hbig:=cB_ hbig
 have hlen:(dl (dv l)).length≤32:=by omega
 refine go_ ?_;refine y6 [6,14,15,16,17,18,19,20] (fun g M=>∃ (b6:Nat),(g 6 = .pointer (some ⟨b6,0,none⟩))∧M=⟨b6,31,R.cells (R.mk false (neg&&decide ((0:Int)<((dl (dv l)).length:Int))) (List.replicate 16 0))⟩ :: [⟨b4,31,zR⟩]∧(w0.heap.size≤b6)) (fun K6 J6=>?_) ?_
 ·refine go3 ?_
  cases neg
  ·refine go4 ?_;refine sQ (z5 kN plT rfl (be_ _)) rfl (bD rfl (fP kN (fun b6 hb6=>bD rfl (cC tyT rfl rfl uu_ (by simp [R.cells,j1]) rfl (bV _) (.inl (by assumption)) ?_))));refine go_ ?_;refine J6 _ _ pp_ ⟨_,(List.Sublist.refl _),_,?s6,?mem,hb6⟩
   case mem=>rfl
   case s6=>rfl
  refine go_ ?_;refine sQ (qK jK rfl (hu0 _)) rfl (go2 ?_);refine sQ (z5 kN plT rfl (be_ _)) rfl (bD rfl (fP kN (fun b6 hb6=>bD rfl (cC tyT rfl rfl uu_ (by simp [R.cells,j1]) rfl (bV _) (.inl (by assumption)) ?_))));refine go_ ?_;refine J6 _ _ pp_ ⟨_,(List.Sublist.refl _),_,?s6,?mem,hb6⟩
  case mem=>rfl
  case s6=>rfl
 rintro g M ⟨b6,hg6,rfl,hb6⟩;simp only [fF,hg6];clear hg6;refine go5 ?_;refine cK [7,21,22,23,24,25,26,27,28,29,30,31,32,33,34,35,36,37,38,39,40,41,42,43,44,45,46,47,48,49,50,51,52,53,54,55,56,57,58,59,60] (fun g nn M=>∃ (k:Nat) (ws:List Nat),(g 7 = .int .i64 (k:Int))∧M=⟨b6,31,R.cells (R.mk false (neg&&decide ((0:Int)<((dl (dv l)).length:Int))) ws)⟩ :: [⟨b4,31,zR⟩]∧nn=(dl (dv l)).length - k∧(k≤(dl (dv l)).length∧NumIn (dv l) k ws)) ((dl (dv l)).length - 0) ?start ?round
 case start =>
  refine ⟨_,(List.Sublist.refl _),0,_,?a7,?mem0,rfl,⟨Nat.zero_le _,NumIn.start _⟩⟩
  case mem0=>rfl
  case a7=>rfl
 case round =>
  rintro nn g M ⟨k,ws,hg7,rfl,hmeas,⟨hk,hI⟩⟩;subst nn;simp only [fF,hg7];clear hg7;refine go4 ?_;refine sQ (qK jK rfl (hu0 _)) rfl (go2 ?_);refine aH _ rfl (fun hc=>?_) (fun hc=>?_)
  ·replace hc:=cB_ hc
   have hk32:k<32:=by omega
   refine go5 ?_;refine sQ (aL (rR rfl rfl dd_) (congrArg (Value.int .i64) (it_ k))) rfl (go2 ?_);refine aH _ rfl (fun hpar=>?_) (fun hpar=>?_)
   ·replace hpar:=cB_ hpar
    have hpar:k % 2=0:=by omega
    have hz:=(hI.even hpar hk32).2;refine jQ (sd (sk (s0))) 16 [15] [15] (go_ ?_);refine pQ rfl (aL (mG rfl rfl dd_) (congrArg (Value.int .i64) (dU_ k oo_))) (go_ ?_);refine pQ rfl (aL (mG rfl rfl dd_) (congrArg (Value.int .i64) (dU_ k oo_))) (pQ rfl (cU fdT dd_ rfl) (pQ rfl (gQ arT rfl rfl oo_ oo_) (pQ rfl (eM tyT rfl mm_ (rK (r:=R.mk false (neg&&decide ((0:Int)<((dl (dv l)).length:Int))) ws) (k:=k / 2) (by simp only [hI.len];omega))) ?_)));refine go2 ?_;refine pQ rfl (DB jK rfl rfl (hu0 _) oo_) (pQ rfl (zE tyT rfl (hu0 _) oo_) (pQ rfl (fW HH j6 rfl) (pQ rfl (aL (lE rfl rfl) (show _=U32 (dg (dv l) k) by rw [(hI.even hpar hk32).1,FM];exact aE_ (rQ _ _))) (pQ rfl (cU fdT dd_ rfl) (pQ rfl (gQ arT rfl rfl oo_ oo_) ?_)))));refine cF rfl rfl (TW (k:=k / 2) tyT rfl rfl uu_ (by rw [hI.len];omega) (.inl (by assumption)) ⟨nf,ss_,?_⟩);refine go3 ?_;refine sQ (aL (lE rfl rfl) (congrArg (Value.int .i64) (mS oo_))) rfl (go2 ?_);refine ⟨pp_,_,_,(List.Sublist.refl _),oo_,k+1,_,?s7,?mem,rfl,⟨by omega,hz⟩⟩
    case mem=>rfl
    case s7=>rfl
   replace hpar:=cB_ hpar
   have hpar:¬ k % 2=0:=by omega
   have hz:=(hI.odd hpar hk32).2;refine gdr (sd (sk (s0))) [0,4,8,12,16,20,24,28,32,36,40,44,48,52,56,60,65] [16] mix (by kernel_rfl) (go_ ?_);refine pQ rfl (aL (mG rfl rfl dd_) (congrArg (Value.int .i64) (dU_ k oo_))) (go_ ?_);refine pQ rfl (aL (mG rfl rfl dd_) (congrArg (Value.int .i64) (dU_ k oo_))) (pQ rfl (cU fdT dd_ rfl) (pQ rfl (gQ arT rfl rfl oo_ oo_) (pQ rfl (eM tyT rfl mm_ (rK (r:=R.mk false (neg&&decide ((0:Int)<((dl (dv l)).length:Int))) ws) (k:=k / 2) (by simp only [hI.len];omega))) ?_)));refine go2 ?_;refine pQ rfl (DB jK rfl rfl (hu0 _) oo_) (pQ rfl (zE tyT rfl (hu0 _) oo_) (pQ rfl (fW HH j6 rfl) (go_ ?_)));refine pQ rfl (aL (lE rfl rfl) (show _=U32 (ws.getD (k / 2) 0+dg (dv l) k * 65536) by rw [FM];exact c5_ (hI.odd hpar hk32).1 (rQ _ _))) (pQ rfl (cU fdT dd_ rfl) (pQ rfl (gQ arT rfl rfl oo_ oo_) ?_));refine cF rfl rfl (TW (k:=k / 2) tyT rfl rfl uu_ (by rw [hI.len];omega) (.inl (by assumption)) ⟨nf,ss_,?_⟩);refine go3 ?_;refine sQ (aL (lE rfl rfl) (congrArg (Value.int .i64) (mS oo_))) rfl (go2 ?_);refine ⟨pp_,_,_,(List.Sublist.refl _),oo_,k+1,_,?s7,?mem,rfl,⟨by omega,hz⟩⟩
   case mem=>rfl
   case s7=>rfl
  replace hc:=cB_ hc
  obtain rfl:k=(dl (dv l)).length:=by omega
  refine go2 ?_;refine sQ (cP tyT rfl mm_ (by simp [R.cells,j1,hI.len])) rfl ?_;refine bD rfl (cC tyT rfl rfl uu_ (by simp [R.cells,j1,hI.len]) rfl (bV _) (.inl (by assumption)) ?_);refine go2 ?_;refine bA rfl (.inr rfl) ⟨_,_,_,_,_,_,rfl,mm_,tyT,_,(eC (by simp [R.cells,j1,hI.len])),(by simp [R.cells,j1,hI.len]),rfl⟩ ?_;exact VS hI
theorem tW (va vb:Value) (la lb:List Nat) (hDa:DL la) (hDb:DL lb) (hna:la.length≤200) (hnb:lb.length≤200) (w:World) (hva:Sl w va la) (hvb:Sl w vb lb) :
    Calls prog 164 [va,vb].toArray w (fun e w'=>∃ v,e = .returned v∧Ext w w'∧Slf w.heap.size w' v (dl (dv la+dv lb))):=by
 refine zB (N:=37) func164 rfl rfl (by simp) ?_;obtain ⟨w0,rfl⟩:∃ w0,w0=w:=⟨_,rfl⟩;simp only [bO,Nat.reduceAdd];refine AH ?_;refine cK [5,6,7,8,9,10,11,12,13,14,15,16,17,18,19,20,21,22,23,24,25,26,27,28,29,30,31,32,33,34] (fun g nn M=>∃ (k:Nat) (v:Value) (l:List Nat) (L:List Blk),(g 5=v∧g 6 = .int .i64 ((cD (dv la) (dv lb) k:Nat):Int)∧g 7 = .int .i64 (k:Int))∧M=L ++ []∧nn=max la.length lb.length+1 - k∧(k≤max la.length lb.length+1∧OwnL w0 3 v l L∧DL l∧l.length=k∧dv l=(dv la+dv lb) % 65536 ^ k)) (max la.length lb.length+1 - 0) ?start ?round
 case start =>
  refine ⟨_,(List.Sublist.refl _),0,_,[],[],⟨?a5,?a6,?a7⟩,?mem0,rfl,⟨Nat.zero_le _,.nil,DL.nil,rfl,by simp [dv,Nat.mod_one]⟩⟩
  case mem0=>rfl
  case a5=>rfl
  case a6=>rw [dg_];rfl
  case a7=>rfl
 case round =>
  rintro nn g M ⟨k,v,l,L,⟨hg5,hg6,hg7⟩,rfl,hmeas,⟨hk,hO,hD,hlen,hdv⟩⟩;subst nn;simp only [fF,hg5,hg6,hg7];clear hg5 hg6 hg7;refine go4 ?_;refine sQ (qK jK rfl hva.old) rfl (go_ ?_);refine sQ (qK jK rfl hvb.old) rfl (sQ (b4_ rfl rfl) rfl (sQ (aL (lE rfl rfl) (congrArg (Value.int .i64) (mS oo_))) rfl (go2 ?_)));refine aH _ rfl (fun hc=>?_) (fun hc=>?_)
  ·replace hc:=cB_ hc
   have hc:k<max la.length lb.length+1:=by omega
   refine go6 ?_;refine sQ (bT aB rfl (fun w hw=>jJ va la k w (SL.sl (M:=_) hva.old hw))) rfl (go2 ?_);refine sQ (bT aB rfl (fun w hw=>jJ vb lb k w (SL.sl (M:=_) hvb.old hw))) rfl (go2 ?_);refine sQ (aL (lE rfl rfl) (congrArg (Value.int .i64) ((show _=((cD (dv la) (dv lb) k+dg (dv la) k+dg (dv lb) k:Nat):Int) by rw [tT la k hDa,tT lb k hDb];exact id_ (rQ _ _) (rQ _ _) (ey_ _ _ _))))) rfl (go5 ?_);refine sQ (aL (rR rfl rfl dd_) (TY _)) rfl (bD rfl (lF jH z_3 rP rfl dd_ rfl (EU _) (fun b31 hb31=>bD rfl (E4 jH VU rfl rfl hO (SL.mine (l:=[(cD (dv la) (dv lb) k+dg (dv la) k+dg (dv lb) k) % 65536]) (.head _) (Nat.le_refl _)) (List.sublist_cons_self _ _) (by simp;omega) (fun v' L' hO'=>?_)))));refine go4 ?_;refine sQ (aL (mG rfl rfl dd_) (congrArg (Value.int .i64) (hF_ (by have:=ey_ (dv la) (dv lb) k;have:=rQ (dv la) k;have:=rQ (dv lb) k;omega)))) rfl (go4 ?_);refine sQ (aL (lE rfl rfl) (congrArg (Value.int .i64) (mS oo_))) rfl (go2 ?_);refine ⟨pp_,_,_,(List.Sublist.refl _),oo_,k+1,_,_,_,⟨?s5,?s6,?s7⟩,?mem,rfl,⟨by omega,hO',hD.append (DL.one (Nat.mod_lt _ dd_)),by simp [hlen],VX hlen hdv⟩⟩
   case mem=>rfl
   case s5=>rfl
   case s6=>rw [← TJ];rfl
   case s7=>rfl
  replace hc:=cB_ hc
  obtain rfl:k=max la.length lb.length+1:=by omega
  refine go3 ?_;refine sQ (bT aB rfl (fun w hw=>lR v l hD oo_ w (SL.sl (hO.sl lZ) hw))) rfl (go3 ?_);refine bA rfl (.inr rfl) rfl ?_;exact zP hD (by rw [hdv,ZP hDa hDb]) (hO.slf lZ)
theorem n8 (va vb:Value) (la lb:List Nat) (hDa:DL la) (hDb:DL lb) (hna:la.length≤200) (hnb:lb.length≤200) (hle:dv lb≤dv la) (w:World) (hva:Sl w va la) (hvb:Sl w vb lb) :
    Calls prog 171 [va,vb].toArray w (fun e w'=>∃ v,e = .returned v∧Ext w w'∧Slf w.heap.size w' v (dl (dv la - dv lb))):=by
 refine zB (N:=35) func171 rfl rfl (by simp) ?_;obtain ⟨w0,rfl⟩:∃ w0,w0=w:=⟨_,rfl⟩;simp only [bO,Nat.reduceAdd];refine AH ?_;refine cK [5,6,7,8,9,10,11,12,13,14,15,16,17,18,19,20,21,22,23,24,25,26,27,28,29,30,31,32] (fun g nn M=>∃ (k:Nat) (v:Value) (l:List Nat) (L:List Blk) (c:Nat),(g 5=v∧g 6 = .int .i64 (c:Int)∧g 7 = .int .i64 (k:Int))∧M=L ++ []∧nn=la.length - k∧(k≤la.length∧OwnL w0 3 v l L∧DL l∧l.length=k∧c≤1∧dv l+dv lb % 65536 ^ k=dv la % 65536 ^ k+c * 65536 ^ k)) (la.length - 0) ?start ?round
 case start =>
  refine ⟨_,(List.Sublist.refl _),0,_,[],[],0,⟨?a5,?a6,?a7⟩,?mem0,rfl,⟨Nat.zero_le _,.nil,DL.nil,rfl,by decide,by simp [dv,Nat.mod_one]⟩⟩
  case mem0=>rfl
  case a5=>rfl
  case a6=>rfl
  case a7=>rfl
 case round =>
  rintro nn g M ⟨k,v,l,L,c,⟨hg5,hg6,hg7⟩,rfl,hmeas,⟨hk,hO,hD,hlen,hcb,hdv⟩⟩;subst nn;simp only [fF,hg5,hg6,hg7];clear hg5 hg6 hg7;refine go4 ?_;refine sQ (qK jK rfl hva.old) rfl (go2 ?_);refine aH _ rfl (fun hc=>?_) (fun hc=>?_)
  ·replace hc:=cB_ hc
   have hc:k<la.length:=by omega
   refine go4 ?_;refine jQ sn 11 [] [] (go2 ?_);refine pQ rfl (DB jK rfl rfl hva.old oo_) (pQ rfl (zE tyT rfl hva.old oo_) (go2 ?_));refine pQ rfl (bT aB rfl (fun w hw=>jJ vb lb k w (SL.sl (M:=_) hvb.old hw))) (go2 ?_);refine pQ rfl (aL (sK rfl rfl) (congrArg (Value.int .i64) ((show _=((dg (dv la) k:Nat):Int) - ((dg (dv lb) k:Nat):Int) - (c:Int) by rw [tT la k hDa,tT lb k hDb];exact iy_ (rQ _ _) (rQ _ _) hcb)))) (jT ?_);refine aH _ rfl (fun h26=>?_) (fun h26=>?_)
   ·replace h26:=cB_ h26
    refine jT ?_;refine sQ (aL (mV rfl) (show _=IV (md (dg (dv la) k) (dg (dv lb) k) c) by first | exact bI_ (rQ _ _) (rQ _ _) hcb h26 | exact bJ_ h26)) rfl ?_;refine bD rfl (lF jH z_3 rP rfl dd_ rfl (EU _) (fun b31 hb31=>bD rfl (E4 jH VU rfl rfl hO (SL.mine (l:=[md (dg (dv la) k) (dg (dv lb) k) c]) (.head _) (Nat.le_refl _)) (List.sublist_cons_self _ _) (by simp;omega) (fun v' L' hO'=>?_))));refine go4 ?_;refine sQ (aL (lE rfl rfl) (congrArg (Value.int .i64) (mS oo_))) rfl (go2 ?_);refine ⟨pp_,_,_,(List.Sublist.refl _),oo_,k+1,_,_,_,mb (dg (dv la) k) (dg (dv lb) k) c,⟨?s5,?s6,?s7⟩,?mem,rfl,⟨by omega,hO',hD.append (DL.one (eL_ (rQ _ _) (rQ _ _) hcb)),by simp [hlen],eJ_ _ _ _,JC hlen hcb hdv⟩⟩
    case mem=>rfl
    case s5=>rfl
    case s6=>first | exact bE_ h26 | exact bF_ h26
    case s7=>rfl
   replace h26:=cB_ h26
   refine go3 ?_;refine sQ (aL (mV rfl) (show _=IV (md (dg (dv la) k) (dg (dv lb) k) c) by first | exact bI_ (rQ _ _) (rQ _ _) hcb h26 | exact bJ_ h26)) rfl ?_;refine bD rfl (lF jH z_3 rP rfl dd_ rfl (EU _) (fun b31 hb31=>bD rfl (E4 jH VU rfl rfl hO (SL.mine (l:=[md (dg (dv la) k) (dg (dv lb) k) c]) (.head _) (Nat.le_refl _)) (List.sublist_cons_self _ _) (by simp;omega) (fun v' L' hO'=>?_))));refine go4 ?_;refine sQ (aL (lE rfl rfl) (congrArg (Value.int .i64) (mS oo_))) rfl (go2 ?_);refine ⟨pp_,_,_,(List.Sublist.refl _),oo_,k+1,_,_,_,mb (dg (dv la) k) (dg (dv lb) k) c,⟨?s5,?s6,?s7⟩,?mem,rfl,⟨by omega,hO',hD.append (DL.one (eL_ (rQ _ _) (rQ _ _) hcb)),by simp [hlen],eJ_ _ _ _,JC hlen hcb hdv⟩⟩
   case mem=>rfl
   case s5=>rfl
   case s6=>first | exact bE_ h26 | exact bF_ h26
   case s7=>rfl
  replace hc:=cB_ hc
  obtain rfl:k=la.length:=by omega
  refine go3 ?_;refine sQ (bT aB rfl (fun w hw=>lR v l hD oo_ w (SL.sl (hO.sl lZ) hw))) rfl (go3 ?_);refine bA rfl (.inr rfl) rfl ?_;exact zP hD (VM hDa hD hlen hle hdv hcb) (hO.slf lZ)
theorem mX (va vb:Value) (la lb:List Nat) (hDa:DL la) (hDb:DL lb) (hna:la.length≤200) (hnb:lb.length≤200) (w:World) (hva:Sl w va la) (hvb:Sl w vb lb) :
    Calls prog 166 [va,vb].toArray w (fun e w'=>e = .returned (.bool (decide (dv la<dv lb)))∧Ext w w'):=by
 refine cS (N:=30) func166 rfl rfl (by simp) ?_;obtain ⟨w0,rfl⟩:∃ w0,w0=w:=⟨_,rfl⟩;simp only [bO,Nat.reduceAdd];refine go6 ?_;refine sQ (qK jK rfl hva.old) rfl (go_ ?_);refine sQ (qK jK rfl hvb.old) rfl (sQ (b4_ rfl rfl) rfl (go4 ?_));refine cK [4,5,12,13,14,15,16,17,18,19,20,21,22,23,24,25,26,27,28,29] (fun g nn M=>∃ (k:Nat),(g 5 = .int .i64 ((k:Int) - 1))∧M=[]∧nn=k+0∧(k≤max la.length lb.length∧dv la / 65536 ^ k=dv lb / 65536 ^ k)) (max la.length lb.length) ?start ?round
 case start =>
  refine ⟨_,(List.Sublist.refl _),max la.length lb.length,?a5,?mem0,rfl,⟨Nat.le_refl _,VI hDa hDb⟩⟩
  case mem0=>rfl
  case a5=>exact congrArg (Value.int .i64) (cO (by unfold I64;omega))
 case round =>
  rintro nn g M ⟨k,hg5,rfl,hmeas,⟨hk,hd⟩⟩;subst nn;simp only [fF,hg5];clear hg5;refine go5 ?_;refine aH _ rfl (fun hc=>?_) (fun hc=>?_)
  ·replace hc:=cB_ hc
   obtain ⟨m,rfl⟩:∃ m,k=m+1:=⟨k - 1,by omega⟩;refine go5 ?_;refine sQ (aL (mV rfl) (congrArg (Value.int .i64) (show (((m+1:Nat):Int) - 1)=(m:Int) by omega))) rfl (sQ (bT aB rfl (fun w hw=>jJ va la m w (SL.sl (M:=_) hva.old hw))) rfl (go_ ?_));refine sQ (aL (mV rfl) (congrArg (Value.int .i64) (show (((m+1:Nat):Int) - 1)=(m:Int) by omega))) rfl (sQ (bT aB rfl (fun w hw=>jJ vb lb m w (SL.sl (M:=_) hvb.old hw))) rfl (go2 ?_));refine aH _ rfl (fun hne=>?_) (fun hne=>?_)
   ·replace hne:=cB_ hne
    have hne':dg (dv la) m≠dg (dv lb) m:=by rw [← tT la m hDa,← tT lb m hDb];omega
    refine go2 ?_;refine sQ (aL (mV rfl) (congrArg (Value.int .i64) (show (((m+1:Nat):Int) - 1)=(m:Int) by omega))) rfl (sQ (bT aB rfl (fun w hw=>jJ va la m w (SL.sl (M:=_) hva.old hw))) rfl (go_ ?_));refine sQ (aL (mV rfl) (congrArg (Value.int .i64) (show (((m+1:Nat):Int) - 1)=(m:Int) by omega))) rfl (sQ (bT aB rfl (fun w hw=>jJ vb lb m w (SL.sl (M:=_) hvb.old hw))) rfl (go4 ?_));refine bA rfl (.inr rfl) rfl ?_
    (rw [tT la m hDa,tT lb m hDb];exact congrArg Value.bool (ZG hd hne'))
   replace hne:=cB_ hne
   have heq':dg (dv la) m=dg (dv lb) m:=by rw [← tT la m hDa,← tT lb m hDb];omega
   refine go2 ?_;refine sQ (aL (mV rfl) (congrArg (Value.int .i64) (show (((m+1:Nat):Int) - 1)=(m:Int) by omega))) rfl (go3 ?_);refine ⟨pp_,_,_,(List.Sublist.refl _),oo_,m,?s5,?mem,rfl,⟨by omega,ZF hd heq'⟩⟩
   case mem=>rfl
   case s5=>exact congrArg (Value.int .i64) (cO (n:=(m:Int) - 1) (by unfold I64;omega))
  replace hc:=cB_ hc
  obtain rfl:k=0:=by omega
  refine go5 ?_;refine bA rfl (.inr rfl) rfl ?_
  (simp only [Nat.pow_zero,Nat.div_one] at hd;rw [hd];exact congrArg Value.bool (decide_eq_false (Nat.lt_irrefl _)).symm)
theorem wF (va vb:Value) (la lb:List Nat) (hDa:DL la) (hDb:DL lb) (hna:la.length≤200) (hnb:lb.length≤200) (w:World) (hva:Sl w va la) (hvb:Sl w vb lb) :
    Calls prog 167 [va,vb].toArray w (fun e w'=>∃ v,e = .returned v∧Ext w w'∧Slf w.heap.size w' v (dl (dv la * dv lb))):=by
 refine zB (N:=72) func167 rfl rfl (by simp) ?_;obtain ⟨w0,rfl⟩:∃ w0,w0=w:=⟨_,rfl⟩;simp only [bO,Nat.reduceAdd];refine go5 ?_;refine sQ (qK jK rfl hva.old) rfl (go_ ?_);refine sQ (qK jK rfl hvb.old) rfl (sQ (aL (lE rfl rfl) (congrArg (Value.int .i64) (sF oo_))) rfl (sQ (aL (lE rfl rfl) (congrArg (Value.int .i64) (mS oo_))) rfl (bD rfl (ce_ jH VU z_3 rfl rfl oo_ (fun b17 hb17=>go7 ?_)))));refine cK [6,7,8,9,10,18,19,20,21,22,23,24,25,26,27,28,29,30,31,32,33,34,35,36,37,38,39,40,41,42,43,44,45,46,47,48,49,50,51,52,53,54,55,56,57,58,59,60,61,62,63,64,65,66,67,68,69] (fun g nn M=>∃ (i:Nat) (o:List Nat),(g 6 = .int .i64 (i:Int))∧M=[⟨b17,3,iw o⟩]∧nn=la.length - i∧(i≤la.length∧DL o∧o.length=(la.length+lb.length+1)∧dv o=dv la % 65536 ^ i * dv lb)) (la.length - 0) ?start ?round
 case start =>
  refine ⟨_,(List.Sublist.refl _),0,List.replicate (la.length+lb.length+1) 0,?a6,?mem0,rfl,⟨Nat.zero_le _,fun d hd=>by rw [List.eq_of_mem_replicate hd];decide,by simp,by rw [HC,Nat.pow_zero,Nat.mod_one,Nat.zero_mul]⟩⟩
  case mem0=>rfl
  case a6=>rfl
 case round =>
  rintro nn g M ⟨i,o,hg6,rfl,hmeas,⟨hi,hDo,hlo,hdv⟩⟩;subst nn;simp only [fF,hg6];clear hg6;refine go4 ?_;refine sQ (qK jK rfl hva.old) rfl (go2 ?_);refine aH _ rfl (fun hc=>?_) (fun hc=>?_)
  ·replace hc:=cB_ hc
   have hc:i<la.length:=by omega
   refine go8 ?_;refine cK [7,24,25,26,27,28,29,30,31,32,33,34,35,36,37,38,39,40,41,42,43,44,45,46,47,48,49,50] (fun g nn M=>∃ (k:Nat) (l:List Nat),(g 7 = .int .i64 (k:Int))∧M=[⟨b17,3,iw l⟩]∧nn=lb.length - k∧(k≤lb.length∧RowIn (la.length+lb.length+1) (dv lb) i (dg (dv la) i) o k l)) (lb.length - 0) ?start ?round
   case start =>
    refine ⟨_,(List.Sublist.refl _),0,o,?a7,?mem0,rfl,⟨Nat.zero_le _,RowIn.start _ _ _ hDo hlo⟩⟩
    case mem0=>rfl
    case a7=>rfl
   case round =>
    rintro nn g M ⟨k,l,hg7,rfl,hmeas,⟨hkl,hR⟩⟩;subst nn;simp only [fF,hg7];clear hg7;refine go4 ?_;refine sQ (qK jK rfl hvb.old) rfl (go2 ?_);refine aH _ rfl (fun hk2=>?_) (fun hk2=>?_)
    ·replace hk2:=cB_ hk2
     have hk2:k<lb.length:=by omega
     refine go3 ?_;refine gdr sn [0,4,8,12,16,20,24,28,32,36,40,44,48,52,56,60,64,68,72,76,80,85] [21] mix (by kernel_rfl) (go3 ?_);refine pQ rfl (aL (lE rfl rfl) (congrArg (Value.int .i64) (sF oo_))) (go3 ?_);refine pQ rfl (aL (lE rfl rfl) (congrArg (Value.int .i64) (sF oo_))) (pQ rfl (tU jK rfl rfl oo_ oo_) (pQ rfl (eM tyT rfl mm_ (hj_ (by rw [hR.len];omega))) ?_));refine go2 ?_;refine pQ rfl (DB jK rfl rfl hva.old oo_) (pQ rfl (zE tyT rfl hva.old oo_) (go2 ?_));refine pQ rfl (DB jK rfl rfl hvb.old oo_) (pQ rfl (zE tyT rfl hvb.old oo_) (go_ ?_));refine pQ rfl (aL (lE rfl rfl) (show _=IV (l.getD (i+k) 0+dg (dv la) i * dg (dv lb) k) by rw [tT la i hDa,tT lb k hDb];exact dH_ (hR.high _ (Nat.le_refl _)) (rQ _ _) (rQ _ _))) (pQ rfl (tU jK rfl rfl oo_ oo_) ?_);refine cF rfl rfl (MZ tyT rfl rfl uu_ (by rw [hR.len];omega) (.inl (by assumption)) ⟨nf,ss_,?_⟩);refine go3 ?_;refine sQ (aL (lE rfl rfl) (congrArg (Value.int .i64) (mS oo_))) rfl (go2 ?_);refine ⟨pp_,_,_,(List.Sublist.refl _),oo_,k+1,_,?s7,?mem,rfl,⟨by omega,hR.step oo_ (rQ _ _)⟩⟩
     case mem=>rfl
     case s7=>rfl
    replace hk2:=cB_ hk2
    obtain rfl:k=lb.length:=by omega
    refine go8 ?_;refine cK [8,9,10,51,52,53,54,55,56,57,58,59,60,61,62,63,64,65,66,67,68,69] (fun g nn M=>∃ (m:Nat) (l:List Nat) (c:Nat),(g 8 = .int .i64 (c:Int)∧g 9 = .int .i64 (m:Int))∧M=[⟨b17,3,iw l⟩]∧nn=(la.length+lb.length+1) - m∧(m≤(la.length+lb.length+1)∧CarryIn (la.length+lb.length+1) (dv o+65536 ^ i * (dg (dv la) i * (dv lb % 65536 ^ lb.length))) m l c)) ((la.length+lb.length+1) - 0) ?start ?round
    case start =>
     refine ⟨_,(List.Sublist.refl _),0,l,0,⟨?a8,?a9⟩,?mem0,rfl,⟨Nat.zero_le _,hR.done⟩⟩
     case mem0=>rfl
     case a8=>rfl
     case a9=>rfl
    case round =>
     rintro nn g M ⟨m,l,c,⟨hg8,hg9⟩,rfl,hmeas,⟨hml,hC⟩⟩;subst nn;simp only [fF,hg8,hg9];clear hg8 hg9;refine go4 ?_;refine sQ (DW jK rfl) rfl (go2 ?_);refine aH _ rfl (fun hm2=>?_) (fun hm2=>?_)
     ·replace hm2:=cB_ hm2
      have hm2:m<(la.length+lb.length+1):=by omega
      refine go6 ?_;refine sQ (tU jK rfl rfl oo_ oo_) rfl (sQ (eM tyT rfl mm_ (hj_ (by rw [hC.len];omega))) rfl ?_);refine go_ ?_;refine sQ (aL (lE rfl rfl) (congrArg (Value.int .i64) (ie_ (by have:=hC.low m;have:=hC.clt;omega)))) rfl (go6 ?_);refine sQ (aL (rR rfl rfl dd_) (TY _)) rfl (sQ (tU jK rfl rfl oo_ oo_) rfl (bD rfl (MZ tyT rfl rfl uu_ (by rw [hC.len];omega) (.inl (by assumption)) ?_)));refine go3 ?_;refine sQ (aL (mG rfl rfl dd_) (congrArg (Value.int .i64) (hF_ (by have:=hC.low m;have:=hC.clt;omega)))) rfl (go4 ?_);refine sQ (aL (lE rfl rfl) (congrArg (Value.int .i64) (mS oo_))) rfl (go2 ?_);refine ⟨pp_,_,_,(List.Sublist.refl _),oo_,m+1,_,_,⟨?s8,?s9⟩,?mem,rfl,⟨by omega,hC.step oo_⟩⟩
      case mem=>rfl
      case s8=>rfl
      case s9=>rfl
     replace hm2:=cB_ hm2
     obtain rfl:m=(la.length+lb.length+1):=by omega
     have hT:(dv o+65536 ^ i * (dg (dv la) i * (dv lb % 65536 ^ lb.length)))=dv la % 65536 ^ (i+1) * dv lb:=by rw [hdv];exact Z8 (B5 lb hDb)
     have hF:=hC.fin (by rw [hT];exact cC_ oo_ (B5 lb hDb));rw [hT] at hF;refine go3 ?_;refine sQ (aL (lE rfl rfl) (congrArg (Value.int .i64) (mS oo_))) rfl (go2 ?_);refine ⟨pp_,_,_,(List.Sublist.refl _),oo_,i+1,_,?s6,?mem,rfl,⟨by omega,hF⟩⟩
     case mem=>rfl
     case s6=>rfl
  replace hc:=cB_ hc
  obtain rfl:i=la.length:=by omega
  refine go3 ?_;refine sQ (bT aB rfl (fun w hw=>lR _ o hDo oo_ w (SL.sl (SL.mine' (.head _) hlo (Nat.le_refl _)) hw))) rfl (go3 ?_);refine bA rfl (.inr rfl) rfl ?_;exact zP hDo (by rw [hdv,Nat.mod_eq_of_lt (B5 la hDa)]) (SLf.mine hb17 (.head _) hlo (Nat.le_refl _))
theorem sL (va:Value) (la:List Nat) (k:Int) (w:World) (hva:Sl w va la) :
    Calls prog 247 [va,.int .i64 k].toArray w (fun e w'=>e = .returned (.int .i64 ((atD la k:Nat):Int))∧Ext w w'):=by
 refine cS (N:=10) func247 rfl rfl (by simp) ?_;obtain ⟨w0,rfl⟩:∃ w0,w0=w:=⟨_,rfl⟩;simp only [bO,Nat.reduceAdd];refine go8 ?_;refine aH _ rfl (fun h0=>?_) (fun h0=>?_)
 ·replace h0:=cB_ h0
  refine go4 ?_;refine bA rfl (.inr rfl) rfl ?_
  (rw [c7_ h0];rfl)
 replace h0:=cB_ h0
 refine go3 ?_;refine sQ (aL (mV rfl) (show _=Value.int .i64 ((k.toNat:Nat):Int) from congrArg (Value.int .i64) oo_)) rfl (sQ (bT aB rfl (fun w hw=>jJ va la k.toNat w (SL.sl (M:=_) hva.old hw))) rfl (go3 ?_));refine bA rfl (.inr rfl) rfl ?_;rw [c8_ h0]
theorem wE (n m:Int) (hn:I64 n) (hnm:n ≠ -9223372036854775808) (hm:m≠0) :
    Ret prog 197 [.int .i64 n,.int .i64 m] (.int .i64 (n.fdiv m)):=by
 refine bL (N:=23) func197 rfl rfl (by simp) (fun w0=>?_);simp only [bO,Nat.reduceAdd];refine go6 ?_;refine sQ (aL (mG rfl rfl hm) (congrArg (Value.int .i64) (cO (V1 hn hnm)))) rfl (go6 ?_);refine sQ (rR rfl rfl hm) rfl (go2 ?_)
 cases h0:(n.tmod m != 0)
 ·refine AH ?_;refine bA rfl (.inr rfl) rfl ?_;exact congrArg (Value.int .i64) (HG hm (.inl (by simpa using h0))).1.symm
 refine go4 ?_;refine sQ (yI F2 rfl rfl) rfl (go2 ?_);refine aH _ rfl (fun hs=>?_) (fun hs=>?_)
 ·replace hs:=cB_ hs
  refine go2 ?_;refine sQ (aL (sK rfl rfl) (congrArg (Value.int .i64) (cO (ca_ hn hnm)))) rfl (go7 ?_);refine bA rfl (.inr rfl) rfl ?_;exact congrArg (Value.int .i64) (VA hm (by simpa using h0) (bne_iff_ne.2 (by rw [PH (by simpa using h0)];exact hs))).1.symm
 replace hs:=cB_ hs
 refine go6 ?_;refine bA rfl (.inr rfl) rfl ?_;exact congrArg (Value.int .i64) (HG hm (.inr (by rw [PH (by simpa using h0)];simpa using hs))).1.symm
theorem i7 (a:R) (ha:a.Ok) :
    Ret prog 169 [RV a] (.tuple #[.int .i64 (mK a),.bool (kI a)]):=by
 refine bL (N:=41) func169 rfl rfl (by simp) (fun w0=>?_);simp only [bO,Nat.reduceAdd];refine go_ ?_;refine bD rfl (mB rfl rfl (fun b1 hb1=>go4 ?_));refine sQ (cP tyT rfl mm_ (cT ha)) rfl ?_;refine sQ (bI aB (cJ a ha) rfl) rfl (go7 ?_)
 cases hg:a.good
 ·refine vH ?_;refine l8 rfl (.inr rfl) rfl rfl ?_;exact ae_ hg
 refine sQ (cU fdT dd_ rfl) rfl (sQ (gQ arT rfl rfl dd_ dd_) rfl (sQ (eM tyT rfl mm_ (rK (r:=a) (k:=1) (by rw [ha.len];decide))) rfl ?_));refine go3 ?_;refine aH _ rfl (fun h16=>?_) (fun h16=>?_)
 ·replace h16:=cB_ h16
  refine go5 ?_;refine l8 rfl (.inr rfl) rfl rfl ?_;exact UO (cR_ ha h16)
 replace h16:=cB_ h16
 refine go6 ?_;refine cK [2,3,5,17,18,19,20,21,22,23,24,25] (fun g nn M=>∃ (k:Nat),(g 5 = .int .i64 (k:Int))∧M=[⟨b1,31,a.cells⟩]∧nn=16 - k∧(2≤k∧k≤16∧∀ j,2≤j→j<k→a.w.getD j 0=0)) (14) ?start ?round
 case start =>
  refine ⟨_,(List.Sublist.refl _),2,?a5,?mem0,rfl,⟨Nat.le_refl _,by decide,fun j h1 h2=>by omega⟩⟩
  case mem0=>rfl
  case a5=>rfl
 case round =>
  rintro nn g M ⟨k,hg5,rfl,hmeas,⟨hk2,hk,hz⟩⟩;subst nn;simp only [fF,hg5];clear hg5;refine go5 ?_;refine aH _ rfl (fun hc=>?_) (fun hc=>?_)
  ·replace hc:=cB_ hc
   have hc:k<16:=by omega
   refine go5 ?_;refine sQ (cU fdT dd_ rfl) rfl (sQ (gQ arT rfl rfl oo_ oo_) rfl (sQ (eM tyT rfl mm_ (rK (r:=a) (k:=k) (by rw [ha.len];omega))) rfl ?_));refine go2 ?_;refine aH _ rfl (fun hz2=>?_) (fun hz2=>?_)
   ·replace hz2:=cB_ hz2
    refine go5 ?_;refine l8 rfl (.inr rfl) rfl rfl ?_;exact UO (af_ ha hk2 oo_)
   replace hz2:=cB_ hz2
   refine go3 ?_;refine sQ (aL (lE rfl rfl) (congrArg (Value.int .i64) (mS oo_))) rfl (go2 ?_);refine ⟨pp_,_,_,(List.Sublist.refl _),oo_,k+1,?s5,?mem,rfl,⟨by omega,by omega,fun j h1 h2=>by rcases Nat.eq_or_lt_of_le (Nat.le_of_lt_succ h2) with rfl | h3;omega;exact hz j h1 h3⟩⟩
   case mem=>rfl
   case s5=>rfl
  replace hc:=cB_ hc
  obtain rfl:k=16:=by omega
  have hws:=UP ha oo_ hz;refine go2 ?_;refine sQ (cU fdT dd_ rfl) rfl (sQ (gQ arT rfl rfl dd_ dd_) rfl (sQ (eM tyT rfl mm_ (rK (r:=a) (k:=1) (by rw [ha.len];decide))) rfl ?_));refine sQ (fW j6 HH rfl) rfl (go_ ?_);refine sQ (cU fdT dd_ rfl) rfl (sQ (gQ arT rfl rfl dd_ dd_) rfl (sQ (eM tyT rfl mm_ (rK (r:=a) (k:=0) (by rw [ha.len];decide))) rfl ?_));refine sQ (fW j6 HH rfl) rfl (sQ (aL (lE rfl rfl) (congrArg (Value.int .i64) ((UP ha oo_ hz).1))) rfl (go4 ?_));refine sQ (cU fdT dd_ rfl) rfl (sQ (eM tyT rfl mm_ rfl) rfl ?_);refine go_ ?_;refine aH _ rfl (fun hn=>?_) (fun hn=>?_)
  ·replace hn:=cB_ hn
   refine go7 ?_;refine l8 rfl (.inr rfl) rfl rfl ?_;exact cP_ hg hws.2 hn
  replace hn:=cB_ hn
  refine go7 ?_;refine l8 rfl (.inr rfl) rfl rfl ?_;exact cQ_ hg hws.2 hn
theorem cI (n:Int) (hn:I64 n) :
    Ret prog 95 [.int .i64 n] (RV (Z.of n).enc):=by
 refine bL (N:=35) func95 rfl rfl (by simp) (fun w0=>?_);simp only [bO,Nat.reduceAdd];unfold I64 at hn;refine go_ ?_;refine bD rfl (fP kN (fun b2 hb2=>go6 ?_));refine aH _ rfl (fun h0=>?_) (fun h0=>?_)
 ·replace h0:=cB_ h0
  obtain ⟨m,rfl⟩:∃ m:Nat,n=m:=⟨n.toNat,by omega⟩;refine go2 ?_;refine sQ (aL (rR rfl rfl dd_) (show _=IV (m % 65536) from TY _)) rfl (go_ ?_);refine sQ (aL (mG rfl rfl dd_) (O4 65536 oo_)) rfl (sQ (aL (rR rfl rfl dd_) (show _=IV (m / 65536 % 65536) from TY _)) rfl (go_ ?_));refine sQ (aL (mG rfl rfl dd_) (O4 4294967296 oo_)) rfl (sQ (aL (rR rfl rfl dd_) (show _=IV (m / 4294967296 % 65536) from TY _)) rfl (go_ ?_));refine sQ (aL (mG rfl rfl dd_) (O4 281474976710656 oo_)) rfl (bD rfl (lF jH z_3 rP rfl dd_ rfl (bd_ _ _ _ _) (fun b16 hb16=>sQ (bT aB rfl (fun w hw=>eS false _ (dl4 m) (a5_ oo_) (by simp [dl4]) w (SL.sl (SL.mine (l:=dl4 m) (.head _) (Nat.le_refl _)) hw))) rfl ?_)));refine bD rfl (cC tyT rfl rfl uu_ (aF _) rfl (bV _) (.inl (by assumption)) ?_);refine go2 ?_;refine bA rfl (.inr rfl) ⟨_,_,_,_,_,_,rfl,mm_,tyT,_,(eC (aF _)),(aF _),rfl⟩ ?_
  (rw [U6,wB];rfl)
 replace h0:=cB_ h0
 obtain ⟨m,rfl⟩:∃ m:Nat,n = -((m:Int)+1):=⟨(-n - 1).toNat,by omega⟩;refine go4 ?_;refine sQ (aL (b6_ rfl) (congrArg (Value.int .i64) (dO_ oo_))) rfl (go4 ?_);refine sQ (aL (rR rfl rfl dd_) (show _=IV (m % 65536) from TY _)) rfl (go_ ?_);refine sQ (aL (mG rfl rfl dd_) (O4 65536 oo_)) rfl (sQ (aL (rR rfl rfl dd_) (show _=IV (m / 65536 % 65536) from TY _)) rfl (go_ ?_));refine sQ (aL (mG rfl rfl dd_) (O4 4294967296 oo_)) rfl (sQ (aL (rR rfl rfl dd_) (show _=IV (m / 4294967296 % 65536) from TY _)) rfl (go_ ?_));refine sQ (aL (mG rfl rfl dd_) (O4 281474976710656 oo_)) rfl (bD rfl (lF jH z_3 rP rfl dd_ rfl (bd_ _ _ _ _) (fun b31 hb31=>bD rfl (lF jH z_3 rP rfl dd_ rfl (EU 1) (fun b32 hb32=>bD rfl (iJ aB rfl (fun w hw=>tW _ _ (dl4 m) [1] (a5_ oo_) (DL.one dd_) (by simp [dl4]) (by simp) w (SL.sl (SL.mine (l:=dl4 m) (.tail _ (.head _)) (Nat.le_refl _)) hw) (SL.sl (SL.mine (l:=[1]) (.head _) (Nat.le_refl _)) hw)) (fun v9 L9 h9=>?_)))))));refine sQ (bT aB rfl (fun w hw=>eS true _ _ (nC _) (Nat.le_trans (kK (k:=64) (by rw [U6];simp only [dv];omega)) dd_) w (SL.sl (h9.sl.sub lZ) hw))) rfl (bD rfl (cC tyT rfl rfl uu_ (aF _) rfl (bV _) (.inl (by assumption)) ?_));refine go2 ?_;refine bA rfl (.inr rfl) ⟨_,_,_,_,_,_,rfl,mm_,tyT,_,(eC (aF _)),(aF _),rfl⟩ ?_
 (rw [jI,U6];simp only [dv,Nat.mul_zero,Nat.add_zero];rw [hQ_];rfl)
end Go.Proofs.YtkjjponijamaoaaGreatDoor
namespace Go.Num
open Go Go.Kn
theorem CZ (a:I):qO a=E (Z.neg a.dec):=by
  unfold qO
  show _=E (Z.neg a.1.dec)
  cases h:a.1.good
  · rw [cond_false,Z.neg,CC (JN h)]
  rw [cond_true,f5_ a.2 h]
theorem CV (a:I):qN a=E (Z.abs a.dec):=by
  unfold qN
  show _=E (Z.abs a.1.dec)
  cases h:a.1.good
  · rw [cond_false,Z.abs,CC (JN h)]
  rw [cond_true,fo_ a.2 h]
theorem fW_ (n:Nat):((((dl n).length:Nat):Int)==0)=(n==0):=by
  rw [Bool.eq_iff_iff,beq_iff_eq,beq_iff_eq]
  constructor
  · intro h;exact P6.1 oo_
  intro h;rw [P6.2 h];rfl
theorem BV (a:I):nZ a=Z.signW a.dec:=by
  unfold nZ;rw [fW_]
  apply Subtype.ext
  show _=a.1.dec.sign
  cases hg:a.1.good
  · simp only [Bool.not_false,Bool.true_or,cond_true];exact FY a.2 (.inl hg)
  · cases hz:(val a.1.w==0)
    · simp only [Bool.not_true,Bool.false_or,cond_false]
      rw [d9_ a.2 hg (by simpa using hz)]
      cases a.1.neg <;> rfl
    simp only [Bool.or_true,cond_true];exact FY a.2 (.inr hz)
theorem C0 (a b:I):nG a b=E (Z.quo a.dec b.dec):=by
  unfold nG;rw [fW_]
  show _=E (Z.quo a.1.dec b.1.dec)
  cases hw:(kI a.1&&(kI b.1&&((fI b).1 != 0)))
  · rw [cond_false]
    cases hg:(!a.1.good||(!b.1.good||(val b.1.w==0)))
    · rw [cond_false]
      simp only [Bool.or_eq_false_iff,Bool.not_eq_false',beq_eq_false_iff_ne] at hg;obtain ⟨ga,gb,h0⟩:=hg
      cases hc:((a.1.neg != b.1.neg)&&decide ((0:Int)<(((dl (val a.1.w % val b.1.w)).length:Nat):Int)))
      · rw [cond_false,gj_ a.2 b.2 ga gb h0]
        rw [Bool.and_eq_false_iff] at hc;rcases hc with hc | hc
        · exact .inl (by simpa using hc)
        right
        have:=of_decide_eq_false hc;exact P6.1 oo_
      rw [cond_true,dW_ a.2 b.2 ga gb h0]
      · rw [Bool.and_eq_true] at hc;simpa using hc.1
      rw [Bool.and_eq_true] at hc;have:=of_decide_eq_true hc.2;intro h;rw [h,uQ] at this;exact absurd this dd_
    rw [cond_true]
    cases ga:a.1.good
    · rw [eR_ (.inl ga)]
    · cases gb:b.1.good
      · rw [eR_ (.inr gb)]
      rw [ga,gb] at hg;rw [hG_ a.2 b.2 ga gb (by simpa using hg)]
  rw [cond_true];have hf:=QK hw;rw [Bool.and_eq_true,Bool.and_eq_true] at hw;rw [← hf.2.2];exact congrArg E (ZT a.2 b.2 hw.1 hw.2.1 hf.2.1)
end Go.Num
