/- Lemmas: what they ask stands in their statements. -/
import Derived.Test.YtbjlhfochebmiaaGreatDoorXGE
set_option linter.unusedSimpArgs false
set_option linter.unusedVariables false
set_option maxHeartbeats 8000000
set_option maxRecDepth 20000
namespace Go.Proofs.YtbjlhfochebmiaaGreatDoor
open Go.Kn Go.Num
attribute [local irreducible] Go.Kn.W WL PL OpQ OpR OpS
theorem dW (va:Value) (l:List Nat) (k:Nat) (w:World) (hva:Sl w va l) :
    Calls Tryz.prog 182 [va,.int .i64 (k:Int)].toArray w (fun e w'=>e = .returned (.int .i64 ((l.getD k 0:Nat):Int))∧Ext w w'):=by
 refine cX (N:=13) Tryz.func182 rfl rfl (by simp) ?_;obtain ⟨w0,rfl⟩:∃ w0,w0=w:=⟨_,rfl⟩;simp only [bA,Nat.reduceAdd];refine go7 ?_;refine sQ (jI fL rfl hva.old) rfl (go2 ?_);refine aK _ rfl (fun hk=>?_) (fun hk=>?_)
 ·replace hk:=cB_ hk
  refine go3 ?_;refine sQ (vB fL rfl rfl hva.old oo_) rfl (sQ (rG tyT rfl hva.old oo_) rfl (go3 ?_));refine aS rfl (.inr rfl) rfl ?_;exact rfl
 replace hk:=cB_ hk
 refine go5 ?_;refine aS rfl (.inr rfl) rfl ?_;exact congrArg (fun n:Nat=>Value.int .i64 (n:Int)) (show 0=l.getD k 0 by simp [List.getD,List.getElem?_eq_none (show l.length≤k by omega)])

theorem fJ (va:Value) (l:List Nat) (hD:DL l) (hn:l.length≤1000) (w:World) (hva:Sl w va l) :
    Calls Tryz.prog 181 [va].toArray w (fun e w'=>e = .returned (sls va (dl (dv l)).length)∧Ext w w'):=by
 refine cX (N:=21) Tryz.func181 rfl rfl (by simp) ?_;obtain ⟨w0,rfl⟩:∃ w0,w0=w:=⟨_,rfl⟩;simp only [bA,Nat.reduceAdd];refine go5 ?_;refine sQ (jI fL rfl hva.old) rfl (go4 ?_);refine cC [3,6,7,8,9,10,11,12,13,14,15,16,17] (fun g nn M=>∃ (k:Nat),(g 3 = .int .i64 (k:Int))∧M=[]∧nn=k+0∧(k≤l.length∧∀ j,k≤j→l.getD j 0=0)) (l.length) ?start ?round
 case start =>
  refine ⟨_,(List.Sublist.refl _),l.length,?a3,?mem0,rfl,⟨Nat.le_refl _,fun j hj=>by simp [List.getD,List.getElem?_eq_none (show l.length≤j by omega)]⟩⟩
  case mem0=>rfl
  case a3=>rfl
 case round =>
  rintro nn g M ⟨k,hg3,rfl,hmeas,⟨hk,hhi⟩⟩;subst nn;simp only [eJ,hg3];clear hg3;refine go5 ?_
  cases hz:decide ((0:Int)<(k:Int))
  ·refine G3 ?_;refine sQ (S6 fL rfl rfl hva.old oo_) rfl (go3 ?_);refine aS rfl (.inr rfl) rfl ?_;rw [EB hD,HW hhi (.inl (by have:=of_decide_eq_false hz;omega))]
  have hz':=of_decide_eq_true hz;obtain ⟨m,rfl⟩:∃ m,k=m+1:=⟨k - 1,by omega⟩;refine go2 ?_;refine sQ (aI (kM rfl rfl) (congrArg (Value.int .i64) (uK oo_))) rfl (sQ (vB fL rfl rfl hva.old oo_) rfl (sQ (rG tyT rfl hva.old oo_) rfl (go3 ?_)));refine aK _ rfl (fun h0=>?_) (fun h0=>?_)
  ·replace h0:=cB_ h0
   refine go4 ?_;refine sQ (aI (kM rfl rfl) (congrArg (Value.int .i64) (uK oo_))) rfl (go2 ?_);refine ⟨pp_,_,_,(List.Sublist.refl _),oo_,m,?s3,?mem,rfl,⟨by omega,fun j hj=>by rcases Nat.eq_or_lt_of_le hj with rfl | hj;omega;exact hhi j hj⟩⟩
   case mem=>rfl
   case s3=>rfl
  replace h0:=cB_ h0
  refine go4 ?_;refine sQ (S6 fL rfl rfl hva.old oo_) rfl (go3 ?_);refine aS rfl (.inr rfl) rfl ?_;rw [EB hD,HW hhi (.inr (by simp only [Nat.add_sub_cancel];omega))]

theorem bM (a:R) (ha:a.Ok) (w:World)  :
    Calls Tryz.prog 114 [RV a].toArray w (fun e w'=>∃ v,e = .returned v∧Ext w w'∧Slf w.heap.size w' v (dl (val a.w))):=by
 refine rA (N:=26) Tryz.func114 rfl rfl (by simp) ?_;obtain ⟨w0,rfl⟩:∃ w0,w0=w:=⟨_,rfl⟩;simp only [bA,Nat.reduceAdd];refine go_ ?_;refine aU rfl (fV rfl rfl (fun b1 hb1=>iE ?_));refine cC [3,4,5,6,7,8,9,10,11,12,13,14,15,16,17,18,19,20,21,22,23] (fun g nn M=>∃ (k:Nat) (v:Value) (l:List Nat) (L:List Blk),(g 3=v∧g 4 = .int .i64 (k:Int))∧M=L ++ [⟨b1,33,a.cells⟩]∧nn=16 - k∧(k≤16∧OwnL w0 3 v l L∧DL l∧l.length=2 * k∧dv l=val a.w % 4294967296 ^ k)) (16) ?start ?round
 case start =>
  refine ⟨_,(List.Sublist.refl _),0,_,[],[],⟨?a3,?a4⟩,?mem0,rfl,⟨Nat.zero_le _,.nil,DL.nil,rfl,by simp [dv,Nat.mod_one]⟩⟩
  case mem0=>rfl
  case a3=>rfl
  case a4=>rfl
 case round =>
  rintro nn g M ⟨k,v,l,L,⟨hg3,hg4⟩,rfl,hmeas,⟨hk,hO,hD,hlen,hdv⟩⟩;subst nn;simp only [eJ,hg3,hg4];clear hg3 hg4;refine go5 ?_;refine aK _ rfl (fun hc=>?_) (fun hc=>?_)
  ·replace hc:=cB_ hc
   have hc:k<16:=by omega
   refine go3 ?_;refine gdr sn [0,4,8,12,16,20,24,28,32,36,40,44,48,53,57,60] [14] mix (by kernel_rfl) (go2 ?_);refine pQ rfl (bB fdT dd_ rfl) (pQ rfl (cU arT rfl rfl oo_ oo_) (pQ rfl (cA tyT rfl mm_ (j8 (r:=a) (k:=k) (by rw [ha.len];omega))) ?_));refine pQ rfl (nD rfl rfl dd_) (pQ rfl (aI (cP d9 AK rfl) (cd_ (cF ha.lim k))) (go_ ?_));refine pQ rfl (bB fdT dd_ rfl) (pQ rfl (cU arT rfl rfl oo_ oo_) (pQ rfl (cA tyT rfl mm_ (j8 (r:=a) (k:=k) (by rw [ha.len];omega))) ?_));refine pQ rfl (f8 rfl rfl dd_) (pQ rfl (aI (cP d9 AK rfl) (b9_ (cF ha.lim k))) ?_);refine cS rfl rfl (fA fW z_3 lE rfl dd_ rfl (Z8 _ _) (fun b22 hb22=>⟨(fun _=>by first | exact sd s0 | exact s0),ss_,?_⟩));refine cS rfl rfl (w6 fW MA rfl rfl hO (SL.mine (l:=[a.w.getD k 0 % 65536,a.w.getD k 0 / 65536]) (.head _) (Nat.le_refl _)) (List.sublist_cons_self _ _) (by simp;omega) (fun v' L' hO'=>⟨nf,ss_,?_⟩));refine go4 ?_;refine sQ (aI (e9 rfl rfl) (congrArg (Value.int .i64) (gA oo_))) rfl (go2 ?_);refine ⟨pp_,_,_,(List.Sublist.refl _),oo_,k+1,_,_,_,⟨?s3,?s4⟩,?mem,rfl,⟨by omega,hO',hD.append (DL.two (cF ha.lim k)),by simp [hlen];omega,IJ ha.lim hlen hdv⟩⟩
   case mem=>rfl
   case s3=>rfl
   case s4=>rfl
  replace hc:=cB_ hc
  obtain rfl:k=16:=by omega
  refine go3 ?_;refine sQ (bR yQ rfl (fun w hw=>fJ v l hD oo_ w (SL.sl (hO.sl lZ) hw))) rfl (go3 ?_);refine aS rfl (.inr rfl) rfl ?_;exact rS hD (by rw [hdv,KZ ha]) (hO.slf lZ)

theorem dE  :
    Ret Tryz.prog 162 [] (RV Z.bad.enc):=by
 refine aW (N:=2) Tryz.func162 rfl rfl (by simp) (fun w0=>?_);simp only [bA,Nat.reduceAdd];refine go_ ?_;refine aU rfl (cM i2 (fun b0 hb0=>go2 ?_));refine sQ (sD i2 plT rfl (.cons rfl (vs:=[.bool true]) rfl rfl (by simp [zR]) (z':=Z.bad.enc.cells) rfl (.nil _))) rfl ?_;refine aU rfl (aX tyT rfl rfl uu_ rfl rfl (aV Z.bad.enc) (.inl (by assumption)) ?_);refine go2 ?_;refine aS rfl (.inr rfl) ⟨_,_,_,_,_,_,rfl,mm_,tyT,_,(bX rfl),rfl,rfl⟩ ?_;exact rfl

theorem oJ (r:R) (h:r.Ok) :
    Ret Tryz.prog 175 [RV r] (.bool r.valid):=by
 refine aW (N:=32) Tryz.func175 rfl rfl (by simp) (fun w0=>?_);simp only [bA,Nat.reduceAdd];refine go_ ?_;refine aU rfl (fV rfl rfl (fun b1 hb1=>iE ?_));refine cC [3,4,5,6,7,8,9,10,11,12,13,14,15,16] (fun g nn M=>∃ (k:Nat) (z:Bool),(g 3 = .bool z∧g 4 = .int .i64 (k:Int))∧M=[⟨b1,33,r.cells⟩]∧nn=16 - k∧(k≤16∧(z=true ↔ ∀ j,j<k→r.w.getD j 0=0))) (16) ?start ?round
 case start =>
  refine ⟨_,(List.Sublist.refl _),0,true,⟨?a3,?a4⟩,?mem0,rfl,⟨Nat.zero_le _,⟨fun _ j hj=>by omega,fun _=>rfl⟩⟩⟩
  case mem0=>rfl
  case a3=>rfl
  case a4=>rfl
 case round =>
  rintro nn g M ⟨k,z,⟨hg3,hg4⟩,rfl,hmeas,⟨hk,hz⟩⟩;subst nn;simp only [eJ,hg3,hg4];clear hg3 hg4;refine go5 ?_;refine aK _ rfl (fun hc=>?_) (fun hc=>?_)
  ·replace hc:=cB_ hc
   have hc:k<16:=by omega
   refine go6 ?_
   cases z
   ·refine iE ?_;refine sQ (aI (e9 rfl rfl) (congrArg (Value.int .i64) (gA oo_))) rfl (go2 ?_);refine ⟨pp_,_,_,(List.Sublist.refl _),oo_,k+1,?zz_1,⟨?s3,?s4⟩,?mem,rfl,⟨by omega,?inv_1⟩⟩
    case mem=>rfl
    case s3=>rfl
    case s4=>rfl
    first | exact KH hz | exact OJ hz
   refine go_ ?_;refine sQ (bB fdT dd_ rfl) rfl (sQ (cU arT rfl rfl oo_ oo_) rfl (sQ (cA tyT rfl mm_ (j8 (r:=r) (k:=k) (by rw [h.len];omega))) rfl ?_));refine go6 ?_;refine sQ (aI (e9 rfl rfl) (congrArg (Value.int .i64) (gA oo_))) rfl (go2 ?_);refine ⟨pp_,_,_,(List.Sublist.refl _),oo_,k+1,?zz_2,⟨?s3,?s4⟩,?mem,rfl,⟨by omega,?inv_2⟩⟩
   case mem=>rfl
   case s3=>rfl
   case s4=>rfl
   first | exact KH hz | exact OJ hz
  replace hc:=cB_ hc
  obtain rfl:k=16:=by omega
  obtain rfl:z=r.zero:=WR h hz;refine go3 ?_;refine sQ (bB fdT dd_ rfl) rfl (sQ (cA tyT rfl mm_ rfl) rfl ?_);refine go_ ?_;refine aK _ rfl (fun hb=>?_) (fun hb=>?_)
  ·replace hb:=cB_ hb
   refine go3 ?_
   cases hz0:r.zero
   ·refine go7 ?_;refine aS rfl (.inr rfl) rfl ?_
    simp [R.valid, *]
   refine sQ (bB fdT dd_ rfl) rfl (sQ (cA tyT rfl mm_ rfl) rfl ?_);refine go5 ?_;refine aS rfl (.inr rfl) rfl ?_
   simp [R.valid, *]
  replace hb:=cB_ hb
  refine go5 ?_
  cases hz0:r.zero
  ·refine go7 ?_;refine aS rfl (.inr rfl) rfl ?_
   simp [R.valid, *]
  refine sQ (bB fdT dd_ rfl) rfl (sQ (cA tyT rfl mm_ rfl) rfl ?_);refine go5 ?_;refine aS rfl (.inr rfl) rfl ?_
  simp [R.valid, *]

theorem bL (r:R) (h:r.Ok) :
    Ret Tryz.prog 105 [RV r] (.bool r.good):=by
 refine aW (N:=12) Tryz.func105 rfl rfl (by simp) (fun w0=>?_);simp only [bA,Nat.reduceAdd];refine go_ ?_;refine aU rfl (fV rfl rfl (fun b1 hb1=>go3 ?_));refine sQ (bE tyT rfl mm_ (bG h)) rfl ?_;refine sQ (aZ RE (oJ r h) rfl) rfl (go5 ?_)
 cases hv:r.valid
 ·refine go7 ?_;refine aS rfl (.inr rfl) rfl ?_
  simp [R.good, *]
 refine sQ (bB fdT dd_ rfl) rfl (sQ (cA tyT rfl mm_ rfl) rfl ?_);refine go5 ?_;refine aS rfl (.inr rfl) rfl ?_
 simp [R.good, *]

theorem dG (neg:Bool) (va:Value) (l:List Nat) (hD:DL l) (hn:l.length≤1000) (w:World) (hva:Sl w va l) :
    Calls Tryz.prog 149 [.bool neg,va].toArray w (fun e w'=>e = .returned (RV (Z.of (sgn neg (dv l))).enc)∧Ext w w'):=by
 refine cX (N:=62) Tryz.func149 rfl rfl (by simp) ?_;obtain ⟨w0,rfl⟩:∃ w0,w0=w:=⟨_,rfl⟩;simp only [bA,Nat.reduceAdd];have hu0:∀ M,SL w0 [] M (sls va (dl (dv l)).length) (dl (dv l)):=fun M=>TW hD hva.old;refine go_ ?_;refine aU rfl (cM i2 (fun b4 hb4=>go3 ?_));refine sQ (bR yQ rfl (fun w hw=>fJ va l hD hn w (SL.sl (M:=_) hva.old hw))) rfl (go5 ?_);refine sQ (jI fL rfl (hu0 _)) rfl (go2 ?_);refine aK _ rfl (fun hbig=>?_) (fun hbig=>?_)
 ·replace hbig:=cB_ hbig
  refine go_ ?_;refine sQ (aZ qR (dE) rfl) rfl (aU rfl (aX tyT rfl rfl uu_ (aC _) rfl (aV _) (.inl (by assumption)) ?_));refine go2 ?_;refine aS rfl (.inr rfl) ⟨_,_,_,_,_,_,rfl,mm_,tyT,_,(bX (aC _)),(aC _),rfl⟩ ?_;exact LZ oo_
 replace hbig:=cB_ hbig
 have hlen:(dl (dv l)).length≤32:=by omega
 refine go_ ?_;refine tC [6,14,15,16,17,18,19,20] (fun g M=>∃ (b6:Nat),(g 6 = .pointer (some ⟨b6,0,none⟩))∧M=⟨b6,33,R.cells (R.mk false (neg&&decide ((0:Int)<((dl (dv l)).length:Int))) (List.replicate 16 0))⟩ :: [⟨b4,33,zR⟩]∧(w0.heap.size≤b6)) (fun K6 J6=>?_) ?_
 ·refine go3 ?_
  cases neg
  ·refine go4 ?_;refine sQ (sD i2 plT rfl (RU _)) rfl (aU rfl (cM i2 (fun b6 hb6=>aU rfl (aX tyT rfl rfl uu_ (by simp [R.cells,d8]) rfl (aV _) (.inl (by assumption)) ?_))));refine go_ ?_;refine J6 _ _ pp_ ⟨_,(List.Sublist.refl _),_,?s6,?mem,hb6⟩
   case mem=>rfl
   case s6=>rfl
  refine go_ ?_;refine sQ (jI fL rfl (hu0 _)) rfl (go2 ?_);refine sQ (sD i2 plT rfl (RU _)) rfl (aU rfl (cM i2 (fun b6 hb6=>aU rfl (aX tyT rfl rfl uu_ (by simp [R.cells,d8]) rfl (aV _) (.inl (by assumption)) ?_))));refine go_ ?_;refine J6 _ _ pp_ ⟨_,(List.Sublist.refl _),_,?s6,?mem,hb6⟩
  case mem=>rfl
  case s6=>rfl
 rintro g M ⟨b6,hg6,rfl,hb6⟩;simp only [eJ,hg6];clear hg6;refine go5 ?_;refine cC [7,21,22,23,24,25,26,27,28,29,30,31,32,33,34,35,36,37,38,39,40,41,42,43,44,45,46,47,48,49,50,51,52,53,54,55,56,57,58,59,60] (fun g nn M=>∃ (k:Nat) (ws:List Nat),(g 7 = .int .i64 (k:Int))∧M=⟨b6,33,R.cells (R.mk false (neg&&decide ((0:Int)<((dl (dv l)).length:Int))) ws)⟩ :: [⟨b4,33,zR⟩]∧nn=(dl (dv l)).length - k∧(k≤(dl (dv l)).length∧NumIn (dv l) k ws)) ((dl (dv l)).length - 0) ?start ?round
 case start =>
  refine ⟨_,(List.Sublist.refl _),0,_,?a7,?mem0,rfl,⟨Nat.zero_le _,NumIn.start _⟩⟩
  case mem0=>rfl
  case a7=>rfl
 case round =>
  rintro nn g M ⟨k,ws,hg7,rfl,hmeas,⟨hk,hI⟩⟩;subst nn;simp only [eJ,hg7];clear hg7;refine go4 ?_;refine sQ (jI fL rfl (hu0 _)) rfl (go2 ?_);refine aK _ rfl (fun hc=>?_) (fun hc=>?_)
  ·replace hc:=cB_ hc
   have hk32:k<32:=by omega
   refine go5 ?_;refine sQ (aI (nD rfl rfl dd_) (congrArg (Value.int .i64) (dg_ k))) rfl (go2 ?_);refine aK _ rfl (fun hpar=>?_) (fun hpar=>?_)
   ·replace hpar:=cB_ hpar
    have hpar:k % 2=0:=by omega
    have hz:=(hI.even hpar hk32).2;refine gdr (sd (sk (s0))) [0,4,8,12,16,20,24,28,32,36,40,44,48,52,56,61] [15] mix (by kernel_rfl) (go_ ?_);refine pQ rfl (aI (f8 rfl rfl dd_) (congrArg (Value.int .i64) (VX k oo_))) (go_ ?_);refine pQ rfl (aI (f8 rfl rfl dd_) (congrArg (Value.int .i64) (VX k oo_))) (pQ rfl (bB fdT dd_ rfl) (pQ rfl (cU arT rfl rfl oo_ oo_) (pQ rfl (cA tyT rfl mm_ (j8 (r:=R.mk false (neg&&decide ((0:Int)<((dl (dv l)).length:Int))) ws) (k:=k / 2) (by simp only [hI.len];omega))) ?_)));refine go2 ?_;refine pQ rfl (vB fL rfl rfl (hu0 _) oo_) (pQ rfl (rG tyT rfl (hu0 _) oo_) (pQ rfl (cP AK d9 rfl) (pQ rfl (aI (e9 rfl rfl) (show _=U32 (dg (dv l) k) by rw [(hI.even hpar hk32).1,xH];exact P8 (kB _ _))) (pQ rfl (bB fdT dd_ rfl) (pQ rfl (cU arT rfl rfl oo_ oo_) ?_)))));refine cS rfl rfl (JM (k:=k / 2) tyT rfl rfl uu_ (by rw [hI.len];omega) (.inl (by assumption)) ⟨nf,ss_,?_⟩);refine go3 ?_;refine sQ (aI (e9 rfl rfl) (congrArg (Value.int .i64) (gA oo_))) rfl (go2 ?_);refine ⟨pp_,_,_,(List.Sublist.refl _),oo_,k+1,_,?s7,?mem,rfl,⟨by omega,hz⟩⟩
    case mem=>rfl
    case s7=>rfl
   replace hpar:=cB_ hpar
   have hpar:¬ k % 2=0:=by omega
   have hz:=(hI.odd hpar hk32).2;refine gdr (sd (sk (s0))) [0,4,8,12,16,20,24,28,32,36,40,44,48,52,56,60,65] [16] mix (by kernel_rfl) (go_ ?_);refine pQ rfl (aI (f8 rfl rfl dd_) (congrArg (Value.int .i64) (VX k oo_))) (go_ ?_);refine pQ rfl (aI (f8 rfl rfl dd_) (congrArg (Value.int .i64) (VX k oo_))) (pQ rfl (bB fdT dd_ rfl) (pQ rfl (cU arT rfl rfl oo_ oo_) (pQ rfl (cA tyT rfl mm_ (j8 (r:=R.mk false (neg&&decide ((0:Int)<((dl (dv l)).length:Int))) ws) (k:=k / 2) (by simp only [hI.len];omega))) ?_)));refine go2 ?_;refine pQ rfl (vB fL rfl rfl (hu0 _) oo_) (pQ rfl (rG tyT rfl (hu0 _) oo_) (pQ rfl (cP AK d9 rfl) (go_ ?_)));refine pQ rfl (aI (e9 rfl rfl) (show _=U32 (ws.getD (k / 2) 0+dg (dv l) k * 65536) by rw [xH];exact UO (hI.odd hpar hk32).1 (kB _ _))) (pQ rfl (bB fdT dd_ rfl) (pQ rfl (cU arT rfl rfl oo_ oo_) ?_));refine cS rfl rfl (JM (k:=k / 2) tyT rfl rfl uu_ (by rw [hI.len];omega) (.inl (by assumption)) ⟨nf,ss_,?_⟩);refine go3 ?_;refine sQ (aI (e9 rfl rfl) (congrArg (Value.int .i64) (gA oo_))) rfl (go2 ?_);refine ⟨pp_,_,_,(List.Sublist.refl _),oo_,k+1,_,?s7,?mem,rfl,⟨by omega,hz⟩⟩
   case mem=>rfl
   case s7=>rfl
  replace hc:=cB_ hc
  obtain rfl:k=(dl (dv l)).length:=by omega
  refine go2 ?_;refine sQ (bE tyT rfl mm_ (by simp [R.cells,d8,hI.len])) rfl ?_;refine aU rfl (aX tyT rfl rfl uu_ (by simp [R.cells,d8,hI.len]) rfl (aV _) (.inl (by assumption)) ?_);refine go2 ?_;refine aS rfl (.inr rfl) ⟨_,_,_,_,_,_,rfl,mm_,tyT,_,(bX (by simp [R.cells,d8,hI.len])),(by simp [R.cells,d8,hI.len]),rfl⟩ ?_;exact L0 hI
theorem pA (va vb:Value) (la lb:List Nat) (hDa:DL la) (hDb:DL lb) (hna:la.length≤200) (hnb:lb.length≤200) (w:World) (hva:Sl w va la) (hvb:Sl w vb lb) :
    Calls Tryz.prog 150 [va,vb].toArray w (fun e w'=>∃ v,e = .returned v∧Ext w w'∧Slf w.heap.size w' v (dl (dv la+dv lb))):=by
 refine rA (N:=37) Tryz.func150 rfl rfl (by simp) ?_;obtain ⟨w0,rfl⟩:∃ w0,w0=w:=⟨_,rfl⟩;simp only [bA,Nat.reduceAdd];refine yU ?_;refine cC [5,6,7,8,9,10,11,12,13,14,15,16,17,18,19,20,21,22,23,24,25,26,27,28,29,30,31,32,33,34] (fun g nn M=>∃ (k:Nat) (v:Value) (l:List Nat) (L:List Blk),(g 5=v∧g 6 = .int .i64 ((cD (dv la) (dv lb) k:Nat):Int)∧g 7 = .int .i64 (k:Int))∧M=L ++ []∧nn=max la.length lb.length+1 - k∧(k≤max la.length lb.length+1∧OwnL w0 3 v l L∧DL l∧l.length=k∧dv l=(dv la+dv lb) % 65536 ^ k)) (max la.length lb.length+1 - 0) ?start ?round
 case start =>
  refine ⟨_,(List.Sublist.refl _),0,_,[],[],⟨?a5,?a6,?a7⟩,?mem0,rfl,⟨Nat.zero_le _,.nil,DL.nil,rfl,by simp [dv,Nat.mod_one]⟩⟩
  case mem0=>rfl
  case a5=>rfl
  case a6=>rw [UY];rfl
  case a7=>rfl
 case round =>
  rintro nn g M ⟨k,v,l,L,⟨hg5,hg6,hg7⟩,rfl,hmeas,⟨hk,hO,hD,hlen,hdv⟩⟩;subst nn;simp only [eJ,hg5,hg6,hg7];clear hg5 hg6 hg7;refine go4 ?_;refine sQ (jI fL rfl hva.old) rfl (go_ ?_);refine sQ (jI fL rfl hvb.old) rfl (sQ (S2 rfl rfl) rfl (sQ (aI (e9 rfl rfl) (congrArg (Value.int .i64) (gA oo_))) rfl (go2 ?_)));refine aK _ rfl (fun hc=>?_) (fun hc=>?_)
  ·replace hc:=cB_ hc
   have hc:k<max la.length lb.length+1:=by omega
   refine go6 ?_;refine sQ (bR u7 rfl (fun w hw=>dW va la k w (SL.sl (M:=_) hva.old hw))) rfl (go2 ?_);refine sQ (bR u7 rfl (fun w hw=>dW vb lb k w (SL.sl (M:=_) hvb.old hw))) rfl (go2 ?_);refine sQ (aI (e9 rfl rfl) (congrArg (Value.int .i64) ((show _=((cD (dv la) (dv lb) k+dg (dv la) k+dg (dv lb) k:Nat):Int) by rw [lR la k hDa,lR lb k hDb];exact cX_ (kB _ _) (kB _ _) (WZ _ _ _))))) rfl (go5 ?_);refine sQ (aI (nD rfl rfl dd_) (JP _)) rfl (aU rfl (fA fW z_3 lE rfl dd_ rfl (wS _) (fun b31 hb31=>aU rfl (w6 fW MA rfl rfl hO (SL.mine (l:=[(cD (dv la) (dv lb) k+dg (dv la) k+dg (dv lb) k) % 65536]) (.head _) (Nat.le_refl _)) (List.sublist_cons_self _ _) (by simp;omega) (fun v' L' hO'=>?_)))));refine go4 ?_;refine sQ (aI (f8 rfl rfl dd_) (congrArg (Value.int .i64) (ca_ (by have:=WZ (dv la) (dv lb) k;have:=kB (dv la) k;have:=kB (dv lb) k;omega)))) rfl (go4 ?_);refine sQ (aI (e9 rfl rfl) (congrArg (Value.int .i64) (gA oo_))) rfl (go2 ?_);refine ⟨pp_,_,_,(List.Sublist.refl _),oo_,k+1,_,_,_,⟨?s5,?s6,?s7⟩,?mem,rfl,⟨by omega,hO',hD.append (DL.one (Nat.mod_lt _ dd_)),by simp [hlen],MF hlen hdv⟩⟩
   case mem=>rfl
   case s5=>rfl
   case s6=>rw [← JF];rfl
   case s7=>rfl
  replace hc:=cB_ hc
  obtain rfl:k=max la.length lb.length+1:=by omega
  refine go3 ?_;refine sQ (bR yQ rfl (fun w hw=>fJ v l hD oo_ w (SL.sl (hO.sl lZ) hw))) rfl (go3 ?_);refine aS rfl (.inr rfl) rfl ?_;exact rS hD (by rw [hdv,PD hDa hDb]) (hO.slf lZ)

theorem lC (va vb:Value) (la lb:List Nat) (hDa:DL la) (hDb:DL lb) (hna:la.length≤200) (hnb:lb.length≤200) (hle:dv lb≤dv la) (w:World) (hva:Sl w va la) (hvb:Sl w vb lb) :
    Calls Tryz.prog 180 [va,vb].toArray w (fun e w'=>∃ v,e = .returned v∧Ext w w'∧Slf w.heap.size w' v (dl (dv la - dv lb))):=by
 refine rA (N:=35) Tryz.func180 rfl rfl (by simp) ?_;obtain ⟨w0,rfl⟩:∃ w0,w0=w:=⟨_,rfl⟩;simp only [bA,Nat.reduceAdd];refine yU ?_;refine cC [5,6,7,8,9,10,11,12,13,14,15,16,17,18,19,20,21,22,23,24,25,26,27,28,29,30,31,32] (fun g nn M=>∃ (k:Nat) (v:Value) (l:List Nat) (L:List Blk) (c:Nat),(g 5=v∧g 6 = .int .i64 (c:Int)∧g 7 = .int .i64 (k:Int))∧M=L ++ []∧nn=la.length - k∧(k≤la.length∧OwnL w0 3 v l L∧DL l∧l.length=k∧c≤1∧dv l+dv lb % 65536 ^ k=dv la % 65536 ^ k+c * 65536 ^ k)) (la.length - 0) ?start ?round
 case start =>
  refine ⟨_,(List.Sublist.refl _),0,_,[],[],0,⟨?a5,?a6,?a7⟩,?mem0,rfl,⟨Nat.zero_le _,.nil,DL.nil,rfl,by decide,by simp [dv,Nat.mod_one]⟩⟩
  case mem0=>rfl
  case a5=>rfl
  case a6=>rfl
  case a7=>rfl
 case round =>
  rintro nn g M ⟨k,v,l,L,c,⟨hg5,hg6,hg7⟩,rfl,hmeas,⟨hk,hO,hD,hlen,hcb,hdv⟩⟩;subst nn;simp only [eJ,hg5,hg6,hg7];clear hg5 hg6 hg7;refine go4 ?_;refine sQ (jI fL rfl hva.old) rfl (go2 ?_);refine aK _ rfl (fun hc=>?_) (fun hc=>?_)
  ·replace hc:=cB_ hc
   have hc:k<la.length:=by omega
   refine go4 ?_;refine gdr sn [0,4,8,12,16,20,24,28,32,36,40] [] mix (by kernel_rfl) (go2 ?_);refine pQ rfl (vB fL rfl rfl hva.old oo_) (pQ rfl (rG tyT rfl hva.old oo_) (go2 ?_));refine pQ rfl (bR u7 rfl (fun w hw=>dW vb lb k w (SL.sl (M:=_) hvb.old hw))) (go2 ?_);refine pQ rfl (aI (kM rfl rfl) (congrArg (Value.int .i64) ((show _=((dg (dv la) k:Nat):Int) - ((dg (dv lb) k:Nat):Int) - (c:Int) by rw [lR la k hDa,lR lb k hDb];exact dk_ (kB _ _) (kB _ _) hcb)))) (iE ?_);refine aK _ rfl (fun h26=>?_) (fun h26=>?_)
   ·replace h26:=cB_ h26
    refine iE ?_;refine sQ (aI (gE rfl) (show _=IV (md (dg (dv la) k) (dg (dv lb) k) c) by first | exact SK (kB _ _) (kB _ _) hcb h26 | exact SM h26)) rfl ?_;refine aU rfl (fA fW z_3 lE rfl dd_ rfl (wS _) (fun b31 hb31=>aU rfl (w6 fW MA rfl rfl hO (SL.mine (l:=[md (dg (dv la) k) (dg (dv lb) k) c]) (.head _) (Nat.le_refl _)) (List.sublist_cons_self _ _) (by simp;omega) (fun v' L' hO'=>?_))));refine go4 ?_;refine sQ (aI (e9 rfl rfl) (congrArg (Value.int .i64) (gA oo_))) rfl (go2 ?_);refine ⟨pp_,_,_,(List.Sublist.refl _),oo_,k+1,_,_,_,mb (dg (dv la) k) (dg (dv lb) k) c,⟨?s5,?s6,?s7⟩,?mem,rfl,⟨by omega,hO',hD.append (DL.one (XF (kB _ _) (kB _ _) hcb)),by simp [hlen],XD _ _ _,BA hlen hcb hdv⟩⟩
    case mem=>rfl
    case s5=>rfl
    case s6=>first | exact SG h26 | exact SH h26
    case s7=>rfl
   replace h26:=cB_ h26
   refine go3 ?_;refine sQ (aI (gE rfl) (show _=IV (md (dg (dv la) k) (dg (dv lb) k) c) by first | exact SK (kB _ _) (kB _ _) hcb h26 | exact SM h26)) rfl ?_;refine aU rfl (fA fW z_3 lE rfl dd_ rfl (wS _) (fun b31 hb31=>aU rfl (w6 fW MA rfl rfl hO (SL.mine (l:=[md (dg (dv la) k) (dg (dv lb) k) c]) (.head _) (Nat.le_refl _)) (List.sublist_cons_self _ _) (by simp;omega) (fun v' L' hO'=>?_))));refine go4 ?_;refine sQ (aI (e9 rfl rfl) (congrArg (Value.int .i64) (gA oo_))) rfl (go2 ?_);refine ⟨pp_,_,_,(List.Sublist.refl _),oo_,k+1,_,_,_,mb (dg (dv la) k) (dg (dv lb) k) c,⟨?s5,?s6,?s7⟩,?mem,rfl,⟨by omega,hO',hD.append (DL.one (XF (kB _ _) (kB _ _) hcb)),by simp [hlen],XD _ _ _,BA hlen hcb hdv⟩⟩
   case mem=>rfl
   case s5=>rfl
   case s6=>first | exact SG h26 | exact SH h26
   case s7=>rfl
  replace hc:=cB_ hc
  obtain rfl:k=la.length:=by omega
  refine go3 ?_;refine sQ (bR yQ rfl (fun w hw=>fJ v l hD oo_ w (SL.sl (hO.sl lZ) hw))) rfl (go3 ?_);refine aS rfl (.inr rfl) rfl ?_;exact rS hD (LV hDa hD hlen hle hdv hcb) (hO.slf lZ)

theorem iN (va vb:Value) (la lb:List Nat) (hDa:DL la) (hDb:DL lb) (hna:la.length≤200) (hnb:lb.length≤200) (w:World) (hva:Sl w va la) (hvb:Sl w vb lb) :
    Calls Tryz.prog 164 [va,vb].toArray w (fun e w'=>e = .returned (.bool (decide (dv la<dv lb)))∧Ext w w'):=by
 refine cX (N:=30) Tryz.func164 rfl rfl (by simp) ?_;obtain ⟨w0,rfl⟩:∃ w0,w0=w:=⟨_,rfl⟩;simp only [bA,Nat.reduceAdd];refine go6 ?_;refine sQ (jI fL rfl hva.old) rfl (go_ ?_);refine sQ (jI fL rfl hvb.old) rfl (sQ (S2 rfl rfl) rfl (go4 ?_));refine cC [4,5,12,13,14,15,16,17,18,19,20,21,22,23,24,25,26,27,28,29] (fun g nn M=>∃ (k:Nat),(g 5 = .int .i64 ((k:Int) - 1))∧M=[]∧nn=k+0∧(k≤max la.length lb.length∧dv la / 65536 ^ k=dv lb / 65536 ^ k)) (max la.length lb.length) ?start ?round
 case start =>
  refine ⟨_,(List.Sublist.refl _),max la.length lb.length,?a5,?mem0,rfl,⟨Nat.le_refl _,LT hDa hDb⟩⟩
  case mem0=>rfl
  case a5=>exact congrArg (Value.int .i64) (bD (by unfold I64;omega))
 case round =>
  rintro nn g M ⟨k,hg5,rfl,hmeas,⟨hk,hd⟩⟩;subst nn;simp only [eJ,hg5];clear hg5;refine go5 ?_;refine aK _ rfl (fun hc=>?_) (fun hc=>?_)
  ·replace hc:=cB_ hc
   obtain ⟨m,rfl⟩:∃ m,k=m+1:=⟨k - 1,by omega⟩;refine go5 ?_;refine sQ (aI (gE rfl) (congrArg (Value.int .i64) (show (((m+1:Nat):Int) - 1)=(m:Int) by omega))) rfl (sQ (bR u7 rfl (fun w hw=>dW va la m w (SL.sl (M:=_) hva.old hw))) rfl (go_ ?_));refine sQ (aI (gE rfl) (congrArg (Value.int .i64) (show (((m+1:Nat):Int) - 1)=(m:Int) by omega))) rfl (sQ (bR u7 rfl (fun w hw=>dW vb lb m w (SL.sl (M:=_) hvb.old hw))) rfl (go2 ?_));refine aK _ rfl (fun hne=>?_) (fun hne=>?_)
   ·replace hne:=cB_ hne
    have hne':dg (dv la) m≠dg (dv lb) m:=by rw [← lR la m hDa,← lR lb m hDb];omega
    refine go2 ?_;refine sQ (aI (gE rfl) (congrArg (Value.int .i64) (show (((m+1:Nat):Int) - 1)=(m:Int) by omega))) rfl (sQ (bR u7 rfl (fun w hw=>dW va la m w (SL.sl (M:=_) hva.old hw))) rfl (go_ ?_));refine sQ (aI (gE rfl) (congrArg (Value.int .i64) (show (((m+1:Nat):Int) - 1)=(m:Int) by omega))) rfl (sQ (bR u7 rfl (fun w hw=>dW vb lb m w (SL.sl (M:=_) hvb.old hw))) rfl (go4 ?_));refine aS rfl (.inr rfl) rfl ?_
    (rw [lR la m hDa,lR lb m hDb];exact congrArg Value.bool (O4 hd hne'))
   replace hne:=cB_ hne
   have heq':dg (dv la) m=dg (dv lb) m:=by rw [← lR la m hDa,← lR lb m hDb];omega
   refine go2 ?_;refine sQ (aI (gE rfl) (congrArg (Value.int .i64) (show (((m+1:Nat):Int) - 1)=(m:Int) by omega))) rfl (go3 ?_);refine ⟨pp_,_,_,(List.Sublist.refl _),oo_,m,?s5,?mem,rfl,⟨by omega,O3 hd heq'⟩⟩
   case mem=>rfl
   case s5=>exact congrArg (Value.int .i64) (bD (n:=(m:Int) - 1) (by unfold I64;omega))
  replace hc:=cB_ hc
  obtain rfl:k=0:=by omega
  refine go5 ?_;refine aS rfl (.inr rfl) rfl ?_
  (simp only [Nat.pow_zero,Nat.div_one] at hd;rw [hd];exact congrArg Value.bool (decide_eq_false (Nat.lt_irrefl _)).symm)

theorem uN (va vb:Value) (la lb:List Nat) (hDa:DL la) (hDb:DL lb) (hna:la.length≤200) (hnb:lb.length≤200) (w:World) (hva:Sl w va la) (hvb:Sl w vb lb) :
    Calls Tryz.prog 165 [va,vb].toArray w (fun e w'=>∃ v,e = .returned v∧Ext w w'∧Slf w.heap.size w' v (dl (dv la * dv lb))):=by
 refine rA (N:=72) Tryz.func165 rfl rfl (by simp) ?_;obtain ⟨w0,rfl⟩:∃ w0,w0=w:=⟨_,rfl⟩;simp only [bA,Nat.reduceAdd];refine go5 ?_;refine sQ (jI fL rfl hva.old) rfl (go_ ?_);refine sQ (jI fL rfl hvb.old) rfl (sQ (aI (e9 rfl rfl) (congrArg (Value.int .i64) (kL oo_))) rfl (sQ (aI (e9 rfl rfl) (congrArg (Value.int .i64) (gA oo_))) rfl (aU rfl (TC fW MA z_3 rfl rfl oo_ (fun b17 hb17=>go7 ?_)))));refine cC [6,7,8,9,10,18,19,20,21,22,23,24,25,26,27,28,29,30,31,32,33,34,35,36,37,38,39,40,41,42,43,44,45,46,47,48,49,50,51,52,53,54,55,56,57,58,59,60,61,62,63,64,65,66,67,68,69] (fun g nn M=>∃ (i:Nat) (o:List Nat),(g 6 = .int .i64 (i:Int))∧M=[⟨b17,3,iw o⟩]∧nn=la.length - i∧(i≤la.length∧DL o∧o.length=(la.length+lb.length+1)∧dv o=dv la % 65536 ^ i * dv lb)) (la.length - 0) ?start ?round
 case start =>
  refine ⟨_,(List.Sublist.refl _),0,List.replicate (la.length+lb.length+1) 0,?a6,?mem0,rfl,⟨Nat.zero_le _,fun d hd=>by rw [List.eq_of_mem_replicate hd];decide,by simp,by rw [zF,Nat.pow_zero,Nat.mod_one,Nat.zero_mul]⟩⟩
  case mem0=>rfl
  case a6=>rfl
 case round =>
  rintro nn g M ⟨i,o,hg6,rfl,hmeas,⟨hi,hDo,hlo,hdv⟩⟩;subst nn;simp only [eJ,hg6];clear hg6;refine go4 ?_;refine sQ (jI fL rfl hva.old) rfl (go2 ?_);refine aK _ rfl (fun hc=>?_) (fun hc=>?_)
  ·replace hc:=cB_ hc
   have hc:i<la.length:=by omega
   refine go8 ?_;refine cC [7,24,25,26,27,28,29,30,31,32,33,34,35,36,37,38,39,40,41,42,43,44,45,46,47,48,49,50] (fun g nn M=>∃ (k:Nat) (l:List Nat),(g 7 = .int .i64 (k:Int))∧M=[⟨b17,3,iw l⟩]∧nn=lb.length - k∧(k≤lb.length∧RowIn (la.length+lb.length+1) (dv lb) i (dg (dv la) i) o k l)) (lb.length - 0) ?start ?round
   case start =>
    refine ⟨_,(List.Sublist.refl _),0,o,?a7,?mem0,rfl,⟨Nat.zero_le _,RowIn.start _ _ _ hDo hlo⟩⟩
    case mem0=>rfl
    case a7=>rfl
   case round =>
    rintro nn g M ⟨k,l,hg7,rfl,hmeas,⟨hkl,hR⟩⟩;subst nn;simp only [eJ,hg7];clear hg7;refine go4 ?_;refine sQ (jI fL rfl hvb.old) rfl (go2 ?_);refine aK _ rfl (fun hk2=>?_) (fun hk2=>?_)
    ·replace hk2:=cB_ hk2
     have hk2:k<lb.length:=by omega
     refine go3 ?_;refine gdr sn [0,4,8,12,16,20,24,28,32,36,40,44,48,52,56,60,64,68,72,76,80,85] [21] mix (by kernel_rfl) (go3 ?_);refine pQ rfl (aI (e9 rfl rfl) (congrArg (Value.int .i64) (kL oo_))) (go3 ?_);refine pQ rfl (aI (e9 rfl rfl) (congrArg (Value.int .i64) (kL oo_))) (pQ rfl (lU fL rfl rfl oo_ oo_) (pQ rfl (cA tyT rfl mm_ (bO_ (by rw [hR.len];omega))) ?_));refine go2 ?_;refine pQ rfl (vB fL rfl rfl hva.old oo_) (pQ rfl (rG tyT rfl hva.old oo_) (go2 ?_));refine pQ rfl (vB fL rfl rfl hvb.old oo_) (pQ rfl (rG tyT rfl hvb.old oo_) (go_ ?_));refine pQ rfl (aI (e9 rfl rfl) (show _=IV (l.getD (i+k) 0+dg (dv la) i * dg (dv lb) k) by rw [lR la i hDa,lR lb k hDb];exact VL (hR.high _ (Nat.le_refl _)) (kB _ _) (kB _ _))) (pQ rfl (lU fL rfl rfl oo_ oo_) ?_);refine cS rfl rfl (DW tyT rfl rfl uu_ (by rw [hR.len];omega) (.inl (by assumption)) ⟨nf,ss_,?_⟩);refine go3 ?_;refine sQ (aI (e9 rfl rfl) (congrArg (Value.int .i64) (gA oo_))) rfl (go2 ?_);refine ⟨pp_,_,_,(List.Sublist.refl _),oo_,k+1,_,?s7,?mem,rfl,⟨by omega,hR.step oo_ (kB _ _)⟩⟩
     case mem=>rfl
     case s7=>rfl
    replace hk2:=cB_ hk2
    obtain rfl:k=lb.length:=by omega
    refine go8 ?_;refine cC [8,9,10,51,52,53,54,55,56,57,58,59,60,61,62,63,64,65,66,67,68,69] (fun g nn M=>∃ (m:Nat) (l:List Nat) (c:Nat),(g 8 = .int .i64 (c:Int)∧g 9 = .int .i64 (m:Int))∧M=[⟨b17,3,iw l⟩]∧nn=(la.length+lb.length+1) - m∧(m≤(la.length+lb.length+1)∧CarryIn (la.length+lb.length+1) (dv o+65536 ^ i * (dg (dv la) i * (dv lb % 65536 ^ lb.length))) m l c)) ((la.length+lb.length+1) - 0) ?start ?round
    case start =>
     refine ⟨_,(List.Sublist.refl _),0,l,0,⟨?a8,?a9⟩,?mem0,rfl,⟨Nat.zero_le _,hR.done⟩⟩
     case mem0=>rfl
     case a8=>rfl
     case a9=>rfl
    case round =>
     rintro nn g M ⟨m,l,c,⟨hg8,hg9⟩,rfl,hmeas,⟨hml,hC⟩⟩;subst nn;simp only [eJ,hg8,hg9];clear hg8 hg9;refine go4 ?_;refine sQ (vW fL rfl) rfl (go2 ?_);refine aK _ rfl (fun hm2=>?_) (fun hm2=>?_)
     ·replace hm2:=cB_ hm2
      have hm2:m<(la.length+lb.length+1):=by omega
      refine go6 ?_;refine sQ (lU fL rfl rfl oo_ oo_) rfl (sQ (cA tyT rfl mm_ (bO_ (by rw [hC.len];omega))) rfl ?_);refine go_ ?_;refine sQ (aI (e9 rfl rfl) (congrArg (Value.int .i64) (cY_ (by have:=hC.low m;have:=hC.clt;omega)))) rfl (go6 ?_);refine sQ (aI (nD rfl rfl dd_) (JP _)) rfl (sQ (lU fL rfl rfl oo_ oo_) rfl (aU rfl (DW tyT rfl rfl uu_ (by rw [hC.len];omega) (.inl (by assumption)) ?_)));refine go3 ?_;refine sQ (aI (f8 rfl rfl dd_) (congrArg (Value.int .i64) (ca_ (by have:=hC.low m;have:=hC.clt;omega)))) rfl (go4 ?_);refine sQ (aI (e9 rfl rfl) (congrArg (Value.int .i64) (gA oo_))) rfl (go2 ?_);refine ⟨pp_,_,_,(List.Sublist.refl _),oo_,m+1,_,_,⟨?s8,?s9⟩,?mem,rfl,⟨by omega,hC.step oo_⟩⟩
      case mem=>rfl
      case s8=>rfl
      case s9=>rfl
     replace hm2:=cB_ hm2
     obtain rfl:m=(la.length+lb.length+1):=by omega
     have hT:(dv o+65536 ^ i * (dg (dv la) i * (dv lb % 65536 ^ lb.length)))=dv la % 65536 ^ (i+1) * dv lb:=by rw [hdv];exact PV (t9 lb hDb)
     have hF:=hC.fin (by rw [hT];exact TT oo_ (t9 lb hDb));rw [hT] at hF;refine go3 ?_;refine sQ (aI (e9 rfl rfl) (congrArg (Value.int .i64) (gA oo_))) rfl (go2 ?_);refine ⟨pp_,_,_,(List.Sublist.refl _),oo_,i+1,_,?s6,?mem,rfl,⟨by omega,hF⟩⟩
     case mem=>rfl
     case s6=>rfl
  replace hc:=cB_ hc
  obtain rfl:i=la.length:=by omega
  refine go3 ?_;refine sQ (bR yQ rfl (fun w hw=>fJ _ o hDo oo_ w (SL.sl (SL.mine' (.head _) hlo (Nat.le_refl _)) hw))) rfl (go3 ?_);refine aS rfl (.inr rfl) rfl ?_;exact rS hDo (by rw [hdv,Nat.mod_eq_of_lt (t9 la hDa)]) (SLf.mine hb17 (.head _) hlo (Nat.le_refl _))

theorem kO (va:Value) (la:List Nat) (k:Int) (w:World) (hva:Sl w va la) :
    Calls Tryz.prog 210 [va,.int .i64 k].toArray w (fun e w'=>e = .returned (.int .i64 ((atD la k:Nat):Int))∧Ext w w'):=by
 refine cX (N:=10) Tryz.func210 rfl rfl (by simp) ?_;obtain ⟨w0,rfl⟩:∃ w0,w0=w:=⟨_,rfl⟩;simp only [bA,Nat.reduceAdd];refine go8 ?_;refine aK _ rfl (fun h0=>?_) (fun h0=>?_)
 ·replace h0:=cB_ h0
  refine go4 ?_;refine aS rfl (.inr rfl) rfl ?_
  (rw [UQ h0];rfl)
 replace h0:=cB_ h0
 refine go3 ?_;refine sQ (aI (gE rfl) (show _=Value.int .i64 ((k.toNat:Nat):Int) from congrArg (Value.int .i64) oo_)) rfl (sQ (bR u7 rfl (fun w hw=>dW va la k.toNat w (SL.sl (M:=_) hva.old hw))) rfl (go3 ?_));refine aS rfl (.inr rfl) rfl ?_;rw [UR h0]

theorem oK (n m:Int) (hn:I64 n) (hnm:n ≠ -9223372036854775808) (hm:m≠0) :
    Ret Tryz.prog 179 [.int .i64 n,.int .i64 m] (.int .i64 (n.fdiv m)):=by
 refine aW (N:=23) Tryz.func179 rfl rfl (by simp) (fun w0=>?_);simp only [bA,Nat.reduceAdd];refine go6 ?_;refine sQ (aI (f8 rfl rfl hm) (congrArg (Value.int .i64) (bD (MK hn hnm)))) rfl (go6 ?_);refine sQ (nD rfl rfl hm) rfl (go2 ?_)
 cases h0:(n.tmod m != 0)
 ·refine yU ?_;refine aS rfl (.inr rfl) rfl ?_;exact congrArg (Value.int .i64) (zL hm (.inl (by simpa using h0))).1.symm
 refine go4 ?_;refine sQ (qT AB rfl rfl) rfl (go2 ?_);refine aK _ rfl (fun hs=>?_) (fun hs=>?_)
 ·replace hs:=cB_ hs
  refine go2 ?_;refine sQ (aI (kM rfl rfl) (congrArg (Value.int .i64) (bD (S8 hn hnm)))) rfl (go7 ?_);refine aS rfl (.inr rfl) rfl ?_;exact congrArg (Value.int .i64) (LN hm (by simpa using h0) (bne_iff_ne.2 (by rw [F0 (by simpa using h0)];exact hs))).1.symm
 replace hs:=cB_ hs
 refine go6 ?_;refine aS rfl (.inr rfl) rfl ?_;exact congrArg (Value.int .i64) (zL hm (.inr (by rw [F0 (by simpa using h0)];simpa using hs))).1.symm
theorem gG (a:R) (ha:a.Ok) :
    Ret Tryz.prog 176 [RV a] (.tuple #[.int .i64 (iU a),.bool (iC a)]):=by
 refine aW (N:=41) Tryz.func176 rfl rfl (by simp) (fun w0=>?_);simp only [bA,Nat.reduceAdd];refine go_ ?_;refine aU rfl (fV rfl rfl (fun b1 hb1=>go4 ?_));refine sQ (bE tyT rfl mm_ (bG ha)) rfl ?_;refine sQ (aZ kS (bL a ha) rfl) rfl (go7 ?_)
 cases hg:a.good
 ·refine x9 ?_;refine mD rfl (.inr rfl) rfl rfl ?_;exact PZ hg
 refine sQ (bB fdT dd_ rfl) rfl (sQ (cU arT rfl rfl dd_ dd_) rfl (sQ (cA tyT rfl mm_ (j8 (r:=a) (k:=1) (by rw [ha.len];decide))) rfl ?_));refine go3 ?_;refine aK _ rfl (fun h16=>?_) (fun h16=>?_)
 ·replace h16:=cB_ h16
  refine go5 ?_;refine mD rfl (.inr rfl) rfl rfl ?_;exact KL (UA ha h16)
 replace h16:=cB_ h16
 refine go6 ?_;refine cC [2,3,5,17,18,19,20,21,22,23,24,25] (fun g nn M=>∃ (k:Nat),(g 5 = .int .i64 (k:Int))∧M=[⟨b1,33,a.cells⟩]∧nn=16 - k∧(2≤k∧k≤16∧∀ j,2≤j→j<k→a.w.getD j 0=0)) (14) ?start ?round
 case start =>
  refine ⟨_,(List.Sublist.refl _),2,?a5,?mem0,rfl,⟨Nat.le_refl _,by decide,fun j h1 h2=>by omega⟩⟩
  case mem0=>rfl
  case a5=>rfl
 case round =>
  rintro nn g M ⟨k,hg5,rfl,hmeas,⟨hk2,hk,hz⟩⟩;subst nn;simp only [eJ,hg5];clear hg5;refine go5 ?_;refine aK _ rfl (fun hc=>?_) (fun hc=>?_)
  ·replace hc:=cB_ hc
   have hc:k<16:=by omega
   refine go5 ?_;refine sQ (bB fdT dd_ rfl) rfl (sQ (cU arT rfl rfl oo_ oo_) rfl (sQ (cA tyT rfl mm_ (j8 (r:=a) (k:=k) (by rw [ha.len];omega))) rfl ?_));refine go2 ?_;refine aK _ rfl (fun hz2=>?_) (fun hz2=>?_)
   ·replace hz2:=cB_ hz2
    refine go5 ?_;refine mD rfl (.inr rfl) rfl rfl ?_;exact KL (P0 ha hk2 oo_)
   replace hz2:=cB_ hz2
   refine go3 ?_;refine sQ (aI (e9 rfl rfl) (congrArg (Value.int .i64) (gA oo_))) rfl (go2 ?_);refine ⟨pp_,_,_,(List.Sublist.refl _),oo_,k+1,?s5,?mem,rfl,⟨by omega,by omega,fun j h1 h2=>by rcases Nat.eq_or_lt_of_le (Nat.le_of_lt_succ h2) with rfl | h3;omega;exact hz j h1 h3⟩⟩
   case mem=>rfl
   case s5=>rfl
  replace hc:=cB_ hc
  obtain rfl:k=16:=by omega
  have hws:=KM ha oo_ hz;refine go2 ?_;refine sQ (bB fdT dd_ rfl) rfl (sQ (cU arT rfl rfl dd_ dd_) rfl (sQ (cA tyT rfl mm_ (j8 (r:=a) (k:=1) (by rw [ha.len];decide))) rfl ?_));refine sQ (cP d9 AK rfl) rfl (go_ ?_);refine sQ (bB fdT dd_ rfl) rfl (sQ (cU arT rfl rfl dd_ dd_) rfl (sQ (cA tyT rfl mm_ (j8 (r:=a) (k:=0) (by rw [ha.len];decide))) rfl ?_));refine sQ (cP d9 AK rfl) rfl (sQ (aI (e9 rfl rfl) (congrArg (Value.int .i64) ((KM ha oo_ hz).1))) rfl (go4 ?_));refine sQ (bB fdT dd_ rfl) rfl (sQ (cA tyT rfl mm_ rfl) rfl ?_);refine go_ ?_;refine aK _ rfl (fun hn=>?_) (fun hn=>?_)
  ·replace hn:=cB_ hn
   refine go7 ?_;refine mD rfl (.inr rfl) rfl rfl ?_;exact T8 hg hws.2 hn
  replace hn:=cB_ hn
  refine go7 ?_;refine mD rfl (.inr rfl) rfl rfl ?_;exact T9 hg hws.2 hn

theorem f9 (n:Int) (hn:I64 n) :
    Ret Tryz.prog 75 [.int .i64 n] (RV (Z.of n).enc):=by
 refine aW (N:=35) Tryz.func75 rfl rfl (by simp) (fun w0=>?_);simp only [bA,Nat.reduceAdd];unfold I64 at hn;refine go_ ?_;refine aU rfl (cM i2 (fun b2 hb2=>go6 ?_));refine aK _ rfl (fun h0=>?_) (fun h0=>?_)
 ·replace h0:=cB_ h0
  obtain ⟨m,rfl⟩:∃ m:Nat,n=m:=⟨n.toNat,by omega⟩;refine go2 ?_;refine sQ (aI (nD rfl rfl dd_) (show _=IV (m % 65536) from JP _)) rfl (go_ ?_);refine sQ (aI (f8 rfl rfl dd_) (FT 65536 oo_)) rfl (sQ (aI (nD rfl rfl dd_) (show _=IV (m / 65536 % 65536) from JP _)) rfl (go_ ?_));refine sQ (aI (f8 rfl rfl dd_) (FT 4294967296 oo_)) rfl (sQ (aI (nD rfl rfl dd_) (show _=IV (m / 4294967296 % 65536) from JP _)) rfl (go_ ?_));refine sQ (aI (f8 rfl rfl dd_) (FT 281474976710656 oo_)) rfl (aU rfl (fA fW z_3 lE rfl dd_ rfl (RT _ _ _ _) (fun b16 hb16=>sQ (bR tD rfl (fun w hw=>dG false _ (dl4 m) (QY oo_) (by simp [dl4]) w (SL.sl (SL.mine (l:=dl4 m) (.head _) (Nat.le_refl _)) hw))) rfl ?_)));refine aU rfl (aX tyT rfl rfl uu_ (aC _) rfl (aV _) (.inl (by assumption)) ?_);refine go2 ?_;refine aS rfl (.inr rfl) ⟨_,_,_,_,_,_,rfl,mm_,tyT,_,(bX (aC _)),(aC _),rfl⟩ ?_
  (rw [LA,oI];rfl)
 replace h0:=cB_ h0
 obtain ⟨m,rfl⟩:∃ m:Nat,n = -((m:Int)+1):=⟨(-n - 1).toNat,by omega⟩;refine go4 ?_;refine sQ (aI (S4 rfl) (congrArg (Value.int .i64) (VT oo_))) rfl (go4 ?_);refine sQ (aI (nD rfl rfl dd_) (show _=IV (m % 65536) from JP _)) rfl (go_ ?_);refine sQ (aI (f8 rfl rfl dd_) (FT 65536 oo_)) rfl (sQ (aI (nD rfl rfl dd_) (show _=IV (m / 65536 % 65536) from JP _)) rfl (go_ ?_));refine sQ (aI (f8 rfl rfl dd_) (FT 4294967296 oo_)) rfl (sQ (aI (nD rfl rfl dd_) (show _=IV (m / 4294967296 % 65536) from JP _)) rfl (go_ ?_));refine sQ (aI (f8 rfl rfl dd_) (FT 281474976710656 oo_)) rfl (aU rfl (fA fW z_3 lE rfl dd_ rfl (RT _ _ _ _) (fun b31 hb31=>aU rfl (fA fW z_3 lE rfl dd_ rfl (wS 1) (fun b32 hb32=>aU rfl (eM RB rfl (fun w hw=>pA _ _ (dl4 m) [1] (QY oo_) (DL.one dd_) (by simp [dl4]) (by simp) w (SL.sl (SL.mine (l:=dl4 m) (.tail _ (.head _)) (Nat.le_refl _)) hw) (SL.sl (SL.mine (l:=[1]) (.head _) (Nat.le_refl _)) hw)) (fun v9 L9 h9=>?_)))))));refine sQ (bR tD rfl (fun w hw=>dG true _ _ (j0 _) (Nat.le_trans (gY (k:=64) (by rw [LA];simp only [dv];omega)) dd_) w (SL.sl (h9.sl.sub lZ) hw))) rfl (aU rfl (aX tyT rfl rfl uu_ (aC _) rfl (aV _) (.inl (by assumption)) ?_));refine go2 ?_;refine aS rfl (.inr rfl) ⟨_,_,_,_,_,_,rfl,mm_,tyT,_,(bX (aC _)),(aC _),rfl⟩ ?_
 (rw [fC,LA];simp only [dv,Nat.mul_zero,Nat.add_zero];rw [ci_];rfl)
end Go.Proofs.YtbjlhfochebmiaaGreatDoor

