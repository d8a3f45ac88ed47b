/- Lemmas: what they ask stands in their statements. -/
import Derived.Test.YtcjoflcajgaifaaGreatDoorOGE
set_option linter.unusedSimpArgs false
set_option linter.unusedVariables false
set_option maxHeartbeats 8000000
set_option maxRecDepth 20000
namespace Go.Proofs.YtcjoflcajgaifaaGreatDoor
open Go.Kn Go.Num Tryz
attribute [local irreducible] Go.Kn.W WL PL OpQ OpR OpS
theorem e7 (va:Value) (l:List Nat) (k:Nat) (w:World) (hva:Sl w va l) :
   Calls prog 159 [va,.int .i64 (k:Int)].toArray w (fun e w'=>e = .returned (.int .i64 ((l.getD k 0:Nat):Int))∧Ext w w'):=by
 refine cV (N:=13) func159 O O zz_ ?_;obtain ⟨w0,rfl⟩:=nm w;refine giI ?_;refine go7 ?_;refine sQ (lK bQ O hva.old) O (go2 ?_);refine aT _ O (fun hk=>?_) (fun hk=>?_)
 ·replace hk:=cB_ hk
  refine go3 ?_;refine sQ (vQ bQ O O hva.old oo_) O (sQ (rW tyT O hva.old oo_) O (go3 ?_));refine rt1 ?_;exact rfl
 replace hk:=cB_ hk
 refine go5 ?_;refine rt1 ?_;exact congrArg (fun n:Nat=>Value.int .i64 (n:Int)) (show 0=l.getD k 0 by simp [List.getD,List.getElem?_eq_none (show l.length≤k by omega)])
theorem gH (va:Value) (l:List Nat) (hD:DL l) (hn:l.length≤1000) (w:World) (hva:Sl w va l) :
    Calls prog 158 [va].toArray w (fun e w'=>e = .returned (sls va (dl (dv l)).length)∧Ext w w'):=by
 refine cV (N:=21) func158 O O zz_ ?_;obtain ⟨w0,rfl⟩:=nm w;refine giI ?_;refine go5 ?_;refine sQ (lK bQ O hva.old) O (go4 ?_);refine cE (rg [3] 6 12) (fun g nn M=>∃ (k:Nat),(g 3 = .int .i64 (k:Int))∧M=[]∧nn=k+0∧(k≤l.length∧∀ j,k≤j→l.getD j 0=0)) (l.length) ?start ?round
 case start =>
  refine ⟨_,(List.Sublist.refl _),l.length,?a3,?mem0,rfl,⟨Nat.le_refl _,fun j hj=>by simp [List.getD,List.getElem?_eq_none (show l.length≤j by omega)]⟩⟩
  case mem0=>rfl
  case a3=>rfl
 case round =>
  rintro nn g M ⟨k,hg3,rfl,hmeas,⟨hk,hhi⟩⟩;subst nn;refine gS1 hg3 ?_;clear hg3;refine go5 ?_
  cases hz:decide ((0:Int)<(k:Int))
  ·refine U1 ?_;refine sQ (Z4 bQ O O hva.old oo_) O (go3 ?_);refine rt1 ?_;rw [HE hD,MS hhi (.inl (by have:=of_decide_eq_false hz;omega))]
  have hz':=of_decide_eq_true hz;obtain ⟨m,rfl⟩:∃ m,k=m+1:=⟨k - 1,by omega⟩;refine go2 ?_;refine sQ (aE (lL O O) (congrArg (Value.int .i64) (uZ oo_))) O (sQ (vQ bQ O O hva.old oo_) O (sQ (rW tyT O hva.old oo_) O (go3 ?_)));refine aT _ O (fun h0=>?_) (fun h0=>?_)
  ·replace h0:=cB_ h0
   refine go4 ?_;refine sQ (aE (lL O O) (congrArg (Value.int .i64) (uZ oo_))) O (go2 ?_);refine ⟨pp_,_,_,(List.Sublist.refl _),oo_,m,?s3,?mem,rfl,⟨by omega,fun j hj=>by rcases Nat.eq_or_lt_of_le hj with rfl|hj;omega;exact hhi j hj⟩⟩
   case mem=>rfl
   case s3=>rfl
  replace h0:=cB_ h0
  refine go4 ?_;refine sQ (Z4 bQ O O hva.old oo_) O (go3 ?_);refine rt1 ?_;rw [HE hD,MS hhi (.inr (by simp only [Nat.add_sub_cancel];omega))]
theorem fT (a:R) (ha:a.Ok) (w:World)  :
    Calls prog 101 [RV a].toArray w (fun e w'=>∃ v,e = .returned v∧Ext w w'∧Slf w.heap.size w' v (dl (val a.w))):=by
 refine rU (N:=26) func101 O O zz_ ?_;obtain ⟨w0,rfl⟩:=nm w;refine giI ?_;refine go_ ?_;refine aQ O (gW O O (fun b1 hb1=>mQ ?_));refine cE (rg [] 3 21) (fun g nn M=>∃ (k:Nat) (v:Value) (l:List Nat) (L:List Blk),(g 3=v∧g 4 = .int .i64 (k:Int))∧M=L++[⟨b1,31,a.cells⟩]∧nn=16 - k∧(k≤16∧OwnL w0 3 v l L∧DL l∧l.length=2*k∧dv l=val a.w % 4294967296 ^ k)) (16) ?start ?round
 case start =>
  refine ⟨_,(List.Sublist.refl _),0,_,[],[],⟨?a3,?a4⟩,?mem0,rfl,⟨Nat.zero_le _,.nil,DL.nil,rfl,by simp [dv,Nat.mod_one]⟩⟩
  case mem0=>rfl
  case a3=>rfl
  case a4=>rfl
 case round =>
  rintro nn g M ⟨k,v,l,L,⟨hg3,hg4⟩,rfl,hmeas,⟨hk,hO,hD,hlen,hdv⟩⟩;subst nn;refine gS2 hg3 hg4 ?_;clear hg3 hg4;refine go5 ?_;refine aT _ O (fun hc=>?_) (fun hc=>?_)
  ·replace hc:=cB_ hc
   have hc:k<16:=by omega
   refine go3 ?_;refine lJ sn 16 [13,14] [14] (go2 ?_);refine pQ O (bT fdT dd_ O) (pQ O (dS arT O O oo_ oo_) (pQ O (cU tyT O mm_ (kX (r:=a) (k:=k) (by rw [ha.len];omega))) ?_));refine pQ O (pW O O dd_) (pQ O (aE (dD fD y9 O) (fP_ (dA ha.lim k))) (go_ ?_));refine pQ O (bT fdT dd_ O) (pQ O (dS arT O O oo_ oo_) (pQ O (cU tyT O mm_ (kX (r:=a) (k:=k) (by rw [ha.len];omega))) ?_));refine pQ O (oF O O dd_) (pQ O (aE (dD fD y9 O) (fL_ (dA ha.lim k))) ?_);refine dC O O (gQ fG z_3 mR O dd_ O (dN_ _ _) (fun b22 hb22=>⟨(fun _=>by first|exact sd s0|exact s0),ss_,?_⟩));refine dC O O (xS fG RH O O hO (SL.mine (l:=[a.w.getD k 0 % 65536,a.w.getD k 0 / 65536]) (.head _) (Nat.le_refl _)) (List.sublist_cons_self _ _) (by simp;omega) (fun v' L' hO'=>⟨nf,ss_,?_⟩));refine go4 ?_;refine sQ (aE (fZ O O) (congrArg (Value.int .i64) (gX oo_))) O (go2 ?_);refine ⟨pp_,_,_,(List.Sublist.refl _),oo_,k+1,_,_,_,⟨?s3,?s4⟩,?mem,rfl,⟨by omega,hO',hD.append (DL.two (dA ha.lim k)),by simp [hlen];omega,NT ha.lim hlen hdv⟩⟩
   case mem=>rfl
   case s3=>rfl
   case s4=>rfl
  replace hc:=cB_ hc
  obtain rfl:k=16:=by omega
  refine go3 ?_;refine sQ (eH aH O (fun w hw=>gH v l hD oo_ w (SL.sl (hO.sl lZ) hw))) O (go3 ?_);refine rt1 ?_;exact r9 hD (by rw [hdv,QM ha]) (hO.slf lZ)
theorem iN  :
  Ret prog 121 [] (RV Z.bad.enc):=by
 refine bG (N:=2) func121 O O zz_ (fun w0=>?_);refine giI ?_;refine go_ ?_;refine aQ O (dL kB (fun b0 hb0=>go2 ?_));refine sQ (sM kB plT O (.cons O (vs:=[.bool true]) O O (by simp [zR]) (z':=Z.bad.enc.cells) O (.nil _))) O ?_;refine aQ O (bE tyT O O uu_ O O (bC Z.bad.enc) (.inl eU) ?_);refine go2 ?_;refine rtX O ⟨_,_,_,_,_,_,rfl,mm_,tyT,_,(dB O),rfl,rfl⟩ ?_;exact rfl
theorem u5 (r:R) (h:r.Ok) :
    Ret prog 152 [RV r] (.bool r.valid):=by
 refine bG (N:=32) func152 O O zz_ (fun w0=>?_);refine giI ?_;refine go_ ?_;refine aQ O (gW O O (fun b1 hb1=>mQ ?_));refine cE (rg [] 3 14) (fun g nn M=>∃ (k:Nat) (z:Bool),(g 3 = .bool z∧g 4 = .int .i64 (k:Int))∧M=[⟨b1,31,r.cells⟩]∧nn=16 - k∧(k≤16∧(z=true ↔ ∀ j,j<k→r.w.getD j 0=0))) (16) ?start ?round
 case start =>
  refine ⟨_,(List.Sublist.refl _),0,true,⟨?a3,?a4⟩,?mem0,rfl,⟨Nat.zero_le _,⟨fun _ j hj=>by omega,fun _=>rfl⟩⟩⟩
  case mem0=>rfl
  case a3=>rfl
  case a4=>rfl
 case round =>
  rintro nn g M ⟨k,z,⟨hg3,hg4⟩,rfl,hmeas,⟨hk,hz⟩⟩;subst nn;refine gS2 hg3 hg4 ?_;clear hg3 hg4;refine go5 ?_;refine aT _ O (fun hc=>?_) (fun hc=>?_)
  ·replace hc:=cB_ hc
   have hc:k<16:=by omega
   refine go6 ?_
   cases z
   ·refine mQ ?_;refine sQ (aE (fZ O O) (congrArg (Value.int .i64) (gX oo_))) O (go2 ?_);refine ⟨pp_,_,_,(List.Sublist.refl _),oo_,k+1,?zz_1,⟨?s3,?s4⟩,?mem,rfl,⟨by omega,?inv_1⟩⟩
    case mem=>rfl
    case s3=>rfl
    case s4=>rfl
    first|exact PV hz|exact UL hz
   refine go_ ?_;refine sQ (bT fdT dd_ O) O (sQ (dS arT O O oo_ oo_) O (sQ (cU tyT O mm_ (kX (r:=r) (k:=k) (by rw [h.len];omega))) O ?_));refine go6 ?_;refine sQ (aE (fZ O O) (congrArg (Value.int .i64) (gX oo_))) O (go2 ?_);refine ⟨pp_,_,_,(List.Sublist.refl _),oo_,k+1,?zz_2,⟨?s3,?s4⟩,?mem,rfl,⟨by omega,?inv_2⟩⟩
   case mem=>rfl
   case s3=>rfl
   case s4=>rfl
   first|exact PV hz|exact UL hz
  replace hc:=cB_ hc
  obtain rfl:k=16:=by omega
  obtain rfl:z=r.zero:=cn_ h hz;refine go3 ?_;refine sQ (bT fdT dd_ O) O (sQ (cU tyT O mm_ O) O ?_);refine go_ ?_;refine aT _ O (fun hb=>?_) (fun hb=>?_)
  ·replace hb:=cB_ hb
   refine go3 ?_
   cases hz0:r.zero
   ·refine go7 ?_;refine rt1 ?_
    simp [R.valid, *]
   refine sQ (bT fdT dd_ O) O (sQ (cU tyT O mm_ O) O ?_);refine go5 ?_;refine rt1 ?_
   simp [R.valid, *]
  replace hb:=cB_ hb
  refine go5 ?_
  cases hz0:r.zero
  ·refine go7 ?_;refine rt1 ?_
   simp [R.valid, *]
  refine sQ (bT fdT dd_ O) O (sQ (cU tyT O mm_ O) O ?_);refine go5 ?_;refine rt1 ?_
  simp [R.valid, *]
theorem eX (r:R) (h:r.Ok) :
   Ret prog 97 [RV r] (.bool r.good):=by
 refine bG (N:=12) func97 O O zz_ (fun w0=>?_);refine giI ?_;refine go_ ?_;refine aQ O (gW O O (fun b1 hb1=>go3 ?_));refine sQ (bU tyT O mm_ (cJ h)) O ?_;refine sQ (aW aH (u5 r h) O) O (go5 ?_)
 cases hv:r.valid
 ·refine go7 ?_;refine rt1 ?_
  simp [R.good, *]
 refine sQ (bT fdT dd_ O) O (sQ (cU tyT O mm_ O) O ?_);refine go5 ?_;refine rt1 ?_
 simp [R.good, *]
theorem iO (neg:Bool) (va:Value) (l:List Nat) (hD:DL l) (hn:l.length≤1000) (w:World) (hva:Sl w va l) :
    Calls prog 157 [.bool neg,va].toArray w (fun e w'=>e = .returned (RV (Z.of (sgn neg (dv l))).enc)∧Ext w w'):=by
 refine cV (N:=62) func157 O O zz_ ?_;obtain ⟨w0,rfl⟩:=nm w;refine giI ?_;have hu0:∀ M,SL w0 [] M (sls va (dl (dv l)).length) (dl (dv l)):=fun M=>aB_ hD hva.old;refine go_ ?_;refine aQ O (dL kB (fun b4 hb4=>go3 ?_));refine sQ (eH aH O (fun w hw=>gH va l hD hn w (SL.sl (M:=_) hva.old hw))) O (go5 ?_);refine sQ (lK bQ O (hu0 _)) O (go2 ?_);refine aT _ O (fun hbig=>?_) (fun hbig=>?_)
 ·replace hbig:=cB_ hbig
  refine go_ ?_;refine sQ (aW aH iN O) O (aQ O (bE tyT O O uu_ (aG _) O (bC _) (.inl eU) ?_));refine go2 ?_;refine rtX O ⟨_,_,_,_,_,_,rfl,mm_,tyT,_,(dB (aG _)),(aG _),rfl⟩ ?_;exact RE oo_
 replace hbig:=cB_ hbig
 have hlen:(dl (dv l)).length≤32:=by omega
 refine go_ ?_;refine kF (rg [6] 14 7) (fun g M=>∃ (b6:Nat),(g 6 = .pointer (some ⟨b6,0,none⟩))∧M=⟨b6,31,R.cells (R.mk false (neg&&decide ((0:Int)<((dl (dv l)).length:Int))) (List.replicate 16 0))⟩::[⟨b4,31,zR⟩]∧(w0.heap.size≤b6)) (fun K6 J6=>?_) ?_
 ·refine go3 ?_
  cases neg
  ·refine go4 ?_;refine sQ (sM kB plT O (X9 _)) O (aQ O (dL kB (fun b6 hb6=>aQ O (bE tyT O O uu_ (by simp [R.cells,e8]) O (bC _) (.inl eU) ?_))));refine go_ ?_;refine J6 _ _ pp_ ⟨_,(List.Sublist.refl _),_,?s6,?mem,hb6⟩
   case mem=>rfl
   case s6=>rfl
  refine go_ ?_;refine sQ (lK bQ O (hu0 _)) O (go2 ?_);refine sQ (sM kB plT O (X9 _)) O (aQ O (dL kB (fun b6 hb6=>aQ O (bE tyT O O uu_ (by simp [R.cells,e8]) O (bC _) (.inl eU) ?_))));refine go_ ?_;refine J6 _ _ pp_ ⟨_,(List.Sublist.refl _),_,?s6,?mem,hb6⟩
  case mem=>rfl
  case s6=>rfl
 rintro g M ⟨b6,hg6,rfl,hb6⟩;refine gS1 hg6 ?_;clear hg6;refine go5 ?_;refine cE (rg [7] 21 40) (fun g nn M=>∃ (k:Nat) (ws:List Nat),(g 7 = .int .i64 (k:Int))∧M=⟨b6,31,R.cells (R.mk false (neg&&decide ((0:Int)<((dl (dv l)).length:Int))) ws)⟩::[⟨b4,31,zR⟩]∧nn=(dl (dv l)).length - k∧(k≤(dl (dv l)).length∧NumIn (dv l) k ws)) ((dl (dv l)).length - 0) ?start ?round
 case start =>
  refine ⟨_,(List.Sublist.refl _),0,_,?a7,?mem0,rfl,⟨Nat.zero_le _,NumIn.start _⟩⟩
  case mem0=>rfl
  case a7=>rfl
 case round =>
  rintro nn g M ⟨k,ws,hg7,rfl,hmeas,⟨hk,hI⟩⟩;subst nn;refine gS1 hg7 ?_;clear hg7;refine go4 ?_;refine sQ (lK bQ O (hu0 _)) O (go2 ?_);refine aT _ O (fun hc=>?_) (fun hc=>?_)
  ·replace hc:=cB_ hc
   have hk32:k<32:=by omega
   refine go5 ?_;refine sQ (aE (pW O O dd_) (congrArg (Value.int .i64) (gT_ k))) O (go2 ?_);refine aT _ O (fun hpar=>?_) (fun hpar=>?_)
   ·replace hpar:=cB_ hpar
    have hpar:k % 2=0:=by omega
    have hz:=(hI.even hpar hk32).2;refine lJ (sd (sk s0)) 16 [15] [15] (go_ ?_);refine pQ O (aE (oF O O dd_) (congrArg (Value.int .i64) (bZ_ k oo_))) (go_ ?_);refine pQ O (aE (oF O O dd_) (congrArg (Value.int .i64) (bZ_ k oo_))) (pQ O (bT fdT dd_ O) (pQ O (dS arT O O oo_ oo_) (pQ O (cU tyT O mm_ (kX (r:=R.mk false (neg&&decide ((0:Int)<((dl (dv l)).length:Int))) ws) (k:=k / 2) (by simp only [hI.len];omega))) ?_)));refine go2 ?_;refine pQ O (vQ bQ O O (hu0 _) oo_) (pQ O (rW tyT O (hu0 _) oo_) (pQ O (dD y9 fD O) (pQ O (aE (fZ O O) (show _=U32 (dg (dv l) k) by rw [(hI.even hpar hk32).1,yP];exact WQ (kZ _ _))) (pQ O (bT fdT dd_ O) (pQ O (dS arT O O oo_ oo_) ?_)))));refine dC O O (O6 (k:=k / 2) tyT O O uu_ (by rw [hI.len];omega) (.inl eU) ⟨nf,ss_,?_⟩);refine go3 ?_;refine sQ (aE (fZ O O) (congrArg (Value.int .i64) (gX oo_))) O (go2 ?_);refine ⟨pp_,_,_,(List.Sublist.refl _),oo_,k+1,_,?s7,?mem,rfl,⟨by omega,hz⟩⟩
    case mem=>rfl
    case s7=>rfl
   replace hpar:=cB_ hpar
   have hpar:¬ k % 2=0:=by omega
   have hz:=(hI.odd hpar hk32).2;refine gdr (sd (sk s0)) [0,4,8,12,16,20,24,28,32,36,40,44,48,52,56,60,65] [16] mix (by kernel_rfl) (go_ ?_);refine pQ O (aE (oF O O dd_) (congrArg (Value.int .i64) (bZ_ k oo_))) (go_ ?_);refine pQ O (aE (oF O O dd_) (congrArg (Value.int .i64) (bZ_ k oo_))) (pQ O (bT fdT dd_ O) (pQ O (dS arT O O oo_ oo_) (pQ O (cU tyT O mm_ (kX (r:=R.mk false (neg&&decide ((0:Int)<((dl (dv l)).length:Int))) ws) (k:=k / 2) (by simp only [hI.len];omega))) ?_)));refine go2 ?_;refine pQ O (vQ bQ O O (hu0 _) oo_) (pQ O (rW tyT O (hu0 _) oo_) (pQ O (dD y9 fD O) (go_ ?_)));refine pQ O (aE (fZ O O) (show _=U32 (ws.getD (k / 2) 0+dg (dv l) k*65536) by rw [yP];exact a4_ (hI.odd hpar hk32).1 (kZ _ _))) (pQ O (bT fdT dd_ O) (pQ O (dS arT O O oo_ oo_) ?_));refine dC O O (O6 (k:=k / 2) tyT O O uu_ (by rw [hI.len];omega) (.inl eU) ⟨nf,ss_,?_⟩);refine go3 ?_;refine sQ (aE (fZ O O) (congrArg (Value.int .i64) (gX oo_))) O (go2 ?_);refine ⟨pp_,_,_,(List.Sublist.refl _),oo_,k+1,_,?s7,?mem,rfl,⟨by omega,hz⟩⟩
   case mem=>rfl
   case s7=>rfl
  replace hc:=cB_ hc
  obtain rfl:k=(dl (dv l)).length:=by omega
  refine go2 ?_;refine sQ (bU tyT O mm_ (by simp [R.cells,e8,hI.len])) O ?_;refine aQ O (bE tyT O O uu_ (by simp [R.cells,e8,hI.len]) O (bC _) (.inl eU) ?_);refine go2 ?_;refine rtX O ⟨_,_,_,_,_,_,rfl,mm_,tyT,_,(dB (by simp [R.cells,e8,hI.len])),(by simp [R.cells,e8,hI.len]),rfl⟩ ?_;exact RF hI
theorem vX (va vb:Value) (la lb:List Nat) (hDa:DL la) (hDb:DL lb) (hna:la.length≤200) (hnb:lb.length≤200) (w:World) (hva:Sl w va la) (hvb:Sl w vb lb) :
    Calls prog 191 [va,vb].toArray w (fun e w'=>∃ v,e = .returned v∧Ext w w'∧Slf w.heap.size w' v (dl (dv la+dv lb))):=by
 refine rU (N:=37) func191 O O zz_ ?_;obtain ⟨w0,rfl⟩:=nm w;refine giI ?_;refine DT ?_;refine cE (rg [] 5 30) (fun g nn M=>∃ (k:Nat) (v:Value) (l:List Nat) (L:List Blk),(g 5=v∧g 6 = .int .i64 ((cD (dv la) (dv lb) k:Nat):Int)∧g 7 = .int .i64 (k:Int))∧M=L++[]∧nn=max la.length lb.length+1 - k∧(k≤max la.length lb.length+1∧OwnL w0 3 v l L∧DL l∧l.length=k∧dv l=(dv la+dv lb) % 65536 ^ k)) (max la.length lb.length+1 - 0) ?start ?round
 case start =>
  refine ⟨_,(List.Sublist.refl _),0,_,[],[],⟨?a5,?a6,?a7⟩,?mem0,rfl,⟨Nat.zero_le _,.nil,DL.nil,rfl,by simp [dv,Nat.mod_one]⟩⟩
  case mem0=>rfl
  case a5=>rfl
  case a6=>rw [bf_];rfl
  case a7=>rfl
 case round =>
  rintro nn g M ⟨k,v,l,L,⟨hg5,hg6,hg7⟩,rfl,hmeas,⟨hk,hO,hD,hlen,hdv⟩⟩;subst nn;refine gS3 hg5 hg6 hg7 ?_;clear hg5 hg6 hg7;refine go4 ?_;refine sQ (lK bQ O hva.old) O (go_ ?_);refine sQ (lK bQ O hvb.old) O (sQ (ZZ O O) O (sQ (aE (fZ O O) (congrArg (Value.int .i64) (gX oo_))) O (go2 ?_)));refine aT _ O (fun hc=>?_) (fun hc=>?_)
  ·replace hc:=cB_ hc
   have hc:k<max la.length lb.length+1:=by omega
   refine go6 ?_;refine sQ (eH aH O (fun w hw=>e7 va la k w (SL.sl (M:=_) hva.old hw))) O (go2 ?_);refine sQ (eH aH O (fun w hw=>e7 vb lb k w (SL.sl (M:=_) hvb.old hw))) O (go2 ?_);refine sQ (aE (fZ O O) (congrArg (Value.int .i64) (show _=((cD (dv la) (dv lb) k+dg (dv la) k+dg (dv lb) k:Nat):Int) by rw [l4 la k hDa,l4 lb k hDb];exact gv_ (kZ _ _) (kZ _ _) (cC_ _ _ _)))) O (go5 ?_);refine sQ (aE (pW O O dd_) (O9 _)) O (aQ O (gQ fG z_3 mR O dd_ O (CB _) (fun b31 hb31=>aQ O (xS fG RH O O hO (SL.mine (l:=[(cD (dv la) (dv lb) k+dg (dv la) k+dg (dv lb) k) % 65536]) (.head _) (Nat.le_refl _)) (List.sublist_cons_self _ _) (by simp;omega) (fun v' L' hO'=>?_)))));refine go4 ?_;refine sQ (aE (oF O O dd_) (congrArg (Value.int .i64) (fM_ (by have:=cC_ (dv la) (dv lb) k;have:=kZ (dv la) k;have:=kZ (dv lb) k;omega)))) O (go4 ?_);refine sQ (aE (fZ O O) (congrArg (Value.int .i64) (gX oo_))) O (go2 ?_);refine ⟨pp_,_,_,(List.Sublist.refl _),oo_,k+1,_,_,_,⟨?s5,?s6,?s7⟩,?mem,rfl,⟨by omega,hO',hD.append (DL.one (Nat.mod_lt _ dd_)),by simp [hlen],RK hlen hdv⟩⟩
   case mem=>rfl
   case s5=>rfl
   case s6=>rw [← OU];rfl
   case s7=>rfl
  replace hc:=cB_ hc
  obtain rfl:k=max la.length lb.length+1:=by omega
  refine go3 ?_;refine sQ (eH aH O (fun w hw=>gH v l hD oo_ w (SL.sl (hO.sl lZ) hw))) O (go3 ?_);refine rt1 ?_;exact r9 hD (by rw [hdv,VH hDa hDb]) (hO.slf lZ)
theorem oZ (va vb:Value) (la lb:List Nat) (hDa:DL la) (hDb:DL lb) (hna:la.length≤200) (hnb:lb.length≤200) (hle:dv lb≤dv la) (w:World) (hva:Sl w va la) (hvb:Sl w vb lb) :
    Calls prog 195 [va,vb].toArray w (fun e w'=>∃ v,e = .returned v∧Ext w w'∧Slf w.heap.size w' v (dl (dv la - dv lb))):=by
 refine rU (N:=35) func195 O O zz_ ?_;obtain ⟨w0,rfl⟩:=nm w;refine giI ?_;refine DT ?_;refine cE (rg [] 5 28) (fun g nn M=>∃ (k:Nat) (v:Value) (l:List Nat) (L:List Blk) (c:Nat),(g 5=v∧g 6 = .int .i64 (c:Int)∧g 7 = .int .i64 (k:Int))∧M=L++[]∧nn=la.length - k∧(k≤la.length∧OwnL w0 3 v l L∧DL l∧l.length=k∧c≤1∧dv l+dv lb % 65536 ^ k=dv la % 65536 ^ k+c*65536 ^ k)) (la.length - 0) ?start ?round
 case start =>
  refine ⟨_,(List.Sublist.refl _),0,_,[],[],0,⟨?a5,?a6,?a7⟩,?mem0,rfl,⟨Nat.zero_le _,.nil,DL.nil,rfl,by decide,by simp [dv,Nat.mod_one]⟩⟩
  case mem0=>rfl
  case a5=>rfl
  case a6=>rfl
  case a7=>rfl
 case round =>
  rintro nn g M ⟨k,v,l,L,c,⟨hg5,hg6,hg7⟩,rfl,hmeas,⟨hk,hO,hD,hlen,hcb,hdv⟩⟩;subst nn;refine gS3 hg5 hg6 hg7 ?_;clear hg5 hg6 hg7;refine go4 ?_;refine sQ (lK bQ O hva.old) O (go2 ?_);refine aT _ O (fun hc=>?_) (fun hc=>?_)
  ·replace hc:=cB_ hc
   have hc:k<la.length:=by omega
   refine go4 ?_;refine lJ sn 11 [] [] (go2 ?_);refine pQ O (vQ bQ O O hva.old oo_) (pQ O (rW tyT O hva.old oo_) (go2 ?_));refine pQ O (eH aH O (fun w hw=>e7 vb lb k w (SL.sl (M:=_) hvb.old hw))) (go2 ?_);refine pQ O (aE (lL O O) (congrArg (Value.int .i64) (show _=((dg (dv la) k:Nat):Int) - ((dg (dv lb) k:Nat):Int) - (c:Int) by rw [l4 la k hDa,l4 lb k hDb];exact gX_ (kZ _ _) (kZ _ _) hcb))) (mQ ?_);refine aT _ O (fun h26=>?_) (fun h26=>?_)
   ·replace h26:=cB_ h26
    refine mQ ?_;refine sQ (aE (gV O) (show _=IV (md (dg (dv la) k) (dg (dv lb) k) c) by first|exact ZD (kZ _ _) (kZ _ _) hcb h26|exact ZE h26)) O ?_;refine aQ O (gQ fG z_3 mR O dd_ O (CB _) (fun b31 hb31=>aQ O (xS fG RH O O hO (SL.mine (l:=[md (dg (dv la) k) (dg (dv lb) k) c]) (.head _) (Nat.le_refl _)) (List.sublist_cons_self _ _) (by simp;omega) (fun v' L' hO'=>?_))));refine go4 ?_;refine sQ (aE (fZ O O) (congrArg (Value.int .i64) (gX oo_))) O (go2 ?_);refine ⟨pp_,_,_,(List.Sublist.refl _),oo_,k+1,_,_,_,mb (dg (dv la) k) (dg (dv lb) k) c,⟨?s5,?s6,?s7⟩,?mem,rfl,⟨by omega,hO',hD.append (DL.one (cQ_ (kZ _ _) (kZ _ _) hcb)),by simp [hlen],cO_ _ _ _,DI hlen hcb hdv⟩⟩
    case mem=>rfl
    case s5=>rfl
    case s6=>first|exact Y9 h26|exact ZA h26
    case s7=>rfl
   replace h26:=cB_ h26
   refine go3 ?_;refine sQ (aE (gV O) (show _=IV (md (dg (dv la) k) (dg (dv lb) k) c) by first|exact ZD (kZ _ _) (kZ _ _) hcb h26|exact ZE h26)) O ?_;refine aQ O (gQ fG z_3 mR O dd_ O (CB _) (fun b31 hb31=>aQ O (xS fG RH O O hO (SL.mine (l:=[md (dg (dv la) k) (dg (dv lb) k) c]) (.head _) (Nat.le_refl _)) (List.sublist_cons_self _ _) (by simp;omega) (fun v' L' hO'=>?_))));refine go4 ?_;refine sQ (aE (fZ O O) (congrArg (Value.int .i64) (gX oo_))) O (go2 ?_);refine ⟨pp_,_,_,(List.Sublist.refl _),oo_,k+1,_,_,_,mb (dg (dv la) k) (dg (dv lb) k) c,⟨?s5,?s6,?s7⟩,?mem,rfl,⟨by omega,hO',hD.append (DL.one (cQ_ (kZ _ _) (kZ _ _) hcb)),by simp [hlen],cO_ _ _ _,DI hlen hcb hdv⟩⟩
   case mem=>rfl
   case s5=>rfl
   case s6=>first|exact Y9 h26|exact ZA h26
   case s7=>rfl
  replace hc:=cB_ hc
  obtain rfl:k=la.length:=by omega
  refine go3 ?_;refine sQ (eH aH O (fun w hw=>gH v l hD oo_ w (SL.sl (hO.sl lZ) hw))) O (go3 ?_);refine rt1 ?_;exact r9 hD (RD hDa hD hlen hle hdv hcb) (hO.slf lZ)
theorem vW (va vb:Value) (la lb:List Nat) (hDa:DL la) (hDb:DL lb) (hna:la.length≤200) (hnb:lb.length≤200) (w:World) (hva:Sl w va la) (hvb:Sl w vb lb) :
    Calls prog 194 [va,vb].toArray w (fun e w'=>e = .returned (.bool (decide (dv la<dv lb)))∧Ext w w'):=by
 refine cV (N:=30) func194 O O zz_ ?_;obtain ⟨w0,rfl⟩:=nm w;refine giI ?_;refine go6 ?_;refine sQ (lK bQ O hva.old) O (go_ ?_);refine sQ (lK bQ O hvb.old) O (sQ (ZZ O O) O (go4 ?_));refine cE (rg [4,5] 12 18) (fun g nn M=>∃ (k:Nat),(g 5 = .int .i64 ((k:Int) - 1))∧M=[]∧nn=k+0∧(k≤max la.length lb.length∧dv la / 65536 ^ k=dv lb / 65536 ^ k)) (max la.length lb.length) ?start ?round
 case start =>
  refine ⟨_,(List.Sublist.refl _),max la.length lb.length,?a5,?mem0,rfl,⟨Nat.le_refl _,Q8 hDa hDb⟩⟩
  case mem0=>rfl
  case a5=>exact congrArg (Value.int .i64) (bR (by unfold I64;omega))
 case round =>
  rintro nn g M ⟨k,hg5,rfl,hmeas,⟨hk,hd⟩⟩;subst nn;refine gS1 hg5 ?_;clear hg5;refine go5 ?_;refine aT _ O (fun hc=>?_) (fun hc=>?_)
  ·replace hc:=cB_ hc
   obtain ⟨m,rfl⟩:∃ m,k=m+1:=⟨k - 1,by omega⟩;refine go5 ?_;refine sQ (aE (gV O) (congrArg (Value.int .i64) (show (((m+1:Nat):Int) - 1)=(m:Int) by omega))) O (sQ (eH aH O (fun w hw=>e7 va la m w (SL.sl (M:=_) hva.old hw))) O (go_ ?_));refine sQ (aE (gV O) (congrArg (Value.int .i64) (show (((m+1:Nat):Int) - 1)=(m:Int) by omega))) O (sQ (eH aH O (fun w hw=>e7 vb lb m w (SL.sl (M:=_) hvb.old hw))) O (go2 ?_));refine aT _ O (fun hne=>?_) (fun hne=>?_)
   ·replace hne:=cB_ hne
    have hne':dg (dv la) m≠dg (dv lb) m:=by rw [← l4 la m hDa,← l4 lb m hDb];omega
    refine go2 ?_;refine sQ (aE (gV O) (congrArg (Value.int .i64) (show (((m+1:Nat):Int) - 1)=(m:Int) by omega))) O (sQ (eH aH O (fun w hw=>e7 va la m w (SL.sl (M:=_) hva.old hw))) O (go_ ?_));refine sQ (aE (gV O) (congrArg (Value.int .i64) (show (((m+1:Nat):Int) - 1)=(m:Int) by omega))) O (sQ (eH aH O (fun w hw=>e7 vb lb m w (SL.sl (M:=_) hvb.old hw))) O (go4 ?_));refine rt1 ?_
    (rw [l4 la m hDa,l4 lb m hDb];exact congrArg Value.bool (VA hd hne'))
   replace hne:=cB_ hne
   have heq':dg (dv la) m=dg (dv lb) m:=by rw [← l4 la m hDa,← l4 lb m hDb];omega
   refine go2 ?_;refine sQ (aE (gV O) (congrArg (Value.int .i64) (show (((m+1:Nat):Int) - 1)=(m:Int) by omega))) O (go3 ?_);refine ⟨pp_,_,_,(List.Sublist.refl _),oo_,m,?s5,?mem,rfl,⟨by omega,U9 hd heq'⟩⟩
   case mem=>rfl
   case s5=>exact congrArg (Value.int .i64) (bR (n:=(m:Int) - 1) (by unfold I64;omega))
  replace hc:=cB_ hc
  obtain rfl:k=0:=by omega
  refine go5 ?_;refine rt1 ?_
  (simp only [Nat.pow_zero,Nat.div_one] at hd;rw [hd];exact congrArg Value.bool (decide_eq_false (Nat.lt_irrefl _)).symm)
theorem u6 (va vb:Value) (la lb:List Nat) (hDa:DL la) (hDb:DL lb) (hna:la.length≤200) (hnb:lb.length≤200) (w:World) (hva:Sl w va la) (hvb:Sl w vb lb) :
    Calls prog 193 [va,vb].toArray w (fun e w'=>∃ v,e = .returned v∧Ext w w'∧Slf w.heap.size w' v (dl (dv la*dv lb))):=by
 refine rU (N:=72) func193 O O zz_ ?_;obtain ⟨w0,rfl⟩:=nm w;refine giI ?_;refine go5 ?_;refine sQ (lK bQ O hva.old) O (go_ ?_);refine sQ (lK bQ O hvb.old) O (sQ (aE (fZ O O) (congrArg (Value.int .i64) (lE oo_))) O (sQ (aE (fZ O O) (congrArg (Value.int .i64) (gX oo_))) O (aQ O (Z9 fG RH z_3 O O oo_ (fun b17 hb17=>go7 ?_)))));refine cE (rg [6,7,8,9,10] 18 52) (fun g nn M=>∃ (i:Nat) (o:List Nat),(g 6 = .int .i64 (i:Int))∧M=[⟨b17,3,iw o⟩]∧nn=la.length - i∧(i≤la.length∧DL o∧o.length=(la.length+lb.length+1)∧dv o=dv la % 65536 ^ i*dv lb)) (la.length - 0) ?start ?round
 case start =>
  refine ⟨_,(List.Sublist.refl _),0,List.replicate (la.length+lb.length+1) 0,?a6,?mem0,rfl,⟨Nat.zero_le _,fun d hd=>by rw [List.eq_of_mem_replicate hd];decide,by simp,by rw [AU,Nat.pow_zero,Nat.mod_one,Nat.zero_mul]⟩⟩
  case mem0=>rfl
  case a6=>rfl
 case round =>
  rintro nn g M ⟨i,o,hg6,rfl,hmeas,⟨hi,hDo,hlo,hdv⟩⟩;subst nn;refine gS1 hg6 ?_;clear hg6;refine go4 ?_;refine sQ (lK bQ O hva.old) O (go2 ?_);refine aT _ O (fun hc=>?_) (fun hc=>?_)
  ·replace hc:=cB_ hc
   have hc:i<la.length:=by omega
   refine go8 ?_;refine cE (rg [7] 24 27) (fun g nn M=>∃ (k:Nat) (l:List Nat),(g 7 = .int .i64 (k:Int))∧M=[⟨b17,3,iw l⟩]∧nn=lb.length - k∧(k≤lb.length∧RowIn (la.length+lb.length+1) (dv lb) i (dg (dv la) i) o k l)) (lb.length - 0) ?start ?round
   case start =>
    refine ⟨_,(List.Sublist.refl _),0,o,?a7,?mem0,rfl,⟨Nat.zero_le _,RowIn.start _ _ _ hDo hlo⟩⟩
    case mem0=>rfl
    case a7=>rfl
   case round =>
    rintro nn g M ⟨k,l,hg7,rfl,hmeas,⟨hkl,hR⟩⟩;subst nn;refine gS1 hg7 ?_;clear hg7;refine go4 ?_;refine sQ (lK bQ O hvb.old) O (go2 ?_);refine aT _ O (fun hk2=>?_) (fun hk2=>?_)
    ·replace hk2:=cB_ hk2
     have hk2:k<lb.length:=by omega
     refine go3 ?_;refine gdr sn [0,4,8,12,16,20,24,28,32,36,40,44,48,52,56,60,64,68,72,76,80,85] [21] mix (by kernel_rfl) (go3 ?_);refine pQ O (aE (fZ O O) (congrArg (Value.int .i64) (lE oo_))) (go3 ?_);refine pQ O (aE (fZ O O) (congrArg (Value.int .i64) (lE oo_))) (pQ O (z5 bQ O O oo_ oo_) (pQ O (cU tyT O mm_ (fp_ (by rw [hR.len];omega))) ?_));refine go2 ?_;refine pQ O (vQ bQ O O hva.old oo_) (pQ O (rW tyT O hva.old oo_) (go2 ?_));refine pQ O (vQ bQ O O hvb.old oo_) (pQ O (rW tyT O hvb.old oo_) (go_ ?_));refine pQ O (aE (fZ O O) (show _=IV (l.getD (i+k) 0+dg (dv la) i*dg (dv lb) k) by rw [l4 la i hDa,l4 lb k hDb];exact bJ_ (hR.high _ (Nat.le_refl _)) (kZ _ _) (kZ _ _))) (pQ O (z5 bQ O O oo_ oo_) ?_);refine dC O O (GP tyT O O uu_ (by rw [hR.len];omega) (.inl eU) ⟨nf,ss_,?_⟩);refine go3 ?_;refine sQ (aE (fZ O O) (congrArg (Value.int .i64) (gX oo_))) O (go2 ?_);refine ⟨pp_,_,_,(List.Sublist.refl _),oo_,k+1,_,?s7,?mem,rfl,⟨by omega,hR.step oo_ (kZ _ _)⟩⟩
     case mem=>rfl
     case s7=>rfl
    replace hk2:=cB_ hk2
    obtain rfl:k=lb.length:=by omega
    refine go8 ?_;refine cE (rg [8,9,10] 51 19) (fun g nn M=>∃ (m:Nat) (l:List Nat) (c:Nat),(g 8 = .int .i64 (c:Int)∧g 9 = .int .i64 (m:Int))∧M=[⟨b17,3,iw l⟩]∧nn=(la.length+lb.length+1) - m∧(m≤(la.length+lb.length+1)∧CarryIn (la.length+lb.length+1) (dv o+65536 ^ i*(dg (dv la) i*(dv lb % 65536 ^ lb.length))) m l c)) ((la.length+lb.length+1) - 0) ?start ?round
    case start =>
     refine ⟨_,(List.Sublist.refl _),0,l,0,⟨?a8,?a9⟩,?mem0,rfl,⟨Nat.zero_le _,hR.done⟩⟩
     case mem0=>rfl
     case a8=>rfl
     case a9=>rfl
    case round =>
     rintro nn g M ⟨m,l,c,⟨hg8,hg9⟩,rfl,hmeas,⟨hml,hC⟩⟩;subst nn;refine gS2 hg8 hg9 ?_;clear hg8 hg9;refine go4 ?_;refine sQ (DM bQ O) O (go2 ?_);refine aT _ O (fun hm2=>?_) (fun hm2=>?_)
     ·replace hm2:=cB_ hm2
      have hm2:m<(la.length+lb.length+1):=by omega
      refine go6 ?_;refine sQ (z5 bQ O O oo_ oo_) O (sQ (cU tyT O mm_ (fp_ (by rw [hC.len];omega))) O ?_);refine go_ ?_;refine sQ (aE (fZ O O) (congrArg (Value.int .i64) (gw_ (by have:=hC.low m;have:=hC.clt;omega)))) O (go6 ?_);refine sQ (aE (pW O O dd_) (O9 _)) O (sQ (z5 bQ O O oo_ oo_) O (aQ O (GP tyT O O uu_ (by rw [hC.len];omega) (.inl eU) ?_)));refine go3 ?_;refine sQ (aE (oF O O dd_) (congrArg (Value.int .i64) (fM_ (by have:=hC.low m;have:=hC.clt;omega)))) O (go4 ?_);refine sQ (aE (fZ O O) (congrArg (Value.int .i64) (gX oo_))) O (go2 ?_);refine ⟨pp_,_,_,(List.Sublist.refl _),oo_,m+1,_,_,⟨?s8,?s9⟩,?mem,rfl,⟨by omega,hC.step oo_⟩⟩
      case mem=>rfl
      case s8=>rfl
      case s9=>rfl
     replace hm2:=cB_ hm2
     obtain rfl:m=(la.length+lb.length+1):=by omega
     have hT:(dv o+65536 ^ i*(dg (dv la) i*(dv lb % 65536 ^ lb.length)))=dv la % 65536 ^ (i+1)*dv lb:=by rw [hdv];exact V3 (uS lb hDb)
     have hF:=hC.fin (by rw [hT];exact ay_ oo_ (uS lb hDb));rw [hT] at hF;refine go3 ?_;refine sQ (aE (fZ O O) (congrArg (Value.int .i64) (gX oo_))) O (go2 ?_);refine ⟨pp_,_,_,(List.Sublist.refl _),oo_,i+1,_,?s6,?mem,rfl,⟨by omega,hF⟩⟩
     case mem=>rfl
     case s6=>rfl
  replace hc:=cB_ hc
  obtain rfl:i=la.length:=by omega
  refine go3 ?_;refine sQ (eH aH O (fun w hw=>gH _ o hDo oo_ w (SL.sl (SL.mine' (.head _) hlo (Nat.le_refl _)) hw))) O (go3 ?_);refine rt1 ?_;exact r9 hDo (by rw [hdv,Nat.mod_eq_of_lt (uS la hDa)]) (SLf.mine hb17 (.head _) hlo (Nat.le_refl _))
theorem lH (va:Value) (la:List Nat) (k:Int) (w:World) (hva:Sl w va la) :
   Calls prog 192 [va,.int .i64 k].toArray w (fun e w'=>e = .returned (.int .i64 ((atD la k:Nat):Int))∧Ext w w'):=by
 refine cV (N:=10) func192 O O zz_ ?_;obtain ⟨w0,rfl⟩:=nm w;refine giI ?_;refine go8 ?_;refine aT _ O (fun h0=>?_) (fun h0=>?_)
 ·replace h0:=cB_ h0
  refine go4 ?_;refine rt1 ?_
  (rw [a6_ h0];rfl)
 replace h0:=cB_ h0
 refine go3 ?_;refine sQ (aE (gV O) (show _=Value.int .i64 (k.toNat:Int) from congrArg (Value.int .i64) oo_)) O (sQ (eH aH O (fun w hw=>e7 va la k.toNat w (SL.sl (M:=_) hva.old hw))) O (go3 ?_));refine rt1 ?_;rw [a7_ h0]
theorem pO (a:R) (ha:a.Ok) :
    Ret prog 153 [RV a] (.tuple #[.int .i64 (lW a),.bool (rF a)]):=by
 refine bG (N:=41) func153 O O zz_ (fun w0=>?_);refine giI ?_;refine go_ ?_;refine aQ O (gW O O (fun b1 hb1=>go4 ?_));refine sQ (bU tyT O mm_ (cJ ha)) O ?_;refine sQ (aW aH (eX a ha) O) O (go7 ?_)
 cases hg:a.good
 ·refine wR ?_;refine rt2 ?_;exact V4 hg
 refine sQ (bT fdT dd_ O) O (sQ (dS arT O O dd_ dd_) O (sQ (cU tyT O mm_ (kX (r:=a) (k:=1) (by rw [ha.len];decide))) O ?_));refine go3 ?_;refine aT _ O (fun h16=>?_) (fun h16=>?_)
 ·replace h16:=cB_ h16
  refine go5 ?_;refine rt2 ?_;exact PZ (aL_ ha h16)
 replace h16:=cB_ h16
 refine go6 ?_;refine cE (rg [2,3,5] 17 9) (fun g nn M=>∃ (k:Nat),(g 5 = .int .i64 (k:Int))∧M=[⟨b1,31,a.cells⟩]∧nn=16 - k∧(2≤k∧k≤16∧∀ j,2≤j→j<k→a.w.getD j 0=0)) (14) ?start ?round
 case start =>
  refine ⟨_,(List.Sublist.refl _),2,?a5,?mem0,rfl,⟨Nat.le_refl _,by decide,fun j h1 h2=>by omega⟩⟩
  case mem0=>rfl
  case a5=>rfl
 case round =>
  rintro nn g M ⟨k,hg5,rfl,hmeas,⟨hk2,hk,hz⟩⟩;subst nn;refine gS1 hg5 ?_;clear hg5;refine go5 ?_;refine aT _ O (fun hc=>?_) (fun hc=>?_)
  ·replace hc:=cB_ hc
   have hc:k<16:=by omega
   refine go5 ?_;refine sQ (bT fdT dd_ O) O (sQ (dS arT O O oo_ oo_) O (sQ (cU tyT O mm_ (kX (r:=a) (k:=k) (by rw [ha.len];omega))) O ?_));refine go2 ?_;refine aT _ O (fun hz2=>?_) (fun hz2=>?_)
   ·replace hz2:=cB_ hz2
    refine go5 ?_;refine rt2 ?_;exact PZ (V5 ha hk2 oo_)
   replace hz2:=cB_ hz2
   refine go3 ?_;refine sQ (aE (fZ O O) (congrArg (Value.int .i64) (gX oo_))) O (go2 ?_);refine ⟨pp_,_,_,(List.Sublist.refl _),oo_,k+1,?s5,?mem,rfl,⟨by omega,by omega,fun j h1 h2=>by rcases Nat.eq_or_lt_of_le (Nat.le_of_lt_succ h2) with rfl|h3;omega;exact hz j h1 h3⟩⟩
   case mem=>rfl
   case s5=>rfl
  replace hc:=cB_ hc
  obtain rfl:k=16:=by omega
  have hws:=P1 ha oo_ hz;refine go2 ?_;refine sQ (bT fdT dd_ O) O (sQ (dS arT O O dd_ dd_) O (sQ (cU tyT O mm_ (kX (r:=a) (k:=1) (by rw [ha.len];decide))) O ?_));refine sQ (dD fD y9 O) O (go_ ?_);refine sQ (bT fdT dd_ O) O (sQ (dS arT O O dd_ dd_) O (sQ (cU tyT O mm_ (kX (r:=a) (k:=0) (by rw [ha.len];decide))) O ?_));refine sQ (dD fD y9 O) O (sQ (aE (fZ O O) (congrArg (Value.int .i64) ((P1 ha oo_ hz).1))) O (go4 ?_));refine sQ (bT fdT dd_ O) O (sQ (cU tyT O mm_ O) O ?_);refine go_ ?_;refine aT _ O (fun hn=>?_) (fun hn=>?_)
  ·replace hn:=cB_ hn
   refine go7 ?_;refine rt2 ?_;exact aJ_ hg hws.2 hn
  replace hn:=cB_ hn
  refine go7 ?_;refine rt2 ?_;exact aK_ hg hws.2 hn
theorem rE (n:Int) (hn:I64 n) :
   Ret prog 155 [.int .i64 n] (RV (Z.of n).enc):=by
 refine bG (N:=35) func155 O O zz_ (fun w0=>?_);refine giI ?_;unfold I64 at hn;refine go_ ?_;refine aQ O (dL kB (fun b2 hb2=>go6 ?_));refine aT _ O (fun h0=>?_) (fun h0=>?_)
 ·replace h0:=cB_ h0
  obtain ⟨m,rfl⟩:∃ m:Nat,n=m:=⟨n.toNat,by omega⟩;refine go2 ?_;refine sQ (aE (pW O O dd_) (show _=IV (m % 65536) from O9 _)) O (go_ ?_);refine sQ (aE (oF O O dd_) (I7 65536 oo_)) O (sQ (aE (pW O O dd_) (show _=IV (m / 65536 % 65536) from O9 _)) O (go_ ?_));refine sQ (aE (oF O O dd_) (I7 4294967296 oo_)) O (sQ (aE (pW O O dd_) (show _=IV (m / 4294967296 % 65536) from O9 _)) O (go_ ?_));refine sQ (aE (oF O O dd_) (I7 281474976710656 oo_)) O (aQ O (gQ fG z_3 mR O dd_ O (X8 _ _ _ _) (fun b16 hb16=>sQ (eH aH O (fun w hw=>iO false _ (dl4 m) (XX oo_) (by simp [dl4]) w (SL.sl (SL.mine (l:=dl4 m) (.head _) (Nat.le_refl _)) hw))) O ?_)));refine aQ O (bE tyT O O uu_ (aG _) O (bC _) (.inl eU) ?_);refine go2 ?_;refine rtX O ⟨_,_,_,_,_,_,rfl,mm_,tyT,_,(dB (aG _)),(aG _),rfl⟩ ?_
  (rw [QN,u4];rfl)
 replace h0:=cB_ h0
 obtain ⟨m,rfl⟩:∃ m:Nat,n = -((m:Int)+1):=⟨(-n - 1).toNat,by omega⟩;refine go4 ?_;refine sQ (aE (Z0 O) (congrArg (Value.int .i64) (bT_ oo_))) O (go4 ?_);refine sQ (aE (pW O O dd_) (show _=IV (m % 65536) from O9 _)) O (go_ ?_);refine sQ (aE (oF O O dd_) (I7 65536 oo_)) O (sQ (aE (pW O O dd_) (show _=IV (m / 65536 % 65536) from O9 _)) O (go_ ?_));refine sQ (aE (oF O O dd_) (I7 4294967296 oo_)) O (sQ (aE (pW O O dd_) (show _=IV (m / 4294967296 % 65536) from O9 _)) O (go_ ?_));refine sQ (aE (oF O O dd_) (I7 281474976710656 oo_)) O (aQ O (gQ fG z_3 mR O dd_ O (X8 _ _ _ _) (fun b31 hb31=>aQ O (gQ fG z_3 mR O dd_ O (CB 1) (fun b32 hb32=>aQ O (lS aH O (fun w hw=>vX _ _ (dl4 m) [1] (XX oo_) (DL.one dd_) (by simp [dl4]) zz_ w (SL.sl (SL.mine (l:=dl4 m) (.tail _ (.head _)) (Nat.le_refl _)) hw) (SL.sl (SL.mine (l:=[1]) (.head _) (Nat.le_refl _)) hw)) (fun v9 L9 h9=>?_)))))));refine sQ (eH aH O (fun w hw=>iO true _ _ (sI _) (Nat.le_trans (sJ (k:=64) (by rw [QN];simp only [dv];omega)) dd_) w (SL.sl (h9.sl.sub lZ) hw))) O (aQ O (bE tyT O O uu_ (aG _) O (bC _) (.inl eU) ?_));refine go2 ?_;refine rtX O ⟨_,_,_,_,_,_,rfl,mm_,tyT,_,(dB (aG _)),(aG _),rfl⟩ ?_
 (rw [mM,QN];simp only [dv,Nat.mul_zero,Nat.add_zero];rw [fS_];rfl)
theorem rP (r:R) (h:r.Ok) :
    Ret prog 107 [RV r] (.bool r.valid):=by
 refine bG (N:=23) func107 O O zz_ (fun w0=>?_);refine giI ?_;refine go_ ?_;refine aQ O (gW O O (fun b1 hb1=>go3 ?_));refine sQ (bT fdT dd_ O) O (sQ (fM (vs:=uw r.w) tyT O mm_ (iU h.len) ((e8 _).trans h.len)) O ?_);refine sQ (lG lU arT O (.nil _)) O ?_;refine sQ (nY (r:=r.zero) O O (jP 8 dd_ C8 DH (kA h.len) (kA zz_) h.zero_iff)) O ?_;refine go4 ?_;refine sQ (bT fdT dd_ O) O (sQ (cU tyT O mm_ O) O ?_);refine go_ ?_;refine aT _ O (fun hb=>?_) (fun hb=>?_)
 ·replace hb:=cB_ hb
  refine go3 ?_
  cases hz:r.zero
  ·refine go7 ?_;refine rt1 ?_
   simp [R.valid, *]
  refine sQ (bT fdT dd_ O) O (sQ (cU tyT O mm_ O) O ?_);refine go5 ?_;refine rt1 ?_
  simp [R.valid, *]
 replace hb:=cB_ hb
 refine go5 ?_
 cases hz:r.zero
 ·refine go7 ?_;refine rt1 ?_
  simp [R.valid, *]
 refine sQ (bT fdT dd_ O) O (sQ (cU tyT O mm_ O) O ?_);refine go5 ?_;refine rt1 ?_
 simp [R.valid, *]
theorem fU  :
  Ret prog 49 [] (RV Z.bad.enc):=by
 refine bG (N:=2) func49 O O zz_ (fun w0=>?_);refine giI ?_;refine go_ ?_;refine aQ O (dL kB (fun b0 hb0=>go2 ?_));refine sQ (sM kB plT O (.cons O (vs:=[.bool true]) O O (by simp [zR]) (z':=Z.bad.enc.cells) O (.nil _))) O ?_;refine aQ O (bE tyT O O uu_ O O (bC Z.bad.enc) (.inl eU) ?_);refine go2 ?_;refine rtX O ⟨_,_,_,_,_,_,rfl,mm_,tyT,_,(dB O),rfl,rfl⟩ ?_;exact rfl
theorem eV (neg:Bool) (w:List Nat) (hw:w.length=16) (hlim:Lim w) :
   Ret prog 50 [.bool neg,UV w] (RV ⟨false,neg && !(val w==0),w⟩):=by
 refine bG (N:=13) func50 O O zz_ (fun w0=>?_);refine giI ?_
 have hlw:(uw w).length=16:=by rw [e8,hw]
 refine go_ ?_;refine aQ O (gW O O (fun b3 hb3=>aQ O (dL kB (fun b4 hb4=>go2 ?_))));refine lJ (sd (sk s0)) 9 [8] [8] (go2 ?_)
 cases neg
 ·refine go4 ?_;refine pQ O (bU tyT O mm_ hlw) ?_;refine pQ O (sM kB plT O (YA hw)) ?_;refine dC O O (bE tyT O O uu_ (by simp [R.cells,hlw]) O (bC _) (.inl eU) ⟨nf,ss_,?_⟩);refine go2 ?_;refine rtX O ⟨_,_,_,_,_,_,rfl,mm_,tyT,_,(dB (by simp [R.cells,hlw])),(by simp [R.cells,hlw]),rfl⟩ ?_;rfl
 refine pQ O (bU tyT O mm_ hlw) ?_;refine pQ O (lG lU arT O (.nil _)) ?_;refine pQ O (CO (r:=(val w==0)) O O (jP 8 dd_ C8 DH (kA hw) (kA zz_) (y7 hw hlim))) ?_;refine go_ ?_;refine pQ O (bU tyT O mm_ hlw) ?_;refine pQ O (sM kB plT O (YA hw)) ?_;refine dC O O (bE tyT O O uu_ (by simp [R.cells,hlw]) O (bC _) (.inl eU) ⟨nf,ss_,?_⟩);refine go2 ?_;refine rtX O ⟨_,_,_,_,_,_,rfl,mm_,tyT,_,(dB (by simp [R.cells,hlw])),(by simp [R.cells,hlw]),rfl⟩ ?_;rfl
theorem fP (rs:List R) (hrs:∀ r∈rs,r.Ok) (b T:Nat) (w:World) (hb:w.heap[b]? = some (.cells (rs.flatMap R.cells).toArray T (0,0))) (hn:rs.length≤1000) :
    Calls prog 48 [.slice (some ⟨b,0,none⟩) rs.length rs.length].toArray w (fun e w'=>e = .returned (.bool (rs.all R.good))∧Ext w w'):=by
 refine cV (N:=19) func48 O O zz_ ?_;obtain ⟨w0,rfl⟩:=nm w;refine giI ?_;refine go6 ?_;refine sQ (DM yB O) O (go3 ?_);refine cE (rg [2,4] 7 12) (fun g nn M=>∃ (k:Nat),(g 7 = .int .i64 (k:Int))∧M=[]∧nn=rs.length - k∧(k≤rs.length∧(rs.take k).all R.good=true)) (rs.length - 0) ?start ?round
 case start =>
  refine ⟨_,(List.Sublist.refl _),0,?a7,?mem0,rfl,⟨Nat.zero_le _,rfl⟩⟩
  case mem0=>rfl
  case a7=>rfl
 case round =>
  rintro nn g M ⟨k,hg7,rfl,hmeas,⟨hk,hall⟩⟩;subst nn;refine gS1 hg7 ?_;clear hg7;refine go4 ?_;refine aT _ O (fun hc=>?_) (fun hc=>?_)
  ·replace hc:=cB_ hc
   obtain ⟨r,hr⟩:∃ r,rs[k]? = some r:=⟨_,List.getElem?_eq_getElem oo_⟩;have hrok:=hrs r (List.mem_of_getElem? hr);refine go4 ?_;refine sQ (z5 yB O O oo_ oo_) O (sQ (O3 (vs:=r.cells) tyT O hb zz_ (by rw [show (0+(k:Int).toNat*18)=k*18 by omega];exact BR R.cells 18 rs k r (fun y hy=>cJ (hrs y hy)) hr) (cJ hrok)) O ?_);refine aQ O (dL kB (fun b4 hb4=>aQ O (bE tyT O O uu_ (cJ hrok) O (bC _) (.inl eU) ?_)));refine go2 ?_;refine sQ (bT fdT dd_ O) O (sQ (cU tyT O mm_ O) O ?_);refine go_ ?_
   cases hbad:r.bad
   ·refine sQ (bU tyT O mm_ (cJ hrok)) O ?_;refine sQ (aW aH (rP r hrok) O) O (go3 ?_);refine aT _ O (fun hx=>?_) (fun hx=>?_)
    ·replace hx:=cB_ hx
     skip
     refine go4 ?_;refine rt1 ?_;exact congrArg Value.bool (AJ hr (by simp [R.good,hbad,hx]))
    replace hx:=cB_ hx
    skip
    refine go5 ?_;refine ⟨pp_,_,_,(List.Sublist.cons _ (List.Sublist.refl _)),oo_,k+1,?s7,?mem,rfl,⟨by omega,by rw [H5 oo_ hr];simp [hall,R.good,hbad,hx]⟩⟩
    case mem=>rfl
    case s7=>(show Value.int .i64 _=_;rw [bR (by unfold I64;omega)];rfl)
   refine mQ ?_;refine rt1 ?_;exact congrArg Value.bool (AJ hr (by simp [R.good,hbad]))
  replace hc:=cB_ hc
  have hke:k=rs.length:=by omega
  refine go5 ?_;refine rt1 ?_
  (subst hke;rw [List.take_length] at hall;exact congrArg Value.bool hall.symm)
theorem HO (xs ys:List Nat) (hx:xs.length=16) (hy:ys.length=16) (lx:Lim xs) (ly:Lim ys) :
    Ret prog 103 [UV xs,UV ys] (.tuple #[UV (toL 16 (val xs+val ys)),.bool (((cy (val xs) (val ys) 16:Nat):Int)==0)]):=by
 refine bG (N:=33) func103 O O zz_ (fun w0=>?_);refine giI ?_;refine go_ ?_;refine aQ O (gW O O (fun b2 hb2=>aQ O (gW O O (fun b3 hb3=>aQ O (dL lU (fun b4 hb4=>go3 ?_))))));refine aQ O (dL lU (fun b6 hb6=>go9 ?_));refine cE (rg [] 7 23) (fun g nn M=>∃ (k:Nat),(g 7 = .int .u64 ((cy (val xs) (val ys) k:Nat):Int)∧g 9 = .int .i64 (k:Int))∧M=[⟨b6,29,uw (uP k (val xs+val ys) 16)⟩,⟨b4,29,uw (List.replicate 16 0)⟩,⟨b3,29,uw ys⟩,⟨b2,29,uw xs⟩]∧nn=16 - k∧(k≤16)) (16) ?start ?round
 case start =>
  refine ⟨_,(List.Sublist.refl _),0,⟨?a7,?a9⟩,?mem0,rfl,Nat.zero_le _⟩
  case mem0=>rw [vL]
  case a7=>rw [bl_];rfl
  case a9=>rfl
 case round =>
  rintro nn g M ⟨k,⟨hg7,hg9⟩,rfl,hmeas,hk⟩;subst nn;refine gS2 hg7 hg9 ?_;clear hg7 hg9;refine go4 ?_;refine aT _ O (fun hc=>?_) (fun hc=>?_)
  ·replace hc:=cB_ hc
   have hc:k<16:=by omega
   have hcy:=fe_ (val xs) (val ys) k;refine go8 ?_;refine lJ (sk (sk (sk (sk s0)))) 12 [] [] (go2 ?_);refine pQ O (dS arT O O oo_ oo_) (pQ O (cU tyT O mm_ (pU oo_)) ?_);refine pQ O (dD fD eO O) (go_ ?_);refine pQ O (dS arT O O oo_ oo_) (pQ O (cU tyT O mm_ (pU oo_)) ?_);refine pQ O (dD fD eO O) (go_ ?_);refine pQ O (aE (fZ O O) (congrArg (Value.int .u64) (ef_ hcy (dA lx k) (dA ly k)))) (go5 ?_);refine sQ (aE (dD eO fD O) (lO _)) O (sQ (dS arT O O oo_ oo_) O (aQ O (kV tyT O O uu_ (by rw [gL _ hk];exact hc) (.inl eU) ?_)));refine go3 ?_;refine sQ (aE (rA O O dd_) (congrArg (Value.int .u64) (nQ _ 32))) O (go6 ?_);refine ⟨pp_,_,_,(List.Sublist.refl _),oo_,k+1,⟨?s7,?s9⟩,?mem,rfl,oo_⟩
   case mem=>rw [dU xs k lx,dU ys k ly,RN,uQ _ hc]
   case s7=>rw [← RM,← dU xs k lx,← dU ys k ly];rfl
   case s9=>exact congrArg (Value.int .i64) (bR (n:=(k:Int)+1) (by unfold I64;omega))
  replace hc:=cB_ hc
  obtain rfl:k=16:=by omega
  refine go2 ?_;refine sQ (bU tyT O mm_ (by simp [uw,gL])) O ?_;refine go2 ?_;refine aQ O (bE tyT O O uu_ (by simp [uw,gL]) O (fL _) (.inl eU) ?_);refine go3 ?_;refine rB O (.inr O) ⟨_,_,_,_,_,_,rfl,mm_,tyT,_,(dB (by simp [uw,gL])),(by simp [uw,gL]),rfl⟩ O ?_;rw [yQ];rfl
theorem rQ (xs ys:List Nat) (hx:xs.length=16) (hy:ys.length=16) (lx:Lim xs) (ly:Lim ys) (hle:val ys≤val xs) :
    Ret prog 105 [UV xs,UV ys] (UV (toL 16 (val xs - val ys))):=by
 refine bG (N:=31) func105 O O zz_ (fun w0=>?_);refine giI ?_;refine go_ ?_;refine aQ O (gW O O (fun b2 hb2=>aQ O (gW O O (fun b3 hb3=>aQ O (dL lU (fun b4 hb4=>go2 ?_))))));refine aQ O (dL lU (fun b5 hb5=>go9 ?_));refine cE (rg [] 6 24) (fun g nn M=>∃ (k:Nat),(g 6 = .int .u64 ((bw (val xs) (val ys) k:Nat):Int)∧g 9 = .int .i64 (k:Int))∧M=[⟨b5,29,uw (uP k (val xs - val ys) 16)⟩,⟨b4,29,uw (List.replicate 16 0)⟩,⟨b3,29,uw ys⟩,⟨b2,29,uw xs⟩]∧nn=16 - k∧(k≤16)) (16) ?start ?round
 case start =>
  refine ⟨_,(List.Sublist.refl _),0,⟨?a6,?a9⟩,?mem0,rfl,Nat.zero_le _⟩
  case mem0=>rw [vL]
  case a6=>rw [be_];rfl
  case a9=>rfl
 case round =>
  rintro nn g M ⟨k,⟨hg6,hg9⟩,rfl,hmeas,hk⟩;subst nn;refine gS2 hg6 hg9 ?_;clear hg6 hg9;refine go4 ?_;refine aT _ O (fun hc=>?_) (fun hc=>?_)
  ·replace hc:=cB_ hc
   have hc:k<16:=by omega
   have hbw:=fa_ (val xs) (val ys) k;refine go8 ?_;refine lJ (sk (sk (sk (sk s0)))) 12 [] [] (go_ ?_);refine pQ O (dS arT O O oo_ oo_) (pQ O (cU tyT O mm_ (pU oo_)) ?_);refine pQ O (dD fD eO O) (go_ ?_);refine pQ O (dS arT O O oo_ oo_) (pQ O (cU tyT O mm_ (pU oo_)) ?_);refine pQ O (dD fD eO O) (go2 ?_);refine pQ O (aE (lL O O) (congrArg (Value.int .u64) (TC hbw (dA lx k) (dA ly k)))) (go5 ?_);refine sQ (aE (dD eO fD O) (lO _)) O (sQ (dS arT O O oo_ oo_) O (aQ O (kV tyT O O uu_ (by rw [gL _ hk];exact hc) (.inl eU) ?_)));refine go3 ?_;refine sQ (aE (rA O O dd_) (congrArg (Value.int .u64) (nQ _ 63))) O (go6 ?_);refine ⟨pp_,_,_,(List.Sublist.refl _),oo_,k+1,⟨?s6,?s9⟩,?mem,rfl,oo_⟩
   case mem=>rw [dU xs k lx,dU ys k ly,OM k hle,uQ _ hc]
   case s6=>rw [← LP,← dU xs k lx,← dU ys k ly];rfl
   case s9=>exact congrArg (Value.int .i64) (bR (n:=(k:Int)+1) (by unfold I64;omega))
  replace hc:=cB_ hc
  obtain rfl:k=16:=by omega
  refine go2 ?_;refine sQ (bU tyT O mm_ (by simp [uw,gL])) O ?_;refine aQ O (bE tyT O O uu_ (by simp [uw,gL]) O (fL _) (.inl eU) ?_);refine go2 ?_;refine rtX O ⟨_,_,_,_,_,_,rfl,mm_,tyT,_,(dB (by simp [uw,gL])),(by simp [uw,gL]),rfl⟩ ?_;rw [yQ];rfl
theorem DC (x:Nat) :
  Ret prog 196 [U32 x] (.bool false):=by
 refine bG (N:=6) func196 O O zz_ (fun w0=>?_);refine giI ?_;refine go6 ?_;refine sQ (aE (cX_ O O) (congrArg Value.bool (bne_self_eq_false _))) O (go3 ?_);refine rt1 ?_;exact rfl
theorem UU (x y:Nat) :
   Ret prog 160 [U32 x,U32 y] (.int .i64 (tH x y)):=by
 refine bG (N:=20) func160 O O zz_ (fun w0=>?_);refine giI ?_;refine go5 ?_;refine sQ (aW aH (DC x) O) O (go4 ?_);refine sQ (aW aH (DC y) O) O (OA ?_);refine aT _ O (fun h1=>?_) (fun h1=>?_)
 ·replace h1:=cB_ h1
  refine go4 ?_;refine rt1 ?_;exact congrArg _ (AO h1).symm
 replace h1:=cB_ h1
 refine go7 ?_;refine aT _ O (fun h2=>?_) (fun h2=>?_)
 ·replace h2:=cB_ h2
  refine go4 ?_;refine rt1 ?_;exact congrArg _ (AN h2).symm
 replace h2:=cB_ h2
 refine go5 ?_;refine rt1 ?_
 (obtain rfl:x=y:=by omega);exact congrArg _ (KN _).symm
theorem lD (xs ys:List Nat) (hx:xs.length=16) (hy:ys.length=16) (lx:Lim xs) (ly:Lim ys) :
    Ret prog 104 [UV xs,UV ys] (.int .i64 (tH (val xs) (val ys))):=by
 refine bG (N:=24) func104 O O zz_ (fun w0=>?_);refine giI ?_;refine go_ ?_;refine aQ O (gW O O (fun b2 hb2=>aQ O (gW O O (fun b3 hb3=>go7 ?_))));refine cE (rg [] 4 20) (fun g nn M=>∃ (k:Nat),(g 5 = .int .i64 ((k:Int) - 1))∧M=[⟨b3,29,uw ys⟩,⟨b2,29,uw xs⟩]∧nn=k+0∧(k≤16∧xs.drop k=ys.drop k)) (16) ?start ?round
 case start =>
  refine ⟨_,(List.Sublist.refl _),16,?a5,?mem0,rfl,⟨Nat.le_refl _,by rw [List.drop_eq_nil_of_le oo_,List.drop_eq_nil_of_le oo_]⟩⟩
  case mem0=>rfl
  case a5=>rfl
 case round =>
  rintro nn g M ⟨k,hg5,rfl,hmeas,⟨hk,hd⟩⟩;subst nn;refine gS1 hg5 ?_;clear hg5;refine go5 ?_;refine aT _ O (fun hc=>?_) (fun hc=>?_)
  ·replace hc:=cB_ hc
   obtain ⟨m,rfl⟩:∃ m,k=m+1:=⟨k - 1,by omega⟩;refine go4 ?_;refine lJ (sk (sk s0)) 7 [] [] (pQ O (aE (gV O) (congrArg (Value.int .i64) (show (((m+1:Nat):Int) - 1)=(m:Int) by omega))) (pQ O (dS arT O O oo_ oo_) (pQ O (cU tyT O mm_ (pU oo_)) ?_)));refine pQ O (aE (gV O) (congrArg (Value.int .i64) (show (((m+1:Nat):Int) - 1)=(m:Int) by omega))) (pQ O (dS arT O O oo_ oo_) (pQ O (cU tyT O mm_ (pU oo_)) ?_));refine go2 ?_;refine aT _ O (fun hne=>?_) (fun hne=>?_)
   ·replace hne:=cB_ hne
    refine go_ ?_;refine lJ (sk (sk s0)) 8 [] [] (pQ O (aE (gV O) (congrArg (Value.int .i64) (show (((m+1:Nat):Int) - 1)=(m:Int) by omega))) (pQ O (dS arT O O oo_ oo_) (pQ O (cU tyT O mm_ (pU oo_)) ?_)));refine pQ O (aE (gV O) (congrArg (Value.int .i64) (show (((m+1:Nat):Int) - 1)=(m:Int) by omega))) (pQ O (dS arT O O oo_ oo_) (pQ O (cU tyT O mm_ (pU oo_)) ?_));refine pQ O (aW aH (UU _ _) O) (go3 ?_);refine rt1 ?_;exact congrArg _ (RJ lx ly oo_ hd oo_)
   replace hne:=cB_ hne
   refine go2 ?_;refine sQ (aE (gV O) (congrArg (Value.int .i64) (show (((m+1:Nat):Int) - 1)=(m:Int) by omega))) O (go3 ?_);refine ⟨pp_,_,_,(List.Sublist.refl _),oo_,m,?s5,?mem,rfl,⟨by omega,KW oo_ hd oo_ oo_⟩⟩
   case mem=>rfl
   case s5=>exact congrArg (Value.int .i64) (bR (n:=(m:Int) - 1) (by unfold I64;omega))
  replace hc:=cB_ hc
  obtain rfl:k=0:=by omega
  refine go5 ?_;refine rt1 ?_
  (rw [List.drop_zero,List.drop_zero] at hd;subst hd;exact congrArg _ (KN _).symm)
theorem kW (xs:List Nat) (hx:xs.length=16) :
    Ret prog 106 [UV xs] (.int .i64 ((szL xs:Nat):Int)):=by
 refine bG (N:=16) func106 O O zz_ (fun w0=>?_);refine giI ?_;refine go_ ?_;refine aQ O (gW O O (fun b1 hb1=>go7 ?_));refine cE (rg [] 3 12) (fun g nn M=>∃ (k:Nat),(g 3 = .int .i64 (k:Int))∧M=[⟨b1,29,uw xs⟩]∧nn=k+0∧(k≤16∧∀ j,k≤j→xs.getD j 0=0)) (16) ?start ?round
 case start =>
  refine ⟨_,(List.Sublist.refl _),16,?a3,?mem0,rfl,⟨Nat.le_refl _,fun j hj=>by simp [List.getD,List.getElem?_eq_none (show xs.length≤j by omega)]⟩⟩
  case mem0=>rfl
  case a3=>rfl
 case round =>
  rintro nn g M ⟨k,hg3,rfl,hmeas,⟨hk,hhi⟩⟩;subst nn;refine gS1 hg3 ?_;clear hg3;refine go5 ?_
  cases hz:decide ((0:Int)<(k:Int))
  ·refine DT ?_;refine rt1 ?_;exact congrArg (fun n:Nat=>Value.int .i64 (n:Int)) (MS hhi (.inl (by have:=of_decide_eq_false hz;omega))).symm
  have hz':=of_decide_eq_true hz;obtain ⟨m,rfl⟩:∃ m,k=m+1:=⟨k - 1,by omega⟩;refine go_ ?_;refine sQ (aE (lL O O) (congrArg (Value.int .i64) (uZ oo_))) O (sQ (dS arT O O oo_ oo_) O (sQ (cU tyT O mm_ (pU oo_)) O ?_));refine go3 ?_;refine aT _ O (fun h0=>?_) (fun h0=>?_)
  ·replace h0:=cB_ h0
   refine go4 ?_;refine sQ (aE (lL O O) (congrArg (Value.int .i64) (uZ oo_))) O (go2 ?_);refine ⟨pp_,_,_,(List.Sublist.refl _),oo_,m,?s3,?mem,rfl,⟨by omega,fun j hj=>by rcases Nat.eq_or_lt_of_le hj with rfl|hj;omega;exact hhi j hj⟩⟩
   case mem=>rfl
   case s3=>rfl
  replace h0:=cB_ h0
  refine go6 ?_;refine rt1 ?_;exact congrArg (fun n:Nat=>Value.int .i64 (n:Int)) (MS hhi (.inr (by simp only [Nat.add_sub_cancel];omega))).symm
end Go.Proofs.YtcjoflcajgaifaaGreatDoor
