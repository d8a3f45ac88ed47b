/- Lemmas: what they ask stands in their statements. -/
import Derived.Test.YtokjfhfiodopdaaGreatUSg
set_option linter.unusedSimpArgs false
set_option linter.unusedVariables false
set_option maxHeartbeats 8000000
set_option maxRecDepth 20000
namespace Go.Proofs.YtokjfhfiodopdaaGreat
open Go.Kn Go.Num Tryz
attribute [local irreducible] Go.Kn.W WL PL OpQ OpR OpS
theorem xL (a:R) (ha:a.Ok) :
    Ret prog 176 [RV a] (RV (Z.neg a.dec).enc):=by
 refine cL (N:=14) func176 rfl rfl (by simp) (fun w0=>?_);simp only [bS,Nat.reduceAdd];refine go_ ?_;refine bJ rfl (kC rfl rfl (fun b1 hb1=>bJ rfl (fB lH (fun b2 hb2=>go3 ?_))));refine sQ (dF tyT rfl mm_ (dQ ha)) rfl ?_;refine bJ rfl (jS lT lH nN rfl dd_ rfl (yU ha) (fun b4 hb4=>sQ (bN aJ rfl (fun w hw=>jC [a] (ok1 ha) b4 27 w (hw.mem _ m0) (by simp))) rfl ?_));refine go2 ?_;refine aT _ rfl (fun hg=>?_) (fun hg=>?_)
 ·replace hg:=cB_ hg
  refine go_ ?_;refine sQ (bZ aJ jF rfl) rfl (bJ rfl (cG tyT rfl rfl uu_ (aS _) rfl (bW _) (.inl (by assumption)) ?_));refine go2 ?_;refine bP rfl (.inr rfl) ⟨_,_,_,_,_,_,rfl,mm_,tyT,_,(eH (aS _)),(aS _),rfl⟩ ?_
  (rw [Z.neg,qV (P4 hg)];rfl)
 replace hg:=cB_ hg
 refine go2 ?_;refine sQ (dA fdT dd_ rfl) rfl (sQ (d8 tyT rfl mm_ rfl) rfl ?_);refine go_ ?_;refine sQ (dA fdT dd_ rfl) rfl (sQ (iZ (vs:=uw a.w) tyT rfl mm_ (lI ha.len) ((iE _).trans ha.len)) rfl ?_);refine sQ (bZ aJ (gI (!a.neg) a.w ha.len ha.lim) rfl) rfl (bJ rfl (cG tyT rfl rfl uu_ (lJ ha.len) rfl (bW _) (.inl (by assumption)) ?_));refine go2 ?_;refine bP rfl (.inr rfl) ⟨_,_,_,_,_,_,rfl,mm_,tyT,_,(eH (lJ ha.len)),(lJ ha.len),rfl⟩ ?_;exact congrArg RV (ep_ ha (by simpa using hg))
theorem xK (a:R) (ha:a.Ok) :
    Ret prog 152 [RV a] (RV (Z.abs a.dec).enc):=by
 refine cL (N:=11) func152 rfl rfl (by simp) (fun w0=>?_);simp only [bS,Nat.reduceAdd];refine go_ ?_;refine bJ rfl (kC rfl rfl (fun b1 hb1=>bJ rfl (fB lH (fun b2 hb2=>go3 ?_))));refine sQ (dF tyT rfl mm_ (dQ ha)) rfl ?_;refine bJ rfl (jS lT lH nN rfl dd_ rfl (yU ha) (fun b4 hb4=>sQ (bN aJ rfl (fun w hw=>jC [a] (ok1 ha) b4 27 w (hw.mem _ m0) (by simp))) rfl ?_));refine go2 ?_;refine aT _ rfl (fun hg=>?_) (fun hg=>?_)
 ·replace hg:=cB_ hg
  refine go_ ?_;refine sQ (bZ aJ jF rfl) rfl (bJ rfl (cG tyT rfl rfl uu_ (aS _) rfl (bW _) (.inl (by assumption)) ?_));refine go2 ?_;refine bP rfl (.inr rfl) ⟨_,_,_,_,_,_,rfl,mm_,tyT,_,(eH (aS _)),(aS _),rfl⟩ ?_
  (rw [Z.abs,qV (P4 hg)];rfl)
 replace hg:=cB_ hg
 refine go2 ?_;refine sQ (dA fdT dd_ rfl) rfl (sQ (iZ (vs:=uw a.w) tyT rfl mm_ (lI ha.len) ((iE _).trans ha.len)) rfl ?_);refine sQ (bZ aJ (gI false a.w ha.len ha.lim) rfl) rfl (bJ rfl (cG tyT rfl rfl uu_ (lJ ha.len) rfl (bW _) (.inl (by assumption)) ?_));refine go2 ?_;refine bP rfl (.inr rfl) ⟨_,_,_,_,_,_,rfl,mm_,tyT,_,(eH (lJ ha.len)),(lJ ha.len),rfl⟩ ?_;exact congrArg RV (dE_ ha (by simpa using hg))
theorem oL (a b:R) (ha:a.Ok) (hb:b.Ok) :
    Ret prog 116 [RV a,RV b] (RV (Z.add a.dec b.dec).enc):=by
 refine cL (N:=55) func116 rfl rfl (by simp) (fun w0=>?_);simp only [bS,Nat.reduceAdd];refine go_ ?_;refine bJ rfl (kC rfl rfl (fun b2 hb2=>bJ rfl (kC rfl rfl (fun b3 hb3=>bJ rfl (fB lH (fun b4 hb4=>go3 ?_))))));refine sQ (dF tyT rfl mm_ (dQ ha)) rfl ?_;refine sQ (dF tyT rfl mm_ (dQ hb)) rfl ?_;refine bJ rfl (jS lT lH nN rfl dd_ rfl (NA ha hb) (fun b9 hb9=>sQ (bN aJ rfl (fun w hw=>jC [a,b] (ok2 ha hb) b9 27 w (hw.mem _ m0) (by simp))) rfl ?_));refine go2 ?_;refine aT _ rfl (fun hg=>?_) (fun hg=>?_)
 ·replace hg:=cB_ hg
  refine go_ ?_;refine sQ (bZ aJ jF rfl) rfl (bJ rfl (cG tyT rfl rfl uu_ (aS _) rfl (bW _) (.inl (by assumption)) ?_));refine go2 ?_;refine bP rfl (.inr rfl) ⟨_,_,_,_,_,_,rfl,mm_,tyT,_,(eH (aS _)),(aS _),rfl⟩ ?_
  (rw [Z.add,jJ (DP hg)];rfl)
 replace hg:=cB_ hg
 have hg:=all2.1 hg;refine go3 ?_;refine sQ (dA fdT dd_ rfl) rfl (sQ (d8 tyT rfl mm_ rfl) rfl ?_);refine sQ (dA fdT dd_ rfl) rfl (sQ (d8 tyT rfl mm_ rfl) rfl ?_);refine sQ (am_ CD rfl rfl) rfl (go_ ?_);refine aT _ rfl (fun hn=>?_) (fun hn=>?_)
 ·replace hn:=cB_ hn
  refine go_ ?_;refine sQ (dA fdT dd_ rfl) rfl (sQ (iZ (vs:=uw a.w) tyT rfl mm_ (lI ha.len) ((iE _).trans ha.len)) rfl ?_);refine sQ (dA fdT dd_ rfl) rfl (sQ (iZ (vs:=uw b.w) tyT rfl mm_ (lI hb.len) ((iE _).trans hb.len)) rfl ?_);refine sQ (bZ aJ (JK a.w b.w ha.len hb.len ha.lim hb.lim) rfl) rfl (go3 ?_);refine bJ rfl (fB pS (fun b5 hb5=>bJ rfl (cG tyT rfl rfl uu_ (by rw [iE,dW]) rfl (i6 _) (.inl (by assumption)) ?_)));refine go7 ?_;refine aT _ rfl (fun hc=>?_) (fun hc=>?_)
  ·replace hc:=cB_ hc
   refine go_ ?_;refine sQ (bZ aJ jF rfl) rfl (bJ rfl (cG tyT rfl rfl uu_ (aS _) rfl (bW _) (.inl (by assumption)) ?_));refine go2 ?_;refine bP rfl (.inr rfl) ⟨_,_,_,_,_,_,rfl,mm_,tyT,_,(eH (aS _)),(aS _),rfl⟩ ?_;exact congrArg RV (XZ ha hb hg.1 hg.2 hn oo_)
  replace hc:=cB_ hc
  refine go2 ?_;refine sQ (dA fdT dd_ rfl) rfl (sQ (d8 tyT rfl mm_ rfl) rfl ?_);refine sQ (dF tyT rfl mm_ (by rw [iE,dW])) rfl ?_;refine sQ (bZ aJ (gI a.neg _ (dW _ _) (m7 _ _)) rfl) rfl (bJ rfl (cG tyT rfl rfl uu_ (lJ (dW _ _)) rfl (bW _) (.inl (by assumption)) ?_));refine go2 ?_;refine bP rfl (.inr rfl) ⟨_,_,_,_,_,_,rfl,mm_,tyT,_,(eH (lJ (dW _ _))),(lJ (dW _ _)),rfl⟩ ?_;exact congrArg RV (X0 ha hb hg.1 hg.2 hn oo_)
 replace hn:=cB_ hn
 refine go3 ?_;refine sQ (dA fdT dd_ rfl) rfl (sQ (iZ (vs:=uw a.w) tyT rfl mm_ (lI ha.len) ((iE _).trans ha.len)) rfl ?_);refine sQ (dA fdT dd_ rfl) rfl (sQ (iZ (vs:=uw b.w) tyT rfl mm_ (lI hb.len) ((iE _).trans hb.len)) rfl ?_);refine sQ (bZ aJ (n5 a.w b.w ha.len hb.len ha.lim hb.lim) rfl) rfl (go2 ?_);refine aT _ rfl (fun ho=>?_) (fun ho=>?_)
 ·replace ho:=cB_ ho
  have hle:val b.w≤val a.w:=TK ho;refine go_ ?_;refine rE (sk (sd (sk (sk (s0))))) 9 [8] [8] (pQ rfl (dA fdT dd_ rfl) (pQ rfl (d8 tyT rfl mm_ rfl) ?_));refine pQ rfl (dA fdT dd_ rfl) (pQ rfl (iZ (vs:=uw a.w) tyT rfl mm_ (lI ha.len) ((iE _).trans ha.len)) ?_);refine pQ rfl (dA fdT dd_ rfl) (pQ rfl (iZ (vs:=uw b.w) tyT rfl mm_ (lI hb.len) ((iE _).trans hb.len)) ?_);refine pQ rfl (bZ aJ (vF a.w b.w ha.len hb.len ha.lim hb.lim hle) rfl) (pQ rfl (bZ aJ (gI a.neg _ (dW _ _) (m7 _ _)) rfl) ?_);refine fT rfl rfl (cG tyT rfl rfl uu_ (lJ (dW _ _)) rfl (bW _) (.inl (by assumption)) ⟨nf,ss_,?_⟩);refine go2 ?_;refine bP rfl (.inr rfl) ⟨_,_,_,_,_,_,rfl,mm_,tyT,_,(eH (lJ (dW _ _))),(lJ (dW _ _)),rfl⟩ ?_;exact congrArg RV (X1 ha hb hg.1 hg.2 hn hle)
 replace ho:=cB_ ho
 have hle:val a.w≤val b.w:=YD ho;refine go2 ?_;refine rE (sk (sd (sk (sk (s0))))) 9 [8] [8] (pQ rfl (dA fdT dd_ rfl) (pQ rfl (d8 tyT rfl mm_ rfl) ?_));refine pQ rfl (dA fdT dd_ rfl) (pQ rfl (iZ (vs:=uw b.w) tyT rfl mm_ (lI hb.len) ((iE _).trans hb.len)) ?_);refine pQ rfl (dA fdT dd_ rfl) (pQ rfl (iZ (vs:=uw a.w) tyT rfl mm_ (lI ha.len) ((iE _).trans ha.len)) ?_);refine pQ rfl (bZ aJ (vF b.w a.w hb.len ha.len hb.lim ha.lim hle) rfl) (pQ rfl (bZ aJ (gI b.neg _ (dW _ _) (m7 _ _)) rfl) ?_);refine fT rfl rfl (cG tyT rfl rfl uu_ (lJ (dW _ _)) rfl (bW _) (.inl (by assumption)) ⟨nf,ss_,?_⟩);refine go2 ?_;refine bP rfl (.inr rfl) ⟨_,_,_,_,_,_,rfl,mm_,tyT,_,(eH (lJ (dW _ _))),(lJ (dW _ _)),rfl⟩ ?_;exact congrArg RV (X2 ha hb hg.1 hg.2 hn hle)
theorem rS (a b:R) (ha:a.Ok) (hb:b.Ok) :
    Ret prog 144 [RV a,RV b] (RV (Z.sub a.dec b.dec).enc):=by
 refine cL (N:=9) func144 rfl rfl (by simp) (fun w0=>?_);simp only [bS,Nat.reduceAdd];refine go_ ?_;refine bJ rfl (kC rfl rfl (fun b2 hb2=>bJ rfl (kC rfl rfl (fun b3 hb3=>bJ rfl (fB lH (fun b4 hb4=>go2 ?_))))));refine rE (sd (sk (sk (s0)))) 5 [4] [4] (pQ rfl (dF tyT rfl mm_ (dQ ha)) ?_);refine pQ rfl (dF tyT rfl mm_ (dQ hb)) ?_;refine pQ rfl (bZ aJ (xL b hb) rfl) (pQ rfl (bZ aJ (oL a (Z.neg b.dec).enc ha (Z.enc_ok _)) rfl) ?_);refine fT rfl rfl (cG tyT rfl rfl uu_ (aS _) rfl (bW _) (.inl (by assumption)) ⟨nf,ss_,?_⟩);refine go2 ?_;refine bP rfl (.inr rfl) ⟨_,_,_,_,_,_,rfl,mm_,tyT,_,(eH (aS _)),(aS _),rfl⟩ ?_
 (rw [yP];rfl)
theorem iJ (a:R) (ha:a.Ok) :
    Ret prog 60 [RV a] (.int .i64 a.dec.sign):=by
 refine cL (N:=17) func60 rfl rfl (by simp) (fun w0=>?_);simp only [bS,Nat.reduceAdd];refine go_ ?_;refine bJ rfl (kC rfl rfl (fun b1 hb1=>go5 ?_));refine sQ (dF tyT rfl mm_ (dQ ha)) rfl ?_;refine bJ rfl (jS lT lH nN rfl dd_ rfl (yU ha) (fun b5 hb5=>sQ (bN aJ rfl (fun w hw=>jC [a] (ok1 ha) b5 27 w (hw.mem _ m0) (by simp))) rfl ?_));refine go2 ?_
 cases hg:[a].all R.good
 ·refine R8 ?_;refine bP rfl (.inr rfl) rfl ?_;exact congrArg _ (BU ha (.inl (by simpa using hg)))
 refine sQ (dA fdT dd_ rfl) rfl (sQ (iZ (vs:=uw a.w) tyT rfl mm_ (lI ha.len) ((iE _).trans ha.len)) rfl ?_);refine sQ (oV pS arT rfl (.nil _)) rfl ?_;refine sQ (xI (r:=a.zero) rfl rfl (oA 8 dd_ HK H6 (nO ha.len) (nO (by simp)) ha.zero_iff)) rfl ?_;refine go3 ?_;refine aT _ rfl (fun hz=>?_) (fun hz=>?_)
 ·replace hz:=cB_ hz
  refine go4 ?_;refine bP rfl (.inr rfl) rfl ?_;exact congrArg _ (BU ha (.inr hz))
 replace hz:=cB_ hz
 refine go_ ?_;refine sQ (dA fdT dd_ rfl) rfl (sQ (d8 tyT rfl mm_ rfl) rfl ?_);refine go2 ?_;refine aT _ rfl (fun hn=>?_) (fun hn=>?_)
 ·replace hn:=cB_ hn
  refine go4 ?_;refine bP rfl (.inr rfl) rfl ?_;exact congrArg _ (QZ ha (by simpa using hg) hz hn)
 replace hn:=cB_ hn
 refine go5 ?_;refine bP rfl (.inr rfl) rfl ?_;exact congrArg _ (Q1 ha (by simpa using hg) hz hn)
theorem hZ (n:Int) (hn:I64 n) :
    Ret prog 97 [.int .i64 n] (RV (Z.of n).enc):=by
 refine cL (N:=19) func97 rfl rfl (by simp) (fun w0=>?_);simp only [bS,Nat.reduceAdd];refine go_ ?_;refine bJ rfl (fB lH (fun b2 hb2=>go3 ?_));refine sQ (eX ET fY rfl) rfl (go7 ?_);refine aT _ rfl (fun h0=>?_) (fun h0=>?_)
 ·replace h0:=cB_ h0
  refine go2 ?_;refine sQ (aV (ar_ rfl) (congrArg (Value.int .u64) (es_ hn h0))) rfl (go5 ?_);refine sQ (aV (kE rfl) (show _=Value.int .u64 ((n.natAbs:Nat):Int) from by first | rfl | exact congrArg (Value.int .u64) (NP hn h0))) rfl ?_;refine sQ (eX fY iF rfl) rfl (sQ (aV (kE rfl) (show _=Value.int .u64 ((n.natAbs:Nat):Int) from by first | rfl | exact congrArg (Value.int .u64) (NP hn h0))) rfl ?_);refine sQ (aV (u5 rfl rfl dd_) (congrArg (Value.int .u64) (rA _ 32))) rfl (sQ (eX fY iF rfl) rfl (sQ (oV pS arT rfl (Y7 (ag_ _) (af_ (by unfold I64 at hn;omega)))) rfl (sQ (bZ aJ (gI (decide (n<0)) _ (by simp) (ZY (Nat.mod_lt _ dd_) (by unfold I64 at hn;omega) 14)) rfl) rfl ?_)));refine bJ rfl (cG tyT rfl rfl uu_ (lJ (by simp)) rfl (bW _) (.inl (by assumption)) ?_);refine go2 ?_;refine bP rfl (.inr rfl) ⟨_,_,_,_,_,_,rfl,mm_,tyT,_,(eH (lJ (by simp))),(lJ (by simp)),rfl⟩ ?_;exact congrArg RV (ae_ hn rfl rfl)
 replace h0:=cB_ h0
 refine go4 ?_;refine sQ (aV (kE rfl) (show _=Value.int .u64 ((n.natAbs:Nat):Int) from by first | rfl | exact congrArg (Value.int .u64) (NP hn h0))) rfl ?_;refine sQ (eX fY iF rfl) rfl (sQ (aV (kE rfl) (show _=Value.int .u64 ((n.natAbs:Nat):Int) from by first | rfl | exact congrArg (Value.int .u64) (NP hn h0))) rfl ?_);refine sQ (aV (u5 rfl rfl dd_) (congrArg (Value.int .u64) (rA _ 32))) rfl (sQ (eX fY iF rfl) rfl (sQ (oV pS arT rfl (Y7 (ag_ _) (af_ (by unfold I64 at hn;omega)))) rfl (sQ (bZ aJ (gI (decide (n<0)) _ (by simp) (ZY (Nat.mod_lt _ dd_) (by unfold I64 at hn;omega) 14)) rfl) rfl ?_)));refine bJ rfl (cG tyT rfl rfl uu_ (lJ (by simp)) rfl (bW _) (.inl (by assumption)) ?_);refine go2 ?_;refine bP rfl (.inr rfl) ⟨_,_,_,_,_,_,rfl,mm_,tyT,_,(eH (lJ (by simp))),(lJ (by simp)),rfl⟩ ?_;exact congrArg RV (ae_ hn rfl rfl)
theorem eK (a b:R) (ha:a.Ok) (hb:b.Ok) :
    Ret prog 117 [RV a,RV b] (RV (Z.mul a.dec b.dec).enc):=by
 refine cL (N:=82) func117 rfl rfl (by simp) (fun w0=>?_);simp only [bS,Nat.reduceAdd];refine go_ ?_;refine bJ rfl (kC rfl rfl (fun b2 hb2=>bJ rfl (kC rfl rfl (fun b3 hb3=>bJ rfl (fB lH (fun b4 hb4=>go3 ?_))))));refine sQ (dF tyT rfl mm_ (dQ ha)) rfl ?_;refine sQ (dF tyT rfl mm_ (dQ hb)) rfl ?_;refine bJ rfl (jS lT lH nN rfl dd_ rfl (NA ha hb) (fun b13 hb13=>sQ (bN aJ rfl (fun w hw=>jC [a,b] (ok2 ha hb) b13 27 w (hw.mem _ m0) (by simp))) rfl ?_));refine go2 ?_;refine aT _ rfl (fun hg=>?_) (fun hg=>?_)
 ·replace hg:=cB_ hg
  refine go_ ?_;refine sQ (bZ aJ jF rfl) rfl (bJ rfl (cG tyT rfl rfl uu_ (aS _) rfl (bW _) (.inl (by assumption)) ?_));refine go2 ?_;refine bP rfl (.inr rfl) ⟨_,_,_,_,_,_,rfl,mm_,tyT,_,(eH (aS _)),(aS _),rfl⟩ ?_
  (rw [Z.mul,jJ (DP hg)];rfl)
 replace hg:=cB_ hg
 have hg:=all2.1 hg;refine go2 ?_;refine bJ rfl (fB gu_ (fun b5 hb5=>go2 ?_));have hsa:=vD a.w;have hsb:=vD b.w;rw [ha.len] at hsa;rw [hb.len] at hsb;refine rE (sk (sk (sk (sk (sk (s0)))))) 8 [] [] (pQ rfl (dA fdT dd_ rfl) (pQ rfl (iZ (vs:=uw a.w) tyT rfl mm_ (lI ha.len) ((iE _).trans ha.len)) ?_));refine pQ rfl (bZ aJ (nP a.w ha.len) rfl) (pQ rfl (dA fdT dd_ rfl) (pQ rfl (iZ (vs:=uw b.w) tyT rfl mm_ (lI hb.len) ((iE _).trans hb.len)) ?_));refine pQ rfl (bZ aJ (nP b.w hb.len) rfl) (go9 ?_);refine cO [8,9,10,24,25,26,27,28,29,30,31,32,33,34,35,36,37,38,39,40,41,42,43,44,45,46,47,48,49,50,51,52,53,54,55,56,57,58,59,60,61,62,63,64,65,66] (fun g nn M=>∃ (i:Nat) (l:List Nat),(g 24 = .int .i64 (i:Int))∧M=[⟨b5,168,uw l⟩,⟨b4,27,zR⟩,⟨b3,27,b.cells⟩,⟨b2,27,a.cells⟩]∧nn=szL a.w - i∧(i≤szL a.w∧MulOut (val a.w) (val b.w) (szL b.w) i l)) (szL a.w - 0) ?start ?round
 case start =>
  refine ⟨_,(List.Sublist.cons_cons _ (List.Sublist.cons _ (List.Sublist.refl _))),0,_,?a24,?mem0,rfl,⟨Nat.zero_le _,MulOut.start _ _ _⟩⟩
  case mem0=>rfl
  case a24=>rfl
 case round =>
  rintro nn g M ⟨i,l,hg24,rfl,hmeas,⟨hile,hM⟩⟩;subst nn;simp only [eO,hg24];clear hg24;refine go4 ?_;refine aT _ rfl (fun hi=>?_) (fun hi=>?_)
  ·replace hi:=cB_ hi
   have hia:i<a.w.length:=by rw [ha.len];omega
   refine V7 ?_;refine cO [9,10,28,29,30,31,32,33,34,35,36,37,38,39,40,41,42,43,44,45,46,47,48,49,50,51,52,53,54,55,56,57,58,59] (fun g nn M=>∃ (k:Nat) (l:List Nat) (c:Nat),(g 9 = .int .u64 (c:Int)∧g 28 = .int .i64 (k:Int))∧M=[⟨b5,168,uw l⟩,⟨b4,27,zR⟩,⟨b3,27,b.cells⟩,⟨b2,27,a.cells⟩]∧nn=szL b.w - k∧(k≤szL b.w∧MulIn (val a.w) (val b.w) (szL b.w) i k l c)) (szL b.w - 0) ?start ?round
   case start =>
    refine ⟨_,(List.Sublist.refl _),0,l,0,⟨?a9,?a28⟩,?mem0,rfl,⟨Nat.zero_le _,hM.row⟩⟩
    case mem0=>rfl
    case a9=>rfl
    case a28=>rfl
   case round =>
    rintro nn g M ⟨k,l,c,⟨hg9,hg28⟩,rfl,hmeas,⟨hkle,hM⟩⟩;subst nn;simp only [eO,hg9,hg28];clear hg9 hg28;refine go4 ?_;refine aT _ rfl (fun hk=>?_) (fun hk=>?_)
    ·replace hk:=cB_ hk
     have hkb:k<b.w.length:=by rw [hb.len];omega
     refine go8 ?_;refine gdr (sk (sk (sk (sk (s0))))) [0,4,8,12,16,20,24,28,32,36,40,44,48,52,56,60,64,68,72,76,80] [] mix (by kernel_rfl) (go2 ?_);refine pQ rfl (dA fdT dd_ rfl) (pQ rfl (fI arT rfl rfl oo_ oo_) (pQ rfl (d8 tyT rfl mm_ (nQ hia)) ?_));refine pQ rfl (eX iF fY rfl) (go_ ?_);refine pQ rfl (dA fdT dd_ rfl) (pQ rfl (fI arT rfl rfl oo_ oo_) (pQ rfl (d8 tyT rfl mm_ (nQ hkb)) ?_));refine pQ rfl (eX iF fY rfl) (go3 ?_);refine pQ rfl (aV (jE rfl rfl) (congrArg (Value.int .i64) (n9 oo_))) (pQ rfl (fI arT rfl rfl oo_ oo_) (pQ rfl (d8 tyT rfl mm_ (tZ (by rw [hM.len];omega))) ?_));refine pQ rfl (eX iF fY rfl) (go_ ?_);refine pQ rfl (aV (jE rfl rfl) (congrArg (Value.int .u64) (fI_ (eG ha.lim i) (eG hb.lim k) (eG hM.lim (i+k)) hM.clt))) (go5 ?_);refine sQ (aV (jE rfl rfl) (congrArg (Value.int .i64) (n9 oo_))) rfl (go_ ?_);refine sQ (aV (eX fY iF rfl) (oP _)) rfl (sQ (fI arT rfl rfl oo_ oo_) rfl (bJ rfl (nM tyT rfl rfl uu_ (by rw [hM.len];omega) (.inl (by assumption)) ?_)));refine go3 ?_;refine sQ (aV (u5 rfl rfl dd_) (congrArg (Value.int .u64) (rA _ 32))) rfl (go3 ?_);refine sQ (aV (jE rfl rfl) (congrArg (Value.int .i64) (j9 oo_))) rfl (go2 ?_);refine ⟨pp_,_,_,(List.Sublist.refl _),oo_,k+1,_,_,⟨?s9,?s28⟩,?mem,rfl,⟨by omega,WK hM ha.lim hb.lim oo_ oo_⟩⟩
     case mem=>rfl
     case s9=>rfl
     case s28=>rfl
    replace hk:=cB_ hk
    obtain rfl:k=szL b.w:=by omega
    refine go4 ?_;refine sQ (aV (jE rfl rfl) (congrArg (Value.int .i64) (n9 oo_))) rfl (go_ ?_);refine sQ (aV (eX fY iF rfl) (e0_ hM.clt)) rfl (sQ (fI arT rfl rfl oo_ oo_) rfl (bJ rfl (nM tyT rfl rfl uu_ (by rw [hM.len];omega) (.inl (by assumption)) ?_)));refine go2 ?_;refine sQ (aV (jE rfl rfl) (congrArg (Value.int .i64) (j9 oo_))) rfl (go2 ?_);refine ⟨pp_,_,_,(List.Sublist.refl _),oo_,i+1,_,?s24,?mem,rfl,⟨by omega,hM.done oo_ (uP hb.lim)⟩⟩
    case mem=>rfl
    case s24=>rfl
  replace hi:=cB_ hi
  obtain rfl:i=szL a.w:=by omega
  refine go3 ?_;refine sQ (IM arT rfl rfl rfl dd_ dd_ dd_ dd_) rfl (sQ (as_ arT rfl dd_) rfl (sQ (iZ (vs:=uw (l.drop 16)) tyT rfl mm_ (gr_ hM.len) (by simp [uw,hM.len])) rfl ?_));refine sQ (oV pS arT rfl (.nil _)) rfl ?_;refine sQ (CO (r:=decide (l.drop 16=List.replicate 16 0)) rfl rfl (oA 8 dd_ HK H6 (nO (by simp [hM.len])) (nO (by simp)) (dW_ _ _))) rfl ?_;refine go_ ?_;refine aT _ rfl (fun h71=>?_) (fun h71=>?_)
  ·replace h71:=cB_ h71
   refine go_ ?_;refine sQ (bZ aJ jF rfl) rfl (bJ rfl (cG tyT rfl rfl uu_ (aS _) rfl (bW _) (.inl (by assumption)) ?_));refine go2 ?_;refine bP rfl (.inr rfl) ⟨_,_,_,_,_,_,rfl,mm_,tyT,_,(eH (aS _)),(aS _),rfl⟩ ?_;exact congrArg RV (bY_ ha hb hg.1 hg.2 hM.len hM.lim (IB hM ha) (by simpa using h71))
  replace h71:=cB_ h71
  refine go2 ?_;refine rE (sk (sd (sk (sk (s0))))) 10 [9] [9] (pQ rfl (dA fdT dd_ rfl) (pQ rfl (d8 tyT rfl mm_ rfl) ?_));refine pQ rfl (dA fdT dd_ rfl) (pQ rfl (d8 tyT rfl mm_ rfl) ?_);refine pQ rfl (uM CD rfl rfl) (pQ rfl (IM arT rfl rfl rfl dd_ dd_ dd_ dd_) (pQ rfl (as_ arT rfl dd_) (pQ rfl (iZ (vs:=uw (l.take 16)) tyT rfl mm_ (gs_ hM.len) (by simp [uw,hM.len])) ?_)));refine pQ rfl (bZ aJ (gI (a.neg != b.neg) (l.take 16) (by simp [hM.len]) (hM.lim.take 16)) rfl) ?_;refine fT rfl rfl (cG tyT rfl rfl uu_ (lJ (by simp [hM.len])) rfl (bW _) (.inl (by assumption)) ⟨nf,ss_,?_⟩);refine go2 ?_;refine bP rfl (.inr rfl) ⟨_,_,_,_,_,_,rfl,mm_,tyT,_,(eH (lJ (by simp [hM.len]))),(lJ (by simp [hM.len])),rfl⟩ ?_;exact congrArg RV (bZ_ ha hb hg.1 hg.2 hM.len hM.lim (IB hM ha) (by simpa using h71))
theorem GD (us vs:List Nat) (n j:Nat) (H:QH us vs n j) (bu T:Nat) (w:World) (hbu:w.heap[bu]? = some (.cells (uw us).toArray T (0,0))) :
    Calls prog 190 [.pointer (some ⟨bu,0,none⟩),UV vs,.int .i64 (n:Int),.int .i64 (j:Int)].toArray w (fun e w'=>∃ x:Nat,e = .returned (.int .u64 (x:Int))∧Ext w w'∧OQ us vs j x):=by
 refine O6 (N:=77) (g:=fun x:Nat=>.int .u64 (x:Int)) (Q:=fun x:Nat=>OQ us vs j x) func190 rfl rfl (by simp) ?_;obtain ⟨w0,rfl⟩:∃ w0,w0=w:=⟨_,rfl⟩;simp only [bS,Nat.reduceAdd];have G:=H.gh;have hn2:=H.n2;have hjn:=H.jn;have hul:=H.ulen;have hvl:=H.vlen;refine go_ ?_;refine bJ rfl (kC rfl rfl (fun b5 hb5=>go3 ?_));refine gdr (sk (s0)) [0,4,8,12,16,20,24,28,32,36,40,44,48,52,56,60,64,68,72,76] [] mix (by kernel_rfl) (go3 ?_);refine pQ rfl (aV (jE rfl rfl) (congrArg (Value.int .i64) (n9 oo_))) (go_ ?_);refine pQ rfl (fI arT rfl rfl oo_ oo_) (pQ rfl (GV tyT rfl hbu (by simp) (tZ oo_)) ?_);refine pQ rfl (aV (eX iF fY rfl) (wO (eG H.ulim _))) (pQ rfl (aV (DU rfl rfl dd_) (congrArg (Value.int .u64) (xC (eG H.ulim _)))) (go3 ?_));refine pQ rfl (aV (jE rfl rfl) (congrArg (Value.int .i64) (n9 oo_))) (pQ rfl (aV (oD rfl rfl) (congrArg (Value.int .i64) (tW (b:=1) rfl oo_ oo_))) (go_ ?_));refine pQ rfl (fI arT rfl rfl oo_ oo_) (pQ rfl (GV tyT rfl hbu (by simp) (tZ oo_)) ?_);refine pQ rfl (aV (eX iF fY rfl) (wO (eG H.ulim _))) (pQ rfl (aV (N0 rfl rfl) (congrArg (Value.int .u64) (P8 (eG H.ulim _) (eG H.ulim _)))) (go4 ?_));refine sQ (aV (oD rfl rfl) (congrArg (Value.int .i64) (tW (b:=1) rfl oo_ oo_))) rfl (sQ (fI arT rfl rfl oo_ oo_) rfl (sQ (d8 tyT rfl mm_ (tZ oo_)) rfl ?_));refine sQ (aV (eX iF fY rfl) (wO (eG H.vlim _))) rfl (go3 ?_);refine rE (sk (s0)) 8 [] [] (go2 ?_);refine pQ rfl (aV (tL rfl rfl (by have:=G.f0;omega)) (congrArg (Value.int .u64) (ch_ (by have:=G.topLt;have:=G.f1;omega)))) (go2 ?_);refine pQ rfl (aV (t7 rfl rfl (by have:=G.f0;omega)) (congrArg (Value.int .u64) (BR _ _))) (go5 ?_);refine cO [11,12,43,44,45,46,47,48,49,50,51,52,53,54,55,56,57,58,59,60,61,62,63,64,65,66,67,68,69,70,71,72,73,74,75] (fun g nn M=>∃ (d rest:Nat),(g 11 = .int .u64 (d:Int)∧g 12 = .int .u64 (rest:Int))∧M=[⟨b5,25,uw vs⟩]∧nn=d∧(GI (vs.getD (n - 1) 0) (us.getD (j+n) 0 * 4294967296+us.getD (j+n - 1) 0) (val us / (val vs * 4294967296 ^ j)) d rest)) ((us.getD (j+n) 0 * 4294967296+us.getD (j+n - 1) 0) / vs.getD (n - 1) 0) ?start ?round
 case start =>
  refine ⟨_,(List.Sublist.refl _),_,_,⟨?a11,?a12⟩,?mem0,rfl,GI.start G⟩
  case mem0=>rfl
  case a11=>rfl
  case a12=>rfl
 case round =>
  rintro nn g M ⟨d,rest,⟨hg11,hg12⟩,rfl,hmeas,hG⟩;subst nn;simp only [eO,hg11,hg12];clear hg11 hg12;refine go2 ?_;refine gdr (sk (s0)) [0,4,8,12,16,20,24,28,32,36,40,44,48,52,56,60,64,68,72,76,80,84,88,92,96,100,104,108] [] mix (by kernel_rfl) (go3 ?_)
  cases h2:decide ((rest:Int)<4294967296)
  ·refine gR_ ?_;refine bP rfl (.inr rfl) rfl ?_;exact ⟨d,rfl,LC H hG (.inl (by have:=of_decide_eq_false h2;omega))⟩
  refine go3 ?_
  cases h5:decide ((4294967296:Int)≤(d:Int))
  ·refine go2 ?_;refine pQ rfl (aV (oD rfl rfl) (congrArg (Value.int .i64) (tW (b:=2) rfl oo_ oo_))) (pQ rfl (fI arT rfl rfl oo_ oo_) (pQ rfl (d8 tyT rfl mm_ (tZ oo_)) ?_));refine pQ rfl (aV (eX iF fY rfl) (wO (eG H.vlim _))) (pQ rfl (aV (UW rfl rfl) (congrArg (Value.int .u64) (UN (UI (by have:=of_decide_eq_false h5;omega) (eG H.vlim _))))) (go_ ?_));refine pQ rfl (aV (DU rfl rfl dd_) (congrArg (Value.int .u64) (xC (by have:=of_decide_eq_true h2;omega)))) (go3 ?_);refine pQ rfl (aV (jE rfl rfl) (congrArg (Value.int .i64) (n9 oo_))) (pQ rfl (aV (oD rfl rfl) (congrArg (Value.int .i64) (tW (b:=2) rfl oo_ oo_))) (go_ ?_));refine pQ rfl (fI arT rfl rfl oo_ oo_) (pQ rfl (GV tyT rfl hbu (by simp) (tZ oo_)) ?_);refine pQ rfl (aV (eX iF fY rfl) (wO (eG H.ulim _))) (pQ rfl (aV (N0 rfl rfl) (congrArg (Value.int .u64) (P8 (by have:=of_decide_eq_true h2;omega) (eG H.ulim _)))) (go4 ?_));refine aT _ rfl (fun h68=>?_) (fun h68=>?_)
   ·replace h68:=cB_ h68
    refine go3 ?_;have hmore:=GI.more G hG (by have:=of_decide_eq_true h2;omega) (by first | exact .inl (by have:=of_decide_eq_true h5;omega) | exact .inr (by exact_mod_cast h68));refine go_ ?_;refine sQ (aV (oD rfl rfl) (congrArg (Value.int .u64) (I6 rfl hmore.1 (by have:=GI.dlt G hG;omega)))) rfl (go5 ?_);refine sQ (aV (jE rfl rfl) (congrArg (Value.int .u64) (MS (by have:=hG.rlt;have:=G.f1;omega)))) rfl (go2 ?_);refine ⟨pp_,_,_,(List.Sublist.refl _),(by have:=hmore.1;omega),d - 1,rest+vs.getD (n - 1) 0,⟨?s11,?s12⟩,?mem,rfl,hmore.2⟩
    case mem=>rfl
    case s11=>rfl
    case s12=>rfl
   replace h68:=cB_ h68
   refine go6 ?_;refine bP rfl (.inr rfl) rfl ?_;exact ⟨d,rfl,LC H hG (.inr ⟨by have:=of_decide_eq_false h5;omega,by have h69:=Int.not_lt.1 h68;exact_mod_cast h69⟩)⟩
  refine d9_ ?_;have hmore:=GI.more G hG (by have:=of_decide_eq_true h2;omega) (by first | exact .inl (by have:=of_decide_eq_true h5;omega) | exact .inr (by exact_mod_cast h68));refine go_ ?_;refine sQ (aV (oD rfl rfl) (congrArg (Value.int .u64) (I6 rfl hmore.1 (by have:=GI.dlt G hG;omega)))) rfl (go5 ?_);refine sQ (aV (jE rfl rfl) (congrArg (Value.int .u64) (MS (by have:=hG.rlt;have:=G.f1;omega)))) rfl (go2 ?_);refine ⟨pp_,_,_,(List.Sublist.refl _),(by have:=hmore.1;omega),d - 1,rest+vs.getD (n - 1) 0,⟨?s11,?s12⟩,?mem,rfl,hmore.2⟩
  case mem=>rfl
  case s11=>rfl
  case s12=>rfl
theorem JL (us vs:List Nat) (n j d:Nat) (hu:us.length=17) (lu:Lim us) (hv:vs.length=16) (lv:Lim vs) (hV:val vs<4294967296 ^ n) (hjn:j+n≤16) (hsm:val us<4294967296 ^ (j+n+1)) (hd:d<4294967296) (bu T:Nat) (w:World) (hbu:w.heap[bu]? = some (.cells (uw us).toArray T (0,0))) :
    Calls prog 191 [.pointer (some ⟨bu,0,none⟩),UV vs,.int .i64 (n:Int),.int .i64 (j:Int),.int .u64 (d:Int)].toArray w (fun e w'=>∃ x:List Nat×Nat,e = .returned (.bool (((x.2:Nat):Int)==1))∧ExtX [bu] w w'∧w'.heap[bu]? = some (.cells (uw x.1).toArray T (0,0))∧Took us (val vs) d j n x):=by
 refine O5 (N:=78) (g:=fun x:List Nat×Nat=>.bool (((x.2:Nat):Int)==1)) (cs':=fun x:List Nat×Nat=>uw x.1) (Q:=fun x:List Nat×Nat=>Took us (val vs) d j n x) func191 rfl rfl (by simp) hbu ?_;obtain ⟨w0,rfl⟩:∃ w0,w0=w:=⟨_,rfl⟩;simp only [bS,Nat.reduceAdd];refine go_ ?_;refine bJ rfl (kC rfl rfl (fun b6 hb6=>R8 ?_));refine cO [11,12,13,14,17,18,19,20,21,22,23,24,25,26,27,28,29,30,31,32,33,34,35,36,37,38,39,40,41,42,43,44,45,46,47,48,49,50,51,52,53,54] (fun g nn M=>∃ (i:Nat) (l:List Nat) (c bo:Nat),(g 11 = .int .u64 (c:Int)∧g 12 = .int .u64 (bo:Int)∧g 17 = .int .i64 (i:Int))∧M=[⟨b6,25,uw vs⟩,⟨bu,T,uw l⟩]∧nn=n - i∧(i≤n∧TakeIn us (val vs) d j i l c bo)) (n - 0) ?start ?round
 case start =>
  refine ⟨_,(List.Sublist.refl _),0,us,0,0,⟨?a11,?a12,?a17⟩,?mem0,rfl,⟨Nat.zero_le _,TakeIn.start hu lu _ _ _⟩⟩
  case mem0=>rfl
  case a11=>rfl
  case a12=>rfl
  case a17=>rfl
 case round =>
  rintro nn g M ⟨i,l,c,bo,⟨hg11,hg12,hg17⟩,rfl,hmeas,⟨hi,hT⟩⟩;subst nn;simp only [eO,hg11,hg12,hg17];clear hg11 hg12 hg17;refine go4 ?_;refine aT _ rfl (fun hc=>?_) (fun hc=>?_)
  ·replace hc:=cB_ hc
   have hc:i<n:=by omega
   refine vK ?_;refine sQ (fI arT rfl rfl oo_ oo_) rfl (sQ (d8 tyT rfl mm_ (tZ oo_)) rfl ?_);refine sQ (eX iF fY rfl) rfl (go_ ?_);refine sQ (aV (jE rfl rfl) (congrArg (Value.int .u64) (eW_ hT.clt hd (eG lv i)))) rfl (go6 ?_);refine sQ (aV (jE rfl rfl) (congrArg (Value.int .i64) (n9 oo_))) rfl (go_ ?_);refine sQ (fI arT rfl rfl oo_ oo_) rfl (sQ (d8 tyT rfl mm_ (tZ (by rw [hT.len];omega))) rfl ?_);refine sQ (eX iF fY rfl) rfl (go_ ?_);refine sQ (aV (eX fY iF rfl) (oP _)) rfl (sQ (eX iF fY rfl) rfl (go2 ?_));refine sQ (aV (oD rfl rfl) (congrArg (Value.int .u64) (dh_ hT.ble (eG hT.lim _) (Nat.mod_lt _ dd_)))) rfl (go6 ?_);refine sQ (aV (jE rfl rfl) (congrArg (Value.int .i64) (n9 oo_))) rfl (go_ ?_);refine sQ (aV (eX fY iF rfl) (oP _)) rfl (go_ ?_);refine sQ (fI arT rfl rfl oo_ oo_) rfl (bJ rfl (nM tyT rfl rfl uu_ (by rw [hT.len];omega) (by first | exact .inl (by assumption) | exact .inr (List.mem_singleton.2 rfl)) ?_));refine go3 ?_;refine sQ (aV (u5 rfl rfl dd_) (congrArg (Value.int .u64) (rA _ 63))) rfl (go4 ?_);refine sQ (aV (u5 rfl rfl dd_) (congrArg (Value.int .u64) (rA _ 32))) rfl (go3 ?_);refine sQ (aV (jE rfl rfl) (congrArg (Value.int .i64) (j9 oo_))) rfl (go2 ?_);refine ⟨pp_,_,_,(List.Sublist.refl _),oo_,i+1,_,_,_,⟨?s11,?s12,?s17⟩,?mem,rfl,⟨by omega,S4 hT lv oo_ hd⟩⟩
   case mem=>rfl
   case s11=>rfl
   case s12=>rfl
   case s17=>rfl
  replace hc:=cB_ hc
  obtain rfl:n=i:=by omega
  refine go5 ?_;refine sQ (aV (jE rfl rfl) (congrArg (Value.int .i64) (n9 oo_))) rfl (go_ ?_);refine sQ (fI arT rfl rfl oo_ oo_) rfl (sQ (d8 tyT rfl mm_ (tZ (by rw [hT.len];omega))) rfl ?_);refine sQ (eX iF fY rfl) rfl (go3 ?_);refine sQ (aV (oD rfl rfl) (congrArg (Value.int .u64) (eU_ hT.ble (eG hT.lim _) hT.clt))) rfl (go6 ?_);refine sQ (aV (jE rfl rfl) (congrArg (Value.int .i64) (n9 oo_))) rfl (go_ ?_);refine sQ (aV (eX fY iF rfl) (oP _)) rfl (go_ ?_);refine sQ (fI arT rfl rfl oo_ oo_) rfl (bJ rfl (nM tyT rfl rfl uu_ (by rw [hT.len];omega) (by first | exact .inl (by assumption) | exact .inr (List.mem_singleton.2 rfl)) ?_));refine go3 ?_;refine sQ (aV (u5 rfl rfl dd_) (congrArg (Value.int .u64) (rA _ 63))) rfl (go4 ?_);refine bP rfl (.inr rfl) rfl ?_;exact ⟨(_,_),rfl,by first | exact .tail _ (.head _) | exact .head _,TakeIn.took hT oo_ hV lu hsm⟩
theorem JJ (us vs:List Nat) (n j:Nat) (hu:us.length=17) (lu:Lim us) (hv:vs.length=16) (lv:Lim vs) (hV:val vs<4294967296 ^ n) (hjn:j+n≤16) (hsm:val us<4294967296 ^ (j+n+1)) (bu T:Nat) (w:World) (hbu:w.heap[bu]? = some (.cells (uw us).toArray T (0,0))) :
    Calls prog 192 [.pointer (some ⟨bu,0,none⟩),UV vs,.int .i64 (n:Int),.int .i64 (j:Int)].toArray w (fun e w'=>∃ x:List Nat,e = .returned (.tuple #[])∧ExtX [bu] w w'∧w'.heap[bu]? = some (.cells (uw x).toArray T (0,0))∧Gave us (val vs) j n x):=by
 refine O5 (N:=52) (g:=fun x:List Nat=>.tuple #[]) (cs':=fun x:List Nat=>uw x) (Q:=fun x:List Nat=>Gave us (val vs) j n x) func192 rfl rfl (by simp) hbu ?_;obtain ⟨w0,rfl⟩:∃ w0,w0=w:=⟨_,rfl⟩;simp only [bS,Nat.reduceAdd];refine go_ ?_;refine bJ rfl (kC rfl rfl (fun b5 hb5=>oS ?_));refine cO [8,9,11,12,13,14,15,16,17,18,19,20,21,22,23,24,25,26,27,28,29,30,31,32,33,34,35,36,37,38,39] (fun g nn M=>∃ (i:Nat) (l:List Nat) (c:Nat),(g 8 = .int .u64 (c:Int)∧g 11 = .int .i64 (i:Int))∧M=[⟨b5,25,uw vs⟩,⟨bu,T,uw l⟩]∧nn=n - i∧(i≤n∧GiveIn us (val vs) j i l c)) (n - 0) ?start ?round
 case start =>
  refine ⟨_,(List.Sublist.refl _),0,us,0,⟨?a8,?a11⟩,?mem0,rfl,⟨Nat.zero_le _,GiveIn.start hu lu _ _⟩⟩
  case mem0=>rfl
  case a8=>rfl
  case a11=>rfl
 case round =>
  rintro nn g M ⟨i,l,c,⟨hg8,hg11⟩,rfl,hmeas,⟨hi,hT⟩⟩;subst nn;simp only [eO,hg8,hg11];clear hg8 hg11;refine go4 ?_;refine aT _ rfl (fun hc=>?_) (fun hc=>?_)
  ·replace hc:=cB_ hc
   have hc:i<n:=by omega
   refine go8 ?_;refine rE (sk (sk (s0))) 16 [] [] (go4 ?_);refine pQ rfl (aV (jE rfl rfl) (congrArg (Value.int .i64) (n9 oo_))) (go_ ?_);refine pQ rfl (fI arT rfl rfl oo_ oo_) (pQ rfl (d8 tyT rfl mm_ (tZ (by rw [hT.len];omega))) ?_);refine pQ rfl (eX iF fY rfl) (go_ ?_);refine pQ rfl (fI arT rfl rfl oo_ oo_) (pQ rfl (d8 tyT rfl mm_ (tZ oo_)) ?_);refine pQ rfl (eX iF fY rfl) (go_ ?_);refine pQ rfl (aV (jE rfl rfl) (congrArg (Value.int .u64) (d7_ hT.cle (eG hT.lim _) (eG lv i)))) (go6 ?_);refine sQ (aV (jE rfl rfl) (congrArg (Value.int .i64) (n9 oo_))) rfl (go_ ?_);refine sQ (aV (eX fY iF rfl) (oP _)) rfl (go_ ?_);refine sQ (fI arT rfl rfl oo_ oo_) rfl (bJ rfl (nM tyT rfl rfl uu_ (by rw [hT.len];omega) (by first | exact .inl (by assumption) | exact .inr (List.mem_singleton.2 rfl)) ?_));refine go3 ?_;refine sQ (aV (u5 rfl rfl dd_) (congrArg (Value.int .u64) (rA _ 32))) rfl (go3 ?_);refine sQ (aV (jE rfl rfl) (congrArg (Value.int .i64) (j9 oo_))) rfl (go2 ?_);refine ⟨pp_,_,_,(List.Sublist.refl _),oo_,i+1,_,_,⟨?s8,?s11⟩,?mem,rfl,⟨by omega,R6 hT lv oo_⟩⟩
   case mem=>rfl
   case s8=>rfl
   case s11=>rfl
  replace hc:=cB_ hc
  obtain rfl:n=i:=by omega
  refine go_ ?_;refine rE (sk (sd (s0))) 13 [12] [12] (go3 ?_);refine pQ rfl (aV (jE rfl rfl) (congrArg (Value.int .i64) (n9 oo_))) (go_ ?_);refine pQ rfl (fI arT rfl rfl oo_ oo_) (pQ rfl (d8 tyT rfl mm_ (tZ (by rw [hT.len];omega))) ?_);refine go_ ?_;refine pQ rfl (eX fY iF rfl) (pQ rfl (aV (jE rfl rfl) (d6_ (eG hT.lim _) hT.cle)) (go_ ?_));refine pQ rfl (fI arT rfl rfl oo_ oo_) ?_;refine fT rfl rfl (nM tyT rfl rfl uu_ (by rw [hT.len];omega) (by first | exact .inl (by assumption) | exact .inr (List.mem_singleton.2 rfl)) ⟨nf,ss_,?_⟩);refine go_ ?_;refine GB rfl (.inl rfl) ?_;exact ⟨_,rfl,by first | exact .tail _ (.head _) | exact .head _,GiveIn.gave hT oo_ hV lu hsm⟩
end Go.Proofs.YtokjfhfiodopdaaGreat
