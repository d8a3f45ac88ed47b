/- Lemmas: what they ask stands in their statements. -/
import Derived.Test.YtkjjponijamaoaaGreatDoorTSa
set_option linter.unusedSimpArgs false
set_option linter.unusedVariables false
set_option maxHeartbeats 8000000
set_option maxRecDepth 20000
namespace Go.Proofs.YtkjjponijamaoaaGreatDoor
open Go.Kn Go.Num Tryz
attribute [local irreducible] Go.Kn.W WL PL OpQ OpR OpS
theorem pN (va vb:Value) (A B:Nat) (hB:0<B) (hna:(dl A).length≤190) (hnb:(dl B).length≤190) (w:World) (hva:Sl w va (dl A)) (hvb:Sl w vb (dl B)) :
    Calls prog 198 [va,vb].toArray w (fun e w'=>∃ v1 v2,e = .returned (.tuple #[v1,v2])∧Ext w w'∧Slf w.heap.size w' v1 (dl (A / B))∧Slf w.heap.size w' v2 (dl (A % B))):=by
 refine N0 (N:=84) func198 rfl rfl (by simp) ?_;obtain ⟨w0,rfl⟩:∃ w0,w0=w:=⟨_,rfl⟩;simp only [bO,Nat.reduceAdd];have hn0:1≤(dl B).length:=Nat.pos_of_ne_zero (fun hc=>by rw [P6] at hc;omega);obtain ⟨tp,htp⟩:∃ tp,tp=(dg B ((dl B).length - 1) * 65536+atD (dl B) (((dl B).length:Int) - 2)):=⟨_,rfl⟩;refine go6 ?_;refine sQ (qK jK rfl hva.old) rfl (bD rfl (ce_ jH VU z_3 rfl rfl oo_ (fun b15 hb15=>go4 ?_)));refine sQ (qK jK rfl hvb.old) rfl (go3 ?_);refine jQ sn 12 [] [] (go2 ?_);refine pQ rfl (aL (sK rfl rfl) (congrArg (Value.int .i64) (xS (b:=1) rfl oo_ oo_))) (pQ rfl (DB jK rfl rfl hvb.old oo_) (pQ rfl (aL (zE tyT rfl hvb.old oo_) (congrArg IV (FM B _))) (go3 ?_)));refine pQ rfl (aL (sK rfl rfl) (congrArg (Value.int .i64) (YB oo_ dd_ dd_))) (pQ rfl (bT aB rfl (fun w hw=>sL vb (dl B) _ w (SL.sl (M:=_) hvb.old hw))) (pQ rfl (aL (lE rfl rfl) (show _=Value.int .i64 (tp:Int) from congrArg (Value.int .i64) (by rw [htp];exact ei_ (rQ _ _) (GM _ _)))) (go8 ?_)));refine sQ (qK jK rfl hva.old) rfl (go4 ?_);refine cK [9,10,11,12,32,33,34,35,36,37,38,39,40,41,42,43,44,45,46,47,48,49,50,51,52,53,54,55,56,57,58,59,60,61,62,63,64,65,66,67,68,69,70,71,72,73,74,75,76,77,78,79,80] (fun g nn M=>∃ (k R:Nat) (qs:List Nat) (vr:Value) (L:List Blk),(g 9=vr∧g 10 = .int .i64 ((k:Int) - 1))∧M=L ++ [⟨b15,3,iw qs⟩]∧nn=k+0∧(k≤(dl A).length∧DivIn A B (dl A).length k R qs∧SLf w0 L vr (dl R))) ((dl A).length) ?start ?round
 case start =>
  refine ⟨_,(List.Sublist.refl _),(dl A).length,0,_,_,[],⟨?a9,?a10⟩,?mem0,rfl,⟨Nat.le_refl _,DivIn.start (OP A),by rw [uQ];exact SLf.none⟩⟩
  case mem0=>rfl
  case a9=>rfl
  case a10=>exact congrArg (Value.int .i64) (YB oo_ dd_ dd_)
 case round =>
  rintro nn g M ⟨k,R,qs,vr,L,⟨hg9,hg10⟩,rfl,hmeas,⟨hk,hI,hr⟩⟩;subst nn;simp only [fF,hg9,hg10];clear hg9 hg10;refine go5 ?_;refine aH _ rfl (fun hc=>?_) (fun hc=>?_)
  ·replace hc:=cB_ hc
   obtain ⟨m,rfl⟩:∃ m,k=m+1:=⟨k - 1,by omega⟩
   have hRB:R<B:=by rw [hI.rest];exact Nat.mod_lt _ hB
   have hRl:(dl R).length≤190:=Nat.le_trans (g3_ (Nat.le_of_lt hRB)) hnb;refine go5 ?_;refine sQ (aL (mV rfl) (congrArg (Value.int .i64) (show (((m+1:Nat):Int) - 1)=(m:Int) by omega))) rfl (sQ (DB jK rfl rfl hva.old oo_) rfl (sQ (aL (zE tyT rfl hva.old oo_) (congrArg IV (FM A m))) rfl (bD rfl (lF jH z_3 rP rfl dd_ rfl (EU _) (fun b40 hb40=>go_ ?_)))));have hC8:=W2 (R:=R) (rQ A m);refine bD rfl (E4 jH VU rfl rfl (OwnL.of_mine (l:=[dg A m]) hb40 (show 1≤maxLen by decide)) (hr.sl.sub (.cons _ lZ)) (List.Sublist.refl _) (by simp only [List.length_singleton];omega) (fun v8 L8 hO8=>?_));refine sQ (bT aB rfl (fun w hw=>lR v8 ([dg A m] ++ dl R) hC8.1 (by simp only [List.length_append,List.length_singleton];omega) w (SL.sl (hO8.sl lZ) hw))) rfl ?_;refine go2 ?_;have hC8:=W2 (R:=R) (rQ A m);have hr8:=zP hC8.1 hC8.2 (hO8.slf (List.Sublist.refl _));generalize sls v8 (dl (dv ([dg A m] ++ dl R))).length=vr8 at hr8 ⊢
   have hR8:(R * 65536+dg A m)<65536 * B:=by have:=rQ A m;omega
   obtain ⟨nm,hnm⟩:∃ nm,nm=(atD (dl (R * 65536+dg A m)) ((dl B).length:Int) * 4294967296+atD (dl (R * 65536+dg A m)) (((dl B).length:Int) - 1) * 65536+atD (dl (R * 65536+dg A m)) (((dl B).length:Int) - 2)):=⟨_,rfl⟩;obtain ⟨d0,hd0⟩:∃ d0,d0=min 65535 (nm / tp):=⟨_,rfl⟩
   have G8:0<tp∧(R * 65536+dg A m) / B≤d0∧d0≤65535:=by rw [hd0,hnm,htp];have hg:=bn_ hB hR8 rfl hn0;exact ⟨hg.1,hg.2,Nat.min_le_left _ _⟩
   have hl8:(dl (R * 65536+dg A m)).length≤192:=Nat.le_trans (kK (k:=(dl B).length+1) (by have:=OP B;rw [Nat.pow_succ];omega)) oo_;refine go3 ?_;refine sQ (bT aB rfl (fun w hw=>sL _ (dl (R * 65536+dg A m)) _ w (SL.sl (M:=_) (hr8.sl.sub lZ) hw))) rfl (go3 ?_);refine sQ (aL (sK rfl rfl) (congrArg (Value.int .i64) (YB oo_ dd_ dd_))) rfl (sQ (bT aB rfl (fun w hw=>sL _ (dl (R * 65536+dg A m)) _ w (SL.sl (M:=_) (hr8.sl.sub lZ) hw))) rfl (go4 ?_));refine sQ (aL (sK rfl rfl) (congrArg (Value.int .i64) (YB oo_ dd_ dd_))) rfl (sQ (bT aB rfl (fun w hw=>sL _ (dl (R * 65536+dg A m)) _ w (SL.sl (M:=_) (hr8.sl.sub lZ) hw))) rfl (sQ (aL (lE rfl rfl) (show _=Value.int .i64 (nm:Int) from congrArg (Value.int .i64) (by rw [hnm];exact dN_ (GM _ _) (GM _ _) (GM _ _)))) rfl (go_ ?_)));refine sQ (aL (mG rfl rfl (fun hc=>Nat.lt_irrefl 0 (Nat.lt_of_lt_of_eq G8.1 (Int.natCast_eq_zero.1 hc)))) (congrArg (Value.int .i64) (TU (by rw [hnm];exact f8_ _ _ _ _)))) rfl (sQ (aL (gf_ (a:=65535) rfl rfl) (congrArg (fun n:Nat=>Value.int .i64 (n:Int)) hd0.symm)) rfl (go5 ?_));refine bD rfl (lF jH z_3 rP rfl dd_ rfl (EU _) (fun b64 hb64=>bD rfl (iJ aB rfl (fun w hw=>wF vb _ (dl B) [d0] (nC B) (DL.one oo_) oo_ (by simp) w (SL.sl (M:=_) hvb.old hw) (SL.sl (SL.mine (l:=[d0]) (.head _) (Nat.le_refl _)) hw)) (fun vp0 Lp0 hp0=>?_))));refine go4 ?_;refine cK [11,12,66,67,68,69,70,71,72,73] (fun g nn M=>∃ (d:Nat) (vp:Value) (Lp:List Blk),(g 11 = .int .i64 (d:Int)∧g 12=vp)∧M=Lp ++ (L8 ++ (L ++ [⟨b15,3,iw qs⟩]))∧nn=d∧(((R * 65536+dg A m) / B≤d∧d≤65535)∧SLf w0 Lp vp (dl (B * d)))) (d0) ?start ?round
   case start =>
    refine ⟨_,(List.Sublist.append (List.Sublist.refl _) (List.Sublist.cons _ (List.Sublist.refl _))),d0,vp0,Lp0,⟨?a11,?a12⟩,?mem0,rfl,⟨⟨G8.2.1,G8.2.2⟩,by have:=hp0;rw [jI] at this;simpa [dv] using this⟩⟩
    case mem0=>rfl
    case a11=>rfl
    case a12=>rfl
   case round =>
    rintro nn g M ⟨d,vp,Lp,⟨hg11,hg12⟩,rfl,hmeas,⟨hd,hp⟩⟩;subst nn;simp only [fF,hg11,hg12];clear hg11 hg12;have hpl:(dl (B * d)).length≤195:=Nat.le_trans (kK (k:=(dl B).length+1) (by have:=OP B;have h1:=Nat.mul_le_mul_left B hd.2;rw [Nat.pow_succ];omega)) oo_;refine go4 ?_;refine sQ (bT aB rfl (fun w hw=>mX _ vp (dl (R * 65536+dg A m)) (dl (B * d)) (nC _) (nC _) oo_ oo_ w (SL.sl (hr8.sl.sub (.trans lZ (List.sublist_append_right _ _))) hw) (SL.sl (hp.sl.sub lZ) hw))) rfl (go_ ?_);refine aH _ rfl (fun h68=>?_) (fun h68=>?_)
    ·replace h68:=cB_ h68
     rw [jI,jI] at h68;have hless:=a3_ hB hd.1 h68;refine go4 ?_;refine sQ (aL (sK rfl rfl) (congrArg (Value.int .i64) (xS (b:=1) rfl hless.1 oo_))) rfl (go5 ?_);refine bD rfl (iJ aB rfl (fun w hw=>n8 vp vb (dl (B * d)) (dl B) (nC _) (nC _) oo_ oo_ (by rw [jI,jI];exact hless.2.2.1) w (SL.sl (hp.sl.sub lZ) hw) (SL.sl (M:=_) hvb.old hw)) (fun vp2 Lp2 hp2=>go2 ?_));refine ⟨pp_,_,_,(List.Sublist.append (List.Sublist.refl _) (List.sublist_append_right _ _)),(by have:=hless.1;omega),d - 1,vp2,Lp2,⟨?s11,?s12⟩,?mem,rfl,⟨⟨hless.2.1,by omega⟩,by rw [jI,jI,hless.2.2.2] at hp2;exact hp2⟩⟩
     case mem=>rfl
     case s11=>rfl
     case s12=>rfl
    replace h68:=cB_ h68
    rw [jI,jI] at h68;have hdone:=a2_ hB hd.1 h68;refine go3 ?_;refine sQ (aL (mV rfl) (congrArg (Value.int .i64) (show (((m+1:Nat):Int) - 1)=(m:Int) by omega))) rfl (go_ ?_);refine sQ (tU jK rfl rfl oo_ oo_) rfl (bD rfl (MZ tyT rfl rfl (uL (uL (uL uH))) (by rw [hI.len];omega) (.inl (by assumption)) (go4 ?_)));refine bD rfl (iJ aB rfl (fun w hw=>n8 _ vp (dl (R * 65536+dg A m)) (dl (B * d)) (nC _) (nC _) oo_ oo_ (by rw [jI,jI];exact hdone.2.2) w (SL.sl (hr8.sl.sub (.trans lZ (List.sublist_append_right _ _))) hw) (SL.sl (hp.sl.sub lZ) hw)) (fun vr2 Lr2 hr2=>go3 ?_));refine sQ (aL (mV rfl) (congrArg (Value.int .i64) (show (((m+1:Nat):Int) - 1)=(m:Int) by omega))) rfl (go3 ?_);refine ⟨pp_,_,_,(List.Sublist.append (List.Sublist.refl _) (.trans (List.sublist_append_right _ _) (.trans (List.sublist_append_right _ _) (List.sublist_append_right _ _)))),oo_,m,((R * 65536+dg A m) % B),qs.set m d,vr2,Lr2,⟨?s9,?s10⟩,?mem,rfl,⟨by omega,by rw [hdone.1];exact hI.step hB oo_,by rw [jI,jI,hdone.2.1] at hr2;exact hr2⟩⟩
    case mem=>rfl
    case s9=>rfl
    case s10=>exact congrArg (Value.int .i64) (cO (n:=(m:Int) - 1) (by unfold I64;omega))
  replace hc:=cB_ hc
  obtain rfl:k=0:=by omega
  refine go3 ?_;refine sQ (bT aB rfl (fun w hw=>lR _ qs hI.ok (by rw [hI.len];omega) w (SL.sl (SL.mine' (mA (.head _)) hI.len (Nat.le_refl _)) hw))) rfl (go5 ?_);refine l8 rfl (.inr rfl) rfl rfl ?_;exact ⟨_,_,rfl,zP hI.ok hI.fin.1 (SLf.mine hb15 (mA (.head _)) hI.len (Nat.le_refl _)),by rw [hI.fin.2] at hr;exact hr.sub lZ⟩
theorem EB (a:I) :
    Ret prog 234 [AV [pI a]] (AV [pI (qO a)]):=by
 refine bL (N:=13) func234 rfl rfl (by simp) (fun w0=>?_);simp only [bO,Nat.reduceAdd];refine go2 ?_;intro b1 hb1;refine go_ ?_;intro b2 hb2;refine go4 ?_;refine sC (.bool a.1.good) aB (cJ a.1 a.2) rfl rfl rfl (go2 ?_);rcases bt a.1.good with h3 | h3
 ·refine W_f (gE h3) rfl (go_ ?_);refine oX sn 7 [4,6] [6] (go4 ?_);refine cF rfl rfl (iJ aB rfl (fun w hw=>cH a.1 a.2 w) (fun vl4 Ll4 kl4=>⟨(fun _=>sR s0),sn,?_⟩))
  try simp only [jI,oI] at kl4
  refine pQ rfl (aL (v':=AV [pI (E (Z.of (sgn (!a.1.neg) (val a.1.w))))]) (bT aB rfl (fun w hw=>eS (!a.1.neg) vl4 (dl (val a.1.w)) (nC _) (Nat.le_trans (kK (k:=32) (uJ a.2)) dd_) w (SL.sl (SL.sub kl4.sl lZ) hw))) (by rw [(jI _)];rfl)) (go3 ?_);refine bA rfl (.inr rfl) (eF rfl (mA mZ) tyT rfl) ?_;exact congrArg vS4 (show _=(qO a) from aY h3 rfl)
 refine W_t (iK h3) rfl (go_ ?_);refine sC (AV [pI (E Z.bad)]) aB fQ rfl rfl rfl (go3 ?_);refine bA rfl (.inr rfl) (eF rfl m0 tyT rfl) ?_;exact congrArg vS4 (show _=(qO a) from aI h3 rfl)
theorem uN (a:R) (ha:a.Ok):Ret prog 234 [RV a] (RV (Z.neg a.dec).enc):=by
  have h:=EB ⟨a,ha⟩;rw [CZ] at h;exact h
theorem D6 (a:I) :
    Ret prog 228 [AV [pI a]] (AV [pI (qN a)]):=by
 refine bL (N:=10) func228 rfl rfl (by simp) (fun w0=>?_);simp only [bO,Nat.reduceAdd];refine go2 ?_;intro b1 hb1;refine go_ ?_;intro b2 hb2;refine go4 ?_;refine sC (.bool a.1.good) aB (cJ a.1 a.2) rfl rfl rfl (go2 ?_);rcases bt a.1.good with h3 | h3
 ·refine W_f (gE h3) rfl (go3 ?_);refine bD rfl (iJ aB rfl (fun w hw=>cH a.1 a.2 w) (fun vl4 Ll4 kl4=>?_))
  try simp only [jI,oI] at kl4
  refine sQ (aL (v':=AV [pI (E (Z.of (sgn false (val a.1.w))))]) (bT aB rfl (fun w hw=>eS false vl4 (dl (val a.1.w)) (nC _) (Nat.le_trans (kK (k:=32) (uJ a.2)) dd_) w (SL.sl (SL.sub kl4.sl lZ) hw))) (by rw [(jI _)];rfl)) rfl (go3 ?_);refine bA rfl (.inr rfl) (eF rfl (mA mZ) tyT rfl) ?_;exact congrArg vS4 (show _=(qN a) from aY h3 rfl)
 refine W_t (iK h3) rfl (go_ ?_);refine sC (AV [pI (E Z.bad)]) aB fQ rfl rfl rfl (go3 ?_);refine bA rfl (.inr rfl) (eF rfl m0 tyT rfl) ?_;exact congrArg vS4 (show _=(qN a) from aI h3 rfl)
theorem D7 (a:R) (ha:a.Ok):Ret prog 228 [RV a] (RV (Z.abs a.dec).enc):=by
  have h:=D6 ⟨a,ha⟩;rw [CV] at h;exact h
theorem DD (a:I) :
    Ret prog 149 [AV [pI a]] (.int .i64 ((nZ a).1)):=by
 refine bL (N:=14) func149 rfl rfl (by simp) (fun w0=>?_);simp only [bO,Nat.reduceAdd];refine go2 ?_;intro b1 hb1;refine go3 ?_;refine gJv [3,4,5,6,7,8,9,10,11] [(11,.bool (!a.1.good||((((dl (val a.1.w)).length:Nat):Int)==0)))] (fun K2 J2=>?_) ?_
 ·refine go2 ?_;refine sC (.bool a.1.good) aB (cJ a.1 a.2) rfl rfl rfl (go_ ?_);rcases bt a.1.good with h4 | h4
  ·refine sB (gE h4) rfl (go_ ?_);refine bD rfl (iJ aB rfl (fun w hw=>cH a.1 a.2 w) (fun vl5 Ll5 kl5=>?_))
   try simp only [jI,oI] at kl5
   refine sQ (aL (v':=.int .i64 (((dl (val a.1.w)).length:Nat):Int)) (qK jK rfl (SL.sub kl5.sl lZ)) rfl) rfl (go3 ?_);refine J2 _ _ pp_ (sR (s0)) (bK (jU h4 rfl))
  refine sB (iK h4) rfl (go6 ?_);refine J2 _ _ pp_ s0 (bK (n7 h4))
 intro g6;refine aH _ rfl (fun h7=>?_) (fun h7=>?_)
 ·refine go4 ?_;refine bA rfl (.inr rfl) rfl ?_;exact congrArg vS8 (show _=(nZ a) from aY h7 rfl)
 refine go6 ?_;refine aH _ rfl (fun h8=>?_) (fun h8=>?_)
 ·refine go4 ?_;refine bA rfl (.inr rfl) rfl ?_;exact congrArg vS8 (show _=(nZ a) from aI h7 (aY h8 rfl))
 refine go5 ?_;refine bA rfl (.inr rfl) rfl ?_;exact congrArg vS8 (show _=(nZ a) from aI h7 (aI h8 rfl))
theorem gR (a:R) (ha:a.Ok):Ret prog 149 [RV a] (.int .i64 a.dec.sign):=by
  have h:=DD ⟨a,ha⟩;rw [BV] at h;exact h
theorem EC (a:I) (b:I) :
    Ret prog 113 [AV [pI a],AV [pI b]] (AV [pI (nG a b)]):=by
 refine bL (N:=76) func113 rfl rfl (by simp) (fun w0=>?_);simp only [bO,Nat.reduceAdd];refine go2 ?_;intro b1 hb1;refine go_ ?_;intro b2 hb2;refine go_ ?_;intro b3 hb3;refine go3 ?_;refine sC (.tuple #[.int .i64 ((fI a).1),.bool (kI a.1)]) aB (i7 a.1 a.2) rfl rfl rfl (go8 ?_);refine sC (.tuple #[.int .i64 ((fI b).1),.bool (kI b.1)]) aB (i7 b.1 b.2) rfl rfl rfl (go7 ?_);refine gJv [21,22,23,24,25,26,27,28] [(28,.bool ((kI a.1)&&((kI b.1)&&((fI b).1 != 0))))] (fun K2 J2=>?_) ?_
 ·refine go2 ?_;refine sBB rfl (fun h6=>?_) (fun h6=>?_)
  ·refine go2 ?_;refine sBB rfl (fun h7=>?_) (fun h7=>?_)
   ·refine go4 ?_;refine J2 _ _ pp_ s0 (bK (kZ h6 (kZ h7 rfl)))
   refine go4 ?_;refine J2 _ _ pp_ s0 (bK (kZ h6 (oZ h7)))
  refine go7 ?_;refine J2 _ _ pp_ s0 (bK (oZ h6))
 intro g8;refine aH _ rfl (fun h9=>?_) (fun h9=>?_)
 ·refine go3 ?_;have hfl:=QK h9;refine sC (.int .i64 ((W.fdiv (fI a) (fI b)).1)) aB (wE (fI a).1 (fI b).1 (fI a).2 hfl.1 hfl.2.1) rfl rfl (congrArg (Value.int .i64) hfl.2.2) (sC (AV [pI (E (Z.of (W.fdiv (fI a) (fI b)).1))]) aB (cI (W.fdiv (fI a) (fI b)).1 (W.fdiv (fI a) (fI b)).2) rfl rfl rfl (go3 ?_));refine bA rfl (.inr rfl) (eF rfl m0 tyT rfl) ?_;exact congrArg vS4 (show _=(nG a b) from aY h9 rfl)
 refine go2 ?_;refine gJv [33,34,35,36,37,38,39,40,41,42,43,44,45,46] [(46,.bool (!a.1.good||(!b.1.good||((((dl (val b.1.w)).length:Nat):Int)==0))))] (fun K4 J4=>?_) ?_
 ·refine go2 ?_;refine sC (.bool a.1.good) aB (cJ a.1 a.2) rfl rfl rfl (go_ ?_);rcases bt a.1.good with h13 | h13
  ·refine sB (gE h13) rfl (go_ ?_);refine sC (.bool b.1.good) aB (cJ b.1 b.2) rfl rfl rfl (go2 ?_);rcases bt b.1.good with h14 | h14
   ·refine sB (gE h14) rfl (go_ ?_);refine bD rfl (iJ aB rfl (fun w hw=>cH b.1 b.2 w) (fun vl15 Ll15 kl15=>?_))
    try simp only [jI,oI] at kl15
    refine sQ (aL (v':=.int .i64 (((dl (val b.1.w)).length:Nat):Int)) (qK jK rfl (SL.sub kl15.sl lZ)) rfl) rfl (go3 ?_);refine J4 _ _ pp_ (sR (s0)) (bK (jU h13 (jU h14 rfl)))
   refine sB (iK h14) rfl (go6 ?_);refine J4 _ _ pp_ s0 (bK (jU h13 (n7 h14)))
  refine sB (iK h13) rfl (AG ?_);refine J4 _ _ pp_ s0 (bK (n7 h13))
 intro g16;refine aH _ rfl (fun h17=>?_) (fun h17=>?_)
 ·refine go_ ?_;refine sC (AV [pI (E Z.bad)]) aB fQ rfl rfl rfl (go3 ?_);refine bA rfl (.inr rfl) (eF rfl m0 tyT rfl) ?_;exact congrArg vS4 (show _=(nG a b) from aI h9 (aY h17 rfl))
 refine go_ ?_;refine gds sn [0,8,5,13,17,20,24,28,32,36] [] mix (by kernel_rfl) (go2 ?_);refine cF rfl rfl (iJ aB rfl (fun w hw=>cH a.1 a.2 w) (fun vl18 Ll18 kl18=>⟨(fun _=>sR s0),sn,?_⟩))
 try simp only [jI,oI] at kl18
 refine cF rfl rfl (iJ aB rfl (fun w hw=>cH b.1 b.2 w) (fun vl19 Ll19 kl19=>⟨(fun _=>sR s0),sn,?_⟩))
 try simp only [jI,oI] at kl19
 have hB:=eF_ h17;refine cF rfl rfl (FT aB rfl (fun w hw=>pN vl18 vl19 (val a.1.w) (val b.1.w) hB (Nat.le_trans (kK (k:=32) (uJ a.2)) dd_) (Nat.le_trans (kK (k:=32) (uJ b.2)) dd_) w (SL.sl (SL.sub kl18.sl (sR lZ)) hw) (SL.sl (SL.sub kl19.sl lZ) hw)) (fun vl20_0 vl20_1 Ll20 kl20_0 kl20_1=>⟨(fun _=>sR s0),sn,?_⟩))
 try simp only [jI,oI] at kl20_0 kl20_1
 refine go7 ?_;refine gJv [56,57,58,59,60,61,62,63,64,65] [(65,.bool ((a.1.neg != b.1.neg)&&decide (0<(((dl ((val a.1.w) % (val b.1.w))).length:Nat):Int))))] (fun K6 J6=>?_) ?_
 ·refine go5 ?_;refine sQ (aL (v':=.bool (a.1.neg != b.1.neg)) (yI F2 rfl rfl) rfl) rfl ?_;refine sBB rfl (fun h22=>?_) (fun h22=>?_)
  ·refine go_ ?_;refine sQ (aL (v':=.int .i64 (((dl ((val a.1.w) % (val b.1.w))).length:Nat):Int)) (qK jK rfl (SL.sub kl20_1 lZ)) rfl) rfl (go3 ?_);refine J6 _ _ pp_ s0 (bK (kZ h22 rfl))
  refine go5 ?_;refine J6 _ _ pp_ s0 (bK (oZ h22))
 intro g23;refine aH _ rfl (fun h24=>?_) (fun h24=>?_)
 ·refine go2 ?_;refine bD rfl (lF jH z_3 rP rfl dd_ rfl (EU 1) (fun b25 hb25=>bD rfl (iJ aB rfl (fun w hw=>tW vl20_0 _ (dl ((val a.1.w) / (val b.1.w))) [1] (nC _) (DL.one dd_) (Nat.le_trans (kK (k:=32) (fE_ (uJ a.2))) dd_) (by simp) w (SL.sl (SL.sub kl20_0 (sd lZ)) hw) (SL.sl (SL.sub (SL.mine (l:=[1]) List.mem_cons_self (Nat.le_refl _)) (sk sn)) hw)) (fun vl26 Ll26 kl26=>?_))))
  try simp only [jI,oI] at kl26
  refine go7 ?_;refine sQ (aL (v':=.bool (a.1.neg != b.1.neg)) (yI F2 rfl rfl) rfl) rfl (go_ ?_);refine sQ (aL (v':=AV [pI (E (Z.of (sgn (a.1.neg != b.1.neg) (((val a.1.w) / (val b.1.w))+1))))]) (bT aB rfl (fun w hw=>eS (a.1.neg != b.1.neg) vl26 (dl (((val a.1.w) / (val b.1.w))+1)) (nC _) (Nat.le_trans (kK (k:=33) (g1_ (k:=32) (fE_ (uJ a.2)) (Nat.lt_of_lt_of_le (show 1<65536 ^ 1 by decide) (Nat.pow_le_pow_right (show 0<65536 by decide) (show 1≤32 by decide))))) dd_) w (SL.sl (SL.sub kl26.sl lZ) hw))) (by rw [(jI _)];rfl)) rfl (go3 ?_);refine bA rfl (.inr rfl) (eF rfl (mA (mC (mA (mA (mA mZ))))) tyT rfl) ?_;exact congrArg vS4 (show _=(nG a b) from aI h9 (aI h17 (aY h24 rfl)))
 refine go6 ?_;refine sQ (aL (v':=.bool (a.1.neg != b.1.neg)) (yI F2 rfl rfl) rfl) rfl (go_ ?_);refine sQ (aL (v':=AV [pI (E (Z.of (sgn (a.1.neg != b.1.neg) ((val a.1.w) / (val b.1.w)))))]) (bT aB rfl (fun w hw=>eS (a.1.neg != b.1.neg) vl20_0 (dl ((val a.1.w) / (val b.1.w))) (nC _) (Nat.le_trans (kK (k:=32) (fE_ (uJ a.2))) dd_) w (SL.sl (SL.sub kl20_0 lZ) hw))) (by rw [(jI _)];rfl)) rfl (go3 ?_);refine bA rfl (.inr rfl) (eF rfl (mA (mA (mA mZ))) tyT rfl) ?_;exact congrArg vS4 (show _=(nG a b) from aI h9 (aI h17 (aI h24 rfl)))
theorem gK (a b:R) (ha:a.Ok) (hb:b.Ok):Ret prog 113 [RV a,RV b] (RV (Z.quo a.dec b.dec).enc):=by
  have h:=EC ⟨a,ha⟩ ⟨b,hb⟩;rw [C0] at h;exact h
theorem o8 (a b:R) (ha:a.Ok) (hb:b.Ok) :
    Ret prog 150 [RV a,RV b] (RV (Z.gcd a.dec b.dec).enc):=by
 refine bL (N:=64) func150 rfl rfl (by simp) (fun w0=>?_);simp only [bO,Nat.reduceAdd];have hla:=eG_ ha;have hlb:=eG_ hb;refine go_ ?_;refine bD rfl (mB rfl rfl (fun b2 hb2=>bD rfl (mB rfl rfl (fun b3 hb3=>bD rfl (fP kN (fun b4 hb4=>go2 ?_))))));refine sQ (cP tyT rfl mm_ (cT ha)) rfl ?_;refine sQ (bI aB (i7 a ha) rfl) rfl (go7 ?_);refine sQ (cP tyT rfl mm_ (cT hb)) rfl ?_;refine sQ (bI aB (i7 b hb) rfl) rfl (jT ?_)
 cases w1:kI a
 ·refine go7 ?_;refine sQ (cP tyT rfl mm_ (cT ha)) rfl ?_;refine sQ (bI aB (cJ a ha) rfl) rfl (go2 ?_)
  cases ga:a.good
  ·refine go7 ?_;refine sQ (bI aB fQ rfl) rfl (bD rfl (cC tyT rfl rfl uu_ (aF _) rfl (bV _) (.inl (by assumption)) ?_));refine go2 ?_;refine bA rfl (.inr rfl) ⟨_,_,_,_,_,_,rfl,mm_,tyT,_,(eC (aF _)),(aF _),rfl⟩ ?_
   (rw [Z.gcd,oU (.inl (JN ga))];rfl)
  refine sQ (cP tyT rfl mm_ (cT hb)) rfl ?_;refine sQ (bI aB (cJ b hb) rfl) rfl (go3 ?_);refine aH _ rfl (fun gb=>?_) (fun gb=>?_)
  ·replace gb:=cB_ gb
   refine go_ ?_;refine sQ (bI aB fQ rfl) rfl (bD rfl (cC tyT rfl rfl uu_ (aF _) rfl (bV _) (.inl (by assumption)) ?_));refine go2 ?_;refine bA rfl (.inr rfl) ⟨_,_,_,_,_,_,rfl,mm_,tyT,_,(eC (aF _)),(aF _),rfl⟩ ?_
   (rw [Z.gcd,oU (.inr (JN gb))];rfl)
  replace gb:=cB_ gb
  refine go2 ?_;refine sQ (cP tyT rfl mm_ (cT ha)) rfl ?_;refine bD rfl (iJ aB rfl (fun w hw=>cH a ha w) (fun v5 L5 h5=>go3 ?_));refine sQ (cP tyT rfl mm_ (cT hb)) rfl ?_;refine bD rfl (iJ aB rfl (fun w hw=>cH b hb w) (fun v6 L6 h6=>go4 ?_));refine cK [10,11,12,13,51,52,53,54,55,56,57,58,59,60,61] (fun g nn M=>∃ (X Y:Nat) (vx vy:Value) (Lx Ly:List Blk),(g 10=vx∧g 11=vy)∧M=Ly ++ (Lx ++ [⟨b4,31,zR⟩,⟨b3,31,b.cells⟩,⟨b2,31,a.cells⟩])∧nn=Y∧((X<65536 ^ 32∧Y<65536 ^ 32)∧Nat.gcd X Y=Nat.gcd (val a.w) (val b.w)∧SL w0 [] Lx vx (dl X)∧SL w0 [] Ly vy (dl Y))) (val b.w) ?start ?round
  case start =>
   refine ⟨_,(List.Sublist.refl _),val a.w,val b.w,v5,v6,L5,L6,⟨?a10,?a11⟩,?mem0,rfl,⟨⟨XH ha,XH hb⟩,rfl,h5.sl,h6.sl⟩⟩
   case mem0=>rfl
   case a10=>rfl
   case a11=>rfl
  case round =>
   rintro nn g M ⟨X,Y,vx,vy,Lx,Ly,⟨hg10,hg11⟩,rfl,hmeas,⟨hb3,hgc,hX,hY⟩⟩;subst nn;simp only [fF,hg10,hg11];clear hg10 hg11;refine go3 ?_;refine sQ (qK jK rfl (hY.sub lZ)) rfl (go2 ?_);refine aH _ rfl (fun h53=>?_) (fun h53=>?_)
   ·replace h53:=cB_ h53
    have hYp:0<Y:=XF h53;refine go5 ?_;refine bD rfl (FT aB rfl (fun w hw=>pN vx vy X Y hYp (IL hb3.1) (IL hb3.2) w (SL.sl (hX.sub (.trans lZ (List.sublist_append_right _ _))) hw) (SL.sl (hY.sub lZ) hw)) (fun vq vr Lr hq hr=>AH ?_));refine ⟨pp_,_,_,(List.Sublist.append (List.Sublist.refl _) (List.Sublist.append (List.Sublist.refl _) (List.sublist_append_right _ _))),(Nat.mod_lt _ hYp),Y,X % Y,vy,vr,Ly,Lr,⟨?s10,?s11⟩,?mem,rfl,⟨⟨hb3.2,Nat.lt_of_le_of_lt (Nat.mod_le _ _) hb3.1⟩,by rw [← hgc];exact QG X Y,hY,hr⟩⟩
    case mem=>rfl
    case s10=>rfl
    case s11=>rfl
   replace h53:=cB_ h53
   have hY0:Y=0:=S7 h53;refine go3 ?_;refine sQ (bT aB rfl (fun w hw=>eS false _ _ (nC _) (Nat.le_trans (IL hb3.1) dd_) w (SL.sl (hX.sub (.trans lZ (List.sublist_append_right _ _))) hw))) rfl (bD rfl (cC tyT rfl rfl uu_ (aF _) rfl (bV _) (.inl (by assumption)) ?_));refine go2 ?_;refine bA rfl (.inr rfl) ⟨_,_,_,_,_,_,rfl,mm_,tyT,_,(eC (aF _)),(aF _),rfl⟩ ?_
   (rw [bh_ ha hb ga gb (by rw [← hgc,hY0,Nat.gcd_zero_right]),jI];rfl)
 refine go3 ?_;refine aH _ rfl (fun w2=>?_) (fun w2=>?_)
 ·replace w2:=cB_ w2
  refine go2 ?_;refine cK [5,7,9,28,29,30,31,32,33,34] (fun g nn M=>∃ (x y:Int),(g 5 = .int .i64 x∧g 7 = .int .i64 y)∧M=[⟨b4,31,zR⟩,⟨b3,31,b.cells⟩,⟨b2,31,a.cells⟩]∧nn=y.natAbs∧((-4611686018427387904<x∧x<4611686018427387904)∧(-4611686018427387904<y∧y<4611686018427387904)∧Int.gcd x y=Int.gcd (mK a) (mK b))) ((mK b).natAbs) ?start ?round
  case start =>
   refine ⟨_,(List.Sublist.refl _),mK a,mK b,⟨?a5,?a7⟩,?mem0,rfl,⟨(oR ha w1).2.2.2,(oR hb w2).2.2.2,rfl⟩⟩
   case mem0=>rfl
   case a5=>rfl
   case a7=>rfl
  case round =>
   rintro nn g M ⟨x,y,⟨hg5,hg7⟩,rfl,hmeas,⟨hx,hy,hgc⟩⟩;subst nn;simp only [fF,hg5,hg7];clear hg5 hg7;refine go5 ?_;refine aH _ rfl (fun h29=>?_) (fun h29=>?_)
   ·replace h29:=cB_ h29
    refine go5 ?_;refine sQ (rR rfl rfl h29) rfl (jT ?_);refine ⟨pp_,_,_,(List.Sublist.refl _),(yM (by simpa using h29)).1,y,x.tmod y,⟨?s5,?s7⟩,?mem,rfl,⟨hy,fU_ hx,by rw [← hgc];exact bs_ x y⟩⟩
    case mem=>rfl
    case s5=>rfl
    case s7=>rfl
   replace h29:=cB_ h29
   have hy0:y=0:=by simpa using h29
   refine go3 ?_;refine sQ (bI aB (cI x (fT_ hx)) rfl) rfl (sQ (bI aB (D7 (Z.of x).enc (Z.enc_ok _)) rfl) rfl (bD rfl (cC tyT rfl rfl uu_ (aF _) rfl (bV _) (.inl (by assumption)) ?_)));refine go2 ?_;refine bA rfl (.inr rfl) ⟨_,_,_,_,_,_,rfl,mm_,tyT,_,(eC (aF _)),(aF _),rfl⟩ ?_
   (rw [C4,Y5 ha hb w1 w2 hgc hy0];rfl)
 replace w2:=cB_ w2
 refine go3 ?_;refine sQ (cP tyT rfl mm_ (cT ha)) rfl ?_;refine sQ (bI aB (cJ a ha) rfl) rfl (go2 ?_)
 cases ga:a.good
 ·refine go7 ?_;refine sQ (bI aB fQ rfl) rfl (bD rfl (cC tyT rfl rfl uu_ (aF _) rfl (bV _) (.inl (by assumption)) ?_));refine go2 ?_;refine bA rfl (.inr rfl) ⟨_,_,_,_,_,_,rfl,mm_,tyT,_,(eC (aF _)),(aF _),rfl⟩ ?_
  (rw [Z.gcd,oU (.inl (JN ga))];rfl)
 refine sQ (cP tyT rfl mm_ (cT hb)) rfl ?_;refine sQ (bI aB (cJ b hb) rfl) rfl (go3 ?_);refine aH _ rfl (fun gb=>?_) (fun gb=>?_)
 ·replace gb:=cB_ gb
  refine go_ ?_;refine sQ (bI aB fQ rfl) rfl (bD rfl (cC tyT rfl rfl uu_ (aF _) rfl (bV _) (.inl (by assumption)) ?_));refine go2 ?_;refine bA rfl (.inr rfl) ⟨_,_,_,_,_,_,rfl,mm_,tyT,_,(eC (aF _)),(aF _),rfl⟩ ?_
  (rw [Z.gcd,oU (.inr (JN gb))];rfl)
 replace gb:=cB_ gb
 refine go2 ?_;refine sQ (cP tyT rfl mm_ (cT ha)) rfl ?_;refine bD rfl (iJ aB rfl (fun w hw=>cH a ha w) (fun v5 L5 h5=>go3 ?_));refine sQ (cP tyT rfl mm_ (cT hb)) rfl ?_;refine bD rfl (iJ aB rfl (fun w hw=>cH b hb w) (fun v6 L6 h6=>go4 ?_));refine cK [10,11,12,13,51,52,53,54,55,56,57,58,59,60,61] (fun g nn M=>∃ (X Y:Nat) (vx vy:Value) (Lx Ly:List Blk),(g 10=vx∧g 11=vy)∧M=Ly ++ (Lx ++ [⟨b4,31,zR⟩,⟨b3,31,b.cells⟩,⟨b2,31,a.cells⟩])∧nn=Y∧((X<65536 ^ 32∧Y<65536 ^ 32)∧Nat.gcd X Y=Nat.gcd (val a.w) (val b.w)∧SL w0 [] Lx vx (dl X)∧SL w0 [] Ly vy (dl Y))) (val b.w) ?start ?round
 case start =>
  refine ⟨_,(List.Sublist.refl _),val a.w,val b.w,v5,v6,L5,L6,⟨?a10,?a11⟩,?mem0,rfl,⟨⟨XH ha,XH hb⟩,rfl,h5.sl,h6.sl⟩⟩
  case mem0=>rfl
  case a10=>rfl
  case a11=>rfl
 case round =>
  rintro nn g M ⟨X,Y,vx,vy,Lx,Ly,⟨hg10,hg11⟩,rfl,hmeas,⟨hb3,hgc,hX,hY⟩⟩;subst nn;simp only [fF,hg10,hg11];clear hg10 hg11;refine go3 ?_;refine sQ (qK jK rfl (hY.sub lZ)) rfl (go2 ?_);refine aH _ rfl (fun h53=>?_) (fun h53=>?_)
  ·replace h53:=cB_ h53
   have hYp:0<Y:=XF h53;refine go5 ?_;refine bD rfl (FT aB rfl (fun w hw=>pN vx vy X Y hYp (IL hb3.1) (IL hb3.2) w (SL.sl (hX.sub (.trans lZ (List.sublist_append_right _ _))) hw) (SL.sl (hY.sub lZ) hw)) (fun vq vr Lr hq hr=>AH ?_));refine ⟨pp_,_,_,(List.Sublist.append (List.Sublist.refl _) (List.Sublist.append (List.Sublist.refl _) (List.sublist_append_right _ _))),(Nat.mod_lt _ hYp),Y,X % Y,vy,vr,Ly,Lr,⟨?s10,?s11⟩,?mem,rfl,⟨⟨hb3.2,Nat.lt_of_le_of_lt (Nat.mod_le _ _) hb3.1⟩,by rw [← hgc];exact QG X Y,hY,hr⟩⟩
   case mem=>rfl
   case s10=>rfl
   case s11=>rfl
  replace h53:=cB_ h53
  have hY0:Y=0:=S7 h53;refine go3 ?_;refine sQ (bT aB rfl (fun w hw=>eS false _ _ (nC _) (Nat.le_trans (IL hb3.1) dd_) w (SL.sl (hX.sub (.trans lZ (List.sublist_append_right _ _))) hw))) rfl (bD rfl (cC tyT rfl rfl uu_ (aF _) rfl (bV _) (.inl (by assumption)) ?_));refine go2 ?_;refine bA rfl (.inr rfl) ⟨_,_,_,_,_,_,rfl,mm_,tyT,_,(eC (aF _)),(aF _),rfl⟩ ?_
  (rw [bh_ ha hb ga gb (by rw [← hgc,hY0,Nat.gcd_zero_right]),jI];rfl)
end Go.Proofs.YtkjjponijamaoaaGreatDoor
