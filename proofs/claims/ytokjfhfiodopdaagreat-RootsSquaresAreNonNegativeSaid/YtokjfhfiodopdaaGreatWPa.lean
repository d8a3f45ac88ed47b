/- Lemmas: what they ask stands in their statements. -/
import Derived.Test.YtokjfhfiodopdaaGreatWSa
set_option linter.unusedSimpArgs false
set_option linter.unusedVariables false
set_option maxHeartbeats 8000000
set_option maxRecDepth 20000
namespace Go.Num
open Go Go.Kn
theorem eB_ {a b:I} (h:(!a.1.good||(!b.1.good))=true):a.1.dec.o=none∨b.1.dec.o=none:=by
  cases ha:a.1.good
  · exact .inl (D8 ha)
  · cases hb:b.1.good
    · exact .inr (D8 hb)
    rw [ha,hb] at h;cases h
theorem XS {a b:I} (h:(!a.1.good||(!b.1.good))=false):a.1.good=true∧b.1.good=true:=by
  cases ha:a.1.good <;> cases hb:b.1.good <;> rw [ha,hb] at h <;> first | exact ⟨rfl,rfl⟩ | cases h
theorem wQ (a:I):lV a=E (Z.neg a.dec):=by
  unfold lV
  show _=E (Z.neg a.1.dec)
  cases h:a.1.good
  · rw [cond_false,Z.neg,qV (D8 h)]
  rw [cond_true,dA_ a.2 h]
theorem wM (a:I):lU a=E (Z.abs a.dec):=by
  unfold lU
  show _=E (Z.abs a.1.dec)
  cases h:a.1.good
  · rw [cond_false,Z.abs,qV (D8 h)]
  rw [cond_true,cT_ a.2 h]
theorem wN (a b:I):i8 a b=E (Z.add a.dec b.dec):=by
  unfold i8
  show _=E (Z.add a.1.dec b.1.dec)
  cases hw:(gU a.1&&gU b.1)
  · rw [cond_false]
    cases hg:(!a.1.good||(!b.1.good))
    · obtain ⟨ga,gb⟩:=XS hg
      rw [cond_false]
      cases hn:(a.1.neg==b.1.neg)
      · rw [cond_false]
        have hn':a.1.neg≠b.1.neg:=by simpa using hn
        cases hl:decide (val a.1.w<val b.1.w)
        · rw [cond_false,cV_ a.2 b.2 ga gb hn' (of_decide_eq_false hl)]
        rw [cond_true,cW_ a.2 b.2 ga gb hn' (of_decide_eq_true hl)]
      rw [cond_true,ax_ a.2 b.2 ga gb (by simpa using hn)]
    rw [cond_true,Z.add,jB (eB_ hg)]
  rw [cond_true];rw [Bool.and_eq_true] at hw
  show E (Z.of (IntKind.i64.wrap (jD a.1+jD b.1)))=_
  rw [(gs_ (kO a.2 hw.1).2.2.2 (kO b.2 hw.2).2.2.2).1,T9 a.2 b.2 hw.1 hw.2]
theorem wP (a b:I):kP a b=E (Z.mul a.dec b.dec):=by
  unfold kP
  show _=E (Z.mul a.1.dec b.1.dec)
  cases hw:(gU a.1&&(gU b.1&&((decide ((dQ a).1<2147483648)&&decide (-2147483648<(dQ a).1))&&(decide ((dQ b).1<2147483648)&&decide (-2147483648<(dQ b).1)))))
  · rw [cond_false]
    cases hg:(!a.1.good||(!b.1.good))
    · obtain ⟨ga,gb⟩:=XS hg
      rw [cond_false,dy_ a.2 b.2 ga gb]
    rw [cond_true,Z.mul,jB (eB_ hg)]
  rw [cond_true];rw [Bool.and_eq_true,Bool.and_eq_true,Bool.and_eq_true] at hw;obtain ⟨h1,h2,h3,h4⟩:=hw
  show E (Z.of (IntKind.i64.wrap (jD a.1 * jD b.1)))=_
  rw [(gt_ (x:=jD a.1) (y:=jD b.1) (SF h3) (SF h4)).1,UU a.2 b.2 h1 h2]
theorem ds_ (n:Nat):((((dl n).length:Nat):Int)==0)=(n==0):=by
  rw [Bool.eq_iff_iff,beq_iff_eq,beq_iff_eq]
  constructor
  · intro h;exact KH.1 oo_
  intro h;rw [KH.2 h];rfl
theorem vT (a:I):kC a=Z.signW a.dec:=by
  unfold kC;rw [ds_]
  apply Subtype.ext
  show _=a.1.dec.sign
  cases hg:a.1.good
  · simp only [Bool.not_false,Bool.true_or,cond_true];exact zX a.2 (.inl hg)
  · cases hz:(val a.1.w==0)
    · simp only [Bool.not_true,Bool.false_or,cond_false]
      rw [bC_ a.2 hg (by simpa using hz)]
      cases a.1.neg <;> rfl
    simp only [Bool.or_true,cond_true];exact zX a.2 (.inr hz)
theorem wO (a b:I):eT a b=Z.cmpW a.dec b.dec:=by
  unfold eT
  apply Subtype.ext
  show _=Z.cmp a.1.dec b.1.dec
  cases ga:a.1.good
  · cases gb:b.1.good
    · simp only [Bool.not_false,Bool.and_self,cond_true];exact PW ga gb
    simp only [Bool.not_true,Bool.and_false,cond_false];exact PX ga b.2 gb
  · cases gb:b.1.good
    · simp only [Bool.not_true,Bool.not_false,Bool.false_and,cond_false,cond_true];exact PY a.2 ga gb
    simp only [Bool.not_true,Bool.false_and,cond_false,cond_true]
    cases hn:(a.1.neg != b.1.neg)
    · have hn':a.1.neg=b.1.neg:=by simpa using hn
      rw [cond_false]
      cases h1:a.1.neg
      · rw [cond_false,← RT a.2 b.2 ga gb hn' (val a.1.w) (val b.1.w) (by rw [h1];exact ⟨rfl,rfl⟩)]
        by_cases h2:val a.1.w<val b.1.w
        · simp [h2]
        by_cases h3:val b.1.w<val a.1.w <;> simp [h2,h3]
      rw [cond_true,← RT a.2 b.2 ga gb hn' (val b.1.w) (val a.1.w) (by rw [h1];exact ⟨rfl,rfl⟩)]
      by_cases h2:val b.1.w<val a.1.w
      · simp [h2]
      by_cases h3:val a.1.w<val b.1.w <;> simp [h2,h3]
    rw [cond_true,← c5_ a.2 b.2 ga gb (by simpa using hn)]
    cases a.1.neg <;> rfl
theorem wR (a b:I):jS a b=E (Z.quo a.dec b.dec):=by
  unfold jS;rw [ds_]
  show _=E (Z.quo a.1.dec b.1.dec)
  cases hw:(gU a.1&&(gU b.1&&((dQ b).1 != 0)))
  · rw [cond_false]
    cases hg:(!a.1.good||(!b.1.good||(val b.1.w==0)))
    · rw [cond_false]
      simp only [Bool.or_eq_false_iff,Bool.not_eq_false',beq_eq_false_iff_ne] at hg;obtain ⟨ga,gb,h0⟩:=hg
      cases hc:((a.1.neg != b.1.neg)&&decide ((0:Int)<(((dl (val a.1.w % val b.1.w)).length:Nat):Int)))
      · rw [cond_false,dQ_ a.2 b.2 ga gb h0]
        rw [Bool.and_eq_false_iff] at hc;rcases hc with hc | hc
        · exact .inl (by simpa using hc)
        right
        have:=of_decide_eq_false hc;exact KH.1 oo_
      rw [cond_true,bt_ a.2 b.2 ga gb h0]
      · rw [Bool.and_eq_true] at hc;simpa using hc.1
      rw [Bool.and_eq_true] at hc;have:=of_decide_eq_true hc.2;intro h;rw [h,o2] at this;exact absurd this dd_
    rw [cond_true]
    cases ga:a.1.good
    · rw [ci_ (.inl ga)]
    · cases gb:b.1.good
      · rw [ci_ (.inr gb)]
      rw [ga,gb] at hg;rw [fj_ a.2 b.2 ga gb (by simpa using hg)]
  rw [cond_true];have hf:=KW hw;rw [Bool.and_eq_true,Bool.and_eq_true] at hw;rw [← hf.2.2];exact congrArg E (U2 a.2 b.2 hw.1 hw.2.1 hf.2.1)
end Go.Num
namespace Go.Proofs.YtokjfhfiodopdaaGreat
open Go.Kn Go.Num Tryz
attribute [local irreducible] Go.Kn.W WL PL OpQ OpR OpS
theorem lD (va vb:Value) (A B:Nat) (hB:0<B) (hna:(dl A).length≤190) (hnb:(dl B).length≤190) (w:World) (hva:Sl w va (dl A)) (hvb:Sl w vb (dl B)) :
    Calls prog 128 [va,vb].toArray w (fun e w'=>∃ v1 v2,e = .returned (.tuple #[v1,v2])∧Ext w w'∧Slf w.heap.size w' v1 (dl (A / B))∧Slf w.heap.size w' v2 (dl (A % B))):=by
 refine HQ (N:=84) func128 rfl rfl (by simp) ?_;obtain ⟨w0,rfl⟩:∃ w0,w0=w:=⟨_,rfl⟩;simp only [bK,Nat.reduceAdd];have hn0:1≤(dl B).length:=Nat.pos_of_ne_zero (fun hc=>by rw [KH] at hc;omega);obtain ⟨tp,htp⟩:∃ tp,tp=(dg B ((dl B).length - 1) * 65536+atD (dl B) (((dl B).length:Int) - 2)):=⟨_,rfl⟩;refine go6 ?_;refine sQ (lR jV rfl hva.old) rfl (bC rfl (ZE oL QS z_3 rfl rfl oo_ (fun b15 hb15=>go4 ?_)));refine sQ (lR jV rfl hvb.old) rfl (go3 ?_);refine rK sn 12 [] [] (go2 ?_);refine pQ rfl (aS (nF rfl rfl) (congrArg (Value.int .i64) (rY (b:=1) rfl oo_ oo_))) (pQ rfl (xA jV rfl rfl hvb.old oo_) (pQ rfl (aS (tZ tyT rfl hvb.old oo_) (congrArg IV (zH B _))) (go3 ?_)));refine pQ rfl (aS (nF rfl rfl) (congrArg (Value.int .i64) (TK oo_ dd_ dd_))) (pQ rfl (bE aJ rfl (fun w hw=>nH vb (dl B) _ w (SL.sl (M:=_) hvb.old hw))) (pQ rfl (aS (iO rfl rfl) (show _=Value.int .i64 (tp:Int) from congrArg (Value.int .i64) (by rw [htp];exact bI_ (mW _ _) (AJ _ _)))) (go8 ?_)));refine sQ (lR jV rfl hva.old) rfl (go4 ?_);refine cF [9,10,11,12,32,33,34,35,36,37,38,39,40,41,42,43,44,45,46,47,48,49,50,51,52,53,54,55,56,57,58,59,60,61,62,63,64,65,66,67,68,69,70,71,72,73,74,75,76,77,78,79,80] (fun g nn M=>∃ (k R:Nat) (qs:List Nat) (vr:Value) (L:List Blk),(g 9=vr∧g 10 = .int .i64 ((k:Int) - 1))∧M=L ++ [⟨b15,3,iw qs⟩]∧nn=k+0∧(k≤(dl A).length∧DivIn A B (dl A).length k R qs∧SLf w0 L vr (dl R))) ((dl A).length) ?start ?round
 case start =>
  refine ⟨_,(List.Sublist.refl _),(dl A).length,0,_,_,[],⟨?a9,?a10⟩,?mem0,rfl,⟨Nat.le_refl _,DivIn.start (IG A),by rw [o2];exact SLf.none⟩⟩
  case mem0=>rfl
  case a9=>rfl
  case a10=>exact congrArg (Value.int .i64) (TK oo_ dd_ dd_)
 case round =>
  rintro nn g M ⟨k,R,qs,vr,L,⟨hg9,hg10⟩,rfl,hmeas,⟨hk,hI,hr⟩⟩;subst nn;simp only [eH,hg9,hg10];clear hg9 hg10;refine go5 ?_;refine aQ _ rfl (fun hc=>?_) (fun hc=>?_)
  ·replace hc:=cB_ hc
   obtain ⟨m,rfl⟩:∃ m,k=m+1:=⟨k - 1,by omega⟩
   have hRB:R<B:=by rw [hI.rest];exact Nat.mod_lt _ hB
   have hRl:(dl R).length≤190:=Nat.le_trans (eJ_ (Nat.le_of_lt hRB)) hnb;refine go5 ?_;refine sQ (aS (jO rfl) (congrArg (Value.int .i64) (show (((m+1:Nat):Int) - 1)=(m:Int) by omega))) rfl (sQ (xA jV rfl rfl hva.old oo_) rfl (sQ (aS (tZ tyT rfl hva.old oo_) (congrArg IV (zH A m))) rfl (bC rfl (jA oL z_3 yF rfl dd_ rfl (AO _) (fun b40 hb40=>go_ ?_)))));have hC8:=RU (R:=R) (mW A m);refine bC rfl (yW oL QS rfl rfl (OwnL.of_mine (l:=[dg A m]) hb40 (show 1≤maxLen by decide)) (hr.sl.sub (.cons _ lZ)) (List.Sublist.refl _) (by simp only [List.length_singleton];omega) (fun v8 L8 hO8=>?_));refine sQ (bE aJ rfl (fun w hw=>iU v8 ([dg A m] ++ dl R) hC8.1 (by simp only [List.length_append,List.length_singleton];omega) w (SL.sl (hO8.sl lZ) hw))) rfl ?_;refine go2 ?_;have hC8:=RU (R:=R) (mW A m);have hr8:=uF hC8.1 hC8.2 (hO8.slf (List.Sublist.refl _));generalize sls v8 (dl (dv ([dg A m] ++ dl R))).length=vr8 at hr8 ⊢
   have hR8:(R * 65536+dg A m)<65536 * B:=by have:=mW A m;omega
   obtain ⟨nm,hnm⟩:∃ nm,nm=(atD (dl (R * 65536+dg A m)) ((dl B).length:Int) * 4294967296+atD (dl (R * 65536+dg A m)) (((dl B).length:Int) - 1) * 65536+atD (dl (R * 65536+dg A m)) (((dl B).length:Int) - 2)):=⟨_,rfl⟩;obtain ⟨d0,hd0⟩:∃ d0,d0=min 65535 (nm / tp):=⟨_,rfl⟩
   have G8:0<tp∧(R * 65536+dg A m) / B≤d0∧d0≤65535:=by rw [hd0,hnm,htp];have hg:=XU hB hR8 rfl hn0;exact ⟨hg.1,hg.2,Nat.min_le_left _ _⟩
   have hl8:(dl (R * 65536+dg A m)).length≤192:=Nat.le_trans (gW (k:=(dl B).length+1) (by have:=IG B;rw [Nat.pow_succ];omega)) oo_;refine go3 ?_;refine sQ (bE aJ rfl (fun w hw=>nH _ (dl (R * 65536+dg A m)) _ w (SL.sl (M:=_) (hr8.sl.sub lZ) hw))) rfl (go3 ?_);refine sQ (aS (nF rfl rfl) (congrArg (Value.int .i64) (TK oo_ dd_ dd_))) rfl (sQ (bE aJ rfl (fun w hw=>nH _ (dl (R * 65536+dg A m)) _ w (SL.sl (M:=_) (hr8.sl.sub lZ) hw))) rfl (go4 ?_));refine sQ (aS (nF rfl rfl) (congrArg (Value.int .i64) (TK oo_ dd_ dd_))) rfl (sQ (bE aJ rfl (fun w hw=>nH _ (dl (R * 65536+dg A m)) _ w (SL.sl (M:=_) (hr8.sl.sub lZ) hw))) rfl (sQ (aS (iO rfl rfl) (show _=Value.int .i64 (nm:Int) from congrArg (Value.int .i64) (by rw [hnm];exact bi_ (AJ _ _) (AJ _ _) (AJ _ _)))) rfl (go_ ?_)));refine sQ (aS (rS rfl rfl (fun hc=>Nat.lt_irrefl 0 (Nat.lt_of_lt_of_eq G8.1 (Int.natCast_eq_zero.1 hc)))) (congrArg (Value.int .i64) (OR (by rw [hnm];exact dC_ _ _ _ _)))) rfl (sQ (aS (dO_ (a:=65535) rfl rfl) (congrArg (fun n:Nat=>Value.int .i64 (n:Int)) hd0.symm)) rfl (go5 ?_));refine bC rfl (jA oL z_3 yF rfl dd_ rfl (AO _) (fun b64 hb64=>bC rfl (fB aJ rfl (fun w hw=>rB vb _ (dl B) [d0] (jR B) (DL.one oo_) oo_ (by simp) w (SL.sl (M:=_) hvb.old hw) (SL.sl (SL.mine (l:=[d0]) (.head _) (Nat.le_refl _)) hw)) (fun vp0 Lp0 hp0=>?_))));refine go4 ?_;refine cF [11,12,66,67,68,69,70,71,72,73] (fun g nn M=>∃ (d:Nat) (vp:Value) (Lp:List Blk),(g 11 = .int .i64 (d:Int)∧g 12=vp)∧M=Lp ++ (L8 ++ (L ++ [⟨b15,3,iw qs⟩]))∧nn=d∧(((R * 65536+dg A m) / B≤d∧d≤65535)∧SLf w0 Lp vp (dl (B * d)))) (d0) ?start ?round
   case start =>
    refine ⟨_,(List.Sublist.append (List.Sublist.refl _) (List.Sublist.cons _ (List.Sublist.refl _))),d0,vp0,Lp0,⟨?a11,?a12⟩,?mem0,rfl,⟨⟨G8.2.1,G8.2.2⟩,by have:=hp0;rw [fL] at this;simpa [dv] using this⟩⟩
    case mem0=>rfl
    case a11=>rfl
    case a12=>rfl
   case round =>
    rintro nn g M ⟨d,vp,Lp,⟨hg11,hg12⟩,rfl,hmeas,⟨hd,hp⟩⟩;subst nn;simp only [eH,hg11,hg12];clear hg11 hg12;have hpl:(dl (B * d)).length≤195:=Nat.le_trans (gW (k:=(dl B).length+1) (by have:=IG B;have h1:=Nat.mul_le_mul_left B hd.2;rw [Nat.pow_succ];omega)) oo_;refine go4 ?_;refine sQ (bE aJ rfl (fun w hw=>jP _ vp (dl (R * 65536+dg A m)) (dl (B * d)) (jR _) (jR _) oo_ oo_ w (SL.sl (hr8.sl.sub (.trans lZ (List.sublist_append_right _ _))) hw) (SL.sl (hp.sl.sub lZ) hw))) rfl (go_ ?_);refine aQ _ rfl (fun h68=>?_) (fun h68=>?_)
    ·replace h68:=cB_ h68
     rw [fL,fL] at h68;have hless:=W7 hB hd.1 h68;refine go4 ?_;refine sQ (aS (nF rfl rfl) (congrArg (Value.int .i64) (rY (b:=1) rfl hless.1 oo_))) rfl (go5 ?_);refine bC rfl (fB aJ rfl (fun w hw=>kF vp vb (dl (B * d)) (dl B) (jR _) (jR _) oo_ oo_ (by rw [fL,fL];exact hless.2.2.1) w (SL.sl (hp.sl.sub lZ) hw) (SL.sl (M:=_) hvb.old hw)) (fun vp2 Lp2 hp2=>go2 ?_));refine ⟨pp_,_,_,(List.Sublist.append (List.Sublist.refl _) (List.sublist_append_right _ _)),(by have:=hless.1;omega),d - 1,vp2,Lp2,⟨?s11,?s12⟩,?mem,rfl,⟨⟨hless.2.1,by omega⟩,by rw [fL,fL,hless.2.2.2] at hp2;exact hp2⟩⟩
     case mem=>rfl
     case s11=>rfl
     case s12=>rfl
    replace h68:=cB_ h68
    rw [fL,fL] at h68;have hdone:=W5 hB hd.1 h68;refine go3 ?_;refine sQ (aS (jO rfl) (congrArg (Value.int .i64) (show (((m+1:Nat):Int) - 1)=(m:Int) by omega))) rfl (go_ ?_);refine sQ (AY jV rfl rfl oo_ oo_) rfl (bC rfl (GO tyT rfl rfl (uL (uL (uL uH))) (by rw [hI.len];omega) (.inl (by assumption)) (go4 ?_)));refine bC rfl (fB aJ rfl (fun w hw=>kF _ vp (dl (R * 65536+dg A m)) (dl (B * d)) (jR _) (jR _) oo_ oo_ (by rw [fL,fL];exact hdone.2.2) w (SL.sl (hr8.sl.sub (.trans lZ (List.sublist_append_right _ _))) hw) (SL.sl (hp.sl.sub lZ) hw)) (fun vr2 Lr2 hr2=>go3 ?_));refine sQ (aS (jO rfl) (congrArg (Value.int .i64) (show (((m+1:Nat):Int) - 1)=(m:Int) by omega))) rfl (go3 ?_);refine ⟨pp_,_,_,(List.Sublist.append (List.Sublist.refl _) (.trans (List.sublist_append_right _ _) (.trans (List.sublist_append_right _ _) (List.sublist_append_right _ _)))),oo_,m,((R * 65536+dg A m) % B),qs.set m d,vr2,Lr2,⟨?s9,?s10⟩,?mem,rfl,⟨by omega,by rw [hdone.1];exact hI.step hB oo_,by rw [fL,fL,hdone.2.1] at hr2;exact hr2⟩⟩
    case mem=>rfl
    case s9=>rfl
    case s10=>exact congrArg (Value.int .i64) (bQ (n:=(m:Int) - 1) (by unfold I64;omega))
  replace hc:=cB_ hc
  obtain rfl:k=0:=by omega
  refine go3 ?_;refine sQ (bE aJ rfl (fun w hw=>iU _ qs hI.ok (by rw [hI.len];omega) w (SL.sl (SL.mine' (mA (.head _)) hI.len (Nat.le_refl _)) hw))) rfl (go5 ?_);refine iY rfl (.inr rfl) rfl rfl ?_;exact ⟨_,_,rfl,uF hI.ok hI.fin.1 (SLf.mine hb15 (mA (.head _)) hI.len (Nat.le_refl _)),by rw [hI.fin.2] at hr;exact hr.sub lZ⟩
theorem xZ (a:I) :
    Ret prog 132 [AV [pI a]] (AV [pI (lV a)]):=by
 refine bT (N:=13) func132 rfl rfl (by simp) (fun w0=>?_);simp only [bK,Nat.reduceAdd];refine go2 ?_;intro b1 hb1;refine go_ ?_;intro b2 hb2;refine go4 ?_;refine sC (.bool a.1.good) aJ (bN a.1 a.2) rfl rfl rfl (go2 ?_);rcases bt a.1.good with h3 | h3
 ·refine W_f (fY h3) rfl (go_ ?_);refine rD sn 7 [4,6] [6] (go4 ?_);refine fM rfl rfl (fB aJ rfl (fun w hw=>bL a.1 a.2 w) (fun vl4 Ll4 kl4=>⟨(fun _=>sR s0),sn,?_⟩))
  try simp only [fL,kK] at kl4
  refine pQ rfl (aS (v':=AV [pI (E (Z.of (sgn (!a.1.neg) (val a.1.w))))]) (bE aJ rfl (fun w hw=>dG (!a.1.neg) vl4 (dl (val a.1.w)) (jR _) (Nat.le_trans (gW (k:=32) (oQ a.2)) dd_) w (SL.sl (SL.sub kl4.sl lZ) hw))) (by rw [(fL _)];rfl)) (go3 ?_);refine bG rfl (.inr rfl) (gT rfl (mA mZ) tyT rfl) ?_;exact congrArg vS2 (show _=(lV a) from aW h3 rfl)
 refine W_t (fP h3) rfl (go_ ?_);refine sC (AV [pI (E Z.bad)]) aJ dL rfl rfl rfl (go3 ?_);refine bG rfl (.inr rfl) (gT rfl m0 tyT rfl) ?_;exact congrArg vS2 (show _=(lV a) from aM h3 rfl)
theorem sD (a:R) (ha:a.Ok):Ret prog 132 [RV a] (RV (Z.neg a.dec).enc):=by
  have h:=xZ ⟨a,ha⟩;rw [wQ] at h;exact h
theorem xU (a:I) :
    Ret prog 157 [AV [pI a]] (AV [pI (lU a)]):=by
 refine bT (N:=10) func157 rfl rfl (by simp) (fun w0=>?_);simp only [bK,Nat.reduceAdd];refine go2 ?_;intro b1 hb1;refine go_ ?_;intro b2 hb2;refine go4 ?_;refine sC (.bool a.1.good) aJ (bN a.1 a.2) rfl rfl rfl (go2 ?_);rcases bt a.1.good with h3 | h3
 ·refine W_f (fY h3) rfl (go3 ?_);refine bC rfl (fB aJ rfl (fun w hw=>bL a.1 a.2 w) (fun vl4 Ll4 kl4=>?_))
  try simp only [fL,kK] at kl4
  refine sQ (aS (v':=AV [pI (E (Z.of (sgn false (val a.1.w))))]) (bE aJ rfl (fun w hw=>dG false vl4 (dl (val a.1.w)) (jR _) (Nat.le_trans (gW (k:=32) (oQ a.2)) dd_) w (SL.sl (SL.sub kl4.sl lZ) hw))) (by rw [(fL _)];rfl)) rfl (go3 ?_);refine bG rfl (.inr rfl) (gT rfl (mA mZ) tyT rfl) ?_;exact congrArg vS2 (show _=(lU a) from aW h3 rfl)
 refine W_t (fP h3) rfl (go_ ?_);refine sC (AV [pI (E Z.bad)]) aJ dL rfl rfl rfl (go3 ?_);refine bG rfl (.inr rfl) (gT rfl m0 tyT rfl) ?_;exact congrArg vS2 (show _=(lU a) from aM h3 rfl)
theorem xV (a:R) (ha:a.Ok):Ret prog 157 [RV a] (RV (Z.abs a.dec).enc):=by
  have h:=xU ⟨a,ha⟩;rw [wM] at h;exact h
theorem xW (a:I) (b:I) :
    Ret prog 76 [AV [pI a],AV [pI b]] (AV [pI (i8 a b)]):=by
 refine bT (N:=70) func76 rfl rfl (by simp) (fun w0=>?_);simp only [bK,Nat.reduceAdd];refine go2 ?_;intro b1 hb1;refine go_ ?_;intro b2 hb2;refine go_ ?_;intro b3 hb3;refine go3 ?_;refine sC (.tuple #[.int .i64 ((dQ a).1),.bool (gU a.1)]) aJ (fI a.1 a.2) rfl rfl rfl (go8 ?_);refine sC (.tuple #[.int .i64 ((dQ b).1),.bool (gU b.1)]) aJ (fI b.1 b.2) rfl rfl rfl (go7 ?_);refine gJv [22,23,24,25] [(25,.bool ((gU a.1)&&(gU b.1)))] (fun K2 J2=>?_) ?_
 ·refine go2 ?_;refine sBB rfl (fun h5=>?_) (fun h5=>?_)
  ·refine go3 ?_;refine J2 _ _ pp_ s0 (aZ (bW h5 rfl))
  refine go3 ?_;refine J2 _ _ pp_ s0 (aZ (hJ h5))
 intro g6;refine aQ _ rfl (fun h7=>?_) (fun h7=>?_)
 ·refine go3 ?_;refine sV (.int .i64 ((W.add (dQ a) (dQ b)).1)) rfl rfl (sC (AV [pI (E (Z.of (W.add (dQ a) (dQ b)).1))]) aJ (eV (W.add (dQ a) (dQ b)).1 (W.add (dQ a) (dQ b)).2) rfl rfl rfl (go3 ?_));refine bG rfl (.inr rfl) (gT rfl m0 tyT rfl) ?_;exact congrArg vS2 (show _=(i8 a b) from aW h7 rfl)
 refine go2 ?_;refine gJv [30,31,32,33,34,35,36,37] [(37,.bool (!a.1.good||(!b.1.good)))] (fun K4 J4=>?_) ?_
 ·refine go2 ?_;refine sC (.bool a.1.good) aJ (bN a.1 a.2) rfl rfl rfl (go_ ?_);rcases bt a.1.good with h9 | h9
  ·refine sB (fY h9) rfl (go_ ?_);refine sC (.bool b.1.good) aJ (bN b.1 b.2) rfl rfl rfl (go3 ?_);refine J4 _ _ pp_ s0 (aZ (jC h9 rfl))
  refine sB (fP h9) rfl (go5 ?_);refine J4 _ _ pp_ s0 (aZ (mI h9))
 intro g10;refine aQ _ rfl (fun h11=>?_) (fun h11=>?_)
 ·refine go_ ?_;refine sC (AV [pI (E Z.bad)]) aJ dL rfl rfl rfl (go3 ?_);refine bG rfl (.inr rfl) (gT rfl m0 tyT rfl) ?_;exact congrArg vS2 (show _=(i8 a b) from aM h7 (aW h11 rfl))
 refine go3 ?_;refine bC rfl (fB aJ rfl (fun w hw=>bL a.1 a.2 w) (fun vl12 Ll12 kl12=>?_))
 try simp only [fL,kK] at kl12
 refine go4 ?_;refine bC rfl (fB aJ rfl (fun w hw=>bL b.1 b.2 w) (fun vl13 Ll13 kl13=>?_))
 try simp only [fL,kK] at kl13
 refine go8 ?_;refine sQ (aS (v':=.bool (a.1.neg==b.1.neg)) (QZ xS rfl rfl) rfl) rfl (go_ ?_);refine aQ _ rfl (fun h14=>?_) (fun h14=>?_)
 ·refine rD sn 7 [4,6] [6] (go4 ?_);refine fM rfl rfl (fB aJ rfl (fun w hw=>oA vl12 vl13 (dl (val a.1.w)) (dl (val b.1.w)) (jR _) (jR _) (Nat.le_trans (gW (k:=32) (oQ a.2)) dd_) (Nat.le_trans (gW (k:=32) (oQ b.2)) dd_) w (SL.sl (SL.sub kl12.sl (sR lZ)) hw) (SL.sl (SL.sub kl13.sl lZ) hw)) (fun vl15 Ll15 kl15=>⟨(fun _=>sR s0),sn,?_⟩))
  try simp only [fL,kK] at kl15
  refine pQ rfl (aS (v':=AV [pI (E (Z.of (sgn a.1.neg ((val a.1.w)+(val b.1.w)))))]) (bE aJ rfl (fun w hw=>dG a.1.neg vl15 (dl ((val a.1.w)+(val b.1.w))) (jR _) (Nat.le_trans (gW (k:=33) (eG_ (k:=32) (oQ a.2) (oQ b.2))) dd_) w (SL.sl (SL.sub kl15.sl lZ) hw))) (by rw [(fL _)];rfl)) (go3 ?_);refine bG rfl (.inr rfl) (gT rfl (mA (mA (mA mZ))) tyT rfl) ?_;exact congrArg vS2 (show _=(i8 a b) from aM h7 (aM h11 (aW h14 rfl)))
 refine go4 ?_;refine sQ (aS (v':=.bool (decide ((val a.1.w)<(val b.1.w)))) (bE aJ rfl (fun w hw=>jP vl12 vl13 (dl (val a.1.w)) (dl (val b.1.w)) (jR _) (jR _) (Nat.le_trans (gW (k:=32) (oQ a.2)) dd_) (Nat.le_trans (gW (k:=32) (oQ b.2)) dd_) w (SL.sl (SL.sub kl12.sl (sR lZ)) hw) (SL.sl (SL.sub kl13.sl lZ) hw))) (by rw [(fL _),(fL _)])) rfl (go6 ?_);refine aQ _ rfl (fun h16=>?_) (fun h16=>?_)
 ·refine rD sn 7 [4,6] [6] (go4 ?_);refine fM rfl rfl (fB aJ rfl (fun w hw=>kF vl13 vl12 (dl (val b.1.w)) (dl (val a.1.w)) (jR _) (jR _) (Nat.le_trans (gW (k:=32) (oQ b.2)) dd_) (Nat.le_trans (gW (k:=32) (oQ a.2)) dd_) (by simp only [fL,kK];exact (Nat.le_of_lt (of_decide_eq_true h16))) w (SL.sl (SL.sub kl13.sl lZ) hw) (SL.sl (SL.sub kl12.sl (sR lZ)) hw)) (fun vl17 Ll17 kl17=>⟨(fun _=>sR s0),sn,?_⟩))
  try simp only [fL,kK] at kl17
  refine pQ rfl (aS (v':=AV [pI (E (Z.of (sgn b.1.neg ((val b.1.w) - (val a.1.w)))))]) (bE aJ rfl (fun w hw=>dG b.1.neg vl17 (dl ((val b.1.w) - (val a.1.w))) (jR _) (Nat.le_trans (gW (k:=32) (dc_ (oQ b.2))) dd_) w (SL.sl (SL.sub kl17.sl lZ) hw))) (by rw [(fL _)];rfl)) (go3 ?_);refine bG rfl (.inr rfl) (gT rfl (mA (mA (mA mZ))) tyT rfl) ?_;exact congrArg vS2 (show _=(i8 a b) from aM h7 (aM h11 (aM h14 (aW h16 rfl))))
 refine go_ ?_;refine rD sn 7 [4,6] [6] (go4 ?_);refine fM rfl rfl (fB aJ rfl (fun w hw=>kF vl12 vl13 (dl (val a.1.w)) (dl (val b.1.w)) (jR _) (jR _) (Nat.le_trans (gW (k:=32) (oQ a.2)) dd_) (Nat.le_trans (gW (k:=32) (oQ b.2)) dd_) (by simp only [fL,kK];exact (Nat.le_of_not_lt (of_decide_eq_false h16))) w (SL.sl (SL.sub kl12.sl (sR lZ)) hw) (SL.sl (SL.sub kl13.sl lZ) hw)) (fun vl18 Ll18 kl18=>⟨(fun _=>sR s0),sn,?_⟩))
 try simp only [fL,kK] at kl18
 refine pQ rfl (aS (v':=AV [pI (E (Z.of (sgn a.1.neg ((val a.1.w) - (val b.1.w)))))]) (bE aJ rfl (fun w hw=>dG a.1.neg vl18 (dl ((val a.1.w) - (val b.1.w))) (jR _) (Nat.le_trans (gW (k:=32) (dc_ (oQ a.2))) dd_) w (SL.sl (SL.sub kl18.sl lZ) hw))) (by rw [(fL _)];rfl)) (go3 ?_);refine bG rfl (.inr rfl) (gT rfl (mA (mA (mA mZ))) tyT rfl) ?_;exact congrArg vS2 (show _=(i8 a b) from aM h7 (aM h11 (aM h14 (aM h16 rfl))))
theorem mS (a b:R) (ha:a.Ok) (hb:b.Ok):Ret prog 76 [RV a,RV b] (RV (Z.add a.dec b.dec).enc):=by
  have h:=xW ⟨a,ha⟩ ⟨b,hb⟩;rw [wN] at h;exact h
theorem xY (a:I) (b:I) :
    Ret prog 79 [AV [pI a],AV [pI b]] (AV [pI (kP a b)]):=by
 refine bT (N:=55) func79 rfl rfl (by simp) (fun w0=>?_);simp only [bK,Nat.reduceAdd];refine go2 ?_;intro b1 hb1;refine go_ ?_;intro b2 hb2;refine go_ ?_;intro b3 hb3;refine go3 ?_;refine sC (.tuple #[.int .i64 ((dQ a).1),.bool (gU a.1)]) aJ (fI a.1 a.2) rfl rfl rfl (go8 ?_);refine sC (.tuple #[.int .i64 ((dQ b).1),.bool (gU b.1)]) aJ (fI b.1 b.2) rfl rfl rfl (go7 ?_);refine gJv [19,20,21,22,23,24,25,26,27,28,29,30] [(30,.bool ((gU a.1)&&((gU b.1)&&((decide ((dQ a).1<2147483648)&&decide (-2147483648<(dQ a).1))&&(decide ((dQ b).1<2147483648)&&decide (-2147483648<(dQ b).1))))))] (fun K2 J2=>?_) ?_
 ·refine go2 ?_;refine sBB rfl (fun h7=>?_) (fun h7=>?_)
  ·refine go2 ?_;refine sBB rfl (fun h8=>?_) (fun h8=>?_)
   ·refine go_ ?_;refine sC (.bool (decide ((dQ a).1<2147483648)&&decide (-2147483648<(dQ a).1))) aJ (rW (dQ a).1) rfl rfl rfl (go_ ?_);refine sBB rfl (fun h9=>?_) (fun h9=>?_)
    ·refine go_ ?_;refine sC (.bool (decide ((dQ b).1<2147483648)&&decide (-2147483648<(dQ b).1))) aJ (rW (dQ b).1) rfl rfl rfl (go2 ?_);refine J2 _ _ pp_ s0 (aZ (bW h7 (bW h8 (bW h9 rfl))))
    refine go4 ?_;refine J2 _ _ pp_ s0 (aZ (bW h7 (bW h8 (hJ h9))))
   refine go8 ?_;refine J2 _ _ pp_ s0 (aZ (bW h7 (hJ h8)))
  refine vK ?_;refine J2 _ _ pp_ s0 (aZ (hJ h7))
 intro g10;refine aQ _ rfl (fun h11=>?_) (fun h11=>?_)
 ·refine go3 ?_;refine sV (.int .i64 ((W.mul (dQ a) (dQ b)).1)) rfl rfl (sC (AV [pI (E (Z.of (W.mul (dQ a) (dQ b)).1))]) aJ (eV (W.mul (dQ a) (dQ b)).1 (W.mul (dQ a) (dQ b)).2) rfl rfl rfl (go3 ?_));refine bG rfl (.inr rfl) (gT rfl m0 tyT rfl) ?_;exact congrArg vS2 (show _=(kP a b) from aW h11 rfl)
 refine go2 ?_;refine gJv [35,36,37,38,39,40,41,42] [(42,.bool (!a.1.good||(!b.1.good)))] (fun K4 J4=>?_) ?_
 ·refine go2 ?_;refine sC (.bool a.1.good) aJ (bN a.1 a.2) rfl rfl rfl (go_ ?_);rcases bt a.1.good with h13 | h13
  ·refine sB (fY h13) rfl (go_ ?_);refine sC (.bool b.1.good) aJ (bN b.1 b.2) rfl rfl rfl (go3 ?_);refine J4 _ _ pp_ s0 (aZ (jC h13 rfl))
  refine sB (fP h13) rfl (go5 ?_);refine J4 _ _ pp_ s0 (aZ (mI h13))
 intro g14;refine aQ _ rfl (fun h15=>?_) (fun h15=>?_)
 ·refine go_ ?_;refine sC (AV [pI (E Z.bad)]) aJ dL rfl rfl rfl (go3 ?_);refine bG rfl (.inr rfl) (gT rfl m0 tyT rfl) ?_;exact congrArg vS2 (show _=(kP a b) from aM h11 (aW h15 rfl))
 refine go_ ?_;refine gds sn [0,4,8,12,16,20,28,25,33,37,40,45] [11] mix (by kernel_rfl) (go4 ?_);refine pQ rfl (aS (v':=.bool (a.1.neg != b.1.neg)) (qQ xS rfl rfl) rfl) (go2 ?_);refine fM rfl rfl (fB aJ rfl (fun w hw=>bL a.1 a.2 w) (fun vl16 Ll16 kl16=>⟨(fun _=>sR s0),sn,?_⟩))
 try simp only [fL,kK] at kl16
 refine fM rfl rfl (fB aJ rfl (fun w hw=>bL b.1 b.2 w) (fun vl17 Ll17 kl17=>⟨(fun _=>sR s0),sn,?_⟩))
 try simp only [fL,kK] at kl17
 refine fM rfl rfl (fB aJ rfl (fun w hw=>rB vl16 vl17 (dl (val a.1.w)) (dl (val b.1.w)) (jR _) (jR _) (Nat.le_trans (gW (k:=32) (oQ a.2)) dd_) (Nat.le_trans (gW (k:=32) (oQ b.2)) dd_) w (SL.sl (SL.sub kl16.sl (sR lZ)) hw) (SL.sl (SL.sub kl17.sl lZ) hw)) (fun vl18 Ll18 kl18=>⟨(fun _=>sR s0),sn,?_⟩))
 try simp only [fL,kK] at kl18
 refine pQ rfl (aS (v':=AV [pI (E (Z.of (sgn (a.1.neg != b.1.neg) ((val a.1.w) * (val b.1.w)))))]) (bE aJ rfl (fun w hw=>dG (a.1.neg != b.1.neg) vl18 (dl ((val a.1.w) * (val b.1.w))) (jR _) (Nat.le_trans (gW (k:=64) (f3_ (i:=32) (k:=32) (oQ a.2) (oQ b.2))) dd_) w (SL.sl (SL.sub kl18.sl lZ) hw))) (by rw [(fL _)];rfl)) (go3 ?_);refine bG rfl (.inr rfl) (gT rfl (mA (mA (mA mZ))) tyT rfl) ?_;exact congrArg vS2 (show _=(kP a b) from aM h11 (aM h15 rfl))
theorem gR (a b:R) (ha:a.Ok) (hb:b.Ok):Ret prog 79 [RV a,RV b] (RV (Z.mul a.dec b.dec).enc):=by
  have h:=xY ⟨a,ha⟩ ⟨b,hb⟩;rw [wP] at h;exact h
theorem xC (a:I) :
    Ret prog 69 [AV [pI a]] (.int .i64 ((kC a).1)):=by
 refine bT (N:=14) func69 rfl rfl (by simp) (fun w0=>?_);simp only [bK,Nat.reduceAdd];refine go2 ?_;intro b1 hb1;refine go3 ?_;refine gJv [3,4,5,6,7,8,9,10,11] [(11,.bool (!a.1.good||((((dl (val a.1.w)).length:Nat):Int)==0)))] (fun K2 J2=>?_) ?_
 ·refine go2 ?_;refine sC (.bool a.1.good) aJ (bN a.1 a.2) rfl rfl rfl (go_ ?_);rcases bt a.1.good with h4 | h4
  ·refine sB (fY h4) rfl (go_ ?_);refine bC rfl (fB aJ rfl (fun w hw=>bL a.1 a.2 w) (fun vl5 Ll5 kl5=>?_))
   try simp only [fL,kK] at kl5
   refine sQ (aS (v':=.int .i64 (((dl (val a.1.w)).length:Nat):Int)) (lR jV rfl (SL.sub kl5.sl lZ)) rfl) rfl (go3 ?_);refine J2 _ _ pp_ (sR (s0)) (aZ (jC h4 rfl))
  refine sB (fP h4) rfl (go6 ?_);refine J2 _ _ pp_ s0 (aZ (mI h4))
 intro g6;refine aQ _ rfl (fun h7=>?_) (fun h7=>?_)
 ·refine go4 ?_;refine bG rfl (.inr rfl) rfl ?_;exact congrArg vS7 (show _=(kC a) from aW h7 rfl)
 refine go6 ?_;refine aQ _ rfl (fun h8=>?_) (fun h8=>?_)
 ·refine go4 ?_;refine bG rfl (.inr rfl) rfl ?_;exact congrArg vS7 (show _=(kC a) from aM h7 (aW h8 rfl))
 refine go5 ?_;refine bG rfl (.inr rfl) rfl ?_;exact congrArg vS7 (show _=(kC a) from aM h7 (aM h8 rfl))
theorem e9 (a:R) (ha:a.Ok):Ret prog 69 [RV a] (.int .i64 a.dec.sign):=by
  have h:=xC ⟨a,ha⟩;rw [vT] at h;exact h
theorem xX (a:I) (b:I) :
    Ret prog 65 [AV [pI a],AV [pI b]] (.int .i64 ((eT a b).1)):=by
 refine bT (N:=48) func65 rfl rfl (by simp) (fun w0=>?_);simp only [bK,Nat.reduceAdd];refine go2 ?_;intro b1 hb1;refine go_ ?_;intro b2 hb2;refine go3 ?_;refine gJv [9,10,11,12,13,14,15,16] [(16,.bool (!a.1.good&&(!b.1.good)))] (fun K2 J2=>?_) ?_
 ·refine go2 ?_;refine sC (.bool a.1.good) aJ (bN a.1 a.2) rfl rfl rfl (go_ ?_);rcases bt a.1.good with h4 | h4
  ·refine sB (fY h4) rfl (go5 ?_);refine J2 _ _ pp_ s0 (aZ (w6 h4))
  refine sB (fP h4) rfl (go_ ?_);refine sC (.bool b.1.good) aJ (bN b.1 b.2) rfl rfl rfl (go3 ?_);refine J2 _ _ pp_ s0 (aZ (pX h4 rfl))
 intro g5;refine aQ _ rfl (fun h6=>?_) (fun h6=>?_)
 ·refine go4 ?_;refine bG rfl (.inr rfl) rfl ?_;exact congrArg vS7 (show _=(eT a b) from aW h6 rfl)
 refine go4 ?_;refine sC (.bool a.1.good) aJ (bN a.1 a.2) rfl rfl rfl (go2 ?_);rcases bt a.1.good with h7 | h7
 ·refine W_f (fY h7) rfl (go4 ?_);refine sC (.bool b.1.good) aJ (bN b.1 b.2) rfl rfl rfl (go2 ?_);rcases bt b.1.good with h8 | h8
  ·refine W_f (fY h8) rfl (go7 ?_);refine sQ (aS (v':=.bool (a.1.neg != b.1.neg)) (qQ xS rfl rfl) rfl) rfl (go_ ?_);refine aQ _ rfl (fun h9=>?_) (fun h9=>?_)
   ·refine go5 ?_;refine aQ _ rfl (fun h10=>?_) (fun h10=>?_)
    ·refine go4 ?_;refine bG rfl (.inr rfl) rfl ?_;exact congrArg vS7 (show _=(eT a b) from aM h6 (aW h7 (aW h8 (aW h9 (aW h10 rfl)))))
    refine go5 ?_;refine bG rfl (.inr rfl) rfl ?_;exact congrArg vS7 (show _=(eT a b) from aM h6 (aW h7 (aW h8 (aW h9 (aM h10 rfl)))))
   refine go3 ?_;refine bC rfl (fB aJ rfl (fun w hw=>bL a.1 a.2 w) (fun vl11 Ll11 kl11=>?_))
   try simp only [fL,kK] at kl11
   refine go4 ?_;refine bC rfl (fB aJ rfl (fun w hw=>bL b.1 b.2 w) (fun vl12 Ll12 kl12=>?_))
   try simp only [fL,kK] at kl12
   refine go7 ?_;refine aQ _ rfl (fun h13=>?_) (fun h13=>?_)
   ·refine go2 ?_;refine bC rfl (fB aJ rfl (fun w hw=>bL b.1 b.2 w) (fun vl14 Ll14 kl14=>?_))
    try simp only [fL,kK] at kl14
    refine go4 ?_;refine bC rfl (fB aJ rfl (fun w hw=>bL a.1 a.2 w) (fun vl15 Ll15 kl15=>?_))
    try simp only [fL,kK] at kl15
    refine go5 ?_;refine sQ (aS (v':=.bool (decide ((val b.1.w)<(val a.1.w)))) (bE aJ rfl (fun w hw=>jP vl14 vl15 (dl (val b.1.w)) (dl (val a.1.w)) (jR _) (jR _) (Nat.le_trans (gW (k:=32) (oQ b.2)) dd_) (Nat.le_trans (gW (k:=32) (oQ a.2)) dd_) w (SL.sl (SL.sub kl14.sl (sR lZ)) hw) (SL.sl (SL.sub kl15.sl lZ) hw))) (by rw [(fL _),(fL _)])) rfl (go5 ?_);refine sQ (aS (v':=.bool (decide ((val a.1.w)<(val b.1.w)))) (bE aJ rfl (fun w hw=>jP vl15 vl14 (dl (val a.1.w)) (dl (val b.1.w)) (jR _) (jR _) (Nat.le_trans (gW (k:=32) (oQ a.2)) dd_) (Nat.le_trans (gW (k:=32) (oQ b.2)) dd_) w (SL.sl (SL.sub kl15.sl lZ) hw) (SL.sl (SL.sub kl14.sl (sR lZ)) hw))) (by rw [(fL _),(fL _)])) rfl (go6 ?_);refine aQ _ rfl (fun h16=>?_) (fun h16=>?_)
    ·refine go4 ?_;refine bG rfl (.inr rfl) rfl ?_;exact congrArg vS7 (show _=(eT a b) from aM h6 (aW h7 (aW h8 (aM h9 (aW h13 (aW h16 rfl))))))
    refine go5 ?_;refine aQ _ rfl (fun h17=>?_) (fun h17=>?_)
    ·refine go4 ?_;refine bG rfl (.inr rfl) rfl ?_;exact congrArg vS7 (show _=(eT a b) from aM h6 (aW h7 (aW h8 (aM h9 (aW h13 (aM h16 (aW h17 rfl)))))))
    refine go5 ?_;refine bG rfl (.inr rfl) rfl ?_;exact congrArg vS7 (show _=(eT a b) from aM h6 (aW h7 (aW h8 (aM h9 (aW h13 (aM h16 (aM h17 rfl)))))))
   refine go4 ?_;refine sQ (aS (v':=.bool (decide ((val a.1.w)<(val b.1.w)))) (bE aJ rfl (fun w hw=>jP vl11 vl12 (dl (val a.1.w)) (dl (val b.1.w)) (jR _) (jR _) (Nat.le_trans (gW (k:=32) (oQ a.2)) dd_) (Nat.le_trans (gW (k:=32) (oQ b.2)) dd_) w (SL.sl (SL.sub kl11.sl (sR lZ)) hw) (SL.sl (SL.sub kl12.sl lZ) hw))) (by rw [(fL _),(fL _)])) rfl (go5 ?_);refine sQ (aS (v':=.bool (decide ((val b.1.w)<(val a.1.w)))) (bE aJ rfl (fun w hw=>jP vl12 vl11 (dl (val b.1.w)) (dl (val a.1.w)) (jR _) (jR _) (Nat.le_trans (gW (k:=32) (oQ b.2)) dd_) (Nat.le_trans (gW (k:=32) (oQ a.2)) dd_) w (SL.sl (SL.sub kl12.sl lZ) hw) (SL.sl (SL.sub kl11.sl (sR lZ)) hw))) (by rw [(fL _),(fL _)])) rfl (go6 ?_);refine aQ _ rfl (fun h18=>?_) (fun h18=>?_)
   ·refine go4 ?_;refine bG rfl (.inr rfl) rfl ?_;exact congrArg vS7 (show _=(eT a b) from aM h6 (aW h7 (aW h8 (aM h9 (aM h13 (aW h18 rfl))))))
   refine go5 ?_;refine aQ _ rfl (fun h19=>?_) (fun h19=>?_)
   ·refine go4 ?_;refine bG rfl (.inr rfl) rfl ?_;exact congrArg vS7 (show _=(eT a b) from aM h6 (aW h7 (aW h8 (aM h9 (aM h13 (aM h18 (aW h19 rfl)))))))
   refine go5 ?_;refine bG rfl (.inr rfl) rfl ?_;exact congrArg vS7 (show _=(eT a b) from aM h6 (aW h7 (aW h8 (aM h9 (aM h13 (aM h18 (aM h19 rfl)))))))
  refine W_t (fP h8) rfl (go4 ?_);refine bG rfl (.inr rfl) rfl ?_;exact congrArg vS7 (show _=(eT a b) from aM h6 (aW h7 (aM h8 rfl)))
 refine W_t (fP h7) rfl (go4 ?_);refine bG rfl (.inr rfl) rfl ?_;exact congrArg vS7 (show _=(eT a b) from aM h6 (aM h7 rfl))
theorem r9 (a b:R) (ha:a.Ok) (hb:b.Ok):Ret prog 65 [RV a,RV b] (.int .i64 (Z.cmp a.dec b.dec)):=by
  have h:=xX ⟨a,ha⟩ ⟨b,hb⟩;rw [wO] at h;exact h
theorem x9 (a:I) (b:I) :
    Ret prog 67 [AV [pI a],AV [pI b]] (AV [pI (jS a b)]):=by
 refine bT (N:=76) func67 rfl rfl (by simp) (fun w0=>?_);simp only [bK,Nat.reduceAdd];refine go2 ?_;intro b1 hb1;refine go_ ?_;intro b2 hb2;refine go_ ?_;intro b3 hb3;refine go3 ?_;refine sC (.tuple #[.int .i64 ((dQ a).1),.bool (gU a.1)]) aJ (fI a.1 a.2) rfl rfl rfl (go8 ?_);refine sC (.tuple #[.int .i64 ((dQ b).1),.bool (gU b.1)]) aJ (fI b.1 b.2) rfl rfl rfl (go7 ?_);refine gJv [21,22,23,24,25,26,27,28] [(28,.bool ((gU a.1)&&((gU b.1)&&((dQ b).1 != 0))))] (fun K2 J2=>?_) ?_
 ·refine go2 ?_;refine sBB rfl (fun h6=>?_) (fun h6=>?_)
  ·refine go2 ?_;refine sBB rfl (fun h7=>?_) (fun h7=>?_)
   ·refine go4 ?_;refine J2 _ _ pp_ s0 (aZ (bW h6 (bW h7 rfl)))
   refine go4 ?_;refine J2 _ _ pp_ s0 (aZ (bW h6 (hJ h7)))
  refine go7 ?_;refine J2 _ _ pp_ s0 (aZ (hJ h6))
 intro g8;refine aQ _ rfl (fun h9=>?_) (fun h9=>?_)
 ·refine go3 ?_;have hfl:=KW h9;refine sC (.int .i64 ((W.fdiv (dQ a) (dQ b)).1)) aJ (rA (dQ a).1 (dQ b).1 (dQ a).2 hfl.1 hfl.2.1) rfl rfl (congrArg (Value.int .i64) hfl.2.2) (sC (AV [pI (E (Z.of (W.fdiv (dQ a) (dQ b)).1))]) aJ (eV (W.fdiv (dQ a) (dQ b)).1 (W.fdiv (dQ a) (dQ b)).2) rfl rfl rfl (go3 ?_));refine bG rfl (.inr rfl) (gT rfl m0 tyT rfl) ?_;exact congrArg vS2 (show _=(jS a b) from aW h9 rfl)
 refine go2 ?_;refine gJv [33,34,35,36,37,38,39,40,41,42,43,44,45,46] [(46,.bool (!a.1.good||(!b.1.good||((((dl (val b.1.w)).length:Nat):Int)==0))))] (fun K4 J4=>?_) ?_
 ·refine go2 ?_;refine sC (.bool a.1.good) aJ (bN a.1 a.2) rfl rfl rfl (go_ ?_);rcases bt a.1.good with h13 | h13
  ·refine sB (fY h13) rfl (go_ ?_);refine sC (.bool b.1.good) aJ (bN b.1 b.2) rfl rfl rfl (go2 ?_);rcases bt b.1.good with h14 | h14
   ·refine sB (fY h14) rfl (go_ ?_);refine bC rfl (fB aJ rfl (fun w hw=>bL b.1 b.2 w) (fun vl15 Ll15 kl15=>?_))
    try simp only [fL,kK] at kl15
    refine sQ (aS (v':=.int .i64 (((dl (val b.1.w)).length:Nat):Int)) (lR jV rfl (SL.sub kl15.sl lZ)) rfl) rfl (go3 ?_);refine J4 _ _ pp_ (sR (s0)) (aZ (jC h13 (jC h14 rfl)))
   refine sB (fP h14) rfl (go6 ?_);refine J4 _ _ pp_ s0 (aZ (jC h13 (mI h14)))
  refine sB (fP h13) rfl (vK ?_);refine J4 _ _ pp_ s0 (aZ (mI h13))
 intro g16;refine aQ _ rfl (fun h17=>?_) (fun h17=>?_)
 ·refine go_ ?_;refine sC (AV [pI (E Z.bad)]) aJ dL rfl rfl rfl (go3 ?_);refine bG rfl (.inr rfl) (gT rfl m0 tyT rfl) ?_;exact congrArg vS2 (show _=(jS a b) from aM h9 (aW h17 rfl))
 refine go_ ?_;refine gds sn [0,8,5,13,17,20,24,28,32,36] [] mix (by kernel_rfl) (go2 ?_);refine fM rfl rfl (fB aJ rfl (fun w hw=>bL a.1 a.2 w) (fun vl18 Ll18 kl18=>⟨(fun _=>sR s0),sn,?_⟩))
 try simp only [fL,kK] at kl18
 refine fM rfl rfl (fB aJ rfl (fun w hw=>bL b.1 b.2 w) (fun vl19 Ll19 kl19=>⟨(fun _=>sR s0),sn,?_⟩))
 try simp only [fL,kK] at kl19
 have hB:=b7_ h17;refine fM rfl rfl (zQ aJ rfl (fun w hw=>lD vl18 vl19 (val a.1.w) (val b.1.w) hB (Nat.le_trans (gW (k:=32) (oQ a.2)) dd_) (Nat.le_trans (gW (k:=32) (oQ b.2)) dd_) w (SL.sl (SL.sub kl18.sl (sR lZ)) hw) (SL.sl (SL.sub kl19.sl lZ) hw)) (fun vl20_0 vl20_1 Ll20 kl20_0 kl20_1=>⟨(fun _=>sR s0),sn,?_⟩))
 try simp only [fL,kK] at kl20_0 kl20_1
 refine go7 ?_;refine gJv [56,57,58,59,60,61,62,63,64,65] [(65,.bool ((a.1.neg != b.1.neg)&&decide (0<(((dl ((val a.1.w) % (val b.1.w))).length:Nat):Int))))] (fun K6 J6=>?_) ?_
 ·refine go5 ?_;refine sQ (aS (v':=.bool (a.1.neg != b.1.neg)) (qQ xS rfl rfl) rfl) rfl ?_;refine sBB rfl (fun h22=>?_) (fun h22=>?_)
  ·refine go_ ?_;refine sQ (aS (v':=.int .i64 (((dl ((val a.1.w) % (val b.1.w))).length:Nat):Int)) (lR jV rfl (SL.sub kl20_1 lZ)) rfl) rfl (go3 ?_);refine J6 _ _ pp_ s0 (aZ (bW h22 rfl))
  refine go5 ?_;refine J6 _ _ pp_ s0 (aZ (hJ h22))
 intro g23;refine aQ _ rfl (fun h24=>?_) (fun h24=>?_)
 ·refine go2 ?_;refine bC rfl (jA oL z_3 yF rfl dd_ rfl (AO 1) (fun b25 hb25=>bC rfl (fB aJ rfl (fun w hw=>oA vl20_0 _ (dl ((val a.1.w) / (val b.1.w))) [1] (jR _) (DL.one dd_) (Nat.le_trans (gW (k:=32) (c8_ (oQ a.2))) dd_) (by simp) w (SL.sl (SL.sub kl20_0 (sd lZ)) hw) (SL.sl (SL.sub (SL.mine (l:=[1]) List.mem_cons_self (Nat.le_refl _)) (sk sn)) hw)) (fun vl26 Ll26 kl26=>?_))))
  try simp only [fL,kK] at kl26
  refine go7 ?_;refine sQ (aS (v':=.bool (a.1.neg != b.1.neg)) (qQ xS rfl rfl) rfl) rfl (go_ ?_);refine sQ (aS (v':=AV [pI (E (Z.of (sgn (a.1.neg != b.1.neg) (((val a.1.w) / (val b.1.w))+1))))]) (bE aJ rfl (fun w hw=>dG (a.1.neg != b.1.neg) vl26 (dl (((val a.1.w) / (val b.1.w))+1)) (jR _) (Nat.le_trans (gW (k:=33) (eG_ (k:=32) (c8_ (oQ a.2)) (Nat.lt_of_lt_of_le (show 1<65536 ^ 1 by decide) (Nat.pow_le_pow_right (show 0<65536 by decide) (show 1≤32 by decide))))) dd_) w (SL.sl (SL.sub kl26.sl lZ) hw))) (by rw [(fL _)];rfl)) rfl (go3 ?_);refine bG rfl (.inr rfl) (gT rfl (mA (mC (mA (mA (mA mZ))))) tyT rfl) ?_;exact congrArg vS2 (show _=(jS a b) from aM h9 (aM h17 (aW h24 rfl)))
 refine go6 ?_;refine sQ (aS (v':=.bool (a.1.neg != b.1.neg)) (qQ xS rfl rfl) rfl) rfl (go_ ?_);refine sQ (aS (v':=AV [pI (E (Z.of (sgn (a.1.neg != b.1.neg) ((val a.1.w) / (val b.1.w)))))]) (bE aJ rfl (fun w hw=>dG (a.1.neg != b.1.neg) vl20_0 (dl ((val a.1.w) / (val b.1.w))) (jR _) (Nat.le_trans (gW (k:=32) (c8_ (oQ a.2))) dd_) w (SL.sl (SL.sub kl20_0 lZ) hw))) (by rw [(fL _)];rfl)) rfl (go3 ?_);refine bG rfl (.inr rfl) (gT rfl (mA (mA (mA mZ))) tyT rfl) ?_;exact congrArg vS2 (show _=(jS a b) from aM h9 (aM h17 (aM h24 rfl)))
theorem iH (a b:R) (ha:a.Ok) (hb:b.Ok):Ret prog 67 [RV a,RV b] (RV (Z.quo a.dec b.dec).enc):=by
  have h:=x9 ⟨a,ha⟩ ⟨b,hb⟩;rw [wR] at h;exact h
end Go.Proofs.YtokjfhfiodopdaaGreat
