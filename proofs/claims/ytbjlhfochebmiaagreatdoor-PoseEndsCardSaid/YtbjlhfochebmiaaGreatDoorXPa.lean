/- Lemmas: what they ask stands in their statements. -/
import Derived.Test.YtbjlhfochebmiaaGreatDoorXSa
set_option linter.unusedSimpArgs false
set_option linter.unusedVariables false
set_option maxHeartbeats 8000000
set_option maxRecDepth 20000

namespace Go.Num
open Go Go.Kn
theorem uU (a:I):jK a=E (Z.neg a.dec):=by
  unfold jK
  show _=E (Z.neg a.1.dec)
  cases h:a.1.good
  · rw [cond_false,Z.neg,uE (EO h)]
  rw [cond_true,ap_ a.2 h]
theorem uS (a:I):jJ a=E (Z.abs a.dec):=by
  unfold jJ
  show _=E (Z.abs a.1.dec)
  cases h:a.1.good
  · rw [cond_false,Z.abs,uE (EO h)]
  rw [cond_true,YI a.2 h]
theorem al_ (n:Nat):((((dl n).length:Nat):Int)==0)=(n==0):=by
  rw [Bool.eq_iff_iff,beq_iff_eq,beq_iff_eq]
  constructor
  · intro h;exact GL.1 oo_
  intro h;rw [GL.2 h];rfl
theorem tT (a:I):hJ a=Z.signW a.dec:=by
  unfold hJ;rw [al_]
  apply Subtype.ext
  show _=a.1.dec.sign
  cases hg:a.1.good
  · simp only [Bool.not_false,Bool.true_or,cond_true];exact xU a.2 (.inl hg)
  · cases hz:(val a.1.w==0)
    · simp only [Bool.not_true,Bool.false_or,cond_false]
      rw [WF a.2 hg (by simpa using hz)]
      cases a.1.neg <;> rfl
    simp only [Bool.or_true,cond_true];exact xU a.2 (.inr hz)
theorem uT (a b:I):cZ a b=Z.cmpW a.dec b.dec:=by
  unfold cZ
  apply Subtype.ext
  show _=Z.cmp a.1.dec b.1.dec
  cases ga:a.1.good
  · cases gb:b.1.good
    · simp only [Bool.not_false,Bool.and_self,cond_true];exact KV ga gb
    simp only [Bool.not_true,Bool.and_false,cond_false];exact KW ga b.2 gb
  · cases gb:b.1.good
    · simp only [Bool.not_true,Bool.not_false,Bool.false_and,cond_false,cond_true];exact KX a.2 ga gb
    simp only [Bool.not_true,Bool.false_and,cond_false,cond_true]
    cases hn:(a.1.neg != b.1.neg)
    · have hn':a.1.neg=b.1.neg:=by simpa using hn
      rw [cond_false]
      cases h1:a.1.neg
      · rw [cond_false,← M7 a.2 b.2 ga gb hn' (val a.1.w) (val b.1.w) (by rw [h1];exact ⟨rfl,rfl⟩)]
        by_cases h2:val a.1.w<val b.1.w
        · simp [h2]
        by_cases h3:val b.1.w<val a.1.w <;> simp [h2,h3]
      rw [cond_true,← M7 a.2 b.2 ga gb hn' (val b.1.w) (val a.1.w) (by rw [h1];exact ⟨rfl,rfl⟩)]
      by_cases h2:val b.1.w<val a.1.w
      · simp [h2]
      by_cases h3:val a.1.w<val b.1.w <;> simp [h2,h3]
    rw [cond_true,← YS a.2 b.2 ga gb (by simpa using hn)]
    cases a.1.neg <;> rfl
theorem uV (a b:I):gK a b=E (Z.quo a.dec b.dec):=by
  unfold gK;rw [al_]
  show _=E (Z.quo a.1.dec b.1.dec)
  cases hw:(iC a.1&&(iC b.1&&((eG b).1 != 0)))
  · rw [cond_false]
    cases hg:(!a.1.good||(!b.1.good||(val b.1.w==0)))
    · rw [cond_false]
      simp only [Bool.or_eq_false_iff,Bool.not_eq_false',beq_eq_false_iff_ne] at hg;obtain ⟨ga,gb,h0⟩:=hg
      cases hc:((a.1.neg != b.1.neg)&&decide ((0:Int)<(((dl (val a.1.w % val b.1.w)).length:Nat):Int)))
      · rw [cond_false,aE_ a.2 b.2 ga gb h0]
        rw [Bool.and_eq_false_iff] at hc;rcases hc with hc | hc
        · exact .inl (by simpa using hc)
        right
        have:=of_decide_eq_false hc;exact GL.1 oo_
      rw [cond_true,VZ a.2 b.2 ga gb h0]
      · rw [Bool.and_eq_true] at hc;simpa using hc.1
      rw [Bool.and_eq_true] at hc;have:=of_decide_eq_true hc.2;intro h;rw [h,mH] at this;exact absurd this dd_
    rw [cond_true]
    cases ga:a.1.good
    · rw [XJ (.inl ga)]
    · cases gb:b.1.good
      · rw [XJ (.inr gb)]
      rw [ga,gb] at hg;rw [cb_ a.2 b.2 ga gb (by simpa using hg)]
  rw [cond_true];have hf:=G4 hw;rw [Bool.and_eq_true,Bool.and_eq_true] at hw;rw [← hf.2.2];exact congrArg E (PH a.2 b.2 hw.1 hw.2.1 hf.2.1)
end Go.Num

namespace Go.Proofs.YtbjlhfochebmiaaGreatDoor
open Go.Kn Go.Num
attribute [local irreducible] Go.Kn.W WL PL OpQ OpR OpS
theorem i8 (va vb:Value) (A B:Nat) (hB:0<B) (hna:(dl A).length≤190) (hnb:(dl B).length≤190) (w:World) (hva:Sl w va (dl A)) (hvb:Sl w vb (dl B)) :
    Calls Tryz.prog 178 [va,vb].toArray w (fun e w'=>∃ v1 v2,e = .returned (.tuple #[v1,v2])∧Ext w w'∧Slf w.heap.size w' v1 (dl (A / B))∧Slf w.heap.size w' v2 (dl (A % B))):=by
 refine EP (N:=84) Tryz.func178 rfl rfl (by simp) ?_;obtain ⟨w0,rfl⟩:∃ w0,w0=w:=⟨_,rfl⟩;simp only [bA,Nat.reduceAdd];have hn0:1≤(dl B).length:=Nat.pos_of_ne_zero (fun hc=>by rw [GL] at hc;omega);obtain ⟨tp,htp⟩:∃ tp,tp=(dg B ((dl B).length - 1) * 65536+atD (dl B) (((dl B).length:Int) - 2)):=⟨_,rfl⟩;refine go6 ?_;refine sQ (jI fL rfl hva.old) rfl (aU rfl (TC fW MA z_3 rfl rfl oo_ (fun b15 hb15=>go4 ?_)));refine sQ (jI fL rfl hvb.old) rfl (go3 ?_);refine gdr sn [0,4,8,12,16,20,24,28,32,36,40,44] [] mix (by kernel_rfl) (go2 ?_);refine pQ rfl (aI (kM rfl rfl) (congrArg (Value.int .i64) (pD (b:=1) rfl oo_ oo_))) (pQ rfl (vB fL rfl rfl hvb.old oo_) (pQ rfl (aI (rG tyT rfl hvb.old oo_) (congrArg IV (xH B _))) (go3 ?_)));refine pQ rfl (aI (kM rfl rfl) (congrArg (Value.int .i64) (N7 oo_ dd_ dd_))) (pQ rfl (bR GY rfl (fun w hw=>kO vb (dl B) _ w (SL.sl (M:=_) hvb.old hw))) (pQ rfl (aI (e9 rfl rfl) (show _=Value.int .i64 (tp:Int) from congrArg (Value.int .i64) (by rw [htp];exact WN (kB _ _) (yK _ _)))) (go8 ?_)));refine sQ (jI fL rfl hva.old) rfl (go4 ?_);refine cC [9,10,11,12,32,33,34,35,36,37,38,39,40,41,42,43,44,45,46,47,48,49,50,51,52,53,54,55,56,57,58,59,60,61,62,63,64,65,66,67,68,69,70,71,72,73,74,75,76,77,78,79,80] (fun g nn M=>∃ (k R:Nat) (qs:List Nat) (vr:Value) (L:List Blk),(g 9=vr∧g 10 = .int .i64 ((k:Int) - 1))∧M=L ++ [⟨b15,3,iw qs⟩]∧nn=k+0∧(k≤(dl A).length∧DivIn A B (dl A).length k R qs∧SLf w0 L vr (dl R))) ((dl A).length) ?start ?round
 case start =>
  refine ⟨_,(List.Sublist.refl _),(dl A).length,0,_,_,[],⟨?a9,?a10⟩,?mem0,rfl,⟨Nat.le_refl _,DivIn.start (FE A),by rw [mH];exact SLf.none⟩⟩
  case mem0=>rfl
  case a9=>rfl
  case a10=>exact congrArg (Value.int .i64) (N7 oo_ dd_ dd_)
 case round =>
  rintro nn g M ⟨k,R,qs,vr,L,⟨hg9,hg10⟩,rfl,hmeas,⟨hk,hI,hr⟩⟩;subst nn;simp only [eJ,hg9,hg10];clear hg9 hg10;refine go5 ?_;refine aK _ rfl (fun hc=>?_) (fun hc=>?_)
  ·replace hc:=cB_ hc
   obtain ⟨m,rfl⟩:∃ m,k=m+1:=⟨k - 1,by omega⟩
   have hRB:R<B:=by rw [hI.rest];exact Nat.mod_lt _ hB
   have hRl:(dl R).length≤190:=Nat.le_trans (bl_ (Nat.le_of_lt hRB)) hnb;refine go5 ?_;refine sQ (aI (gE rfl) (congrArg (Value.int .i64) (show (((m+1:Nat):Int) - 1)=(m:Int) by omega))) rfl (sQ (vB fL rfl rfl hva.old oo_) rfl (sQ (aI (rG tyT rfl hva.old oo_) (congrArg IV (xH A m))) rfl (aU rfl (fA fW z_3 lE rfl dd_ rfl (wS _) (fun b40 hb40=>go_ ?_)))));have hC8:=M8 (R:=R) (kB A m);refine aU rfl (w6 fW MA rfl rfl (OwnL.of_mine (l:=[dg A m]) hb40 (show 1≤maxLen by decide)) (hr.sl.sub (.cons _ lZ)) (List.Sublist.refl _) (by simp only [List.length_singleton];omega) (fun v8 L8 hO8=>?_));refine sQ (bR yQ rfl (fun w hw=>fJ v8 ([dg A m] ++ dl R) hC8.1 (by simp only [List.length_append,List.length_singleton];omega) w (SL.sl (hO8.sl lZ) hw))) rfl ?_;refine go2 ?_;have hC8:=M8 (R:=R) (kB A m);have hr8:=rS hC8.1 hC8.2 (hO8.slf (List.Sublist.refl _));generalize sls v8 (dl (dv ([dg A m] ++ dl R))).length=vr8 at hr8 ⊢
   have hR8:(R * 65536+dg A m)<65536 * B:=by have:=kB A m;omega
   obtain ⟨nm,hnm⟩:∃ nm,nm=(atD (dl (R * 65536+dg A m)) ((dl B).length:Int) * 4294967296+atD (dl (R * 65536+dg A m)) (((dl B).length:Int) - 1) * 65536+atD (dl (R * 65536+dg A m)) (((dl B).length:Int) - 2)):=⟨_,rfl⟩;obtain ⟨d0,hd0⟩:∃ d0,d0=min 65535 (nm / tp):=⟨_,rfl⟩
   have G8:0<tp∧(R * 65536+dg A m) / B≤d0∧d0≤65535:=by rw [hd0,hnm,htp];have hg:=R1 hB hR8 rfl hn0;exact ⟨hg.1,hg.2,Nat.min_le_left _ _⟩
   have hl8:(dl (R * 65536+dg A m)).length≤192:=Nat.le_trans (gY (k:=(dl B).length+1) (by have:=FE B;rw [Nat.pow_succ];omega)) oo_;refine go3 ?_;refine sQ (bR GY rfl (fun w hw=>kO _ (dl (R * 65536+dg A m)) _ w (SL.sl (M:=_) (hr8.sl.sub lZ) hw))) rfl (go3 ?_);refine sQ (aI (kM rfl rfl) (congrArg (Value.int .i64) (N7 oo_ dd_ dd_))) rfl (sQ (bR GY rfl (fun w hw=>kO _ (dl (R * 65536+dg A m)) _ w (SL.sl (M:=_) (hr8.sl.sub lZ) hw))) rfl (go4 ?_));refine sQ (aI (kM rfl rfl) (congrArg (Value.int .i64) (N7 oo_ dd_ dd_))) rfl (sQ (bR GY rfl (fun w hw=>kO _ (dl (R * 65536+dg A m)) _ w (SL.sl (M:=_) (hr8.sl.sub lZ) hw))) rfl (sQ (aI (e9 rfl rfl) (show _=Value.int .i64 (nm:Int) from congrArg (Value.int .i64) (by rw [hnm];exact VS (yK _ _) (yK _ _) (yK _ _)))) rfl (go_ ?_)));refine sQ (aI (f8 rfl rfl (fun hc=>Nat.lt_irrefl 0 (Nat.lt_of_lt_of_eq G8.1 (Int.natCast_eq_zero.1 hc)))) (congrArg (Value.int .i64) (JL (by rw [hnm];exact as_ _ _ _ _)))) rfl (sQ (aI (aC_ (a:=65535) rfl rfl) (congrArg (fun n:Nat=>Value.int .i64 (n:Int)) hd0.symm)) rfl (go5 ?_));refine aU rfl (fA fW z_3 lE rfl dd_ rfl (wS _) (fun b64 hb64=>aU rfl (eM ZA rfl (fun w hw=>uN vb _ (dl B) [d0] (j0 B) (DL.one oo_) oo_ (by simp) w (SL.sl (M:=_) hvb.old hw) (SL.sl (SL.mine (l:=[d0]) (.head _) (Nat.le_refl _)) hw)) (fun vp0 Lp0 hp0=>?_))));refine go4 ?_;refine cC [11,12,66,67,68,69,70,71,72,73] (fun g nn M=>∃ (d:Nat) (vp:Value) (Lp:List Blk),(g 11 = .int .i64 (d:Int)∧g 12=vp)∧M=Lp ++ (L8 ++ (L ++ [⟨b15,3,iw qs⟩]))∧nn=d∧(((R * 65536+dg A m) / B≤d∧d≤65535)∧SLf w0 Lp vp (dl (B * d)))) (d0) ?start ?round
   case start =>
    refine ⟨_,(List.Sublist.append (List.Sublist.refl _) (List.Sublist.cons _ (List.Sublist.refl _))),d0,vp0,Lp0,⟨?a11,?a12⟩,?mem0,rfl,⟨⟨G8.2.1,G8.2.2⟩,by have:=hp0;rw [fC] at this;simpa [dv] using this⟩⟩
    case mem0=>rfl
    case a11=>rfl
    case a12=>rfl
   case round =>
    rintro nn g M ⟨d,vp,Lp,⟨hg11,hg12⟩,rfl,hmeas,⟨hd,hp⟩⟩;subst nn;simp only [eJ,hg11,hg12];clear hg11 hg12;have hpl:(dl (B * d)).length≤195:=Nat.le_trans (gY (k:=(dl B).length+1) (by have:=FE B;have h1:=Nat.mul_le_mul_left B hd.2;rw [Nat.pow_succ];omega)) oo_;refine go4 ?_;refine sQ (bR CU rfl (fun w hw=>iN _ vp (dl (R * 65536+dg A m)) (dl (B * d)) (j0 _) (j0 _) oo_ oo_ w (SL.sl (hr8.sl.sub (.trans lZ (List.sublist_append_right _ _))) hw) (SL.sl (hp.sl.sub lZ) hw))) rfl (go_ ?_);refine aK _ rfl (fun h68=>?_) (fun h68=>?_)
    ·replace h68:=cB_ h68
     rw [fC,fC] at h68;have hless:=QW hB hd.1 h68;refine go4 ?_;refine sQ (aI (kM rfl rfl) (congrArg (Value.int .i64) (pD (b:=1) rfl hless.1 oo_))) rfl (go5 ?_);refine aU rfl (eM LH rfl (fun w hw=>lC vp vb (dl (B * d)) (dl B) (j0 _) (j0 _) oo_ oo_ (by rw [fC,fC];exact hless.2.2.1) w (SL.sl (hp.sl.sub lZ) hw) (SL.sl (M:=_) hvb.old hw)) (fun vp2 Lp2 hp2=>go2 ?_));refine ⟨pp_,_,_,(List.Sublist.append (List.Sublist.refl _) (List.sublist_append_right _ _)),(by have:=hless.1;omega),d - 1,vp2,Lp2,⟨?s11,?s12⟩,?mem,rfl,⟨⟨hless.2.1,by omega⟩,by rw [fC,fC,hless.2.2.2] at hp2;exact hp2⟩⟩
     case mem=>rfl
     case s11=>rfl
     case s12=>rfl
    replace h68:=cB_ h68
    rw [fC,fC] at h68;have hdone:=QV hB hd.1 h68;refine go3 ?_;refine sQ (aI (gE rfl) (congrArg (Value.int .i64) (show (((m+1:Nat):Int) - 1)=(m:Int) by omega))) rfl (go_ ?_);refine sQ (lU fL rfl rfl oo_ oo_) rfl (aU rfl (DW tyT rfl rfl (uL (uL (uL uH))) (by rw [hI.len];omega) (.inl (by assumption)) (go4 ?_)));refine aU rfl (eM LH rfl (fun w hw=>lC _ vp (dl (R * 65536+dg A m)) (dl (B * d)) (j0 _) (j0 _) oo_ oo_ (by rw [fC,fC];exact hdone.2.2) w (SL.sl (hr8.sl.sub (.trans lZ (List.sublist_append_right _ _))) hw) (SL.sl (hp.sl.sub lZ) hw)) (fun vr2 Lr2 hr2=>go3 ?_));refine sQ (aI (gE rfl) (congrArg (Value.int .i64) (show (((m+1:Nat):Int) - 1)=(m:Int) by omega))) rfl (go3 ?_);refine ⟨pp_,_,_,(List.Sublist.append (List.Sublist.refl _) (.trans (List.sublist_append_right _ _) (.trans (List.sublist_append_right _ _) (List.sublist_append_right _ _)))),oo_,m,((R * 65536+dg A m) % B),qs.set m d,vr2,Lr2,⟨?s9,?s10⟩,?mem,rfl,⟨by omega,by rw [hdone.1];exact hI.step hB oo_,by rw [fC,fC,hdone.2.1] at hr2;exact hr2⟩⟩
    case mem=>rfl
    case s9=>rfl
    case s10=>exact congrArg (Value.int .i64) (bD (n:=(m:Int) - 1) (by unfold I64;omega))
  replace hc:=cB_ hc
  obtain rfl:k=0:=by omega
  refine go3 ?_;refine sQ (bR yQ rfl (fun w hw=>fJ _ qs hI.ok (by rw [hI.len];omega) w (SL.sl (SL.mine' (mA (.head _)) hI.len (Nat.le_refl _)) hw))) rfl (go5 ?_);refine mD rfl (.inr rfl) rfl rfl ?_;exact ⟨_,_,rfl,rS hI.ok hI.fin.1 (SLf.mine hb15 (mA (.head _)) hI.len (Nat.le_refl _)),by rw [hI.fin.2] at hr;exact hr.sub lZ⟩
theorem wF (a:I) :
    Ret Tryz.prog 169 [AV [pI a]] (AV [pI (jK a)]):=by
 refine aW (N:=13) Tryz.func169 rfl rfl (by simp) (fun w0=>?_);simp only [bA,Nat.reduceAdd];refine go2 ?_;intro b1 hb1;refine go_ ?_;intro b2 hb2;refine go4 ?_;refine sC (.bool a.1.good) kS (bL a.1 a.2) rfl rfl rfl (go2 ?_);rcases bt a.1.good with h3 | h3
 ·refine W_f (iX h3) rfl (go_ ?_);refine gds sn [0,4,8,12,17,20,25] [6] mix (by kernel_rfl) (go4 ?_);refine cS rfl rfl (eM lP rfl (fun w hw=>bM a.1 a.2 w) (fun vl4 Ll4 kl4=>⟨(fun _=>sR s0),sn,?_⟩))
  try simp only [fC,lO] at kl4
  refine pQ rfl (aI (v':=AV [pI (E (Z.of (sgn (!a.1.neg) (val a.1.w))))]) (bR tD rfl (fun w hw=>dG (!a.1.neg) vl4 (dl (val a.1.w)) (j0 _) (Nat.le_trans (gY (k:=32) (tG a.2)) dd_) w (SL.sl (SL.sub kl4.sl lZ) hw))) (by rw [(fC _)];rfl)) (go3 ?_);refine aS rfl (.inr rfl) (fB rfl (mA mZ) tyT rfl) ?_;exact congrArg vS2 (show _=(jK a) from aE h3 rfl)
 refine W_t (iY h3) rfl (go_ ?_);refine sC (AV [pI (E Z.bad)]) qR dE rfl rfl rfl (go3 ?_);refine aS rfl (.inr rfl) (fB rfl m0 tyT rfl) ?_;exact congrArg vS2 (show _=(jK a) from aM h3 rfl)
theorem wG (a:R) (ha:a.Ok):Ret Tryz.prog 169 [RV a] (RV (Z.neg a.dec).enc):=by
  have h:=wF ⟨a,ha⟩;rw [uU] at h;exact h

theorem wB (a:I) :
    Ret Tryz.prog 177 [AV [pI a]] (AV [pI (jJ a)]):=by
 refine aW (N:=10) Tryz.func177 rfl rfl (by simp) (fun w0=>?_);simp only [bA,Nat.reduceAdd];refine go2 ?_;intro b1 hb1;refine go_ ?_;intro b2 hb2;refine go4 ?_;refine sC (.bool a.1.good) kS (bL a.1 a.2) rfl rfl rfl (go2 ?_);rcases bt a.1.good with h3 | h3
 ·refine W_f (iX h3) rfl (go3 ?_);refine aU rfl (eM lP rfl (fun w hw=>bM a.1 a.2 w) (fun vl4 Ll4 kl4=>?_))
  try simp only [fC,lO] at kl4
  refine sQ (aI (v':=AV [pI (E (Z.of (sgn false (val a.1.w))))]) (bR tD rfl (fun w hw=>dG false vl4 (dl (val a.1.w)) (j0 _) (Nat.le_trans (gY (k:=32) (tG a.2)) dd_) w (SL.sl (SL.sub kl4.sl lZ) hw))) (by rw [(fC _)];rfl)) rfl (go3 ?_);refine aS rfl (.inr rfl) (fB rfl (mA mZ) tyT rfl) ?_;exact congrArg vS2 (show _=(jJ a) from aE h3 rfl)
 refine W_t (iY h3) rfl (go_ ?_);refine sC (AV [pI (E Z.bad)]) qR dE rfl rfl rfl (go3 ?_);refine aS rfl (.inr rfl) (fB rfl m0 tyT rfl) ?_;exact congrArg vS2 (show _=(jJ a) from aM h3 rfl)
theorem wC (a:R) (ha:a.Ok):Ret Tryz.prog 177 [RV a] (RV (Z.abs a.dec).enc):=by
  have h:=wB ⟨a,ha⟩;rw [uS] at h;exact h

theorem vE (a:I) :
    Ret Tryz.prog 106 [AV [pI a]] (.int .i64 ((hJ a).1)):=by
 refine aW (N:=14) Tryz.func106 rfl rfl (by simp) (fun w0=>?_);simp only [bA,Nat.reduceAdd];refine go2 ?_;intro b1 hb1;refine go3 ?_;refine gJv [3,4,5,6,7,8,9,10,11] [(11,.bool (!a.1.good||((((dl (val a.1.w)).length:Nat):Int)==0)))] (fun K2 J2=>?_) ?_
 ·refine go2 ?_;refine sC (.bool a.1.good) kS (bL a.1 a.2) rfl rfl rfl (go_ ?_);rcases bt a.1.good with h4 | h4
  ·refine sB (iX h4) rfl (go_ ?_);refine aU rfl (eM lP rfl (fun w hw=>bM a.1 a.2 w) (fun vl5 Ll5 kl5=>?_))
   try simp only [fC,lO] at kl5
   refine sQ (aI (v':=.int .i64 (((dl (val a.1.w)).length:Nat):Int)) (jI fL rfl (SL.sub kl5.sl lZ)) rfl) rfl (go3 ?_);refine J2 _ _ pp_ (sR (s0)) (bQ (oX h4 rfl))
  refine sB (iY h4) rfl (go6 ?_);refine J2 _ _ pp_ s0 (bQ (r8 h4))
 intro g6;refine aK _ rfl (fun h7=>?_) (fun h7=>?_)
 ·refine go4 ?_;refine aS rfl (.inr rfl) rfl ?_;exact congrArg vS5 (show _=(hJ a) from aE h7 rfl)
 refine go6 ?_;refine aK _ rfl (fun h8=>?_) (fun h8=>?_)
 ·refine go4 ?_;refine aS rfl (.inr rfl) rfl ?_;exact congrArg vS5 (show _=(hJ a) from aM h7 (aE h8 rfl))
 refine go5 ?_;refine aS rfl (.inr rfl) rfl ?_;exact congrArg vS5 (show _=(hJ a) from aM h7 (aM h8 rfl))
theorem d7 (a:R) (ha:a.Ok):Ret Tryz.prog 106 [RV a] (.int .i64 a.dec.sign):=by
  have h:=vE ⟨a,ha⟩;rw [tT] at h;exact h

theorem wE (a:I) (b:I) :
    Ret Tryz.prog 109 [AV [pI a],AV [pI b]] (.int .i64 ((cZ a b).1)):=by
 refine aW (N:=48) Tryz.func109 rfl rfl (by simp) (fun w0=>?_);simp only [bA,Nat.reduceAdd];refine go2 ?_;intro b1 hb1;refine go_ ?_;intro b2 hb2;refine go3 ?_;refine gJv [9,10,11,12,13,14,15,16] [(16,.bool (!a.1.good&&(!b.1.good)))] (fun K2 J2=>?_) ?_
 ·refine go2 ?_;refine sC (.bool a.1.good) kS (bL a.1 a.2) rfl rfl rfl (go_ ?_);rcases bt a.1.good with h4 | h4
  ·refine sB (iX h4) rfl (go5 ?_);refine J2 _ _ pp_ s0 (bQ (G9 h4))
  refine sB (iY h4) rfl (go_ ?_);refine sC (.bool b.1.good) kS (bL b.1 b.2) rfl rfl rfl (go3 ?_);refine J2 _ _ pp_ s0 (bQ (G7 h4 rfl))
 intro g5;refine aK _ rfl (fun h6=>?_) (fun h6=>?_)
 ·refine go4 ?_;refine aS rfl (.inr rfl) rfl ?_;exact congrArg vS5 (show _=(cZ a b) from aE h6 rfl)
 refine go4 ?_;refine sC (.bool a.1.good) kS (bL a.1 a.2) rfl rfl rfl (go2 ?_);rcases bt a.1.good with h7 | h7
 ·refine W_f (iX h7) rfl (go4 ?_);refine sC (.bool b.1.good) kS (bL b.1 b.2) rfl rfl rfl (go2 ?_);rcases bt b.1.good with h8 | h8
  ·refine W_f (iX h8) rfl (go7 ?_);refine sQ (aI (v':=.bool (a.1.neg != b.1.neg)) (qT AB rfl rfl) rfl) rfl (go_ ?_);refine aK _ rfl (fun h9=>?_) (fun h9=>?_)
   ·refine go5 ?_;refine aK _ rfl (fun h10=>?_) (fun h10=>?_)
    ·refine go4 ?_;refine aS rfl (.inr rfl) rfl ?_;exact congrArg vS5 (show _=(cZ a b) from aM h6 (aE h7 (aE h8 (aE h9 (aE h10 rfl)))))
    refine go5 ?_;refine aS rfl (.inr rfl) rfl ?_;exact congrArg vS5 (show _=(cZ a b) from aM h6 (aE h7 (aE h8 (aE h9 (aM h10 rfl)))))
   refine go3 ?_;refine aU rfl (eM lP rfl (fun w hw=>bM a.1 a.2 w) (fun vl11 Ll11 kl11=>?_))
   try simp only [fC,lO] at kl11
   refine go4 ?_;refine aU rfl (eM lP rfl (fun w hw=>bM b.1 b.2 w) (fun vl12 Ll12 kl12=>?_))
   try simp only [fC,lO] at kl12
   refine go7 ?_;refine aK _ rfl (fun h13=>?_) (fun h13=>?_)
   ·refine go2 ?_;refine aU rfl (eM lP rfl (fun w hw=>bM b.1 b.2 w) (fun vl14 Ll14 kl14=>?_))
    try simp only [fC,lO] at kl14
    refine go4 ?_;refine aU rfl (eM lP rfl (fun w hw=>bM a.1 a.2 w) (fun vl15 Ll15 kl15=>?_))
    try simp only [fC,lO] at kl15
    refine go5 ?_;refine sQ (aI (v':=.bool (decide ((val b.1.w)<(val a.1.w)))) (bR CU rfl (fun w hw=>iN vl14 vl15 (dl (val b.1.w)) (dl (val a.1.w)) (j0 _) (j0 _) (Nat.le_trans (gY (k:=32) (tG b.2)) dd_) (Nat.le_trans (gY (k:=32) (tG a.2)) dd_) w (SL.sl (SL.sub kl14.sl (sR lZ)) hw) (SL.sl (SL.sub kl15.sl lZ) hw))) (by rw [(fC _),(fC _)])) rfl (go5 ?_);refine sQ (aI (v':=.bool (decide ((val a.1.w)<(val b.1.w)))) (bR CU rfl (fun w hw=>iN vl15 vl14 (dl (val a.1.w)) (dl (val b.1.w)) (j0 _) (j0 _) (Nat.le_trans (gY (k:=32) (tG a.2)) dd_) (Nat.le_trans (gY (k:=32) (tG b.2)) dd_) w (SL.sl (SL.sub kl15.sl lZ) hw) (SL.sl (SL.sub kl14.sl (sR lZ)) hw))) (by rw [(fC _),(fC _)])) rfl (go6 ?_);refine aK _ rfl (fun h16=>?_) (fun h16=>?_)
    ·refine go4 ?_;refine aS rfl (.inr rfl) rfl ?_;exact congrArg vS5 (show _=(cZ a b) from aM h6 (aE h7 (aE h8 (aM h9 (aE h13 (aE h16 rfl))))))
    refine go5 ?_;refine aK _ rfl (fun h17=>?_) (fun h17=>?_)
    ·refine go4 ?_;refine aS rfl (.inr rfl) rfl ?_;exact congrArg vS5 (show _=(cZ a b) from aM h6 (aE h7 (aE h8 (aM h9 (aE h13 (aM h16 (aE h17 rfl)))))))
    refine go5 ?_;refine aS rfl (.inr rfl) rfl ?_;exact congrArg vS5 (show _=(cZ a b) from aM h6 (aE h7 (aE h8 (aM h9 (aE h13 (aM h16 (aM h17 rfl)))))))
   refine go4 ?_;refine sQ (aI (v':=.bool (decide ((val a.1.w)<(val b.1.w)))) (bR CU rfl (fun w hw=>iN vl11 vl12 (dl (val a.1.w)) (dl (val b.1.w)) (j0 _) (j0 _) (Nat.le_trans (gY (k:=32) (tG a.2)) dd_) (Nat.le_trans (gY (k:=32) (tG b.2)) dd_) w (SL.sl (SL.sub kl11.sl (sR lZ)) hw) (SL.sl (SL.sub kl12.sl lZ) hw))) (by rw [(fC _),(fC _)])) rfl (go5 ?_);refine sQ (aI (v':=.bool (decide ((val b.1.w)<(val a.1.w)))) (bR CU rfl (fun w hw=>iN vl12 vl11 (dl (val b.1.w)) (dl (val a.1.w)) (j0 _) (j0 _) (Nat.le_trans (gY (k:=32) (tG b.2)) dd_) (Nat.le_trans (gY (k:=32) (tG a.2)) dd_) w (SL.sl (SL.sub kl12.sl lZ) hw) (SL.sl (SL.sub kl11.sl (sR lZ)) hw))) (by rw [(fC _),(fC _)])) rfl (go6 ?_);refine aK _ rfl (fun h18=>?_) (fun h18=>?_)
   ·refine go4 ?_;refine aS rfl (.inr rfl) rfl ?_;exact congrArg vS5 (show _=(cZ a b) from aM h6 (aE h7 (aE h8 (aM h9 (aM h13 (aE h18 rfl))))))
   refine go5 ?_;refine aK _ rfl (fun h19=>?_) (fun h19=>?_)
   ·refine go4 ?_;refine aS rfl (.inr rfl) rfl ?_;exact congrArg vS5 (show _=(cZ a b) from aM h6 (aE h7 (aE h8 (aM h9 (aM h13 (aM h18 (aE h19 rfl)))))))
   refine go5 ?_;refine aS rfl (.inr rfl) rfl ?_;exact congrArg vS5 (show _=(cZ a b) from aM h6 (aE h7 (aE h8 (aM h9 (aM h13 (aM h18 (aM h19 rfl)))))))
  refine W_t (iY h8) rfl (go4 ?_);refine aS rfl (.inr rfl) rfl ?_;exact congrArg vS5 (show _=(cZ a b) from aM h6 (aE h7 (aM h8 rfl)))
 refine W_t (iY h7) rfl (go4 ?_);refine aS rfl (.inr rfl) rfl ?_;exact congrArg vS5 (show _=(cZ a b) from aM h6 (aM h7 rfl))
theorem pH (a b:R) (ha:a.Ok) (hb:b.Ok):Ret Tryz.prog 109 [RV a,RV b] (.int .i64 (Z.cmp a.dec b.dec)):=by
  have h:=wE ⟨a,ha⟩ ⟨b,hb⟩;rw [uT] at h;exact h

theorem wH (a:I) (b:I) :
    Ret Tryz.prog 111 [AV [pI a],AV [pI b]] (AV [pI (gK a b)]):=by
 refine aW (N:=76) Tryz.func111 rfl rfl (by simp) (fun w0=>?_);simp only [bA,Nat.reduceAdd];refine go2 ?_;intro b1 hb1;refine go_ ?_;intro b2 hb2;refine go_ ?_;intro b3 hb3;refine go3 ?_;refine sC (.tuple #[.int .i64 ((eG a).1),.bool (iC a.1)]) AH (gG a.1 a.2) rfl rfl rfl (go8 ?_);refine sC (.tuple #[.int .i64 ((eG b).1),.bool (iC b.1)]) AH (gG b.1 b.2) rfl rfl rfl (go7 ?_);refine gJv [21,22,23,24,25,26,27,28] [(28,.bool ((iC a.1)&&((iC b.1)&&((eG b).1 != 0))))] (fun K2 J2=>?_) ?_
 ·refine go2 ?_;refine sBB rfl (fun h6=>?_) (fun h6=>?_)
  ·refine go2 ?_;refine sBB rfl (fun h7=>?_) (fun h7=>?_)
   ·refine go4 ?_;refine J2 _ _ pp_ s0 (bQ (iI h6 (iI h7 rfl)))
   refine go4 ?_;refine J2 _ _ pp_ s0 (bQ (iI h6 (lV h7)))
  refine go7 ?_;refine J2 _ _ pp_ s0 (bQ (lV h6))
 intro g8;refine aK _ rfl (fun h9=>?_) (fun h9=>?_)
 ·refine go3 ?_;have hfl:=G4 h9;refine sC (.int .i64 ((W.fdiv (eG a) (eG b)).1)) RF (oK (eG a).1 (eG b).1 (eG a).2 hfl.1 hfl.2.1) rfl rfl (congrArg (Value.int .i64) hfl.2.2) (sC (AV [pI (E (Z.of (W.fdiv (eG a) (eG b)).1))]) CW (f9 (W.fdiv (eG a) (eG b)).1 (W.fdiv (eG a) (eG b)).2) rfl rfl rfl (go3 ?_));refine aS rfl (.inr rfl) (fB rfl m0 tyT rfl) ?_;exact congrArg vS2 (show _=(gK a b) from aE h9 rfl)
 refine go2 ?_;refine gJv [33,34,35,36,37,38,39,40,41,42,43,44,45,46] [(46,.bool (!a.1.good||(!b.1.good||((((dl (val b.1.w)).length:Nat):Int)==0))))] (fun K4 J4=>?_) ?_
 ·refine go2 ?_;refine sC (.bool a.1.good) kS (bL a.1 a.2) rfl rfl rfl (go_ ?_);rcases bt a.1.good with h13 | h13
  ·refine sB (iX h13) rfl (go_ ?_);refine sC (.bool b.1.good) kS (bL b.1 b.2) rfl rfl rfl (go2 ?_);rcases bt b.1.good with h14 | h14
   ·refine sB (iX h14) rfl (go_ ?_);refine aU rfl (eM lP rfl (fun w hw=>bM b.1 b.2 w) (fun vl15 Ll15 kl15=>?_))
    try simp only [fC,lO] at kl15
    refine sQ (aI (v':=.int .i64 (((dl (val b.1.w)).length:Nat):Int)) (jI fL rfl (SL.sub kl15.sl lZ)) rfl) rfl (go3 ?_);refine J4 _ _ pp_ (sR (s0)) (bQ (oX h13 (oX h14 rfl)))
   refine sB (iY h14) rfl (go6 ?_);refine J4 _ _ pp_ s0 (bQ (oX h13 (r8 h14)))
  refine sB (iY h13) rfl (AI ?_);refine J4 _ _ pp_ s0 (bQ (r8 h13))
 intro g16;refine aK _ rfl (fun h17=>?_) (fun h17=>?_)
 ·refine go_ ?_;refine sC (AV [pI (E Z.bad)]) qR dE rfl rfl rfl (go3 ?_);refine aS rfl (.inr rfl) (fB rfl m0 tyT rfl) ?_;exact congrArg vS2 (show _=(gK a b) from aM h9 (aE h17 rfl))
 refine go_ ?_;refine gds sn [0,8,5,13,17,20,24,28,32,36] [] mix (by kernel_rfl) (go2 ?_);refine cS rfl rfl (eM lP rfl (fun w hw=>bM a.1 a.2 w) (fun vl18 Ll18 kl18=>⟨(fun _=>sR s0),sn,?_⟩))
 try simp only [fC,lO] at kl18
 refine cS rfl rfl (eM lP rfl (fun w hw=>bM b.1 b.2 w) (fun vl19 Ll19 kl19=>⟨(fun _=>sR s0),sn,?_⟩))
 try simp only [fC,lO] at kl19
 have hB:=XA h17;refine cS rfl rfl (xQ GT rfl (fun w hw=>i8 vl18 vl19 (val a.1.w) (val b.1.w) hB (Nat.le_trans (gY (k:=32) (tG a.2)) dd_) (Nat.le_trans (gY (k:=32) (tG b.2)) dd_) w (SL.sl (SL.sub kl18.sl (sR lZ)) hw) (SL.sl (SL.sub kl19.sl lZ) hw)) (fun vl20_0 vl20_1 Ll20 kl20_0 kl20_1=>⟨(fun _=>sR s0),sn,?_⟩))
 try simp only [fC,lO] at kl20_0 kl20_1
 refine go7 ?_;refine gJv [56,57,58,59,60,61,62,63,64,65] [(65,.bool ((a.1.neg != b.1.neg)&&decide (0<(((dl ((val a.1.w) % (val b.1.w))).length:Nat):Int))))] (fun K6 J6=>?_) ?_
 ·refine go5 ?_;refine sQ (aI (v':=.bool (a.1.neg != b.1.neg)) (qT AB rfl rfl) rfl) rfl ?_;refine sBB rfl (fun h22=>?_) (fun h22=>?_)
  ·refine go_ ?_;refine sQ (aI (v':=.int .i64 (((dl ((val a.1.w) % (val b.1.w))).length:Nat):Int)) (jI fL rfl (SL.sub kl20_1 lZ)) rfl) rfl (go3 ?_);refine J6 _ _ pp_ s0 (bQ (iI h22 rfl))
  refine go5 ?_;refine J6 _ _ pp_ s0 (bQ (lV h22))
 intro g23;refine aK _ rfl (fun h24=>?_) (fun h24=>?_)
 ·refine go2 ?_;refine aU rfl (fA fW z_3 lE rfl dd_ rfl (wS 1) (fun b25 hb25=>aU rfl (eM RB rfl (fun w hw=>pA vl20_0 _ (dl ((val a.1.w) / (val b.1.w))) [1] (j0 _) (DL.one dd_) (Nat.le_trans (gY (k:=32) (YT (tG a.2))) dd_) (by simp) w (SL.sl (SL.sub kl20_0 (sd lZ)) hw) (SL.sl (SL.sub (SL.mine (l:=[1]) List.mem_cons_self (Nat.le_refl _)) (sk sn)) hw)) (fun vl26 Ll26 kl26=>?_))))
  try simp only [fC,lO] at kl26
  refine go7 ?_;refine sQ (aI (v':=.bool (a.1.neg != b.1.neg)) (qT AB rfl rfl) rfl) rfl (go_ ?_);refine sQ (aI (v':=AV [pI (E (Z.of (sgn (a.1.neg != b.1.neg) (((val a.1.w) / (val b.1.w))+1))))]) (bR tD rfl (fun w hw=>dG (a.1.neg != b.1.neg) vl26 (dl (((val a.1.w) / (val b.1.w))+1)) (j0 _) (Nat.le_trans (gY (k:=33) (c2_ (k:=32) (YT (tG a.2)) (Nat.lt_of_lt_of_le (show 1<65536 ^ 1 by decide) (Nat.pow_le_pow_right (show 0<65536 by decide) (show 1≤32 by decide))))) dd_) w (SL.sl (SL.sub kl26.sl lZ) hw))) (by rw [(fC _)];rfl)) rfl (go3 ?_);refine aS rfl (.inr rfl) (fB rfl (mA (mC (mA (mA (mA mZ))))) tyT rfl) ?_;exact congrArg vS2 (show _=(gK a b) from aM h9 (aM h17 (aE h24 rfl)))
 refine go6 ?_;refine sQ (aI (v':=.bool (a.1.neg != b.1.neg)) (qT AB rfl rfl) rfl) rfl (go_ ?_);refine sQ (aI (v':=AV [pI (E (Z.of (sgn (a.1.neg != b.1.neg) ((val a.1.w) / (val b.1.w)))))]) (bR tD rfl (fun w hw=>dG (a.1.neg != b.1.neg) vl20_0 (dl ((val a.1.w) / (val b.1.w))) (j0 _) (Nat.le_trans (gY (k:=32) (YT (tG a.2))) dd_) w (SL.sl (SL.sub kl20_0 lZ) hw))) (by rw [(fC _)];rfl)) rfl (go3 ?_);refine aS rfl (.inr rfl) (fB rfl (mA (mA (mA mZ))) tyT rfl) ?_;exact congrArg vS2 (show _=(gK a b) from aM h9 (aM h17 (aM h24 rfl)))
theorem gR (a b:R) (ha:a.Ok) (hb:b.Ok):Ret Tryz.prog 111 [RV a,RV b] (RV (Z.quo a.dec b.dec).enc):=by
  have h:=wH ⟨a,ha⟩ ⟨b,hb⟩;rw [uV] at h;exact h
theorem pJ (a b:R) (ha:a.Ok) (hb:b.Ok) :
    Ret Tryz.prog 107 [RV a,RV b] (RV (Z.gcd a.dec b.dec).enc):=by
 refine aW (N:=64) Tryz.func107 rfl rfl (by simp) (fun w0=>?_);simp only [bA,Nat.reduceAdd];have hla:=XB ha;have hlb:=XB hb;refine go_ ?_;refine aU rfl (fV rfl rfl (fun b2 hb2=>aU rfl (fV rfl rfl (fun b3 hb3=>aU rfl (cM i2 (fun b4 hb4=>go2 ?_))))));refine sQ (bE tyT rfl mm_ (bG ha)) rfl ?_;refine sQ (aZ AH (gG a ha) rfl) rfl (go7 ?_);refine sQ (bE tyT rfl mm_ (bG hb)) rfl ?_;refine sQ (aZ AH (gG b hb) rfl) rfl (iE ?_)
 cases w1:iC a
 ·refine go7 ?_;refine sQ (bE tyT rfl mm_ (bG ha)) rfl ?_;refine sQ (aZ kS (bL a ha) rfl) rfl (go2 ?_)
  cases ga:a.good
  ·refine go7 ?_;refine sQ (aZ qR dE rfl) rfl (aU rfl (aX tyT rfl rfl uu_ (aC _) rfl (aV _) (.inl (by assumption)) ?_));refine go2 ?_;refine aS rfl (.inr rfl) ⟨_,_,_,_,_,_,rfl,mm_,tyT,_,(bX (aC _)),(aC _),rfl⟩ ?_
   (rw [Z.gcd,kE (.inl (EO ga))];rfl)
  refine sQ (bE tyT rfl mm_ (bG hb)) rfl ?_;refine sQ (aZ kS (bL b hb) rfl) rfl (go3 ?_);refine aK _ rfl (fun gb=>?_) (fun gb=>?_)
  ·replace gb:=cB_ gb
   refine go_ ?_;refine sQ (aZ qR dE rfl) rfl (aU rfl (aX tyT rfl rfl uu_ (aC _) rfl (aV _) (.inl (by assumption)) ?_));refine go2 ?_;refine aS rfl (.inr rfl) ⟨_,_,_,_,_,_,rfl,mm_,tyT,_,(bX (aC _)),(aC _),rfl⟩ ?_
   (rw [Z.gcd,kE (.inr (EO gb))];rfl)
  replace gb:=cB_ gb
  refine go2 ?_;refine sQ (bE tyT rfl mm_ (bG ha)) rfl ?_;refine aU rfl (eM lP rfl (fun w hw=>bM a ha w) (fun v5 L5 h5=>go3 ?_));refine sQ (bE tyT rfl mm_ (bG hb)) rfl ?_;refine aU rfl (eM lP rfl (fun w hw=>bM b hb w) (fun v6 L6 h6=>go4 ?_));refine cC [10,11,12,13,51,52,53,54,55,56,57,58,59,60,61] (fun g nn M=>∃ (X Y:Nat) (vx vy:Value) (Lx Ly:List Blk),(g 10=vx∧g 11=vy)∧M=Ly ++ (Lx ++ [⟨b4,33,zR⟩,⟨b3,33,b.cells⟩,⟨b2,33,a.cells⟩])∧nn=Y∧((X<65536 ^ 32∧Y<65536 ^ 32)∧Nat.gcd X Y=Nat.gcd (val a.w) (val b.w)∧SL w0 [] Lx vx (dl X)∧SL w0 [] Ly vy (dl Y))) (val b.w) ?start ?round
  case start =>
   refine ⟨_,(List.Sublist.refl _),val a.w,val b.w,v5,v6,L5,L6,⟨?a10,?a11⟩,?mem0,rfl,⟨⟨NI ha,NI hb⟩,rfl,h5.sl,h6.sl⟩⟩
   case mem0=>rfl
   case a10=>rfl
   case a11=>rfl
  case round =>
   rintro nn g M ⟨X,Y,vx,vy,Lx,Ly,⟨hg10,hg11⟩,rfl,hmeas,⟨hb3,hgc,hX,hY⟩⟩;subst nn;simp only [eJ,hg10,hg11];clear hg10 hg11;refine go3 ?_;refine sQ (jI fL rfl (hY.sub lZ)) rfl (go2 ?_);refine aK _ rfl (fun h53=>?_) (fun h53=>?_)
   ·replace h53:=cB_ h53
    have hYp:0<Y:=NH h53;refine go5 ?_;refine aU rfl (xQ GT rfl (fun w hw=>i8 vx vy X Y hYp (AL hb3.1) (AL hb3.2) w (SL.sl (hX.sub (.trans lZ (List.sublist_append_right _ _))) hw) (SL.sl (hY.sub lZ) hw)) (fun vq vr Lr hq hr=>yU ?_));refine ⟨pp_,_,_,(List.Sublist.append (List.Sublist.refl _) (List.Sublist.append (List.Sublist.refl _) (List.sublist_append_right _ _))),(Nat.mod_lt _ hYp),Y,X % Y,vy,vr,Ly,Lr,⟨?s10,?s11⟩,?mem,rfl,⟨⟨hb3.2,Nat.lt_of_le_of_lt (Nat.mod_le _ _) hb3.1⟩,by rw [← hgc];exact G2 X Y,hY,hr⟩⟩
    case mem=>rfl
    case s10=>rfl
    case s11=>rfl
   replace h53:=cB_ h53
   have hY0:Y=0:=I6 h53;refine go3 ?_;refine sQ (bR tD rfl (fun w hw=>dG false _ _ (j0 _) (Nat.le_trans (AL hb3.1) dd_) w (SL.sl (hX.sub (.trans lZ (List.sublist_append_right _ _))) hw))) rfl (aU rfl (aX tyT rfl rfl uu_ (aC _) rfl (aV _) (.inl (by assumption)) ?_));refine go2 ?_;refine aS rfl (.inr rfl) ⟨_,_,_,_,_,_,rfl,mm_,tyT,_,(bX (aC _)),(aC _),rfl⟩ ?_
   (rw [RX ha hb ga gb (by rw [← hgc,hY0,Nat.gcd_zero_right]),fC];rfl)
 refine go3 ?_;refine aK _ rfl (fun w2=>?_) (fun w2=>?_)
 ·replace w2:=cB_ w2
  refine go2 ?_;refine cC [5,7,9,28,29,30,31,32,33,34] (fun g nn M=>∃ (x y:Int),(g 5 = .int .i64 x∧g 7 = .int .i64 y)∧M=[⟨b4,33,zR⟩,⟨b3,33,b.cells⟩,⟨b2,33,a.cells⟩]∧nn=y.natAbs∧((-4611686018427387904<x∧x<4611686018427387904)∧(-4611686018427387904<y∧y<4611686018427387904)∧Int.gcd x y=Int.gcd (iU a) (iU b))) ((iU b).natAbs) ?start ?round
  case start =>
   refine ⟨_,(List.Sublist.refl _),iU a,iU b,⟨?a5,?a7⟩,?mem0,rfl,⟨(lG ha w1).2.2.2,(lG hb w2).2.2.2,rfl⟩⟩
   case mem0=>rfl
   case a5=>rfl
   case a7=>rfl
  case round =>
   rintro nn g M ⟨x,y,⟨hg5,hg7⟩,rfl,hmeas,⟨hx,hy,hgc⟩⟩;subst nn;simp only [eJ,hg5,hg7];clear hg5 hg7;refine go5 ?_;refine aK _ rfl (fun h29=>?_) (fun h29=>?_)
   ·replace h29:=cB_ h29
    refine go5 ?_;refine sQ (nD rfl rfl h29) rfl (iE ?_);refine ⟨pp_,_,_,(List.Sublist.refl _),(pW (by simpa using h29)).1,y,x.tmod y,⟨?s5,?s7⟩,?mem,rfl,⟨hy,ah_ hx,by rw [← hgc];exact R4 x y⟩⟩
    case mem=>rfl
    case s5=>rfl
    case s7=>rfl
   replace h29:=cB_ h29
   have hy0:y=0:=by simpa using h29
   refine go3 ?_;refine sQ (aZ CW (f9 x (ag_ hx)) rfl) rfl (sQ (aZ ZG (wC (Z.of x).enc (Z.enc_ok _)) rfl) rfl (aU rfl (aX tyT rfl rfl uu_ (aC _) rfl (aV _) (.inl (by assumption)) ?_)));refine go2 ?_;refine aS rfl (.inr rfl) ⟨_,_,_,_,_,_,rfl,mm_,tyT,_,(bX (aC _)),(aC _),rfl⟩ ?_
   (rw [uZ,OU ha hb w1 w2 hgc hy0];rfl)
 replace w2:=cB_ w2
 refine go3 ?_;refine sQ (bE tyT rfl mm_ (bG ha)) rfl ?_;refine sQ (aZ kS (bL a ha) rfl) rfl (go2 ?_)
 cases ga:a.good
 ·refine go7 ?_;refine sQ (aZ qR dE rfl) rfl (aU rfl (aX tyT rfl rfl uu_ (aC _) rfl (aV _) (.inl (by assumption)) ?_));refine go2 ?_;refine aS rfl (.inr rfl) ⟨_,_,_,_,_,_,rfl,mm_,tyT,_,(bX (aC _)),(aC _),rfl⟩ ?_
  (rw [Z.gcd,kE (.inl (EO ga))];rfl)
 refine sQ (bE tyT rfl mm_ (bG hb)) rfl ?_;refine sQ (aZ kS (bL b hb) rfl) rfl (go3 ?_);refine aK _ rfl (fun gb=>?_) (fun gb=>?_)
 ·replace gb:=cB_ gb
  refine go_ ?_;refine sQ (aZ qR dE rfl) rfl (aU rfl (aX tyT rfl rfl uu_ (aC _) rfl (aV _) (.inl (by assumption)) ?_));refine go2 ?_;refine aS rfl (.inr rfl) ⟨_,_,_,_,_,_,rfl,mm_,tyT,_,(bX (aC _)),(aC _),rfl⟩ ?_
  (rw [Z.gcd,kE (.inr (EO gb))];rfl)
 replace gb:=cB_ gb
 refine go2 ?_;refine sQ (bE tyT rfl mm_ (bG ha)) rfl ?_;refine aU rfl (eM lP rfl (fun w hw=>bM a ha w) (fun v5 L5 h5=>go3 ?_));refine sQ (bE tyT rfl mm_ (bG hb)) rfl ?_;refine aU rfl (eM lP rfl (fun w hw=>bM b hb w) (fun v6 L6 h6=>go4 ?_));refine cC [10,11,12,13,51,52,53,54,55,56,57,58,59,60,61] (fun g nn M=>∃ (X Y:Nat) (vx vy:Value) (Lx Ly:List Blk),(g 10=vx∧g 11=vy)∧M=Ly ++ (Lx ++ [⟨b4,33,zR⟩,⟨b3,33,b.cells⟩,⟨b2,33,a.cells⟩])∧nn=Y∧((X<65536 ^ 32∧Y<65536 ^ 32)∧Nat.gcd X Y=Nat.gcd (val a.w) (val b.w)∧SL w0 [] Lx vx (dl X)∧SL w0 [] Ly vy (dl Y))) (val b.w) ?start ?round
 case start =>
  refine ⟨_,(List.Sublist.refl _),val a.w,val b.w,v5,v6,L5,L6,⟨?a10,?a11⟩,?mem0,rfl,⟨⟨NI ha,NI hb⟩,rfl,h5.sl,h6.sl⟩⟩
  case mem0=>rfl
  case a10=>rfl
  case a11=>rfl
 case round =>
  rintro nn g M ⟨X,Y,vx,vy,Lx,Ly,⟨hg10,hg11⟩,rfl,hmeas,⟨hb3,hgc,hX,hY⟩⟩;subst nn;simp only [eJ,hg10,hg11];clear hg10 hg11;refine go3 ?_;refine sQ (jI fL rfl (hY.sub lZ)) rfl (go2 ?_);refine aK _ rfl (fun h53=>?_) (fun h53=>?_)
  ·replace h53:=cB_ h53
   have hYp:0<Y:=NH h53;refine go5 ?_;refine aU rfl (xQ GT rfl (fun w hw=>i8 vx vy X Y hYp (AL hb3.1) (AL hb3.2) w (SL.sl (hX.sub (.trans lZ (List.sublist_append_right _ _))) hw) (SL.sl (hY.sub lZ) hw)) (fun vq vr Lr hq hr=>yU ?_));refine ⟨pp_,_,_,(List.Sublist.append (List.Sublist.refl _) (List.Sublist.append (List.Sublist.refl _) (List.sublist_append_right _ _))),(Nat.mod_lt _ hYp),Y,X % Y,vy,vr,Ly,Lr,⟨?s10,?s11⟩,?mem,rfl,⟨⟨hb3.2,Nat.lt_of_le_of_lt (Nat.mod_le _ _) hb3.1⟩,by rw [← hgc];exact G2 X Y,hY,hr⟩⟩
   case mem=>rfl
   case s10=>rfl
   case s11=>rfl
  replace h53:=cB_ h53
  have hY0:Y=0:=I6 h53;refine go3 ?_;refine sQ (bR tD rfl (fun w hw=>dG false _ _ (j0 _) (Nat.le_trans (AL hb3.1) dd_) w (SL.sl (hX.sub (.trans lZ (List.sublist_append_right _ _))) hw))) rfl (aU rfl (aX tyT rfl rfl uu_ (aC _) rfl (aV _) (.inl (by assumption)) ?_));refine go2 ?_;refine aS rfl (.inr rfl) ⟨_,_,_,_,_,_,rfl,mm_,tyT,_,(bX (aC _)),(aC _),rfl⟩ ?_
  (rw [RX ha hb ga gb (by rw [← hgc,hY0,Nat.gcd_zero_right]),fC];rfl)
end Go.Proofs.YtbjlhfochebmiaaGreatDoor

