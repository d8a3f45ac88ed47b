/- Lemmas: what they ask stands in their statements. -/
import Derived.Test.YtkjjponijamaoaaGreatDoorYSa
set_option linter.unusedSimpArgs false
set_option linter.unusedVariables false
set_option maxHeartbeats 8000000
set_option maxRecDepth 20000
namespace Go.Proofs.YtkjjponijamaoaaGreatDoor
open Go.Kn Go.Num
theorem mE (a:R) (ha:a.Ok) :
    Ret Tryz.prog 169 [RV a] (.tuple #[.int .i64 (rK a),.bool (lJ a)]):=by
 refine cM (N:=41) Tryz.func169 rfl rfl (by simp) (fun w0=>?_);simp only [cS,Nat.reduceAdd];refine Sq fun K1 J1=>Rk fun K J=>bA rfl (qR rfl rfl (fun b1 hb1=>sE rfl (sE rfl (nl J (J1 _ _ (Sq fun K2 J2=>Rk fun K J=>sQ (eG aD rfl mm_ (eO ha)) rfl ?_))))));refine sQ (bZ vE (d9 a ha) rfl) rfl (sE rfl (nl J (J2 _ _ (Sq fun K3 J3=>Sq fun K4 J4=>Rk fun K J=>sE rfl (sE rfl (sE rfl ?_))))))
 cases hg:a.good
 ·refine aI rfl (aI rfl (aI rfl (aI rfl (sE rfl (nl J (J4 _ _ (dE rfl (Sq fun K5 J5=>Rk fun K J=>sE rfl (sE rfl (nl J (J5 _ _ (aL (aB (o6 rfl (.inr rfl) rfl rfl ?_))))))))))))));exact hw_ hg
 refine sQ (eX jY dd_ rfl) rfl (sQ (j7 mI rfl rfl dd_ dd_) rfl (sQ (iA n9 rfl mm_ (wA (r:=a) (k:=1) (by rw [ha.len];decide))) rfl ?_));refine sE rfl (sE rfl (nl J (J4 _ _ ?_)));refine fN _ rfl (fun h16=>?_) (fun h16=>?_)
 ·replace h16:=cB_ h16
  refine Sq fun K6 J6=>Rk fun K J=>sE rfl (sE rfl (nl J (J6 _ _ (aL (aB (o6 rfl (.inr rfl) rfl rfl ?_))))));exact dn_ (lg_ ha h16)
 replace h16:=cB_ h16
 refine aG (J3 _ _ (Sq fun K7 J7=>Sq fun K8 J8=>Rk fun K J=>sE rfl (nl J (J8 _ _ (aJ ?_)))));refine eA [2,3,5,17,18,19,20,21,22,23,24,25] (fun g nn M=>∃ (k:Nat),(g 5 = .int .i64 (k:Int))∧M=[⟨b1,31,a.cells⟩]∧nn=16 - k∧(2≤k∧k≤16∧∀ j,2≤j→j<k→a.w.getD j 0=0)) (14) ?start ?round
 case start =>
  refine ⟨_,(List.Sublist.refl _),2,?a5,?mem0,rfl,⟨Nat.le_refl _,by decide,fun j h1 h2=>by omega⟩⟩
  case mem0=>rfl
  case a5=>rfl
 case round =>
  rintro nn g M ⟨k,hg5,rfl,hmeas,⟨hk2,hk,hz⟩⟩;subst nn;simp only [dQ,hg5];clear hg5;refine Sq fun K9 J9=>Sq fun K10 J10=>Rk fun K J=>sE rfl (sE rfl (nl J (J10 _ _ ?_)));refine fN _ rfl (fun hc=>?_) (fun hc=>?_)
  ·replace hc:=cB_ hc
   have hc:k<16:=by omega
   refine aG (J9 _ _ (Sq fun K11 J11=>aJ (Sq fun K12 J12=>Rk fun K J=>sE rfl (sQ (eX jY dd_ rfl) rfl (sQ (j7 mI rfl rfl oo_ oo_) rfl (sQ (iA n9 rfl mm_ (wA (r:=a) (k:=k) (by rw [ha.len];omega))) rfl ?_))))));refine sE rfl (nl J (J12 _ _ ?_));refine fN _ rfl (fun hz2=>?_) (fun hz2=>?_)
   ·replace hz2:=cB_ hz2
    refine Sq fun K13 J13=>Rk fun K J=>sE rfl (sE rfl (nl J (J13 _ _ (aL (aT (aB (aB (aT (aB (o6 rfl (.inr rfl) rfl rfl ?_))))))))));exact dn_ (hx_ ha hk2 oo_)
   replace hz2:=cB_ hz2
   refine aG (J11 _ _ (Rk fun K J=>sE rfl (sQ (aZ (pH rfl rfl) (congrArg (Value.int .i64) (rF oo_))) rfl (sE rfl (nl J ?_)))));refine ⟨pp_,_,_,(List.Sublist.refl _),oo_,k+1,?s5,?mem,rfl,⟨by omega,by omega,fun j h1 h2=>by rcases Nat.eq_or_lt_of_le (Nat.le_of_lt_succ h2) with rfl | h3;omega;exact hz j h1 h3⟩⟩
   case mem=>rfl
   case s5=>rfl
  replace hc:=cB_ hc
  obtain rfl:k=16:=by omega
  have hws:=do_ ha oo_ hz;refine dW (aU (aU (bJ (J7 _ _ (Sq fun K14 J14=>Rk fun K J=>sQ (eX jY dd_ rfl) rfl (sQ (j7 mI rfl rfl dd_ dd_) rfl (sQ (iA n9 rfl mm_ (wA (r:=a) (k:=1) (by rw [ha.len];decide))) rfl ?_)))))));refine sQ (i7 nP OW rfl) rfl (sE rfl (sQ (eX jY dd_ rfl) rfl (sQ (j7 mI rfl rfl dd_ dd_) rfl (sQ (iA n9 rfl mm_ (wA (r:=a) (k:=0) (by rw [ha.len];decide))) rfl ?_))));refine sQ (i7 nP OW rfl) rfl (sQ (aZ (pH rfl rfl) (congrArg (Value.int .i64) ((do_ ha oo_ hz).1))) rfl (sE rfl (nl J (J14 _ _ (Sq fun K15 J15=>Sq fun K16 J16=>Rk fun K J=>sQ (eX jC dd_ rfl) rfl (sQ (iA mF rfl mm_ rfl) rfl ?_))))));refine nl J (J16 _ _ ?_);refine fN _ rfl (fun hn=>?_) (fun hn=>?_)
  ·replace hn:=cB_ hn
   refine Sq fun K17 J17=>Rk fun K J=>sE rfl (sE rfl (sE rfl (sE rfl (nl J (J17 _ _ (aL (aB (o6 rfl (.inr rfl) rfl rfl ?_))))))));exact le_ hg hws.2 hn
  replace hn:=cB_ hn
  refine aG (J15 _ _ (Sq fun K18 J18=>Rk fun K J=>sE rfl (sE rfl (sE rfl (nl J (J18 _ _ (aL (o6 rfl (.inr rfl) rfl rfl ?_))))))));exact lf_ hg hws.2 hn

theorem dV (n:Int) (hn:I64 n) :
    Ret Tryz.prog 95 [.int .i64 n] (RV (Z.of n).enc):=by
 refine cM (N:=35) Tryz.func95 rfl rfl (by simp) (fun w0=>?_);simp only [cS,Nat.reduceAdd];unfold I64 at hn;refine Sq fun K1 J1=>Rk fun K J=>bA rfl (i1 oM (fun b2 hb2=>nl J (J1 _ _ (Sq fun K2 J2=>Sq fun K3 J3=>Rk fun K J=>sE rfl (sE rfl (nl J (J3 _ _ ?_)))))));refine fN _ rfl (fun h0=>?_) (fun h0=>?_)
 ·replace h0:=cB_ h0
  obtain ⟨m,rfl⟩:∃ m:Nat,n=m:=⟨n.toNat,by omega⟩;refine Sq fun K4 J4=>Rk fun K J=>sE rfl (sQ (aZ (w6 rfl rfl dd_) (show _=IV (m % 65536) from c1_ _)) rfl (sE rfl (sQ (aZ (rA rfl rfl dd_) (Y7 65536 oo_)) rfl (sQ (aZ (w6 rfl rfl dd_) (show _=IV (m / 65536 % 65536) from c1_ _)) rfl (sE rfl (sQ (aZ (rA rfl rfl dd_) (Y7 4294967296 oo_)) rfl (sQ (aZ (w6 rfl rfl dd_) (show _=IV (m / 4294967296 % 65536) from c1_ _)) rfl (sE rfl (sQ (aZ (rA rfl rfl dd_) (Y7 281474976710656 oo_)) rfl (bA rfl (pW mG z_3 xK rfl dd_ rfl (jg_ _ _ _ _) (fun b16 hb16=>sQ (dA BX rfl (fun w hw=>iE false _ (dl4 m) (im_ oo_) (by simp [dl4]) w (SL.sl (SL.mine (l:=dl4 m) (.head _) (Nat.le_refl _)) hw))) rfl ?_))))))))))));refine bA rfl (dX aD rfl rfl uu_ (aS _) rfl (dL _) (.inl (by assumption)) ?_);refine nl J (J4 _ _ (aL (aB (cC rfl (.inr rfl) ⟨_,_,_,_,_,_,rfl,mm_,aD,_,(gS (aS _)),(aS _),rfl⟩ ?_))))
  (rw [dJ_,BD];rfl)
 replace h0:=cB_ h0
 obtain ⟨m,rfl⟩:∃ m:Nat,n = -((m:Int)+1):=⟨(-n - 1).toNat,by omega⟩;refine aG (J2 _ _ (Sq fun K5 J5=>Rk fun K J=>sE rfl (sE rfl (sQ (aZ (kn_ rfl) (congrArg (Value.int .i64) (mk_ oo_))) rfl (sE rfl (nl J (J5 _ _ (Sq fun K6 J6=>Rk fun K J=>sE rfl (sQ (aZ (w6 rfl rfl dd_) (show _=IV (m % 65536) from c1_ _)) rfl (sE rfl (sQ (aZ (rA rfl rfl dd_) (Y7 65536 oo_)) rfl (sQ (aZ (w6 rfl rfl dd_) (show _=IV (m / 65536 % 65536) from c1_ _)) rfl (sE rfl (sQ (aZ (rA rfl rfl dd_) (Y7 4294967296 oo_)) rfl (sQ (aZ (w6 rfl rfl dd_) (show _=IV (m / 4294967296 % 65536) from c1_ _)) rfl ?_)))))))))))))));refine sE rfl (sQ (aZ (rA rfl rfl dd_) (Y7 281474976710656 oo_)) rfl (bA rfl (pW mG z_3 xK rfl dd_ rfl (jg_ _ _ _ _) (fun b31 hb31=>bA rfl (pW mG z_3 xK rfl dd_ rfl (NF 1) (fun b32 hb32=>bA rfl (j9 as_ rfl (fun w hw=>wO _ _ (dl4 m) [1] (im_ oo_) (DL.one dd_) (by simp [dl4]) (by simp) w (SL.sl (SL.mine (l:=dl4 m) (.tail _ (.head _)) (Nat.le_refl _)) hw) (SL.sl (SL.mine (l:=[1]) (.head _) (Nat.le_refl _)) hw)) (fun v9 L9 h9=>?_))))))));refine sQ (dA BX rfl (fun w hw=>iE true _ _ (qQ _) (Nat.le_trans (mY (k:=64) (by rw [dJ_];simp only [dv];omega)) dd_) w (SL.sl (h9.sl.sub lZ) hw))) rfl (bA rfl (dX aD rfl rfl uu_ (aS _) rfl (dL _) (.inl (by assumption)) ?_));refine nl J (J6 _ _ (aL (cC rfl (.inr rfl) ⟨_,_,_,_,_,_,rfl,mm_,aD,_,(gS (aS _)),(aS _),rfl⟩ ?_)))
 (rw [kY,dJ_];simp only [dv,Nat.mul_zero,Nat.add_zero];rw [r5_];rfl)
end Go.Proofs.YtkjjponijamaoaaGreatDoor


namespace Go.Num
open Go Go.Kn
theorem JV (a:I):wJ a=E (Z.neg a.dec):=by
  unfold wJ
  show _=E (Z.neg a.1.dec)
  cases h:a.1.good
  · rw [cond_false,Z.neg,IQ (TJ h)]
  rw [cond_true,pY_ a.2 h]
theorem JR (a:I):wH a=E (Z.abs a.dec):=by
  unfold wH
  show _=E (Z.abs a.1.dec)
  cases h:a.1.good
  · rw [cond_false,Z.abs,IQ (TJ h)]
  rw [cond_true,od_ a.2 h]
theorem pQ_ (n:Nat):((((dl n).length:Nat):Int)==0)=(n==0):=by
  rw [Bool.eq_iff_iff,beq_iff_eq,beq_iff_eq]
  constructor
  · intro h;exact aj_.1 oo_
  intro h;rw [aj_.2 h];rfl
theorem H9 (a:I):tQ a=Z.signW a.dec:=by
  unfold tQ;rw [pQ_]
  apply Subtype.ext
  show _=a.1.dec.sign
  cases hg:a.1.good
  · simp only [Bool.not_false,Bool.true_or,cond_true];exact OS a.2 (.inl hg)
  · cases hz:(val a.1.w==0)
    · simp only [Bool.not_true,Bool.false_or,cond_false]
      rw [mI_ a.2 hg (by simpa using hz)]
      cases a.1.neg <;> rfl
    simp only [Bool.or_true,cond_true];exact OS a.2 (.inr hz)
theorem JW (a b:I):sK a b=E (Z.quo a.dec b.dec):=by
  unfold sK;rw [pQ_]
  show _=E (Z.quo a.1.dec b.1.dec)
  cases hw:(lJ a.1&&(lJ b.1&&((hZ b).1 != 0)))
  · rw [cond_false]
    cases hg:(!a.1.good||(!b.1.good||(val b.1.w==0)))
    · rw [cond_false]
      simp only [Bool.or_eq_false_iff,Bool.not_eq_false',beq_eq_false_iff_ne] at hg;obtain ⟨ga,gb,h0⟩:=hg
      cases hc:((a.1.neg != b.1.neg)&&decide ((0:Int)<(((dl (val a.1.w % val b.1.w)).length:Nat):Int)))
      · rw [cond_false,qg_ a.2 b.2 ga gb h0]
        rw [Bool.and_eq_false_iff] at hc;rcases hc with hc | hc
        · exact .inl (by simpa using hc)
        right
        have:=of_decide_eq_false hc;exact aj_.1 oo_
      rw [cond_true,mu_ a.2 b.2 ga gb h0]
      · rw [Bool.and_eq_true] at hc;simpa using hc.1
      rw [Bool.and_eq_true] at hc;have:=of_decide_eq_true hc.2;intro h;rw [h,yJ] at this;exact absurd this dd_
    rw [cond_true]
    cases ga:a.1.good
    · rw [nN_ (.inl ga)]
    · cases gb:b.1.good
      · rw [nN_ (.inr gb)]
      rw [ga,gb] at hg;rw [rX_ a.2 b.2 ga gb (by simpa using hg)]
  rw [cond_true];have hf:=aK_ hw;rw [Bool.and_eq_true,Bool.and_eq_true] at hw;rw [← hf.2.2];exact congrArg E (g6_ a.2 b.2 hw.1 hw.2.1 hf.2.1)
end Go.Num

namespace Go.Proofs.YtkjjponijamaoaaGreatDoor
open Go.Kn Go.Num
theorem vL (va vb:Value) (A B:Nat) (hB:0<B) (hna:(dl A).length≤190) (hnb:(dl B).length≤190) (w:World) (hva:Sl w va (dl A)) (hvb:Sl w vb (dl B)) :
    Calls Tryz.prog 198 [va,vb].toArray w (fun e w'=>∃ v1 v2,e = .returned (.tuple #[v1,v2])∧Ext w w'∧Slf w.heap.size w' v1 (dl (A / B))∧Slf w.heap.size w' v2 (dl (A % B))):=by
 refine X0 (N:=84) Tryz.func198 rfl rfl (by simp) ?_;obtain ⟨w0,rfl⟩:∃ w0,w0=w:=⟨_,rfl⟩;simp only [cS,Nat.reduceAdd];have hn0:1≤(dl B).length:=Nat.pos_of_ne_zero (fun hc=>by rw [aj_] at hc;omega);obtain ⟨tp,htp⟩:∃ tp,tp=(dg B ((dl B).length - 1) * 65536+atD (dl B) (((dl B).length:Int) - 2)):=⟨_,rfl⟩;refine Sq fun K1 J1=>Rk fun K J=>sE rfl (sE rfl (nl J (J1 _ _ (Sq fun K2 J2=>Rk fun K J=>sE rfl (sQ (vV mT rfl hva.old) rfl (bA rfl (eB_ mG cI_ z_3 rfl rfl oo_ (fun b15 hb15=>sE rfl (nl J (J2 _ _ (Sq fun K3 J3=>Rk fun K J=>sE rfl (sQ (vV mT rfl hvb.old) rfl (sE rfl (nl J ?_))))))))))))));refine J3 _ _ (Sq fun K4 J4=>dr sn [0,4,8,12,16,20,24,28,32,36,40,44] [] mix (by kernel_rfl) (fun K J=>pE rfl (pE rfl (pQ rfl (aZ (x9 rfl rfl) (congrArg (Value.int .i64) (DS (b:=1) rfl oo_ oo_))) (pQ rfl (KU mT rfl rfl hvb.old oo_) (pQ rfl (aZ (FL dP rfl hvb.old oo_) (congrArg IV (OC B _))) (pE rfl (pE rfl (pE rfl (pQ rfl (aZ (x9 rfl rfl) (congrArg (Value.int .i64) (f9_ oo_ dd_ dd_))) (pQ rfl (dA az_ rfl (fun w hw=>yA vb (dl B) _ w (SL.sl (M:=_) hvb.old hw))) (pQ rfl (aZ (pH rfl rfl) (show _=Value.int .i64 (tp:Int) from congrArg (Value.int .i64) (by rw [htp];exact mR_ (xL _ _) (PN _ _)))) (pE rfl (fl J (J4 _ _ (Sq fun K5 J5=>Rk fun K J=>sE rfl ?_))))))))))))))));refine nl J (J5 _ _ (Sq fun K6 J6=>Sq fun K7 J7=>Rk fun K J=>sE rfl (sQ (vV mT rfl hva.old) rfl (sE rfl (sE rfl (nl J (J7 _ _ (aJ ?_))))))));refine eA [9,10,11,12,32,33,34,35,36,37,38,39,40,41,42,43,44,45,46,47,48,49,50,51,52,53,54,55,56,57,58,59,60,61,62,63,64,65,66,67,68,69,70,71,72,73,74,75,76,77,78,79,80] (fun g nn M=>∃ (k R:Nat) (qs:List Nat) (vr:Value) (L:List Blk),(g 9=vr∧g 10 = .int .i64 ((k:Int) - 1))∧M=L ++ [⟨b15,3,iw qs⟩]∧nn=k+0∧(k≤(dl A).length∧DivIn A B (dl A).length k R qs∧SLf w0 L vr (dl R))) ((dl A).length) ?start ?round
 case start =>
  refine ⟨_,(List.Sublist.refl _),(dl A).length,0,_,_,[],⟨?a9,?a10⟩,?mem0,rfl,⟨Nat.le_refl _,DivIn.start (VA A),by rw [yJ];exact SLf.none⟩⟩
  case mem0=>rfl
  case a9=>rfl
  case a10=>exact congrArg (Value.int .i64) (f9_ oo_ dd_ dd_)
 case round =>
  rintro nn g M ⟨k,R,qs,vr,L,⟨hg9,hg10⟩,rfl,hmeas,⟨hk,hI,hr⟩⟩;subst nn;simp only [dQ,hg9,hg10];clear hg9 hg10;refine Sq fun K8 J8=>Sq fun K9 J9=>Rk fun K J=>sE rfl (sE rfl (nl J (J9 _ _ ?_)));refine fN _ rfl (fun hc=>?_) (fun hc=>?_)
  ·replace hc:=cB_ hc
   obtain ⟨m,rfl⟩:∃ m,k=m+1:=⟨k - 1,by omega⟩
   have hRB:R<B:=by rw [hI.rest];exact Nat.mod_lt _ hB
   have hRl:(dl R).length≤190:=Nat.le_trans (q1_ (Nat.le_of_lt hRB)) hnb;refine aG (J8 _ _ (Sq fun K10 J10=>aJ (Sq fun K11 J11=>Rk fun K J=>sE rfl (sQ (aZ (rS rfl) (congrArg (Value.int .i64) (show (((m+1:Nat):Int) - 1)=(m:Int) by omega))) rfl (sQ (KU mT rfl rfl hva.old oo_) rfl (sQ (aZ (FL dP rfl hva.old oo_) (congrArg IV (OC A m))) rfl (bA rfl (pW mG z_3 xK rfl dd_ rfl (NF _) (fun b40 hb40=>sE rfl ?_)))))))));have hC8:=fb_ (R:=R) (xL A m);refine bA rfl (NP mG cI_ rfl rfl (OwnL.of_mine (l:=[dg A m]) hb40 (show 1≤maxLen by decide)) (hr.sl.sub (.cons _ lZ)) (List.Sublist.refl _) (by simp only [List.length_singleton];omega) (fun v8 L8 hO8=>?_));refine sQ (dA PV rfl (fun w hw=>qO v8 ([dg A m] ++ dl R) hC8.1 (by simp only [List.length_append,List.length_singleton];omega) w (SL.sl (hO8.sl lZ) hw))) rfl ?_;refine sE rfl (nl J ?_);have hC8:=fb_ (R:=R) (xL A m);have hr8:=FX hC8.1 hC8.2 (hO8.slf (List.Sublist.refl _));generalize sls v8 (dl (dv ([dg A m] ++ dl R))).length=vr8 at hr8 ⊢
   have hR8:(R * 65536+dg A m)<65536 * B:=by have:=xL A m;omega
   obtain ⟨nm,hnm⟩:∃ nm,nm=(atD (dl (R * 65536+dg A m)) ((dl B).length:Int) * 4294967296+atD (dl (R * 65536+dg A m)) (((dl B).length:Int) - 1) * 65536+atD (dl (R * 65536+dg A m)) (((dl B).length:Int) - 2)):=⟨_,rfl⟩;obtain ⟨d0,hd0⟩:∃ d0,d0=min 65535 (nm / tp):=⟨_,rfl⟩
   have G8:0<tp∧(R * 65536+dg A m) / B≤d0∧d0≤65535:=by rw [hd0,hnm,htp];have hg:=jr_ hB hR8 rfl hn0;exact ⟨hg.1,hg.2,Nat.min_le_left _ _⟩
   have hl8:(dl (R * 65536+dg A m)).length≤192:=Nat.le_trans (mY (k:=(dl B).length+1) (by have:=VA B;rw [Nat.pow_succ];omega)) oo_;refine J11 _ _ (Sq fun K12 J12=>Rk fun K J=>sE rfl (sE rfl (sQ (dA az_ rfl (fun w hw=>yA _ (dl (R * 65536+dg A m)) _ w (SL.sl (M:=_) (hr8.sl.sub lZ) hw))) rfl (sE rfl (sE rfl (sE rfl (sQ (aZ (x9 rfl rfl) (congrArg (Value.int .i64) (f9_ oo_ dd_ dd_))) rfl (sQ (dA az_ rfl (fun w hw=>yA _ (dl (R * 65536+dg A m)) _ w (SL.sl (M:=_) (hr8.sl.sub lZ) hw))) rfl (sE rfl (sE rfl (sE rfl (sE rfl (sQ (aZ (x9 rfl rfl) (congrArg (Value.int .i64) (f9_ oo_ dd_ dd_))) rfl (sQ (dA az_ rfl (fun w hw=>yA _ (dl (R * 65536+dg A m)) _ w (SL.sl (M:=_) (hr8.sl.sub lZ) hw))) rfl (sQ (aZ (pH rfl rfl) (show _=Value.int .i64 (nm:Int) from congrArg (Value.int .i64) (by rw [hnm];exact mi_ (PN _ _) (PN _ _) (PN _ _)))) rfl (sE rfl (sQ (aZ (rA rfl rfl (fun hc=>Nat.lt_irrefl 0 (Nat.lt_of_lt_of_eq G8.1 (Int.natCast_eq_zero.1 hc)))) (congrArg (Value.int .i64) (cX_ (by rw [hnm];exact p1_ _ _ _ _)))) rfl ?_)))))))))))))))));refine sQ (aZ (qc_ (a:=65535) rfl rfl) (congrArg (fun n:Nat=>Value.int .i64 (n:Int)) hd0.symm)) rfl (sE rfl (nl J (J12 _ _ (Sq fun K13 J13=>Rk fun K J=>sE rfl (sE rfl (bA rfl (pW mG z_3 xK rfl dd_ rfl (NF _) (fun b64 hb64=>bA rfl (j9 dU_ rfl (fun w hw=>yX vb _ (dl B) [d0] (qQ B) (DL.one oo_) oo_ (by simp) w (SL.sl (M:=_) hvb.old hw) (SL.sl (SL.mine (l:=[d0]) (.head _) (Nat.le_refl _)) hw)) (fun vp0 Lp0 hp0=>?_))))))))));refine sE rfl (nl J (J13 _ _ (Sq fun K14 J14=>aJ ?_)));refine eA [11,12,66,67,68,69,70,71,72,73] (fun g nn M=>∃ (d:Nat) (vp:Value) (Lp:List Blk),(g 11 = .int .i64 (d:Int)∧g 12=vp)∧M=Lp ++ (L8 ++ (L ++ [⟨b15,3,iw qs⟩]))∧nn=d∧(((R * 65536+dg A m) / B≤d∧d≤65535)∧SLf w0 Lp vp (dl (B * d)))) (d0) ?start ?round
   case start =>
    refine ⟨_,(List.Sublist.append (List.Sublist.refl _) (List.Sublist.cons _ (List.Sublist.refl _))),d0,vp0,Lp0,⟨?a11,?a12⟩,?mem0,rfl,⟨⟨G8.2.1,G8.2.2⟩,by have:=hp0;rw [kY] at this;simpa [dv] using this⟩⟩
    case mem0=>rfl
    case a11=>rfl
    case a12=>rfl
   case round =>
    rintro nn g M ⟨d,vp,Lp,⟨hg11,hg12⟩,rfl,hmeas,⟨hd,hp⟩⟩;subst nn;simp only [dQ,hg11,hg12];clear hg11 hg12;have hpl:(dl (B * d)).length≤195:=Nat.le_trans (mY (k:=(dl B).length+1) (by have:=VA B;have h1:=Nat.mul_le_mul_left B hd.2;rw [Nat.pow_succ];omega)) oo_;refine Sq fun K15 J15=>Sq fun K16 J16=>Rk fun K J=>sE rfl (sE rfl (sQ (dA PU rfl (fun w hw=>qN _ vp (dl (R * 65536+dg A m)) (dl (B * d)) (qQ _) (qQ _) oo_ oo_ w (SL.sl (hr8.sl.sub (.trans lZ (List.sublist_append_right _ _))) hw) (SL.sl (hp.sl.sub lZ) hw))) rfl (nl J (J16 _ _ ?_))));refine fN _ rfl (fun h68=>?_) (fun h68=>?_)
    ·replace h68:=cB_ h68
     rw [kY,kY] at h68;have hless:=ik_ hB hd.1 h68;refine aG (J15 _ _ (aJ (Sq fun K17 J17=>Rk fun K J=>sE rfl (sQ (aZ (x9 rfl rfl) (congrArg (Value.int .i64) (DS (b:=1) rfl hless.1 oo_))) rfl (sE rfl (nl J (J17 _ _ (Rk fun K J=>sE rfl (sE rfl (bA rfl (j9 VK rfl (fun w hw=>tW vp vb (dl (B * d)) (dl B) (qQ _) (qQ _) oo_ oo_ (by rw [kY,kY];exact hless.2.2.1) w (SL.sl (hp.sl.sub lZ) hw) (SL.sl (M:=_) hvb.old hw)) (fun vp2 Lp2 hp2=>sE rfl (nl J ?_)))))))))))));refine ⟨pp_,_,_,(List.Sublist.append (List.Sublist.refl _) (List.sublist_append_right _ _)),(by have:=hless.1;omega),d - 1,vp2,Lp2,⟨?s11,?s12⟩,?mem,rfl,⟨⟨hless.2.1,by omega⟩,by rw [kY,kY,hless.2.2.2] at hp2;exact hp2⟩⟩
     case mem=>rfl
     case s11=>rfl
     case s12=>rfl
    replace h68:=cB_ h68
    rw [kY,kY] at h68;have hdone:=ij_ hB hd.1 h68;refine dW (aU (aU (bJ (J14 _ _ (Sq fun K18 J18=>Rk fun K J=>sE rfl (sQ (aZ (rS rfl) (congrArg (Value.int .i64) (show (((m+1:Nat):Int) - 1)=(m:Int) by omega))) rfl (sE rfl (sQ (yV mT rfl rfl oo_ oo_) rfl (bA rfl (Q1 dP rfl rfl (uL (uL (uL uH))) (by rw [hI.len];omega) (.inl (by assumption)) (nl J (J18 _ _ (Rk fun K J=>sE rfl (sE rfl (bA rfl (j9 VK rfl (fun w hw=>tW _ vp (dl (R * 65536+dg A m)) (dl (B * d)) (qQ _) (qQ _) oo_ oo_ (by rw [kY,kY];exact hdone.2.2) w (SL.sl (hr8.sl.sub (.trans lZ (List.sublist_append_right _ _))) hw) (SL.sl (hp.sl.sub lZ) hw)) (fun vr2 Lr2 hr2=>sE rfl (nl J (J10 _ _ (Rk fun K J=>sQ (aZ (rS rfl) (congrArg (Value.int .i64) (show (((m+1:Nat):Int) - 1)=(m:Int) by omega))) rfl ?_))))))))))))))))))));refine sE rfl (sE rfl (nl J ?_));refine ⟨pp_,_,_,(List.Sublist.append (List.Sublist.refl _) (.trans (List.sublist_append_right _ _) (.trans (List.sublist_append_right _ _) (List.sublist_append_right _ _)))),oo_,m,((R * 65536+dg A m) % B),qs.set m d,vr2,Lr2,⟨?s9,?s10⟩,?mem,rfl,⟨by omega,by rw [hdone.1];exact hI.step hB oo_,by rw [kY,kY,hdone.2.1] at hr2;exact hr2⟩⟩
    case mem=>rfl
    case s9=>rfl
    case s10=>exact congrArg (Value.int .i64) (eM (n:=(m:Int) - 1) (by unfold I64;omega))
  replace hc:=cB_ hc
  obtain rfl:k=0:=by omega
  refine dW (aU (aU (bJ (J6 _ _ (Sq fun K19 J19=>Rk fun K J=>sE rfl (sQ (dA PV rfl (fun w hw=>qO _ qs hI.ok (by rw [hI.len];omega) w (SL.sl (SL.mine' (mA (.head _)) hI.len (Nat.le_refl _)) hw))) rfl (sE rfl (sE rfl (sE rfl (nl J (J19 _ _ (aL (o6 rfl (.inr rfl) rfl rfl ?_)))))))))))));exact ⟨_,_,rfl,FX hI.ok hI.fin.1 (SLf.mine hb15 (mA (.head _)) hI.len (Nat.le_refl _)),by rw [hI.fin.2] at hr;exact hr.sub lZ⟩
theorem ML (a:I) :
    Ret Tryz.prog 234 [AV [pI a]] (AV [pI (wJ a)]):=by
 refine cM (N:=13) Tryz.func234 rfl rfl (by simp) (fun w0=>?_);simp only [cS,Nat.reduceAdd];refine Rs fun K J=>bA rfl (cH rfl rfl (fun b1 hb1=>sN gT rfl fun b2 hb2=>nl J (Sq fun K1 J1=>Rs fun K J=>sQ (qL aD rfl m1 rfl) rfl (sC (.bool a.1.good) vE (d9 a.1 a.2) rfl rfl rfl (sE rfl (nl J ?_))))));rcases bt a.1.good with h3 | h3
 ·refine W_f (iS h3) rfl (aG (J1 _ _ (ds sn [0,4,8,12,17,20,25] [6] mix (by kernel_rfl) (fun K J=>pQ rfl (qF jC rfl rfl) (pQ rfl (qC mF rfl m1 rfl) (pE rfl (pQ rfl (qL aD rfl m1 rfl) (d7 rfl rfl (j9 wN rfl (fun w hw=>eC a.1 a.2 w) (fun vl4 Ll4 kl4=>⟨(fun _=>sR s0),sn,?_⟩))))))))))
  try simp only [kY,uG] at kl4
  refine pQ rfl (aZ (v':=AV [pI (E (Z.of (sgn (!a.1.neg) (val a.1.w))))]) (dA BX rfl (fun w hw=>iE (!a.1.neg) vl4 (dl (val a.1.w)) (qQ _) (Nat.le_trans (mY (k:=32) (zZ a.2)) dd_) w (SL.sl (SL.sub kl4.sl lZ) hw))) (by rw [(kY _)];rfl)) (oS [pI (E (Z.of (sgn (!a.1.neg) (val a.1.w))))] aD rfl rfl rfl rfl rfl rfl (uL uH) rfl hb2 rfl sn (fl J (aL (cC rfl (.inr rfl) (eP rfl (mA mZ) aD rfl) ?_))));exact (by exact congrArg vS4 (show _=(wJ a) from bI h3 rfl))
 refine W_t (iT h3) rfl (Rs fun K J=>sC (AV [pI (E Z.bad)]) B8 gH rfl rfl rfl (sS [pI (E Z.bad)] aD rfl rfl rfl rfl rfl uH rfl hb2 (nl J (aL (aB (cC rfl (.inr rfl) (eP rfl m0 aD rfl) ?_))))));exact (by exact congrArg vS4 (show _=(wJ a) from aM h3 rfl))
theorem z5 (a:R) (ha:a.Ok):Ret Tryz.prog 234 [RV a] (RV (Z.neg a.dec).enc):=by
  have h:=ML ⟨a,ha⟩;rw [JV] at h;exact h

theorem MG (a:I) :
    Ret Tryz.prog 228 [AV [pI a]] (AV [pI (wH a)]):=by
 refine cM (N:=10) Tryz.func228 rfl rfl (by simp) (fun w0=>?_);simp only [cS,Nat.reduceAdd];refine Rs fun K J=>bA rfl (cH rfl rfl (fun b1 hb1=>sN gT rfl fun b2 hb2=>nl J (Sq fun K1 J1=>Rs fun K J=>sQ (qL aD rfl m1 rfl) rfl (sC (.bool a.1.good) vE (d9 a.1 a.2) rfl rfl rfl (sE rfl (nl J ?_))))));rcases bt a.1.good with h3 | h3
 ·refine W_f (iS h3) rfl (aG (J1 _ _ (Rs fun K J=>sQ (qL aD rfl m1 rfl) rfl (bA rfl (j9 wN rfl (fun w hw=>eC a.1 a.2 w) (fun vl4 Ll4 kl4=>?_))))))
  try simp only [kY,uG] at kl4
  refine sQ (aZ (v':=AV [pI (E (Z.of (sgn false (val a.1.w))))]) (dA BX rfl (fun w hw=>iE false vl4 (dl (val a.1.w)) (qQ _) (Nat.le_trans (mY (k:=32) (zZ a.2)) dd_) w (SL.sl (SL.sub kl4.sl lZ) hw))) (by rw [(kY _)];rfl)) rfl (sS [pI (E (Z.of (sgn false (val a.1.w))))] aD rfl rfl rfl rfl rfl (uL uH) rfl hb2 (nl J (aL (cC rfl (.inr rfl) (eP rfl (mA mZ) aD rfl) ?_))));exact (by exact congrArg vS4 (show _=(wH a) from bI h3 rfl))
 refine W_t (iT h3) rfl (Rs fun K J=>sC (AV [pI (E Z.bad)]) B8 gH rfl rfl rfl (sS [pI (E Z.bad)] aD rfl rfl rfl rfl rfl uH rfl hb2 (nl J (aL (aB (cC rfl (.inr rfl) (eP rfl m0 aD rfl) ?_))))));exact (by exact congrArg vS4 (show _=(wH a) from aM h3 rfl))
theorem MH (a:R) (ha:a.Ok):Ret Tryz.prog 228 [RV a] (RV (Z.abs a.dec).enc):=by
  have h:=MG ⟨a,ha⟩;rw [JR] at h;exact h

theorem KW (a:I) :
    Ret Tryz.prog 149 [AV [pI a]] (.int .i64 ((tQ a).1)):=by
 refine cM (N:=14) Tryz.func149 rfl rfl (by simp) (fun w0=>?_);simp only [cS,Nat.reduceAdd];refine Rs fun K J=>bA rfl (cH rfl rfl (fun b1 hb1=>sE rfl (nl J (Sq fun K1 J1=>?_))));refine dH [3,4,5,6,7,8,9,10,11] (fun g M=>(g 11 = .bool (!a.1.good||((((dl (val a.1.w)).length:Nat):Int)==0)))∧M=[⟨b1,31,aW [pI a]⟩]) (fun K2 J2=>?_) ?_
 ·refine Rk fun K J=>sQ (qL aD rfl m0 rfl) rfl (sC (.bool a.1.good) vE (d9 a.1 a.2) rfl rfl rfl (sE rfl ?_));rcases bt a.1.good with h4 | h4
  ·refine sB (iS h4) rfl (sQ (qL aD rfl m0 rfl) rfl (bA rfl (j9 wN rfl (fun w hw=>eC a.1 a.2 w) (fun vl5 Ll5 kl5=>?_))))
   try simp only [kY,uG] at kl5
   refine sQ (aZ (v':=.int .i64 (((dl (val a.1.w)).length:Nat):Int)) (vV mT rfl (SL.sub kl5.sl lZ)) rfl) rfl (sE rfl (sE rfl (nl J ?_)));refine J2 _ _ pp_ ⟨_,(sR (s0)),?s11,rfl⟩
   case s11=>exact congrArg Value.bool (j3 h4 rfl)
  refine sB (iT h4) rfl (aI rfl (aI rfl (aI rfl (aI rfl (sE rfl (nl J ?_))))));refine J2 _ _ pp_ ⟨_,s0,?s11,rfl⟩
  case s11=>exact congrArg Value.bool (oJ h4)
 rintro g6 M ⟨hg11,rfl⟩;simp only [dQ,hg11];clear hg11;rcases bt (!a.1.good||((((dl (val a.1.w)).length:Nat):Int)==0)) with h7 | h7
 ·refine W_t h7 rfl (Rs fun K J=>sE rfl (nl J (aL (aB (cC rfl (.inr rfl) rfl ?_)))));exact (by exact congrArg vS8 (show _=(tQ a) from bI h7 rfl))
 refine W_f h7 rfl (aG (J1 _ _ (Sq fun K3 J3=>Rs fun K J=>sQ (qF jC rfl rfl) rfl (sQ (qC mF rfl m0 rfl) rfl (nl J ?_)))));rcases bt a.1.neg with h8 | h8
 ·refine W_t h8 rfl (Rs fun K J=>sE rfl (nl J (aL (aB (cC rfl (.inr rfl) rfl ?_)))));exact (by exact congrArg vS8 (show _=(tQ a) from aM h7 (bI h8 rfl)))
 refine W_f h8 rfl (aG (J3 _ _ (Rs fun K J=>sE rfl (nl J (aL (cC rfl (.inr rfl) rfl ?_))))));exact (by exact congrArg vS8 (show _=(tQ a) from aM h7 (aM h8 rfl)))
theorem j0 (a:R) (ha:a.Ok):Ret Tryz.prog 149 [RV a] (.int .i64 a.dec.sign):=by
  have h:=KW ⟨a,ha⟩;rw [H9] at h;exact h

theorem MM (a:I) (b:I) :
    Ret Tryz.prog 113 [AV [pI a],AV [pI b]] (AV [pI (sK a b)]):=by
 refine cM (N:=76) Tryz.func113 rfl rfl (by simp) (fun w0=>?_);simp only [cS,Nat.reduceAdd];refine Rs fun K J=>bA rfl (cH rfl rfl (fun b1 hb1=>bA rfl (cH rfl rfl (fun b2 hb2=>sN gT rfl fun b3 hb3=>nl J (Rs fun K J=>sQ (qL aD rfl m2 rfl) rfl (sC (.tuple #[.int .i64 ((hZ a).1),.bool (lJ a.1)]) HN (mE a.1 a.2) rfl rfl rfl (sE rfl (sE rfl (sE rfl (sE rfl (sE rfl (nl J (Rs fun K J=>sQ (qL aD rfl m1 rfl) rfl (sC (.tuple #[.int .i64 ((hZ b).1),.bool (lJ b.1)]) HN (mE b.1 b.2) rfl rfl rfl (sE rfl (sE rfl (sE rfl ?_)))))))))))))))));refine sE rfl (sE rfl (nl J (Sq fun K1 J1=>?_)));refine dH [21,22,23,24,25,26,27,28] (fun g M=>(g 28 = .bool ((lJ a.1)&&((lJ b.1)&&((hZ b).1 != 0))))∧M=[⟨b3,31,aW [pI I0]⟩,⟨b2,31,aW [pI b]⟩,⟨b1,31,aW [pI a]⟩]) (fun K2 J2=>?_) ?_
 ·refine Rk fun K J=>sE rfl ?_;rcases bt (lJ a.1) with h6 | h6
  ·refine sB h6 rfl (sE rfl (sE rfl ?_));rcases bt (lJ b.1) with h7 | h7
   ·refine sB h7 rfl (sE rfl (sE rfl (sE rfl (nl J ?_))));refine J2 _ _ pp_ ⟨_,s0,?s28,rfl⟩
    case s28=>exact congrArg Value.bool (eB h6 (eB h7 rfl))
   refine sB h7 rfl (aI rfl (aI rfl (sE rfl (nl J ?_))));refine J2 _ _ pp_ ⟨_,s0,?s28,rfl⟩
   case s28=>exact congrArg Value.bool (eB h6 (kU h7))
  refine sB h6 rfl (aI rfl (sE rfl (sE rfl (aI rfl (aI rfl (sE rfl (nl J ?_)))))));refine J2 _ _ pp_ ⟨_,s0,?s28,rfl⟩
  case s28=>exact congrArg Value.bool (kU h6)
 rintro g8 M ⟨hg28,rfl⟩;simp only [dQ,hg28];clear hg28;rcases bt ((lJ a.1)&&((lJ b.1)&&((hZ b).1 != 0))) with h9 | h9
 ·refine W_t h9 rfl (Rs fun K J=>sE rfl (sE rfl ?_));have hfl:=aK_ h9;refine sC (.int .i64 ((W.fdiv (hZ a) (hZ b)).1)) iG_ (CC (hZ a).1 (hZ b).1 (hZ a).2 hfl.1 hfl.2.1) rfl rfl (congrArg (Value.int .i64) hfl.2.2) (sC (AV [pI (E (Z.of (W.fdiv (hZ a) (hZ b)).1))]) vP (dV (W.fdiv (hZ a) (hZ b)).1 (W.fdiv (hZ a) (hZ b)).2) rfl rfl rfl (sS [pI (E (Z.of (W.fdiv (hZ a) (hZ b)).1))] aD rfl rfl rfl rfl rfl uH rfl hb3 (nl J (aL (aB (cC rfl (.inr rfl) (eP rfl m0 aD rfl) ?_))))));exact (by exact congrArg vS4 (show _=(sK a b) from bI h9 rfl))
 refine W_f h9 rfl (aG (J1 _ _ (Sq fun K3 J3=>?_)));refine dH [33,34,35,36,37,38,39,40,41,42,43,44,45,46] (fun g M=>(g 46 = .bool (!a.1.good||(!b.1.good||((((dl (val b.1.w)).length:Nat):Int)==0))))∧M=[⟨b3,31,aW [pI I0]⟩,⟨b2,31,aW [pI b]⟩,⟨b1,31,aW [pI a]⟩]) (fun K4 J4=>?_) ?_
 ·refine Rk fun K J=>sQ (qL aD rfl m2 rfl) rfl (sC (.bool a.1.good) vE (d9 a.1 a.2) rfl rfl rfl (sE rfl ?_));rcases bt a.1.good with h13 | h13
  ·refine sB (iS h13) rfl (sQ (qL aD rfl m1 rfl) rfl (sC (.bool b.1.good) vE (d9 b.1 b.2) rfl rfl rfl (sE rfl (sE rfl ?_))));rcases bt b.1.good with h14 | h14
   ·refine sB (iS h14) rfl (sQ (qL aD rfl m1 rfl) rfl (bA rfl (j9 wN rfl (fun w hw=>eC b.1 b.2 w) (fun vl15 Ll15 kl15=>?_))))
    try simp only [kY,uG] at kl15
    refine sQ (aZ (v':=.int .i64 (((dl (val b.1.w)).length:Nat):Int)) (vV mT rfl (SL.sub kl15.sl lZ)) rfl) rfl (sE rfl (sE rfl (nl J ?_)));refine J4 _ _ pp_ ⟨_,(sR (s0)),?s46,rfl⟩
    case s46=>exact congrArg Value.bool (j3 h13 (j3 h14 rfl))
   refine sB (iT h14) rfl (aI rfl (aI rfl (aI rfl (aI rfl (sE rfl (nl J ?_))))));refine J4 _ _ pp_ ⟨_,s0,?s46,rfl⟩
   case s46=>exact congrArg Value.bool (j3 h13 (oJ h14))
  refine sB (iT h13) rfl (aI rfl (aI rfl (aI rfl (sE rfl (sE rfl (aI rfl (aI rfl (aI rfl (aI rfl (sE rfl (nl J ?_)))))))))));refine J4 _ _ pp_ ⟨_,s0,?s46,rfl⟩
  case s46=>exact congrArg Value.bool (oJ h13)
 rintro g16 M ⟨hg46,rfl⟩;simp only [dQ,hg46];clear hg46;rcases bt (!a.1.good||(!b.1.good||((((dl (val b.1.w)).length:Nat):Int)==0))) with h17 | h17
 ·refine W_t h17 rfl (Rs fun K J=>sC (AV [pI (E Z.bad)]) B8 gH rfl rfl rfl (sS [pI (E Z.bad)] aD rfl rfl rfl rfl rfl uH rfl hb3 (nl J (aL (aB (cC rfl (.inr rfl) (eP rfl m0 aD rfl) ?_))))));exact (by exact congrArg vS4 (show _=(sK a b) from aM h9 (bI h17 rfl)))
 refine W_f h17 rfl (aG (J3 _ _ (ds sn [0,8,5,13,17,20,24,28,32,36] [] mix (by kernel_rfl) (fun K J=>pQ rfl (qL aD rfl m2 rfl) (pQ rfl (qL aD rfl m1 rfl) (d7 rfl rfl (j9 wN rfl (fun w hw=>eC a.1 a.2 w) (fun vl18 Ll18 kl18=>⟨(fun _=>sR s0),sn,?_⟩))))))))
 try simp only [kY,uG] at kl18
 refine d7 rfl rfl (j9 wN rfl (fun w hw=>eC b.1 b.2 w) (fun vl19 Ll19 kl19=>⟨(fun _=>sR s0),sn,?_⟩))
 try simp only [kY,uG] at kl19
 have hB:=nx_ h17;refine d7 rfl rfl (ON av_ rfl (fun w hw=>vL vl18 vl19 (val a.1.w) (val b.1.w) hB (Nat.le_trans (mY (k:=32) (zZ a.2)) dd_) (Nat.le_trans (mY (k:=32) (zZ b.2)) dd_) w (SL.sl (SL.sub kl18.sl (sR lZ)) hw) (SL.sl (SL.sub kl19.sl lZ) hw)) (fun vl20_0 vl20_1 Ll20 kl20_0 kl20_1=>⟨(fun _=>sR s0),sn,?_⟩))
 try simp only [kY,uG] at kl20_0 kl20_1
 refine pE rfl (pE rfl (pE rfl (pE rfl (pE rfl (fl J (Sq fun K5 J5=>?_))))));refine dH [56,57,58,59,60,61,62,63,64,65] (fun g M=>(g 65 = .bool ((a.1.neg != b.1.neg)&&decide (0<(((dl ((val a.1.w) % (val b.1.w))).length:Nat):Int))))∧M=(Ll20 ++ (Ll19 ++ (Ll18 ++ (⟨b3,31,aW [pI I0]⟩ :: (⟨b2,31,aW [pI b]⟩ :: (⟨b1,31,aW [pI a]⟩ :: []))))))) (fun K6 J6=>?_) ?_
 ·refine Rk fun K J=>sQ (qF jC rfl rfl) rfl (sQ (qC mF rfl (mA (mA (mA (mC (mC mZ))))) rfl) rfl (sQ (qF jC rfl rfl) rfl (sQ (qC mF rfl (mA (mA (mA (mC mZ)))) rfl) rfl (sQ (aZ (v':=.bool (a.1.neg != b.1.neg)) (EH GS rfl rfl) rfl) rfl ?_))));rcases bt (a.1.neg != b.1.neg) with h22 | h22
  ·refine sB h22 rfl (sE rfl (sQ (aZ (v':=.int .i64 (((dl ((val a.1.w) % (val b.1.w))).length:Nat):Int)) (vV mT rfl (SL.sub kl20_1 lZ)) rfl) rfl (sE rfl (sE rfl (nl J ?_)))));refine J6 _ _ pp_ ⟨_,s0,?s65,rfl⟩
   case s65=>exact congrArg Value.bool (eB h22 rfl)
  refine sB h22 rfl (aI rfl (aI rfl (aI rfl (sE rfl (nl J ?_)))));refine J6 _ _ pp_ ⟨_,s0,?s65,rfl⟩
  case s65=>exact congrArg Value.bool (kU h22)
 rintro g23 M ⟨hg65,rfl⟩;simp only [dQ,hg65];clear hg65;rcases bt ((a.1.neg != b.1.neg)&&decide (0<(((dl ((val a.1.w) % (val b.1.w))).length:Nat):Int))) with h24 | h24
 ·refine W_t h24 rfl (Rk fun K J=>sE rfl (bA rfl (pW mG z_3 xK rfl dd_ rfl (NF 1) (fun b25 hb25=>bA rfl (j9 as_ rfl (fun w hw=>wO vl20_0 _ (dl ((val a.1.w) / (val b.1.w))) [1] (qQ _) (DL.one dd_) (Nat.le_trans (mY (k:=32) (ov_ (zZ a.2))) dd_) (by simp) w (SL.sl (SL.sub kl20_0 (sd lZ)) hw) (SL.sl (SL.sub (SL.mine (l:=[1]) List.mem_cons_self (Nat.le_refl _)) (sk sn)) hw)) (fun vl26 Ll26 kl26=>?_))))))
  try simp only [kY,uG] at kl26
  refine sE rfl (nl J (J5 _ _ (Rs fun K J=>sQ (qF jC rfl rfl) rfl (sQ (qC mF rfl (mA (mC (mA (mA (mA (mC (mC mZ))))))) rfl) rfl (sQ (qF jC rfl rfl) rfl (sQ (qC mF rfl (mA (mC (mA (mA (mA (mC mZ)))))) rfl) rfl (sQ (aZ (v':=.bool (a.1.neg != b.1.neg)) (EH GS rfl rfl) rfl) rfl (sE rfl (sQ (aZ (v':=AV [pI (E (Z.of (sgn (a.1.neg != b.1.neg) (((val a.1.w) / (val b.1.w))+1))))]) (dA BX rfl (fun w hw=>iE (a.1.neg != b.1.neg) vl26 (dl (((val a.1.w) / (val b.1.w))+1)) (qQ _) (Nat.le_trans (mY (k:=33) (qY_ (k:=32) (ov_ (zZ a.2)) (Nat.lt_of_lt_of_le (show 1<65536 ^ 1 by decide) (Nat.pow_le_pow_right (show 0<65536 by decide) (show 1≤32 by decide))))) dd_) w (SL.sl (SL.sub kl26.sl lZ) hw))) (by rw [(kY _)];rfl)) rfl (sS [pI (E (Z.of (sgn (a.1.neg != b.1.neg) (((val a.1.w) / (val b.1.w))+1))))] aD rfl rfl rfl rfl rfl (uL (uT (uL (uL (uL uH))))) rfl hb3 (nl J (aL (cC rfl (.inr rfl) (eP rfl (mA (mC (mA (mA (mA mZ))))) aD rfl) ?_)))))))))))));exact (by exact congrArg vS4 (show _=(sK a b) from aM h9 (aM h17 (bI h24 rfl))))
 refine W_f h24 rfl (aG (J5 _ _ (Rs fun K J=>sQ (qF jC rfl rfl) rfl (sQ (qC mF rfl (mA (mA (mA (mC (mC mZ))))) rfl) rfl (sQ (qF jC rfl rfl) rfl (sQ (qC mF rfl (mA (mA (mA (mC mZ)))) rfl) rfl (sQ (aZ (v':=.bool (a.1.neg != b.1.neg)) (EH GS rfl rfl) rfl) rfl (sE rfl (sQ (aZ (v':=AV [pI (E (Z.of (sgn (a.1.neg != b.1.neg) ((val a.1.w) / (val b.1.w)))))]) (dA BX rfl (fun w hw=>iE (a.1.neg != b.1.neg) vl20_0 (dl ((val a.1.w) / (val b.1.w))) (qQ _) (Nat.le_trans (mY (k:=32) (ov_ (zZ a.2))) dd_) w (SL.sl (SL.sub kl20_0 lZ) hw))) (by rw [(kY _)];rfl)) rfl (sS [pI (E (Z.of (sgn (a.1.neg != b.1.neg) ((val a.1.w) / (val b.1.w)))))] aD rfl rfl rfl rfl rfl (uL (uL (uL uH))) rfl hb3 (nl J (aL (cC rfl (.inr rfl) (eP rfl (mA (mA (mA mZ))) aD rfl) ?_)))))))))))));exact (by exact congrArg vS4 (show _=(sK a b) from aM h9 (aM h17 (aM h24 rfl))))
theorem iL (a b:R) (ha:a.Ok) (hb:b.Ok):Ret Tryz.prog 113 [RV a,RV b] (RV (Z.quo a.dec b.dec).enc):=by
  have h:=MM ⟨a,ha⟩ ⟨b,hb⟩;rw [JW] at h;exact h
end Go.Proofs.YtkjjponijamaoaaGreatDoor

