/- Lemmas: what they ask stands in their statements. -/
import Derived.Test.YtkjjponijamaoaaGreatDoorJFr3
set_option linter.unusedSimpArgs false
set_option linter.unusedVariables false
set_option maxHeartbeats 8000000
set_option maxRecDepth 20000
namespace Go.Num
open Go Go.Kn
theorem cQ_ {a b:I} (h:(!a.1.good||(!b.1.good))=true):a.1.dec.o=none∨b.1.dec.o=none:=by
 cases ha:a.1.good
 ·exact .inl (GN ha)
 ·cases hb:b.1.good
  ·exact .inr (GN hb)
  rw [ha,hb] at h;cases h
theorem WK {a b:I} (h:(!a.1.good||(!b.1.good))=false):a.1.good=true∧b.1.good=true:=by
 cases ha:a.1.good<;>cases hb:b.1.good<;>rw [ha,hb] at h<;>first|exact ⟨rfl,rfl⟩|cases h
theorem AC (a:I):oQ a=E (Z.neg a.dec):=by
 unfold oQ
 show _=E (Z.neg a.1.dec)
 cases h:a.1.good
 ·rw [cond_false,Z.neg,zQ (GN h)]
 rw [cond_true,bT_ a.2 h]
theorem z8 (a:I):oP a=E (Z.abs a.dec):=by
 unfold oP
 show _=E (Z.abs a.1.dec)
 cases h:a.1.good
 ·rw [cond_false,Z.abs,zQ (GN h)]
 rw [cond_true,bk_ a.2 h]
theorem z9 (a b:I):kS a b=E (Z.add a.dec b.dec):=by
 unfold kS
 show _=E (Z.add a.1.dec b.1.dec)
 cases hw:(jL a.1&&jL b.1)
 ·rw [cond_false]
  cases hg:(!a.1.good||(!b.1.good))
  ·obtain ⟨ga,gb⟩:=WK hg
   rw [cond_false]
   cases hn:(a.1.neg==b.1.neg)
   ·rw [cond_false]
    have hn':a.1.neg≠b.1.neg:=by simpa using hn
    cases hl:decide (val a.1.w<val b.1.w)
    ·rw [cond_false,bm_ a.2 b.2 ga gb hn' (of_decide_eq_false hl)]
    rw [cond_true,bn_ a.2 b.2 ga gb hn' (of_decide_eq_true hl)]
   rw [cond_true,YZ a.2 b.2 ga gb (by simpa using hn)]
  rw [cond_true,Z.add,oN (cQ_ hg)]
 rw [cond_true];rw [Bool.and_eq_true] at hw
 show E (Z.of (IntKind.i64.wrap (kZ a.1+kZ b.1)))=_
 rw [(eS_ (nL a.2 hw.1).2.2.2 (nL b.2 hw.2).2.2.2).1,TQ a.2 b.2 hw.1 hw.2]
theorem AF (a b:I):wR a b=E (Z.sub a.dec b.dec):=rfl
theorem AB (a b:I):nM a b=E (Z.mul a.dec b.dec):=by
 unfold nM
 show _=E (Z.mul a.1.dec b.1.dec)
 cases hw:(jL a.1&&(jL b.1&&((decide ((eF a).1<2147483648)&&decide (-2147483648<(eF a).1))&&(decide ((eF b).1<2147483648)&&decide (-2147483648<(eF b).1)))))
 ·rw [cond_false]
  cases hg:(!a.1.good||(!b.1.good))
  ·obtain ⟨ga,gb⟩:=WK hg
   rw [cond_false,bS_ a.2 b.2 ga gb]
  rw [cond_true,Z.mul,oN (cQ_ hg)]
 rw [cond_true];rw [Bool.and_eq_true,Bool.and_eq_true,Bool.and_eq_true] at hw;obtain ⟨h1,h2,h3,h4⟩:=hw
 show E (Z.of (IntKind.i64.wrap (kZ a.1*kZ b.1)))=_
 rw [(eT_ (x:=kZ a.1) (y:=kZ b.1) (SC h3) (SC h4)).1,UF a.2 b.2 h1 h2]
theorem bM_ (n:Nat):(((dl n).length:Int)==0)=(n==0):=by
 rw [Bool.eq_iff_iff,beq_iff_eq,beq_iff_eq]
 constructor
 ·intro h;exact MI.1 oo_
 intro h;rw [MI.2 h];rfl
theorem zB (a:I):mO a=Z.signW a.dec:=by
 unfold mO;rw [bM_]
 apply Subtype.ext
 show _=a.1.dec.sign
 cases hg:a.1.good
 ·simp only [Bool.not_false,Bool.true_or,cond_true];exact C2 a.2 (.inl hg)
 ·cases hz:(val a.1.w==0)
  ·simp only [Bool.not_true,Bool.false_or,cond_false]
   rw [ah_ a.2 hg (by simpa using hz)]
   cases a.1.neg<;>rfl
  simp only [Bool.or_true,cond_true];exact C2 a.2 (.inr hz)
theorem AA (a b:I):fP a b=Z.cmpW a.dec b.dec:=by
 unfold fP
 apply Subtype.ext
 show _=Z.cmp a.1.dec b.1.dec
 cases ga:a.1.good
 ·cases gb:b.1.good
  ·simp only [Bool.not_false,Bool.and_self,cond_true];exact QN ga gb
  simp only [Bool.not_true,Bool.and_false,cond_false];exact QO ga b.2 gb
 ·cases gb:b.1.good
  ·simp only [Bool.not_true,Bool.not_false,Bool.false_and,cond_false,cond_true];exact QP a.2 ga gb
  simp only [Bool.not_true,Bool.false_and,cond_false,cond_true]
  cases hn:(a.1.neg != b.1.neg)
  ·have hn':a.1.neg=b.1.neg:=by simpa using hn
   rw [cond_false]
   cases h1:a.1.neg
   ·rw [cond_false,← R7 a.2 b.2 ga gb hn' (val a.1.w) (val b.1.w) (by rw [h1];exact ⟨rfl,rfl⟩)]
    by_cases h2:val a.1.w<val b.1.w
    ·simp [h2]
    by_cases h3:val b.1.w<val a.1.w<;>simp [h2,h3]
   rw [cond_true,← R7 a.2 b.2 ga gb hn' (val b.1.w) (val a.1.w) (by rw [h1];exact ⟨rfl,rfl⟩)]
   by_cases h2:val b.1.w<val a.1.w
   ·simp [h2]
   by_cases h3:val a.1.w<val b.1.w<;>simp [h2,h3]
  rw [cond_true,← bv_ a.2 b.2 ga gb (by simpa using hn)]
  cases a.1.neg<;>rfl
theorem AD (a b:I):lQ a b=E (Z.quo a.dec b.dec):=by
 unfold lQ;rw [bM_]
 show _=E (Z.quo a.1.dec b.1.dec)
 cases hw:(jL a.1&&(jL b.1&&((eF b).1 != 0)))
 ·rw [cond_false]
  cases hg:(!a.1.good||(!b.1.good||(val b.1.w==0)))
  ·rw [cond_false]
   simp only [Bool.or_eq_false_iff,Bool.not_eq_false',beq_eq_false_iff_ne] at hg;obtain ⟨ga,gb,h0⟩:=hg
   cases hc:((a.1.neg != b.1.neg)&&decide ((0:Int)<((dl (val a.1.w % val b.1.w)).length:Int)))
   ·rw [cond_false,b8_ a.2 b.2 ga gb h0]
    rw [Bool.and_eq_false_iff] at hc;rcases hc with hc|hc
    ·exact .inl (by simpa using hc)
    right
    have:=of_decide_eq_false hc;exact MI.1 oo_
   rw [cond_true,Z6 a.2 b.2 ga gb h0]
   ·rw [Bool.and_eq_true] at hc;simpa using hc.1
   rw [Bool.and_eq_true] at hc;have:=of_decide_eq_true hc.2;intro h;rw [h,rY] at this;exact absurd this dd_
  rw [cond_true]
  cases ga:a.1.good
  ·rw [aS_ (.inl ga)]
  ·cases gb:b.1.good
   ·rw [aS_ (.inr gb)]
   rw [ga,gb] at hg;rw [dx_ a.2 b.2 ga gb (by simpa using hg)]
 rw [cond_true];have hf:=MT hw;rw [Bool.and_eq_true,Bool.and_eq_true] at hw;rw [← hf.2.2];exact congrArg E (UN a.2 b.2 hw.1 hw.2.1 hf.2.1)
end Go.Num
namespace Go.Proofs.YtkjjponijamaoaaGreatDoor
open Go.Kn Go.Num Tryz
attribute [local irreducible] Go.Kn.W WL PL OpQ OpR OpS
theorem n7 (va vb:Value) (A B:Nat) (hB:0<B) (hna:(dl A).length≤190) (hnb:(dl B).length≤190) (w:World) (hva:Sl w va (dl A)) (hvb:Sl w vb (dl B)) :
    Calls prog 198 [va,vb].toArray w (fun e w'=>∃ v1 v2,e = .returned (.tuple #[v1,v2])∧Ext w w'∧Slf w.heap.size w' v1 (dl (A / B))∧Slf w.heap.size w' v2 (dl (A % B))):=by
 refine JM (N:=84) func198 O O zz_ ?_;obtain ⟨w0,rfl⟩:=nm w;refine giI ?_;have hn0:1≤(dl B).length:=Nat.pos_of_ne_zero (fun hc=>by rw [MI] at hc;omega);obtain ⟨tp,htp⟩:∃ tp,tp=(dg B ((dl B).length - 1)*65536+atD (dl B) (((dl B).length:Int) - 2)):=⟨_,rfl⟩;refine go6 ?_;refine sQ (oV iV O hva.old) O (aZ O (XW iG Q9 z_3 O O oo_ (fun b15 hb15=>go4 ?_)));refine sQ (oV iV O hvb.old) O (go3 ?_);refine kU sn 12 [] [] (go2 ?_);refine pQ O (aY (qV O O) (congrArg (Value.int .i64) (vF (b:=1) O oo_ oo_))) (pQ O (AO iV O O hvb.old oo_) (pQ O (aY (wY tyT O hvb.old oo_) (congrArg IV (D9 B _))) (go3 ?_)));refine pQ O (aY (qV O O) (congrArg (Value.int .i64) (S9 oo_ dd_ dd_))) (pQ O (dF aB O (fun w hw=>qG vb (dl B) _ w (SL.sl (M:=_) hvb.old hw))) (pQ O (aY (j9 O O) (show _=Value.int .i64 (tp:Int) from congrArg (Value.int .i64) (by rw [htp];exact ao_ (pN _ _) (DO _ _)))) (go8 ?_)));refine sQ (oV iV O hva.old) O (go4 ?_);refine bX (rg [9,10,11,12] 32 49) (fun g nn M=>∃ (k R:Nat) (qs:List Nat) (vr:Value) (L:List Blk),(g 9=vr∧g 10 = .int .i64 ((k:Int) - 1))∧M=L++[⟨b15,3,iw qs⟩]∧nn=k+0∧(k≤(dl A).length∧DivIn A B (dl A).length k R qs∧SLf w0 L vr (dl R))) ((dl A).length) ?start ?round
 case start =>
  refine ⟨_,(List.Sublist.refl _),(dl A).length,0,_,_,[],⟨?a9,?a10⟩,?mem0,rfl,⟨Nat.le_refl _,DivIn.start (OJ A),by rw [rY];exact SLf.none⟩⟩
  case mem0=>rfl
  case a9=>rfl
  case a10=>exact congrArg (Value.int .i64) (S9 oo_ dd_ dd_)
 case round =>
  rintro nn g M ⟨k,R,qs,vr,L,⟨hg9,hg10⟩,rfl,hmeas,⟨hk,hI,hr⟩⟩;subst nn;refine gS2 hg9 hg10 ?_;clear hg9 hg10;refine go5 ?_;refine aH _ O (fun hc=>?_) (fun hc=>?_)
  ·replace hc:=cB_ hc
   obtain ⟨m,rfl⟩:∃ m,k=m+1:=⟨k - 1,by omega⟩
   have hRB:R<B:=by rw [hI.rest];exact Nat.mod_lt _ hB
   have hRl:(dl R).length≤190:=Nat.le_trans (cZ_ (Nat.le_of_lt hRB)) hnb;refine go5 ?_;refine sQ (aY (lI O) (congrArg (Value.int .i64) (show (((m+1:Nat):Int) - 1)=(m:Int) by omega))) O (sQ (AO iV O O hva.old oo_) O (sQ (aY (wY tyT O hva.old oo_) (congrArg IV (D9 A m))) O (aZ O (kA iG z_3 pM O dd_ O (B3 _) (fun b40 hb40=>go_ ?_)))));have hC8:=R8 (R:=R) (pN A m);refine aZ O (CB iG Q9 O O (OwnL.of_mine (l:=[dg A m]) hb40 (show 1≤maxLen by decide)) (hr.sl.sub (.cons _ lZ)) (List.Sublist.refl _) (by simp only [List.length_singleton];omega) (fun v8 L8 hO8=>?_));refine sQ (dF aB O (fun w hw=>kK v8 ([dg A m]++dl R) hC8.1 (by simp only [List.length_append,List.length_singleton];omega) w (SL.sl (hO8.sl lZ) hw))) O ?_;refine go2 ?_;have hC8:=R8 (R:=R) (pN A m);have hr8:=xC hC8.1 hC8.2 (hO8.slf (List.Sublist.refl _));generalize sls v8 (dl (dv ([dg A m]++dl R))).length=vr8 at hr8 ⊢
   have hR8:(R*65536+dg A m)<65536*B:=by have:=pN A m;omega
   obtain ⟨nm,hnm⟩:∃ nm,nm=(atD (dl (R*65536+dg A m)) ((dl B).length:Int)*4294967296+atD (dl (R*65536+dg A m)) (((dl B).length:Int) - 1)*65536+atD (dl (R*65536+dg A m)) (((dl B).length:Int) - 2)):=⟨_,rfl⟩;obtain ⟨d0,hd0⟩:∃ d0,d0=min 65535 (nm / tp):=⟨_,rfl⟩
   have G8:0<tp∧(R*65536+dg A m) / B≤d0∧d0≤65535:=by rw [hd0,hnm,htp];have hg:=WN hB hR8 O hn0;exact ⟨hg.1,hg.2,Nat.min_le_left _ _⟩
   have hl8:(dl (R*65536+dg A m)).length≤192:=Nat.le_trans (jT (k:=(dl B).length+1) (by have:=OJ B;rw [Nat.pow_succ];omega)) oo_;refine go3 ?_;refine sQ (dF aB O (fun w hw=>qG _ (dl (R*65536+dg A m)) _ w (SL.sl (M:=_) (hr8.sl.sub lZ) hw))) O (go3 ?_);refine sQ (aY (qV O O) (congrArg (Value.int .i64) (S9 oo_ dd_ dd_))) O (sQ (dF aB O (fun w hw=>qG _ (dl (R*65536+dg A m)) _ w (SL.sl (M:=_) (hr8.sl.sub lZ) hw))) O (go4 ?_));refine sQ (aY (qV O O) (congrArg (Value.int .i64) (S9 oo_ dd_ dd_))) O (sQ (dF aB O (fun w hw=>qG _ (dl (R*65536+dg A m)) _ w (SL.sl (M:=_) (hr8.sl.sub lZ) hw))) O (sQ (aY (j9 O O) (show _=Value.int .i64 (nm:Int) from congrArg (Value.int .i64) (by rw [hnm];exact ZY (DO _ _) (DO _ _) (DO _ _)))) O (go_ ?_)));refine sQ (aY (lC O O (fun hc=>Nat.lt_irrefl 0 (Nat.lt_of_lt_of_eq G8.1 (Int.natCast_eq_zero.1 hc)))) (congrArg (Value.int .i64) (PK (by rw [hnm];exact bX_ _ _ _ _)))) O (sQ (aY (b4_ (a:=65535) O O) (congrArg (fun n:Nat=>Value.int .i64 (n:Int)) hd0.symm)) O (go5 ?_));refine aZ O (kA iG z_3 pM O dd_ O (B3 _) (fun b64 hb64=>aZ O (gK aB O (fun w hw=>tY vb _ (dl B) [d0] (lN B) (DL.one oo_) oo_ zz_ w (SL.sl (M:=_) hvb.old hw) (SL.sl (SL.mine (l:=[d0]) (.head _) (Nat.le_refl _)) hw)) (fun vp0 Lp0 hp0=>?_))));refine go4 ?_;refine bX (rg [11,12] 66 8) (fun g nn M=>∃ (d:Nat) (vp:Value) (Lp:List Blk),(g 11 = .int .i64 (d:Int)∧g 12=vp)∧M=Lp++(L8++(L++[⟨b15,3,iw qs⟩]))∧nn=d∧(((R*65536+dg A m) / B≤d∧d≤65535)∧SLf w0 Lp vp (dl (B*d)))) d0 ?start ?round
   case start =>
    refine ⟨_,(List.Sublist.append (List.Sublist.refl _) (List.Sublist.cons _ (List.Sublist.refl _))),d0,vp0,Lp0,⟨?a11,?a12⟩,?mem0,rfl,⟨⟨G8.2.1,G8.2.2⟩,by have:=hp0;rw [iI] at this;simpa [dv] using this⟩⟩
    case mem0=>rfl
    case a11=>rfl
    case a12=>rfl
   case round =>
    rintro nn g M ⟨d,vp,Lp,⟨hg11,hg12⟩,rfl,hmeas,⟨hd,hp⟩⟩;subst nn;refine gS2 hg11 hg12 ?_;clear hg11 hg12;have hpl:(dl (B*d)).length≤195:=Nat.le_trans (jT (k:=(dl B).length+1) (by have:=OJ B;have h1:=Nat.mul_le_mul_left B hd.2;rw [Nat.pow_succ];omega)) oo_;refine go4 ?_;refine sQ (dF aB O (fun w hw=>lL _ vp (dl (R*65536+dg A m)) (dl (B*d)) (lN _) (lN _) oo_ oo_ w (SL.sl (hr8.sl.sub (.trans lZ (List.sublist_append_right _ _))) hw) (SL.sl (hp.sl.sub lZ) hw))) O (go_ ?_);refine aH _ O (fun h68=>?_) (fun h68=>?_)
    ·replace h68:=cB_ h68
     rw [iI,iI] at h68;have hless:=V5 hB hd.1 h68;refine go4 ?_;refine sQ (aY (qV O O) (congrArg (Value.int .i64) (vF (b:=1) O hless.1 oo_))) O (go5 ?_);refine aZ O (gK aB O (fun w hw=>mQ vp vb (dl (B*d)) (dl B) (lN _) (lN _) oo_ oo_ (by rw [iI,iI];exact hless.2.2.1) w (SL.sl (hp.sl.sub lZ) hw) (SL.sl (M:=_) hvb.old hw)) (fun vp2 Lp2 hp2=>go2 ?_));refine ⟨pp_,_,_,(List.Sublist.append (List.Sublist.refl _) (List.sublist_append_right _ _)),(by have:=hless.1;omega),d - 1,vp2,Lp2,⟨?s11,?s12⟩,?mem,rfl,⟨⟨hless.2.1,by omega⟩,by rw [iI,iI,hless.2.2.2] at hp2;exact hp2⟩⟩
     case mem=>rfl
     case s11=>rfl
     case s12=>rfl
    replace h68:=cB_ h68
    rw [iI,iI] at h68;have hdone:=V4 hB hd.1 h68;refine go3 ?_;refine sQ (aY (lI O) (congrArg (Value.int .i64) (show (((m+1:Nat):Int) - 1)=(m:Int) by omega))) O (go_ ?_);refine sQ (rK iV O O oo_ oo_) O (aZ O (IT tyT O O (uL (uL (uL uH))) (by rw [hI.len];omega) (.inl fR) (go4 ?_)));refine aZ O (gK aB O (fun w hw=>mQ _ vp (dl (R*65536+dg A m)) (dl (B*d)) (lN _) (lN _) oo_ oo_ (by rw [iI,iI];exact hdone.2.2) w (SL.sl (hr8.sl.sub (.trans lZ (List.sublist_append_right _ _))) hw) (SL.sl (hp.sl.sub lZ) hw)) (fun vr2 Lr2 hr2=>go3 ?_));refine sQ (aY (lI O) (congrArg (Value.int .i64) (show (((m+1:Nat):Int) - 1)=(m:Int) by omega))) O (go3 ?_);refine ⟨pp_,_,_,(List.Sublist.append (List.Sublist.refl _) (.trans (List.sublist_append_right _ _) (.trans (List.sublist_append_right _ _) (List.sublist_append_right _ _)))),oo_,m,((R*65536+dg A m) % B),qs.set m d,vr2,Lr2,⟨?s9,?s10⟩,?mem,rfl,⟨by omega,by rw [hdone.1];exact hI.step hB oo_,by rw [iI,iI,hdone.2.1] at hr2;exact hr2⟩⟩
    case mem=>rfl
    case s9=>rfl
    case s10=>exact congrArg (Value.int .i64) (bV (n:=(m:Int) - 1) (by unfold I64;omega))
  replace hc:=cB_ hc
  obtain rfl:k=0:=by omega
  refine go3 ?_;refine sQ (dF aB O (fun w hw=>kK _ qs hI.ok (by rw [hI.len];omega) w (SL.sl (SL.mine' (mA (.head _)) hI.len (Nat.le_refl _)) hw))) O (go5 ?_);refine rt2 ?_;exact ⟨_,_,rfl,xC hI.ok hI.fin.1 (SLf.mine hb15 (mA (.head _)) hI.len (Nat.le_refl _)),by rw [hI.fin.2] at hr;exact hr.sub lZ⟩
theorem BN (a:I) :
   Ret prog 234 [AV [pI a]] (AV [pI (oQ a)]):=by
 refine bG (N:=13) func234 O O zz_ (fun w0=>?_);refine giI ?_;refine go2 ?_;intro b1 hb1;refine go_ ?_;intro b2 hb2;refine go4 ?_;refine sC (.bool a.1.good) aB (bW a.1 a.2) O O O (go2 ?_);rcases bt a.1.good with h3|h3
 ·refine W_f (fZ h3) O (go_ ?_);refine qM sn 7 [4,6] [6] (go4 ?_);refine bP O O (gK aB O (fun w hw=>bS a.1 a.2 w) (fun vl4 Ll4 kl4=>⟨(fun _=>sR s0),sn,?_⟩))
  try simp only [iI,nC] at kl4
  refine pQ O (aY (v':=AV [pI (E (Z.of (sgn (!a.1.neg) (val a.1.w))))]) (dF aB O (fun w hw=>dU (!a.1.neg) vl4 (dl (val a.1.w)) (lN _) (Nat.le_trans (jT (k:=32) (rU a.2)) dd_) w (SL.sl (SL.sub kl4.sl lZ) hw))) (by rw [(iI _)];rfl)) (go3 ?_);refine rtX O (dP O (mA mZ) tyT O) ?_;exact congrArg vS4 (show _=(oQ a) from aX h3 O)
 refine W_t (iX h3) O (go_ ?_);refine sC (AV [pI (E Z.bad)]) aB eO O O O (go3 ?_);refine rtX O (dP O m0 tyT O) ?_;exact congrArg vS4 (show _=(oQ a) from aJ h3 O)
theorem rW (a:R) (ha:a.Ok):Ret prog 234 [RV a] (RV (Z.neg a.dec).enc):=by
 have h:=BN ⟨a,ha⟩;rw [AC] at h;exact h
theorem BI (a:I) :
   Ret prog 228 [AV [pI a]] (AV [pI (oP a)]):=by
 refine bG (N:=10) func228 O O zz_ (fun w0=>?_);refine giI ?_;refine go2 ?_;intro b1 hb1;refine go_ ?_;intro b2 hb2;refine go4 ?_;refine sC (.bool a.1.good) aB (bW a.1 a.2) O O O (go2 ?_);rcases bt a.1.good with h3|h3
 ·refine W_f (fZ h3) O (go3 ?_);refine aZ O (gK aB O (fun w hw=>bS a.1 a.2 w) (fun vl4 Ll4 kl4=>?_))
  try simp only [iI,nC] at kl4
  refine sQ (aY (v':=AV [pI (E (Z.of (sgn false (val a.1.w))))]) (dF aB O (fun w hw=>dU false vl4 (dl (val a.1.w)) (lN _) (Nat.le_trans (jT (k:=32) (rU a.2)) dd_) w (SL.sl (SL.sub kl4.sl lZ) hw))) (by rw [(iI _)];rfl)) O (go3 ?_);refine rtX O (dP O (mA mZ) tyT O) ?_;exact congrArg vS4 (show _=(oP a) from aX h3 O)
 refine W_t (iX h3) O (go_ ?_);refine sC (AV [pI (E Z.bad)]) aB eO O O O (go3 ?_);refine rtX O (dP O m0 tyT O) ?_;exact congrArg vS4 (show _=(oP a) from aJ h3 O)
theorem BJ (a:R) (ha:a.Ok):Ret prog 228 [RV a] (RV (Z.abs a.dec).enc):=by
 have h:=BI ⟨a,ha⟩;rw [z8] at h;exact h
theorem BK (a:I) (b:I) :
    Ret prog 94 [AV [pI a],AV [pI b]] (AV [pI (kS a b)]):=by
 refine bG (N:=70) func94 O O zz_ (fun w0=>?_);refine giI ?_;refine go2 ?_;intro b1 hb1;refine go_ ?_;intro b2 hb2;refine go_ ?_;intro b3 hb3;refine go3 ?_;refine sC (.tuple #[.int .i64 ((eF a).1),.bool (jL a.1)]) aB (gY a.1 a.2) O O O (go8 ?_);refine sC (.tuple #[.int .i64 ((eF b).1),.bool (jL b.1)]) aB (gY b.1 b.2) O O O (go7 ?_);refine gJv [22,23,24,25] [(25,.bool ((jL a.1)&&(jL b.1)))] (fun K2 J2=>?_) ?_
 ·refine go2 ?_;refine sBB O (fun h5=>?_) (fun h5=>?_)
  ·refine go3 ?_;refine J2 _ _ pp_ s0 (bH (mW h5 O))
  refine go3 ?_;refine J2 _ _ pp_ s0 (bH (pU h5))
 intro g6;refine aH _ O (fun h7=>?_) (fun h7=>?_)
 ·refine go3 ?_;refine sV (.int .i64 ((W.add (eF a) (eF b)).1)) O O (sC (AV [pI (E (Z.of (W.add (eF a) (eF b)).1))]) aB (bU (W.add (eF a) (eF b)).1 (W.add (eF a) (eF b)).2) O O O (go3 ?_));refine rtX O (dP O m0 tyT O) ?_;exact congrArg vS4 (show _=(kS a b) from aX h7 O)
 refine go2 ?_;refine gJv (rg [] 30 8) [(37,.bool (!a.1.good||(!b.1.good)))] (fun K4 J4=>?_) ?_
 ·refine go2 ?_;refine sC (.bool a.1.good) aB (bW a.1 a.2) O O O (go_ ?_);rcases bt a.1.good with h9|h9
  ·refine sB (fZ h9) O (go_ ?_);refine sC (.bool b.1.good) aB (bW b.1 b.2) O O O (go3 ?_);refine J4 _ _ pp_ s0 (bH (lE h9 O))
  refine sB (iX h9) O (go5 ?_);refine J4 _ _ pp_ s0 (bH (oG h9))
 intro g10;refine aH _ O (fun h11=>?_) (fun h11=>?_)
 ·refine go_ ?_;refine sC (AV [pI (E Z.bad)]) aB eO O O O (go3 ?_);refine rtX O (dP O m0 tyT O) ?_;exact congrArg vS4 (show _=(kS a b) from aJ h7 (aX h11 O))
 refine go3 ?_;refine aZ O (gK aB O (fun w hw=>bS a.1 a.2 w) (fun vl12 Ll12 kl12=>?_))
 try simp only [iI,nC] at kl12
 refine go4 ?_;refine aZ O (gK aB O (fun w hw=>bS b.1 b.2 w) (fun vl13 Ll13 kl13=>?_))
 try simp only [iI,nC] at kl13
 refine go8 ?_;refine sQ (aY (v':=.bool (a.1.neg==b.1.neg)) (RF C6 O O) O) O (go_ ?_);refine aH _ O (fun h14=>?_) (fun h14=>?_)
 ·refine qM sn 7 [4,6] [6] (go4 ?_);refine bP O O (gK aB O (fun w hw=>rL vl12 vl13 (dl (val a.1.w)) (dl (val b.1.w)) (lN _) (lN _) (Nat.le_trans (jT (k:=32) (rU a.2)) dd_) (Nat.le_trans (jT (k:=32) (rU b.2)) dd_) w (SL.sl (SL.sub kl12.sl (sR lZ)) hw) (SL.sl (SL.sub kl13.sl lZ) hw)) (fun vl15 Ll15 kl15=>⟨(fun _=>sR s0),sn,?_⟩))
  try simp only [iI,nC] at kl15
  refine pQ O (aY (v':=AV [pI (E (Z.of (sgn a.1.neg ((val a.1.w)+(val b.1.w)))))]) (dF aB O (fun w hw=>dU a.1.neg vl15 (dl ((val a.1.w)+(val b.1.w))) (lN _) (Nat.le_trans (jT (k:=33) (cX_ (k:=32) (rU a.2) (rU b.2))) dd_) w (SL.sl (SL.sub kl15.sl lZ) hw))) (by rw [(iI _)];rfl)) (go3 ?_);refine rtX O (dP O (mA (mA (mA mZ))) tyT O) ?_;exact congrArg vS4 (show _=(kS a b) from aJ h7 (aJ h11 (aX h14 O)))
 refine go4 ?_;refine sQ (aY (v':=.bool (decide ((val a.1.w)<(val b.1.w)))) (dF aB O (fun w hw=>lL vl12 vl13 (dl (val a.1.w)) (dl (val b.1.w)) (lN _) (lN _) (Nat.le_trans (jT (k:=32) (rU a.2)) dd_) (Nat.le_trans (jT (k:=32) (rU b.2)) dd_) w (SL.sl (SL.sub kl12.sl (sR lZ)) hw) (SL.sl (SL.sub kl13.sl lZ) hw))) (by rw [(iI _),(iI _)])) O (go6 ?_);refine aH _ O (fun h16=>?_) (fun h16=>?_)
 ·refine qM sn 7 [4,6] [6] (go4 ?_);refine bP O O (gK aB O (fun w hw=>mQ vl13 vl12 (dl (val b.1.w)) (dl (val a.1.w)) (lN _) (lN _) (Nat.le_trans (jT (k:=32) (rU b.2)) dd_) (Nat.le_trans (jT (k:=32) (rU a.2)) dd_) (by simp only [iI,nC];exact (Nat.le_of_lt (of_decide_eq_true h16))) w (SL.sl (SL.sub kl13.sl lZ) hw) (SL.sl (SL.sub kl12.sl (sR lZ)) hw)) (fun vl17 Ll17 kl17=>⟨(fun _=>sR s0),sn,?_⟩))
  try simp only [iI,nC] at kl17
  refine pQ O (aY (v':=AV [pI (E (Z.of (sgn b.1.neg ((val b.1.w) - (val a.1.w)))))]) (dF aB O (fun w hw=>dU b.1.neg vl17 (dl ((val b.1.w) - (val a.1.w))) (lN _) (Nat.le_trans (jT (k:=32) (bz_ (rU b.2))) dd_) w (SL.sl (SL.sub kl17.sl lZ) hw))) (by rw [(iI _)];rfl)) (go3 ?_);refine rtX O (dP O (mA (mA (mA mZ))) tyT O) ?_;exact congrArg vS4 (show _=(kS a b) from aJ h7 (aJ h11 (aJ h14 (aX h16 O))))
 refine go_ ?_;refine qM sn 7 [4,6] [6] (go4 ?_);refine bP O O (gK aB O (fun w hw=>mQ vl12 vl13 (dl (val a.1.w)) (dl (val b.1.w)) (lN _) (lN _) (Nat.le_trans (jT (k:=32) (rU a.2)) dd_) (Nat.le_trans (jT (k:=32) (rU b.2)) dd_) (by simp only [iI,nC];exact (Nat.le_of_not_lt (of_decide_eq_false h16))) w (SL.sl (SL.sub kl12.sl (sR lZ)) hw) (SL.sl (SL.sub kl13.sl lZ) hw)) (fun vl18 Ll18 kl18=>⟨(fun _=>sR s0),sn,?_⟩))
 try simp only [iI,nC] at kl18
 refine pQ O (aY (v':=AV [pI (E (Z.of (sgn a.1.neg ((val a.1.w) - (val b.1.w)))))]) (dF aB O (fun w hw=>dU a.1.neg vl18 (dl ((val a.1.w) - (val b.1.w))) (lN _) (Nat.le_trans (jT (k:=32) (bz_ (rU a.2))) dd_) w (SL.sl (SL.sub kl18.sl lZ) hw))) (by rw [(iI _)];rfl)) (go3 ?_);refine rtX O (dP O (mA (mA (mA mZ))) tyT O) ?_;exact congrArg vS4 (show _=(kS a b) from aJ h7 (aJ h11 (aJ h14 (aJ h16 O))))
theorem lW (a b:R) (ha:a.Ok) (hb:b.Ok):Ret prog 94 [RV a,RV b] (RV (Z.add a.dec b.dec).enc):=by
 have h:=BK ⟨a,ha⟩ ⟨b,hb⟩;rw [z9] at h;exact h
theorem BQ (a:I) (b:I) :
  Ret prog 199 [AV [pI a],AV [pI b]] (AV [pI (wR a b)]):=by
 refine bG (N:=9) func199 O O zz_ (fun w0=>?_);refine giI ?_;refine go2 ?_;intro b1 hb1;refine go_ ?_;intro b2 hb2;refine go_ ?_;intro b3 hb3;refine go_ ?_;refine qM (sd (sk (sk s0))) 5 [4] [4] (go2 ?_);refine pC (AV [pI (E (Z.neg b.dec))]) aB (rW b.1 b.2) O O O (pC (AV [pI (E (Z.add a.dec (Z.neg b.dec)))]) aB (lW a.1 (E (Z.neg b.dec)).1 a.2 (E (Z.neg b.dec)).2) O O (cg2 (fun p q=>AV [pI (E (Z.add p q))]) O (eQ _)) (go3 ?_));refine rtX O (dP O m0 tyT O) ?_;exact (by rfl)
theorem BR (a b:R) (ha:a.Ok) (hb:b.Ok):Ret prog 199 [RV a,RV b] (RV (Z.sub a.dec b.dec).enc):=by
 have h:=BQ ⟨a,ha⟩ ⟨b,hb⟩;rw [AF] at h;exact h
theorem BM (a:I) (b:I) :
    Ret prog 93 [AV [pI a],AV [pI b]] (AV [pI (nM a b)]):=by
 refine bG (N:=55) func93 O O zz_ (fun w0=>?_);refine giI ?_;refine go2 ?_;intro b1 hb1;refine go_ ?_;intro b2 hb2;refine go_ ?_;intro b3 hb3;refine go3 ?_;refine sC (.tuple #[.int .i64 ((eF a).1),.bool (jL a.1)]) aB (gY a.1 a.2) O O O (go8 ?_);refine sC (.tuple #[.int .i64 ((eF b).1),.bool (jL b.1)]) aB (gY b.1 b.2) O O O (go7 ?_);refine gJv (rg [] 19 12) [(30,.bool ((jL a.1)&&((jL b.1)&&((decide ((eF a).1<2147483648)&&decide (-2147483648<(eF a).1))&&(decide ((eF b).1<2147483648)&&decide (-2147483648<(eF b).1))))))] (fun K2 J2=>?_) ?_
 ·refine go2 ?_;refine sBB O (fun h7=>?_) (fun h7=>?_)
  ·refine go2 ?_;refine sBB O (fun h8=>?_) (fun h8=>?_)
   ·refine go_ ?_;refine sC (.bool (decide ((eF a).1<2147483648)&&decide (-2147483648<(eF a).1))) aB (u7 (eF a).1) O O O (go_ ?_);refine sBB O (fun h9=>?_) (fun h9=>?_)
    ·refine go_ ?_;refine sC (.bool (decide ((eF b).1<2147483648)&&decide (-2147483648<(eF b).1))) aB (u7 (eF b).1) O O O (go2 ?_);refine J2 _ _ pp_ s0 (bH (mW h7 (mW h8 (mW h9 O))))
    refine go4 ?_;refine J2 _ _ pp_ s0 (bH (mW h7 (mW h8 (pU h9))))
   refine go8 ?_;refine J2 _ _ pp_ s0 (bH (mW h7 (pU h8)))
  refine BG ?_;refine J2 _ _ pp_ s0 (bH (pU h7))
 intro g10;refine aH _ O (fun h11=>?_) (fun h11=>?_)
 ·refine go3 ?_;refine sV (.int .i64 ((W.mul (eF a) (eF b)).1)) O O (sC (AV [pI (E (Z.of (W.mul (eF a) (eF b)).1))]) aB (bU (W.mul (eF a) (eF b)).1 (W.mul (eF a) (eF b)).2) O O O (go3 ?_));refine rtX O (dP O m0 tyT O) ?_;exact congrArg vS4 (show _=(nM a b) from aX h11 O)
 refine go2 ?_;refine gJv (rg [] 35 8) [(42,.bool (!a.1.good||(!b.1.good)))] (fun K4 J4=>?_) ?_
 ·refine go2 ?_;refine sC (.bool a.1.good) aB (bW a.1 a.2) O O O (go_ ?_);rcases bt a.1.good with h13|h13
  ·refine sB (fZ h13) O (go_ ?_);refine sC (.bool b.1.good) aB (bW b.1 b.2) O O O (go3 ?_);refine J4 _ _ pp_ s0 (bH (lE h13 O))
  refine sB (iX h13) O (go5 ?_);refine J4 _ _ pp_ s0 (bH (oG h13))
 intro g14;refine aH _ O (fun h15=>?_) (fun h15=>?_)
 ·refine go_ ?_;refine sC (AV [pI (E Z.bad)]) aB eO O O O (go3 ?_);refine rtX O (dP O m0 tyT O) ?_;exact congrArg vS4 (show _=(nM a b) from aJ h11 (aX h15 O))
 refine go_ ?_;refine gds sn [0,4,8,12,16,20,28,25,33,37,40,45] [11] mix (by kernel_rfl) (go4 ?_);refine pQ O (aY (v':=.bool (a.1.neg != b.1.neg)) (vU C6 O O) O) (go2 ?_);refine bP O O (gK aB O (fun w hw=>bS a.1 a.2 w) (fun vl16 Ll16 kl16=>⟨(fun _=>sR s0),sn,?_⟩))
 try simp only [iI,nC] at kl16
 refine bP O O (gK aB O (fun w hw=>bS b.1 b.2 w) (fun vl17 Ll17 kl17=>⟨(fun _=>sR s0),sn,?_⟩))
 try simp only [iI,nC] at kl17
 refine bP O O (gK aB O (fun w hw=>tY vl16 vl17 (dl (val a.1.w)) (dl (val b.1.w)) (lN _) (lN _) (Nat.le_trans (jT (k:=32) (rU a.2)) dd_) (Nat.le_trans (jT (k:=32) (rU b.2)) dd_) w (SL.sl (SL.sub kl16.sl (sR lZ)) hw) (SL.sl (SL.sub kl17.sl lZ) hw)) (fun vl18 Ll18 kl18=>⟨(fun _=>sR s0),sn,?_⟩))
 try simp only [iI,nC] at kl18
 refine pQ O (aY (v':=AV [pI (E (Z.of (sgn (a.1.neg != b.1.neg) ((val a.1.w)*(val b.1.w)))))]) (dF aB O (fun w hw=>dU (a.1.neg != b.1.neg) vl18 (dl ((val a.1.w)*(val b.1.w))) (lN _) (Nat.le_trans (jT (k:=64) (ev_ (i:=32) (k:=32) (rU a.2) (rU b.2))) dd_) w (SL.sl (SL.sub kl18.sl lZ) hw))) (by rw [(iI _)];rfl)) (go3 ?_);refine rtX O (dP O (mA (mA (mA mZ))) tyT O) ?_;exact congrArg vS4 (show _=(nM a b) from aJ h11 (aJ h15 O))
theorem cG (a b:R) (ha:a.Ok) (hb:b.Ok):Ret prog 93 [RV a,RV b] (RV (Z.mul a.dec b.dec).enc):=by
 have h:=BM ⟨a,ha⟩ ⟨b,hb⟩;rw [AB] at h;exact h
theorem AR (a:I) :
    Ret prog 149 [AV [pI a]] (.int .i64 ((mO a).1)):=by
 refine bG (N:=14) func149 O O zz_ (fun w0=>?_);refine giI ?_;refine go2 ?_;intro b1 hb1;refine go3 ?_;refine gJv (rg [] 3 9) [(11,.bool (!a.1.good||(((dl (val a.1.w)).length:Int)==0)))] (fun K2 J2=>?_) ?_
 ·refine go2 ?_;refine sC (.bool a.1.good) aB (bW a.1 a.2) O O O (go_ ?_);rcases bt a.1.good with h4|h4
  ·refine sB (fZ h4) O (go_ ?_);refine aZ O (gK aB O (fun w hw=>bS a.1 a.2 w) (fun vl5 Ll5 kl5=>?_))
   try simp only [iI,nC] at kl5
   refine sQ (aY (v':=.int .i64 ((dl (val a.1.w)).length:Int)) (oV iV O (SL.sub kl5.sl lZ)) O) O (go3 ?_);refine J2 _ _ pp_ (sR s0) (bH (lE h4 O))
  refine sB (iX h4) O (go6 ?_);refine J2 _ _ pp_ s0 (bH (oG h4))
 intro g6;refine aH _ O (fun h7=>?_) (fun h7=>?_)
 ·refine go4 ?_;refine rt1 ?_;exact congrArg vS9 (show _=(mO a) from aX h7 O)
 refine go6 ?_;refine aH _ O (fun h8=>?_) (fun h8=>?_)
 ·refine go4 ?_;refine rt1 ?_;exact congrArg vS9 (show _=(mO a) from aJ h7 (aX h8 O))
 refine go5 ?_;refine rt1 ?_;exact congrArg vS9 (show _=(mO a) from aJ h7 (aJ h8 O))
theorem fM (a:R) (ha:a.Ok):Ret prog 149 [RV a] (.int .i64 a.dec.sign):=by
 have h:=AR ⟨a,ha⟩;rw [zB] at h;exact h
theorem BL (a:I) (b:I) :
    Ret prog 213 [AV [pI a],AV [pI b]] (.int .i64 ((fP a b).1)):=by
 refine bG (N:=48) func213 O O zz_ (fun w0=>?_);refine giI ?_;refine go2 ?_;intro b1 hb1;refine go_ ?_;intro b2 hb2;refine go3 ?_;refine gJv (rg [] 9 8) [(16,.bool (!a.1.good&&(!b.1.good)))] (fun K2 J2=>?_) ?_
 ·refine go2 ?_;refine sC (.bool a.1.good) aB (bW a.1 a.2) O O O (go_ ?_);rcases bt a.1.good with h4|h4
  ·refine sB (fZ h4) O (go5 ?_);refine J2 _ _ pp_ s0 (bH (IG h4))
  refine sB (iX h4) O (go_ ?_);refine sC (.bool b.1.good) aB (bW b.1 b.2) O O O (go3 ?_);refine J2 _ _ pp_ s0 (bH (IF h4 O))
 intro g5;refine aH _ O (fun h6=>?_) (fun h6=>?_)
 ·refine go4 ?_;refine rt1 ?_;exact congrArg vS9 (show _=(fP a b) from aX h6 O)
 refine go4 ?_;refine sC (.bool a.1.good) aB (bW a.1 a.2) O O O (go2 ?_);rcases bt a.1.good with h7|h7
 ·refine W_f (fZ h7) O (go4 ?_);refine sC (.bool b.1.good) aB (bW b.1 b.2) O O O (go2 ?_);rcases bt b.1.good with h8|h8
  ·refine W_f (fZ h8) O (go7 ?_);refine sQ (aY (v':=.bool (a.1.neg != b.1.neg)) (vU C6 O O) O) O (go_ ?_);refine aH _ O (fun h9=>?_) (fun h9=>?_)
   ·refine go5 ?_;refine aH _ O (fun h10=>?_) (fun h10=>?_)
    ·refine go4 ?_;refine rt1 ?_;exact congrArg vS9 (show _=(fP a b) from aJ h6 (aX h7 (aX h8 (aX h9 (aX h10 O)))))
    refine go5 ?_;refine rt1 ?_;exact congrArg vS9 (show _=(fP a b) from aJ h6 (aX h7 (aX h8 (aX h9 (aJ h10 O)))))
   refine go3 ?_;refine aZ O (gK aB O (fun w hw=>bS a.1 a.2 w) (fun vl11 Ll11 kl11=>?_))
   try simp only [iI,nC] at kl11
   refine go4 ?_;refine aZ O (gK aB O (fun w hw=>bS b.1 b.2 w) (fun vl12 Ll12 kl12=>?_))
   try simp only [iI,nC] at kl12
   refine go7 ?_;refine aH _ O (fun h13=>?_) (fun h13=>?_)
   ·refine go2 ?_;refine aZ O (gK aB O (fun w hw=>bS b.1 b.2 w) (fun vl14 Ll14 kl14=>?_))
    try simp only [iI,nC] at kl14
    refine go4 ?_;refine aZ O (gK aB O (fun w hw=>bS a.1 a.2 w) (fun vl15 Ll15 kl15=>?_))
    try simp only [iI,nC] at kl15
    refine go5 ?_;refine sQ (aY (v':=.bool (decide ((val b.1.w)<(val a.1.w)))) (dF aB O (fun w hw=>lL vl14 vl15 (dl (val b.1.w)) (dl (val a.1.w)) (lN _) (lN _) (Nat.le_trans (jT (k:=32) (rU b.2)) dd_) (Nat.le_trans (jT (k:=32) (rU a.2)) dd_) w (SL.sl (SL.sub kl14.sl (sR lZ)) hw) (SL.sl (SL.sub kl15.sl lZ) hw))) (by rw [(iI _),(iI _)])) O (go5 ?_);refine sQ (aY (v':=.bool (decide ((val a.1.w)<(val b.1.w)))) (dF aB O (fun w hw=>lL vl15 vl14 (dl (val a.1.w)) (dl (val b.1.w)) (lN _) (lN _) (Nat.le_trans (jT (k:=32) (rU a.2)) dd_) (Nat.le_trans (jT (k:=32) (rU b.2)) dd_) w (SL.sl (SL.sub kl15.sl lZ) hw) (SL.sl (SL.sub kl14.sl (sR lZ)) hw))) (by rw [(iI _),(iI _)])) O (go6 ?_);refine aH _ O (fun h16=>?_) (fun h16=>?_)
    ·refine go4 ?_;refine rt1 ?_;exact congrArg vS9 (show _=(fP a b) from aJ h6 (aX h7 (aX h8 (aJ h9 (aX h13 (aX h16 O))))))
    refine go5 ?_;refine aH _ O (fun h17=>?_) (fun h17=>?_)
    ·refine go4 ?_;refine rt1 ?_;exact congrArg vS9 (show _=(fP a b) from aJ h6 (aX h7 (aX h8 (aJ h9 (aX h13 (aJ h16 (aX h17 O)))))))
    refine go5 ?_;refine rt1 ?_;exact congrArg vS9 (show _=(fP a b) from aJ h6 (aX h7 (aX h8 (aJ h9 (aX h13 (aJ h16 (aJ h17 O)))))))
   refine go4 ?_;refine sQ (aY (v':=.bool (decide ((val a.1.w)<(val b.1.w)))) (dF aB O (fun w hw=>lL vl11 vl12 (dl (val a.1.w)) (dl (val b.1.w)) (lN _) (lN _) (Nat.le_trans (jT (k:=32) (rU a.2)) dd_) (Nat.le_trans (jT (k:=32) (rU b.2)) dd_) w (SL.sl (SL.sub kl11.sl (sR lZ)) hw) (SL.sl (SL.sub kl12.sl lZ) hw))) (by rw [(iI _),(iI _)])) O (go5 ?_);refine sQ (aY (v':=.bool (decide ((val b.1.w)<(val a.1.w)))) (dF aB O (fun w hw=>lL vl12 vl11 (dl (val b.1.w)) (dl (val a.1.w)) (lN _) (lN _) (Nat.le_trans (jT (k:=32) (rU b.2)) dd_) (Nat.le_trans (jT (k:=32) (rU a.2)) dd_) w (SL.sl (SL.sub kl12.sl lZ) hw) (SL.sl (SL.sub kl11.sl (sR lZ)) hw))) (by rw [(iI _),(iI _)])) O (go6 ?_);refine aH _ O (fun h18=>?_) (fun h18=>?_)
   ·refine go4 ?_;refine rt1 ?_;exact congrArg vS9 (show _=(fP a b) from aJ h6 (aX h7 (aX h8 (aJ h9 (aJ h13 (aX h18 O))))))
   refine go5 ?_;refine aH _ O (fun h19=>?_) (fun h19=>?_)
   ·refine go4 ?_;refine rt1 ?_;exact congrArg vS9 (show _=(fP a b) from aJ h6 (aX h7 (aX h8 (aJ h9 (aJ h13 (aJ h18 (aX h19 O)))))))
   refine go5 ?_;refine rt1 ?_;exact congrArg vS9 (show _=(fP a b) from aJ h6 (aX h7 (aX h8 (aJ h9 (aJ h13 (aJ h18 (aJ h19 O)))))))
  refine W_t (iX h8) O (go4 ?_);refine rt1 ?_;exact congrArg vS9 (show _=(fP a b) from aJ h6 (aX h7 (aJ h8 O)))
 refine W_t (iX h7) O (go4 ?_);refine rt1 ?_;exact congrArg vS9 (show _=(fP a b) from aJ h6 (aJ h7 O))
theorem vL (a b:R) (ha:a.Ok) (hb:b.Ok):Ret prog 213 [RV a,RV b] (.int .i64 (Z.cmp a.dec b.dec)):=by
 have h:=BL ⟨a,ha⟩ ⟨b,hb⟩;rw [AA] at h;exact h
theorem BO (a:I) (b:I) :
    Ret prog 113 [AV [pI a],AV [pI b]] (AV [pI (lQ a b)]):=by
 refine bG (N:=76) func113 O O zz_ (fun w0=>?_);refine giI ?_;refine go2 ?_;intro b1 hb1;refine go_ ?_;intro b2 hb2;refine go_ ?_;intro b3 hb3;refine go3 ?_;refine sC (.tuple #[.int .i64 ((eF a).1),.bool (jL a.1)]) aB (gY a.1 a.2) O O O (go8 ?_);refine sC (.tuple #[.int .i64 ((eF b).1),.bool (jL b.1)]) aB (gY b.1 b.2) O O O (go7 ?_);refine gJv (rg [] 21 8) [(28,.bool ((jL a.1)&&((jL b.1)&&((eF b).1 != 0))))] (fun K2 J2=>?_) ?_
 ·refine go2 ?_;refine sBB O (fun h6=>?_) (fun h6=>?_)
  ·refine go2 ?_;refine sBB O (fun h7=>?_) (fun h7=>?_)
   ·refine go4 ?_;refine J2 _ _ pp_ s0 (bH (mW h6 (mW h7 O)))
   refine go4 ?_;refine J2 _ _ pp_ s0 (bH (mW h6 (pU h7)))
  refine go7 ?_;refine J2 _ _ pp_ s0 (bH (pU h6))
 intro g8;refine aH _ O (fun h9=>?_) (fun h9=>?_)
 ·refine go3 ?_;have hfl:=MT h9;refine sC (.int .i64 ((W.fdiv (eF a) (eF b)).1)) aB (tX (eF a).1 (eF b).1 (eF a).2 hfl.1 hfl.2.1) O O (congrArg (Value.int .i64) hfl.2.2) (sC (AV [pI (E (Z.of (W.fdiv (eF a) (eF b)).1))]) aB (bU (W.fdiv (eF a) (eF b)).1 (W.fdiv (eF a) (eF b)).2) O O O (go3 ?_));refine rtX O (dP O m0 tyT O) ?_;exact congrArg vS4 (show _=(lQ a b) from aX h9 O)
 refine go2 ?_;refine gJv (rg [] 33 14) [(46,.bool (!a.1.good||(!b.1.good||(((dl (val b.1.w)).length:Int)==0))))] (fun K4 J4=>?_) ?_
 ·refine go2 ?_;refine sC (.bool a.1.good) aB (bW a.1 a.2) O O O (go_ ?_);rcases bt a.1.good with h13|h13
  ·refine sB (fZ h13) O (go_ ?_);refine sC (.bool b.1.good) aB (bW b.1 b.2) O O O (go2 ?_);rcases bt b.1.good with h14|h14
   ·refine sB (fZ h14) O (go_ ?_);refine aZ O (gK aB O (fun w hw=>bS b.1 b.2 w) (fun vl15 Ll15 kl15=>?_))
    try simp only [iI,nC] at kl15
    refine sQ (aY (v':=.int .i64 ((dl (val b.1.w)).length:Int)) (oV iV O (SL.sub kl15.sl lZ)) O) O (go3 ?_);refine J4 _ _ pp_ (sR s0) (bH (lE h13 (lE h14 O)))
   refine sB (iX h14) O (go6 ?_);refine J4 _ _ pp_ s0 (bH (lE h13 (oG h14)))
  refine sB (iX h13) O (BG ?_);refine J4 _ _ pp_ s0 (bH (oG h13))
 intro g16;refine aH _ O (fun h17=>?_) (fun h17=>?_)
 ·refine go_ ?_;refine sC (AV [pI (E Z.bad)]) aB eO O O O (go3 ?_);refine rtX O (dP O m0 tyT O) ?_;exact congrArg vS4 (show _=(lQ a b) from aJ h9 (aX h17 O))
 refine go_ ?_;refine gds sn [0,8,5,13,17,20,24,28,32,36] [] mix (by kernel_rfl) (go2 ?_);refine bP O O (gK aB O (fun w hw=>bS a.1 a.2 w) (fun vl18 Ll18 kl18=>⟨(fun _=>sR s0),sn,?_⟩))
 try simp only [iI,nC] at kl18
 refine bP O O (gK aB O (fun w hw=>bS b.1 b.2 w) (fun vl19 Ll19 kl19=>⟨(fun _=>sR s0),sn,?_⟩))
 try simp only [iI,nC] at kl19
 have hB:=aG_ h17;refine bP O O (CX aB O (fun w hw=>n7 vl18 vl19 (val a.1.w) (val b.1.w) hB (Nat.le_trans (jT (k:=32) (rU a.2)) dd_) (Nat.le_trans (jT (k:=32) (rU b.2)) dd_) w (SL.sl (SL.sub kl18.sl (sR lZ)) hw) (SL.sl (SL.sub kl19.sl lZ) hw)) (fun vl20_0 vl20_1 Ll20 kl20_0 kl20_1=>⟨(fun _=>sR s0),sn,?_⟩))
 try simp only [iI,nC] at kl20_0 kl20_1
 refine go7 ?_;refine gJv (rg [] 56 10) [(65,.bool ((a.1.neg != b.1.neg)&&decide (0<((dl ((val a.1.w) % (val b.1.w))).length:Int))))] (fun K6 J6=>?_) ?_
 ·refine go5 ?_;refine sQ (aY (v':=.bool (a.1.neg != b.1.neg)) (vU C6 O O) O) O ?_;refine sBB O (fun h22=>?_) (fun h22=>?_)
  ·refine go_ ?_;refine sQ (aY (v':=.int .i64 ((dl ((val a.1.w) % (val b.1.w))).length:Int)) (oV iV O (SL.sub kl20_1 lZ)) O) O (go3 ?_);refine J6 _ _ pp_ s0 (bH (mW h22 O))
  refine go5 ?_;refine J6 _ _ pp_ s0 (bH (pU h22))
 intro g23;refine aH _ O (fun h24=>?_) (fun h24=>?_)
 ·refine go2 ?_;refine aZ O (kA iG z_3 pM O dd_ O (B3 1) (fun b25 hb25=>aZ O (gK aB O (fun w hw=>rL vl20_0 _ (dl ((val a.1.w) / (val b.1.w))) [1] (lN _) (DL.one dd_) (Nat.le_trans (jT (k:=32) (bw_ (rU a.2))) dd_) zz_ w (SL.sl (SL.sub kl20_0 (sd lZ)) hw) (SL.sl (SL.sub (SL.mine (l:=[1]) List.mem_cons_self (Nat.le_refl _)) (sk sn)) hw)) (fun vl26 Ll26 kl26=>?_))))
  try simp only [iI,nC] at kl26
  refine go7 ?_;refine sQ (aY (v':=.bool (a.1.neg != b.1.neg)) (vU C6 O O) O) O (go_ ?_);refine sQ (aY (v':=AV [pI (E (Z.of (sgn (a.1.neg != b.1.neg) (((val a.1.w) / (val b.1.w))+1))))]) (dF aB O (fun w hw=>dU (a.1.neg != b.1.neg) vl26 (dl (((val a.1.w) / (val b.1.w))+1)) (lN _) (Nat.le_trans (jT (k:=33) (cX_ (k:=32) (bw_ (rU a.2)) (Nat.lt_of_lt_of_le (show 1<65536 ^ 1 by decide) (Nat.pow_le_pow_right (show 0<65536 by decide) (show 1≤32 by decide))))) dd_) w (SL.sl (SL.sub kl26.sl lZ) hw))) (by rw [(iI _)];rfl)) O (go3 ?_);refine rtX O (dP O (mA (mC (mA (mA (mA mZ))))) tyT O) ?_;exact congrArg vS4 (show _=(lQ a b) from aJ h9 (aJ h17 (aX h24 O)))
 refine go6 ?_;refine sQ (aY (v':=.bool (a.1.neg != b.1.neg)) (vU C6 O O) O) O (go_ ?_);refine sQ (aY (v':=AV [pI (E (Z.of (sgn (a.1.neg != b.1.neg) ((val a.1.w) / (val b.1.w)))))]) (dF aB O (fun w hw=>dU (a.1.neg != b.1.neg) vl20_0 (dl ((val a.1.w) / (val b.1.w))) (lN _) (Nat.le_trans (jT (k:=32) (bw_ (rU a.2))) dd_) w (SL.sl (SL.sub kl20_0 lZ) hw))) (by rw [(iI _)];rfl)) O (go3 ?_);refine rtX O (dP O (mA (mA (mA mZ))) tyT O) ?_;exact congrArg vS4 (show _=(lQ a b) from aJ h9 (aJ h17 (aJ h24 O)))
theorem fC (a b:R) (ha:a.Ok) (hb:b.Ok):Ret prog 113 [RV a,RV b] (RV (Z.quo a.dec b.dec).enc):=by
 have h:=BO ⟨a,ha⟩ ⟨b,hb⟩;rw [AD] at h;exact h
theorem nS (a b:R) (ha:a.Ok) (hb:b.Ok) :
    Ret prog 150 [RV a,RV b] (RV (Z.gcd a.dec b.dec).enc):=by
 refine bG (N:=64) func150 O O zz_ (fun w0=>?_);refine giI ?_;have hla:=aI_ ha;have hlb:=aI_ hb;refine go_ ?_;refine aZ O (kV O O (fun b2 hb2=>aZ O (kV O O (fun b3 hb3=>aZ O (eM jP (fun b4 hb4=>go2 ?_))))));refine sQ (cA tyT O mm_ (cC ha)) O ?_;refine sQ (bE aB (gY a ha) O) O (go7 ?_);refine sQ (cA tyT O mm_ (cC hb)) O ?_;refine sQ (bE aB (gY b hb) O) O (j0 ?_)
 cases w1:jL a
 ·refine go7 ?_;refine sQ (cA tyT O mm_ (cC ha)) O ?_;refine sQ (bE aB (bW a ha) O) O (go2 ?_)
  cases ga:a.good
  ·refine go7 ?_;refine sQ (bE aB eO O) O (aZ O (bN tyT O O uu_ (aF _) O (bI _) (.inl fR) ?_));refine go2 ?_;refine rtX O ⟨_,_,_,_,_,_,rfl,mm_,tyT,_,(dI (aF _)),(aF _),rfl⟩ ?_
   (rw [Z.gcd,oN (.inl (GN ga))];rfl)
  refine sQ (cA tyT O mm_ (cC hb)) O ?_;refine sQ (bE aB (bW b hb) O) O (go3 ?_);refine aH _ O (fun gb=>?_) (fun gb=>?_)
  ·replace gb:=cB_ gb
   refine go_ ?_;refine sQ (bE aB eO O) O (aZ O (bN tyT O O uu_ (aF _) O (bI _) (.inl fR) ?_));refine go2 ?_;refine rtX O ⟨_,_,_,_,_,_,rfl,mm_,tyT,_,(dI (aF _)),(aF _),rfl⟩ ?_
   (rw [Z.gcd,oN (.inr (GN gb))];rfl)
  replace gb:=cB_ gb
  refine go2 ?_;refine sQ (cA tyT O mm_ (cC ha)) O ?_;refine aZ O (gK aB O (fun w hw=>bS a ha w) (fun v5 L5 h5=>go3 ?_));refine sQ (cA tyT O mm_ (cC hb)) O ?_;refine aZ O (gK aB O (fun w hw=>bS b hb w) (fun v6 L6 h6=>go4 ?_));refine bX (rg [10,11,12,13] 51 11) (fun g nn M=>∃ (X Y:Nat) (vx vy:Value) (Lx Ly:List Blk),(g 10=vx∧g 11=vy)∧M=Ly++(Lx++[⟨b4,31,zR⟩,⟨b3,31,b.cells⟩,⟨b2,31,a.cells⟩])∧nn=Y∧((X<65536 ^ 32∧Y<65536 ^ 32)∧Nat.gcd X Y=Nat.gcd (val a.w) (val b.w)∧SL w0 [] Lx vx (dl X)∧SL w0 [] Ly vy (dl Y))) (val b.w) ?start ?round
  case start =>
   refine ⟨_,(List.Sublist.refl _),val a.w,val b.w,v5,v6,L5,L6,⟨?a10,?a11⟩,?mem0,rfl,⟨⟨SH ha,SH hb⟩,rfl,h5.sl,h6.sl⟩⟩
   case mem0=>rfl
   case a10=>rfl
   case a11=>rfl
  case round =>
   rintro nn g M ⟨X,Y,vx,vy,Lx,Ly,⟨hg10,hg11⟩,rfl,hmeas,⟨hb3,hgc,hX,hY⟩⟩;subst nn;refine gS2 hg10 hg11 ?_;clear hg10 hg11;refine go3 ?_;refine sQ (oV iV O (hY.sub lZ)) O (go2 ?_);refine aH _ O (fun h53=>?_) (fun h53=>?_)
   ·replace h53:=cB_ h53
    have hYp:0<Y:=SF h53;refine go5 ?_;refine aZ O (CX aB O (fun w hw=>n7 vx vy X Y hYp (FH hb3.1) (FH hb3.2) w (SL.sl (hX.sub (.trans lZ (List.sublist_append_right _ _))) hw) (SL.sl (hY.sub lZ) hw)) (fun vq vr Lr hq hr=>zO ?_));refine ⟨pp_,_,_,(List.Sublist.append (List.Sublist.refl _) (List.Sublist.append (List.Sublist.refl _) (List.sublist_append_right _ _))),(Nat.mod_lt _ hYp),Y,X % Y,vy,vr,Ly,Lr,⟨?s10,?s11⟩,?mem,rfl,⟨⟨hb3.2,Nat.lt_of_le_of_lt (Nat.mod_le _ _) hb3.1⟩,by rw [← hgc];exact MQ X Y,hY,hr⟩⟩
    case mem=>rfl
    case s10=>rfl
    case s11=>rfl
   replace h53:=cB_ h53
   have hY0:Y=0:=O0 h53;refine go3 ?_;refine sQ (dF aB O (fun w hw=>dU false _ _ (lN _) (Nat.le_trans (FH hb3.1) dd_) w (SL.sl (hX.sub (.trans lZ (List.sublist_append_right _ _))) hw))) O (aZ O (bN tyT O O uu_ (aF _) O (bI _) (.inl fR) ?_));refine go2 ?_;refine rtX O ⟨_,_,_,_,_,_,rfl,mm_,tyT,_,(dI (aF _)),(aF _),rfl⟩ ?_
   (rw [WH ha hb ga gb (by rw [← hgc,hY0,Nat.gcd_zero_right]),iI];rfl)
 refine go3 ?_;refine aH _ O (fun w2=>?_) (fun w2=>?_)
 ·replace w2:=cB_ w2
  refine go2 ?_;refine bX (rg [5,7,9] 28 7) (fun g nn M=>∃ (x y:Int),(g 5 = .int .i64 x∧g 7 = .int .i64 y)∧M=[⟨b4,31,zR⟩,⟨b3,31,b.cells⟩,⟨b2,31,a.cells⟩]∧nn=y.natAbs∧((-4611686018427387904<x∧x<4611686018427387904)∧(-4611686018427387904<y∧y<4611686018427387904)∧Int.gcd x y=Int.gcd (kZ a) (kZ b))) ((kZ b).natAbs) ?start ?round
  case start =>
   refine ⟨_,(List.Sublist.refl _),kZ a,kZ b,⟨?a5,?a7⟩,?mem0,rfl,⟨(nL ha w1).2.2.2,(nL hb w2).2.2.2,rfl⟩⟩
   case mem0=>rfl
   case a5=>rfl
   case a7=>rfl
  case round =>
   rintro nn g M ⟨x,y,⟨hg5,hg7⟩,rfl,hmeas,⟨hx,hy,hgc⟩⟩;subst nn;refine gS2 hg5 hg7 ?_;clear hg5 hg7;refine go5 ?_;refine aH _ O (fun h29=>?_) (fun h29=>?_)
   ·replace h29:=cB_ h29
    refine go5 ?_;refine sQ (qU O O h29) O (j0 ?_);refine ⟨pp_,_,_,(List.Sublist.refl _),(vY (by simpa using h29)).1,y,x.tmod y,⟨?s5,?s7⟩,?mem,rfl,⟨hy,bK_ hx,by rw [← hgc];exact WP x y⟩⟩
    case mem=>rfl
    case s5=>rfl
    case s7=>rfl
   replace h29:=cB_ h29
   have hy0:y=0:=by simpa using h29
   refine go3 ?_;refine sQ (bE aB (bU x (bJ_ hx)) O) O (sQ (bE aB (BJ (Z.of x).enc (Z.enc_ok _)) O) O (aZ O (bN tyT O O uu_ (aF _) O (bI _) (.inl fR) ?_)));refine go2 ?_;refine rtX O ⟨_,_,_,_,_,_,rfl,mm_,tyT,_,(dI (aF _)),(aF _),rfl⟩ ?_
   (rw [AJ,TW ha hb w1 w2 hgc hy0];rfl)
 replace w2:=cB_ w2
 refine go3 ?_;refine sQ (cA tyT O mm_ (cC ha)) O ?_;refine sQ (bE aB (bW a ha) O) O (go2 ?_)
 cases ga:a.good
 ·refine go7 ?_;refine sQ (bE aB eO O) O (aZ O (bN tyT O O uu_ (aF _) O (bI _) (.inl fR) ?_));refine go2 ?_;refine rtX O ⟨_,_,_,_,_,_,rfl,mm_,tyT,_,(dI (aF _)),(aF _),rfl⟩ ?_
  (rw [Z.gcd,oN (.inl (GN ga))];rfl)
 refine sQ (cA tyT O mm_ (cC hb)) O ?_;refine sQ (bE aB (bW b hb) O) O (go3 ?_);refine aH _ O (fun gb=>?_) (fun gb=>?_)
 ·replace gb:=cB_ gb
  refine go_ ?_;refine sQ (bE aB eO O) O (aZ O (bN tyT O O uu_ (aF _) O (bI _) (.inl fR) ?_));refine go2 ?_;refine rtX O ⟨_,_,_,_,_,_,rfl,mm_,tyT,_,(dI (aF _)),(aF _),rfl⟩ ?_
  (rw [Z.gcd,oN (.inr (GN gb))];rfl)
 replace gb:=cB_ gb
 refine go2 ?_;refine sQ (cA tyT O mm_ (cC ha)) O ?_;refine aZ O (gK aB O (fun w hw=>bS a ha w) (fun v5 L5 h5=>go3 ?_));refine sQ (cA tyT O mm_ (cC hb)) O ?_;refine aZ O (gK aB O (fun w hw=>bS b hb w) (fun v6 L6 h6=>go4 ?_));refine bX (rg [10,11,12,13] 51 11) (fun g nn M=>∃ (X Y:Nat) (vx vy:Value) (Lx Ly:List Blk),(g 10=vx∧g 11=vy)∧M=Ly++(Lx++[⟨b4,31,zR⟩,⟨b3,31,b.cells⟩,⟨b2,31,a.cells⟩])∧nn=Y∧((X<65536 ^ 32∧Y<65536 ^ 32)∧Nat.gcd X Y=Nat.gcd (val a.w) (val b.w)∧SL w0 [] Lx vx (dl X)∧SL w0 [] Ly vy (dl Y))) (val b.w) ?start ?round
 case start =>
  refine ⟨_,(List.Sublist.refl _),val a.w,val b.w,v5,v6,L5,L6,⟨?a10,?a11⟩,?mem0,rfl,⟨⟨SH ha,SH hb⟩,rfl,h5.sl,h6.sl⟩⟩
  case mem0=>rfl
  case a10=>rfl
  case a11=>rfl
 case round =>
  rintro nn g M ⟨X,Y,vx,vy,Lx,Ly,⟨hg10,hg11⟩,rfl,hmeas,⟨hb3,hgc,hX,hY⟩⟩;subst nn;refine gS2 hg10 hg11 ?_;clear hg10 hg11;refine go3 ?_;refine sQ (oV iV O (hY.sub lZ)) O (go2 ?_);refine aH _ O (fun h53=>?_) (fun h53=>?_)
  ·replace h53:=cB_ h53
   have hYp:0<Y:=SF h53;refine go5 ?_;refine aZ O (CX aB O (fun w hw=>n7 vx vy X Y hYp (FH hb3.1) (FH hb3.2) w (SL.sl (hX.sub (.trans lZ (List.sublist_append_right _ _))) hw) (SL.sl (hY.sub lZ) hw)) (fun vq vr Lr hq hr=>zO ?_));refine ⟨pp_,_,_,(List.Sublist.append (List.Sublist.refl _) (List.Sublist.append (List.Sublist.refl _) (List.sublist_append_right _ _))),(Nat.mod_lt _ hYp),Y,X % Y,vy,vr,Ly,Lr,⟨?s10,?s11⟩,?mem,rfl,⟨⟨hb3.2,Nat.lt_of_le_of_lt (Nat.mod_le _ _) hb3.1⟩,by rw [← hgc];exact MQ X Y,hY,hr⟩⟩
   case mem=>rfl
   case s10=>rfl
   case s11=>rfl
  replace h53:=cB_ h53
  have hY0:Y=0:=O0 h53;refine go3 ?_;refine sQ (dF aB O (fun w hw=>dU false _ _ (lN _) (Nat.le_trans (FH hb3.1) dd_) w (SL.sl (hX.sub (.trans lZ (List.sublist_append_right _ _))) hw))) O (aZ O (bN tyT O O uu_ (aF _) O (bI _) (.inl fR) ?_));refine go2 ?_;refine rtX O ⟨_,_,_,_,_,_,rfl,mm_,tyT,_,(dI (aF _)),(aF _),rfl⟩ ?_
  (rw [WH ha hb ga gb (by rw [← hgc,hY0,Nat.gcd_zero_right]),iI];rfl)
end Go.Proofs.YtkjjponijamaoaaGreatDoor
