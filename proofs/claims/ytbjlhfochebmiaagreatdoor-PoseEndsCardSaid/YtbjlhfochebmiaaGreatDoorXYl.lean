/- Lemmas: what they ask stands in their statements. -/
import Derived.Test.YtbjlhfochebmiaaGreatDoorXVd
set_option linter.unusedSimpArgs false
set_option linter.unusedVariables false
set_option maxHeartbeats 8000000
set_option maxRecDepth 20000

namespace Go.Num
open Go Go.Kn
def zrI (x:I):Bool:=(Z.signW x.dec).1==0
def iZ (l:List I):List I:=(l.reverse.dropWhile zrI).reverse
def badp:List I:=[E Z.bad]
def mkP (l:List I):List I:=bif l.all gdI then (if (iZ l).length≤25 then iZ l else badp) else badp
theorem pU (l:List I) (x:I):iZ (l ++ [x])=bif zrI x then iZ l else l ++ [x]:=by
  unfold iZ;rw [List.reverse_append]
  show (List.dropWhile zrI (x :: l.reverse)).reverse=_
  rw [List.dropWhile_cons]
  cases zrI x
  · show (x :: l.reverse).reverse=_
    simp
  rfl
theorem rJ (l:List I):iZ l=l.take (iZ l).length:=by
  have h:iZ l <+: l:=by
    unfold iZ;have:=List.dropWhile_suffix zrI (l:=l.reverse);have h2:=List.reverse_prefix.2 this
    rwa [List.reverse_reverse] at h2
  obtain ⟨r,hr⟩:=h;have h3:(iZ l ++ r).take (iZ l).length=iZ l:=List.take_left;rw [hr] at h3;exact h3.symm
theorem D6 (l:List I):(iZ l).length≤l.length:=by
  rw [rJ,List.length_take];omega
theorem G6 (l:List I):(mkP l).length≤25:=by
  unfold mkP
  cases l.all gdI
  · exact Nat.le_of_ble_eq_true rfl
  simp only [cond_true]
  split
  · assumption
  exact Nat.le_of_ble_eq_true rfl
theorem sF {α:Type} (l:List α):l=[] ∨ ∃ m x,l=m ++ [x]:=by
  rcases List.eq_nil_or_concat l with h | ⟨m,x,h⟩
  · exact .inl h
  exact .inr ⟨m,x,by rw [h];simp⟩
theorem zE (n:Int) (f:Nat→I) (o:I→I) (out:List I) (i:Nat):∀ (k:Nat) (cut:List I),cut.length<k→fG n f o out i k cut=iZ cut
  | 0,cut,h=>absurd h (Nat.not_lt_zero _)
  | k+1,cut,h=>by
    unfold fG;rcases sF cut with rfl | ⟨m,x,rfl⟩
    · rfl
    rw [pU];have e1:decide (0<(((m ++ [x]).length:Nat):Int))=true:=decide_eq_true (by simp only [List.length_append,List.length_cons,List.length_nil];omega)
    have e2:(m ++ [x]).length - 1=m.length:=by simp
    rw [e1,e2]
    have e3:(m ++ [x]).getD m.length I0=x:=by simp
    have e4:(m ++ [x]).take m.length=m:=by simp
    rw [e3,e4,Bool.true_and]
    show (bif zrI x then _ else _)=_
    rw [zE n f o out i k m (by simp only [List.length_append,List.length_cons,List.length_nil] at h;omega)]
theorem JO (i m:Nat):List.range' i (m+1)=i :: List.range' (i+1) m:=rfl
theorem AY (n:Int) (f:Nat→I) (o:I→I):∀ (k:Nat) (out:List I) (i:Nat),n.toNat - i<k →
    fF n f o k out i=bif ((List.range' i (n.toNat - i)).map fun j=>o (f j)).all gdI then .inl (out ++ (List.range' i (n.toNat - i)).map fun j=>o (f j),i+(n.toNat - i)) else .inr badp
  | 0,out,i,h=>absurd h (Nat.not_lt_zero _)
  | k+1,out,i,h=>by
    unfold fF
    by_cases hi:i<n.toNat
    · rw [decide_eq_true oo_,cond_true]
      obtain ⟨m,hm⟩:∃ m,n.toNat - i=m+1:=⟨n.toNat - i - 1,by omega⟩
      have hm':n.toNat - (i+1)=m:=by omega
      rw [hm,JO,List.map_cons,List.all_cons,AY n f o k _ _ oo_,hm']
      show (bif gdI (o (f i)) then _ else _)=_
      cases gdI (o (f i))
      · rfl
      simp only [cond_true,Bool.true_and,List.append_assoc,List.cons_append,List.nil_append];rw [show i+1+m=i+(m+1) by omega]
    rw [decide_eq_false oo_,cond_false,show n.toNat - i=0 by omega]
    simp
theorem tW (n:Int) (f:Nat→I) (o:I→I):fE n f o=mkP ((List.range n.toNat).map fun j=>o (f j)):=by
  unfold fE mkP;rw [AY n f o _ _ _ oo_,Nat.sub_zero,← List.range_eq_range']
  cases ((List.range n.toNat).map fun j=>o (f j)).all gdI
  · rfl
  simp only [cond_true,sm,ap,List.nil_append];rw [zE _ _ _ _ _ _ _ (Nat.lt_succ_self _)]
  by_cases h:(iZ ((List.range n.toNat).map fun j=>o (f j))).length≤25
  · rw [if_pos h,decide_eq_false oo_,cond_false]
  rw [if_neg h,decide_eq_true oo_,cond_true];rfl
theorem FC (n:Int) (f:Nat→Go.Num.W) (o:Go.Num.W→I) (out:List I) (i:Nat):∀ (k:Nat) (cut:List I),gJ n f o out i k cut=fG n (fun _=>I0) (fun x=>x) out i k cut
  | 0,cut=>rfl
  | k+1,cut=>by unfold gJ fG;rw [FC n f o out i k]
theorem zA (n:Int) (f:Nat→Go.Num.W) (o:Go.Num.W→I):∀ (k:Nat) (out:List I) (i:Nat),gI n f o k out i=fF n (fun j=>o (f j)) (fun x=>x) k out i
  | 0,out,i=>rfl
  | k+1,out,i=>by unfold gI fF;rw [zA n f o k]
theorem AD (n:Int) (f:Nat→Go.Num.W) (o:Go.Num.W→I):i5 n f o=mkP ((List.range n.toNat).map fun j=>o (f j)):=by
  rw [← tW n (fun j=>o (f j)) (fun x=>x)];unfold i5 fE;rw [zA]
  congr 1
  funext s
  simp only [ap];rw [FC,zE _ _ _ _ _ _ _ (Nat.lt_succ_self _),zE _ _ _ _ _ _ _ (Nat.lt_succ_self _)]
theorem aM_ (x:I):((Z.signW x.dec).1 != 0) = !zrI x:=rfl
theorem EA (l:List I) {i:Nat} (h:i<l.length):l.take (i+1)=l.take i ++ [l.getD i I0]:=by
  rw [List.take_add_one,List.getElem?_eq_getElem h]
  simp [List.getD,List.getElem?_eq_getElem h]
theorem CQ (l:List I) {i:Nat} (h:i<l.length):l.drop i=l.getD i I0 :: l.drop (i+1):=by
  rw [List.drop_eq_getElem_cons h]
  simp [List.getD,List.getElem?_eq_getElem h]
theorem w7 (l:List I):∀ (k:Nat) (last:Int) (i:Nat),l.length - i<k→i≤l.length→last+1=((iZ (l.take i)).length:Nat) →
    dU l k last i=bif (l.drop i).all gdI then .inl (((iZ l).length:Int) - 1,l.length) else .inr badp
  | 0,last,i,h,_,_=>absurd h (Nat.not_lt_zero _)
  | k+1,last,i,h,hi,hl=>by
    unfold dU
    by_cases hlt:i<l.length
    · rw [decide_eq_true oo_,cond_true,CQ l hlt,List.all_cons]
      show (bif gdI (l.getD i I0) then _ else _)=_
      cases gdI (l.getD i I0)
      · rfl
      simp only [cond_true,Bool.true_and,aM_];have hs:=pU (l.take i) (l.getD i I0);rw [← EA l hlt] at hs
      cases hz:zrI (l.getD i I0)
      · rw [hz] at hs
        simp only [Bool.not_false,cond_true];refine w7 l k _ _ oo_ oo_ ?_;rw [hs,cond_false,List.length_take,Nat.min_eq_left oo_];omega
      rw [hz] at hs;simp only [Bool.not_true,cond_false];refine w7 l k _ _ oo_ oo_ ?_;rw [hs];exact hl
    have e:i=l.length:=by omega
    subst e;rw [decide_eq_false oo_,cond_false,List.drop_length];rw [List.take_length] at hl
    show _=Sum.inl _
    rw [show last=((iZ l).length:Int) - 1 by omega]
theorem BE (l:List I) (last:Int) (i:Nat):∀ (k:Nat) (out:List I) (j:Nat),(last+1).toNat - j<k→out=l.take j→(last+1).toNat≤l.length→j≤(last+1).toNat →
    (eA l last i k out j).1=l.take (last+1).toNat
  | 0,out,j,h,_,_,_=>absurd h (Nat.not_lt_zero _)
  | k+1,out,j,h,ho,hl,hj=>by
    unfold eA
    by_cases hc:(j:Int)≤last
    · rw [decide_eq_true hc,cond_true]
      refine BE l last i k _ _ oo_ ?_ hl oo_;rw [ho,EA l oo_]
    rw [decide_eq_false hc,cond_false]
    show out=_
    rw [ho];congr 1;omega
theorem TE (l:List I):cO l=mkP l:=by
  unfold cO mkP;rw [w7 l _ _ _ oo_ (Nat.zero_le _) (by rw [List.take_zero];rfl),List.drop_zero]
  cases l.all gdI
  · rfl
  simp only [cond_true,sm,ap];have hle:=D6 l
  by_cases h:(iZ l).length≤25
  · rw [if_pos h,decide_eq_false oo_,cond_false]
    rw [BE l _ _ _ _ _ oo_ (by rw [List.take_zero]) oo_ oo_];rw [show (((iZ l).length:Int) - 1+1).toNat=(iZ l).length by omega];exact (rJ l).symm
  rw [if_neg h,decide_eq_true oo_,cond_true];rfl
theorem B2 {c:Bool} {x y:List I} (h:x.length≤25) (k:y.length≤25):(bif c then x else y).length≤25:=by cases c <;> assumption
theorem CK:badp.length≤25:=Nat.le_of_ble_eq_true rfl
theorem E8 (n:Int) (f:Nat→I) (o:I→I):(fE n f o).length≤25:=by rw [tW];exact G6 _
theorem f7 (l:List W):(bU l).length≤25:=by unfold bU;rw [AD];exact G6 _
theorem tH (p q:List I) (f:I→I→I):(fN p q f).length≤25:=B2 CK (E8 _ _ _)
theorem eF (p q:List I):(aT p q).length≤25:=tH _ _ _
theorem zQ (p q:List I):(mO p q).length≤25:=tH _ _ _
theorem jQ (p q:List I):(aN p q).length≤25:=B2 CK (B2 (Nat.zero_le _) (E8 _ _ _))
theorem eT (p:List I) (n:I):(bO p n).length≤25:=B2 (tH _ _ _) CK
theorem FU (l:List I):(cO l).length≤25:=by rw [TE];exact G6 _
theorem vH (l:List I):(cO l).length≤25:=FU l
theorem iA (l:List W):(bZ l).length≤25:=FU _
theorem BC (d:I) (n:Int):∀ (k:Nat) (out:List I),n.toNat - out.length<k→1≤out.length→(eZ d n k out).length=max n.toNat out.length
  | 0,out,h,_=>absurd h (Nat.not_lt_zero _)
  | k+1,out,h,h1=>by
    unfold eZ
    by_cases hc:(out.length:Int)<n
    · rw [decide_eq_true hc,cond_true,BC d n k _ (by simp only [List.length_append,List.length_cons,List.length_nil];omega) (by simp)]
      simp only [List.length_append,List.length_cons,List.length_nil];omega
    rw [decide_eq_false hc,cond_false];omega
theorem BN (d:I) (n:Int):(dK d n).length=max n.toNat 1:=BC d n _ _ (by simp only [List.length_cons,List.length_nil];omega) (by simp)
end Go.Num

namespace Go.Proofs.YtbjlhfochebmiaaGreatDoor
open Go.Kn Go.Num
attribute [local irreducible] Go.Kn.W WL PL OpQ OpR OpS
theorem ER (k:Nat) (c0 T0:Nat) (p_l:Option Addr) (c_l:Nat) (l:(List W)) (w:World) (hc0:w.heap[c0]? = some (.cells (dC [csl p_l l.length c_l]).toArray T0 (0,0))) (hl:Slr w elW (.slice p_l l.length c_l) l) (hpre:k<l.length) :
    Calls Tryz.prog 139 [.int .i64 ((k:Nat):Int),.pointer (some ⟨c0,0,none⟩)].toArray w (fun e w'=>e = .returned (.int .i64 ((qM k l).1))∧Ext w w'):=by
 refine cX (N:=8) Tryz.func139 rfl rfl (by simp) ?_;obtain ⟨w0,rfl⟩:∃ w0,w0=w:=⟨_,rfl⟩;have Hl:=hl.old;have hm_l:=hl.max;simp only [bA,Nat.reduceAdd];refine go4 ?_;refine sQ (hZ (v:=.slice p_l l.length c_l) tyT rfl hc0 (by simp) rfl) rfl ?_;refine go_ ?_;refine sQ (aI (v':=.pointer (some (slb (.slice p_l l.length c_l) (k * 1+0)))) (nC (e:=elW) (l:=l) (k:=k) fL rfl rfl (SLe.sub Hl sn) o2_) rfl) rfl ?_;refine sQ (DO (u:=.int .i64 ((l.getD k W.z).1)) (e:=elW) (l:=l) (k:=k) (o:=0) tyT rfl (SLe.sub Hl sn) (fU W.z o2_) rfl) rfl ?_;refine go3 ?_;refine aS rfl (.inr rfl) rfl ?_;exact (by rfl)

theorem jD (vl:Value) (l:(List W)) (w:World) (hl:Slr w elW vl l) (hpre:l.length≤200) :
    Calls Tryz.prog 68 [vl].toArray w (fun e w'=>∃ v,e = .returned (v)∧Ext w w'∧Slo w.heap.size w' 33 elI v (bU l)):=by
 obtain ⟨p_l,c_l,rfl⟩:=hl.form;refine fD (n:=7) (fun v=>v) Tryz.func68 rfl rfl (by simp) ?_;obtain ⟨w0,rfl⟩:∃ w0,w0=w:=⟨_,rfl⟩;have Hl:=hl.old;have hm_l:=hl.max;simp only [bA,Nat.reduceAdd];refine go2 ?_;intro b1 hb1;refine go4 ?_;refine sQ (aI (v':=.int .i64 (((l).length:Nat):Int)) (fR (e:=elW) fL rfl (SLe.sub Hl sn)) rfl) rfl (sQ (DQ rfl rfl) rfl (aU rfl (bK (E:=33) (e:=elI) (l:=(i5 (((l).length:Nat):Int) (fun (y:Nat)=>(qM y l)) (fun (y:Go.Num.W)=>(E (Z.of y.1))))) (fun v=>v) Y6 rfl (fun w hw=>BK (((l).length:Nat):Int) _ (fun (y:Nat)=>(qM y l)) _ (fun (y:Go.Num.W)=>(E (Z.of y.1))) w (FnV.mk hw Y7 (fun w hw x hx=>ER x _ _ _ _ l w (hw.mem _ m0) (aR hw Hl sn) (Int.ofNat_lt.1 hx))) (FnV.mk hw kW (fun w hw x hx=>(cN x.1 x.2) w)) oo_) (fun p2 c3 L4 hF5=>go3 ?_))));refine aS rfl (.inr rfl) rfl ?_
 have hE:((i5 (((l).length:Nat):Int) (fun (y:Nat)=>(qM y l)) (fun (y:Go.Num.W)=>(E (Z.of y.1)))):(List I))=(bU l):=by exact rfl
 rw [← hE];exact ⟨_,rfl,⟨L4,lZ,hF5⟩⟩

theorem BB (vp:Value) (p:(List I)) (k:Int) (w:World) (hp:Slr w elI vp p) :
    Calls Tryz.prog 197 [vp,.int .i64 k].toArray w (fun e w'=>e = .returned (AV [pI (i4 p k)])∧Ext w w'):=by
 obtain ⟨p_p,c_p,rfl⟩:=hp.form;refine cX (N:=18) Tryz.func197 rfl rfl (by simp) ?_;obtain ⟨w0,rfl⟩:∃ w0,w0=w:=⟨_,rfl⟩;have Hp:=hp.old;have hm_p:=hp.max;simp only [bA,Nat.reduceAdd];refine go2 ?_;intro b1 hb1;refine go2 ?_;refine gJv [5,6,7,8,9,10,11,12] [(12,.bool (decide (k<0)||decide ((((p).length:Nat):Int)≤k)))] (fun K2 J2=>?_) ?_
 ·refine go3 ?_;refine sBB rfl (fun h3=>?_) (fun h3=>?_)
  ·have ph3:=of_decide_eq_true h3;refine go6 ?_;refine J2 _ _ pp_ s0 (bQ (oM h3))
  have ph3:=of_decide_eq_false h3;refine go2 ?_;refine sQ (aI (v':=.int .i64 (((p).length:Nat):Int)) (fR (e:=elI) jN rfl (SLe.sub Hp sn)) rfl) rfl (go3 ?_);refine J2 _ _ pp_ s0 (bQ (mY h3 rfl))
 intro g4;refine aK _ rfl (fun h5=>?_) (fun h5=>?_)
 ·refine go5 ?_;refine aS rfl (.inr rfl) (fB rfl m0 tyT rfl) ?_;exact congrArg vS2 (show _=(i4 p k) from aE h5 rfl)
 have ph6:=of_decide_eq_false (Bool.or_eq_false_iff.1 h5).1;have ph7:=of_decide_eq_false (Bool.or_eq_false_iff.1 h5).2;refine go4 ?_;refine sQ (aI (v':=.pointer (some (slb (.slice p_p p.length c_p) (((k).toNat) * 18+0)))) (yX (e:=elI) (l:=p) (k:=(k).toNat) jN rfl rfl oo_ (SLe.sub Hp sn) o2_) rfl) rfl ?_;refine sQ (pG (e:=elI) (l:=p) (k:=(k).toNat) (o:=0) tyT rfl (SLe.sub Hp sn) (fU I0 o2_) rfl) rfl ?_;refine go3 ?_;refine aS rfl (.inr rfl) (fB rfl m0 tyT rfl) ?_;exact congrArg vS2 (show _=(i4 p k) from aM h5 rfl)

theorem BL (k:Nat) (c0 T0:Nat) (g_f:Nat) (c_f:List Value) (f:I→I→I) (c1 T1:Nat) (p_p:Option Addr) (c_p:Nat) (p:(List I)) (c2 T2:Nat) (p_q:Option Addr) (c_q:Nat) (q:(List I)) (w:World) (hc0:w.heap[c0]? = some (.cells (dC [cfn g_f c_f]).toArray T0 (0,0))) (hc1:w.heap[c1]? = some (.cells (dC [csl p_p p.length c_p]).toArray T1 (0,0))) (hc2:w.heap[c2]? = some (.cells (dC [csl p_q q.length c_q]).toArray T2 (0,0))) (hf:FnV Tryz.prog w (.func (.func g_f) #[] c_f.toArray) eII (fun _=>True) (SV (fun x:I×I=>f x.1 x.2))) (hp:Slr w elI (.slice p_p p.length c_p) p) (hq:Slr w elI (.slice p_q q.length c_q) q) :
    Calls Tryz.prog 196 [.int .i64 ((k:Nat):Int),.pointer (some ⟨c0,0,none⟩),.pointer (some ⟨c1,0,none⟩),.pointer (some ⟨c2,0,none⟩)].toArray w (fun e w'=>e = .returned (AV [pI (lY k f p q)])∧Ext w w'):=by
 refine cX (N:=14) Tryz.func196 rfl rfl (by simp) ?_;obtain ⟨w0,rfl⟩:∃ w0,w0=w:=⟨_,rfl⟩;have Hf:=hf.get;have Hp:=hp.old;have hm_p:=hp.max;have Hq:=hq.old;have hm_q:=hq.max;simp only [bA,Nat.reduceAdd];refine go2 ?_;intro b1 hb1;refine go_ ?_;refine gds sn [0,4,8,12,16,20,24,28,33] [8] mix (by kernel_rfl) (pQ rfl (hZ (v:=.func (.func g_f) #[] c_f.toArray) tyT rfl hc0 (by simp) rfl) ?_);refine pQ rfl (hZ (v:=.slice p_p p.length c_p) tyT rfl hc1 (by simp) rfl) ?_;refine go_ ?_;refine pQ rfl (aI (v':=AV [pI (i4 p ((k:Nat):Int))]) (bR RH rfl (fun w hw=>BB _ p ((k:Nat):Int) w (aR hw Hp sn))) rfl) (pQ rfl (hZ (v:=.slice p_q q.length c_q) tyT rfl hc2 (by simp) rfl) ?_);refine go_ ?_;refine pQ rfl (aI (v':=AV [pI (i4 q ((k:Nat):Int))]) (bR RH rfl (fun w hw=>BB _ q ((k:Nat):Int) w (aR hw Hq sn))) rfl) (pQ rfl (aI (v':=AV [pI (f (i4 p ((k:Nat):Int)) (i4 q ((k:Nat):Int)))]) (MJ (x:=((i4 p ((k:Nat):Int)),(i4 q ((k:Nat):Int)))) rfl rfl (FnE.sub Hf sn) trivial) rfl) (go3 ?_));refine aS rfl (.inr rfl) (fB rfl m0 tyT rfl) ?_;exact (by rfl)

theorem tI (vp:Value) (p:(List I)) (vq:Value) (q:(List I)) (vf:Value) (f:I→I→I) (w:World) (hp:Slr w elI vp p) (hq:Slr w elI vq q) (hf:FnV Tryz.prog w vf eII (fun _=>True) (SV (fun x:I×I=>f x.1 x.2))) (hpre:p.length≤100∧q.length≤100) :
    Calls Tryz.prog 131 [vp,vq,vf].toArray w (fun e w'=>∃ v,e = .returned (v)∧Ext w w'∧Slo w.heap.size w' 33 elI v (fN p q f)):=by
 obtain ⟨p_p,c_p,rfl⟩:=hp.form;obtain ⟨p_q,c_q,rfl⟩:=hq.form;obtain ⟨g_f,c_f,rfl,Hf⟩:=hf.open;refine fD (n:=21) (fun v=>v) Tryz.func131 rfl rfl (by simp) ?_;obtain ⟨w0,rfl⟩:∃ w0,w0=w:=⟨_,rfl⟩;have Hp:=hp.old;have hm_p:=hp.max;have Hq:=hq.old;have hm_q:=hq.max;simp only [bA,Nat.reduceAdd];refine go2 ?_;intro b1 hb1;refine go_ ?_;intro b2 hb2;refine sX [cfn g_f c_f] rfl rfl rfl fun b3 hb3=>go3 ?_;refine gJv [7,8,9,10,11,12] [(12,.bool ((dQ p)||(dQ q)))] (fun K2 J2=>?_) ?_
 ·refine go2 ?_;refine sQ (aI (v':=.bool (dQ p)) (bR CT rfl (fun w hw=>nA _ p w (aR hw Hp sn))) rfl) rfl ?_;refine sBB rfl (fun h5=>?_) (fun h5=>?_)
  ·refine go4 ?_;refine J2 _ _ pp_ s0 (bQ (oM h5))
  refine go_ ?_;refine sQ (aI (v':=.bool (dQ q)) (bR CT rfl (fun w hw=>nA _ q w (aR hw Hq sn))) rfl) rfl (go2 ?_);refine J2 _ _ pp_ s0 (bQ (mY h5 rfl))
 intro g6;refine aK _ rfl (fun h7=>?_) (fun h7=>?_)
 ·refine go_ ?_;refine aU rfl (bK (E:=33) (e:=elI) (l:=F_poly_bad) (fun v=>v) yP rfl (fun w hw=>lT  w) (fun p8 c9 L10 hF11=>go3 ?_));refine aS rfl (.inr rfl) rfl ?_
  have hE:(F_poly_bad:(List I))=(fN p q f):=by exact aE h7 rfl
  rw [← hE];exact ⟨_,rfl,⟨L10,lZ,hF11⟩⟩
 refine go3 ?_;refine sQ (aI (v':=.int .i64 (((p).length:Nat):Int)) (fR (e:=elI) jN rfl (SLe.sub Hp sn)) rfl) rfl (go_ ?_);refine sQ (aI (v':=.int .i64 (((q).length:Nat):Int)) (fR (e:=elI) jN rfl (SLe.sub Hq sn)) rfl) rfl (sQ (aI (v':=.int .i64 (((max ((p).length) ((q).length)):Nat):Int)) (mB rfl rfl) (congrArg (Value.int .i64) oo_)) rfl (sQ (DQ rfl rfl) rfl (aU rfl (bK (E:=33) (e:=elI) (l:=(fE (((max ((p).length) ((q).length)):Nat):Int) (fun (y:Nat)=>(lY y f p q)) (fun (y:I)=>(iS y)))) (fun v=>v) Q8 rfl (fun w hw=>w4 (((max ((p).length) ((q).length)):Nat):Int) _ (fun (y:Nat)=>(lY y f p q)) _ (fun (y:I)=>(iS y)) w (FnV.mk hw ZN (fun w hw x hx=>BL x _ _ _ _ f _ _ _ _ p _ _ _ _ q w (hw.mem _ m0) (hw.mem _ m2) (hw.mem _ m1) (FnE.ap hw (FnE.sub Hf sn)) (aR hw Hp sn) (aR hw Hq sn))) (FnV.mk hw Q9 (fun w hw x hx=>(yD x) w)) oo_) (fun p12 c13 L14 hF15=>go3 ?_)))));refine aS rfl (.inr rfl) rfl ?_
 have hE:((fE (((max ((p).length) ((q).length)):Nat):Int) (fun (y:Nat)=>(lY y f p q)) (fun (y:I)=>(iS y))):(List I))=(fN p q f):=by exact aM h7 rfl
 rw [← hE];exact ⟨_,rfl,⟨L14,lZ,hF15⟩⟩

theorem fI (vp:Value) (p:(List I)) (vq:Value) (q:(List I)) (w:World) (hp:Slr w elI vp p) (hq:Slr w elI vq q) (hpre:p.length≤100∧q.length≤100) :
    Calls Tryz.prog 69 [vp,vq].toArray w (fun e w'=>∃ v,e = .returned (v)∧Ext w w'∧Slo w.heap.size w' 33 elI v (aT p q)):=by
 obtain ⟨p_p,c_p,rfl⟩:=hp.form;obtain ⟨p_q,c_q,rfl⟩:=hq.form;refine fD (n:=8) (fun v=>v) Tryz.func69 rfl rfl (by simp) ?_;obtain ⟨w0,rfl⟩:∃ w0,w0=w:=⟨_,rfl⟩;have Hp:=hp.old;have hm_p:=hp.max;have Hq:=hq.old;have hm_q:=hq.max;simp only [bA,Nat.reduceAdd];refine go6 ?_;refine aU rfl (bK (E:=33) (e:=elI) (l:=(fN p q (fun (y:I) (z:I)=>(E (Z.add y.dec z.dec))))) (fun v=>v) LF rfl (fun w hw=>tI _ p _ q _ (fun (y:I) (z:I)=>(E (Z.add y.dec z.dec))) w (aR hw Hp sn) (aR hw Hq sn) (FnV.mk hw yO (fun w hw x hx=>(kU x.1.1 x.2.1 x.1.2 x.2.2) w)) oo_) (fun p1 c2 L3 hF4=>go3 ?_));refine aS rfl (.inr rfl) rfl ?_
 have hE:((fN p q (fun (y:I) (z:I)=>(E (Z.add y.dec z.dec)))):(List I))=(aT p q):=by exact rfl
 rw [← hE];exact ⟨_,rfl,⟨L3,lZ,hF4⟩⟩

theorem HC (vp:Value) (p:(List I)) (vq:Value) (q:(List I)) (w:World) (hp:Slr w elI vp p) (hq:Slr w elI vq q) (hpre:p.length≤100∧q.length≤100) :
    Calls Tryz.prog 65 [vp,vq].toArray w (fun e w'=>∃ v,e = .returned (v)∧Ext w w'∧Slo w.heap.size w' 33 elI v (mO p q)):=by
 obtain ⟨p_p,c_p,rfl⟩:=hp.form;obtain ⟨p_q,c_q,rfl⟩:=hq.form;refine fD (n:=8) (fun v=>v) Tryz.func65 rfl rfl (by simp) ?_;obtain ⟨w0,rfl⟩:∃ w0,w0=w:=⟨_,rfl⟩;have Hp:=hp.old;have hm_p:=hp.max;have Hq:=hq.old;have hm_q:=hq.max;simp only [bA,Nat.reduceAdd];refine go6 ?_;refine aU rfl (bK (E:=33) (e:=elI) (l:=(fN p q (fun (y:I) (z:I)=>(E (Z.sub y.dec z.dec))))) (fun v=>v) LF rfl (fun w hw=>tI _ p _ q _ (fun (y:I) (z:I)=>(E (Z.sub y.dec z.dec))) w (aR hw Hp sn) (aR hw Hq sn) (FnV.mk hw Q7 (fun w hw x hx=>(yH x.1.1 x.2.1 x.1.2 x.2.2) w)) oo_) (fun p1 c2 L3 hF4=>go3 ?_));refine aS rfl (.inr rfl) rfl ?_
 have hE:((fN p q (fun (y:I) (z:I)=>(E (Z.sub y.dec z.dec)))):(List I))=(mO p q):=by exact rfl
 rw [← hE];exact ⟨_,rfl,⟨L3,lZ,hF4⟩⟩

theorem DF (k:Nat) (c0 T0:Nat) (p_q:Option Addr) (c_q:Nat) (q:(List I)) (c1 T1:Nat) (p_p:Option Addr) (c_p:Nat) (p:(List I)) (w:World) (hc0:w.heap[c0]? = some (.cells (dC [csl p_q q.length c_q]).toArray T0 (0,0))) (hc1:w.heap[c1]? = some (.cells (dC [csl p_p p.length c_p]).toArray T1 (0,0))) (hq:Slr w elI (.slice p_q q.length c_q) q) (hp:Slr w elI (.slice p_p p.length c_p) p) (hpre:k<300∧p.length≤100∧q.length≤100) :
    Calls Tryz.prog 136 [.int .i64 ((k:Nat):Int),.pointer (some ⟨c0,0,none⟩),.pointer (some ⟨c1,0,none⟩)].toArray w (fun e w'=>e = .returned (AV [pI (kH k q p)])∧Ext w w'):=by
 refine cX (N:=36) Tryz.func136 rfl rfl (by simp) ?_;obtain ⟨w0,rfl⟩:∃ w0,w0=w:=⟨_,rfl⟩;have Hq:=hq.old;have hm_q:=hq.max;have Hp:=hp.old;have hm_p:=hp.max;simp only [bA,Nat.reduceAdd];refine go2 ?_;intro b1 hb1;refine go3 ?_;intro b2 hb2;refine go4 ?_;refine sQ (hZ (v:=.slice p_q q.length c_q) tyT rfl hc0 (by simp) rfl) rfl ?_;refine sQ (aI (v':=.int .i64 (((q).length:Nat):Int)) (fR (e:=elI) jN rfl (SLe.sub Hq sn)) rfl) rfl (sV (.int .i64 (((k:Nat):Int) - (((q).length:Nat):Int))) rfl (congrArg (Value.int .i64) (wx oo_ oo_ oo_)) (sV (.int .i64 ((((k:Nat):Int) - (((q).length:Nat):Int))+1)) rfl (congrArg (Value.int .i64) (wx oo_ oo_ oo_)) (sQ (aI (v':=.int .i64 (((((((k:Nat):Int) - (((q).length:Nat):Int))+1)).toNat:Nat):Int)) (mB rfl rfl) (congrArg (Value.int .i64) oo_)) rfl (go2 ?_))));refine gJ3 [6,13,14,15,16,17,18,19,20,21,22,23,24,25,26,27,28,29,30,31,32,33,34] (fun g M=>∃ (i:Nat) (mb2:I),(fX k q p ((k+2)) ((((((k:Nat):Int) - (((q).length:Nat):Int))+1)).toNat) I0)=(i,mb2)∧(g 6 = .int .i64 ((i:Nat):Int))∧M=[⟨b2,33,dC [pI mb2]⟩,⟨b1,33,dC [pI I0]⟩]) (fun K_u3 hK_u3=>?_) ?_
 ·refine go_ ?_;refine cC [6,13,14,15,16,17,18,19,20,21,22,23,24,25,26,27,28,29,30,31,32,33,34] (fun g nn M=>∃ (i:Nat) (mb2:I),(fX k q p nn i mb2)=(fX k q p ((k+2)) ((((((k:Nat):Int) - (((q).length:Nat):Int))+1)).toNat) I0)∧k+1 - i<nn∧(k+1≤i+q.length)∧(g 6 = .int .i64 ((i:Nat):Int))∧M=[⟨b2,33,dC [pI mb2]⟩,⟨b1,33,dC [pI I0]⟩]) ((k+2)) ?start ?round
  case start=>exact ⟨_,s0,(((((k:Nat):Int) - (((q).length:Nat):Int))+1)).toNat,I0,rfl,o1_,o1_,rfl,rfl⟩
  case round =>
   rintro nn g M ⟨i,mb2,hT0,hq0,hinv0,hg6,rfl⟩;obtain ⟨k0,rfl⟩:∃ m,nn=m+1:=⟨nn - 1,by omega⟩;simp only [eJ,hg6];clear hg6;refine go4 ?_;refine sQ (hZ (v:=.slice p_p p.length c_p) tyT rfl hc1 (by simp) rfl) rfl ?_;refine sQ (aI (v':=.int .i64 (((p).length:Nat):Int)) (fR (e:=elI) jN rfl (SLe.sub Hp sn)) rfl) rfl (sV (.int .i64 ((((p).length:Nat):Int) - 1)) rfl (congrArg (Value.int .i64) (wx oo_ oo_ oo_)) (sQ (aI (v':=.int .i64 (min ((k:Nat):Int) ((((p).length:Nat):Int) - 1))) (DP rfl rfl) (congrArg (Value.int .i64) oo_)) rfl (go2 ?_)));refine aK _ rfl (fun h6=>?_) (fun h6=>?_)
   ·have ph6:=of_decide_eq_true h6;refine go3 ?_;refine gdr (sd s0) [0,4,8,12,16,20,24,28,32,36,40,44,48,53] [13] mix (by kernel_rfl) (go_ ?_);refine pQ rfl (hZ (v:=.slice p_p p.length c_p) tyT rfl hc1 (by simp) rfl) ?_;refine go_ ?_;refine pQ rfl (aI (v':=.pointer (some (slb (.slice p_p p.length c_p) (i * 18+0)))) (nC (e:=elI) (l:=p) (k:=i) jN rfl rfl (SLe.sub Hp sn) o2_) rfl) ?_;refine pQ rfl (pG (e:=elI) (l:=p) (k:=i) (o:=0) tyT rfl (SLe.sub Hp sn) (fU I0 o2_) rfl) ?_;refine pQ rfl (hZ (v:=.slice p_q q.length c_q) tyT rfl hc0 (by simp) rfl) ?_;refine go2 ?_;refine pV (.int .i64 (((k:Nat):Int) - ((i:Nat):Int))) rfl (congrArg (Value.int .i64) (wx oo_ oo_ oo_)) (pQ rfl (aI (v':=.pointer (some (slb (.slice p_q q.length c_q) ((k - i) * 18+0)))) (yX (e:=elI) (l:=q) (k:=(k - i)) jN rfl rfl oo_ (SLe.sub Hq sn) o2_) rfl) ?_);refine pQ rfl (pG (e:=elI) (l:=q) (k:=(k - i)) (o:=0) tyT rfl (SLe.sub Hq sn) (fU I0 o2_) rfl) ?_;refine pC (AV [pI (E (Z.mul (p.getD i I0).dec (q.getD (k - i) I0).dec))]) n6 (eY (p.getD i I0).1 (q.getD (k - i) I0).1 (p.getD i I0).2 (q.getD (k - i) I0).2) rfl rfl rfl (pC (AV [pI (E (Z.add mb2.dec (Z.mul (p.getD i I0).dec (q.getD (k - i) I0).dec)))]) yO (kU mb2.1 (E (Z.mul (p.getD i I0).dec (q.getD (k - i) I0).dec)).1 mb2.2 (E (Z.mul (p.getD i I0).dec (q.getD (k - i) I0).dec)).2) rfl rfl (cg2 (fun p q=>AV [pI (E (Z.add p q))]) rfl (dB _)) (go4 ?_));refine sV (.int .i64 (((i+1):Nat):Int)) rfl (congrArg (Value.int .i64) (wx oo_ oo_ oo_)) (go2 ?_);refine ⟨pp_,_,_,s0,(Nat.lt_succ_self _),(i+1),(E (Z.add mb2.dec (Z.mul (p.getD i I0).dec (q.getD (k - i) I0).dec))),(by exact (hT0.symm.trans (Eq.symm (aE h6 rfl))).symm),(Nat.lt_of_lt_of_le o1_ (Nat.le_of_lt_succ hq0)),o1_,rfl,rfl⟩
   have ph6:=of_decide_eq_false h6;refine go_ ?_;refine hK_u3 _ _ pp_ ⟨_,s0,i,mb2,(by exact hT0.symm.trans (Eq.symm (aM h6 rfl))),rfl,rfl⟩
 rintro g M ⟨i,mb2,hCu3,hg6,rfl⟩;simp only [eJ,hg6];clear hg6;refine go5 ?_;refine aS rfl (.inr rfl) (fB rfl m1 tyT rfl) ?_;exact congrArg vS2 (show _=(kH k q p) from (by unfold kH;exact trs (Eq.symm (apS hCu3)) rfl))

theorem jR (vp:Value) (p:(List I)) (vq:Value) (q:(List I)) (w:World) (hp:Slr w elI vp p) (hq:Slr w elI vq q) (hpre:p.length≤100∧q.length≤100) :
    Calls Tryz.prog 67 [vp,vq].toArray w (fun e w'=>∃ v,e = .returned (v)∧Ext w w'∧Slo w.heap.size w' 33 elI v (aN p q)):=by
 obtain ⟨p_p,c_p,rfl⟩:=hp.form;obtain ⟨p_q,c_q,rfl⟩:=hq.form;refine fD (n:=28) (fun v=>v) Tryz.func67 rfl rfl (by simp) ?_;obtain ⟨w0,rfl⟩:∃ w0,w0=w:=⟨_,rfl⟩;have Hp:=hp.old;have hm_p:=hp.max;have Hq:=hq.old;have hm_q:=hq.max;simp only [bA,Nat.reduceAdd];refine go2 ?_;intro b1 hb1;refine go_ ?_;intro b2 hb2;refine go3 ?_;refine gJv [5,6,7,8,9,10] [(10,.bool ((dQ p)||(dQ q)))] (fun K2 J2=>?_) ?_
 ·refine go2 ?_;refine sQ (aI (v':=.bool (dQ p)) (bR CT rfl (fun w hw=>nA _ p w (aR hw Hp sn))) rfl) rfl ?_;refine sBB rfl (fun h4=>?_) (fun h4=>?_)
  ·refine go4 ?_;refine J2 _ _ pp_ s0 (bQ (oM h4))
  refine go_ ?_;refine sQ (aI (v':=.bool (dQ q)) (bR CT rfl (fun w hw=>nA _ q w (aR hw Hq sn))) rfl) rfl (go2 ?_);refine J2 _ _ pp_ s0 (bQ (mY h4 rfl))
 intro g5;refine aK _ rfl (fun h6=>?_) (fun h6=>?_)
 ·refine go_ ?_;refine aU rfl (bK (E:=33) (e:=elI) (l:=F_poly_bad) (fun v=>v) yP rfl (fun w hw=>lT  w) (fun p7 c8 L9 hF10=>go3 ?_));refine aS rfl (.inr rfl) rfl ?_
  have hE:(F_poly_bad:(List I))=(aN p q):=by exact aE h6 rfl
  rw [← hE];exact ⟨_,rfl,⟨L9,lZ,hF10⟩⟩
 refine go2 ?_;refine gJv [12,13,14,15,16,17,18,19] [(19,.bool (((((p).length:Nat):Int)==0)||((((q).length:Nat):Int)==0)))] (fun K4 J4=>?_) ?_
 ·refine go2 ?_;refine sQ (aI (v':=.int .i64 (((p).length:Nat):Int)) (fR (e:=elI) jN rfl (SLe.sub Hp sn)) rfl) rfl (go_ ?_);refine sBB rfl (fun h12=>?_) (fun h12=>?_)
  ·have ph12:=uY h12;refine go5 ?_;refine J4 _ _ pp_ s0 (bQ (oM h12))
  have ph12:=rV h12;refine go_ ?_;refine sQ (aI (v':=.int .i64 (((q).length:Nat):Int)) (fR (e:=elI) jN rfl (SLe.sub Hq sn)) rfl) rfl (go3 ?_);refine J4 _ _ pp_ s0 (bQ (mY h12 rfl))
 intro g13;refine aK _ rfl (fun h14=>?_) (fun h14=>?_)
 ·refine go4 ?_;refine aS rfl (.inr rfl) rfl ?_
  have hE:(([]:List I):(List I))=(aN p q):=by exact aM h6 (aE h14 rfl)
  rw [← hE];exact ⟨_,rfl,⟨[],sn,OwnG.nil⟩⟩
 have ph15:=rV (Bool.or_eq_false_iff.1 h14).1;have ph16:=rV (Bool.or_eq_false_iff.1 h14).2;refine go3 ?_;refine sQ (aI (v':=.int .i64 (((p).length:Nat):Int)) (fR (e:=elI) jN rfl (SLe.sub Hp sn)) rfl) rfl (go_ ?_);refine sQ (aI (v':=.int .i64 (((q).length:Nat):Int)) (fR (e:=elI) jN rfl (SLe.sub Hq sn)) rfl) rfl (sV (.int .i64 ((((p).length+(q).length):Nat):Int)) rfl (congrArg (Value.int .i64) (wx oo_ oo_ oo_)) (sV (.int .i64 (((((p).length+(q).length):Nat):Int) - 1)) rfl (congrArg (Value.int .i64) (wx oo_ oo_ oo_)) (sQ (DQ rfl rfl) rfl (aU rfl (bK (E:=33) (e:=elI) (l:=(fE (((((p).length+(q).length):Nat):Int) - 1) (fun (y:Nat)=>(kH y q p)) (fun (y:I)=>(iS y)))) (fun v=>v) Q8 rfl (fun w hw=>w4 (((((p).length+(q).length):Nat):Int) - 1) _ (fun (y:Nat)=>(kH y q p)) _ (fun (y:I)=>(iS y)) w (FnV.mk hw Y5 (fun w hw x hx=>DF x _ _ _ _ q _ _ _ _ p w (hw.mem _ m0) (hw.mem _ m1) (aR hw Hq sn) (aR hw Hp sn) (by have hx':((x:Nat):Int)<_:=hx;omega))) (FnV.mk hw Q9 (fun w hw x hx=>(yD x) w)) oo_) (fun p17 c18 L19 hF20=>go3 ?_))))));refine aS rfl (.inr rfl) rfl ?_
 have hE:((fE (((((p).length+(q).length):Nat):Int) - 1) (fun (y:Nat)=>(kH y q p)) (fun (y:I)=>(iS y))):(List I))=(aN p q):=by exact aM h6 (aM h14 rfl)
 rw [← hE];exact ⟨_,rfl,⟨L19,lZ,hF20⟩⟩

theorem AN (a:I) (b:I) (c0 T0:Nat) (n:I) (w:World) (hc0:w.heap[c0]? = some (.cells (dC [pI n]).toArray T0 (0,0))) :
    Calls Tryz.prog 132 [AV [pI a],AV [pI b],.pointer (some ⟨c0,0,none⟩)].toArray w (fun e w'=>e = .returned (AV [pI (k6 a b n)])∧Ext w w'):=by
 refine cX (N:=9) Tryz.func132 rfl rfl (by simp) ?_;obtain ⟨w0,rfl⟩:∃ w0,w0=w:=⟨_,rfl⟩;simp only [bA,Nat.reduceAdd];refine go2 ?_;intro b1 hb1;refine go_ ?_;intro b2 hb2;refine go_ ?_;intro b3 hb3;refine go3 ?_;refine sQ (SZ tyT rfl hc0 (by simp) rfl) rfl ?_;refine sC (AV [pI (E (Z.mul a.dec n.dec))]) n6 (eY a.1 n.1 a.2 n.2) rfl rfl rfl (go3 ?_);refine aS rfl (.inr rfl) (fB rfl m0 tyT rfl) ?_;exact (by rfl)

theorem fK (vp:Value) (p:(List I)) (n:I) (w:World) (hp:Slr w elI vp p) (hpre:p.length≤100) :
    Calls Tryz.prog 63 [vp,AV [pI n]].toArray w (fun e w'=>∃ v,e = .returned (v)∧Ext w w'∧Slo w.heap.size w' 33 elI v (bO p n)):=by
 obtain ⟨p_p,c_p,rfl⟩:=hp.form;refine fD (n:=12) (fun v=>v) Tryz.func63 rfl rfl (by simp) ?_;obtain ⟨w0,rfl⟩:∃ w0,w0=w:=⟨_,rfl⟩;have Hp:=hp.old;have hm_p:=hp.max;simp only [bA,Nat.reduceAdd];refine go2 ?_;intro b1 hb1;refine go5 ?_;refine sQ (aZ GR (qE n) rfl) rfl (go2 ?_);rcases bt (kI n) with h2 | h2
 ·refine W_f (iX h2) rfl (go3 ?_);refine sQ (DQ rfl rfl) rfl (aU rfl (bK (E:=33) (e:=elI) (l:=(fN p ([]:List I) (fun (y:I) (z:I)=>(k6 y z n)))) (fun v=>v) LF rfl (fun w hw=>tI _ p _ ([]:List I) _ (fun (y:I) (z:I)=>(k6 y z n)) w (aR hw Hp sn) (SLe.ap hw (SLfe.sle SLfe.nil)) (FnV.mk hw Y4 (fun w hw x hx=>AN x.1 x.2 _ _ n w (hw.mem _ m0))) o3_) (fun p3 c4 L5 hF6=>?_)));refine go3 ?_;refine aS rfl (.inr rfl) rfl ?_
  have hE:((fN p ([]:List I) (fun (y:I) (z:I)=>(k6 y z n))):(List I))=(bO p n):=by exact aE h2 rfl
  rw [← hE];exact ⟨_,rfl,⟨L5,lZ,hF6⟩⟩
 refine W_t (iY h2) rfl (go_ ?_);refine aU rfl (bK (E:=33) (e:=elI) (l:=F_poly_bad) (fun v=>v) yP rfl (fun w hw=>lT  w) (fun p7 c8 L9 hF10=>go3 ?_));refine aS rfl (.inr rfl) rfl ?_
 have hE:(F_poly_bad:(List I))=(bO p n):=by exact aM h2 rfl
 rw [← hE];exact ⟨_,rfl,⟨L9,lZ,hF10⟩⟩
end Go.Proofs.YtbjlhfochebmiaaGreatDoor


namespace Go.Num
open Go Go.Kn
theorem Z.cases (z:Z):z=Z.bad ∨ ∃ v:Int,v.natAbs<4294967296 ^ 16∧z=Z.of v∧z.o=some v:=by
  cases h:z.o with
  | none=>exact .inl (Z.eq_bad h)
  | some v=>exact .inr ⟨v,z.h v h,Z.eq_of h,rfl⟩
theorem Z.zero_add (z:Z):Z.add (Z.of 0) z=z:=by
  rcases Z.cases z with rfl | ⟨v,_,rfl,hv⟩
  · rfl
  rw [Z.add,cI (Z.of_some dd_) hv,Int.zero_add]
theorem W.ext {a b:W} (h:a.1=b.1):a=b:=Subtype.ext h
structure PrimOk (a:A3 I) (p:A3 W) (x y z g:Int):Prop where
  ax:a.x.dec.o=some x
  ay:a.y.dec.o=some y
  az:a.z.dec.o=some z
  gd:g=((Int.gcd (Int.gcd (Int.gcd 0 x:Nat) y:Nat) z:Nat):Int)
  g0:0<g
  px:g * p.x.1=x
  py:g * p.y.1=y
  pz:g * p.z.1=z
  bx:-2305843009213693952<p.x.1∧p.x.1<2305843009213693952
  bY:-2305843009213693952<p.y.1∧p.y.1<2305843009213693952
  bz:-2305843009213693952<p.z.1∧p.z.1<2305843009213693952
def Z.Is (z:Z) (v:Int):Prop:=z.o=none∨z.o=some v
theorem Z.Is.sign {z:Z} {v:Int} (h:z.Is v):z.o=none∨z.sign=v.sign:=by
  rcases h with h | h
  · exact .inl h
  right;unfold Z.sign;rw [h]
structure Fit (z:Z) (v:Int) (k:Nat):Prop where
  eq:z=Z.of v
  lt:v.natAbs<2 ^ k
theorem df_ {k:Nat} (hk:k≤511) {n:Nat} (h:n<2 ^ k):n<4294967296 ^ 16:=by
  have e:(2:Nat) ^ (32 * 16)=(2 ^ 32) ^ 16:=Nat.pow_mul 2 32 16;exact Nat.lt_of_lt_of_le h (Nat.le_trans (Nat.pow_le_pow_right dd_ (show k≤32 * 16 by omega)) (Nat.le_of_eq e))
theorem Fit.o {z:Z} {v:Int} {k:Nat} (h:Fit z v k) (hk:k≤511):z.o=some v:=by rw [h.eq];exact Z.of_some (df_ hk h.lt)
theorem Fit.mono {z:Z} {v:Int} {k k':Nat} (h:Fit z v k) (hk:k≤k'):Fit z v k':=⟨h.eq,Nat.lt_of_lt_of_le h.lt (Nat.pow_le_pow_right dd_ hk)⟩
theorem Fit.mul {a b:Z} {x y:Int} {k l:Nat} (ha:Fit a x k) (hb:Fit b y l) (hk:k≤511∧l≤511):Fit (Z.mul a b) (x * y) (k+l) :=
  ⟨by rw [Z.mul,cI (ha.o hk.1) (hb.o hk.2)],by rw [Int.natAbs_mul,Nat.pow_add];exact Nat.mul_lt_mul_of_lt_of_lt ha.lt hb.lt⟩
theorem Fit.add {a b:Z} {x y:Int} {k l:Nat} (ha:Fit a x k) (hb:Fit b y l) (hk:k≤511∧l≤511):Fit (Z.add a b) (x+y) (max k l+1):=by
  refine ⟨by rw [Z.add,cI (ha.o hk.1) (hb.o hk.2)],?_⟩;have h1:=(ha.mono (Nat.le_max_left k l)).lt;have h2:=(hb.mono (Nat.le_max_right k l)).lt;rw [Nat.pow_succ];omega
theorem Fit.neg {a:Z} {x:Int} {k:Nat} (ha:Fit a x k) (hk:k≤511):Fit (Z.neg a) (-x) k:=⟨by rw [Z.neg,iJ (ha.o hk)],by rw [Int.natAbs_neg];exact ha.lt⟩
theorem Fit.sub {a b:Z} {x y:Int} {k l:Nat} (ha:Fit a x k) (hb:Fit b y l) (hk:k≤511∧l≤511):Fit (Z.sub a b) (x - y) (max k l+1):=by
  rw [Int.sub_eq_add_neg];exact ha.add (hb.neg hk.2) hk
theorem Fit.sign {z:Z} {v:Int} {k:Nat} (h:Fit z v k) (hk:k≤511):z.sign=v.sign:=by unfold Z.sign;rw [h.o hk]
theorem C6 (l:List I) (f:I→Bool):∀ (k i:Nat),l.length - i<k→(∃ j:Nat,j<l.length∧gP l f k i = .inr (W.cv (j:Int))∧(l.drop i).any f=true)∨(∃ j,gP l f k i = .inl j∧(l.drop i).any f=false)
  | 0,i,h=>absurd h (Nat.not_lt_zero _)
  | k+1,i,h=>by
    unfold gP
    by_cases hi:i<l.length
    · rw [decide_eq_true oo_,cond_true,CQ l hi,List.any_cons]
      cases hf:f (l.getD i I0)
      · simp only [cond_false,Bool.false_or]
        exact C6 l f k (i+1) oo_
      exact .inl ⟨i,hi,rfl,rfl⟩
    rw [decide_eq_false oo_,cond_false,List.drop_of_length_le oo_];exact .inr ⟨i,rfl,rfl⟩
theorem IF (l:List I) (f:I→Bool) (hl:l.length≤1000):mN l f=l.any f:=by
  unfold mN oA;rcases C6 l f (l.length+1) 0 oo_ with ⟨j,hj,h1,h2⟩ | ⟨j,h1,h2⟩
  · rw [h1]
    show decide (0≤(W.cv (j:Int)).1)=_
    rw [cvE oo_,decide_eq_true oo_];rw [List.drop_zero] at h2;exact h2.symm
  rw [h1];rw [List.drop_zero] at h2;rw [h2];rfl
theorem UP (l:List I):(l.any fun y=>!gdI y) = !l.all gdI:=by
  induction l with
  | nil=>rfl
  | cons x l ih =>
    rw [List.any_cons,List.all_cons,ih]
    cases gdI x <;> rfl
theorem GC {p:List I} (h:p.length≤1000):dQ p = !p.all gdI:=by
  unfold dQ;rw [IF _ _ h];exact UP p
theorem rD {l:List I} {k:Nat} (h:l.length≤k):l.getD k I0=I0:=by simp [List.getD,List.getElem?_eq_none h]
theorem QE (p:List I) (k:Nat):i4 p (k:Int)=p.getD k I0:=by
  unfold i4;rw [decide_eq_false oo_,Bool.false_or,Int.toNat_natCast]
  by_cases h:p.length≤k
  · rw [decide_eq_true oo_,cond_true,rD h]
  rw [decide_eq_false oo_,cond_false]
theorem U9 {p q:List I} (f:I→I→I) (hp:p.length≤1000) (hq:q.length≤1000):fN p q f=bif (p.all gdI&&q.all gdI) then mkP ((List.range (max p.length q.length)).map fun k=>f (p.getD k I0) (q.getD k I0)) else badp:=by
  unfold fN;rw [GC hp,GC hq,tW,Int.toNat_natCast]
  have e:((List.range (max p.length q.length)).map fun j=>iS (lY j f p q))=(List.range (max p.length q.length)).map fun k=>f (p.getD k I0) (q.getD k I0):=List.map_congr_left fun k _=>by
    show f (i4 p (k:Int)) (i4 q (k:Int))=_
    rw [QE,QE]
  rw [e]
  cases p.all gdI <;> cases q.all gdI <;> rfl
theorem zr0:zrI I0=true:=by decide +kernel
def bg_ (n:Nat) (r:List I):Prop:=∀ j:Nat,n≤j→zrI (r.getD j I0)=true
theorem BG {n:Nat}:∀ (m:Nat) (r:List I),r.length≤m→bg_ n r→(iZ r).length≤n
  | 0,r,h,_=>by
    have:r=[]:=List.eq_nil_of_length_eq_zero oo_;rw [this];exact Nat.zero_le _
  | m+1,r,h,hz=>by
    by_cases hn:r.length≤n
    · exact Nat.le_trans (D6 r) hn
    rcases sF r with rfl | ⟨s,x,rfl⟩
    · exact Nat.zero_le _
    simp only [List.length_append,List.length_cons,List.length_nil] at hn h;have hx:=hz s.length oo_;rw [show (s ++ [x]).getD s.length I0=x by simp] at hx;rw [pU,hx,cond_true];refine BG m s oo_ (fun j hj=>?_)
    by_cases hjs:j<s.length
    · have:=hz j hj
      rwa [show (s ++ [x]).getD j I0=s.getD j I0 by simp [List.getD,List.getElem?_append_left hjs]] at this
    rw [rD oo_];exact zr0
theorem NK (l:List I):sO l=mkP l:=by
  unfold sO;rw [tW,Int.toNat_natCast]
  congr 1
  refine List.ext_getElem? fun k=>?_
  by_cases h:k<l.length
  · simp [h,iS,yC]
  simp [h]
end Go.Num

