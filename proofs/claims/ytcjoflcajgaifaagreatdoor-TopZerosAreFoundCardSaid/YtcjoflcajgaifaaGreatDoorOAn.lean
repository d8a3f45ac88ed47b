/- Lemmas: what they ask stands in their statements. -/
import Derived.Test.YtcjoflcajgaifaaGreatDoorOAm
set_option linter.unusedSimpArgs false
set_option linter.unusedVariables false
namespace Go.Num
open Go Go.Kn
open QP (Dv Dg Irr Chain Sf)
theorem bY_ (p:List I):lA (fun k=>vI (p.getD k I0)):=⟨p.length,fun i hi=>by show vI (p.getD i I0)=0;rw [lF hi,vI0]⟩
noncomputable def qp (p:List I):QP:=ZP (fun k=>vI (p.getD k I0)) (bY_ p)
theorem oG {p:List I} {c:Nat→Int} (h:Po p c) (e:lA c):qp p=ZP c e:=QP.ex fun k=>by unfold qp;rw [j6,j6,h.c k]
theorem L7:qp []=QP.C 0:=QP.ex fun k=>by
 rw [oG BY BY.ends,j6,QP.C0_c];rfl
def Gp (p:List I):Prop:=Rgt p∧p.all gdI=true∧p≠[]
theorem Gp.po {p:List I} (h:Gp p):∃ c,Po p c:=⟨_,RS h.1 h.2.1⟩
theorem Gp.ne {p:List I} (h:Gp p):qp p≠QP.C 0:=by
 obtain ⟨c,hc⟩:=h.po;rw [oG hc hc.ends];exact UN hc.ends (hc.ne_nil h.2.2)
inductive RL:List QP→Prop
 | one (a:QP):RL [a]
 | two (b a:QP):RL [b,a]
 | step (c b a q:QP) (l:List QP) (s t:Rat) (hs:0<s) (ht:0<t) (h:QP.C s*a+QP.C t*c=q*b) (hr:RL (b::a::l)):RL (c::b::a::l)
theorem RL.tail {c b:QP} {l:List QP} (h:RL (c::b::l)):RL (b::l):=by
 cases h with
 | two=>exact .one _
 | step _ _ _ q l s t hs ht h hr=>exact hr
theorem PS:∀ (R:List QP) (b c:QP) (l:List QP),RL (c::b::R)→Chain (b::c::l)→Chain (R.reverse++(b::c::l))
 | [],b,c,l,_,h=>h
 | a::R,b,c,l,hr,h=>by
  cases hr with
  | step _ _ _ q _ s t hs ht e hr =>
   rw [List.reverse_cons,List.append_assoc];refine PS R a b (c::l) hr (.step a b c q l s t hs ht (fun x=>?_) h);have:=congrArg (fun y:QP=>y.ev x) e;simp only [QP.ev_add,QP.ev_mul,QP.ev_C] at this;exact this
theorem RL.dv {d:QP}:∀ (l:List QP) (b a:QP),RL (b::a::l)→Dv d b→Dv d a→∀ e∈l,Dv d e
 | [],_,_,_,_,_,e,he=>by cases he
 | x::l,b,a,hr,hb,ha,e,he=>by
  cases hr with
  | step _ _ _ q _ s t hs ht h hr =>
   have hx:Dv d x:=by
    have s0:s≠0:=by grind
    refine QP.Dv.scale s0 ?_
    have h1:QP.C s*x=q*a+QP.C (-1)*(QP.C t*b):=by
     rw [← h];exact QP.ex fun k=>by simp only [QP.add_c,QP.C_mul];grind
    rw [h1];exact (ha.mul_l _).add ((hb.mul_l _).mul_l _)
   rcases List.mem_cons.1 he with rfl|he
   ·exact hx
   exact RL.dv l a x hr ha hx e he
theorem z9:bL badp (E (Z.of (-1)))=badp:=by kernel_rfl
theorem eB_ {a b:List I} {α β:Nat→Int} (ha:Po a α) (hb:Po b β) (h0:b≠[]) (hg:(aC (bL (aX a b) (E (Z.of (-1))))).all gdI=true) :
  ∃ γ:Nat→Int,Po (aC (bL (aX a b) (E (Z.of (-1))))) γ∧∃ (s t:Rat) (q:QP),0<s∧0<t∧QP.C s*qp a+QP.C t*qp (aC (bL (aX a b) (E (Z.of (-1)))))=q*qp b:=by
 obtain ⟨n,n1,n2,n3⟩:=hb.top h0;rcases cw_ ha hb n1 with hr|hr
 ·rw [hr,z9,qM,dZ] at hg;cases hg
 have hs:Po (bL (aX a b) (E (Z.of (-1)))) _:=NC hr dd_ (fun k=>by have:=hr.B k;unfold B512 at *;rwa [Int.mul_neg_one,Int.natAbs_neg]);obtain ⟨γ,t,_,t0,hγ,e1,_⟩:=sL hs;obtain ⟨Q,hQ,hq⟩:=EU (a:=((β n).natAbs:Int)) (o:=(β n).sign) (d:=β) (n:=n) (a.length - n) α;refine ⟨γ,hγ,((((β n).natAbs:Int) ^ (a.length - n):Int):Rat),(t:Rat),ZP Q hQ,?_,?_,?_⟩
 ·exact Rat.intCast_pos.2 (Int.pow_pos oo_)
 ·exact Rat.intCast_pos.2 t0
 rw [oG ha ha.ends,oG hγ hγ.ends,oG hb hb.ends,QP.mul_comm' (ZP Q hQ),← oN hb.ends hQ];refine QP.ex fun k=>?_;rw [QP.add_c,QP.C_mul,QP.C_mul,j6,j6,j6,← Rat.intCast_mul,← Rat.intCast_mul,← Rat.intCast_add]
 congr 1
 have h1:=hq k;have h2:=e1 k;rw [← h2,h1];omega
theorem FO (pre:List (List I)) (x y:List I):((pre++[x])++[y]).getD (((pre++[x])++[y]).length - 2) []=x:=by
 simp [List.getD_eq_getElem?_getD]
theorem c5_ (p:List I):∀ (k:Nat) (pre:List (List I)) (last next:List I),(∀ x∈pre++[last],Gp x)→Rgt next→RL (qp next::qp last::pre.reverse.map qp)→gmP next<k →
  cK p k (pre++[last]) next = .inr ([],false) ∨ ∃ (pre':List (List I)) (last':List I),cK p k (pre++[last]) next = .inl (pre'++[last'],[])∧(∀ x∈pre'++[last'],Gp x)∧RL (qp []::qp last'::pre'.reverse.map qp)∧∃ t,pre'++[last']=pre++[last]++t∧(next≠[]→∃ t',t=next::t')∧(next=[]→t=[])
 | 0,pre,last,next,_,_,_,hk=>absurd hk (Nat.not_lt_zero _)
 | k+1,pre,last,next,hG,hR,hr,hk=>by
  unfold cK
  by_cases h0:next=[]
  ·subst h0
   exact .inr ⟨pre,last,rfl,hG,hr,[],by simp,fun h=>absurd O h,fun _=>rfl⟩
  have hl:0<next.length:=List.length_pos_iff.2 h0
  rw [decide_eq_true (show 0<(next.length:Int) by omega),cond_true,FO,yU]
  cases hn:next.all gdI
  ·have hb:next=badp:=y3 hR hn
   left
   have hrem:aX last next=badp:=GT _ _ (ae_ hR) hn
   rw [hrem,z9,qM,vM,cond_true]
  have hGn:Gp next:=⟨hR,hn,h0⟩
  obtain ⟨β,hβ⟩:=hGn.po;obtain ⟨α,hα⟩:=(hG last (by simp)).po;have hlen:=cF (bL (aX last next) (E (Z.of (-1))))
  cases hb:aS (aC (bL (aX last next) (E (Z.of (-1)))))
  ·rw [nK oo_] at hb
   have hg:(aC (bL (aX last next) (E (Z.of (-1))))).all gdI=true:=by simpa using hb
   obtain ⟨γ,hγ,s,t,q,hs,ht,e⟩:=eB_ hα hβ h0 hg
   have hd:gmP (aC (bL (aX last next) (E (Z.of (-1)))))<gmP next:=by
    have h1:=(MO (MC hR) hg).2;unfold gmP;rw [hg,hn,cond_true,cond_true];omega
   rw [cond_false]
   rcases c5_ p k (pre++[last]) next _ (fun x hx=>by
    rcases List.mem_append.1 hx with hx|hx
    ·exact hG x hx
    rw [List.mem_singleton.1 hx];exact hGn) hγ.rgt (by
    rw [List.reverse_append]
    exact .step _ _ _ q _ s t hs ht e hr) oo_ with h1|⟨pre',last',h1,h2,h3,u,h4,_,_⟩
   ·exact .inl h1
   exact .inr ⟨pre',last',h1,h2,h3,next::u,by rw [h4];simp,fun _=>⟨u,rfl⟩,fun h=>absurd h h0⟩
  exact .inl O
theorem ID (p:List I) (out:List (List I)) (next:List I):∀ l:List (List I),(∀ x∈l,Gp x)→cP p out next l = .inl ()
 | [],_=>rfl
 | x::l,h=>by
  unfold cP;obtain ⟨c,hc⟩:=(h x (List.mem_cons_self)).po;rw [hc.nb,cond_false]
  exact ID p out next l fun y hy=>h y (List.mem_cons_of_mem _ hy)
structure St (p:List I) (L:List (List I)):Prop where
 g:∀ x∈L,Gp x
 s:∃ f l,(L=f::l∧f=aN p)∧Rad (qp p) (qp f)∧Sf (qp p) (qp f) (L.map qp)∧(l=[] ∨ ∃ (g:List I) (l':List (List I)) (κ:Rat),l=g::l'∧Chain (L.map qp)∧0<κ∧∀ x,(qp g).ev x=κ*(QP.D (qp f)).ev x)
theorem ch_ {p:List I} (hp:Gp p):aI p=([],false)∨((aI p).2=true∧St p (aI p).1):=by
 obtain ⟨c,hc⟩:=hp.po
 have bad_next:∀ (f next:List I),next=badp→cK p (gmP next+1) [f] next = .inr ([],false):=fun f next h=>by
  subst h
  have h1:gmP badp+1=1+1:=by unfold gmP;rw [dZ];rfl
  rw [h1];unfold cK;rw [show decide (0<(badp.length:Int))=true from by kernel_rfl,cond_true,yU,GT _ _ dd_ dZ,z9,qM,vM,cond_true]
 unfold aI;rcases dj_ hc hp.2.2 with hf|⟨F,hF,hR⟩
 ·left
  rw [hf,show aC (aD badp)=badp by kernel_rfl,bad_next _ _ O];rfl
 have hpq:ZP c hc.ends=qp p:=(oG hc _).symm;have hfq:ZP F hF.ends=qp (aN p):=(oG hF _).symm;rw [hpq,hfq] at hR;have hf0:aN p≠[]:=fun e=>hR.ne (by rw [e];exact L7);have hGf:Gp (aN p):=⟨hF.rgt,hF.g,hf0⟩;rcases M6 hF with hd|hd
 ·left
  rw [hd,qM,bad_next _ _ O];rfl
 obtain ⟨γ,t,_,t0,hγ,e1,_⟩:=sL hd;have tq:0<(t:Rat):=Rat.intCast_pos.2 t0
 have hgD:∀ x,(qp (aC (aD (aN p)))).ev x=(t:Rat)⁻¹*(QP.D (qp (aN p))).ev x:=fun x=>by
  have e2:QP.D (qp (aN p))=QP.C (t:Rat)*qp (aC (aD (aN p))):=QP.ex fun k=>by
   rw [oG hF hF.ends,oG hγ hγ.ends,← cz_,j6,QP.C_mul,j6,e1 k,Rat.intCast_mul]
  rw [e2,QP.ev_mul,QP.ev_C,← Rat.mul_assoc,Rat.inv_mul_cancel _ (by grind),Rat.one_mul]
 rcases c5_ p (gmP (aC (aD (aN p)))+1) [] (aN p) (aC (aD (aN p))) (fun x hx=>by rw [List.mem_singleton.1 hx];exact hGf) hγ.rgt (.two _ _) (Nat.lt_succ_self _) with h1|⟨pre,last,h1,h2,h3,u,h4,h5,h6⟩
 ·left
  rw [List.nil_append] at h1;rw [h1];rfl
 right
 rw [List.nil_append] at h1 h4;rw [h1]
 show (sm (fun (_:Unit)=>(pre++[last],true)) (fun r=>r) (cP p (pre++[last]) [] (pre++[last]))).2=true∧St p (sm (fun (_:Unit)=>(pre++[last],true)) (fun r=>r) (cP p (pre++[last]) [] (pre++[last]))).1
 rw [ID p _ _ _ h2];refine ⟨rfl,h2,?_⟩
 show ∃ f l,(pre++[last]=f::l∧f=aN p)∧_
 obtain ⟨n,hn⟩:=hR.up
 by_cases hnx:aC (aD (aN p))=[]
 ·have hu:=h6 hnx
  subst hu;rw [List.append_nil] at h4;rw [h4];refine ⟨_,[],⟨rfl,rfl⟩,hR,?_,.inl O⟩
  -- a constant
  have hz:∀ k,dI F k=0:=fun k=>by rw [e1 k,BC hγ hnx k,Int.mul_zero]
  have hC:qp (aN p)=QP.C ((qp (aN p)).c 0):=by
   obtain ⟨m,hm⟩:=QP.ex_dg hR.ne
   cases m with
   | zero=>exact QP.dg_C hm
   | succ m =>
    exfalso
    have:=hz m;unfold dI at this
    have h7:F (m+1)=0:=by
     rcases Int.mul_eq_zero.1 this with h|h
     ·omega
     exact h
    refine hm.1 ?_;rw [oG hF hF.ends,j6,h7];rfl
  have hc0:(qp (aN p)).c 0≠0:=fun e=>hR.ne (by rw [hC,e])
  show Sf (qp p) (qp (aN p)) [qp (aN p)]
  rw [hC] at hn ⊢;exact Sf.one hc0 hn
 obtain ⟨u',hu⟩:=h5 hnx;subst hu;rw [h4]
 have hL:pre≠[]:=fun e=>by
  rw [e,List.nil_append] at h4;have:=congrArg List.length h4
  simp at this
 obtain ⟨pr,a,hpa⟩:∃ pr a,pre=pr++[a]:=⟨pre.dropLast,pre.getLast hL,(List.dropLast_concat_getLast hL).symm⟩;subst hpa;rw [List.reverse_append,L7] at h3;have h3':RL (QP.C 0::qp last::qp a::pr.reverse.map qp):=h3
 -- the last one divides all
 have hlast:Dv (qp last) (qp a):=by
  cases h3' with
  | step _ _ _ q _ s t hs ht e hr =>
   refine QP.Dv.scale (show s≠0 by grind) ⟨q,?_⟩;rw [QP.mul_zero',QP.add_zero'] at e;rw [e,QP.mul_comm']
 have hall:=RL.dv (d:=qp last) _ _ _ h3'.tail (.refl _) hlast
 have hmem:∀ x∈(aN p)::aC (aD (aN p))::u',Dv (qp last) (qp x):=fun x hx=>by
  have hx':x∈pr++[a]++[last]:=by rw [h4];simpa using hx
  rcases List.mem_append.1 hx' with hx'|hx'
  ·rcases List.mem_append.1 hx' with hx'|hx'
   ·exact hall _ (List.mem_map_of_mem (List.mem_reverse.2 hx'))
   rw [List.mem_singleton.1 hx'];exact hlast
  rw [List.mem_singleton.1 hx'];exact .refl _
 have d1:=hmem _ (List.mem_cons_self)
 have d2:Dv (qp last) (QP.D (qp (aN p))):=by
  have:=hmem (aC (aD (aN p))) (by simp);rw [oG hF hF.ends,← cz_]
  have e2:ZP (dI F) (SI hF.ends)=QP.C (t:Rat)*qp (aC (aD (aN p))):=QP.ex fun k=>by rw [QP.C_mul,oG hγ hγ.ends,j6,j6,e1 k,Rat.intCast_mul]
  rw [e2];exact this.mul_l _
 have hln:=(h2 last (by simp)).ne;obtain ⟨m,hm⟩:=QP.ex_dg hln;have hm0:=QP.sqf_co hR.sq d1 d2 hm;subst hm0;have hC:=QP.dg_C hm;have ht0:(qp last).c 0≠0:=hm.1
 have hch:Chain ((pr++[a]++[last]).map qp):=by
  have h7:=PS (pr.reverse.map qp) (qp a) (qp last) [] h3'.tail (by rw [hC];exact .one _ _ ht0);rw [← List.map_reverse,List.reverse_reverse] at h7
  simpa using h7
 refine ⟨_,aC (aD (aN p))::u',⟨rfl,rfl⟩,hR,?_,.inr ⟨_,u',(t:Rat)⁻¹,rfl,?_,Rat.inv_pos.2 tq,hgD⟩⟩
 ·rw [h4] at hch
  exact Sf.of hch (Rat.inv_pos.2 tq) hgD hn hR.dv
 rw [h4] at hch;exact hch
open QP (sg sgs vr V xZ ai_ Dv Chain Sf)
def Ex (m:I) (v:Int):Prop:=∃ z,m=E z∧Zx z v
theorem fR_ {v:Int} {d q:Rat} (hd:0<d) (h:(v:Rat)=d*q):sg q=v.sign:=by
 rcases xZ q with ⟨e,k⟩|⟨e,k⟩|⟨e,k⟩
 ·have h1:(0:Rat)<(v:Rat):=by rw [h];exact Rat.mul_pos hd k
  rw [e,Int.sign_eq_one_of_pos (Rat.intCast_pos.1 h1)]
 ·have h1:(0:Rat)<((-v:Int):Rat):=by
   have:=Rat.mul_pos hd (show (0:Rat) < -q by grind);rw [Rat.intCast_neg,h];grind
  have:=Rat.intCast_pos.1 h1;rw [e,Int.sign_eq_neg_one_of_neg oo_]
 have h1:(v:Rat)=((0:Int):Rat):=by rw [h,k,Rat.mul_zero];rfl
 rw [e,Rat.intCast_inj.1 h1];rfl
section
variable {p:List I} {c:Nat→Int} {x:Rt} {N D:Int}
theorem UI (h:Po p c) (hx:x.Is N D):∀ (f t:Nat) (i:Int) (m:I),t≤p.length→i=(p.length:Int) - 1 - t→p.length - t<f→Ex m (Go.Num.hv c N D p.length t) →
  Ex (fS p x f i m).2 (Go.Num.hv c N D p.length p.length)
 | 0,t,i,m,_,_,hf,_=>absurd hf (Nat.not_lt_zero _)
 | f+1,t,i,m,ht,hi,hf,hm=>by
  unfold fS
  by_cases h0:0≤i
  ·rw [decide_eq_true h0,cond_true]
   have hl:t<p.length:=by omega
   have e1:i.toNat=p.length - 1 - t:=by omega
   have e2:p.length - 1 - i.toNat=t:=by omega
   simp only;refine UI h hx f (t+1) _ _ oo_ oo_ oo_ ⟨_,rfl,?_⟩;obtain ⟨z,rfl,hz⟩:=hm;rw [e2,z4 _ _ (show t<max (p.length:Int).toNat 1 by omega),hx.ed,e1,h.get,hx.en,bW,bW,bW,bW];have h1:Zx (pw (E (Z.of D)) t).dec (D ^ t):=fC_ (x:=E (Z.of D)) (.of D) t;exact (hz.mul (.of N)).add ((Zx.of _).mul h1)
  rw [decide_eq_false h0,cond_false]
  obtain rfl:t=p.length:=by omega
  exact hm
theorem co_ (h:Po p c) (hx:x.Is N D):Ex (dY p x).1 (Go.Num.hv c N D p.length p.length):=by
 unfold dY;rw [h.nb,YB,i7,yL hx];exact UI h hx (p.length+1) 0 ((p.length:Int) - 1) I0 (Nat.zero_le _) oo_ oo_ ⟨Z.of 0,aU_,.of 0⟩
theorem WH {q:Rat} (h:Po p c) (hx:x.At q) (hs:(bP p x).2=true):(bP p x).1.1=sg ((qp p).ev q):=by
 have ix:=At.is hx;obtain ⟨z,hz,hv⟩:=co_ h ix;unfold bP at hs ⊢;rw [hz] at hs ⊢;rcases hv.cases with hb|⟨he,hB⟩
 ·have hs:(!(E z).1.bad)=true:=hs
  rw [hb] at hs;cases hs
 show (Z.signW (E z).dec).1=_
 rw [he,bW,i6 hB];have hp:=@jW q;have hv:=QZ (c:=c) (L:=p.length) (N:=q.num) (D:=(q.den:Int)) vK hp;rw [oG h h.ends,QP.ev_vl (n:=p.length) (fun i hi=>by rw [j6,h.zero hi];rfl)];exact (fR_ (d:=((q.den:Int):Rat) ^ (p.length - 1)) (by rw [← Rat.intCast_pow];exact Rat.intCast_pos.2 (Int.pow_pos hp)) hv).symm
end
theorem H9 {p:List I} {x:Rt} (hs:(bP p x).2=true):∃ q,x.At q:=by
 refine EH ?_
 cases hg:bA x
 ·exfalso
  unfold bP dY at hs;rw [YB,i7,hg,show (aS p || !false)=true by simp,cond_true] at hs;exact absurd hs (by decide +kernel)
 rfl
theorem ND (p:List I) (x:Rt):-1≤(bP p x).1.1∧(bP p x).1.1≤1:=sgW _
theorem SE (c:List (List I)) (x:Rt) {q:Rat} (hx:x.At q):∀ (l:List (List I)) (s n:W),(∀ f∈l,Gp f)→0≤n.1→n.1+l.length≤1000 →
  dK c x l s n = .inr (wl 0,false)∨((∀ f∈l,(bP f x).2=true)∧∃ s' n':W,dK c x l s n = .inl (s',n')∧n'.1=n.1+(vr s.1 (sgs (l.map qp) q):Nat))
 | [],s,n,_,_,_=>.inr ⟨fun f hf=>(by cases hf),s,n,rfl,(Int.add_zero _).symm⟩
 | f::l,s,n,hl,h0,h1=>by
  unfold dK
  cases hs:(bP f x).2
  ·exact .inl O
  rw [cond_true];obtain ⟨c0,hc⟩:=(hl f (List.mem_cons_self)).po;have hv:=WH hc hx hs;have hr:=ND f x;have hl':∀ g∈l,Gp g:=fun g hg=>hl g (List.mem_cons_of_mem _ hg);have e1:sgs ((f::l).map qp) q=sg ((qp f).ev q)::sgs (l.map qp) q:=rfl;rw [e1,← hv]
  have hln:((f::l).length:Int)=(l.length:Int)+1:=by simp
  have both:∀ {P:W→Prop},(∀ g∈l,(bP g x).2=true)→∀ g∈f::l,(bP g x).2=true:=fun h g hg=>by
   rcases List.mem_cons.1 hg with rfl|hg
   ·exact hs
   exact h g hg
  by_cases z0:(bP f x).1.1=0
  ·rw [show ((bP f x).1.1 != 0)=false by simp [z0],cond_false]
   rcases SE c x hx l s n hl' h0 oo_ with h|⟨ha,s',n',h,hn⟩
   ·exact .inl h
   refine .inr ⟨both (P:=fun _=>True) ha,s',n',h,?_⟩;rw [vr,if_pos z0];exact hn
  rw [show ((bP f x).1.1 != 0)=true by simp [z0],cond_true,show ((bP f x).1.1==(-2))=false by simp;omega,cond_false];rw [vr,if_neg z0]
  by_cases z1:s.1≠0∧(bP f x).1.1≠s.1
  ·rw [show ((s.1 != 0)&&((bP f x).1.1 != s.1))=true by simp [z1.1,z1.2],cond_true,if_pos z1]
   have en:(W.add n (wl 1)).1=n.1+1:=by
    show IntKind.i64.wrap (n.1+1)=n.1+1
    rw [wi oo_]
   rcases SE c x hx l (bP f x).1 (W.add n (wl 1)) hl' oo_ oo_ with h|⟨ha,s',n',h,hn⟩
   ·exact .inl h
   exact .inr ⟨both (P:=fun _=>True) ha,s',n',h,by omega⟩
  rw [show ((s.1 != 0)&&((bP f x).1.1 != s.1))=false by
   rcases Decidable.not_and_iff_or_not.1 z1 with k|k
   ·simp at k;simp [k]
   simp at k;simp [k],cond_false,if_neg z1]
  rcases SE c x hx l (bP f x).1 n hl' h0 oo_ with h|⟨ha,s',n',h,hn⟩
  ·exact .inl h
  exact .inr ⟨both (P:=fun _=>True) ha,s',n',h,by omega⟩
theorem II {L:List (List I)} {x:Rt} (hL:∀ f∈L,Gp f) (hl:L.length≤100) (h0:L≠[]) (hs:(bV L x).2=true) :
  (∀ f∈L,(bP f x).2=true)∧∃ q,x.At q∧(bV L x).1.1=(V (L.map qp) q:Nat):=by
 obtain ⟨f,l,rfl⟩:∃ f l,L=f::l:=by
  cases L with
  | nil=>exact absurd O h0
  | cons f l=>exact ⟨f,l,rfl⟩
 have hg:(bP f x).2=true:=by
  cases hs0:(bP f x).2
  ·unfold bV dK at hs
   rw [hs0] at hs;cases hs
  rfl
 obtain ⟨q,hq⟩:=H9 hg;rcases SE (f::l) x hq (f::l) (wl 0) (wl 0) hL dd_ (by show (0:Int)+_≤_;omega) with h|⟨ha,s',n',h,hn⟩
 ·unfold bV at hs
  rw [h] at hs;cases hs
 refine ⟨ha,q,hq,?_⟩;unfold bV;rw [h]
 show n'.1=_
 rw [hn]
 show (0:Int)+_=_
 rw [Int.zero_add];rfl
theorem UK:∀ (l:List Int) (s:Int),vr s l≤l.length
 | [],s=>Nat.le_refl _
 | x::l,s=>by
  have h1:=UK l s;have h2:=UK l x;rw [vr];simp only [List.length_cons]
  split
  ·omega
  split<;>omega
theorem do_ (L:List QP) (q:Rat):V L q≤L.length:=by
 have:=UK (sgs L q) 0;unfold sgs at this
 rwa [List.length_map] at this
theorem as_ (p:List I):∀ (k:Nat) (out:List (List I)) (next:List I) (s:List (List I)×List I),cK p k out next = .inl s→s.1.length≤out.length+k
 | 0,out,next,s,h=>by cases h;exact Nat.le_refl _
 | k+1,out,next,s,h=>by
  unfold cK at h
  cases h0:decide (0<(next.length:Int))
  ·rw [h0,cond_false] at h;cases h;exact Nat.le_add_right _ _
  rw [h0,cond_true] at h
  cases hb:aS (aC (bL (aX ((out++[next]).getD ((out++[next]).length - 2) []) ((out++[next]).getD ((out++[next]).length - 1) [])) (E (Z.of (-1)))))
  ·rw [hb,cond_false] at h
   have:=as_ p k _ _ s h;rw [List.length_append] at this;simp only [List.length_singleton] at this;omega
  rw [hb,cond_true] at h;cases h
theorem qN (p:List I):(aI p).1.length≤100:=by
 unfold aI;have hk:gmP (aC (aD (aN p)))+1≤51:=Nat.succ_le_succ (YI (cF (aD (aN p))));generalize gmP (aC (aD (aN p)))+1=K at hk ⊢
 cases h1:cK p K [aN p] (aC (aD (aN p))) with
 | inr r =>
  have h0:=G3 p K [aN p] (aC (aD (aN p))) (P5 (qU p)) (cF _)
  show r.1.length≤100
  rw [h0.2 r h1];exact Nat.zero_le _
 | inl s =>
  have h2:=as_ p _ _ _ s h1
  show (sm (fun (_:Unit)=>(s.1,true)) (fun r=>r) (cP p s.1 s.2 s.1)).1.length≤100
  cases h3:cP p s.1 s.2 s.1 with
  | inr r =>
   show r.1.length≤100
   rw [G4 _ _ _ _ r h3];exact Nat.zero_le _
  | inl u =>
   show s.1.length≤100
   simp only [List.length_singleton] at h2;omega
theorem St.ne {p:List I} {L:List (List I)} (h:St p L):L≠[]:=by
 obtain ⟨f,l,e,_⟩:=h.s;rw [e.1];exact List.cons_ne_nil _ _
structure Cx (L:List (List I)) (a b:Rt) (n:Int) (qa qb:Rat):Prop where
 a:a.At qa
 b:b.At qb
 n:n=(V (L.map qp) qa:Int) - (V (L.map qp) qb:Int)
theorem tJ {p:List I} {L:List (List I)} {a b:Rt} (h:St p L) (hl:L.length≤100) (hs:(aK L a b).2=true):∃ qa qb,Cx L a b (aK L a b).1.1 qa qb:=by
 unfold aK at hs ⊢;have hs:=Bool.and_eq_true_iff.1 hs;obtain ⟨_,qa,ha,va⟩:=II h.g hl h.ne hs.1;obtain ⟨_,qb,hb,vb⟩:=II h.g hl h.ne hs.2;refine ⟨qa,qb,ha,hb,?_⟩
 show IntKind.i64.wrap ((bV L a).1.1 - (bV L b).1.1)=_
 have h1:=do_ (L.map qp) qa;have h2:=do_ (L.map qp) qb;rw [List.length_map] at h1 h2;rw [va,vb,wi oo_]
theorem St.anti {p:List I} {L:List (List I)} (h:St p L) {a b:Rat} (hl:a≤b):V (L.map qp) b≤V (L.map qp) a:=by
 obtain ⟨f,l,_,_,hs,_⟩:=h.s;exact hs.anti a b hl
theorem G6 {p:List I} (hp:Rgt p) (hok:(aI p).2=true):p=[]∨St p (aI p).1:=by
 by_cases h0:p=[]
 ·exact .inl h0
 cases hg:p.all gdI
 ·exfalso
  have hb:=y3 hp hg;subst hb;rw [show aI badp=([],false) by kernel_rfl] at hok
  cases hok
 rcases ch_ ⟨hp,hg,h0⟩ with h|h
 ·rw [h] at hok;cases hok
 exact .inr h.2
open Go Go.Kn
open QP (V)
def nxt (out:List (List I)) (next:List I):List I:=aC (bL (aX ((out++[next]).getD ((out++[next]).length - 2) []) next) (E (Z.of (-1))))
theorem OI (p:List I) (out:List (List I)) (next:List I):∀ l:List (List I),(∀ x∈l,aS x=false)→cP p out next l = .inl ()
 | [],_=>rfl
 | x::l,h=>by
  unfold cP;rw [h x (List.mem_cons_self),cond_false]
  exact OI p out next l fun y hy=>h y (List.mem_cons_of_mem _ hy)
theorem Zx.good {z:Z} {v:Int} (h:Zx z v) (g:z.o≠none):z=Z.of v∧B512 v:=by
 rcases h with h|h
 ·exact absurd h g
 exact h
theorem cq_ {a b:Rt} {p q:Rat} (ha:a.At p) (hb:b.At q) (hg:bA (fA a b)=true):(fA a b).At (p+q):=by
 unfold fA at hg ⊢;rw [kL ha,kL hb] at hg ⊢;simp only [Bool.not_true,Bool.or_false,cond_false] at hg ⊢;have ia:=At.is ha;have ib:=At.is hb;rw [ia.en,ia.ed,ib.en,ib.ed] at hg ⊢;simp only [bW] at hg ⊢;have hdp:=@jW p;have hdq:=@jW q
 have hg0:0<((Int.gcd (p.den:Int) (q.den:Int):Nat):Int):=by
  have:=Int.gcd_pos_of_ne_zero_right (p.den:Int) (show (q.den:Int)≠0 by omega);omega
 have hbg:=IY (u:=(p.den:Int)) ib.hd oo_;have g1:((Int.gcd (p.den:Int) (q.den:Int):Nat):Int) ∣ (p.den:Int):=Int.gcd_dvd_left ..;have g2:((Int.gcd (p.den:Int) (q.den:Int):Nat):Int) ∣ (q.den:Int):=Int.gcd_dvd_right ..;rw [xB ia.hd ib.hd,tT ib.hd hbg hg0,tT ia.hd hbg hg0] at hg ⊢;generalize ((Int.gcd (p.den:Int) (q.den:Int):Nat):Int)=G at *;obtain ⟨x,hx⟩:=g1;obtain ⟨y,hy⟩:=g2
 have q1:(p.den:Int) / G=x:=by rw [hx];exact Int.mul_ediv_cancel_left _ oo_
 have q2:(q.den:Int) / G=y:=by rw [hy];exact Int.mul_ediv_cancel_left _ oo_
 rw [q1,q2] at hg ⊢
 have x0:0<x:=by rw [hx] at hdp;exact Int.pos_of_mul_pos_right hdp hg0
 have n1:Zx (Z.add (Z.mul (Z.of p.num) (Z.of y)) (Z.mul (Z.of q.num) (Z.of x))) (p.num*y+q.num*x):=Zx.add (Zx.mul (.of _) (.of _)) (Zx.mul (.of _) (.of _));have n2:Zx (Z.mul (Z.of x) (Z.of (q.den:Int))) (x*q.den):=Zx.mul (.of _) (.of _)
 have bd:bA fJ=false:=by decide +kernel
 obtain ⟨e1,b1⟩:=n1.good fun h=>by
  rw [Z.eq_bad h,CF,bd] at hg;cases hg
 obtain ⟨e2,b2⟩:=n2.good fun h=>by
  rw [Z.eq_bad h,CG,bd] at hg;cases hg
 rw [e1,e2];refine qP b1 b2 (Int.mul_pos x0 hdq) ?_
 have key:p+q=Rat.divInt (p.num*y+q.num*x) (x*q.den):=by
  conv=>lhs;rw [← Rat.num_divInt_den p,← Rat.num_divInt_den q,Rat.divInt_add_divInt _ _ oo_ oo_]
  refine (Rat.divInt_eq_divInt_iff (Int.mul_ne_zero oo_ oo_) (Int.mul_ne_zero oo_ oo_)).2 ?_;rw [hx,hy];grind
 have h3:=Rat.num_divInt_den (p+q);rw [key] at h3 ⊢;have h4:=(Rat.divInt_eq_divInt_iff (by have:=@jW (Rat.divInt (p.num*y+q.num*x) (x*q.den));omega) (Int.mul_ne_zero oo_ oo_)).1 h3;exact h4
theorem e1_ {a b:Rt} {p q:Rat} (ha:a.At p) (hb:b.At q) (hg:bA (iG a b)=true):(iG a b).At (p - q):=by
 unfold iG at hg ⊢;rw [Rat.sub_eq_add_neg];exact cq_ ha (wZ hb) hg
section
variable {p:List I} {c:Nat→Int} {a b:Rt} {qa qb qd:Rat}
end
open Go Go.Kn
def aL (c:(List (List I))):Nat→Rt→Rt→Nat→Bool→(List Iv)→Bool×List Iv
 | 0,_,_,_,ok,out=>(ok,out)
 | n+1,a,b,k,ok,out=>bif (!(ok&&((aK c a b).2&&(decide ((k:Int)<600)&&(!a.n.1.bad&&(!b.n.1.bad)))))||(((aK c a b).1).1==0)) then ((ok&&((aK c a b).2&&(decide ((k:Int)<600)&&(!a.n.1.bad&&(!b.n.1.bad))))),out) else (bif (((aK c a b).1).1==1) then ((ok&&((aK c a b).2&&(decide ((k:Int)<600)&&(!a.n.1.bad&&(!b.n.1.bad))))),(out++[(⟨a,b⟩:Iv)])) else (((aL c n (bB a b) b (k+1) ((aL c n a (bB a b) (k+1) (ok&&((aK c a b).2&&(decide ((k:Int)<600)&&(!a.n.1.bad&&(!b.n.1.bad))))) out).1) ((aL c n a (bB a b) (k+1) (ok&&((aK c a b).2&&(decide ((k:Int)<600)&&(!a.n.1.bad&&(!b.n.1.bad))))) out).2)).1),(aL c n (bB a b) b (k+1) ((aL c n a (bB a b) (k+1) (ok&&((aK c a b).2&&(decide ((k:Int)<600)&&(!a.n.1.bad&&(!b.n.1.bad))))) out).1) ((aL c n a (bB a b) (k+1) (ok&&((aK c a b).2&&(decide ((k:Int)<600)&&(!a.n.1.bad&&(!b.n.1.bad))))) out).2)).2))
open QP (V)
theorem cv_ {a b:Rt} {p q:Rat} (ha:a.At p) (hb:b.At q) (hg:bA (fK a b)=true):(fK a b).At (p*q):=by
 unfold fK at hg ⊢;rw [kL ha,kL hb] at hg ⊢;obtain ⟨x,y,r,s,e1,e2,b1,b2,b3,b4,h1,h2,hc,he⟩:=EY ha hb;simp only [Bool.not_true,Bool.or_false,cond_false,e1,e2,bW] at hg ⊢;have hps:0<y*s:=Int.mul_pos h1 h2
 have hpq:p*q=Rat.divInt (x*r) (y*s):=by
  rw [← Rat.num_divInt_den p,← Rat.num_divInt_den q,Rat.divInt_mul_divInt];exact (Rat.divInt_eq_divInt_iff (by have:=@jW p;have:=@jW q;exact Int.mul_ne_zero oo_ oo_) oo_).2 (by rw [he])
 have hnum:(p*q).num=x*r:=by
  rw [hpq,Rat.num_divInt,Int.gcd_comm,hc,Int.sign_eq_one_of_pos hps];simp
 have hden:((p*q).den:Int)=y*s:=by
  rw [hpq,Rat.den_divInt,if_neg oo_,Int.gcd_comm,hc,Nat.div_one];omega
 have bd:bA fJ=false:=by decide +kernel
 have n1:Zx (Z.mul (Z.of x) (Z.of r)) (x*r):=Zx.mul (.of _) (.of _);have n2:Zx (Z.mul (Z.of y) (Z.of s)) (y*s):=Zx.mul (.of _) (.of _)
 obtain ⟨e1,b1⟩:=n1.good fun h=>by
  rw [Z.eq_bad h,CF,bd] at hg;cases hg
 obtain ⟨e2,b2⟩:=n2.good fun h=>by
  rw [Z.eq_bad h,CG,bd] at hg;cases hg
 rw [e1,e2];exact qP b1 b2 hps (by rw [hnum,hden])
theorem SX:(m6 (wl 1) (wl 2)).At (1 / 2):=qP (n:=1) (d:=2) B1 dd_ dd_ (by decide +kernel)
theorem eX_ {a b:Rt} {p q:Rat} (ha:a.At p) (hb:b.At q) (hg:bA (jF a b)=true):(jF a b).At ((p+q)*(1 / 2)):=by
 unfold jF at hg ⊢
 have hg':bA (fA a b)=true:=by
  cases h:bA (fA a b)
  ·exfalso
   simp only at hg;unfold fK at hg;rw [h] at hg;simp only [Bool.not_false,Bool.true_or,cond_true] at hg;exact absurd hg (by decide +kernel)
  rfl
 exact cv_ (cq_ ha hb hg') SX hg
theorem XL {p:List I} {L:List (List I)} {a b:Rt} (h:St p L) (hl:L.length≤100) (hs:(aK L a b).2=true):∃ qa qb,a.At qa∧b.At qb:=by
 obtain ⟨qa,qb,hc⟩:=tJ h hl hs;exact ⟨qa,qb,hc.a,hc.b⟩
theorem ZF {p q:Rat} (h:p≤q):p≤(p+q)*(1 / 2)∧(p+q)*(1 / 2)≤q:=by constructor<;>grind
theorem LK {p:List I} {L:List (List I)} (h:St p L) (hl:L.length≤100) {n:Nat} {a b:Rt} (hb:¬ ∃ qa qb,a.At qa∧b.At qb) (k:Nat) (ok:Bool) (out:List Iv):(aL L n a b k ok out).2=out:=by
 cases n with
 | zero=>rfl
 | succ n =>
  unfold aL
  have hs:(aK L a b).2=false:=by
   cases hs:(aK L a b).2
   ·rfl
   exact absurd (XL h hl hs) hb
  rw [hs];simp only [Bool.false_and,Bool.and_false,Bool.not_false,Bool.true_or,cond_true]
theorem LM {p:List I} {L:List (List I)} (h:St p L) (hl:L.length≤100):∀ (n:Nat) (a b:Rt) (k:Nat) (ok:Bool) (out:List Iv) (qa qb:Rat),a.At qa→b.At qb →
  (aL L n a b k ok out).2.length≤out.length+(V (L.map qp) qa - V (L.map qp) qb)
 | 0,a,b,k,ok,out,qa,qb,ha,hb=>Nat.le_add_right _ _
 | n+1,a,b,k,ok,out,qa,qb,ha,hb=>by
  unfold aL
  cases ho:(ok&&((aK L a b).2&&(decide ((k:Int)<600)&&(!a.n.1.bad&&(!b.n.1.bad)))))
  ·simp only [Bool.not_false,Bool.true_or,cond_true];exact Nat.le_add_right _ _
  have hs:(aK L a b).2=true:=by
   simp only [Bool.and_eq_true] at ho;exact ho.2.1
  obtain ⟨qa',qb',hc⟩:=tJ h hl hs;obtain rfl:=oP ha hc.a;obtain rfl:=oP hb hc.b;have hn:=hc.n;generalize (aK L a b).1.1=m at *;simp only [Bool.not_true,Bool.false_or]
  cases h0:(m==0)
  ·rw [cond_false]
   cases h1:(m==1)
   ·rw [cond_false]
    simp only
    by_cases hg:bA (jF a b)=true
    ·have hm:=eX_ ha hb hg
     rw [← WC] at hm;have i1:=LM h hl n a (bB a b) (k+1) true out qa _ ha hm;have i2:=LM h hl n (bB a b) b (k+1) (aL L n a (bB a b) (k+1) true out).1 (aL L n a (bB a b) (k+1) true out).2 _ qb hm hb;rcases Rat.le_total (a:=qa) (b:=qb) with hab|hab
     ·have v1:=h.anti (ZF hab).1
      have v2:=h.anti (ZF hab).2;omega
     have v1:=h.anti (a:=(qa+qb)*(1 / 2)) (b:=qa) (by grind);have v2:=h.anti (a:=qb) (b:=(qa+qb)*(1 / 2)) (by grind);omega
    have hno:¬ ∃ q,(bB a b).At q:=fun ⟨q,hq⟩=>hg (by rw [← WC];exact kL hq);rw [LK h hl (fun ⟨u,v,hu,hv⟩=>hno ⟨u,hu⟩) (k+1) _ _,LK h hl (fun ⟨u,v,hu,hv⟩=>hno ⟨v,hv⟩) (k+1) _ _];exact Nat.le_add_right _ _
   rw [cond_true]
   have:m=1:=by simpa using h1
   simp only [List.length_append,List.length_singleton];omega
  rw [cond_true];exact Nat.le_add_right _ _
theorem W4 (x:Rt):(bV [[]] x).1=wl 0:=by
 unfold bV dK
 cases hs:(bP [] x).2
 ·rfl
 obtain ⟨q,hq⟩:=H9 hs;have:=WH BY hq hs;rw [L7,QP.ev_C,QP.sg_zero] at this;rw [this];rfl
theorem bj_ (a b:Rt):(aK [[]] a b).1.1=0:=by
 unfold aK;rw [W4,W4];rfl
theorem YX (n:Nat) (a b:Rt) (k:Nat) (ok:Bool) (out:List Iv):(aL [[]] n a b k ok out).2=out:=by
 cases n with
 | zero=>rfl
 | succ n =>
  unfold aL;rw [bj_,show ((0:Int)==0)=true from rfl,Bool.or_true,cond_true]
theorem H2 (p:List I) (a b:Rt) (hp:Rgt p∧p.length≤100) (hok:(aI p).2=true):(aL ((aI p).1) 601 a b 0 ((aI p).2) ([]:List Iv)).2.length≤5000:=by
 have hl:=qN p;rcases G6 hp.1 hok with rfl|h
 ·rw [show aI []=([[]],true) by kernel_rfl]
  rw [YX];exact Nat.zero_le _
 by_cases hab:∃ qa qb,a.At qa∧b.At qb
 ·obtain ⟨qa,qb,ha,hb⟩:=hab
  have:=LM h hl 601 a b 0 (aI p).2 [] qa qb ha hb;have h2:=do_ ((aI p).1.map qp) qa;rw [List.length_map] at h2;simp only [List.length_nil] at this;omega
 rw [LK h hl hab];exact Nat.zero_le _
def iM (x:Rt) (n:W):Bool :=
 ((bA x)&&(decide ((Z.bitsW x.n.dec).1≤n.1)&&decide ((Z.bitsW x.d.dec).1≤n.1)))
def dH (x:Rt):I :=
 bif (aU x) then (E (Z.quo x.n.dec x.d.dec)) else (E Z.bad)
def j5 (x:Rt):I :=
 (E (Z.neg (dH (dW x)).dec))
theorem Sz.mn {p q:Rat} {k:Nat} (h:Sz p k) (g:Sz q k):Sz (mn p q) k:=by unfold Go.Num.mn;split<;>assumption
structure Iv.Az (a:Iv) (p q:Rat) (k:Nat):Prop where
 at':a.At p q
 sp:Sz p k
 sq:Sz q k
theorem ca_ {a:Rt} {p:Rat} (h:a.At p):(eE a).1=p.num.sign:=by
 unfold eE;rw [i7,kL h,(At.is h).en,bW];exact i6 (At.is h).hn
theorem bD_ {a:Iv} {p q:Rat} (h1:a.lo.At p) (h2:a.hi.At q):pY a=decide (q<p):=by
 have h0:decide (a.lo.n=V8.lo.n)=false:=decide_eq_false fun e=>by
  have:=(At.is h1).en.symm.trans e;have h3:=R6 (this.trans (show V8.lo.n=E Z.bad from rfl));have h4:=congrArg Z.o h3;rw [Z.of_some (At.is h1).hn] at h4
  cases h4
 unfold pY;rw [h0,i7,i7,kL h1,kL h2];simp only [Bool.not_true,Bool.false_or,Bool.false_and]
 congr 1
 exact propext (P8 h1 h2)
theorem Iv.At.ok {a:Iv} {p q:Rat} (h:a.At p q):pY a=false:=by
 rw [bD_ h.lo h.hi];exact decide_eq_false (Rat.not_lt.2 h.le)
variable {a b:Iv} {p q r s:Rat} {j k:Nat}
section
variable {u v x y:Rat}
end
theorem dB_ {x:Rt} {n:W} (h:iM x n=true):∃ q,x.At q∧Sz q n.1.toNat:=by
 unfold iM at h;simp only [Bool.and_eq_true,decide_eq_true_eq] at h;obtain ⟨g,h1,h2⟩:=h;obtain ⟨p,hp⟩:=EH g;refine ⟨p,hp,?_⟩;rw [(At.is hp).en] at h1;rw [(At.is hp).ed] at h2;rw [bW] at h1 h2;have e1:(Z.bitsW (Z.of p.num)).1=((bl p.num.natAbs:Nat):Int):=congrArg Int.ofNat (SB (At.is hp).hn);have e2:(Z.bitsW (Z.of (p.den:Int))).1=((bl p.den:Nat):Int):=congrArg Int.ofNat (SB (At.is hp).hd);rw [e1] at h1;rw [e2] at h2;exact ⟨Nat.lt_of_lt_of_le (E8 _) (CN oo_),Nat.lt_of_lt_of_le (E8 _) (CN oo_)⟩
end Go.Num
namespace Go.Num
open Go Go.Kn
theorem TH {q:Rat}:q.num<0 ↔ q<0:=by
 have:=@Rat.num_nonneg q
 constructor
 ·intro h;exact Rat.not_le.1 fun e=>by have:=this.2 e;omega
 intro h;exact Int.not_le.1 fun e=>absurd (this.1 e) (Rat.not_le.2 h)
theorem gp_ {q:Rat}:0<q.num ↔ 0<q:=by
 have h:=@TH (-q);rw [Rat.neg_num] at h
 constructor
 ·intro e;have:=h.1 oo_;grind
 intro e;have:=h.2 (by grind);omega
def dnI (x:I):Nat:=(x.dec.o.getD 0).natAbs
def siM (a b:Rt):Nat:=bif (aU a&&aU b) then 2*(dnI a.d+dnI b.d)+(bif decide ((eE b).1<0) then 1 else 0)+1 else 0
theorem cF_ {a:Rt} {q:Rat} (h:a.At q):dnI a.d=q.den:=by
 unfold dnI;rw [(At.is h).ed,bW,Z.of_some (At.is h).hd];exact Int.natAbs_natCast _
theorem MI {a b:Rt} {q r:Rat} (ha:a.At q) (hb:b.At r):siM a b=2*(q.den+r.den)+(if r<0 then 1 else 0)+1:=by
 unfold siM;rw [i7,i7,kL ha,kL hb,cF_ ha,cF_ hb,ca_ hb];simp only [Bool.and_self,cond_true]
 by_cases h:r<0
 ·rw [decide_eq_true (Int.sign_neg_iff.2 (TH.2 h)),if_pos h];rfl
 rw [decide_eq_false (fun e=>h (TH.1 (Int.sign_neg_iff.1 e))),if_neg h];rfl
theorem T4 {a b:Rt} (h:(!(aU a)||(!(aU b)||decide (0<(eS a b).1)))=false):∃ q r,a.At q∧b.At r∧q≤r:=by
 simp only [Bool.or_eq_false_iff,Bool.not_eq_false',i7] at h;obtain ⟨g1,g2,h⟩:=h;obtain ⟨q,hq⟩:=EH g1;obtain ⟨r,hr⟩:=EH g2;exact ⟨q,r,hq,hr,Rat.not_lt.1 fun e=>of_decide_eq_false h ((P8 hq hr).2 e)⟩
theorem JI {a:Rt} {q:Rat} (h:a.At q):decide ((eE a).1≤0)=decide (q≤0):=by
 rw [ca_ h]
 congr 1
 refine propext ⟨fun e=>Rat.not_lt.1 fun e2=>?_,fun e=>Int.not_lt.1 fun e2=>?_⟩
 ·have:=Int.sign_pos_iff.2 (gp_.2 e2);omega
 have:=gp_.1 (Int.sign_pos_iff.1 e2);grind
theorem JH {a:Rt} {q:Rat} (h:a.At q):decide (0≤(eE a).1)=decide (0≤q):=by
 rw [ca_ h]
 congr 1
 exact propext (Int.sign_nonneg_iff.trans Rat.num_nonneg)
theorem CW {a:Rt} {q:Rat} (h:a.At q):decide ((eE a).1<0)=decide (q<0):=by
 rw [ca_ h]
 congr 1
 exact propext (Int.sign_neg_iff.trans TH)
theorem ak_ {a b:Rt} {k:Nat} (h9:(!(aU a)||(!(aU b)||decide (0<(eS a b).1)))=false)
  (h14:(decide ((eE a).1≤0)&&decide (0≤(eE b).1))=false) (h17:decide ((eE b).1<0)=true) (hq:siM a b<k+1):siM (dW b) (dW a)<k:=by
 obtain ⟨q,r,ha,hb,hqr⟩:=T4 h9;rw [CW hb] at h17;have hr:=of_decide_eq_true h17
 have na:(dW a).At (-q):=by rw [zP];exact wZ ha
 have nb:(dW b).At (-r):=by rw [zP];exact wZ hb
 rw [MI ha hb,if_pos hr] at hq;rw [MI nb na,if_neg (by grind),Rat.neg_den,Rat.neg_den];omega
theorem zU (q:Rat):q.floor=q.num / (q.den:Int):=by
 unfold Rat.floor
 split
 ·rename_i h;rw [h];exact (Int.ediv_one _).symm
 rfl
theorem flB {q:Rat} (h:B512 q.num):B512 q.floor:=by
 rw [zU];exact Nat.lt_of_le_of_lt (Int.natAbs_ediv_le_natAbs _ _) h
theorem YD {a:Rt} {q:Rat} (h:a.At q):dH a=E (Z.of q.floor):=by
 have i:=At.is h;unfold dH;rw [i7,kL h,cond_true,i.en,i.ed,bW,bW,tT i.hn i.hd (@jW q),zU]
theorem aI_ {v:Int} (h:B512 v):(cZ (E (Z.of v))).At (v:Rat):=by
 unfold cZ;rw [yM];exact qP h B1 dd_ (by rw [Rat.num_intCast,Rat.den_intCast];rfl)
theorem wfl {a:Rt} {q:Rat} (h:a.At q):(cZ (dH a)).At ((q.floor:Int):Rat):=by
 rw [YD h];exact aI_ (flB (At.is h).hn)
theorem wcl {a:Rt} {q:Rat} (h:a.At q):(cZ (j5 a)).At ((-(-q).floor:Int):Rat):=by
 have hn:(dW a).At (-q):=by rw [zP];exact wZ h
 have hB:=flB (At.is hn).hn;unfold j5;rw [YD hn,bW,CI hB];exact aI_ (by unfold Go.Num.B512 at *;omega)
theorem YC (q:Rat):((q.floor:Int):Rat)≤q:=Rat.floor_le q
theorem QS (q:Rat):q<((q.floor:Int):Rat)+1:=by
 have:=Rat.lt_floor_add_one q;rw [Rat.intCast_add] at this;exact this
theorem Q6 {n:Int} {q:Rat} (h:(n:Rat)≤q):n≤q.floor:=by
 have h1:=QS q
 have h2:(n:Rat)<((q.floor+1:Int):Rat):=by
  rw [Rat.intCast_add];have:((1:Int):Rat)=1:=rfl
  grind
 have:=Rat.intCast_lt_intCast.1 h2;omega
theorem T3 {q r:Rat} (hqr:q≤r) (hc:r<((-(-q).floor:Int):Rat)):((q.floor:Int):Rat)<q∧r<((q.floor:Int):Rat)+1:=by
 have h1:=YC q;have h2:=QS q
 have e:((-(-q).floor:Int):Rat) = -(((-q).floor:Int):Rat):=by rw [Rat.intCast_neg]
 constructor
 ·refine Rat.not_le.1 fun h=>?_
  have h3:((-q.floor:Int):Rat) ≤ -q:=by rw [Rat.intCast_neg];grind
  have h4:=Rat.intCast_le_intCast.2 (Q6 h3);rw [Rat.intCast_neg] at h4;rw [e] at hc
  grind
 have h3:((-(q.floor+1):Int):Rat) ≤ -q:=by
  rw [Rat.intCast_neg,Rat.intCast_add];have:((1:Int):Rat)=1:=rfl
  grind
 have h4:=Rat.intCast_le_intCast.2 (Q6 h3);rw [Rat.intCast_neg,Rat.intCast_add] at h4;rw [e] at hc;have:((1:Int):Rat)=1:=rfl
 grind
theorem KT {q:Rat} {n:Int}:(q - (n:Rat)).den≤q.den:=by
 have hx:((q.num - n*(q.den:Int):Int):Rat)=((q.den:Int):Rat)*(q - (n:Rat)):=by
  have h1:=@vK q;rw [Rat.intCast_sub,Rat.intCast_mul,← h1];grind
 have h2:=CJ hx;generalize (q - (n:Rat))=x at *
 have h3:x.num.natAbs*q.den=(q.num - n*(q.den:Int)).natAbs*x.den:=by
  have:=congrArg Int.natAbs h2;rw [Int.natAbs_mul,Int.natAbs_mul,Int.natAbs_natCast,Int.natAbs_natCast] at this;exact this
 have h4:x.den ∣ x.num.natAbs*q.den:=⟨_,by rw [h3,Nat.mul_comm]⟩;exact Nat.le_of_dvd q.den_pos (Nat.Coprime.dvd_of_dvd_mul_left x.reduced.symm h4)
theorem GB {x:Rat} (h0:0<x) (h1:x<1):x.num.natAbs<x.den:=by
 have hp:=gp_.2 h0;have:=Rat.lt_iff x 1 |>.1 h1;rw [Rat.den_ofNat,Rat.num_ofNat] at this;omega
theorem w8 {x:Rat} (h0:0<x):x⁻¹.den=x.num.natAbs:=by
 have hp:=gp_.2 h0;rw [Rat.den_inv,if_neg oo_]
theorem XT {a b:Rt} (h:aU (dV a b)=true):aU b=true:=by
 cases hb:aU b
 ·unfold dV at h
  rw [hb,cond_false,i7,JZ,a8_] at h
  cases h
 rfl
theorem eT_ {a b:Rt} {p q:Rat} (ha:a.At p) (hb:b.At q) (h0:q≠0) (hg:aU (dV a b)=true):(dV a b).At (p*q⁻¹):=by
 have hB:aU b=true:=by rw [i7];exact kL hb
 unfold dV at hg ⊢;rw [hB,cond_true,KC,yM] at hg ⊢;rw [i7] at hg;exact cv_ ha (WA hb h0) hg
theorem TI:(aP (wl 1)).At 1:=by rw [NA];exact M9 (wl 1)
theorem T5 {a f:Rt} {q:Rat} {n:Int} (ha:a.At q) (hf:f.At (n:Rat)) (h0:(n:Rat)<q) (h1:q<(n:Rat)+1) (hg:aU (dV (aP (wl 1)) (gD a f))=true) :
  (dV (aP (wl 1)) (gD a f)).At (q - (n:Rat))⁻¹∧((q - (n:Rat))⁻¹).den<q.den∧0<(q - (n:Rat))⁻¹:=by
 have g2:=XT hg
 have hs:(gD a f).At (q - (n:Rat)):=by
  rw [QC] at g2 ⊢;rw [i7] at g2;exact e1_ ha hf g2
 have x0:0<q - (n:Rat):=by grind
 have x1:q - (n:Rat)<1:=by grind
 have hd:=eT_ TI hs (by grind) hg;rw [Rat.one_mul] at hd;refine ⟨hd,?_,Rat.inv_pos.2 x0⟩;rw [w8 x0];exact Nat.lt_of_lt_of_le (GB x0 x1) KT
theorem al_ {a b r22 r23:Rt} {k:Nat} (h9:(!(aU a)||(!(aU b)||decide (0<(eS a b).1)))=false)
  (h14:(decide ((eE a).1≤0)&&decide (0≤(eE b).1))=false) (h17:decide ((eE b).1<0)=false) (h20:decide ((eS (cZ (j5 a)) b).1≤0)=false)
  (e22:r22=gD b (cZ (dH a))) (e23:r23=gD a (cZ (dH a))) (hq:siM a b<k+1):siM (dV (aP (wl 1)) r22) (dV (aP (wl 1)) r23)<k:=by
 subst e22 e23;obtain ⟨q,r,ha,hb,hqr⟩:=T4 h9;rw [CW hb] at h17;have hr:=Rat.not_lt.1 (of_decide_eq_false h17);have hc:=of_decide_eq_false h20;rw [KA (wcl ha) hb] at hc;obtain ⟨f1,f2⟩:=T3 hqr (Rat.not_le.1 hc);rw [MI ha hb,if_neg (Rat.not_lt.2 hr)] at hq
 cases g1:aU (dV (aP (wl 1)) (gD b (cZ (dH a))))
 ·unfold siM;rw [g1]
  show 0<k
  have:=q.den_pos;omega
 cases g2:aU (dV (aP (wl 1)) (gD a (cZ (dH a))))
 ·unfold siM;rw [g2,Bool.and_false]
  show 0<k
  have:=q.den_pos;omega
 obtain ⟨A1,A2,A3⟩:=T5 hb (wfl ha) (by grind) f2 g1;obtain ⟨B1,B2,B3⟩:=T5 ha (wfl ha) f1 (by grind) g2;rw [MI A1 B1,if_neg (by grind)];omega
def dO:Nat→Rt→Rt→Rt
 | 0,_,_=>(⟨I0,I0⟩:Rt)
 | k+1,a,b=>bif (!(aU a)||(!(aU b)||decide (0<(eS a b).1))) then F_ratio_Bad else (bif (decide ((eE a).1≤0)&&decide (0≤(eE b).1)) then (aP (wl 0)) else (bif decide ((eE b).1<0) then (let r18:Rt:=(dO k (dW b) (dW a))
 (dW r18)) else (bif decide ((eS (cZ (j5 a)) b).1≤0) then (cZ (j5 a)) else (let r22:Rt:=(gD b (cZ (dH a)))
 let r23:Rt:=(gD a (cZ (dH a)))
 let r24:Rt:=(dO k (dV (aP (wl 1)) r22) (dV (aP (wl 1)) r23))
 let r25:Rt:=(iZ (cZ (dH a)) (dV (aP (wl 1)) r24))
 r25))))
def cI (a:Rt) (b:Rt):Rt:=dO ((siM a b)+1) a b
def gE (p:(List I)) (x:Iv) (k:Int):Nat→Nat→Iv→(Nat×Iv) ⊕ (Iv×W)
 | 0,i,mb1=>.inl (i,mb1)
 | k0+1,i,mb1=>bif decide ((i:Int)<k) then (let r21:Iv:=(fX ((cY p x).1) mb1).1
 bif (fX ((cY p x).1) mb1).2 then (gE p x k k0 (i+1) r21) else (.inr ((⟨(⟨I0,I0⟩:Rt),(⟨I0,I0⟩:Rt)⟩:Iv),(wl 30)))) else (.inl (i,mb1))
def fF (p:(List I)) (x:Iv) (k:Int):Iv×W :=
 bif (decide (k<0)||decide (64<k)) then ((⟨(⟨I0,I0⟩:Rt),(⟨I0,I0⟩:Rt)⟩:Iv),(wl 1)) else (bif (((cY p x).2).1 != 0) then ((⟨(⟨I0,I0⟩:Rt),(⟨I0,I0⟩:Rt)⟩:Iv),(cY p x).2) else (sm (fun (s:Nat×Iv)=>let i:Nat:=s.1
 let mb1:Iv:=s.2
 (mb1,(wl 0))) (fun r=>r) (gE p x k (k.toNat+1) 0 x)))
def bO (p:(List I)) (a:Rt) (b:Rt):(List Iv)×W :=
 bif ((aS p)||(((p.length:Int)==0)||(!(kN a b)))) then (([]:List Iv),(wl 1)) else (bif (aI p).2 then (bif (aL ((aI p).1) 601 a b 0 ((aI p).2) ([]:List Iv)).1 then ((aL ((aI p).1) 601 a b 0 ((aI p).2) ([]:List Iv)).2,(wl 0)) else (([]:List Iv),(wl 30))) else (([]:List Iv),(wl 30)))
def dE (l:(List Rt)) (p:List I) (n:W) (i:Nat):Nat→Bool→Nat→Bool×Nat
 | 0,old,k=>(old,k)
 | k1+1,old,k=>bif decide ((k:Int)<(i:Int)) then (dE l p n i k1 (old||(decide (((l.getD k Rt0).n)=((l.getD i Rt0).n))&&decide (((l.getD k Rt0).d)=((l.getD i Rt0).d)))) (k+1)) else (old,k)
def cQ (l:(List Rt)):Nat→(List I)→W→Nat→(List I×W×Nat) ⊕ (Bool)
 | 0,p,n,i=>.inl (p,n,i)
 | k0+1,p,n,i=>bif decide ((i:Int)<(l.length:Int)) then (bif (iM (l.getD i Rt0) (wl 5)) then (ap (fun (s:Bool×Nat)=>let old:Bool:=s.1
 let k:Nat:=s.2
 bif old then (cQ l k0 (fR p (bD [(E (Z.neg ((l.getD i Rt0).n).dec)),((l.getD i Rt0).d)])) n (i+1)) else (cQ l k0 (fR p (bD [(E (Z.neg ((l.getD i Rt0).n).dec)),((l.getD i Rt0).d)])) (W.add n (wl 1)) (i+1))) (dE l p n i (i+1) false 0)) else (.inr true)) else (.inl (p,n,i))
def dF (l:(List Rt)) (p:List I) (n:W) (i:Nat) (j:Nat) (r115:Iv) (r116:W):Nat→Bool→Nat→Bool×Nat
 | 0,is1,m=>(is1,m)
 | k3+1,is1,m=>bif decide ((m:Int)<(l.length:Int)) then (dF l p n i j r115 r116 k3 (is1||(decide (((l.getD m Rt0).n)=((cI r115.lo r115.hi).n))&&decide (((l.getD m Rt0).d)=((cI r115.lo r115.hi).d)))) (m+1)) else (is1,m)
def dP (l:(List Rt)) (p:List I) (n:W) (i:Nat):Nat→Nat→(Nat) ⊕ (Bool)
 | 0,j=>.inl j
 | k2+1,j=>bif decide ((j:Int)<(((bO p (aP (wl (-32))) (aP (wl 32))).1).length:Int)) then (let r115:Iv:=(fF p (((bO p (aP (wl (-32))) (aP (wl 32))).1).getD j Iv0) 16).1
 let r116:W:=(fF p (((bO p (aP (wl (-32))) (aP (wl 32))).1).getD j Iv0) 16).2
 ap (fun (s:Bool×Nat)=>let is1:Bool:=s.1
 let m:Nat:=s.2
 bif ((r116.1 != 0)||(!is1||(!(decide (((iY p (cI r115.lo r115.hi)).n)=((aP (wl 0)).n))&&decide (((iY p (cI r115.lo r115.hi)).d)=((aP (wl 0)).d)))))) then (.inr false) else (dP l p n i k2 (j+1))) (dF l p n i j r115 r116 (l.length+1) false 0)) else (.inl j)
def dX (l:(List Rt)):Bool :=
 bif decide (3<(l.length:Int)) then true else (sm (fun (s_:List I×W×Nat)=>let p:List I:=s_.1
 let n:W:=s_.2.1
 let i:Nat:=s_.2.2
 bif ((((dN p (aP (wl (-32))) (aP (wl 32))).2).1 != 0)||((((bO p (aP (wl (-32))) (aP (wl 32))).2).1 != 0)||((((dN p (aP (wl (-32))) (aP (wl 32))).1).1 != n.1)||(((((bO p (aP (wl (-32))) (aP (wl 32))).1).length:Int) != n.1)||((kQ (aN p)).1 != n.1))))) then false else (sm (fun (s:Nat)=>let j:Nat:=s
 true) (fun r=>r) (dP l p n i ((bO p (aP (wl (-32))) (aP (wl 32))).1.length+1) 0))) (fun r=>r) (cQ l (l.length+1) (jE [(wl 1)]) (wl 0) 0))
end Go.Num
