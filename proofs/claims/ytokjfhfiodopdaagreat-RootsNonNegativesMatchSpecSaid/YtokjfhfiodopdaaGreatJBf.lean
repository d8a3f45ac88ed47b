/- Lemmas: what they ask stands in their statements. -/
import Derived.Test.YtokjfhfiodopdaaGreatJAu
import Derived.ChangeArms
set_option linter.unusedSimpArgs false
set_option linter.unusedVariables false
namespace Go.Num
open Go Go.Kn
open QP (V Rb Two NN sg Sf)
theorem O7 {p:List I} (hp:Rgt p) {a b:Rt} {A B:Rat} (ha:a.At A) (hb:b.At B):fT p a b=(aY p || !decide (A≤B)):=by
 rw [IQ p (DF hp),B5 ha hb]
theorem ht_ {p:List I} (hp:Rgt p) {a b:Rt} {A B:Rat} (ha:a.At A) (hb:b.At B) (hg:aY p=false) (h0:p≠[]) (hAB:A≤B):aU p a b=bif (aL p).2 then aM 503 (aL p).1 a b 0 else ⟨[],wl 30⟩:=by
 unfold aU;rw [O7 hp ha hb,hg,decide_eq_true hAB,GN,decide_eq_false h0,← BN hp];unfold gR;rw [show ((502 - (0:Int)).toNat+1)=503 from rfl];simp only [Bool.not_true,Bool.or_self,cond_false]
theorem ix_ {x:Rat} (h:0≤x) (g:x≠0):0<x:=by grind
theorem req {x a:Rat} (h:a≤x) (g:x≤a):x=a:=by grind
theorem iv_ {a b:Rat} (h:a≤b) (g:¬ a<b):a=b:=by grind
theorem hy_ {x:Rat} (h:x<0) (g:0≤x):False:=by grind
theorem YG {p:List I} {c:Nat→Int} (hp:Po p c) (hb64:∀ k,(c k).natAbs≤2 ^ 64) {a b:Rt} {A B:Rat} (ha:a.At A) (hb:b.At B) (hAB:A≤B) (hw:B - A≤(((2 ^ 121:Nat):Int):Rat)) (he:(aN p a b).e.1≠30) :
  (aN p a b).e.1=0∧((aN p a b).is=true ↔ NN (qp p) A B):=by
 have hr:=hp.rgt;have l3:=hp.l3;unfold aN at he ⊢;rw [O7 hr ha hb,hp.nb,decide_eq_true hAB] at he ⊢;simp only [Bool.not_true,Bool.or_self,cond_false] at he ⊢
 by_cases h0:p=[]
 ·subst h0
  rw [GN,decide_eq_true O];refine ⟨rfl,fun _ x _ _=>?_,fun _=>rfl⟩;rw [DD,QP.ev_C];exact Rat.le_refl
 rw [GN,decide_eq_false h0] at he ⊢;simp only [cond_false] at he ⊢;rw [z8 l3,z8 l3,O6 l3,O6 l3] at he ⊢
 cases sa:(aH p a).2
 ·rw [sa] at he;exact absurd O he
 cases sb:(aH p b).2
 ·rw [sa,sb] at he;exact absurd O he
 rw [sa,sb] at he;simp only [Bool.not_true,Bool.or_self,cond_false] at he ⊢;have va:=rN hp ha sa;have vb:=rN hp hb sb
 cases hneg:(decide (((aH p a).1).1<0)||decide (((aH p b).1).1<0))
 case true =>
  rw [cond_true];refine ⟨rfl,fun e=>(by cases e),fun e=>?_⟩
  exfalso
  rcases Bool.or_eq_true_iff.1 hneg with k|k
  ·have:=of_decide_eq_true k
   rw [va,yM] at this;exact hy_ this (e A Rat.le_refl hAB)
  have:=of_decide_eq_true k;rw [vb,yM] at this;exact hy_ this (e B hAB Rat.le_refl)
 rw [hneg] at he;simp only [cond_false] at he ⊢;obtain ⟨na,nb⟩:=Bool.or_eq_false_iff.1 hneg;have na:=of_decide_eq_false na;have nb:=of_decide_eq_false nb;rw [va,yM] at na;rw [vb,yM] at nb;have a0:0≤(qp p).ev A:=Rat.not_lt.1 na;have b0:0≤(qp p).ev B:=Rat.not_lt.1 nb;have hI:=ht_ hr ha hb hp.nb h0 hAB
 cases hs:(aL p).2
 ·rw [hs,cond_false] at hI
  rw [hI] at he;exact absurd O he
 rw [hs,cond_true] at hI;have hSt:=(yU hr hs).resolve_left h0;have hNq:Nq p c A B:=⟨hp,h0,hb64,hs,hw,hAB⟩;have hre:=UC (L:=(aL p).1) 503 a b 0
 have hie:(aM 503 (aL p).1 a b 0).e.1=0:=by
  rcases hre with k|k
  ·exact k
  exfalso
  rw [hI] at he;rw [k] at he;simp only [cond_true,show ((30:Int) != 0)=true from rfl] at he;exact he k
 have hch:=R4 hSt (iJ p) (pS p) 503 0 a b A B O dd_ hAB ha hb (by rw [show ((0:Nat):Int)=0 from rfl];exact hie);rw [show ((0:Nat):Int)=0 from rfl,← hI] at hch;rw [← hI] at hie;rw [hie] at he ⊢;simp only [bne_self_eq_false,cond_false] at he ⊢;obtain ⟨hcnt,hchn⟩:=hch;have hIl:(aU p a b).l=(aU p a b).l:=rfl;generalize hl:(aU p a b).l=l at *
 by_cases hl0:l=[]
 ·subst hl0
  simp only [List.length_nil] at hcnt ⊢;rw [show ((((0:Nat):Nat):Int)==0)=true from rfl,cond_true]
  have hV:V ((aL p).1.map qp) A=V ((aL p).1.map qp) B:=by omega
  by_cases hlt:A<B
  ·have hne:=(hSt.sf.pos hlt hV).1
   have hpos:0<(qp p).ev B:=ix_ b0 hne;have hb1:decide (0<((aH p b).1).1)=true:=decide_eq_true (by rw [vb];exact sg_ps.2 hpos);refine ⟨rfl,fun _=>hSt.sf.nn0 hlt hV a0 b0,fun _=>?_⟩;simp only [hb1,Bool.or_true]
  have e:A=B:=iv_ hAB hlt;subst e;have:=SY ha hb;subst this;refine ⟨rfl,fun _ x x1 x2=>by rw [req x1 x2];exact a0,fun _=>?_⟩
  simp
 have hlen:0<l.length:=List.length_pos_iff.2 hl0;rw [show (((l.length:Nat):Int)==0)=false by simp;omega,cond_false] at he ⊢
 have key:(∃ r,cK p a b (l.length+1) 0 = .inr r∧(r.e.1=30∨(r.e.1=0∧r.is=false∧¬ NN (qp p) A B)))∨(∃ j,cK p a b (l.length+1) 0 = .inl j∧NN (qp p) A B):=by
  by_cases hsa:0<(aF p a).s.1
  ·obtain ⟨y,l',rfl⟩:∃ y l',l=y::l':=by
    cases l with
    | nil=>exact absurd O hl0
    | cons y l'=>exact ⟨y,l',rfl⟩
   have hch2:=hchn;obtain ⟨s,w,hs',hw',As,sw,hd,hc'⟩:=hch2;have cc:=Chn9.count hSt hc';have a1:=hSt.anti As;simp only [List.length_cons] at hcnt
   have pa:0<(qp p).ev A:=by
    rw [O6 l3,va,sg_ps] at hsa;exact hsa
   have:=V9 hNq O (by rw [BN hr]) a b hl b0 ((y::l').length) 1 A w (by simp only [List.length_cons];omega) (.inl dd_) Rat.le_refl (Rat.le_trans As sw) (by exact hc') (by show _=_+l'.length;omega) (.inl ⟨by omega,pa⟩)
   conv=>unfold cK
   rw [hl,decide_eq_true (show ((0:Nat):Int)<(((y::l').length:Nat):Int) by omega),decide_eq_true hsa];exact this
  exact V9 hNq O (by rw [BN hr]) a b hl b0 (l.length+1) 0 A A oo_ (.inr hsa) Rat.le_refl Rat.le_refl (by exact hchn) (by show _=_+l.length;omega) (.inr ⟨rfl,a0,hlen⟩)
 rcases key with ⟨r,k1,k2⟩|⟨j,k1,k2⟩
 ·rw [k1] at he ⊢
  simp only [sm] at he ⊢;rcases k2 with k2|⟨k2,k3,k4⟩
  ·exact absurd k2 he
  refine ⟨k2,fun e=>?_,fun e=>absurd e k4⟩;rw [k3] at e;cases e
 rw [k1];exact ⟨rfl,fun _=>k2,fun _=>rfl⟩
theorem bM_ {p:List I} {A B:Rat} (h:Sp p A B) (hAB:A≤B):∀ (d m k K:Nat) (j:Int) (a b:Rt) (u v:Rat),d+K=93→m+k=503→k≤K→a.At u→b.At v→It A B (2 ^ K) j u v →
  (aM m (aL p).1 a b (k:Int)).e.1=0∧∀ x∈(aM m (aL p).1 a b (k:Int)).l,∃ (K':Nat) (j':Int) (s w:Rat),K'≤93∧x.lo.At s∧x.hi.At w∧It A B (2 ^ K') j' s w:=by
 intro d
 induction d with
 | zero =>
  intro m k K j a b u v hd hn hkK ha hb hi;obtain ⟨m,rfl⟩:∃ j,m=j+1:=⟨m - 1,by omega⟩;unfold aM;rw [← rQ (iJ p),h.count oo_ ha hb hi.lo hi.hi,decide_eq_false (show ¬ (500:Int)<(k:Int) by omega)];simp only [Bool.not_true,Bool.or_self,cond_false]
  cases h0:((aJ (aL p).1 a b).1.1==0)
  ·cases h1:((aJ (aL p).1 a b).1.1==1)
   ·have:=h.many hAB oo_ ha hb hi h0 h1;omega
   simp only [cond_true,cond_false];exact ⟨trivial,fun x hx=>by rw [List.mem_singleton.1 hx];exact ⟨K,j,u,v,by omega,ha,hb,hi⟩⟩
  simp only [cond_true];exact ⟨trivial,fun x hx=>by cases hx⟩
 | succ d ih =>
  intro m k K j a b u v hd hn hkK ha hb hi;obtain ⟨m,rfl⟩:∃ j,m=j+1:=⟨m - 1,by omega⟩;unfold aM;rw [← rQ (iJ p),h.count oo_ ha hb hi.lo hi.hi,decide_eq_false (show ¬ (500:Int)<(k:Int) by omega)];simp only [Bool.not_true,Bool.or_self,cond_false]
  cases h0:((aJ (aL p).1 a b).1.1==0)
  ·cases h1:((aJ (aL p).1 a b).1.1==1)
   ·simp only [cond_false]
    have hm:=h.mid oo_ ha hb hi.lo hi.hi;rw [← AS,show (k:Int)+1=((k+1:Nat):Int) by omega];obtain ⟨i1,l1⟩:=ih m (k+1) (K+1) _ a (aG a b) u _ oo_ oo_ oo_ ha hm hi.left;obtain ⟨i2,l2⟩:=ih m (k+1) (K+1) _ (aG a b) b _ v oo_ oo_ oo_ hm hb hi.right;rw [i1,i2];simp only [bne_self_eq_false,cond_false];refine ⟨trivial,fun x hx=>?_⟩;rcases List.mem_append.1 hx with hx|hx
    ·exact l1 x hx
    exact l2 x hx
   simp only [cond_true,cond_false];exact ⟨trivial,fun x hx=>by rw [List.mem_singleton.1 hx];exact ⟨K,j,u,v,by omega,ha,hb,hi⟩⟩
  simp only [cond_true];exact ⟨trivial,fun x hx=>by cases hx⟩
theorem Q7 {p:List I} {A B:Rat} (h:Sp p A B) {L:List (List I)} (hL:L=(aL p).1) (hr:(bO p).1=L) (a b:Rt) (i:Nat) (r48:Sgd):∀ (d n m K:Nat) (j:Int) (y:Iv) (s w:Rat),d+K=93→n+m=501→m≤K→It A B (2 ^ K) j s w→y.lo.At s→y.hi.At w→s<w→V (L.map qp) s=V (L.map qp) w+1 →
  ∃ (m':Nat) (y':Iv),cY p a b i r48 n m (aF p y.lo) y = .inl (m',aF p y'.lo,y')∧(aF p y'.lo).ok=true:=by
 have hSt:St p L:=by rw [hL];exact h.st
 have hl:L.length≤100:=by rw [hL];exact pS p
 have hA:AL L:=by rw [hL];exact iJ p
 have hP:=xU h.rgt h.gd;have l3:=hP.l3;have htwo:∀ {k:Nat} {j:Int} {u v:Rat},It A B (2 ^ k) j u v→u<v→Two (qp (bD p)) (L.map qp) u v→k≤92:=fun hi huv ht=>h.two hi huv (by rw [← hL];exact ht)
 have hct:∀ {k:Nat},k≤95→∀ {i j:Int} {a b:Rt} {u v:Rat},a.At u→b.At v→Pt A B (2 ^ k) i u→Pt A B (2 ^ k) j v→(aJ L a b).2=true:=fun {k} hk {i j a b u v} ha hb pu pv=>by rw [hL];exact h.count hk ha hb pu pv
 intro d
 induction d with
 | zero =>
  intro n m K j y s w hd hn hmK hi hs hw hsw hV;obtain ⟨n,rfl⟩:∃ j,n=j+1:=⟨n - 1,by omega⟩;have ho:=o2 h.tp hs ((hi.lo.sz h.sA h.sB).mono oo_);unfold cY
  cases hc:((aF p y.lo).ok&&(((aF p y.lo).s.1==0)&&decide ((m:Int)<500)))
  ·exact ⟨m,y,rfl,by rw [z8 l3];exact ho⟩
  exfalso
  simp only [Bool.and_eq_true,beq_iff_eq] at hc;have h2:=hc.2.1;rw [O6 l3,rN hP hs ho,sg_zr] at h2
  have fz:(qp (bD p)).ev s=0:=by
   apply Classical.byContradiction
   intro hf;exact hSt.sf.ne hf h2
  have:=htwo hi hsw (.inr ⟨by omega,fz⟩);omega
 | succ d ih =>
  intro n m K j y s w hd hn hmK hi hs hw hsw hV;obtain ⟨n,rfl⟩:∃ j,n=j+1:=⟨n - 1,by omega⟩;have ho:=o2 h.tp hs ((hi.lo.sz h.sA h.sB).mono oo_);unfold cY
  cases hc:((aF p y.lo).ok&&(((aF p y.lo).s.1==0)&&decide ((m:Int)<500)))
  ·exact ⟨m,y,rfl,by rw [z8 l3];exact ho⟩
  simp only [cond_true];rw [hr];have hm:=h.mid oo_ hs hw hi.lo hi.hi;rw [AS] at hm;have hcm:=hct oo_ hs hm hi.left.lo hi.left.hi;have ml:=I4 hsw;obtain ⟨s',t,cx⟩:=xG hSt hl hcm;obtain rfl:=n9 hs cx.a;obtain rfl:=n9 hm cx.b;have cn:=cx.n;have a1:=hSt.anti (Rat.le_of_lt ml.1);have a2:=hSt.anti (Rat.le_of_lt ml.2);rw [rQ hA] at cn hcm;unfold eR
  cases h1':((bP L y.lo (aI y.lo y.hi)).1.1==1)
  ·simp only [cond_false]
   rw [hcm,cond_true]
   have hne:¬ (bP L y.lo (aI y.lo y.hi)).1.1=1:=by simpa using h1'
   have hVm:V (L.map qp) ((s+w)*(1 / 2))=V (L.map qp) s:=by omega
   have pm:=(hSt.sf.pos ml.1 hVm.symm).1;have hom:=o2 h.tp hm ((hi.left.hi.sz h.sA h.sB).mono oo_);obtain ⟨n,rfl⟩:∃ j,n=j+1:=⟨n - 1,by omega⟩
   have hex:((aF p (aI y.lo y.hi)).ok&&(((aF p (aI y.lo y.hi)).s.1==0)&&decide (((m+1:Nat):Int)<500)))=false:=by
    have e:¬ (aF p (aI y.lo y.hi)).s.1=0:=by
     rw [O6 l3,rN hP hm hom,sg_zr];exact pm
    rw [show ((aF p (aI y.lo y.hi)).s.1==0)=false by simpa using e,Bool.false_and,Bool.and_false]
   refine ⟨m+1,⟨aI y.lo y.hi,y.hi⟩,?_,by rw [z8 l3];exact hom⟩;unfold cY;simp only [hex,cond_false]
  simp only [cond_true];rw [hcm,cond_true]
  have hone:(bP L y.lo (aI y.lo y.hi)).1.1=1:=by simpa using h1'
  exact ih n (m+1) (K+1) _ ⟨y.lo,aI y.lo y.hi⟩ s _ oo_ oo_ oo_ hi.left hs hm ml.1 oo_
theorem Chn9.mem {L:List (List I)} {x:Iv}:∀ {l:List Iv} {u v:Rat},Chn9 L u l v→x∈l→∃ s t,x.lo.At s∧x.hi.At t∧s≤t∧V (L.map qp) s=V (L.map qp) t+1
 | [],u,v,_,hx=>by cases hx
 | y::l,u,v,⟨s,t,a,b,h1,h2,h3,h4⟩,hx=>by
  rcases List.mem_cons.1 hx with rfl|hx
  ·exact ⟨s,t,a,b,h2,h3⟩
  exact Chn9.mem h4 hx
theorem BC {p:List I} {A B:Rat} (h:Sp p A B) {L:List (List I)} (hL:L=(aL p).1) (hr:(bO p).1=L) (a b:Rt) {l:List Iv} (hI:(aU p a b).l=l)
  (hl:∀ x∈l,∃ (K:Nat) (j:Int) (s w:Rat),K≤93∧x.lo.At s∧x.hi.At w∧It A B (2 ^ K) j s w∧s<w∧V (L.map qp) s=V (L.map qp) w+1) :
  ∀ (n i:Nat),(∃ r,cK p a b n i = .inr r∧r.e.1=0) ∨ ∃ j,cK p a b n i = .inl j
 | 0,i=>.inr ⟨_,rfl⟩
 | n+1,i=>by
  unfold cK;rw [hI]
  by_cases hil:i<l.length
  ·rw [decide_eq_true (show (i:Int)<(l.length:Int) by omega),cond_true]
   cases hsk:(((i:Int)==0)&&decide (0<((aF p a).s).1))
   ·rw [cond_false]
    have hmem:l.getD i Iv0∈l:=by
     rw [List.getD_eq_getElem?_getD,List.getElem?_eq_getElem hil];exact List.getElem_mem hil
    obtain ⟨K,j,s,w,hK,hs,hw,hi,hsw,hV⟩:=hl _ hmem;generalize l.getD i Iv0=y at *;obtain ⟨m',y',k1,k2⟩:=Q7 h hL hr a b i (aF p y.lo) (93 - K) 501 0 K j y s w oo_ O (Nat.zero_le _) hi hs hw hsw hV
    dsimp only
    rw [show (500+1)=501 from rfl,k1];simp only [sm];rw [k2,cond_true]
    cases decide ((aF p y'.lo).s.1≤0)
    ·rw [cond_false];exact BC h hL hr a b hI hl n (i+1)
    rw [cond_true];exact .inl ⟨_,rfl,rfl⟩
   rw [cond_true];exact BC h hL hr a b hI hl n (i+1)
  rw [decide_eq_false (show ¬ (i:Int)<(l.length:Int) by omega),cond_false];exact .inr ⟨_,rfl⟩
theorem MO {p:List I} {A B:Rat} (h:Sp p A B) (hAB:A≤B) {K:Nat} (hK:K≤93) {j:Int} {a b:Rt} {u v:Rat} (ha:a.At u) (hb:b.At v) (hi:It A B (2 ^ K) j u v):(aN p a b).e.1=0:=by
 have huv:=hi.le hAB;have sa:=o2 h.tp ha ((hi.lo.sz h.sA h.sB).mono oo_);have sb:=o2 h.tp hb ((hi.hi.sz h.sA h.sB).mono oo_);have hP:=xU h.rgt h.gd;have l3:=hP.l3;have hI:=ht_ h.rgt ha hb h.nb h.ne huv;rw [h.ok,cond_true] at hI;obtain ⟨he,hit⟩:=bM_ h hAB (93 - K) 503 0 K j a b u v oo_ O (Nat.zero_le _) ha hb hi;rw [show ((0:Nat):Int)=0 from rfl,← hI] at he hit;have hch:=R4 h.st (iJ p) (pS p) 503 0 a b u v O dd_ huv ha hb (by rw [show ((0:Nat):Int)=0 from rfl,← hI];exact he);rw [show ((0:Nat):Int)=0 from rfl,← hI] at hch;unfold aN;rw [O7 h.rgt ha hb,h.nb,decide_eq_true huv,h.nl,z8 l3,z8 l3,sa,sb,he];simp only [Bool.not_true,Bool.or_self,cond_false,bne_self_eq_false]
 cases (decide (((aF p a).s).1<0)||decide (((aF p b).s).1<0))
 case true=>rfl
 simp only [cond_false]
 cases ((((aU p a b).l).length:Int)==0)
 case true=>rfl
 simp only [cond_false]
 rcases BC h O (by rw [BN h.rgt]) a b O (fun x hx=>by
  obtain ⟨K',j',s,w,k1,k2,k3,k4⟩:=hit x hx;obtain ⟨s',w',e1,e2,e3,e4⟩:=hch.2.mem hx;obtain rfl:=n9 k2 e1;obtain rfl:=n9 k3 e2;refine ⟨K',j',s,w,k1,k2,k3,k4,?_,e4⟩
  apply Rat.not_le.1
  intro hn;have:=req e3 hn;subst this
  omega) (((aU p a b).l).length+1) 0 with ⟨r,k1,k2⟩|⟨r,k1⟩
 ·rw [k1];exact k2
 rw [k1];rfl
theorem ia_ {p:List I} {a b:Rt} {A B:Rat} (hp:aY p=false) (ha:a.At A) (hb:b.At B) (hAB:A≤B):(aP p a b).2.1=0∨(aP p a b).2.1=30:=by
 rw [HU,hp,B5 ha hb,decide_eq_true hAB];simp only [Bool.not_true,Bool.or_self,cond_false]
 cases ((p.length:Int)==0)
 ·cases (!((aH p a).2) || !((aH p b).2))
  ·cases (decide (((aH p a).1).1<0)||decide (((aH p b).1).1<0))
   ·cases (decide (a.n=b.n)&&decide (a.d=b.d))
    ·cases ((bT p a b).2&&(bT p a b).1.all nnI)
     ·generalize nnR p a b=R
      cases (aL p).2
      ·exact .inr O
      ·cases R.2
       ·exact .inr O
       exact .inl O
     exact .inl O
    exact .inl O
   exact .inl O
  exact .inr O
 exact .inl O
structure Fw (p:List I) (c:Nat→Int) (a b:Rt) (A B:Rat):Prop where
 po:Po p c
 l7:p.length≤7
 bd:∀ k,(c k).natAbs≤2 ^ 64
 ha:a.At A
 hb:b.At B
 le:A≤B
 w:B - A≤(((2 ^ 121:Nat):Int):Rat)
theorem PQ {x y:W} (hx:0≤x.1∧x.1≤100000) (hy:0≤y.1∧y.1≤100000):(W.add x y).1=x.1+y.1:=by
 show IntKind.i64.wrap (x.1+y.1)=_
 rw [wi oo_]
theorem BX (z:Z):0≤(Z.bitsW z).1∧(Z.bitsW z).1≤512:=by
 have:=Z.bits_le z
 show 0≤(z.bits:Int)∧(z.bits:Int)≤512
 omega
theorem fi_ {p:List I} {a b:Rt} {A B:Rat} (h:fO p a b=true) (ha:a.At A) (hb:b.At B):Sz A 120∧Sz B 120:=by
 unfold fO at h;simp only [Bool.and_eq_true,decide_eq_true_eq] at h;obtain ⟨_,_,_,h⟩:=h;have r1:=BX a.n.dec;have r2:=BX a.d.dec;have r3:=BX b.n.dec;have r4:=BX b.d.dec;have s1:=PQ (x:=Z.bitsW a.n.dec) (y:=Z.bitsW a.d.dec) oo_ oo_;have s2:=PQ (x:=W.add (Z.bitsW a.n.dec) (Z.bitsW a.d.dec)) (y:=Z.bitsW b.n.dec) oo_ oo_;have s3:=PQ (x:=W.add (W.add (Z.bitsW a.n.dec) (Z.bitsW a.d.dec)) (Z.bitsW b.n.dec)) (y:=Z.bitsW b.d.dec) oo_ oo_;rw [s3,s2,s1] at h;have ia:=At.is ha;have ib:=At.is hb
 have q1:(Z.bitsW a.n.dec).1≤120:=by omega
 have q2:(Z.bitsW a.d.dec).1≤120:=by omega
 have q3:(Z.bitsW b.n.dec).1≤120:=by omega
 have q4:(Z.bitsW b.d.dec).1≤120:=by omega
 rw [ia.en,cP] at q1;rw [ia.ed,cP] at q2;rw [ib.en,cP] at q3;rw [ib.ed,cP] at q4;refine ⟨⟨y7 ia.hn q1,?_⟩,⟨y7 ib.hn q3,?_⟩⟩
 ·have:=y7 ia.hd q2;rwa [Int.natAbs_natCast] at this
 have:=y7 ib.hd q4;rwa [Int.natAbs_natCast] at this
theorem N4 {p:List I} {a b:Rt} (h:fO p a b=true):(∃ c A B,Fw p c a b A B)∨(fT p a b=true∧(aY p || !iO a b)=true):=by
 have h':=h;unfold fO at h';simp only [Bool.and_eq_true] at h';obtain ⟨hf,va,vb,_⟩:=h';have hr:=(N3 hf).1
 cases hw:(aY p || !iO a b)
 ·left
  obtain ⟨w1,w2⟩:=Bool.or_eq_false_iff.1 hw
  have w2:iO a b=true:=by simpa using w2
  have w2':=w2;unfold iO at w2;simp only [Bool.and_eq_true,Bool.not_eq_true',decide_eq_true_eq] at w2
  have bad4:jE.n.1.bad=true:=by decide +kernel
  have ga:bB a=true:=by
   unfold j5 at va;rcases Bool.or_eq_true_iff.1 va with k|k
   ·exact k
   simp only [Bool.and_eq_true,decide_eq_true_eq] at k;rw [k.1,bad4] at w2;exact absurd w2.1 dd_
  have gb:bB b=true:=by
   unfold j5 at vb;rcases Bool.or_eq_true_iff.1 vb with k|k
   ·exact k
   simp only [Bool.and_eq_true,decide_eq_true_eq] at k;rw [k.1,bad4] at w2;exact absurd w2.2.1 dd_
  obtain ⟨A,hA⟩:=HI ga;obtain ⟨B,hB⟩:=HI gb;obtain ⟨c,hc,bd⟩:=QS hf (by rw [iX (DF hr)] at w1;simpa using w1);have bd:Bd c 7 64:=bd;obtain ⟨sA,sB⟩:=fi_ h hA hB;have aA:=WX sA;have aB:=WX sB
  have hle:A≤B:=by rw [B5 hA hB] at w2';exact of_decide_eq_true w2'
  refine ⟨c,A,B,hc,Nat.le_trans (hc.len bd) (Nat.le_refl _),fun k=>Nat.le_of_lt (bd.b k),hA,hB,hle,?_⟩
  have e:(((2 ^ 121:Nat):Int):Rat)=2*(((2 ^ 120:Nat):Int):Rat):=by decide +kernel
  rw [e];clear e;generalize (((2 ^ 120:Nat):Int):Rat)=M at *;unfold Ab at aA aB;clear h hf va vb w2 w2' bad4 ga gb
  grind
 exact .inr ⟨by rw [IQ p (DF hr)];exact hw,rfl⟩
theorem UT {p:List I} {c:Nat→Int} {a b:Rt} {A B:Rat} (h:Fw p c a b A B) (h1:(aP p a b).2.1≠30) (h2:(aN p a b).e.1≠30):(aP p a b).2.1=0∧(aN p a b).e.1=0∧(aP p a b).1=(aN p a b).is:=by
 have e1:=(ia_ h.po.nb h.ha h.hb h.le).resolve_right h1;obtain ⟨e2,s2⟩:=YG h.po h.bd h.ha h.hb h.le h.w h2;have s1:=(HT h.po.rgt h.l7 h.ha h.hb e1).2.2;refine ⟨e1,e2,?_⟩;rw [Bool.eq_iff_iff,s1,s2]
theorem DN {p:List I} {a b:Rt} (h1:fT p a b=true) (h2:(aY p || !iO a b)=true):aP p a b=(false,wl 1)∧aN p a b=⟨⟨⟨I0,I0⟩,⟨I0,I0⟩⟩,false,wl 1⟩:=by
 constructor
 ·rw [HU,h2];rfl
 unfold aN;rw [h1];rfl
theorem C2 {p:List I} {c:Nat→Int} {a b:Rt} {A B:Rat} (h:Fw p c a b A B) (h0:p≠[]) (k:Int) (r10:Fnd9):∀ (n i:Nat) (m:Iv) (u v:Rat),m.lo.At u→m.hi.At v→u≤v→v - u≤(((2 ^ 121:Nat):Int):Rat) →
  (∃ r,gY p a b k n i m = .inr r∧r.2.2.1=30)∨(∃ r,eU p a b k r10 n i m = .inr r∧r.e.1=30)∨(∃ j y,gY p a b k n i m = .inl (j,y)∧eU p a b k r10 n i m = .inl (j,y))
 | 0,i,m,u,v,_,_,_,_=>.inr (.inr ⟨i,m,rfl,rfl⟩)
 | n+1,i,m,u,v,hu,hv,huv,hw=>by
  have l3:=h.po.l3;unfold gY eU
  cases decide ((i:Int)<k)
  ·exact .inr (.inr ⟨i,m,rfl,rfl⟩)
  simp only [cond_true];rw [AS]
  by_cases hg:bB (aI m.lo m.hi)=true
  ·have hm:=LN hu hv hg
   have ml:=C9 huv;have hlw:(u+v)*(1 / 2) - u≤(((2 ^ 121:Nat):Int):Rat):=Rat.le_trans (show (u+v)*(1 / 2) - u≤v - u by grind) hw;have hrw:v - (u+v)*(1 / 2)≤(((2 ^ 121:Nat):Int):Rat):=Rat.le_trans (show v - (u+v)*(1 / 2)≤v - u by grind) hw;have F':Fw p c m.lo (aI m.lo m.hi) u ((u+v)*(1 / 2)):=⟨h.po,h.l7,h.bd,hu,hm,ml.1,hlw⟩;rw [U0 hm];simp only [cond_false]
   by_cases e1:(aP p m.lo (aI m.lo m.hi)).2.1=30
   ·left
    rw [e1];exact ⟨_,rfl,e1⟩
   by_cases e2:(aN p m.lo (aI m.lo m.hi)).e.1=30
   ·right;left
    rw [e2];exact ⟨_,rfl,e2⟩
   obtain ⟨z1,z2,z3⟩:=UT F' e1 e2;rw [z1,z2,z3];simp only [bne_self_eq_false,cond_false,show ((0:Int)==1)=false from rfl]
   cases (aN p m.lo (aI m.lo m.hi)).is
   ·exact C2 h h0 k r10 n (i+1) _ u _ hu hm ml.1 hlw
   exact C2 h h0 k r10 n (i+1) _ _ v hm hv ml.2 hrw
  right;left
  have hno:(aF p (aI m.lo m.hi)).ok=false:=by
   rw [z8 l3]
   cases hs:(aH p (aI m.lo m.hi)).2
   ·rfl
   obtain ⟨q,hq⟩:=BV hs;exact absurd (nK hq) hg
  have hr:(aN p m.lo (aI m.lo m.hi)).e.1=1∨(aN p m.lo (aI m.lo m.hi)).e.1=30:=by
   unfold aN;rw [hno,GN,decide_eq_false h0]
   cases fT p m.lo (aI m.lo m.hi)
   ·right
    simp only [cond_false,Bool.not_false,Bool.or_true,cond_true]
   exact .inl O
  generalize aN p m.lo (aI m.lo m.hi)=R at *;rcases hr with e|e
  ·rw [e];exact ⟨_,rfl,rfl⟩
  rw [e];exact ⟨_,rfl,e⟩
theorem Y6 {p:List I} {a b:Rt} {k:Int} (hf:fO p a b=true) (h1:(bZ p a b k).2.2.1≠30) (h2:(bR p a b k).e.1≠30):(bZ p a b k).1=(bR p a b k).x∧(bZ p a b k).2.1=(bR p a b k).is∧(bZ p a b k).2.2.1=(bR p a b k).e.1:=by
 unfold bZ at h1 ⊢;unfold bR at h2 ⊢
 cases hk:(decide (k<0)||decide (64<k))
 case true=>exact ⟨rfl,rfl,rfl⟩
 rw [hk] at h1 h2;simp only [cond_false] at h1 h2 ⊢;rcases N4 hf with ⟨c,A,B,h⟩|⟨w1,w2⟩
 ·have n1:(aP p a b).2.1≠30:=fun e=>by
   rw [e] at h1;exact h1 e
  have n2:(aN p a b).e.1≠30:=fun e=>by
   rw [e] at h2;exact h2 e
  obtain ⟨z1,z2,z3⟩:=UT h n1 n2;rw [z1,z3] at h1;rw [z2] at h2;rw [z1,z2,z3];simp only [bne_self_eq_false,Bool.false_or] at h1 h2 ⊢
  cases hz:(aN p a b).is
  case true=>exact ⟨rfl,rfl,by simp only [cond_true];rw [z1,z2]⟩
  rw [hz] at h1 h2;simp only [cond_false] at h1 h2 ⊢
  have h0:p≠[]:=fun e=>by
   have:=(HT h.po.rgt h.l7 h.ha h.hb z1).2.2.2 (by subst e;exact fun x _ _=>by rw [DD,QP.ev_C];exact Rat.le_refl);rw [z3,hz] at this;cases this
  rcases C2 h h0 k (aN p a b) (k.toNat+1) 0 ⟨a,b⟩ A B h.ha h.hb h.le h.w with ⟨r,e1,e2⟩|⟨r,e1,e2⟩|⟨j,y,e1,e2⟩
  ·rw [e1] at h1;exact absurd e2 h1
  ·rw [e1] at h2;exact absurd e2 h2
  rw [e1,e2];exact ⟨rfl,rfl,rfl⟩
 obtain ⟨q1,q2⟩:=DN w1 w2;rw [q1,q2];exact ⟨rfl,rfl,rfl⟩
theorem CN {p:List I} {a b:Rt} {k:W} (hf:fO p a b=true) (hS:cL p a b k=true):(aP p a b).2.1≠30∧(aN p a b).e.1≠30:=by
 rcases N4 hf with ⟨c,A,B,h⟩|⟨w1,w2⟩
 ·obtain ⟨hr,hk,hc|⟨A',B',hA,hB,hs⟩⟩:=GV hS
  ·rw [h.po.nb,Bool.false_or] at hc
   constructor
   ·rw [HU,h.po.nb,B5 h.ha h.hb,decide_eq_true h.le,hc]
    simp only [Bool.not_true,Bool.or_self,cond_false,cond_true]
    show (0:Int)≠30;decide
   unfold aN;rw [O7 hr h.ha h.hb,h.po.nb,decide_eq_true h.le,hc];simp only [Bool.not_true,Bool.or_self,cond_false,cond_true]
   show (0:Int)≠30;decide
  obtain rfl:=n9 h.ha hA;obtain rfl:=n9 h.hb hB;rw [PV hs h.le (K:=0) dd_ h.ha h.hb (It.one _ _),MO hs h.le (K:=0) dd_ h.ha h.hb (It.one _ _)];exact ⟨by decide,by decide⟩
 obtain ⟨q1,q2⟩:=DN w1 w2;rw [q1,q2];exact ⟨by decide,by decide⟩
theorem AX {p:List I} {A B:Rat} (h:Sp p A B) (hAB:A≤B) (a b:Rt) {k:Int} (hk:k≤16) (r10:Fnd9):∀ (n i:Nat) (j:Int) (m:Iv) (u v:Rat),i≤17→m.lo.At u→m.hi.At v→It A B (2 ^ i) j u v →
  (∃ y,gY p a b k n i m = .inl y)∧∃ y,eU p a b k r10 n i m = .inl y
 | 0,i,j,m,u,v,_,_,_,_=>⟨⟨_,rfl⟩,⟨_,rfl⟩⟩
 | n+1,i,j,m,u,v,hi17,hu,hv,hi=>by
  have hP:=xU h.rgt h.gd;unfold gY eU
  by_cases hik:(i:Int)<k
  ·rw [decide_eq_true hik]
   simp only [cond_true];have hm:=h.mid oo_ hu hv hi.lo hi.hi;have e1:=PV h hAB (K:=i+1) oo_ hu hm hi.left;rw [AS] at hm e1 ⊢;have e2:=MO h hAB (K:=i+1) oo_ hu hm hi.left;rw [U0 hm,e1,e2];simp only [bne_self_eq_false,cond_false,show ((0:Int)==1)=false from rfl];have gl:=AX h hAB a b hk r10 n (i+1) _ ⟨m.lo,aI m.lo m.hi⟩ u _ oo_ hu hm hi.left;have gr:=AX h hAB a b hk r10 n (i+1) _ ⟨aI m.lo m.hi,m.hi⟩ _ v oo_ hm hv hi.right
   constructor
   ·cases (aP p m.lo (aI m.lo m.hi)).1
    ·exact gl.1
    exact gr.1
   ·cases (aN p m.lo (aI m.lo m.hi)).is
    ·exact gl.2
    exact gr.2
  rw [decide_eq_false hik];exact ⟨⟨_,rfl⟩,⟨_,rfl⟩⟩
theorem E4 {p:List I} {a b:Rt} {k:W} (hf:fO p a b=true) (hS:cL p a b k=true):(bZ p a b k.1).2.2.1≠30∧(bR p a b k.1).e.1≠30:=by
 obtain ⟨n1,n2⟩:=CN hf hS;unfold bZ bR
 cases hk:(decide (k.1<0)||decide (64<k.1))
 case true=>exact ⟨by rw [cond_true];show (1:Int)≠30;decide,by rw [cond_true];show (1:Int)≠30;decide⟩
 simp only [cond_false];rcases N4 hf with ⟨c,A,B,h⟩|⟨w1,w2⟩
 ·obtain ⟨z1,z2,z3⟩:=UT h n1 n2
  rw [z1,z2,z3];simp only [bne_self_eq_false,Bool.false_or]
  cases hz:(aN p a b).is
  case true=>simp only [cond_true];exact ⟨n1,n2⟩
  simp only [cond_false]
  have h0:p≠[]:=fun e=>by
   have:=(HT h.po.rgt h.l7 h.ha h.hb z1).2.2.2 (by subst e;exact fun x _ _=>by rw [DD,QP.ev_C];exact Rat.le_refl);rw [z3,hz] at this;cases this
  obtain ⟨hr,hk16,hc|⟨A',B',hA,hB,hs⟩⟩:=GV hS
  ·rw [h.po.nb,Bool.false_or,GN,decide_eq_true_eq] at hc
   exact absurd hc h0
  obtain rfl:=n9 h.ha hA;obtain rfl:=n9 h.hb hB;obtain ⟨⟨y1,e1⟩,⟨y2,e2⟩⟩:=AX hs h.le a b hk16 (aN p a b) (k.1.toNat+1) 0 0 ⟨a,b⟩ A B dd_ h.ha h.hb (It.one _ _);rw [e1,e2];exact ⟨by show (0:Int)≠30;decide,by show (0:Int)≠30;decide⟩
 obtain ⟨q1,q2⟩:=DN w1 w2;rw [q1,q2];exact ⟨by show (1:Int)≠30;decide,by show (1:Int)≠30;decide⟩
theorem NK (p:List I) (a b:Rt) (k:W):e8 p a b k=true:=by
 unfold e8
 cases hf:fO p a b
 ·rw [cond_false];exact R8
 rw [cond_true]
 dsimp only
 rw [R8];have L1:=VS (e:=(aP p a b).2) (f:=(aN p a b).e) (S:=cL p a b k) fun hS=>CN hf hS;have L2:=VS (e:=(bZ p a b k.1).2.2) (f:=(bR p a b k.1).e) (S:=cL p a b k) fun hS=>E4 hf hS
 have M1:((dM (aP p a b).2 (aN p a b).e (cL p a b k)).1||(((aP p a b).1==(aN p a b).is)&&((aP p a b).2.1==(aN p a b).e.1)))=true:=VT fun h1 h2=>by
  rcases N4 hf with ⟨c,A,B,h⟩|⟨w1,w2⟩
  ·obtain ⟨z1,z2,z3⟩:=UT h h1 h2
   rw [z1,z2,z3];simp
  obtain ⟨q1,q2⟩:=DN w1 w2;rw [q1,q2];rfl
 have M2:=VT (e:=(bZ p a b k.1).2.2) (f:=(bR p a b k.1).e) (S:=cL p a b k) (P:=((decide ((bZ p a b k.1).1.lo.n=(bR p a b k.1).x.lo.n)&&(decide ((bZ p a b k.1).1.lo.d=(bR p a b k.1).x.lo.d)&&(decide ((bZ p a b k.1).1.hi.n=(bR p a b k.1).x.hi.n)&&decide ((bZ p a b k.1).1.hi.d=(bR p a b k.1).x.hi.d))))&&(((bZ p a b k.1).2.1==(bR p a b k.1).is)&&(((bZ p a b k.1).2.2).1==(bR p a b k.1).e.1)))) fun h1 h2=>by
  obtain ⟨z1,z2,z3⟩:=Y6 hf h1 h2;rw [z1,z2,z3];simp
 rw [L1,L2,M2]
 have C1:(!true||(!((dM (aP p a b).2 (aN p a b).e (cL p a b k)).1)&&(((aP p a b).1 != (aN p a b).is)||(((aP p a b).2).1 != (aN p a b).e.1))))=false:=by
  unfold bne;generalize ((aP p a b).1==(aN p a b).is)=x1 at *;generalize ((aP p a b).2.1==(aN p a b).e.1)=x2 at *;generalize (dM (aP p a b).2 (aN p a b).e (cL p a b k)).1=x3 at *
  cases x1<;>cases x2<;>cases x3<;>first|rfl|(exact absurd M1 dd_)
 rw [C1];rfl
open Go Go.Kn Go.RowKit Go.ChangeShapes Go.WideShapes
section
variable {H:Type} {enc:TypeId×Value→H} {P:Program} {w:World} {base:Nat} {spare:Nat→Bool} {held:Bool} {α:Type} {e:El α}
theorem Rd.app {a:Addr} {A B:List Value} (h:Rd w a A) (k:Rd w (a.add A.length) B):Rd w a (A++B):=fun j v hj=>by
 rcases Nat.lt_or_ge j A.length with h'|h'
 ·rw [List.getElem?_append_left h'] at hj;exact h j v hj
 rw [List.getElem?_append_right h'] at hj;have:=k _ _ hj;rw [NP,Nat.add_sub_cancel' h'] at this;exact this
theorem Rd.of_cells {a:Addr} {n:Nat} {cs:List Value} (h:w.cells? base a n=some cs):Rd w a cs:=fun j v hj=>by
 obtain ⟨_,hl,hc⟩:=World.cells?_some h;have hj':j<cs.length:=(List.getElem?_eq_some_iff.1 hj).1;have h1:=hc j oo_;rw [hj] at h1;exact h1
theorem WG {a:Addr} {len:Nat} (h:∀ i,i<len→∃ x:α,w.cells? base (a.add (i*e.n)) e.n=some (e.cs x)):∀ k,k≤len→∃ l:List α,l.length=k∧Rd w a (rows e l)
 | 0,_=>⟨[],rfl,fun j v hj=>by simp [rows] at hj⟩
 | k+1,hk=>by
  obtain ⟨l,hl,hr⟩:=WG h k oo_;obtain ⟨x,hx⟩:=h k oo_;refine ⟨l++[x],by simp [hl],?_⟩;rw [vG];refine Rd.app hr ?_;rw [mG,hl];have:=Rd.of_cells hx
  simpa [rows] using this
theorem fQ_ {T E:TypeId} {ls:List qY} {v:Value} {d:DataW H} {p:List MemPlace} {b0:Nat} {r:Reach} (hT:P.underlying T=some (.slice E)) (hl:lz P 8 E=some ls) (hn:P.cellsOf E=e.n)
  (op:∀ cs,LWF cs ls→∃ x:α,cs=e.cs x) (hv:Value.okWide P w r b0 T v) (ht:DataW.Trod enc P w base spare held T v d p):∃ l:List α,Slr w e v l:=by
 obtain ⟨fuel,hf⟩:=ht
 have hv':∃ a n c,v = .slice a n c:=by
  unfold Value.okWide at hv;rw [hT] at hv;unfold Cell.okWide at hv;rw [hT] at hv
  cases v<;>simp_all [Cell.ok]
 obtain ⟨a,n,c,rfl⟩:=hv';have e1:(Value.slice a n c).cells.toList=[.slice a n c]:=rfl;rw [e1] at hf;rcases DataW.trod_slice hT hf with ⟨h,_⟩|⟨a',len,cap,elems,rest,m,_,h,_,_,hlc,hc,hel,hall,_⟩
 ·cases h
  exact ⟨[],none,0,rfl,Nat.le_refl _,by decide,.inl ⟨rfl,rfl,rfl⟩⟩
 ·cases h
  have hx:∀ i,i<n→∃ x:α,w.cells? base (a'.add (i*e.n)) e.n=some (e.cs x):=fun i hi=>by
   have h1:=hall i hi;rw [List.getElem?_eq_getElem oo_,hn] at h1
   cases hc':w.cells? base (a'.add (i*e.n)) e.n with
   | none=>rw [hc'] at h1;cases h1
   | some cs =>
    rw [hc'] at h1;obtain ⟨x,hx⟩:=op cs (xI 8 hl h1);exact ⟨x,by rw [hx]⟩
  obtain ⟨l,hl',hr⟩:=WG hx n (Nat.le_refl _);exact ⟨l,some a',c,by rw [hl'],by omega,hc,.inr ⟨a',rfl,hr⟩⟩
end
theorem ir_ {cs:List Value} (h:LWF cs LI):∃ x:I,cs=elI.cs x:=by
 obtain ⟨x0,rfl⟩:=hh_ h;exact ⟨x0,by first|rfl|exact (List.append_nil _).symm|simp [El.cs,elI,bH]⟩
end Go.Num
