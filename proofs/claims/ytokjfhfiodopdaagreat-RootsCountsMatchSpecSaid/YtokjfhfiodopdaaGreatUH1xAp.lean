/- Lemmas: what they ask stands in their statements. -/
import Derived.Test.YtokjfhfiodopdaaGreatUH1xGC
import Derived.Test.YtokjfhfiodopdaaGreatUGa
set_option linter.unusedSimpArgs false
set_option linter.unusedVariables false
set_option maxHeartbeats 8000000
set_option maxRecDepth 20000
namespace Go.Num
open Go Go.Kn
open QP (V)
theorem c4_ {out:List (List I)} {next:List I} (ho:AL out) (hn:next.length≤25):aD (cW (cM ((out++[next]).getD (((out++[next])).length - 2) []) next) (E (Z.of (-1))))=nxt out next:=by
  have ha:=vJ (k:=(out++[next]).length - 2) (vB ho hn);unfold nxt;generalize (out++[next]).getD (((out++[next])).length - 2) []=a at *
  have hr:=lQ a next
  have hs:=oU (bQ a next) (E (Z.of (-1)));rw [sZ oo_,EH _ oo_,GG oo_ oo_]
theorem er_ {out:List (List I)} {next:List I} (ho:AL out) (hn:next.length≤25) (h1:1≤out.length) (hl:out.length+gmP next≤60) (h0:0<next.length) (hg:next.all gdI=true):gmP (nxt out next)<gmP next:=by
  rw [← c4_ ho hn];exact I1 (vJ (vB ho hn)) ⟨⟨hl,h1⟩,hn,ho⟩ (decide_eq_true oo_) (by rw [lN,hg];rfl)
theorem b3_ (out:List (List I)) (next:List I):Rgt (nxt out next):=pD _ (l25 (oU _ _))
theorem LR (p:List I) (k:Nat) (out:List (List I)) (next:List I) (hb:next=badp):dV p (k+1) out next = .inr ([],false):=by
  subst hb;unfold dV;rw [show decide (0<((badp.length:Nat):Int))=true from by kernel_rfl,cond_true,show aP badp=true from by kernel_rfl];rfl
theorem B7 (p:List I):∀ (k:Nat) (out:List (List I)) (next:List I),AL out→Rgt next→next.all gdI=true→1≤out.length→out.length+gmP next≤60→gmP next<k→(∀ x∈out,aU x=false) →
    cI p k out next=dV p k out next∧∀ s,cI p k out next = .inl s→∀ x∈s.1,aU x=false
  | 0,out,next,_,_,_,_,_,hk,_=>absurd hk (Nat.not_lt_zero _)
  | k+1,out,next,ho,hr,hg,h1,hl,hk,ha=>by
    have hn:=vP hr;unfold cI dV
    cases h0:decide (0<((next.length:Nat):Int))
    · exact ⟨rfl,fun s h=>by cases h;exact ha⟩
    have h0':0<next.length:=by have:=of_decide_eq_true h0;omega
    rw [cond_true,cond_true,show aP next=false by rw [lN,hg];rfl,cond_false,vT,c4_ ho hn]
    show (bif aU (nxt out next) then .inr ([],false) else cI p k (out++[next]) (nxt out next))=_∧_
    have hgm:=er_ ho hn h1 hl h0' hg
    have hR:=b3_ out next
    have hlen:(out++[next]).length=out.length+1:=by simp
    have ha':∀ x∈out++[next],aU x=false:=fun x hx=>by
      rcases List.mem_append.1 hx with hx|hx
      · exact ha x hx
      rw [List.mem_singleton.1 hx,iY (l25 hn),hg];rfl
    cases hb:(nxt out next).all gdI
    · have e:=vO hR hb
      obtain ⟨k,rfl⟩:∃ j,k=j+1:=⟨k - 1,by omega⟩;rw [LR p k _ _ e,show aU (nxt out next)=true by rw [e];kernel_rfl];refine ⟨rfl,fun s h=>?_⟩;have h:(bif aU (nxt out next) then .inr ([],false) else cI p (k+1) (out++[next]) (nxt out next):(List (List I)×List I) ⊕ ((List (List I))×Bool)) = .inl s:=h;rw [show aU (nxt out next)=true by rw [e];kernel_rfl,cond_true] at h;cases h
    have hnb:aU (nxt out next)=false:=by rw [iY (l25 (vP hR)),hb];rfl
    obtain ⟨i1,i2⟩:=B7 p k (out++[next]) (nxt out next) (vB ho hn) hR hb oo_ oo_ oo_ ha';rw [hnb,cond_false];refine ⟨i1,fun s h=>?_⟩;have h:(bif aU (nxt out next) then .inr ([],false) else cI p k (out++[next]) (nxt out next):(List (List I)×List I) ⊕ ((List (List I))×Bool)) = .inl s:=h;rw [hnb,cond_false] at h;exact i2 s h
theorem XM (p:List I) (hp:p.length≤1000):aE p=aI p:=by exact CB hp
theorem yD {p:List I} (hp:Rgt p):aH p=bA p:=by
  unfold aH bA;have hfl:=rK p;have hdl:=l4 (bD p);rw [← OT hp,← XM _ (l25 hfl),← sZ (l25 hdl)];have hR:Rgt (aC (aE (bD p))):=pD _ (l25 hdl);have hgm:=R7 (cC (aE (bD p)))
  cases hb:(aC (aE (bD p))).all gdI
  · have e:=vO hR hb
    rw [VU p _ _ e,LR p _ _ _ e];rfl
  have hfb:aU (bD p)=false:=by
    cases hf:aU (bD p)
    · rfl
    exfalso
    rw [iY (l25 hfl)] at hf
    have h1:aE (bD p)=badp:=by
      unfold aE;rw [iY (l25 hfl),hf,cond_true,C3]
    rw [h1,qX,e7] at hb;cases hb
  obtain ⟨i1,i2⟩:=B7 p (gmP (aC (aE (bD p)))+1) [bD p] _ (EE hfl) hR hb (Nat.le_refl 1) (by simp only [List.length_singleton];omega) (Nat.lt_succ_self _) (fun x hx=>by rw [List.mem_singleton.1 hx];exact hfb);rw [← i1]
  cases hl:cI p (gmP (aC (aE (bD p)))+1) [bD p] (aC (aE (bD p))) with
  | inr r=>rfl
  | inl s =>
    show sm (fun (_:Unit)=>(s.1,true)) (fun r=>r) (dP p s.1 s.2 s.1)=(s.1,!aP (bD p))
    rw [H5 p s.1 s.2 s.1 (i2 s hl)];rw [iY (l25 hfl)] at hfb;rw [lN,hfb];rfl
theorem OU {p:List I} (l1:p.length≤1000) (x:Rt):aL p x=((d7 p x).s,(d7 p x).ok):=by
  unfold aL d7;rw [VP x l1]
  cases hb:(eS p x).1.bad
  · rfl
  have h0:Z.signW (eS p x).dec=wl 0:=W.ext (by
    show (eS p x).dec.sign=0
    have hn:(eS p x).dec.o=none:=by rw [I.dec,tC (by unfold R.good;rw [hb];rfl)];rfl
    unfold Z.sign;rw [hn])
  rw [h0];rfl
theorem dY_ (l:List (List I)) {i:Nat} (h:i<l.length):l.drop i=l.getD i []::l.drop (i+1):=by
  rw [List.drop_eq_getElem_cons h,List.getD_eq_getElem?_getD,List.getElem?_eq_getElem h];rfl
theorem HE (c:List (List I)) (x:Rt) (hc:AL c):∀ (k i:Nat) (n last:W),c.length - i<k→i≤c.length →
    sm (fun (s:W×W×Nat)=>(s.1,true)) (fun r=>r) (gO c x k n last i)=sm (fun (s:W×W)=>(s.2,true)) (fun r=>r) (d9 c x (c.drop i) last n)
  | 0,i,n,last,h,_=>absurd h (Nat.not_lt_zero _)
  | k+1,i,n,last,h,hi=>by
    unfold gO
    by_cases hlt:i<c.length
    · rw [decide_eq_true (show ((i:Nat):Int)<((c.length:Nat):Int) by omega),cond_true,dY_ c hlt]
      unfold d9;have hl:=vJ (k:=i) hc;generalize c.getD i []=f at *;have hr:=G7 f x;rw [OU (l25 hl) x] at hr ⊢
      dsimp only at hr ⊢
      generalize d7 f x=S at *;obtain ⟨s,ok⟩:=S
      dsimp only at hr ⊢
      cases ok
      · rfl
      rw [cond_true,cond_true]
      by_cases z0:s.1=0
      · rw [show (s.1 != 0)=false by simp [z0]]
        simp only [cond_false];exact HE c x hc k (i+1) _ _ oo_ oo_
      rw [show (s.1 != 0)=true by simp [z0],show (s.1==(-2))=false by simp;omega];simp only [cond_true,cond_false]
      cases z1:(last.1 != 0)
      · simp only [cond_false,Bool.false_and]
        exact HE c x hc k (i+1) _ _ oo_ oo_
      · cases z2:(s.1 != last.1)
        · simp only [cond_false,cond_true,Bool.true_and]
          exact HE c x hc k (i+1) _ _ oo_ oo_
        simp only [cond_false,cond_true,Bool.true_and];exact HE c x hc k (i+1) _ _ oo_ oo_
    rw [decide_eq_false (show ¬ ((i:Nat):Int)<((c.length:Nat):Int) by omega),cond_false,List.drop_eq_nil_of_le oo_];rfl
theorem HC {c:List (List I)} (hc:AL c) (x:Rt):cY c x=dE c x:=(HE c x hc (c.length+1) 0 (wl 0) (wl 0) oo_ (Nat.zero_le _)).symm
theorem u1 {c:List (List I)} (hc:AL c) (a b:Rt):aG c a b=bU c a b:=by
  unfold aG bU;rw [HC hc,HC hc]
theorem yV (p:List I) (hp:p.length≤1000) (a b:Rt):iO p a b=(aU p || !iM a b):=by
  unfold iO iM;rw [iY hp,lN,be_];generalize (i9 a b).1=t
  cases (p.all gdI)<;>cases a.n.1.bad<;>cases b.n.1.bad<;>simp
  by_cases h:t≤0
  · rw [decide_eq_true h,decide_eq_false oo_];rfl
  rw [decide_eq_false h,decide_eq_true oo_];rfl
theorem AA {p:List I} (hp:Rgt p) (a b:Rt):bG p a b=((aY p a b).n,(aY p a b).e):=by
  have hA:=iI p;unfold bG aY;rw [yV p (tO hp),← yD hp,← u1 hA];clear hA;generalize aG (aH p).1 a b=C;generalize (aH p).2=ok;generalize iM a b=g;generalize aU p=ib;generalize ((((p).length:Nat):Int)==0)=z;obtain ⟨C1,C2⟩:=C
  cases ib<;>cases z<;>cases g<;>cases ok<;>cases C2<;>rfl
theorem WC (c:List (List I)):∀ (n:Nat) (a b:Rt) (k:Nat) (out:List Iv),aW c n a b k false out=(false,out)
  | 0,a,b,k,out=>rfl
  | n+1,a,b,k,out=>by unfold aW;rfl
theorem IQ {p:List I} {L:List (List I)} (h:St p L) (hA:AL L) (hl:L.length≤100) {n:Nat} {a b:Rt} (hb:¬ ∃ qa qb,a.At qa∧b.At qb) (k:Int):(aM n L a b k).l=[]:=by
  cases n with
  | zero=>rfl
  | succ n =>
    unfold aM
    have hs:(bU L a b).2=false:=by
      rw [← u1 hA]
      cases hs:(aG L a b).2
      · rfl
      exact absurd (HH h hl hs) hb
    rw [hs];simp only [Bool.not_false,Bool.true_or,cond_true]
theorem IR {p:List I} {L:List (List I)} (h:St p L) (hA:AL L) (hl:L.length≤100):∀ (n:Nat) (a b:Rt) (k:Int) (qa qb:Rat),a.At qa→b.At qb →
    (aM n L a b k).l.length≤V (L.map qp) qa - V (L.map qp) qb
  | 0,a,b,k,qa,qb,ha,hb=>Nat.zero_le _
  | n+1,a,b,k,qa,qb,ha,hb=>by
    unfold aM;rw [← u1 hA]
    cases ho:(!((aG L a b).2)||decide (500<k))
    · rw [cond_false]
      have hs:(aG L a b).2=true:=by
        simp only [Bool.or_eq_false_iff,Bool.not_eq_false'] at ho;exact ho.1
      obtain ⟨qa',qb',hc⟩:=GM h hl hs;obtain rfl:=EG ha hc.a;obtain rfl:=EG hb hc.b;have hn:=hc.n;generalize (aG L a b).1.1=m at *
      cases h0:(m==0)
      · rw [cond_false]
        cases h1:(m==1)
        · rw [cond_false]
          have both:(aM n L a (bB a b) (k+1)).l.length+(aM n L (bB a b) b (k+1)).l.length≤V (L.map qp) qa - V (L.map qp) qb:=by
            by_cases hg:aZ (bB a b)=true
            · have hm:=cG_ ha hb hg
              have i1:=IR h hA hl n a (bB a b) (k+1) qa _ ha hm;have i2:=IR h hA hl n (bB a b) b (k+1) _ qb hm hb;rcases Rat.le_total (a:=qa) (b:=qb) with hab|hab
              · have v1:=h.anti (NM hab).1
                have v2:=h.anti (NM hab).2;omega
              have v1:=h.anti (a:=(qa+qb)*(1 / 2)) (b:=qa) (by grind);have v2:=h.anti (a:=qb) (b:=(qa+qb)*(1 / 2)) (by grind);omega
            have hno:¬ ∃ q,(bB a b).At q:=fun ⟨q,hq⟩=>hg (uQ hq);rw [IQ h hA hl (fun ⟨u,v,hu,hv⟩=>hno ⟨v,hv⟩) (k+1),IQ h hA hl (fun ⟨u,v,hu,hv⟩=>hno ⟨u,hu⟩) (k+1)];exact Nat.zero_le _
          generalize aM n L a (bB a b) (k+1)=r1 at *;generalize aM n L (bB a b) b (k+1)=r2 at *
          cases (r1.e.1 != 0)
          · rw [cond_false]
            cases (r2.e.1 != 0)
            · rw [cond_false];simp only [List.length_append];exact both
            rw [cond_true];simp only;omega
          rw [cond_true];simp only;omega
        rw [cond_true]
        have:m=1:=by simpa using h1
        simp only [List.length_singleton];omega
      rw [cond_true];exact Nat.zero_le _
    rw [cond_true];exact Nat.zero_le _
theorem WY (n:Nat) (a b:Rt) (k:Int):(aM n [[]] a b k).l=[]:=by
  cases n with
  | zero=>rfl
  | succ n =>
    unfold aM;rw [← u1 (EE (Nat.zero_le _)),TM,show ((0:Int)==0)=true from rfl,cond_true]
    cases (!((aG [[]] a b).2)||decide (500<k))<;>rfl
theorem AS (p:List I) (hp:Rgt p∧p.length≤100) (hok:(bA p).2=true):∀ n a b k,(aM n ((bA p).1) a b k).l.length≤1000:=fun n a b k=>by
  rw [← yD hp.1] at hok ⊢;have hl:=yE p;have hA:=iI p;rcases A7 hp.1 hok with rfl|h
  · rw [show aH []=([[]],true) by kernel_rfl,WY];exact Nat.zero_le _
  by_cases hab:∃ qa qb,a.At qa∧b.At qb
  · obtain ⟨qa,qb,ha,hb⟩:=hab
    have:=IR h hA hl n a b k qa qb ha hb;have h2:=bj_ ((aH p).1.map qp) qa;rw [List.length_map] at h2;omega
  rw [IQ h hA hl hab];exact Nat.zero_le _
def eM (p:(List I)) (a:Rt) (b:Rt):Bool :=
  ((eA p 6 64)&&((l8 a)&&((l8 b)&&decide ((W.add (W.add (W.add (Z.bitsW a.n.dec) (Z.bitsW a.d.dec)) (Z.bitsW b.n.dec)) (Z.bitsW b.d.dec)).1≤120))))
def cQ (e:W) (f:W) (small:Bool):Bool×Bool :=
  (((e.1==30)||(f.1==30)),(!((e.1==30)||(f.1==30))||(!small)))
theorem AE {p:List I} {a b:Rt} (h:eM p a b=true):Rgt p∧p.length≤25:=by
  unfold eM at h;simp only [Bool.and_eq_true] at h;obtain ⟨h1,h2,_⟩:=TW h.1;exact ⟨h1,h2⟩
def fR (p:(List I)) (a:Rt) (b:Rt):Bool :=
  bif (eM p a b) then (bif (!((cQ ((bG p a b).2) ((aY p a b).e) (bV p a b (wl 0))).2)||(!((cQ ((bG p a b).2) ((aY p a b).e) (bV p a b (wl 0))).1)&&((((bG p a b).1).1 != ((aY p a b).n).1)||(((bG p a b).2).1 != ((aY p a b).e).1)))) then (false) else ((iX&&((cQ ((cX p a b).2) ((bR p a b).e) (bV p a b (wl 0))).2&&((cQ ((cX p a b).2) ((bR p a b).e) (bV p a b (wl 0))).1||((((cX p a b).2).1==((bR p a b).e).1)&&(fE ((cX p a b).1) ((bR p a b).l)))))))) else (iX)
end Go.Num
namespace Go.Proofs.YtokjfhfiodopdaaGreat
open Go.Kn Go.Num Tryz
attribute [local irreducible] Go.Kn.W WL PL OpQ OpR OpS
theorem tQ (n:Int) :
    Ret prog 135 [.int .i64 n] (.bool (decide (n<2147483648)&&decide (-2147483648<n))):=by
 refine cL (N:=9) func135 rfl rfl (by simp) (fun w0=>?_);simp only [bS,Nat.reduceAdd];refine go7 ?_
 cases h1:decide (n<2147483648)
 ·refine go6 ?_;refine bP rfl (.inr rfl) rfl ?_
  simp [*]
 refine go6 ?_;refine bP rfl (.inr rfl) rfl ?_
 simp [*]
end Go.Proofs.YtokjfhfiodopdaaGreat
namespace Go.Num
open Go Go.Kn
theorem fl_ {a b:I} (h:(!a.1.good||(!b.1.good))=true):a.1.dec.o=none∨b.1.dec.o=none:=by
  cases ha:a.1.good
  · exact .inl (F6 ha)
  · cases hb:b.1.good
    · exact .inr (F6 hb)
    rw [ha,hb] at h;cases h
theorem ZG {a b:I} (h:(!a.1.good||(!b.1.good))=false):a.1.good=true∧b.1.good=true:=by
  cases ha:a.1.good<;>cases hb:b.1.good<;>rw [ha,hb] at h<;>first|exact ⟨rfl,rfl⟩|cases h
theorem yH (a b:I):jP a b=E (Z.add a.dec b.dec):=by
  unfold jP
  show _=E (Z.add a.1.dec b.1.dec)
  cases hw:(iR a.1&&iR b.1)
  · rw [cond_false]
    cases hg:(!a.1.good||(!b.1.good))
    · obtain ⟨ga,gb⟩:=ZG hg
      rw [cond_false]
      cases hn:(a.1.neg==b.1.neg)
      · rw [cond_false]
        have hn':a.1.neg≠b.1.neg:=by simpa using hn
        cases hl:decide (val a.1.w<val b.1.w)
        · rw [cond_false,dF_ a.2 b.2 ga gb hn' (of_decide_eq_false hl)]
        rw [cond_true,dG_ a.2 b.2 ga gb hn' (of_decide_eq_true hl)]
      rw [cond_true,bp_ a.2 b.2 ga gb (by simpa using hn)]
    rw [cond_true,Z.add,jJ (fl_ hg)]
  rw [cond_true];rw [Bool.and_eq_true] at hw
  show E (Z.of (IntKind.i64.wrap (jV a.1+jV b.1)))=_
  rw [(wadd (lU a.2 hw.1).2.2.2 (lU b.2 hw.2).2.2.2).1,VT a.2 b.2 hw.1 hw.2]
theorem yN (a b:I):vG a b=E (Z.sub a.dec b.dec):=rfl
theorem yJ (a b:I):lW a b=E (Z.mul a.dec b.dec):=by
  unfold lW
  show _=E (Z.mul a.1.dec b.1.dec)
  cases hw:(iR a.1&&(iR b.1&&((decide ((eE a).1<2147483648)&&decide (-2147483648<(eE a).1))&&(decide ((eE b).1<2147483648)&&decide (-2147483648<(eE b).1)))))
  · rw [cond_false]
    cases hg:(!a.1.good||(!b.1.good))
    · obtain ⟨ga,gb⟩:=ZG hg
      rw [cond_false,em_ a.2 b.2 ga gb]
    rw [cond_true,Z.mul,jJ (fl_ hg)]
  rw [cond_true];rw [Bool.and_eq_true,Bool.and_eq_true,Bool.and_eq_true] at hw;obtain ⟨h1,h2,h3,h4⟩:=hw
  show E (Z.of (IntKind.i64.wrap (jV a.1*jV b.1)))=_
  rw [(g6_ (x:=jV a.1) (y:=jV b.1) (UA h3) (UA h4)).1,WJ a.2 b.2 h1 h2]
end Go.Num
namespace Go.Proofs.YtokjfhfiodopdaaGreat
open Go.Kn Go.Num Tryz
attribute [local irreducible] Go.Kn.W WL PL OpQ OpR OpS
theorem zT (a:I) (b:I) :
    Ret prog 76 [AV [pI a],AV [pI b]] (AV [pI (jP a b)]):=by
 refine cL (N:=70) func76 rfl rfl (by simp) (fun w0=>?_);simp only [bS,Nat.reduceAdd];refine go2 ?_;intro b1 hb1;refine go_ ?_;intro b2 hb2;refine go_ ?_;intro b3 hb3;refine go3 ?_;refine sC (.tuple #[.int .i64 ((eE a).1),.bool (iR a.1)]) aJ (gJ a.1 a.2) rfl rfl rfl (go8 ?_);refine sC (.tuple #[.int .i64 ((eE b).1),.bool (iR b.1)]) aJ (gJ b.1 b.2) rfl rfl rfl (go7 ?_);refine gJv [22,23,24,25] [(25,.bool ((iR a.1)&&(iR b.1)))] (fun K2 J2=>?_) ?_
 ·refine go2 ?_;refine sBB rfl (fun h5=>?_) (fun h5=>?_)
  ·refine go3 ?_;refine J2 _ _ pp_ s0 (bI (cU h5 rfl))
  refine go3 ?_;refine J2 _ _ pp_ s0 (bI (iQ h5))
 intro g6;refine aT _ rfl (fun h7=>?_) (fun h7=>?_)
 ·refine go3 ?_;refine sV (.int .i64 ((W.add (eE a) (eE b)).1)) rfl rfl (sC (AV [pI (E (Z.of (W.add (eE a) (eE b)).1))]) aJ (dY (W.add (eE a) (eE b)).1 (W.add (eE a) (eE b)).2) rfl rfl rfl (go3 ?_));refine bP rfl (.inr rfl) (fQ rfl m0 tyT rfl) ?_;exact congrArg vS2 (show _=(jP a b) from bE h7 rfl)
 refine go2 ?_;refine gJv [30,31,32,33,34,35,36,37] [(37,.bool (!a.1.good||(!b.1.good)))] (fun K4 J4=>?_) ?_
 ·refine go2 ?_;refine sC (.bool a.1.good) aJ (cF a.1 a.2) rfl rfl rfl (go_ ?_);rcases bt a.1.good with h9|h9
  ·refine sB (gG h9) rfl (go_ ?_);refine sC (.bool b.1.good) aJ (cF b.1 b.2) rfl rfl rfl (go3 ?_);refine J4 _ _ pp_ s0 (bI (lE h9 rfl))
  refine sB (gD h9) rfl (go5 ?_);refine J4 _ _ pp_ s0 (bI (nI h9))
 intro g10;refine aT _ rfl (fun h11=>?_) (fun h11=>?_)
 ·refine go_ ?_;refine sC (AV [pI (E Z.bad)]) aJ eB rfl rfl rfl (go3 ?_);refine bP rfl (.inr rfl) (fQ rfl m0 tyT rfl) ?_;exact congrArg vS2 (show _=(jP a b) from aN h7 (bE h11 rfl))
 refine go3 ?_;refine bJ rfl (fS aJ rfl (fun w hw=>cE a.1 a.2 w) (fun vl12 Ll12 kl12=>?_))
 try simp only [gP,lO] at kl12
 refine go4 ?_;refine bJ rfl (fS aJ rfl (fun w hw=>cE b.1 b.2 w) (fun vl13 Ll13 kl13=>?_))
 try simp only [gP,lO] at kl13
 refine go8 ?_;refine sQ (aV (v':=.bool (a.1.neg==b.1.neg)) (am_ CD rfl rfl) rfl) rfl (go_ ?_);refine aT _ rfl (fun h14=>?_) (fun h14=>?_)
 ·refine rX sn 7 [4,6] [6] (go4 ?_);refine fT rfl rfl (fS aJ rfl (fun w hw=>o7 vl12 vl13 (dl (val a.1.w)) (dl (val b.1.w)) (kL _) (kL _) (Nat.le_trans (iV (k:=32) (pL a.2)) dd_) (Nat.le_trans (iV (k:=32) (pL b.2)) dd_) w (SL.sl (SL.sub kl12.sl (sR lZ)) hw) (SL.sl (SL.sub kl13.sl lZ) hw)) (fun vl15 Ll15 kl15=>⟨(fun _=>sR s0),sn,?_⟩))
  try simp only [gP,lO] at kl15
  refine pQ rfl (aV (v':=AV [pI (E (Z.of (sgn a.1.neg ((val a.1.w)+(val b.1.w)))))]) (bN aJ rfl (fun w hw=>d5 a.1.neg vl15 (dl ((val a.1.w)+(val b.1.w))) (kL _) (Nat.le_trans (iV (k:=33) (fq_ (k:=32) (pL a.2) (pL b.2))) dd_) w (SL.sl (SL.sub kl15.sl lZ) hw))) (by rw [(gP _)];rfl)) (go3 ?_);refine bP rfl (.inr rfl) (fQ rfl (mA (mA (mA mZ))) tyT rfl) ?_;exact congrArg vS2 (show _=(jP a b) from aN h7 (aN h11 (bE h14 rfl)))
 refine go4 ?_;refine sQ (aV (v':=.bool (decide ((val a.1.w)<(val b.1.w)))) (bN aJ rfl (fun w hw=>kF vl12 vl13 (dl (val a.1.w)) (dl (val b.1.w)) (kL _) (kL _) (Nat.le_trans (iV (k:=32) (pL a.2)) dd_) (Nat.le_trans (iV (k:=32) (pL b.2)) dd_) w (SL.sl (SL.sub kl12.sl (sR lZ)) hw) (SL.sl (SL.sub kl13.sl lZ) hw))) (by rw [(gP _),(gP _)])) rfl (go6 ?_);refine aT _ rfl (fun h16=>?_) (fun h16=>?_)
 ·refine rX sn 7 [4,6] [6] (go4 ?_);refine fT rfl rfl (fS aJ rfl (fun w hw=>lF vl13 vl12 (dl (val b.1.w)) (dl (val a.1.w)) (kL _) (kL _) (Nat.le_trans (iV (k:=32) (pL b.2)) dd_) (Nat.le_trans (iV (k:=32) (pL a.2)) dd_) (by simp only [gP,lO];exact (Nat.le_of_lt (of_decide_eq_true h16))) w (SL.sl (SL.sub kl13.sl lZ) hw) (SL.sl (SL.sub kl12.sl (sR lZ)) hw)) (fun vl17 Ll17 kl17=>⟨(fun _=>sR s0),sn,?_⟩))
  try simp only [gP,lO] at kl17
  refine pQ rfl (aV (v':=AV [pI (E (Z.of (sgn b.1.neg ((val b.1.w) - (val a.1.w)))))]) (bN aJ rfl (fun w hw=>d5 b.1.neg vl17 (dl ((val b.1.w) - (val a.1.w))) (kL _) (Nat.le_trans (iV (k:=32) (dZ_ (pL b.2))) dd_) w (SL.sl (SL.sub kl17.sl lZ) hw))) (by rw [(gP _)];rfl)) (go3 ?_);refine bP rfl (.inr rfl) (fQ rfl (mA (mA (mA mZ))) tyT rfl) ?_;exact congrArg vS2 (show _=(jP a b) from aN h7 (aN h11 (aN h14 (bE h16 rfl))))
 refine go_ ?_;refine rX sn 7 [4,6] [6] (go4 ?_);refine fT rfl rfl (fS aJ rfl (fun w hw=>lF vl12 vl13 (dl (val a.1.w)) (dl (val b.1.w)) (kL _) (kL _) (Nat.le_trans (iV (k:=32) (pL a.2)) dd_) (Nat.le_trans (iV (k:=32) (pL b.2)) dd_) (by simp only [gP,lO];exact (Nat.le_of_not_lt (of_decide_eq_false h16))) w (SL.sl (SL.sub kl12.sl (sR lZ)) hw) (SL.sl (SL.sub kl13.sl lZ) hw)) (fun vl18 Ll18 kl18=>⟨(fun _=>sR s0),sn,?_⟩))
 try simp only [gP,lO] at kl18
 refine pQ rfl (aV (v':=AV [pI (E (Z.of (sgn a.1.neg ((val a.1.w) - (val b.1.w)))))]) (bN aJ rfl (fun w hw=>d5 a.1.neg vl18 (dl ((val a.1.w) - (val b.1.w))) (kL _) (Nat.le_trans (iV (k:=32) (dZ_ (pL a.2))) dd_) w (SL.sl (SL.sub kl18.sl lZ) hw))) (by rw [(gP _)];rfl)) (go3 ?_);refine bP rfl (.inr rfl) (fQ rfl (mA (mA (mA mZ))) tyT rfl) ?_;exact congrArg vS2 (show _=(jP a b) from aN h7 (aN h11 (aN h14 (aN h16 rfl))))
theorem pN (a b:R) (ha:a.Ok) (hb:b.Ok):Ret prog 76 [RV a,RV b] (RV (Z.add a.dec b.dec).enc):=by
  have h:=zT ⟨a,ha⟩ ⟨b,hb⟩;rw [yH] at h;exact h
theorem zZ (a:I) (b:I) :
    Ret prog 155 [AV [pI a],AV [pI b]] (AV [pI (vG a b)]):=by
 refine cL (N:=9) func155 rfl rfl (by simp) (fun w0=>?_);simp only [bS,Nat.reduceAdd];refine go2 ?_;intro b1 hb1;refine go_ ?_;intro b2 hb2;refine go_ ?_;intro b3 hb3;refine go_ ?_;refine rX (sd (sk (sk (s0)))) 5 [4] [4] (go2 ?_);refine pC (AV [pI (E (Z.neg b.dec))]) aJ (uA b.1 b.2) rfl rfl rfl (pC (AV [pI (E (Z.add a.dec (Z.neg b.dec)))]) aJ (pN a.1 (E (Z.neg b.dec)).1 a.2 (E (Z.neg b.dec)).2) rfl rfl (cg2 (fun p q=>AV [pI (E (Z.add p q))]) rfl (cZ _)) (go3 ?_));refine bP rfl (.inr rfl) (fQ rfl m0 tyT rfl) ?_;exact (by rfl)
theorem uC (a b:R) (ha:a.Ok) (hb:b.Ok):Ret prog 155 [RV a,RV b] (RV (Z.sub a.dec b.dec).enc):=by
  have h:=zZ ⟨a,ha⟩ ⟨b,hb⟩;rw [yN] at h;exact h
theorem zV (a:I) (b:I) :
    Ret prog 79 [AV [pI a],AV [pI b]] (AV [pI (lW a b)]):=by
 refine cL (N:=55) func79 rfl rfl (by simp) (fun w0=>?_);simp only [bS,Nat.reduceAdd];refine go2 ?_;intro b1 hb1;refine go_ ?_;intro b2 hb2;refine go_ ?_;intro b3 hb3;refine go3 ?_;refine sC (.tuple #[.int .i64 ((eE a).1),.bool (iR a.1)]) aJ (gJ a.1 a.2) rfl rfl rfl (go8 ?_);refine sC (.tuple #[.int .i64 ((eE b).1),.bool (iR b.1)]) aJ (gJ b.1 b.2) rfl rfl rfl (go7 ?_);refine gJv [19,20,21,22,23,24,25,26,27,28,29,30] [(30,.bool ((iR a.1)&&((iR b.1)&&((decide ((eE a).1<2147483648)&&decide (-2147483648<(eE a).1))&&(decide ((eE b).1<2147483648)&&decide (-2147483648<(eE b).1))))))] (fun K2 J2=>?_) ?_
 ·refine go2 ?_;refine sBB rfl (fun h7=>?_) (fun h7=>?_)
  ·refine go2 ?_;refine sBB rfl (fun h8=>?_) (fun h8=>?_)
   ·refine go_ ?_;refine sC (.bool (decide ((eE a).1<2147483648)&&decide (-2147483648<(eE a).1))) aJ (tQ (eE a).1) rfl rfl rfl (go_ ?_);refine sBB rfl (fun h9=>?_) (fun h9=>?_)
    ·refine go_ ?_;refine sC (.bool (decide ((eE b).1<2147483648)&&decide (-2147483648<(eE b).1))) aJ (tQ (eE b).1) rfl rfl rfl (go2 ?_);refine J2 _ _ pp_ s0 (bI (cU h7 (cU h8 (cU h9 rfl))))
    refine go4 ?_;refine J2 _ _ pp_ s0 (bI (cU h7 (cU h8 (iQ h9))))
   refine go8 ?_;refine J2 _ _ pp_ s0 (bI (cU h7 (iQ h8)))
  refine vK ?_;refine J2 _ _ pp_ s0 (bI (iQ h7))
 intro g10;refine aT _ rfl (fun h11=>?_) (fun h11=>?_)
 ·refine go3 ?_;refine sV (.int .i64 ((W.mul (eE a) (eE b)).1)) rfl rfl (sC (AV [pI (E (Z.of (W.mul (eE a) (eE b)).1))]) aJ (dY (W.mul (eE a) (eE b)).1 (W.mul (eE a) (eE b)).2) rfl rfl rfl (go3 ?_));refine bP rfl (.inr rfl) (fQ rfl m0 tyT rfl) ?_;exact congrArg vS2 (show _=(lW a b) from bE h11 rfl)
 refine go2 ?_;refine gJv [35,36,37,38,39,40,41,42] [(42,.bool (!a.1.good||(!b.1.good)))] (fun K4 J4=>?_) ?_
 ·refine go2 ?_;refine sC (.bool a.1.good) aJ (cF a.1 a.2) rfl rfl rfl (go_ ?_);rcases bt a.1.good with h13|h13
  ·refine sB (gG h13) rfl (go_ ?_);refine sC (.bool b.1.good) aJ (cF b.1 b.2) rfl rfl rfl (go3 ?_);refine J4 _ _ pp_ s0 (bI (lE h13 rfl))
  refine sB (gD h13) rfl (go5 ?_);refine J4 _ _ pp_ s0 (bI (nI h13))
 intro g14;refine aT _ rfl (fun h15=>?_) (fun h15=>?_)
 ·refine go_ ?_;refine sC (AV [pI (E Z.bad)]) aJ eB rfl rfl rfl (go3 ?_);refine bP rfl (.inr rfl) (fQ rfl m0 tyT rfl) ?_;exact congrArg vS2 (show _=(lW a b) from aN h11 (bE h15 rfl))
 refine go_ ?_;refine gds sn [0,4,8,12,16,20,28,25,33,37,40,45] [11] mix (by kernel_rfl) (go4 ?_);refine pQ rfl (aV (v':=.bool (a.1.neg != b.1.neg)) (uM CD rfl rfl) rfl) (go2 ?_);refine fT rfl rfl (fS aJ rfl (fun w hw=>cE a.1 a.2 w) (fun vl16 Ll16 kl16=>⟨(fun _=>sR s0),sn,?_⟩))
 try simp only [gP,lO] at kl16
 refine fT rfl rfl (fS aJ rfl (fun w hw=>cE b.1 b.2 w) (fun vl17 Ll17 kl17=>⟨(fun _=>sR s0),sn,?_⟩))
 try simp only [gP,lO] at kl17
 refine fT rfl rfl (fS aJ rfl (fun w hw=>sK vl16 vl17 (dl (val a.1.w)) (dl (val b.1.w)) (kL _) (kL _) (Nat.le_trans (iV (k:=32) (pL a.2)) dd_) (Nat.le_trans (iV (k:=32) (pL b.2)) dd_) w (SL.sl (SL.sub kl16.sl (sR lZ)) hw) (SL.sl (SL.sub kl17.sl lZ) hw)) (fun vl18 Ll18 kl18=>⟨(fun _=>sR s0),sn,?_⟩))
 try simp only [gP,lO] at kl18
 refine pQ rfl (aV (v':=AV [pI (E (Z.of (sgn (a.1.neg != b.1.neg) ((val a.1.w)*(val b.1.w)))))]) (bN aJ rfl (fun w hw=>d5 (a.1.neg != b.1.neg) vl18 (dl ((val a.1.w)*(val b.1.w))) (kL _) (Nat.le_trans (iV (k:=64) (gJ_ (i:=32) (k:=32) (pL a.2) (pL b.2))) dd_) w (SL.sl (SL.sub kl18.sl lZ) hw))) (by rw [(gP _)];rfl)) (go3 ?_);refine bP rfl (.inr rfl) (fQ rfl (mA (mA (mA mZ))) tyT rfl) ?_;exact congrArg vS2 (show _=(lW a b) from aN h11 (aN h15 rfl))
theorem eZ (a b:R) (ha:a.Ok) (hb:b.Ok):Ret prog 79 [RV a,RV b] (RV (Z.mul a.dec b.dec).enc):=by
  have h:=zV ⟨a,ha⟩ ⟨b,hb⟩;rw [yJ] at h;exact h
theorem sL (a:Rt) :
    Ret prog 37 [AV [pI a.n,pI a.d]] (.bool (l8 a)):=by
 refine cL (N:=12) func37 rfl rfl (by simp) (fun w0=>?_);simp only [bS,Nat.reduceAdd];refine go2 ?_;intro b1 hb1;refine go4 ?_;refine sQ (bZ aJ (i4 a) rfl) rfl (go2 ?_);refine gJv [2,6,7,8,9,10,11] [(2,.bool ((aZ a)||(decide (a.n=jQ.n)&&decide (a.d=jQ.d))))] (fun K1 J1=>?_) ?_
 ·refine rE (sk (s0)) 7 [] [] (go_ ?_);refine pBB rfl (fun h3=>?_) (fun h3=>?_)
  ·refine go6 ?_;refine J1 _ _ pp_ s0 (bI (mS h3))
  refine go_ ?_;refine pQ rfl (bZ aJ nS  rfl) ?_;refine pQ rfl (xI (r:=(decide (a.n=jQ.n)&&decide (a.d=jQ.d))) rfl rfl (oA 8 dd_ cP_ cX_ (jW jU (oT jU)) (jW jU (oT jU)) (oB rfl pU (uR pU)))) (go3 ?_);refine J1 _ _ pp_ s0 (bI (kX h3 rfl))
 intro g4;refine go_ ?_;refine bP rfl (.inr rfl) rfl ?_;exact (by rfl)
theorem z5 (a:Rt) (b:Rt) :
    Ret prog 81 [AV [pI a.n,pI a.d],AV [pI b.n,pI b.d]] (AV [pI ((eW a b).n),pI ((eW a b).d)]):=by
 refine cL (N:=44) func81 rfl rfl (by simp) (fun w0=>?_);simp only [bS,Nat.reduceAdd];refine go2 ?_;intro b1 hb1;refine go_ ?_;intro b2 hb2;refine go_ ?_;intro b3 hb3;refine go2 ?_;refine gJv [8,9,10,11,12,13,14,15] [(15,.bool (!(aZ a)||(!(aZ b))))] (fun K2 J2=>?_) ?_
 ·refine go2 ?_;refine sQ (bZ aJ (i4 a) rfl) rfl (go_ ?_);rcases bt (aZ a) with h5|h5
  ·refine sB (gG h5) rfl (go_ ?_);refine sQ (bZ aJ (i4 b) rfl) rfl (go3 ?_);refine J2 _ _ pp_ s0 (bI (lE h5 rfl))
  refine sB (gD h5) rfl (go5 ?_);refine J2 _ _ pp_ s0 (bI (nI h5))
 intro g6;refine aT _ rfl (fun h7=>?_) (fun h7=>?_)
 ·refine go_ ?_;refine sQ (bZ aJ nS  rfl) rfl (go3 ?_);refine bP rfl (.inr rfl) (fQ rfl m0 tyT rfl) ?_;exact congrArg vS6 (show _=(eW a b) from bE h7 rfl)
 refine go6 ?_;refine sC (AV [pI (E (Z.gcd a.d.dec b.d.dec))]) aJ (mD a.d.1 b.d.1 a.d.2 b.d.2) rfl rfl rfl (go_ ?_);intro b8 hb8;refine go6 ?_;refine sC (AV [pI (E (Z.quo a.d.dec (Z.gcd a.d.dec b.d.dec)))]) aJ (gS a.d.1 (E (Z.gcd a.d.dec b.d.dec)).1 a.d.2 (E (Z.gcd a.d.dec b.d.dec)).2) rfl rfl (cg2 (fun p q=>AV [pI (E (Z.quo p q))]) rfl (cZ _)) (go_ ?_);intro b9 hb9;refine go6 ?_;refine sC (AV [pI (E (Z.quo b.d.dec (Z.gcd a.d.dec b.d.dec)))]) aJ (gS b.d.1 (E (Z.gcd a.d.dec b.d.dec)).1 b.d.2 (E (Z.gcd a.d.dec b.d.dec)).2) rfl rfl (cg2 (fun p q=>AV [pI (E (Z.quo p q))]) rfl (cZ _)) (go_ ?_);intro b10 hb10;refine go2 ?_;refine gds (sk (sk (sk (sd (sk (sk (s0))))))) [0,4,8,12,16,20,24,28,32,36,40,44,48,52,57] [14] mix (by kernel_rfl) (go3 ?_);refine pC (AV [pI (E (Z.mul a.n.dec (Z.quo b.d.dec (Z.gcd a.d.dec b.d.dec))))]) aJ (eZ a.n.1 (E (Z.quo b.d.dec (Z.gcd a.d.dec b.d.dec))).1 a.n.2 (E (Z.quo b.d.dec (Z.gcd a.d.dec b.d.dec))).2) rfl rfl (cg2 (fun p q=>AV [pI (E (Z.mul p q))]) rfl (cZ _)) (go3 ?_);refine pC (AV [pI (E (Z.mul b.n.dec (Z.quo a.d.dec (Z.gcd a.d.dec b.d.dec))))]) aJ (eZ b.n.1 (E (Z.quo a.d.dec (Z.gcd a.d.dec b.d.dec))).1 b.n.2 (E (Z.quo a.d.dec (Z.gcd a.d.dec b.d.dec))).2) rfl rfl (cg2 (fun p q=>AV [pI (E (Z.mul p q))]) rfl (cZ _)) ?_;obtain ⟨r11,hr11⟩:=nm ((E (Z.add (Z.mul a.n.dec (Z.quo b.d.dec (Z.gcd a.d.dec b.d.dec))) (Z.mul b.n.dec (Z.quo a.d.dec (Z.gcd a.d.dec b.d.dec))))):I);refine pC (AV [pI r11]) aJ (pN (E (Z.mul a.n.dec (Z.quo b.d.dec (Z.gcd a.d.dec b.d.dec)))).1 (E (Z.mul b.n.dec (Z.quo a.d.dec (Z.gcd a.d.dec b.d.dec)))).1 (E (Z.mul a.n.dec (Z.quo b.d.dec (Z.gcd a.d.dec b.d.dec)))).2 (E (Z.mul b.n.dec (Z.quo a.d.dec (Z.gcd a.d.dec b.d.dec)))).2) rfl rfl ((cg2 (fun p q=>AV [pI (E (Z.add p q))]) (cZ _) (cZ _)).trans (by rw [hr11])) (go3 ?_);refine pC (AV [pI (E (Z.mul (Z.quo a.d.dec (Z.gcd a.d.dec b.d.dec)) b.d.dec))]) aJ (eZ (E (Z.quo a.d.dec (Z.gcd a.d.dec b.d.dec))).1 b.d.1 (E (Z.quo a.d.dec (Z.gcd a.d.dec b.d.dec))).2 b.d.2) rfl rfl (cg2 (fun p q=>AV [pI (E (Z.mul p q))]) (cZ _) rfl) ?_;obtain ⟨r12,hr12⟩:=nm ((bL r11 (E (Z.mul (Z.quo a.d.dec (Z.gcd a.d.dec b.d.dec)) b.d.dec))):Rt);refine pC (AV [pI r12.n,pI r12.d]) aJ (kG r11 (E (Z.mul (Z.quo a.d.dec (Z.gcd a.d.dec b.d.dec)) b.d.dec))) rfl rfl (by rw [hr12]) (go3 ?_);refine bP rfl (.inr rfl) (fQ rfl m3 tyT rfl) ?_
 subst_vars;exact congrArg vS6 (show _=(eW a b) from aN h7 rfl)
theorem z7 (a:Rt) (b:Rt) :
    Ret prog 35 [AV [pI a.n,pI a.d],AV [pI b.n,pI b.d]] (AV [pI ((fA a b).n),pI ((fA a b).d)]):=by
 refine cL (N:=41) func35 rfl rfl (by simp) (fun w0=>?_);simp only [bS,Nat.reduceAdd];refine go2 ?_;intro b1 hb1;refine go_ ?_;intro b2 hb2;refine go_ ?_;intro b3 hb3;refine go2 ?_;refine gJv [9,10,11,12,13,14,15,16] [(16,.bool (!(aZ a)||(!(aZ b))))] (fun K2 J2=>?_) ?_
 ·refine go2 ?_;refine sQ (bZ aJ (i4 a) rfl) rfl (go_ ?_);rcases bt (aZ a) with h5|h5
  ·refine sB (gG h5) rfl (go_ ?_);refine sQ (bZ aJ (i4 b) rfl) rfl (go3 ?_);refine J2 _ _ pp_ s0 (bI (lE h5 rfl))
  refine sB (gD h5) rfl (go5 ?_);refine J2 _ _ pp_ s0 (bI (nI h5))
 intro g6;refine aT _ rfl (fun h7=>?_) (fun h7=>?_)
 ·refine go_ ?_;refine sQ (bZ aJ nS  rfl) rfl (go3 ?_);refine bP rfl (.inr rfl) (fQ rfl m0 tyT rfl) ?_;exact congrArg vS6 (show _=(fA a b) from bE h7 rfl)
 refine go6 ?_;refine sQ (bZ aJ (kG a.n b.d) rfl) rfl (go_ ?_);intro b8 hb8;refine go7 ?_;refine sQ (bZ aJ (kG b.n a.d) rfl) rfl (go_ ?_);intro b9 hb9;refine go7 ?_;obtain ⟨r10,hr10⟩:=nm ((E (Z.mul ((bL a.n b.d).n).dec ((bL b.n a.d).n).dec)):I);refine sC (AV [pI r10]) aJ (eZ ((bL a.n b.d).n).1 ((bL b.n a.d).n).1 ((bL a.n b.d).n).2 ((bL b.n a.d).n).2) rfl rfl (by subst hr10;rfl) (go_ ?_);intro b11 hb11;refine go7 ?_;obtain ⟨r12,hr12⟩:=nm ((E (Z.mul ((bL a.n b.d).d).dec ((bL b.n a.d).d).dec)):I);refine sC (AV [pI r12]) aJ (eZ ((bL a.n b.d).d).1 ((bL b.n a.d).d).1 ((bL a.n b.d).d).2 ((bL b.n a.d).d).2) rfl rfl (by subst hr12;rfl) (go_ ?_);intro b13 hb13;refine go5 ?_;refine sQ (bZ aJ (kG r10 r12) rfl) rfl (go3 ?_);refine bP rfl (.inr rfl) (fQ rfl m4 tyT rfl) ?_
 subst_vars;exact congrArg vS6 (show _=(fA a b) from aN h7 rfl)
end Go.Proofs.YtokjfhfiodopdaaGreat
