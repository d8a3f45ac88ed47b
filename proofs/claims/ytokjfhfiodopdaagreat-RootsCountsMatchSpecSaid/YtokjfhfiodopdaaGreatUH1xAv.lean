/- Lemmas: what they ask stands in their statements. -/
import Derived.Test.YtokjfhfiodopdaaGreatUAt
import Derived.Test.YtokjfhfiodopdaaGreatUH1xAp
set_option linter.unusedSimpArgs false
set_option linter.unusedVariables false
namespace Go.Num
open Go Go.Kn
open QP (V Rb Two)
theorem ee_ {p:List I} {L:List (List I)} (h:St p L) (hA:AL L):∀ (m n k:Nat) (a b:Rt) (out:List Iv),m+k=503→n+k=601→2≤m →
    (aW L n a b k true out).1=true→(aM m L a b (k:Int)).e.1=0→(aW L n a b k true out).2=out++(aM m L a b (k:Int)).l:=by
  intro m
  induction m with
  | zero=>intro n k a b out _ _ h2;omega
  | succ m ih =>
    intro n k a b out hm hn h2 h3 h4;obtain ⟨n,rfl⟩:∃ j,n=j+1:=⟨n - 1,by omega⟩;unfold aW at h3 ⊢;unfold aM at h4 ⊢;rw [← u1 hA] at h4 ⊢
    cases ho:(true&&((aG L a b).2&&(decide (((k:Nat):Int)<600)&&(!a.n.1.bad&&(!b.n.1.bad)))))
    · rw [ho] at h3
      simp only [Bool.not_false,Bool.true_or,cond_true] at h3
      cases h3
    rw [ho] at h3;simp only [Bool.not_true,Bool.false_or] at h3 ⊢
    cases hr:(!((aG L a b).2)||decide ((500:Int)<(k:Int)))
    case true=>rw [hr] at h4;cases h4
    rw [hr] at h4;simp only [cond_false] at h4 ⊢;generalize hc:(aG L a b).1.1=c at h3 h4 ⊢
    cases h0:(c==0)
    · rw [h0] at h3 h4
      simp only [cond_false] at h3 h4 ⊢
      cases h1:(c==1)
      · rw [h1] at h3 h4
        simp only [cond_false] at h3 h4 ⊢
        have hk:k≤500:=by
          simp only [Bool.or_eq_false_iff,decide_eq_false_iff_not] at hr;omega
        rw [← G2] at h4 ⊢;rw [show (k:Int)+1=((k+1:Nat):Int) by omega] at h4 ⊢;have i1:=ih n (k+1) a (aF a b) out oo_ oo_ oo_;have i2:=ih n (k+1) (aF a b) b (aW L n a (aF a b) (k+1) true out).2 oo_ oo_ oo_;generalize aW L n a (aF a b) (k+1) true out=r1 at *
        cases ok1:r1.1
        · rw [ok1,WC] at h3;cases h3
        rw [ok1] at h3;generalize aM m L a (aF a b) ((k+1:Nat):Int)=s1 at *;generalize aM m L (aF a b) b ((k+1:Nat):Int)=s2 at *
        cases e1:(s1.e.1 != 0)
        · rw [e1] at h4
          simp only [cond_false] at h4 ⊢
          cases e2:(s2.e.1 != 0)
          · simp only [cond_false] at h4 ⊢
            rw [i2 h3 (by simpa using e2),i1 ok1 (by simpa using e1),List.append_assoc]
          exfalso
          rw [e2] at h4;simp only [cond_true] at h4;rw [h4] at e2;cases e2
        exfalso
        rw [e1] at h4;simp only [cond_true] at h4;rw [h4] at e1;cases e1
      rfl
    simp only [cond_true,List.append_nil]
theorem SU {L:List (List I)}:∀ (m:Nat) (a b:Rt) (k:Int),(aM m L a b k).e.1=0∨(aM m L a b k).e.1=30
  | 0,a,b,k=>.inl rfl
  | m+1,a,b,k=>by
    unfold aM;have i1:=SU (L:=L) m a (bB a b) (k+1);have i2:=SU (L:=L) m (bB a b) b (k+1);generalize aM m L a (bB a b) (k+1)=s1 at *;generalize aM m L (bB a b) b (k+1)=s2 at *;generalize bU L a b=c
    cases (!(c.2)||decide (500<k))
    · cases (c.1.1==0)
      · cases (c.1.1==1)
        · cases (s1.e.1 != 0)
          · cases (s2.e.1 != 0)
            · exact .inl rfl
            exact i2
          exact i1
        exact .inl rfl
      exact .inl rfl
    exact .inr rfl
theorem RN {p:List I} (hp:Rgt p) (a b:Rt) (h1:(cX p a b).2.1≠30) (h2:(bR p a b).e.1≠30):(cX p a b).1=(bR p a b).l∧(cX p a b).2.1=(bR p a b).e.1:=by
  have hA:=iI p;unfold cX at h1 ⊢;unfold bR at h2 ⊢;rw [yV p (tO hp),← yD hp] at h2 ⊢
  cases hb:(aU p)
  case true=>exact ⟨rfl,rfl⟩
  cases hl:((((p).length:Nat):Int)==0)
  case true=>simp
  cases hg:(iM a b)
  case false=>simp
  rw [hb,hl,hg] at h1 h2
  cases hs:(aH p).2
  case false=>simp
  rw [hs] at h1 h2;simp only [Bool.not_true,Bool.or_false,Bool.false_or,Bool.or_self,cond_false,cond_true] at h1 h2 ⊢
  have hSt:=(A7 hp hs).resolve_left fun e=>by rw [e] at hl;cases hl
  unfold fZ at h2 ⊢;rw [show ((502 - (0:Int)).toNat+1)=503 from rfl] at h2 ⊢;have he:=SU (L:=(aH p).1) 503 a b 0
  cases ho:(aW (aH p).1 601 a b 0 true []).1
  · rw [ho] at h1;exact absurd rfl h1
  have he0:=he.resolve_right h2
  have he1:(aM 503 (aH p).1 a b ((0:Nat):Int)).e.1=0:=by rw [show ((0:Nat):Int)=0 from rfl];exact he0
  have:=ee_ hSt hA 503 601 0 a b [] rfl rfl dd_ ho he1;rw [show ((0:Nat):Int)=0 from rfl] at this;rw [List.nil_append] at this;simp only [cond_true];exact ⟨this,he0.symm⟩
theorem ef_ {p:List I} {A B:Rat} (h:Sp p A B) (hAB:A≤B):∀ (d n k:Nat) (j:Int) (a b:Rt) (u v:Rat) (out:List Iv),d+k=93→n+k=601→a.At u→b.At v→It A B (2 ^ k) j u v→(aW (aH p).1 n a b k true out).1=true:=by
  intro d
  induction d with
  | zero =>
    intro n k j a b u v out hd hn ha hb hi;obtain ⟨n,rfl⟩:∃ j,n=j+1:=⟨n - 1,by omega⟩;unfold aW;rw [h.count oo_ ha hb hi.lo hi.hi,FL ha,FL hb,decide_eq_true (show ((k:Nat):Int)<600 by omega)];simp only [Bool.not_false,Bool.and_self,Bool.not_true,Bool.false_or]
    cases h0:((aG (aH p).1 a b).1.1==0)
    · cases h1:((aG (aH p).1 a b).1.1==1)
      · have:=h.many hAB oo_ ha hb hi h0 h1;omega
      rfl
    rfl
  | succ d ih =>
    intro n k j a b u v out hd hn ha hb hi;obtain ⟨n,rfl⟩:∃ j,n=j+1:=⟨n - 1,by omega⟩;unfold aW;rw [h.count oo_ ha hb hi.lo hi.hi,FL ha,FL hb,decide_eq_true (show ((k:Nat):Int)<600 by omega)];simp only [Bool.not_false,Bool.and_self,Bool.not_true,Bool.false_or]
    cases h0:((aG (aH p).1 a b).1.1==0)
    · cases h1:((aG (aH p).1 a b).1.1==1)
      · simp only [cond_false]
        have hm:=h.mid oo_ ha hb hi.lo hi.hi;rw [ih n (k+1) _ a (aF a b) u _ out oo_ oo_ ha hm hi.left];exact ih n (k+1) _ (aF a b) b _ v _ oo_ oo_ hm hb hi.right
      rfl
    rfl
theorem ck_ {p:List I} {A B:Rat} (h:Sp p A B) (hAB:A≤B):∀ (d m k:Nat) (j:Int) (a b:Rt) (u v:Rat),d+k=93→m+k=503→a.At u→b.At v→It A B (2 ^ k) j u v→(aM m (aH p).1 a b (k:Int)).e.1=0:=by
  intro d
  induction d with
  | zero =>
    intro m k j a b u v hd hn ha hb hi;obtain ⟨m,rfl⟩:∃ j,m=j+1:=⟨m - 1,by omega⟩;unfold aM;rw [← u1 (iI p),h.count oo_ ha hb hi.lo hi.hi,decide_eq_false (show ¬ (500:Int)<(k:Int) by omega)];simp only [Bool.not_true,Bool.or_self,cond_false]
    cases h0:((aG (aH p).1 a b).1.1==0)
    · cases h1:((aG (aH p).1 a b).1.1==1)
      · have:=h.many hAB oo_ ha hb hi h0 h1;omega
      rfl
    rfl
  | succ d ih =>
    intro m k j a b u v hd hn ha hb hi;obtain ⟨m,rfl⟩:∃ j,m=j+1:=⟨m - 1,by omega⟩;unfold aM;rw [← u1 (iI p),h.count oo_ ha hb hi.lo hi.hi,decide_eq_false (show ¬ (500:Int)<(k:Int) by omega)];simp only [Bool.not_true,Bool.or_self,cond_false]
    cases h0:((aG (aH p).1 a b).1.1==0)
    · cases h1:((aG (aH p).1 a b).1.1==1)
      · simp only [cond_false]
        have hm:=h.mid oo_ ha hb hi.lo hi.hi;rw [← G2,show (k:Int)+1=((k+1:Nat):Int) by omega];have i1:=ih m (k+1) _ a (aF a b) u _ oo_ oo_ ha hm hi.left;have i2:=ih m (k+1) _ (aF a b) b _ v oo_ oo_ hm hb hi.right;rw [i1,i2];rfl
      rfl
    rfl
theorem GS {e f:W} {S:Bool} (h:S=true→e.1≠30∧f.1≠30):(cQ e f S).2=true:=by
  unfold cQ
  cases S
  · simp
  obtain ⟨h1,h2⟩:=h rfl
  simp [h1,h2]
theorem UE {e f:W} {S P:Bool} (h:e.1≠30→f.1≠30→P=true):((cQ e f S).1||P)=true:=by
  unfold cQ
  by_cases h1:e.1=30
  · simp [h1]
  by_cases h2:f.1=30
  · simp [h2]
  rw [h h1 h2];simp
theorem A5 {p:List I} {a b:Rt} {k:W} (hS:bV p a b k=true):Rgt p∧k.1≤16∧((aU p||((((p).length:Nat):Int)==0))=true ∨ ∃ A B,a.At A∧b.At B∧Sp p A B):=by
  obtain ⟨hf,⟨A,hA,sA⟩,⟨B,hB,sB⟩,hk⟩:=XU hS;have hr:=(TW hf).1;refine ⟨hr,hk,?_⟩
  cases hg:p.all gdI
  · left;rw [iY (tO hr),hg];rfl
  by_cases h0:p=[]
  · left;rw [h0];rfl
  exact .inr ⟨A,B,hA,hB,Sp.of hf hg h0 sA sB⟩
theorem AB {p:List I} {a b:Rt} {k:W} (hS:bV p a b k=true):(bG p a b).2.1≠30:=by
  obtain ⟨_,_,h|⟨A,B,hA,hB,h⟩⟩:=A5 hS
  · unfold bG
    rw [← Bool.or_assoc,h,Bool.true_or,cond_true];decide
  rw [h.Count hA hB]
  cases iM a b
  · rw [cond_false];decide
  rw [cond_true];show ((0:Int))≠30;decide
theorem bN_ {a b:Rt} {A B:Rat} (ha:a.At A) (hb:b.At B):iM a b=decide (A≤B):=by
  unfold iM;rw [FL ha,FL hb];simp only [Bool.not_false,Bool.true_and];exact decide_eq_decide.2 (dq_ ha hb)
theorem JO {p:List I} {a b:Rt} {k:W} (hS:bV p a b k=true):(cX p a b).2.1≠30∧(bR p a b).e.1≠30:=by
  obtain ⟨hr,_,h|⟨A,B,hA,hB,h⟩⟩:=A5 hS
  · unfold cX bR
    rw [yV p (tO hr)];have h':=h;rw [← Bool.or_assoc,h,Bool.true_or,cond_true];refine ⟨by decide,?_⟩;rcases Bool.or_eq_true_iff.1 h' with k|k
    · rw [k,Bool.true_or,Bool.true_or,cond_true];decide
    rw [k,Bool.or_true,cond_true];decide
  unfold cX bR;rw [yV p (tO hr),← yD hr,h.nb,h.nl,h.ok,bN_ hA hB]
  by_cases hAB:A≤B
  · rw [decide_eq_true hAB]
    simp only [Bool.not_true,Bool.or_self,cond_false,cond_true];have i1:=ef_ h hAB 93 601 0 0 a b A B [] rfl rfl hA hB h.pA;have i2:=ck_ h hAB 93 503 0 0 a b A B rfl rfl hA hB h.pA;rw [i1];refine ⟨by rw [cond_true];show (0:Int)≠30;decide,?_⟩;unfold fZ;rw [show ((502 - (0:Int)).toNat+1)=503 from rfl];rw [show ((0:Nat):Int)=0 from rfl] at i2;rw [i2];decide
  rw [decide_eq_false hAB];simp only [Bool.not_false,Bool.false_or,Bool.or_true,cond_true,Bool.or_false];exact ⟨by decide,by decide⟩
theorem LV (l:List Iv):∀ k i:Nat,∃ j,gH l l k i = .inl j
  | 0,i=>⟨i,rfl⟩
  | k+1,i=>by
    unfold gH
    cases decide (((i:Nat):Int)<((l.length:Nat):Int))
    · exact ⟨i,rfl⟩
    simp only [decide_true,Bool.and_self,cond_true];exact LV l k (i+1)
theorem JP (l:List Iv):fE l l=true:=by
  unfold fE;obtain ⟨j,hj⟩:=LV l (l.length+1) 0;rw [hj];simp [sm]
theorem VR (p:List I) (a b:Rt):fR p a b=true:=by
  unfold fR
  cases hf:eM p a b
  · rw [cond_false];exact DY
  have hp:=(AE hf).1;have hC:=AA hp a b
  have e1:(aY p a b).e=(bG p a b).2:=by rw [hC]
  have e2:(aY p a b).n=(bG p a b).1:=by rw [hC]
  rw [cond_true,e1,e2,DY];rw [GS (e:=(bG p a b).2) (f:=(bG p a b).2) fun hS=>⟨AB hS,AB hS⟩];rw [GS (e:=(cX p a b).2) (f:=(bR p a b).e) fun hS=>JO hS]
  rw [UE (e:=(cX p a b).2) (f:=(bR p a b).e) fun h1 h2=>by
    obtain ⟨k1,k2⟩:=RN hp a b h1 h2
    rw [k1,k2,JP];simp]
  simp
end Go.Num
