/- Lemmas: what they ask stands in their statements. -/
import Derived.Test.YtcjoflcajgaifaaGreatDoorOAu
import Derived.ChangeArms
set_option linter.unusedSimpArgs false
set_option linter.unusedVariables false
namespace Go.Num
open Go Go.Kn
open QP (V Fz lq cH)
theorem ev_ (a b:Rt):(decide (a.n=b.n)&&decide (a.d=b.d))=decide (a=b):=by
 rw [← Bool.decide_and];exact decide_eq_decide.2 ⟨fun h=>Rt.ext h.1 h.2,fun h=>h ▸ ⟨rfl,rfl⟩⟩
theorem gD_ {x:Rt} {q:Rat} (hx:x.At q) (sq:Sz q 5):∃ c t,0<t∧Po (bD [(E (Z.neg (x.n).dec)),(x.d)]) c∧Bd c 2 5∧qp (bD [(E (Z.neg (x.n).dec)),(x.d)])=lq t q:=by
 have i:=At.is hx
 have hB:B512 (-q.num):=by have:=i.hn;unfold Go.Num.B512 at *;omega
 have hp:=d1_ (u:=-q.num) (v:=(q.den:Int)) hB i.hd;rw [i.en,i.ed,bW,CI i.hn];refine ⟨_,((q.den:Int):Rat),Rat.intCast_pos.2 jW,hp,⟨fun k hk=>?_,fun k=>?_⟩,?_⟩
 ·unfold lin
  rw [if_neg oo_,if_neg oo_]
 ·unfold lin
  split
  ·rw [Int.natAbs_neg];exact sq.n
  split
  ·rw [Int.natAbs_natCast];exact sq.d
  decide
 rw [oG hp hp.ends];refine QP.ex fun k=>?_;rw [j6,QP.lq_c];unfold lin
 by_cases h0:k=0
 ·rw [if_pos h0,if_pos h0,vK,Rat.intCast_neg]
 rw [if_neg h0,if_neg h0]
 by_cases h1:k=1
 ·rw [if_pos h1,if_pos h1]
 rw [if_neg h1,if_neg h1];rfl
theorem cV_ (l:List Rt) (p:List I) (n:W) (i:Nat):∀ (f:Nat) (old:Bool) (k:Nat),k≤i→i - k<f→((dE l p n i f old k).1=true ↔ old=true ∨ ∃ j,k≤j∧j<i∧l.getD j Rt0=l.getD i Rt0)
 | 0,_,_,_,hf=>absurd hf (Nat.not_lt_zero _)
 | f+1,old,k,hk,hf=>by
  unfold dE
  by_cases h:k<i
  ·rw [decide_eq_true (show (k:Int)<(i:Int) by omega),cond_true,cV_ l p n i f _ (k+1) h oo_,ev_,Bool.or_eq_true,decide_eq_true_eq]
   constructor
   ·rintro ((h1|h1)|⟨j,j1,j2,j3⟩)
    ·exact .inl h1
    ·exact .inr ⟨k,Nat.le_refl _,h,h1⟩
    exact .inr ⟨j,by omega,j2,j3⟩
   rintro (h1|⟨j,j1,j2,j3⟩)
   ·exact .inl (.inl h1)
   by_cases ej:j=k
   ·subst ej;exact .inl (.inr j3)
   exact .inr ⟨j,by omega,j2,j3⟩
  rw [decide_eq_false (show ¬ (k:Int)<(i:Int) by omega),cond_false];exact ⟨.inl,fun h=>h.elim id fun ⟨j,j1,j2,_⟩=>by omega⟩
theorem fo_ (l:List Rt) (p:List I) (n:W) (i j:Nat) (x:Iv) (e:W):∀ (f:Nat) (is:Bool) (m:Nat),m≤l.length→l.length - m<f→((dF l p n i j x e f is m).1=true ↔ is=true ∨ ∃ k,m≤k∧k<l.length∧l.getD k Rt0=cI x.lo x.hi)
 | 0,_,_,_,hf=>absurd hf (Nat.not_lt_zero _)
 | f+1,is,m,hm,hf=>by
  unfold dF
  by_cases h:m<l.length
  ·rw [decide_eq_true (show (m:Int)<(l.length:Int) by omega),cond_true,fo_ l p n i j x e f _ (m+1) h oo_,ev_,Bool.or_eq_true,decide_eq_true_eq]
   constructor
   ·rintro ((h1|h1)|⟨k,j1,j2,j3⟩)
    ·exact .inl h1
    ·exact .inr ⟨m,Nat.le_refl _,h,h1⟩
    exact .inr ⟨k,by omega,j2,j3⟩
   rintro (h1|⟨k,j1,j2,j3⟩)
   ·exact .inl (.inl h1)
   by_cases ej:k=m
   ·subst ej;exact .inl (.inr j3)
   exact .inr ⟨k,by omega,j2,j3⟩
  rw [decide_eq_false (show ¬ (m:Int)<(l.length:Int) by omega),cond_false];exact ⟨.inl,fun h=>h.elim id fun ⟨k,j1,j2,_⟩=>by omega⟩
structure Iz (l:List Rt) (i:Nat) (p:List I) (n:W) (zs ws:List Rat):Prop where
 c:∃ c,Po p c∧Bd c (i+1) (1+7*i)
 z:Zs p zs ws
 m:∀ x,x∈zs ↔ ∃ k,k<i∧(l.getD k Rt0).At x
 s:∀ x,x∈zs→Sz x 5
 n:n.1=(ws.length:Int)
 w:ws.length≤i
theorem Iz.zero (l:List Rt):Iz l 0 (jE [(wl 1)]) (wl 0) [] []:=by
 have e:jE [(wl 1)]=bD [E (Z.of 1)]:=by kernel_rfl
 have hp:Po (jE [(wl 1)]) (lin 1 0):=by rw [e];exact eb_ B1
 refine ⟨⟨_,hp,⟨fun k hk=>?_,fun k=>?_⟩⟩,⟨?_,List.nodup_nil,fun x=>Iff.rfl⟩,fun x=>⟨fun h=>by (cases h),fun ⟨k,hk,_⟩=>absurd hk (Nat.not_lt_zero _)⟩,fun x h=>by (cases h),rfl,Nat.le_refl _⟩
 ·unfold lin;rw [if_neg oo_,ite_self]
 ·unfold lin;split
  ·decide
  split<;>decide
 have e:qp (jE [(wl 1)])=QP.C 1:=by
  rw [oG hp hp.ends];refine QP.ex fun k=>?_;rw [j6,QP.C_c];unfold lin
  by_cases h0:k=0
  ·rw [if_pos h0,if_pos h0];rfl
  rw [if_neg h0,if_neg h0,ite_self];rfl
 rw [e];exact .one
theorem LO (l:List Rt) (hl:l.length≤3):∀ (f:Nat) (p:List I) (n:W) (i:Nat) (zs ws:List Rat),Iz l i p n zs ws→i≤l.length→l.length - i<f →
  cQ l f p n i = .inr true ∨ ∃ p' n' zs' ws',cQ l f p n i = .inl (p',n',l.length)∧Iz l l.length p' n' zs' ws'
 | 0,_,_,_,_,_,_,_,hf=>absurd hf (Nat.not_lt_zero _)
 | f+1,p,n,i,zs,ws,hI,hi,hf=>by
  unfold cQ
  by_cases h:i<l.length
  ·rw [decide_eq_true (show (i:Int)<(l.length:Int) by omega),cond_true]
   cases hb:iM (l.getD i Rt0) (wl 5)
   ·exact .inl O
   rw [cond_true];obtain ⟨q,hq,sq⟩:=dB_ hb;have sq:Sz q 5:=sq;obtain ⟨c,hc,bd⟩:=hI.c;obtain ⟨d,t,t0,hd,be,e⟩:=gD_ hq sq;have hm:=dl_ hc hd bd be (e:=2) oo_ oo_ oo_;have bm:=bd.conv be (e:=2) oo_;have ho:=cV_ l p n i (i+1) false 0 (Nat.zero_le _) oo_
   have hF:Fz (q::zs) (qp (fR p (bD [(E (Z.neg ((l.getD i Rt0).n).dec)),((l.getD i Rt0).d)]))):=by rw [NN hc hd hm,e];exact .step q t t0 hI.z.f
   have hmem:∀ x,x∈q::zs ↔ ∃ k,k<i+1∧(l.getD k Rt0).At x:=fun x=>by
    rw [List.mem_cons,hI.m]
    constructor
    ·rintro (k|⟨k,k1,k2⟩)
     ·subst k;exact ⟨i,by omega,hq⟩
     exact ⟨k,by omega,k2⟩
    rintro ⟨k,k1,k2⟩
    by_cases ek:k=i
    ·subst ek;exact .inl (oP k2 hq)
    exact .inr ⟨k,by omega,k2⟩
   have hs:∀ x,x∈q::zs→Sz x 5:=fun x hx=>by
    rcases List.mem_cons.1 hx with k|k
    ·subst k;exact sq
    exact hI.s x k
   generalize fR p (bD [(E (Z.neg ((l.getD i Rt0).n).dec)),((l.getD i Rt0).d)])=P at *;generalize dE l p n i (i+1) false 0=R at *;obtain ⟨old,k⟩:=R;simp only [ap];have hw:=hI.w;have hn:=hI.n
   cases old
   ·rw [cond_false]
    have hnew:q ∉ ws:=fun hw=>by
     obtain ⟨k,hk,hx⟩:=(hI.m q).1 ((hI.z.m q).1 hw);exact absurd (ho.2 (.inr ⟨k,Nat.zero_le _,hk,P7 hx hq⟩)) Bool.false_ne_true
    exact LO l hl f P (W.add n (wl 1)) (i+1) (q::zs) (q::ws) ⟨⟨_,hm,bm.mono oo_ oo_⟩,⟨hF,List.nodup_cons.2 ⟨hnew,hI.z.nd⟩,fun x=>by rw [List.mem_cons,List.mem_cons,hI.z.m]⟩,hmem,hs,gh_ (by rw [List.length_cons,hn];show _+(1:Int)=_;omega) (by rw [List.length_cons];omega),by rw [List.length_cons];omega⟩ oo_ oo_
   rw [cond_true]
   have hold:q∈zs:=by
    rcases ho.1 O with k|⟨j,_,j2,j3⟩
    ·cases k
    exact (hI.m q).2 ⟨j,j2,by rw [j3];exact hq⟩
   exact LO l hl f P n (i+1) (q::zs) ws ⟨⟨_,hm,bm.mono oo_ oo_⟩,⟨hF,hI.z.nd,fun x=>by
    rw [hI.z.m,List.mem_cons]
    exact ⟨.inr,fun h=>h.elim (fun e=>e ▸ hold) id⟩⟩,hmem,hs,hn,by omega⟩ oo_ oo_
  rw [decide_eq_false (show ¬ (i:Int)<(l.length:Int) by omega),cond_false]
  obtain rfl:i=l.length:=by omega
  exact .inr ⟨p,n,zs,ws,rfl,hI⟩
theorem sz5 {z:Rat} (h:Sz z 5):((-32:Int):Rat)<z∧z≤((32:Int):Rat):=by
 have hd:=@vK z
 have d0:(1:Rat)≤((z.den:Int):Rat):=by
  rw [show (1:Rat)=((1:Int):Rat) from rfl];exact Rat.intCast_le_intCast.2 (by have:=@jW z;omega)
 have n1:((z.num:Int):Rat)≤((31:Int):Rat):=Rat.intCast_le_intCast.2 (by have:=h.n;omega);have n2:((-31:Int):Rat)≤((z.num:Int):Rat):=Rat.intCast_le_intCast.2 (by have:=h.n;omega);have e1:((31:Int):Rat)=31:=rfl
 have e2:((-31:Int):Rat) = -31:=by decide +kernel
 have e3:((32:Int):Rat)=32:=rfl
 have e4:((-32:Int):Rat) = -32:=by decide +kernel
 rw [e3,e4];rw [e1] at n1;rw [e2] at n2;rw [← hd] at n1 n2;generalize ((z.den:Int):Rat)=d at *
 constructor
 ·refine Rat.not_le.1 fun k=>?_
  have:=Rat.mul_nonneg (show 0≤d - 1 by grind) (show 0 ≤ -z - 32 by grind)
  grind
 refine Rat.not_lt.1 fun k=>?_;have:=Rat.mul_nonneg (show 0≤d - 1 by grind) (show 0≤z - 32 by grind)
 grind
theorem It.small {k:Nat} {j:Int} {u v:Rat} (it:It ((-32:Int):Rat) ((32:Int):Rat) (2 ^ k) j u v) (h:16≤k):961*(v - u)<1:=by
 have hl:=it.len
 have e:((32:Int):Rat) - ((-32:Int):Rat)=64:=by decide +kernel
 rw [e] at hl
 have p4:(2:Int) ^ 16≤2 ^ k:=by exact_mod_cast (Nat.pow_le_pow_right (n:=2) dd_ h)
 have p5:(((2:Int) ^ 16:Int):Rat)≤(((2:Int) ^ k:Int):Rat):=Rat.intCast_le_intCast.2 p4
 have e2:(((2:Int) ^ 16:Int):Rat)=65536:=by decide +kernel
 rw [e2] at p5;generalize (((2:Int) ^ k:Int):Rat)=P at *;refine Rat.not_le.1 fun hn=>?_;have:=Rat.mul_nonneg (show 0≤P - 65536 by grind) (show 0≤961*(v - u) - 1 by grind)
 grind
theorem XO {z:Rat} (h:Sz z 5):z.den≤31:=by have:=h.d;omega
section
variable {l:List Rt} {p:List I} {n:W} {zs ws:List Rat}
theorem fi_ (hI:Iz l l.length p n zs ws) (S:Sp p ((-32:Int):Rat) ((32:Int):Rat)) (k:Nat) (j:Int) (u v:Rat) (it:It ((-32:Int):Rat) ((32:Int):Rat) (2 ^ k) j u v) (hV:V ((aI p).1.map qp) v+2≤V ((aI p).1.map qp) u):k≤15:=by
 refine Nat.le_of_not_lt fun hk=>?_;have hw:=it.small hk;rw [XF S.st hI.z (it.le (by decide +kernel))] at hV;obtain ⟨z,w,h1,h2,h3,h4,h5⟩:=QP.cH_two (u:=u) (v:=v) ws hI.z.nd oo_;exact X5 h4 (XO (hI.s z ((hI.z.m z).1 h1))) (XO (hI.s w ((hI.z.m w).1 h2))) (by grind)
theorem bv_ (hI:Iz l l.length p n zs ws) (S:Sp p ((-32:Int):Rat) ((32:Int):Rat)) {K:Nat} (hK:16≤K∧K≤32) {y:Iv} (hy:Ix9 p ((-32:Int):Rat) ((32:Int):Rat) K y):∃ z,z∈zs∧(cI y.lo y.hi).At z:=by
 obtain ⟨j,s,t,hs,ht,it,hV⟩:=hy;have st:=it.le (show ((-32:Int):Rat)≤((32:Int):Rat) by decide +kernel);rw [XF S.st hI.z st] at hV;obtain ⟨z,h1,h2,h3⟩:=QP.cH_pos ws (u:=s) (v:=t) oo_;have hz:=(hI.z.m z).1 h1;obtain ⟨x,hx,hm⟩:=MK (siM y.lo y.hi+1) y.lo y.hi s t hs ht st ((it.lo.sz S.sA S.sB).mono oo_) ((it.hi.sz S.sA S.sB).mono oo_) (Nat.lt_succ_self _);obtain rfl:=hm.eq (Rat.le_of_lt h2) h3 (XO (hI.s z hz)) (it.small hK.1);exact ⟨x,hz,hx⟩
theorem dK_ (hI:Iz l l.length p n zs ws) {x:Rt} {z:Rat} (hl:l.length≤3) (hz:z∈zs) (hx:x.At z):iY p x=aP (wl 0):=by
 obtain ⟨c,hc,bd⟩:=hI.c;have he:=aR_ hc bd hx (hI.s z hz) (e:=2) oo_ oo_
 have e0:vl (cR c) z (l.length+1)=0:=by
  have h0:=(hI.z.f.zero z).2 hz;rw [oG hc hc.ends,QP.ev_vl (n:=l.length+1) (fun i hi=>by rw [j6,bd.z i hi];rfl)] at h0;have e:(ZP c hc.ends).c=cR c:=funext fun i=>j6 ..;rw [e] at h0;exact h0
 rw [e0] at he;refine P7 he ?_;rw [NA];exact M9 (wl 0)
theorem S8 (hI:Iz l l.length p n zs ws) (S:Sp p ((-32:Int):Rat) ((32:Int):Rat)) (hl:l.length≤3) (i:Nat) {L:List Iv} (eL:(bO p (aP (wl (-32))) (aP (wl 32))).1=L) (hL:∀ x∈L,∃ K,K≤16∧Ix9 p ((-32:Int):Rat) ((32:Int):Rat) K x):∀ (f j:Nat),∃ r,dP l p n i f j = .inl r
 | 0,j=>⟨j,rfl⟩
 | f+1,j=>by
  unfold dP;rw [eL]
  by_cases h:j<L.length
  ·rw [decide_eq_true (show (j:Int)<(L.length:Int) by omega),cond_true]
   have hx:L.getD j Iv0∈L:=by
    rw [List.getD_eq_getElem?_getD,List.getElem?_eq_getElem h];exact List.getElem_mem h
   obtain ⟨K,hK,ix⟩:=hL _ hx;obtain ⟨y,hy,iy⟩:=QB S (by decide +kernel) hK ix;obtain ⟨z,hz,sz⟩:=bv_ hI S oo_ iy;have he:=dK_ hI hl hz sz;have hi:=fo_ l p n i j y (wl 0) (l.length+1) false 0 (Nat.zero_le _) oo_;obtain ⟨k,hk,kz⟩:=(hI.m z).1 hz;have hi:=hi.2 (.inr ⟨k,Nat.zero_le _,hk,P7 kz sz⟩);rw [hy]
   dsimp only
   generalize dF l p n i j y (wl 0) (l.length+1) false 0=R at *;obtain ⟨is,m⟩:=R
   dsimp only at hi
   subst hi;simp only [ap];rw [ev_,he,decide_eq_true O];exact S8 hI S hl i eL hL f (j+1)
  rw [decide_eq_false (show ¬ (j:Int)<(L.length:Int) by omega),cond_false];exact ⟨_,rfl⟩
end
theorem aP_ (l:List Rt):dX l=true:=by
 unfold dX
 cases h3:decide (3<(l.length:Int))
 case true=>rfl
 rw [cond_false]
 have hl:l.length≤3:=by have:=of_decide_eq_false h3;omega
 rcases LO l hl (l.length+1) (jE [(wl 1)]) (wl 0) 0 [] [] (Iz.zero l) (Nat.zero_le _) oo_ with e|⟨p,n,zs,ws,e,hI⟩
 ·rw [e];rfl
 rw [e];simp only [sm];obtain ⟨c,hc,bd⟩:=hI.c;have h0:p≠[]:=fun e0=>hI.z.f.dg.ne (by rw [e0];exact L7);have S:Sp p ((-32:Int):Rat) ((32:Int):Rat):=Sp.of5 hc (bd.mono oo_ oo_) h0 (Sz.int dd_ dd_) (Sz.int dd_ dd_)
 have AB:((-32:Int):Rat)≤((32:Int):Rat):=by decide +kernel
 have hA:(aP (wl (-32))).At ((-32:Int):Rat):=by rw [NA];exact M9 (wl (-32))
 have hB:(aP (wl 32)).At ((32:Int):Rat):=by rw [NA];exact M9 (wl 32)
 have hV:=XF S.st hI.z AB;rw [QP.cH_all ws fun z hz=>sz5 (hI.s z ((hI.z.m z).1 hz))] at hV;have hcn:=S.count dd_ hA hB S.pA.lo S.pA.hi;obtain ⟨u',v',cx⟩:=tJ S.st (qN p) hcn;obtain rfl:=oP hA cx.a;obtain rfl:=oP hB cx.b;have cn:=cx.n;have hw:=hI.w;have hn:=hI.n;obtain ⟨o1,L,e1,n1,hL⟩:=bE_ S AB (fi_ hI S) 16 601 0 0 _ _ _ _ [] O O hA hB (It.one _ _);rw [List.nil_append] at e1
 have eI:bO p (aP (wl (-32))) (aP (wl 32))=(L,wl 0):=by
  unfold bO;rw [S.nb,S.nl,S.ok,LJ hA hB,decide_eq_true AB];simp only [Bool.not_true,Bool.or_self,cond_false,cond_true];rw [o1,e1];rfl
 have eC:dN p (aP (wl (-32))) (aP (wl 32))=((aK (aI p).1 (aP (wl (-32))) (aP (wl 32))).1,wl 0):=by
  rw [S.Count hA hB,LJ hA hB,decide_eq_true AB];rfl
 have eD:(kQ (aN p)).1=n.1:=by
  obtain ⟨F,m,hF,_⟩:=S.free;unfold kQ;rw [hF.nb,cond_false,YE S.st hI.z,cvE oo_];omega
 have c1:(aK (aI p).1 (aP (wl (-32))) (aP (wl 32))).1.1=n.1:=by omega
 have c2:(L.length:Int)=n.1:=by omega
 obtain ⟨r,hr⟩:=S8 hI S hl l.length (L:=L) (by rw [eI]) hL (L.length+1) 0;rw [eC,eI,eD,c1]
 dsimp only
 rw [c2,hr]
 simp
open Go Go.Kn Go.RowKit Go.ChangeShapes Go.WideShapes
section
variable {H:Type} {enc:TypeId×Value→H} {P:Program} {w:World} {base:Nat} {spare:Nat→Bool} {held:Bool} {α:Type} {e:El α}
theorem Rd.app {a:Addr} {A B:List Value} (h:Rd w a A) (k:Rd w (a.add A.length) B):Rd w a (A++B):=fun j v hj=>by
 rcases Nat.lt_or_ge j A.length with h'|h'
 ·rw [List.getElem?_append_left h'] at hj;exact h j v hj
 rw [List.getElem?_append_right h'] at hj;have:=k _ _ hj;rw [KI,Nat.add_sub_cancel' h'] at this;exact this
theorem Rd.of_cells {a:Addr} {n:Nat} {cs:List Value} (h:w.cells? base a n=some cs):Rd w a cs:=fun j v hj=>by
 obtain ⟨_,hl,hc⟩:=World.cells?_some h;have hj':j<cs.length:=(List.getElem?_eq_some_iff.1 hj).1;have h1:=hc j oo_;rw [hj] at h1;exact h1
theorem TR {a:Addr} {len:Nat} (h:∀ i,i<len→∃ x:α,w.cells? base (a.add (i*e.n)) e.n=some (e.cs x)):∀ k,k≤len→∃ l:List α,l.length=k∧Rd w a (rows e l)
 | 0,_=>⟨[],rfl,fun j v hj=>by simp [rows] at hj⟩
 | k+1,hk=>by
  obtain ⟨l,hl,hr⟩:=TR h k oo_;obtain ⟨x,hx⟩:=h k oo_;refine ⟨l++[x],by simp [hl],?_⟩;rw [rC];refine Rd.app hr ?_;rw [jR,hl];have:=Rd.of_cells hx
  simpa [rows] using this
theorem ee_ {T E:TypeId} {ls:List nW} {v:Value} {d:DataW H} {p:List MemPlace} {b0:Nat} {r:Reach} (hT:P.underlying T=some (.slice E)) (hl:lz P 8 E=some ls) (hn:P.cellsOf E=e.n)
  (op:∀ cs,LWF cs ls→∃ x:α,cs=e.cs x) (hv:Value.okWide P w r b0 T v) (ht:DataW.Trod enc P w base spare held T v d p):∃ l:List α,Slr w e v l:=by
 obtain ⟨fuel,hf⟩:=ht
 have hv':∃ a n c,v = .slice a n c:=by
  unfold Value.okWide at hv;rw [hT] at hv;unfold Cell.okWide at hv;rw [hT] at hv
  cases v<;>simp_all [Cell.ok]
 obtain ⟨a,n,c,rfl⟩:=hv';have e1:(Value.slice a n c).cells.toList=[.slice a n c]:=rfl;rw [e1] at hf;rcases DataW.trod_slice hT hf with ⟨h,_⟩|⟨a',len,cap,elems,rest,m,_,h,_,_,hlc,hc,hel,hall,_⟩
 ·cases h
  exact ⟨[],none,0,rfl,Nat.le_refl _,by decide,.inl ⟨rfl,rfl,rfl⟩⟩
 ·cases h
  have hx:∀ i,i<n→∃ x:α,w.cells? base (a'.add (i*e.n)) e.n=some (e.cs x):=fun i hi=>by
   have h1:=hall i hi;rw [List.getElem?_eq_getElem oo_,hn] at h1
   cases hc':w.cells? base (a'.add (i*e.n)) e.n with
   | none=>rw [hc'] at h1;cases h1
   | some cs =>
    rw [hc'] at h1;obtain ⟨x,hx⟩:=op cs (xF 8 hl h1);exact ⟨x,by rw [hx]⟩
  obtain ⟨l,hl',hr⟩:=TR hx n (Nat.le_refl _);exact ⟨l,some a',c,by rw [hl'],by omega,hc,.inr ⟨a',rfl,hr⟩⟩
end
theorem gP_ {cs:List Value} (h:LWF cs (LI++LI)):∃ x:Rt,cs=elRt.cs x:=by
 obtain ⟨c0,r0,rfl,u0,u1⟩:=LWF.split h;obtain ⟨x0,rfl⟩:=cW_ u0;obtain ⟨x1,rfl⟩:=cW_ u1;exact ⟨⟨x0,x1⟩,rfl⟩
end Go.Num
