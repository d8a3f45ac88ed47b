/- Lemmas: what they ask stands in their statements. -/
import Derived.Test.YtokjfhfiodopdaaGreatUAt
import Derived.Test.YtokjfhfiodopdaaGreatULb
set_option linter.unusedSimpArgs false
set_option linter.unusedVariables false
set_option maxHeartbeats 8000000
set_option maxRecDepth 20000
namespace Go.Kn
open Go.RowKit
section
variable {P:Program} {w0:World} {X:List Nat} {N:Nm} {S:Fr} {M:List Blk} {d:Option Tmp} {ty:TypeId} {ps:String} {af:Array Edge} {gd:Option (Nat×Bool)}
end
section
variable {P:Program} {w0:World} {X:List Nat} {N:Nm} {S:Fr} {M:List Blk} {d:Option Tmp} {ty:TypeId} {ps:String} {af:Array Edge} {gd:Option (Nat×Bool)}
end
section
variable {P:Program} {w0:World} {X:List Nat} {N:Nm} {S:Fr} {M:List Blk} {Q:n8}
variable {d:Option Tmp} {ty:TypeId} {ps:String} {af:Array Edge} {gd:Option (Nat×Bool)}
end
section
variable {P:Program} {w0:World} {X:List Nat} {N:Nm} {Q:n8} {S:Fr} {M:List Blk} {c:Code}
end
open Go.RowKit
section rows
variable {α:Type} {e:El α}
end rows
section
variable {α:Type} {e:El α} {P:Program} {w0:World} {X:List Nat} {N:Nm} {S:Fr} {M M':List Blk} {d:Option Tmp} {ty:TypeId} {ps:String} {af:Array Edge} {gd:Option (Nat×Bool)} {v:Value} {l:List α}
end
open Go.RowKit
section
variable {P:Program} {w0:World} {X:List Nat} {N:Nm} {S:Fr} {M:List Blk} {d:Option Tmp} {ty:TypeId} {ps:String} {af:Array Edge} {gd:Option (Nat×Bool)}
end
open Go.RowKit
section
variable {α:Type} {e:El α} {P:Program} {w0:World} {X:List Nat} {N:Nm} {S:Fr} {M:List Blk} {d:Option Tmp} {ty:TypeId} {ps:String} {af:Array Edge} {gd:Option (Nat×Bool)} {v:Value} {l:List α}
end
section
variable {α:Type} {e:El α} {w0:World} {X:List Nat} {M:List Blk} {v:Value} {l:List α}
end
open Go.RowKit
section
variable {P:Program} {w0:World} {X:List Nat} {S:Fr} {M:List Blk} {d:Option Tmp} {ty:TypeId} {p:String} {af:Array Edge} {gd:Option (Nat×Bool)}
end
end Go.Kn
namespace Go.Num
open Go Go.Kn
end Go.Num
namespace Go.Kn
open Go
section
variable {P:Program} {w0:World} {X:List Nat} {N:Nm} {Q:n8} {S:Fr} {M:List Blk} {c:Code}
end
end Go.Kn
namespace Go.Num
open Go Go.Kn
open Go
end Go.Num
namespace Go.Kn
open Go.RowKit
section
variable {P:Program} {w0:World} {X:List Nat} {N:Nm} {S:Fr} {M:List Blk}
variable {ops:List Oper} {Q:Fr→List Blk→Prop} {o:Oper} {l:List Oper} {v v':Value} {d:Tmp} {b c:Bool} {nw:List Nat} {MD:List Blk} {i:Nat} {ws:List Nat} {r:Plan}
section
variable {g:FuncId} {xs:List Operand} {tys:Array TypeId} {args:List Value} {ty:TypeId} {ps:String} {af:Array Edge} {gd:Option (Nat×Bool)}
end
end
section
variable {P:Program} {w0:World} {X:List Nat} {N:Nm} {S:Fr} {M:List Blk} {d:Option Tmp} {ty:TypeId} {ps:String} {af:Array Edge} {gd:Option (Nat×Bool)}
end
section
variable {P:Program} {w0:World} {X:List Nat} {N:Nm} {S:Fr} {M:List Blk} {Q:n8}
end
section
variable {P:Program} {w0:World} {X:List Nat} {N:Nm} {S:Fr} {M:List Blk} {Q:n8}
end
section
variable {α:Type} {e:El α} {w0 w:World} {X:List Nat} {M M' L:List Blk} {v:Value} {l:List α} {E:TypeId}
end
open Go.RowKit
section
variable {P:Program} {T f:Nat}
end
section
variable {P:Program} {w0:World} {X:List Nat} {N:Nm} {S:Fr} {M MD:List Blk} {Q:n8} {x y c:Code} {id n:Nat} {ops:List Oper} {nw:List Nat} {p:Plan}
variable {Qf:Fr→List Blk→Prop} {l:List Oper} {d:Option Tmp} {dd:Tmp} {ty:TypeId} {ps:String} {af:Array Edge} {gd:Option (Nat×Bool)} {T U:TypeId} {xo yo:Operand} {v:Value}
end
section
variable {P:Program} {w0:World} {X:List Nat} {N:Nm} {S:Fr} {M MD:List Blk} {Q:n8} {Qf:Fr→List Blk→Prop} {c:Code} {ops l:List Oper} {nw:List Nat} {p:Plan} {d:Option Tmp} {ty:TypeId} {ps:String} {af:Array Edge} {gd:Option (Nat×Bool)} {T:TypeId} {x y:Operand} {f:Nat}
end
theorem hm_ {A B:Prop} (k:B) (h:Hid B→A:=by intro hk;(iterate 24 refine go_ ?_);exact hk.h):A:=h ⟨k⟩
end Go.Kn
namespace Go.Num
open Go Go.Kn Go.RowKit Go.ChangeShapes Go.WideShapes
section
variable {H:Type} {enc:TypeId×Value→H} {P:Program} {w:World} {base:Nat} {spare:Nat→Bool} {held:Bool}
end
open Go Go.Kn Go.RowKit
end Go.Num
namespace Go.Kn
open Go
section
variable {α:Type} {e:El α} {P:Program} {w0:World} {X:List Nat} {N:Nm} {S:Fr} {M M':List Blk} {d:Option Tmp} {ty:TypeId} {ps:String} {af:Array Edge} {gd:Option (Nat×Bool)} {v:Value} {l:List α}
end
end Go.Kn
namespace Go.Num
open Go Go.Kn
def Z.half (z:Z):Z:=H3 (fun v=>Z.of (v / 2)) z
theorem M7 {u g:Int} (hu:d6 u) (hg:0<g):d6 (u / g):=by
  unfold d6 at *;have h1:=Int.mul_ediv_add_emod u g;have h2:=Int.emod_nonneg u (by omega:g≠0);have h3:=Int.emod_lt_of_pos u hg
  have h4:(u / g).natAbs≤u.natAbs:=by
    rcases Int.lt_or_le u 0 with h|h
    · have h5:u / g<0:=Int.ediv_neg_of_neg_of_pos h hg
      have h6:u≤u / g:=by
        have h7:g*(u / g)≤u / g:=by
          have:=Int.mul_le_mul_of_nonpos_right (show (1:Int)≤g by omega) (Int.le_of_lt h5);omega
        have h8:u<g*(u / g)+g:=by omega
        rcases Int.lt_or_le u (g*(u / g)) with h9|h9
        · omega
        have h10:(g - 1)*(u / g) ≤ -(g - 1):=by
          have:=Int.mul_le_mul_of_nonneg_left (show u / g ≤ -1 by omega) (show 0≤g - 1 by omega);omega
        have h11:g*(u / g)=(g - 1)*(u / g)+u / g:=by rw [Int.sub_mul];omega
        omega
      omega
    have h5:0≤u / g:=Int.ediv_nonneg h oo_;have h6:u / g≤u:=Int.ediv_le_self _ h;omega
  omega
theorem M9 {u g:Int} (hg:0<g) (hb:d6 g):d6 (u % g):=by
  unfold d6 at *;have h2:=Int.emod_nonneg u (by omega:g≠0);have h3:=Int.emod_lt_of_pos u hg;omega
theorem U3 {u v:Int} (hu:d6 u) (hv:d6 v) (h:0<v):Z.rem (Z.of u) (Z.of v)=Z.of (u % v):=by
  rw [Z.rem,dR (Z.of_some hu) (Z.of_some hv),if_neg oo_,Int.fmod_eq_emod_of_nonneg _ oo_]
theorem MX {u v:Int} (hu:d6 u) (hv:d6 v):(Z.cmpW (Z.of u) (Z.of v)).1=(u - v).sign:=by
  show Z.cmp _ _=_
  unfold Z.cmp;rw [Z.of_some hu,Z.of_some hv];simp only;rcases Int.lt_trichotomy u v with h|h|h
  · rw [wX h,Int.sign_eq_neg_one_of_neg oo_]
  · subst h;rw [C5,Int.sub_self];rfl
  rw [wW h,Int.sign_eq_one_of_pos oo_]
theorem CT {n:Int} (h:-4≤n∧n≤4):IntKind.i64.wrap n=n:=wi ⟨by omega,by omega⟩
theorem c1_ {o x:W} (ho:o.1=1∨o.1 = -1) (hx:-2≤x.1∧x.1≤2):(W.mul o x).1=o.1*x.1:=by
  show IntKind.i64.wrap (o.1*x.1)=_
  refine CT ?_;rcases ho with h|h<;>rw [h]<;>omega
theorem c2_ {o:W} (ho:o.1=1∨o.1 = -1):(W.neg o).1 = -o.1:=by
  show IntKind.i64.wrap (0 - o.1)=_
  rw [CT oo_];omega
theorem aK_ {b d p r s:Int} (hb:0<b) (hd:0<d) (h0:p≠0) (hr:0≤r) (hrb:r<b) (hs:0≤s) (hsd:s<d):(b*d*p+(r*d - s*b)).sign=p.sign:=by
  have hbd:0<b*d:=Int.mul_pos hb hd;have h1:r*d<b*d:=Int.mul_lt_mul_of_pos_right hrb hd;have h2:s*b<d*b:=Int.mul_lt_mul_of_pos_right hsd hb;have h3:0≤r*d:=Int.mul_nonneg hr oo_;have h4:0≤s*b:=Int.mul_nonneg hs oo_;rw [Int.mul_comm d b] at h2;rcases Int.lt_trichotomy p 0 with h|h|h
  · rw [Int.sign_eq_neg_one_of_neg h,Int.sign_eq_neg_one_of_neg]
    have:b*d*p≤b*d*(-1):=Int.mul_le_mul_of_nonneg_left oo_ oo_;omega
  · exact absurd h h0
  rw [Int.sign_eq_one_of_pos h,Int.sign_eq_one_of_pos];have:b*d*1≤b*d*p:=Int.mul_le_mul_of_nonneg_left oo_ oo_;omega
theorem bz_:∀ (k:Nat) (o:W) (a b c d:Int),b.toNat≤k→0<b→0<d→d6 a→d6 b→d6 c→d6 d→(o.1=1∨o.1 = -1) →
    (cf k o (E (Z.of a)) (E (Z.of b)) (E (Z.of c)) (E (Z.of d))).1=o.1*(a*d - c*b).sign:=by
  intro k
  induction k with
  | zero=>intro o a b c d hk hb;omega
  | succ k ih =>
    intro o a b c d hk hb hd ha hb' hc hd' ho;unfold cf;simp only [cZ];rw [y4 ha hb' hb,y4 hc hd' hd,U3 ha hb' hb,U3 hc hd' hd,mU (M9 hb hb'),mU (M9 hd hd'),MX (M7 ha hb) (M7 hc hd)];have e1:=Int.mul_ediv_add_emod a b;have e2:=Int.mul_ediv_add_emod c d;have r1:=Int.emod_nonneg a (by omega:b≠0);have r2:=Int.emod_lt_of_pos a hb;have s1:=Int.emod_nonneg c (by omega:d≠0);have s2:=Int.emod_lt_of_pos c hd;have hrB:=M9 (u:=a) hb hb';have hsB:=M9 (u:=c) hd hd';have hpB:=M7 ha hb;have hqB:=M7 hc hd;generalize hp:a / b=p at *;generalize hr:a % b=r at *;generalize hq:c / d=q at *;generalize hs:c % d=s at *
    have key:a*d - c*b=b*d*(p - q)+(r*d - s*b):=by
      rw [← e1,← e2];grind
    rw [key]
    by_cases hpq:p=q
    · have h1:(p - q).sign=0:=by rw [hpq,Int.sub_self];rfl
      have h2:b*d*(p - q)+(r*d - s*b)=r*d - s*b:=by rw [hpq];grind
      rw [h1,h2];have h3:((0:Int) != 0)=false:=rfl;rw [h3];simp only [cond_false]
      by_cases h0:r=0∨s=0
      · have h4:((r.sign==0)||(s.sign==0))=true:=by
          rcases h0 with h|h<;>subst h<;>simp
        rw [h4];simp only [cond_true];have h5:=D4 r;have h6:=D4 s
        have e5:(W.sub (Z.signW (Z.of r)) (Z.signW (Z.of s))).1=r.sign - s.sign:=by
          show IntKind.i64.wrap ((Z.signW (Z.of r)).1 - (Z.signW (Z.of s)).1)=_
          rw [mU hrB,mU hsB];exact CT oo_
        rw [c1_ ho (by rw [e5];omega),e5]
        congr 1
        rcases h0 with h|h
        · subst h
          rw [Int.zero_mul,Int.zero_sub,Int.sign_neg,Int.sign_mul,Int.sign_eq_one_of_pos hb];simp
        subst h;rw [Int.zero_mul,Int.sub_zero,Int.sign_mul,Int.sign_eq_one_of_pos hd];simp
      have hr0:0<r:=by omega
      have hs0:0<s:=by omega
      have h4:((r.sign==0)||(s.sign==0))=false:=by
        rw [Int.sign_eq_one_of_pos hr0,Int.sign_eq_one_of_pos hs0];rfl
      rw [h4];simp only [cond_false];rw [ih _ _ _ _ _ oo_ hr0 hs0 hb' hrB hd' hsB (by rw [c2_ ho];omega),c2_ ho]
      have:b*s - d*r = -(r*d - s*b):=by grind
      rw [this,Int.sign_neg,Int.neg_mul_neg]
    have h1:((p - q).sign != 0)=true:=by
      rcases Int.lt_trichotomy (p - q) 0 with h|h|h
      · rw [Int.sign_eq_neg_one_of_neg h];rfl
      · omega
      rw [Int.sign_eq_one_of_pos h];rfl
    rw [h1];simp only [cond_true];rw [c1_ ho (by rw [MX hpB hqB];have:=D4 (p - q);omega),MX hpB hqB];rw [aK_ hb hd oo_ r1 r2 s1 s2]
theorem dO_ {d:Int} (h:d6 d):cfN (E (Z.of d))=d.toNat:=by
  unfold cfN;rw [cZ,Z.of_some h]
theorem dp_ {a b:Rt} {n d m e:Int} (ha:a.Is n d) (hb:b.Is m e):(jZ a b).1=(n*e - m*d).sign:=by
  unfold jZ;rw [sY,sY,CV ha,CV hb];simp only [Bool.not_true,Bool.and_false,cond_true,cond_false];rw [ha.en,ha.ed,hb.en,hb.ed,dO_ ha.hd,bz_ _ _ _ _ _ _ (Nat.le_refl _) ha.pos hb.pos ha.hn ha.hd hb.hn hb.hd (.inl rfl)];exact Int.one_mul _
theorem aL_ {x:Int}:x.sign≤0 ↔ x≤0:=Int.sign_nonpos_iff
theorem hh_ {x:Int}:x.sign<0 ↔ x<0:=Int.sign_neg_iff
theorem hg_ {x:Int}:0<x.sign ↔ 0<x:=Int.sign_pos_iff
theorem do_ {a b:Rt} {p q:Rat} (ha:a.At p) (hb:b.At q):(jZ a b).1=(p.num*q.den - q.num*p.den).sign:=dp_ ha hb
theorem hf_ {a b:Rt} {p q:Rat} (ha:a.At p) (hb:b.At q):(jZ a b).1<0 ↔ p<q:=by
  rw [do_ ha hb,hh_,Rat.lt_iff];omega
theorem hd_ {a b:Rt} {p q:Rat} (ha:a.At p) (hb:b.At q):0<(jZ a b).1 ↔ q<p:=by
  rw [do_ ha hb,hg_,Rat.lt_iff];omega
theorem dq_ {a b:Rt} {p q:Rat} (ha:a.At p) (hb:b.At q):(jZ a b).1≤0 ↔ p≤q:=by
  rw [do_ ha hb,aL_,Rat.le_iff];omega
open QP (V)
theorem WC (c:List (List I)):∀ (n:Nat) (a b:Rt) (k:Nat) (out:List Iv),aW c n a b k false out=(false,out)
  | 0,a,b,k,out=>rfl
  | n+1,a,b,k,out=>by unfold aW;rfl
theorem he_ {p:List I} {a b:Rt} {k:W} (h:(!bV p a b k)=false):Rgt p∧p.length≤25:=by
  have h:bV p a b k=true:=by simpa using h
  unfold bV at h;simp only [Bool.and_eq_true] at h;obtain ⟨h1,h2,_⟩:=TW h.1;exact ⟨h1,h2⟩
theorem CU {p:List I} (hp:Rgt p) {a b:Rt} (h:(bG p a b).2.1=0):p≠[]∧p.all gdI=true∧iM a b=true∧(aH p).2=true∧(aG (aH p).1 a b).2=true∧(bG p a b).1=(aG (aH p).1 a b).1∧St p (aH p).1:=by
  unfold bG at h ⊢;rw [iY (tO hp)] at h ⊢
  cases hg:p.all gdI
  · rw [hg] at h;cases h
  rw [hg] at h
  by_cases h0:p=[]
  · subst h0;cases h
  have hl:((((p).length:Nat):Int)==0)=false:=by rw [cW_,decide_eq_false h0]
  rw [hl] at h ⊢
  cases hab:iM a b
  · rw [hab] at h;cases h
  rw [hab] at h
  cases hs:(aH p).2
  · rw [hs] at h;cases h
  rw [hs] at h
  cases hc:(aG (aH p).1 a b).2
  · rw [hc] at h;cases h
  refine ⟨h0,rfl,rfl,rfl,rfl,rfl,(A7 hp hs).resolve_left h0⟩
open QP (V Rb Two)
theorem ef_ {p:List I} {A B:Rat} (h:Sp p A B) (hAB:A≤B):∀ (d n k:Nat) (j:Int) (a b:Rt) (u v:Rat) (out:List Iv),d+k=93→n+k=601→a.At u→b.At v→It A B (2 ^ k) j u v→(aW (aH p).1 n a b k true out).1=true:=by
  intro d
  induction d with
  | zero =>
    intro n k j a b u v out hd hn ha hb hi;obtain ⟨n,rfl⟩:∃ j,n=j+1:=⟨n - 1,by omega⟩;unfold aW;rw [h.count oo_ ha hb hi.lo hi.hi,FL ha,FL hb,decide_eq_true (show ((k:Nat):Int)<600 by omega)];simp only [Bool.not_false,Bool.and_self,Bool.not_true,Bool.false_or]
    cases h0:((aG (aH p).1 a b).1.1==0)
    · cases h1:((aG (aH p).1 a b).1.1==1)
      · have:=h.many hAB oo_ ha hb hi h0 h1;omega
      rfl
    rfl
  | succ d ih =>
    intro n k j a b u v out hd hn ha hb hi;obtain ⟨n,rfl⟩:∃ j,n=j+1:=⟨n - 1,by omega⟩;unfold aW;rw [h.count oo_ ha hb hi.lo hi.hi,FL ha,FL hb,decide_eq_true (show ((k:Nat):Int)<600 by omega)];simp only [Bool.not_false,Bool.and_self,Bool.not_true,Bool.false_or]
    cases h0:((aG (aH p).1 a b).1.1==0)
    · cases h1:((aG (aH p).1 a b).1.1==1)
      · simp only [cond_false]
        have hm:=h.mid oo_ ha hb hi.lo hi.hi;rw [ih n (k+1) _ a (aF a b) u _ out oo_ oo_ ha hm hi.left];exact ih n (k+1) _ (aF a b) b _ v _ oo_ oo_ hm hb hi.right
      rfl
    rfl
theorem bN_ {a b:Rt} {A B:Rat} (ha:a.At A) (hb:b.At B):iM a b=decide (A≤B):=by
  unfold iM;rw [FL ha,FL hb];simp only [Bool.not_false,Bool.true_and];exact decide_eq_decide.2 (dq_ ha hb)
def g7_ (p:(List I)) (a:Rt) (m:Rt) (b:Rt):Nat→Nat→Rt→(Nat×Rt) ⊕ (Bool)
  | 0,k,mb43=>.inl (k,mb43)
  | k0+1,k,mb43=>bif decide (((k:Nat):Int)<((((cX p a b).1).length:Nat):Int)) then (bif (decide ((i9 ((((cX p a b).1).getD k Iv0).lo) mb43).1<0)||(decide ((i9 ((((cX p a b).1).getD k Iv0).hi) ((((cX p a b).1).getD k Iv0).lo)).1<0)||decide (0<(i9 ((((cX p a b).1).getD k Iv0).hi) b).1))) then (.inr (false)) else (let r71:W:=(bG p ((((cX p a b).1).getD k Iv0).lo) ((((cX p a b).1).getD k Iv0).hi)).1
  let r72:W:=(bG p ((((cX p a b).1).getD k Iv0).lo) ((((cX p a b).1).getD k Iv0).hi)).2
  bif ((r71.1 != 1)&&(r72.1==0)) then (.inr (false)) else ((g7_ p a m b k0 (k+1) ((((cX p a b).1).getD k Iv0).hi))))) else (.inl (k,mb43))
def g8_ (p:(List I)) (a:Rt) (m:Rt) (b:Rt):Bool :=
  bif (!(bV p a b (wl 0))||(!(bV p m m (wl 0))||((aP p)||(((((p).length:Nat):Int)==0)||(decide (0<(i9 a m).1)||decide (0<(i9 m b).1)))))) then (iX) else (bif ((((bG p a m).2).1 != 0)||((((bG p m b).2).1 != 0)||((((bG p a b).2).1 != 0)||((((cX p a b).2).1 != 0)||(((W.add ((bG p a m).1) ((bG p m b).1)).1 != ((bG p a b).1).1)||((((((cX p a b).1).length:Nat):Int) != ((bG p a b).1).1)||decide (((((p).length:Nat):Int) - 1)<((bG p a b).1).1))))))) then (false) else (sm (fun (s:Nat×Rt)=>let k:Nat:=s.1
  let mb43:Rt:=s.2
  iX) (fun r=>r) (g7_ p a m b ((((cX p a b).1).length+1)) 0 a)))
end Go.Num
namespace Go.Proofs.YtokjfhfiodopdaaGreat
open Go.Kn Go.Num Tryz
attribute [local irreducible] Go.Kn.W WL PL OpQ OpR OpS
theorem g9_ (vp:Value) (p:(List I)) (a:Rt) (m:Rt) (b:Rt) (w:World) (hp:Slr w elI vp p) :
    Calls prog 6 [vp,AV [pI a.n,pI a.d],AV [pI m.n,pI m.d],AV [pI b.n,pI b.d]].toArray w (fun e w'=>e = .returned (.bool (g8_ p a m b))∧Ext w w'):=by
 obtain ⟨p_p,c_p,rfl⟩:=hp.form;refine cT (N:=183) func6 rfl rfl (by simp) ?_;obtain ⟨w0,rfl⟩:∃ w0,w0=w:=⟨_,rfl⟩;have Hp:=hp.old;have hm_p:=hp.max;simp only [bS,Nat.reduceAdd];refine go2 ?_;intro b1 hb1;refine go_ ?_;intro b2 hb2;refine go_ ?_;intro b3 hb3;refine go3 ?_;refine gJv [21,22,23,24,25,26,27,28,29,30,31,32,33,34,35,36,37,38,39,40,41,42,43,44,45,46,47,48,49,50,51,52,53] [(53,.bool (!(bV p a b (wl 0))||(!(bV p m m (wl 0))||((aP p)||(((((p).length:Nat):Int)==0)||(decide (0<(i9 a m).1)||decide (0<(i9 m b).1)))))))] (fun K2 J2=>?_) ?_
 ·refine go4 ?_;refine sQ (aV (v':=.bool (bV p a b (wl 0))) (bN aJ rfl (fun w hw=>sM _ p a b (wl 0) w (aR hw Hp sn))) rfl) rfl ?_;refine go_ ?_;rcases bt (bV p a b (wl 0)) with h9|h9
  ·refine sB (gG h9) rfl (go3 ?_);refine sQ (aV (v':=.bool (bV p m m (wl 0))) (bN aJ rfl (fun w hw=>sM _ p m m (wl 0) w (aR hw Hp sn))) rfl) rfl ?_;refine go2 ?_;rcases bt (bV p m m (wl 0)) with h10|h10
   ·refine sB (gG h10) rfl (go_ ?_);refine sQ (aV (v':=.bool (aP p)) (bN aJ rfl (fun w hw=>dN _ p w (aR hw Hp sn))) rfl) rfl (go_ ?_);refine sBB rfl (fun h11=>?_) (fun h11=>?_)
    ·refine V8 ?_;refine J2 _ _ pp_ s0 (bI (lE h9 (lE h10 (mS h11))))
    refine go_ ?_;refine sQ (aV (v':=.int .i64 (((p).length:Nat):Int)) (dO (e:=elI) dZ rfl (SLe.sub Hp sn)) rfl) rfl (go2 ?_);refine sBB rfl (fun h12=>?_) (fun h12=>?_)
    ·have ph12:=rW h12;refine R8 ?_;refine J2 _ _ pp_ s0 (bI (lE h9 (lE h10 (kX h11 (mS h12)))))
    have ph12:=l6 h12;refine go2 ?_;refine sQ (bZ aJ (z6 a m) rfl) rfl (go2 ?_);refine sBB rfl (fun h13=>?_) (fun h13=>?_)
    ·have ph13:=of_decide_eq_true h13;refine go6 ?_;refine J2 _ _ pp_ s0 (bI (lE h9 (lE h10 (kX h11 (kX h12 (mS h13))))))
    have ph13:=of_decide_eq_false h13;refine go2 ?_;refine sQ (bZ aJ (z6 m b) rfl) rfl (go3 ?_);refine J2 _ _ pp_ s0 (bI (lE h9 (lE h10 (kX h11 (kX h12 (kX h13 rfl))))))
   refine sB (gD h10) rfl (d8_ ?_);refine J2 _ _ pp_ s0 (bI (lE h9 (nI h10)))
  refine sB (gD h9) rfl (gN_ ?_);refine J2 _ _ pp_ s0 (bI (nI h9))
 intro g14;refine aT _ rfl (fun h15=>?_) (fun h15=>?_)
 ·refine go_ ?_;refine sQ (bZ aJ mL  rfl) rfl (go3 ?_);refine bP rfl (.inr rfl) rfl ?_;exact congrArg vS0 (show _=(g8_ p a m b) from bE h15 rfl)
 have ph16:=l6 (Bool.or_eq_false_iff.1 (Bool.or_eq_false_iff.1 (Bool.or_eq_false_iff.1 (Bool.or_eq_false_iff.1 h15).2).2).2).1;have ph17:=of_decide_eq_false (Bool.or_eq_false_iff.1 (Bool.or_eq_false_iff.1 (Bool.or_eq_false_iff.1 (Bool.or_eq_false_iff.1 (Bool.or_eq_false_iff.1 h15).2).2).2).2).1;have ph18:=of_decide_eq_false (Bool.or_eq_false_iff.1 (Bool.or_eq_false_iff.1 (Bool.or_eq_false_iff.1 (Bool.or_eq_false_iff.1 (Bool.or_eq_false_iff.1 h15).2).2).2).2).2;refine go_ ?_;obtain ⟨hRp,hLp⟩:=he_ (Bool.or_eq_false_iff.1 h15).1;refine go4 ?_;refine sQ (aV (v':=.tuple #[.int .i64 (((bG p a m).1).1),.int .i64 (((bG p a m).2).1)]) (bN aJ rfl (fun w hw=>nX _ p a m w (aR hw Hp sn) (by with_reducible first|assumption|exact ⟨hpre.1,by omega⟩|exact ⟨by assumption,by omega⟩|exact hpre.1|exact hpre.2))) rfl) rfl (oS ?_);refine sQ (aV (v':=.tuple #[.int .i64 (((bG p m b).1).1),.int .i64 (((bG p m b).2).1)]) (bN aJ rfl (fun w hw=>nX _ p m b w (aR hw Hp sn) (by with_reducible first|assumption|exact ⟨hpre.1,by omega⟩|exact ⟨by assumption,by omega⟩|exact hpre.1|exact hpre.2))) rfl) rfl (oS ?_);refine sQ (aV (v':=.tuple #[.int .i64 (((bG p a b).1).1),.int .i64 (((bG p a b).2).1)]) (bN aJ rfl (fun w hw=>nX _ p a b w (aR hw Hp sn) (by with_reducible first|assumption|exact ⟨hpre.1,by omega⟩|exact ⟨by assumption,by omega⟩|exact hpre.1|exact hpre.2))) rfl) rfl (oS ?_);refine bJ rfl (cP (E:=49) (e:=u3) (l:=(cX p a b).1) (fun v=>.tuple #[v,.int .i64 (((cX p a b).2).1)]) aJ rfl (fun w hw=>w9 _ p a b w (aR hw Hp sn) (by with_reducible first|assumption|exact ⟨hpre.1,by omega⟩|exact ⟨by assumption,by omega⟩|exact hpre.1|exact hpre.2)) (fun p19 c20 L21 hF22=>go7 ?_));refine gJv [83,84,85,86,87,88,89,90,91,92,93,94,95,96,97,98,99,100,101,102,103,104,105,106,107,108,109,110,111,112,113,114,115,116] [(116,.bool ((((bG p a m).2).1 != 0)||((((bG p m b).2).1 != 0)||((((bG p a b).2).1 != 0)||((((cX p a b).2).1 != 0)||(((W.add ((bG p a m).1) ((bG p m b).1)).1 != ((bG p a b).1).1)||((((((cX p a b).1).length:Nat):Int) != ((bG p a b).1).1)||decide (((((p).length:Nat):Int) - 1)<((bG p a b).1).1))))))))] (fun K4 J4=>?_) ?_
 ·refine go3 ?_;refine sBB rfl (fun h31=>?_) (fun h31=>?_)
  ·refine gQ_ ?_;refine J4 _ _ pp_ s0 (bI (mS h31))
  refine go3 ?_;refine sBB rfl (fun h32=>?_) (fun h32=>?_)
  ·refine gN_ ?_;refine J4 _ _ pp_ s0 (bI (kX h31 (mS h32)))
  refine go3 ?_;refine sBB rfl (fun h33=>?_) (fun h33=>?_)
  ·refine hm_ ?_;refine J4 _ _ pp_ s0 (bI (kX h31 (kX h32 (mS h33))))
  refine go3 ?_;refine sBB rfl (fun h34=>?_) (fun h34=>?_)
  ·refine fA_ ?_;refine J4 _ _ pp_ s0 (bI (kX h31 (kX h32 (kX h33 (mS h34)))))
  refine go2 ?_;refine sV (.int .i64 ((W.add ((bG p a m).1) ((bG p m b).1)).1)) rfl rfl (go3 ?_);refine sBB rfl (fun h35=>?_) (fun h35=>?_)
  ·refine F7 ?_;refine J4 _ _ pp_ s0 (bI (kX h31 (kX h32 (kX h33 (kX h34 (mS h35))))))
  refine go_ ?_;refine sQ (aV (v':=.int .i64 ((((cX p a b).1).length:Nat):Int)) (dO (e:=u3) Q2 rfl (rO hF22 lZ)) rfl) rfl (go3 ?_);refine sBB rfl (fun h36=>?_) (fun h36=>?_)
  ·have ph37:=fK_ h36;refine go7 ?_;refine J4 _ _ pp_ s0 (bI (kX h31 (kX h32 (kX h33 (kX h34 (kX h35 (mS h36)))))))
  have ph38:=fJ_ h36;refine go2 ?_;refine sQ (aV (v':=.int .i64 (((p).length:Nat):Int)) (dO (e:=elI) dZ rfl (SLe.sub Hp sn)) rfl) rfl (sV (.int .i64 ((((p).length:Nat):Int) - 1)) rfl (congrArg (Value.int .i64) (wx oo_ oo_ oo_)) (go3 ?_));refine J4 _ _ pp_ s0 (bI (kX h31 (kX h32 (kX h33 (kX h34 (kX h35 (kX h36 rfl)))))))
 intro g39;refine aT _ rfl (fun h40=>?_) (fun h40=>?_)
 ·refine go4 ?_;refine bP rfl (.inr rfl) rfl ?_;exact congrArg vS0 (show _=(g8_ p a m b) from aN h15 (bE h40 rfl))
 have ph41:=fJ_ (Bool.or_eq_false_iff.1 (Bool.or_eq_false_iff.1 (Bool.or_eq_false_iff.1 (Bool.or_eq_false_iff.1 (Bool.or_eq_false_iff.1 (Bool.or_eq_false_iff.1 h40).2).2).2).2).2).1;have ph42:=of_decide_eq_false (Bool.or_eq_false_iff.1 (Bool.or_eq_false_iff.1 (Bool.or_eq_false_iff.1 (Bool.or_eq_false_iff.1 (Bool.or_eq_false_iff.1 (Bool.or_eq_false_iff.1 h40).2).2).2).2).2).2;refine go2 ?_;have hmx0:=OwnG.max hF22;refine go2 ?_;intro b43 hb43;refine go2 ?_;refine oM (sk (sA (sk (sd (sd (s0)))))) ?_;refine go4 ?_;refine gJ3 [8,18,19,20,118,119,120,121,122,123,124,125,126,127,128,129,130,131,132,133,134,135,136,137,138,139,140,141,142,143,144,145,146,147,148,149,150,151,152,153,154,155,156,157,158,159,160,161,162,163,164,165,166,167,168,169,170,171,172,173,174,175,176,177,178,179,180,181] (fun g M=>∃ (k:Nat) (mb43:Rt),(g7_ p a m b ((((cX p a b).1).length+1)) 0 a) = .inl (k,mb43)∧(g 18 = .int .i64 ((k:Nat):Int))∧M=(⟨b43,29,bK [pI mb43.n,pI mb43.d]⟩::(L21++(⟨b3,29,bK [pI b.n,pI b.d]⟩::[])))) (fun K_u44 hK_u44=>?_) ?_
 ·refine go_ ?_;refine cO [8,18,19,20,118,119,120,121,122,123,124,125,126,127,128,129,130,131,132,133,134,135,136,137,138,139,140,141,142,143,144,145,146,147,148,149,150,151,152,153,154,155,156,157,158,159,160,161,162,163,164,165,166,167,168,169,170,171,172,173,174,175,176,177,178,179,180,181] (fun g nn M=>∃ (k:Nat) (mb43:Rt),(g7_ p a m b nn k mb43)=(g7_ p a m b ((((cX p a b).1).length+1)) 0 a)∧((cX p a b).1).length - k<nn∧(k≤((cX p a b).1).length)∧(g 18 = .int .i64 ((k:Nat):Int))∧M=(⟨b43,29,bK [pI mb43.n,pI mb43.d]⟩::(L21++(⟨b3,29,bK [pI b.n,pI b.d]⟩::[])))) ((((cX p a b).1).length+1)) ?start ?round
  case start=>exact ⟨_,s0,0,a,rfl,oo_,oo_,rfl,rfl⟩
  case round =>
   rintro nn g M ⟨k,mb43,hT0,hq0,hinv0,hg18,rfl⟩;obtain ⟨k0,rfl⟩:∃ m,nn=m+1:=⟨nn - 1,by omega⟩;simp only [eO,hg18];clear hg18;refine go4 ?_;refine sQ (aV (v':=.int .i64 ((((cX p a b).1).length:Nat):Int)) (dO (e:=u3) Q2 rfl (rO hF22 (sd lZ))) rfl) rfl (go2 ?_);refine aT _ rfl (fun h77=>?_) (fun h77=>?_)
   ·have ph77:=of_decide_eq_true h77;refine go4 ?_;refine gJv [124,125,126,127,128,129,130,131,132,133,134,135,136,137,138,139,140,141,142,143,144,145,146,147,148,149,150,151,152,153,154,155] [(155,.bool (decide ((i9 ((((cX p a b).1).getD k Iv0).lo) mb43).1<0)||(decide ((i9 ((((cX p a b).1).getD k Iv0).hi) ((((cX p a b).1).getD k Iv0).lo)).1<0)||decide (0<(i9 ((((cX p a b).1).getD k Iv0).hi) b).1))))] (fun K19 J19=>?_) ?_
    ·refine gdr s0 [0,4,8,12,16,20,24,28,32,36,40,44,48,52,56,60,64,68,72,76,80,84,88,92,96,100,104,108,112,116,120,124] [] mix (by kernel_rfl) (go2 ?_);refine pQ rfl (aV (v':=.pointer (some (slb (.slice p19 ((cX p a b).1).length c20) (k*72+0)))) (jT (e:=u3) (l:=(cX p a b).1) (k:=k) Q2 rfl rfl (rO hF22 (sd lZ)) o2_) rfl) ?_;refine pQ rfl (aV (v':=.pointer (some (slb (.slice p19 ((cX p a b).1).length c20) (k*72+0)))) (NX fdT rfl rfl) rfl) (pQ rfl (jI (e:=u3) (l:=(cX p a b).1) (k:=k) (o:=0) tyT rfl (rO hF22 (sd lZ)) (dC Iv0 o2_) rfl) ?_);refine go_ ?_;refine pQ rfl (bZ aJ (z6 ((((cX p a b).1).getD k Iv0).lo) mb43) rfl) (go_ ?_);refine pBB rfl (fun h80=>?_) (fun h80=>?_)
     ·have ph80:=of_decide_eq_true h80;refine hm_ ?_;refine J19 _ _ pp_ s0 (bI (mS h80))
     have ph80:=of_decide_eq_false h80;refine go2 ?_;refine pQ rfl (aV (v':=.pointer (some (slb (.slice p19 ((cX p a b).1).length c20) (k*72+0)))) (jT (e:=u3) (l:=(cX p a b).1) (k:=k) Q2 rfl rfl (rO hF22 (sd lZ)) o2_) rfl) ?_;refine pQ rfl (aV (v':=.pointer (some (slb (.slice p19 ((cX p a b).1).length c20) (k*72+36)))) (NX fdT rfl rfl) rfl) (pQ rfl (jI (e:=u3) (l:=(cX p a b).1) (k:=k) (o:=36) tyT rfl (rO hF22 (sd lZ)) (dC Iv0 o2_) rfl) ?_);refine go2 ?_;refine pQ rfl (aV (v':=.pointer (some (slb (.slice p19 ((cX p a b).1).length c20) (k*72+0)))) (jT (e:=u3) (l:=(cX p a b).1) (k:=k) Q2 rfl rfl (rO hF22 (sd lZ)) o2_) rfl) ?_;refine pQ rfl (aV (v':=.pointer (some (slb (.slice p19 ((cX p a b).1).length c20) (k*72+0)))) (NX fdT rfl rfl) rfl) (pQ rfl (jI (e:=u3) (l:=(cX p a b).1) (k:=k) (o:=0) tyT rfl (rO hF22 (sd lZ)) (dC Iv0 o2_) rfl) ?_);refine pQ rfl (bZ aJ (z6 ((((cX p a b).1).getD k Iv0).hi) ((((cX p a b).1).getD k Iv0).lo)) rfl) (go2 ?_);refine pBB rfl (fun h81=>?_) (fun h81=>?_)
     ·have ph81:=of_decide_eq_true h81;refine oS ?_;refine J19 _ _ pp_ s0 (bI (kX h80 (mS h81)))
     have ph81:=of_decide_eq_false h81;refine go2 ?_;refine pQ rfl (aV (v':=.pointer (some (slb (.slice p19 ((cX p a b).1).length c20) (k*72+0)))) (jT (e:=u3) (l:=(cX p a b).1) (k:=k) Q2 rfl rfl (rO hF22 (sd lZ)) o2_) rfl) ?_;refine pQ rfl (aV (v':=.pointer (some (slb (.slice p19 ((cX p a b).1).length c20) (k*72+36)))) (NX fdT rfl rfl) rfl) (pQ rfl (jI (e:=u3) (l:=(cX p a b).1) (k:=k) (o:=36) tyT rfl (rO hF22 (sd lZ)) (dC Iv0 o2_) rfl) ?_);refine go_ ?_;refine pQ rfl (bZ aJ (z6 ((((cX p a b).1).getD k Iv0).hi) b) rfl) (go3 ?_);refine J19 _ _ pp_ s0 (bI (kX h80 (kX h81 rfl)))
    intro g82;refine aT _ rfl (fun h83=>?_) (fun h83=>?_)
    ·refine go4 ?_;refine bP rfl (.inr rfl) rfl ?_;exact congrArg vS0 (show _=(g8_ p a m b) from aN h15 (aN h40 ((rG rfl (hT0.symm.trans (Eq.symm (bE h77 (bE h83 rfl))))))))
    have ph84:=of_decide_eq_false (Bool.or_eq_false_iff.1 h83).1;have ph85:=of_decide_eq_false (Bool.or_eq_false_iff.1 (Bool.or_eq_false_iff.1 h83).2).1;have ph86:=of_decide_eq_false (Bool.or_eq_false_iff.1 (Bool.or_eq_false_iff.1 h83).2).2;refine go4 ?_;refine sQ (aV (v':=.pointer (some (slb (.slice p19 ((cX p a b).1).length c20) (k*72+0)))) (jT (e:=u3) (l:=(cX p a b).1) (k:=k) Q2 rfl rfl (rO hF22 (sd lZ)) o2_) rfl) rfl ?_;refine sQ (aV (v':=.pointer (some (slb (.slice p19 ((cX p a b).1).length c20) (k*72+36)))) (NX fdT rfl rfl) rfl) rfl (sQ (jI (e:=u3) (l:=(cX p a b).1) (k:=k) (o:=36) tyT rfl (rO hF22 (sd lZ)) (dC Iv0 o2_) rfl) rfl ?_);refine go2 ?_;refine gds s0 [0,4,8,12,16,20,24,28,32,36,40,44,48,52,56,60,64] [] mix (by kernel_rfl) (go3 ?_);refine pQ rfl (aV (v':=.pointer (some (slb (.slice p19 ((cX p a b).1).length c20) (k*72+0)))) (jT (e:=u3) (l:=(cX p a b).1) (k:=k) Q2 rfl rfl (rO hF22 (sd lZ)) o2_) rfl) ?_;refine pQ rfl (aV (v':=.pointer (some (slb (.slice p19 ((cX p a b).1).length c20) (k*72+0)))) (NX fdT rfl rfl) rfl) (pQ rfl (jI (e:=u3) (l:=(cX p a b).1) (k:=k) (o:=0) tyT rfl (rO hF22 (sd lZ)) (dC Iv0 o2_) rfl) ?_);refine go2 ?_;refine pQ rfl (aV (v':=.pointer (some (slb (.slice p19 ((cX p a b).1).length c20) (k*72+0)))) (jT (e:=u3) (l:=(cX p a b).1) (k:=k) Q2 rfl rfl (rO hF22 (sd lZ)) o2_) rfl) ?_;refine pQ rfl (aV (v':=.pointer (some (slb (.slice p19 ((cX p a b).1).length c20) (k*72+36)))) (NX fdT rfl rfl) rfl) (pQ rfl (jI (e:=u3) (l:=(cX p a b).1) (k:=k) (o:=36) tyT rfl (rO hF22 (sd lZ)) (dC Iv0 o2_) rfl) ?_);obtain ⟨r87,hr87⟩:=nm ((bG p ((((cX p a b).1).getD k Iv0).lo) ((((cX p a b).1).getD k Iv0).hi)).1:W);obtain ⟨r88,hr88⟩:=nm ((bG p ((((cX p a b).1).getD k Iv0).lo) ((((cX p a b).1).getD k Iv0).hi)).2:W);refine pQ rfl (aV (v':=.tuple #[.int .i64 r87.1,.int .i64 r88.1]) (bN aJ rfl (fun w hw=>nX _ p ((((cX p a b).1).getD k Iv0).lo) ((((cX p a b).1).getD k Iv0).hi) w (aR hw Hp sn) (by with_reducible first|assumption|exact ⟨hpre.1,by omega⟩|exact ⟨by assumption,by omega⟩|exact hpre.1|exact hpre.2))) (by rw [hr87,hr88];first|done|rfl)) (go6 ?_);refine gJv [176,177,178,179,180,181] [(181,.bool ((r87.1 != 1)&&(r88.1==0)))] (fun K20 J20=>?_) ?_
    ·refine go3 ?_;refine sBB rfl (fun h90=>?_) (fun h90=>?_)
     ·refine go4 ?_;refine J20 _ _ pp_ s0 (bI (cU h90 rfl))
     refine go4 ?_;refine J20 _ _ pp_ s0 (bI (iQ h90))
    intro g91;refine aT _ rfl (fun h92=>?_) (fun h92=>?_)
    ·refine go4 ?_;refine bP rfl (.inr rfl) rfl ?_
     subst_vars;exact congrArg vS0 (show _=(g8_ p a m b) from aN h15 (aN h40 ((rG rfl (hT0.symm.trans (Eq.symm (bE h77 (aN h83 (bE h92 rfl)))))))))
    refine go3 ?_;refine sV (.int .i64 (((k+1):Nat):Int)) rfl (congrArg (Value.int .i64) (wx oo_ oo_ oo_)) (go2 ?_);refine ⟨pp_,_,_,s0,(Nat.lt_succ_self _),(k+1),((((cX p a b).1).getD k Iv0).hi),(by subst_vars;exact (hT0.symm.trans (Eq.symm (bE h77 (aN h83 (aN h92 rfl))))).symm),(Nat.lt_of_lt_of_le oo_ (Nat.le_of_lt_succ hq0)),oo_,rfl,rfl⟩
   have ph77:=of_decide_eq_false h77;refine go_ ?_;refine hK_u44 _ _ pp_ ⟨_,s0,k,mb43,(by exact hT0.symm.trans (Eq.symm (aN h77 rfl))),rfl,rfl⟩
 rintro g M ⟨k,mb43,hCu44,hg18,rfl⟩;simp only [eO,hg18];clear hg18;refine go_ ?_;refine sQ (bZ aJ mL  rfl) rfl (go3 ?_);refine bP rfl (.inr rfl) rfl ?_;exact congrArg vS0 (show _=(g8_ p a m b) from aN h15 (aN h40 (trs (Eq.symm (smS hCu44)) rfl)))
end Go.Proofs.YtokjfhfiodopdaaGreat
namespace Go.Num
open Go Go.Kn
open QP (V vr sgs)
def Chn9 (L:List (List I)):Rat→List Iv→Rat→Prop
  | u,[],v=>u≤v
  | u,x::l,v=>∃ s t,x.lo.At s∧x.hi.At t∧u≤s∧s≤t∧V (L.map qp) s=V (L.map qp) t+1∧Chn9 L t l v
theorem Chn9.le {L:List (List I)}:∀ {l:List Iv} {u v:Rat},Chn9 L u l v→u≤v
  | [],u,v,h=>h
  | x::l,u,v,⟨s,t,_,_,h1,h2,_,h3⟩=>by have:=Chn9.le h3;grind
theorem Chn9.mono {L:List (List I)} {l:List Iv} {u u' v:Rat} (h:Chn9 L u l v) (hu:u'≤u):Chn9 L u' l v:=by
  cases l with
  | nil=>exact Rat.le_trans hu h
  | cons x l =>
    obtain ⟨s,t,a,b,h1,h2⟩:=h;exact ⟨s,t,a,b,Rat.le_trans hu h1,h2⟩
theorem Chn9.app {L:List (List I)} {l2:List Iv} {m v:Rat} (h2:Chn9 L m l2 v):∀ {l:List Iv} {u:Rat},Chn9 L u l m→Chn9 L u (l++l2) v
  | [],u,h=>h2.mono h
  | x::l,u,⟨s,t,a,b,h1,h3,h4,h5⟩=>⟨s,t,a,b,h1,h3,h4,Chn9.app h2 h5⟩
theorem hj_ {p:List I} {L:List (List I)} (h:St p L) (hl:L.length≤100):∀ (n k:Nat) (a b:Rt) (u v:Rat) (out:List Iv),n+k=601→1≤n→u≤v→a.At u→b.At v→(aW L n a b k true out).1=true →
    ∃ l,(aW L n a b k true out).2=out++l∧l.length+V (L.map qp) v=V (L.map qp) u∧Chn9 L u l v:=by
  intro n
  induction n with
  | zero=>intro k a b u v out _ h1;omega
  | succ n ih =>
    intro k a b u v out hn _ huv ha hb hok;unfold aW at hok ⊢
    cases ho:(true&&((aG L a b).2&&(decide (((k:Nat):Int)<600)&&(!a.n.1.bad&&(!b.n.1.bad)))))
    · rw [ho] at hok
      simp only [Bool.not_false,Bool.true_or,cond_true] at hok
      cases hok
    rw [ho] at hok;simp only [Bool.not_true,Bool.false_or] at hok ⊢;simp only [Bool.true_and,Bool.and_eq_true,decide_eq_true_eq] at ho;obtain ⟨u',v',cx⟩:=GM h hl ho.1;obtain rfl:=EG ha cx.a;obtain rfl:=EG hb cx.b;have cn:=cx.n;have an:=h.anti huv;generalize (aG L a b).1.1=c at *
    cases h0:(c==0)
    · rw [h0] at hok
      simp only [cond_false] at hok ⊢
      cases h1:(c==1)
      · rw [h1] at hok
        simp only [cond_false] at hok ⊢;have i1:=fun t h1=>ih (k+1) a (aF a b) u t out oo_ oo_ h1 ha;have i2:=fun t h1 h2=>ih (k+1) (aF a b) b t v (aW L n a (aF a b) (k+1) true out).2 oo_ oo_ h1 h2 hb
        cases ok1:(aW L n a (aF a b) (k+1) true out).1
        · rw [ok1,WC] at hok;cases hok
        rw [ok1] at hok
        have hg:aZ (bB a b)=true:=by
          rw [← G2]
          -- the first half is right
          obtain ⟨n,rfl⟩:∃ j,n=j+1:=⟨n - 1,by omega⟩;unfold aW at ok1
          cases hs:(aG L a (aF a b)).2
          · rw [hs] at ok1
            simp only [Bool.false_and,Bool.and_false,Bool.not_false,Bool.true_or,cond_true] at ok1
            cases ok1
          obtain ⟨_,w,_,hw⟩:=HH h hl hs;exact uQ hw
        have hm:=cG_ ha hb hg;rw [← G2] at hm;obtain ⟨l1,e1,n1,c1⟩:=i1 _ (NM huv).1 hm ok1;obtain ⟨l2,e2,n2,c2⟩:=i2 _ (NM huv).2 hm hok;refine ⟨l1++l2,?_,?_,Chn9.app c2 c1⟩
        · rw [e2,e1,List.append_assoc]
        rw [List.length_append];omega
      have hc1:c=1:=by simpa using h1
      simp only [cond_true];exact ⟨[⟨a,b⟩],rfl,by simp only [List.length_singleton];omega,u,v,ha,hb,Rat.le_refl,huv,by omega,Rat.le_refl⟩
    have hc0:c=0:=by simpa using h0
    simp only [cond_true];exact ⟨[],(List.append_nil _).symm,by simp only [List.length_nil];omega,huv⟩
theorem hk_ (f:QP) (l:List QP) (q:Rat):V (f::l) q≤l.length:=by
  have h:=a7_ (sgs l q)
  have hl:(sgs l q).length=l.length:=by unfold sgs;rw [List.length_map]
  show vr 0 (QP.sg (f.ev q)::sgs l q)≤l.length
  rw [vr]
  split
  · have:=h 0;omega
  have:=h (QP.sg (f.ev q));rw [if_neg (fun k=>k.1 rfl)];omega
theorem hi_ (p:List I):∀ (k:Nat) (out:List (List I)) (next:List I) (s:List (List I)×List I),next.length≤25→cI p k out next = .inl s→s.1.length≤out.length+next.length
  | 0,out,next,s,_,h=>by cases h;exact Nat.le_add_right _ _
  | k+1,out,next,s,hn,h=>by
    unfold cI at h;rw [vT] at h
    cases h0:decide (0<((next.length:Nat):Int))
    · rw [h0,cond_false] at h;cases h;exact Nat.le_add_right _ _
    rw [h0,cond_true] at h;have hl:=cC (cH (bQ ((out++[next]).getD (((out++[next])).length - 2) []) next) (E (Z.of (-1))));have hg:=fun hb=>(GZ (a:=(out++[next]).getD (((out++[next])).length - 2) []) (n:=E (Z.of (-1))) (b:=next) hn hb).2;generalize aC (cH (bQ ((out++[next]).getD (((out++[next])).length - 2) []) next) (E (Z.of (-1))))=N at *
    cases hb:aU N
    · rw [hb,cond_false] at h
      rw [iY (l25 hl)] at hb;have hg:=hg (by simpa using hb);have:=hi_ p k _ _ s hl h;rw [List.length_append,List.length_singleton] at this;omega
    rw [hb,cond_true] at h;cases h
theorem hb_ {p:List I} (hok:(aH p).2=true) (h0:bD p≠[]):(aH p).1.length≤(bD p).length:=by
  have hfl:=rK p;have hdl:=l4 (bD p);unfold aH at hok ⊢
  cases hb:(aC (aE (bD p))).all gdI
  · rw [VU p _ _ (vO (pD _ (l25 hdl)) hb)] at hok
    cases hok
  obtain ⟨d1,d2⟩:=xY (l25 hdl) hb;have d3:=RY (l25 hfl) d1;have d4:1≤(bD p).length:=List.length_pos_iff.2 h0
  cases h1:cI p (gmP (aC (aE (bD p)))+1) [bD p] (aC (aE (bD p))) with
  | inr r =>
    have h0:=I2 p (gmP (aC (aE (bD p)))+1) [bD p] (aC (aE (bD p))) (EE (rK p)) (cC _)
    show r.1.length≤_
    rw [h0.2 r h1];exact Nat.zero_le _
  | inl s =>
    have h2:=hi_ p _ _ _ s (cC _) h1;rw [List.length_singleton] at h2
    show (sm (fun (_:Unit)=>(s.1,true)) (fun r=>r) (dP p s.1 s.2 s.1)).1.length≤_
    cases h3:dP p s.1 s.2 s.1 with
    | inr r =>
      show r.1.length≤_
      rw [I4 _ _ _ _ r h3];exact Nat.zero_le _
    | inl u =>
      show s.1.length≤_
      omega
theorem Gp.dg {p:List I} (h:Gp p):QP.Dg (qp p) (p.length - 1):=by
  obtain ⟨c,hc⟩:=h.po;obtain ⟨n,n1,n2,n3⟩:=hc.top h.2.2;rw [w8 hc hc.ends,n1];exact ⟨by rw [nL];exact fun e=>n2 (Rat.intCast_eq_zero_iff.1 e),fun i hi=>by rw [nL,n3 i oo_];rfl⟩
theorem St.deg {p:List I} (h:St p (aH p).1) (hp:Gp p) (hok:(aH p).2=true) (q:Rat):V ((aH p).1.map qp) q+1≤p.length:=by
  obtain ⟨f,l,⟨eL,ef⟩,hR,_,_⟩:=h.s;subst ef;have gf:Gp (bD p):=h.g _ (by rw [eL];exact List.mem_cons_self);have hs:=hb_ hok gf.2.2;have hd:=QP.Dv.dg hR.dv gf.dg hp.dg;have h1:=List.length_pos_iff.2 gf.2.2;have h2:=List.length_pos_iff.2 hp.2.2;rw [eL] at hs ⊢;have hv:=hk_ (qp (bD p)) (l.map qp) q;rw [List.length_map] at hv;simp only [List.length_cons] at hs;simp only [List.map_cons];omega
theorem hl_ (l:List Iv) {i:Nat} (h:i<l.length):l.drop i=l.getD i Iv0::l.drop (i+1):=by
  rw [List.drop_eq_getElem_cons h,List.getD_eq_getElem?_getD,List.getElem?_eq_getElem h];rfl
theorem ha_ {p:List I} (hp:Rgt p) (a m b:Rt) {B:Rat} (hB:b.At B):∀ (n k:Nat) (y:Rt) (t:Rat),y.At t→Chn9 (aH p).1 t ((cX p a b).1.drop k) B→∃ s,g7_ p a m b n k y = .inl s
  | 0,k,y,t,_,_=>⟨_,rfl⟩
  | n+1,k,y,t,hy,hc=>by
    unfold g7_
    by_cases hk:k<(cX p a b).1.length
    · rw [decide_eq_true oo_,cond_true]
      rw [hl_ _ hk] at hc;generalize (cX p a b).1.getD k Iv0=x at *;obtain ⟨s,w,h1,h2,h3,h4,h5,h6⟩:=hc
      have c1:¬ (i9 x.lo y).1<0:=by rw [← be_,hf_ h1 hy];grind
      have c2:¬ (i9 x.hi x.lo).1<0:=by rw [← be_,hf_ h2 h1];grind
      have c3:¬ 0<(i9 x.hi b).1:=by
        have:=h6.le;rw [← be_,hd_ h2 hB];grind
      rw [decide_eq_false c1,decide_eq_false c2,decide_eq_false c3];simp only [Bool.or_self,cond_false]
      have c4:(((bG p x.lo x.hi).1.1 != 1)&&((bG p x.lo x.hi).2.1==0))=false:=by
        by_cases he:(bG p x.lo x.hi).2.1=0
        · obtain ⟨_,_,_,_,g1,g2,g3⟩:=CU hp he
          obtain ⟨s',w',cx⟩:=GM g3 (yE p) g1;obtain rfl:=EG h1 cx.a;obtain rfl:=EG h2 cx.b;have:=cx.n;rw [g2,show (aG (aH p).1 x.lo x.hi).1.1=1 by omega];rfl
        rw [show ((bG p x.lo x.hi).2.1==0)=false by simpa using he,Bool.and_false]
      rw [c4,cond_false];exact ha_ hp a m b hB n (k+1) _ w h2 h6
    rw [decide_eq_false oo_,cond_false];exact ⟨_,rfl⟩
theorem hn_ {x y:W} {n:Int} (h:x.1+y.1=n) (hn:-1000≤n∧n≤1000):(W.add x y).1=n:=by
  show IntKind.i64.wrap (x.1+y.1)=n
  rw [h,wi oo_]
theorem hc_ (p:List I) (a m b:Rt):g8_ p a m b=true:=by
  unfold g8_
  cases hc:(!(bV p a b (wl 0))||(!(bV p m m (wl 0))||((aP p)||(((((p).length:Nat):Int)==0)||(decide (0<(i9 a m).1)||decide (0<(i9 m b).1))))))
  case true=>rw [cond_true];exact DY
  rw [cond_false];simp only [Bool.or_eq_false_iff,Bool.not_eq_false',decide_eq_false_iff_not] at hc;obtain ⟨c1,c2,c3,c4,c5,c6⟩:=hc;obtain ⟨hf,⟨A,hA,sA⟩,⟨B,hB,sB⟩,_⟩:=XU c1;obtain ⟨_,⟨M,hM,sM⟩,_,_⟩:=XU c2
  have hg:p.all gdI=true:=by rw [lN] at c3;simpa using c3
  have h0:p≠[]:=fun e=>by rw [e] at c4;cases c4
  have am:A≤M:=by
    rw [← be_,hd_ hA hM] at c5;exact Rat.not_lt.1 c5
  have mb:M≤B:=by
    rw [← be_,hd_ hM hB] at c6;exact Rat.not_lt.1 c6
  have ab:A≤B:=Rat.le_trans am mb;have SAB:=Sp.of hf hg h0 sA sB;have SAM:=Sp.of hf hg h0 sA sM;have SMB:=Sp.of hf hg h0 sM sB;have hp:=SAB.rgt;rw [SAM.Count hA hM,SMB.Count hM hB,SAB.Count hA hB,bN_ hA hM,bN_ hM hB,bN_ hA hB,decide_eq_true am,decide_eq_true mb,decide_eq_true ab];simp only [cond_true];obtain ⟨_,_,x1⟩:=GM SAB.st (yE p) (SAM.count dd_ hA hM SAM.pA.lo SAM.pA.hi);obtain rfl:=EG hA x1.a;obtain rfl:=EG hM x1.b;obtain ⟨_,_,x2⟩:=GM SAB.st (yE p) (SMB.count dd_ hM hB SMB.pA.lo SMB.pA.hi);obtain rfl:=EG hM x2.a;obtain rfl:=EG hB x2.b;obtain ⟨_,_,x3⟩:=GM SAB.st (yE p) (SAB.count dd_ hA hB SAB.pA.lo SAB.pA.hi);obtain rfl:=EG hA x3.a;obtain rfl:=EG hB x3.b;have n1:=x1.n;have n2:=x2.n;have n3:=x3.n;have d0:=SAB.st.deg ⟨hp,hg,h0⟩ SAB.ok A;have a1:=SAB.st.anti am;have a2:=SAB.st.anti mb;have hl:=yE p;have v1:=bj_ ((aH p).1.map qp) A;rw [List.length_map] at v1;have hI:(aW (aH p).1 601 a b 0 true []).1=true:=ef_ SAB ab 93 601 0 0 a b A B [] rfl rfl hA hB SAB.pA;obtain ⟨l,e1,e2,e3⟩:=hj_ SAB.st hl 601 0 a b A B [] rfl dd_ ab hA hB hI;rw [List.nil_append] at e1
  have eI:cX p a b=(l,wl 0):=by
    unfold cX;rw [SAB.nb,SAB.nl,SAB.ok,bN_ hA hB,decide_eq_true ab];simp only [Bool.not_true,Bool.or_self,cond_false,cond_true];rw [hI,e1];rfl
  obtain ⟨s,hs⟩:=ha_ hp a m b hB ((cX p a b).1.length+1) 0 a A hA (by rw [eI];exact e3);have wadd:(W.add (aG (aH p).1 a m).1 (aG (aH p).1 m b).1).1=(aG (aH p).1 a b).1.1:=hn_ oo_ oo_;rw [wadd,hs,eI]
  have len:(l.length:Int)=(aG (aH p).1 a b).1.1:=by omega
  have deg:¬ ((p.length:Nat):Int) - 1<(aG (aH p).1 a b).1.1:=by omega
  rw [decide_eq_false deg];simp only [sm];rw [show ((l.length:Nat):Int)=(aG (aH p).1 a b).1.1 from len]
  simp [DY]
end Go.Num
