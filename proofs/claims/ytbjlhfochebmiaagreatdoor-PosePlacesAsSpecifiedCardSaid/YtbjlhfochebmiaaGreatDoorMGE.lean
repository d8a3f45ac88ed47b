/- Lemmas: what they ask stands in their statements. -/
import Derived.ArgAppend
import Derived.Test.YtbjlhfochebmiaaGreatDoorMGD
import Derived.Test.YtbjlhfochebmiaaGreatDoorProg
set_option linter.unusedSimpArgs false
set_option linter.unusedVariables false
set_option maxRecDepth 20000
namespace Go.Kn
open Go
def Frq (M L R:List Blk):Prop:=M.Perm (L++R)
theorem yK {x:Blk} {R:List Blk}:Frq (x::R) [x] R:=List.Perm.refl _
theorem nH {L R:List Blk}:Frq (L++R) L R:=List.Perm.refl _
theorem rY {x:Blk} {R L R':List Blk} (h:Frq R L R'):Frq (x::R) L (x::R'):=(List.Perm.cons x h).trans List.perm_middle.symm
theorem dG {L2 R L R':List Blk} (h:Frq R L R'):Frq (L2++R) L (L2++R'):=by
 have h1:(L2++R).Perm (L2++(L++R')):=List.Perm.append_left L2 h
 have h2:(L2++(L++R')).Perm (L++(L2++R')):=by
  rw [← List.append_assoc,← List.append_assoc];exact List.Perm.append_right R' List.perm_append_comm
 exact h1.trans h2
theorem Sat.perm {w0 w:World} {X:List Nat} {M M':List Blk} (h:Sat w0 X M w) (p:M.Perm M'):Sat w0 X M' w :=
 ⟨h.os,h.tape,h.output,h.size,h.old,(p.map Blk.b).nodup_iff.1 h.nodup,fun x hx=>h.mem x (p.mem_iff.2 hx)⟩
theorem OwnG.lit {α:Type} {e:El α} {w0:World} {l:List α} {E:TypeId} {b n:Nat} {qs:List Part} (hb:w0.heap.size≤b) (hn:l.length=n) (hm:n≤maxLen) (hq:qs=l.flatMap e.ps):OwnG w0 E e (.slice (some ⟨b,0,none⟩) n n) l [⟨b,E,bB qs⟩] :=
 OwnG.of_mine hb hn hm (by rw [hq];exact F1 l)
theorem WU {α:Type} {e:El α} {P:Program} {w0:World} {X:List Nat} {N:Nm} {S:Fr} {M:List Blk} {d:Option Tmp} {ty:TypeId} {ps:String} {af:Array Edge} {gd:Option (Nat×Bool)} {v:Value} {l:List α}
  {T E:TypeId} {x y:Operand} {u:Value} {m:List α} {L M1:List Blk} {K:Value→List Blk→Prop} (bytes:Nat) (hT:P.underlying T=some (.slice E)) (hE:XD P E e.n bytes=true) (h0:0<e.n) (hx:evO N S x=some v) (hy:evO N S y=some u)
  (hv:OwnG w0 E e v l L) (hu:SLe w0 X M e u m) (hs:Frq M L M1) (hn:(l.length+m.length)*bytes≤140737488355328) (h8:0<bytes) (k:∀ v' L',OwnG w0 E e v' (l++m) L'→K v' (L'++M1)) :
  OpR P w0 X N ⟨d,.call { callee:=.builtin .append,args:=#[x,y],argTypes:=#[T,T] },ty,ps,af,gd⟩ S M K:=fun w hw =>
 WT (M:=L++M1) hT hE h0 hx hy hv (fun w hw=>hu w (hw.perm (List.Perm.symm hs))) (List.Sublist.refl _) hn h8 k w (hw.perm hs)
section
variable {α:Type} {e:El α} {P:Program} {w0:World} {X:List Nat} {N:Nm} {S:Fr} {M M':List Blk} {d:Option Tmp} {ty:TypeId} {ps:String} {af:Array Edge} {gd:Option (Nat×Bool)} {v:Value} {l:List α}
theorem OpR.perm {o:Oper} {K:Value→List Blk→Prop} (p:M.Perm M') (h:OpR P w0 X N o S M' K):OpR P w0 X N o S M K:=fun w hw=>h w (hw.perm p)
theorem OwnG.form {E:TypeId} {L:List Blk} (h:OwnG w0 E e v l L):∃ p c,v = .slice p l.length c:=by
 rcases h with ⟨rfl,rfl,rfl⟩|⟨g,cap,cur,rfl,_⟩
 ·exact ⟨none,0,rfl⟩
 exact ⟨_,_,rfl⟩
theorem SLfe.max (h:SLfe w0 M e v l):l.length≤9223372036854775807:=by
 obtain ⟨p,c,hv,hc,hm,_⟩:=h;unfold maxLen at hm;omega
theorem SLfe.lit {b n:Nat} {T:TypeId} {qs:List Part} (hB:w0.heap.size≤b) (h:(⟨b,T,bB qs⟩:Blk)∈M) (hn:l.length=n) (hm:n≤maxLen) (hq:qs=l.flatMap e.ps):SLfe w0 M e (.slice (some ⟨b,0,none⟩) n n) l :=
 SLfe.mine hB h hn (Nat.le_refl _) hm (by rw [← hn,List.take_of_length_le,hq,F1];rw [hq,F1,oW];exact Nat.le_refl _)
theorem kG {T E:TypeId} {x y:Operand} {u:Value} {m:List α} {L M1:List Blk} {K:Value→List Blk→Prop} (bytes:Nat) (hT:P.underlying T=some (.slice E)) (hE:XD P E e.n bytes=true) (h0:0<e.n) (hx:evO N S x=some v) (hy:evO N S y=some u)
  (hv:OwnG w0 E e v l L) (hu:SLe w0 X M e u m) (hs:Frq M L M1) (hn:(l.length+m.length)*bytes≤140737488355328) (h8:0<bytes) (k:∀ p c L',OwnG w0 E e (.slice p (l++m).length c) (l++m) L'→K (.slice p (l++m).length c) (L'++M1)) :
  OpR P w0 X N ⟨d,.call { callee:=.builtin .append,args:=#[x,y],argTypes:=#[T,T] },ty,ps,af,gd⟩ S M K :=
 WU bytes hT hE h0 hx hy hv hu hs hn h8 fun v' L' h=>by
  obtain ⟨p,c,rfl⟩:=h.form;exact k p c L' h
theorem SLe.full {p:Option Addr} {n c:Nat} (h:SLe w0 X M e (.slice p n c) l) (h0:0<n∨c=0):SLe w0 X M e (.slice p n n) l:=fun w hw=>by
 obtain ⟨p',c',hq,hc,hm,hp⟩:=h w hw
 cases hq
 refine ⟨p,l.length,rfl,Nat.le_refl _,by omega,?_⟩;rcases hp with ⟨rfl,rfl,rfl⟩|⟨a,rfl,hr⟩
 ·exact .inl ⟨rfl,rfl,rfl⟩
 exact .inr ⟨a,rfl,hr⟩
end
end Go.Kn
namespace Go.Num
open Go Go.Kn
def Z.nat (z:Z):Nat:=match z.o with|some v=>v.natAbs|none=>0
def Z.half (z:Z):Z:=FU (fun v=>Z.of (v / 2)) z
def sqb:Nat→Nat→Nat→Nat
 | 0,_,r=>r
 | k+1,v,r=>bif decide (v<(r+2 ^ k)*(r+2 ^ k)) then sqb k v r else sqb k v (r+2 ^ k)
def pP (v:Nat):Nat:=sqb 256 v 0
def Z.sqrt (z:Z):Z:=FU (fun v=>bif decide (v<0) then Z.bad else Z.of ((pP v.toNat:Nat):Int)) z
theorem KN:∀ (k v r:Nat),r*r≤v→v<(r+2 ^ k)*(r+2 ^ k)→sqb k v r*sqb k v r≤v∧v<(sqb k v r+1)*(sqb k v r+1)
 | 0,v,r,h1,h2=>⟨h1,h2⟩
 | k+1,v,r,h1,h2=>by
  unfold sqb
  by_cases h:v<(r+2 ^ k)*(r+2 ^ k)
  ·rw [decide_eq_true h,cond_true];exact KN k v r h1 h
  rw [decide_eq_false h,cond_false];refine KN k v (r+2 ^ k) oo_ ?_;rw [Nat.add_assoc,← Nat.two_mul,Nat.mul_comm 2,← Nat.pow_succ];exact h2
theorem WB {v k m:Nat} (hm:4294967296 ^ 16=2 ^ m) (hk:m=k+k) (h:v<4294967296 ^ 16):v<(0+2 ^ k)*(0+2 ^ k):=by
 rw [Nat.zero_add,← Nat.pow_add,← hk,← hm];exact h
theorem tY {v:Nat} (h:v<4294967296 ^ 16):pP v*pP v≤v∧v<(pP v+1)*(pP v+1):=KN 256 v 0 (Nat.zero_le _) (WB EK O h)
theorem PA {a b:Nat} (h:a<b):(a+1)*(a+1)≤b*b:=Nat.mul_le_mul h h
theorem WY {v r s:Nat} (h1:r*r≤v) (h2:v<(r+1)*(r+1)) (h3:s*s≤v) (h4:v<(s+1)*(s+1)):r=s:=by
 rcases Nat.lt_trichotomy r s with h|h|h
 ·have:=PA h;omega
 ·exact h
 have:=PA h;omega
theorem SP {v r:Nat} (h:v<4294967296 ^ 16) (h1:r*r≤v) (h2:v<(r+1)*(r+1)):r=pP v:=WY h1 h2 (tY h).1 (tY h).2
theorem NJ {a:R} (ha:a.Ok):val a.w<4294967296 ^ 16:=by have:=zN a.w ha.lim;rwa [ha.len] at this
theorem NB {a:R} (ha:a.Ok) (ga:a.good=true) (hn:a.neg=false) {r:Nat} (h1:r*r≤val a.w) (h2:val a.w<(r+1)*(r+1)):Z.of (sgn false r)=Z.sqrt a.dec:=by
 unfold Z.sqrt;rw [kR (cU ha ga),hn];have e:sgn false (val a.w)=((val a.w:Nat):Int):=rfl;rw [e,decide_eq_false oo_,cond_false,Int.toNat_natCast,← SP (NJ ha) h1 h2];rfl
theorem RL {a:R} (ha:a.Ok) (ga:a.good=true) (hn:a.neg=true):Z.sqrt a.dec=Z.bad:=by
 unfold Z.sqrt;rw [kR (cU ha ga),hn]
 have h0:val a.w≠0:=fun h=>by
  have:=ga;unfold R.good R.valid at this
  simp [hn,R.zero] at this
  exact this.2 h
 have e:sgn true (val a.w) = -((val a.w:Nat):Int):=rfl;rw [e,decide_eq_true oo_];rfl
theorem RK {a:R} (ga:a.good=false):Z.sqrt a.dec=Z.bad:=by
 unfold Z.sqrt R.dec;rw [if_neg (by simp [ga])];rfl
theorem V7 {a:R} (ha:a.Ok) (ga:a.good=true) (hn:a.neg=false):R.mk false false (toL 16 (val a.w / 2 ^ 1))=(Z.half a.dec).enc:=by
 unfold Z.half;rw [kR (cU ha ga),hn]
 have e:sgn false (val a.w) / 2=sgn false (val a.w / 2 ^ 1):=by
  show ((val a.w:Nat):Int) / 2=((val a.w / 2 ^ 1:Nat):Int)
  omega
 rw [e];exact pY false (Nat.lt_of_le_of_lt (Nat.div_le_self _ _) (NJ ha))
theorem YZ {a:R} (ga:a.good=false):Z.half a.dec=Z.bad:=by
 unfold Z.half R.dec;rw [if_neg (by simp [ga])];rfl
theorem V8 {a:R} (ha:a.Ok) (ga:a.good=true) (hn:a.neg=false) (hs:a.dec.sign=0):a=(Z.half a.dec).enc:=by
 have hv:sgn false (val a.w)=0:=by
  unfold Z.sign at hs;rw [cU ha ga,hn] at hs;exact Int.sign_eq_zero_iff_zero.1 hs
 unfold Z.half;rw [kR (cU ha ga),hn,hv]
 have e:a.dec=Z.of 0:=by
  unfold R.dec;rw [if_pos ga,hn,hv]
 have:=(IL ha ga).symm;rw [e] at this;exact this
theorem V6 {a:R} (h:a.Ok):(uw (List.replicate 16 0)).take 0++(a.cells.drop 2).take 16++(uw (List.replicate 16 0)).drop 16=uw a.w:=by
 have e1:a.cells.drop 2=uw a.w:=rfl
 have e2:(uw a.w).length=16:=by rw [jB,h.len]
 have e3:(uw (List.replicate 16 0)).drop 16=[]:=rfl;rw [e1,List.take_of_length_le (l:=uw a.w) oo_,e3,List.take_zero,List.nil_append,List.append_nil]
theorem an_ {n:Nat} (h:n≤32):IntKind.i64.wrap (IntKind.i64.wrap (8*(n:Int))+7)=((8*n+8:Nat):Int) - 1:=by
 rw [wi (n:=8*(n:Int)) oo_,wi oo_];omega
theorem d3_ {a k:Nat} (h:a<65536 ^ k):a<(0+2 ^ (8*k+8))*(0+2 ^ (8*k+8)):=by
 rw [Nat.zero_add,← Nat.pow_add];rw [show (65536:Nat)=2 ^ 16 from rfl,← Nat.pow_mul] at h;exact Nat.lt_of_lt_of_le h (Nat.pow_le_pow_right dd_ oo_)
theorem d4_ {v r k:Nat} (h2:v<(r+2 ^ (k+1))*(r+2 ^ (k+1))):v<(r+2 ^ k+2 ^ k)*(r+2 ^ k+2 ^ k):=by
 rw [Nat.add_assoc,← Nat.two_mul,Nat.mul_comm 2,← Nat.pow_succ];exact h2
theorem U2 {v r:Nat} (h:r*r≤v) (hv:v<4294967296 ^ 16):r<65536 ^ 16:=by
 rcases Nat.lt_or_ge r (65536 ^ 16) with h1|h1
 ·exact h1
 exfalso
 have h2:=Nat.mul_le_mul h1 h1
 have h3:(65536:Nat) ^ 16*65536 ^ 16=4294967296 ^ 16:=by rw [← Nat.mul_pow]
 omega
theorem bB_ (k:Nat) (hk:k=17) {m:Nat} (h:m≤264):2 ^ m<65536 ^ k:=by
 rw [show (65536:Nat)=2 ^ 16 from rfl,← Nat.pow_mul];exact Nat.pow_lt_pow_right dd_ oo_
theorem ZU {m:Nat} (h:m≤264):2 ^ m<65536 ^ 17:=bB_ 17 O h
theorem ar_ {r m:Nat} (h:r<65536 ^ 16) (h2:2 ^ m<65536 ^ 17):r+2 ^ m<65536 ^ 18:=by
 generalize 2 ^ m=q at *;have h3:(65536:Nat) ^ 16≤65536 ^ 17:=Nat.pow_le_pow_right dd_ dd_
 have h4:(65536:Nat) ^ 17*2≤65536 ^ 18:=by rw [Nat.pow_succ 65536 17];exact Nat.mul_le_mul_left _ dd_
 omega
theorem b0_ {r:Nat} (h:r<65536 ^ 18):r*r<65536 ^ 36:=by
 rw [show (36:Nat)=18+18 from rfl,Nat.pow_add];exact Nat.mul_lt_mul_of_lt_of_le h (Nat.le_of_lt h) (Nat.pow_pos dd_)
theorem MR {a b:Int} (h:(a != b)=false):a=b:=by simpa using h
theorem UN {a b:Int} (h:(a != b)=true):a≠b:=by simpa using h
theorem trs {α:Type} {a b c:α} (h2:b=c) (h1:a=b):a=c:=h1.trans h2
theorem apS {σ β:Type} {f:σ→β} {x s:σ} (h:x=s):ap f x=f s:=by rw [h];rfl
theorem smS {σ ρ β:Type} {f:σ→β} {g:ρ→β} {x:σ ⊕ ρ} {s:σ} (h:x = .inl s):sm f g x=f s:=by rw [h];rfl
structure Edg where
 l:List (A3 Rt)
 e:W
structure Pts where
 l:List Rt
 is:Bool
end Go.Num
namespace Go.Kn
open Go Go.Num
def FnV {α:Type} (P:Program) (w:World) (v:Value) (enc:α→List Value) (dom:α→Prop) (out:α→Value):Prop :=
 ∃ g cap,v = .func (.func g) #[] cap.toArray∧lV P g=true∧∀ w',Ext w w'→∀ x,dom x→Calls P g (enc x++cap).toArray w' fun e w''=>e = .returned (out x)∧Ext w' w''
def FnE {α:Type} (P:Program) (w0:World) (X:List Nat) (M:List Blk) (g:Nat) (cap:List Value) (enc:α→List Value) (dom:α→Prop) (out:α→Value):Prop :=
 lV P g=true∧∀ w,Sat w0 X M w→∀ x,dom x→Calls P g (enc x++cap).toArray w fun e w''=>e = .returned (out x)∧Ext w w''
section
variable {α:Type} {P:Program} {w0:World} {X:List Nat} {N:Nm} {S:Fr} {M M':List Blk} {d:Option Tmp} {ty:TypeId} {ps:String} {af:Array Edge} {gd:Option (Nat×Bool)} {enc:α→List Value} {dom:α→Prop} {out:α→Value} {g:Nat} {cap:List Value}
theorem FnV.open {w:World} {v:Value} (h:FnV P w v enc dom out):∃ g cap,v = .func (.func g) #[] cap.toArray∧FnE P w [] [] g cap enc dom out:=by
 obtain ⟨g,cap,hv,he,hc⟩:=h;exact ⟨g,cap,hv,he,fun w' hw' x hx=>hc w' hw'.ext x hx⟩
theorem FnV.mk {w:World} (hw:Sat w0 X M w) (he:lV P g=true) (h:∀ w,Sat w0 X M w→∀ x,dom x→Calls P g (enc x++cap).toArray w fun e w''=>e = .returned (out x)∧Ext w w''):FnV P w (.func (.func g) #[] cap.toArray) enc dom out :=
 ⟨g,cap,rfl,he,fun w' hx x hd=>h w' (Sat.mono _ _ _ _ _ hw hx) x hd⟩
theorem FnE.sub (h:FnE P w0 X M g cap enc dom out) (hs:M.Sublist M'):FnE P w0 X M' g cap enc dom out:=⟨h.1,fun w hw=>h.2 w (hw.sub hs)⟩
theorem FnE.ap {w:World} (hw:Sat w0 X M w) (h:FnE P w0 X M g cap enc dom out):FnV P w (.func (.func g) #[] cap.toArray) enc dom out:=FnV.mk hw h.1 h.2
theorem FnV.get {w:World} (h:FnV P w (.func (.func g) #[] cap.toArray) enc dom out):FnE P w [] [] g cap enc dom out:=by
 obtain ⟨g',cap',hv,he⟩:=h.open
 have e1:g=g'∧cap=cap':=by simpa using hv
 obtain ⟨rfl,rfl⟩:=e1;exact he
theorem S8 {f:Operand} {xs:List Operand} {tys:Array TypeId} (x:α) (hf:evO N S f=some (.func (.func g) #[] cap.toArray)) (ha:evL N S xs=some (enc x)) (h:FnE P w0 X M g cap enc dom out) (hx:dom x) :
  OpQ P w0 X N ⟨d,.call { callee:=.value f,args:=xs.toArray,argTypes:=tys },ty,ps,af,gd⟩ S M (out x) :=
 bC_ (first:=[]) (cap:=cap) (args:=enc x) h.1 hf ha fun w hw=>by simpa using h.2 w hw x hx
end
abbrev eN (k:Nat):List Value:=[.int .i64 (k:Int)]
abbrev eW (k:Num.W):List Value:=[.int .i64 k.1]
abbrev eI (x:I):List Value:=[AV [pI x]]
abbrev eII (x:I×I):List Value:=[AV [pI x.1],AV [pI x.2]]
abbrev eRt (x:Rt):List Value:=[AV [pI x.n,pI x.d]]
abbrev ZT {α:Type} (f:α→I) (x:α):Value:=AV [pI (f x)]
abbrev gk_ {α:Type} (f:α→Num.W) (x:α):Value:=.int .i64 (f x).1
abbrev bz_ {α:Type} (f:α→Bool) (x:α):Value:=.bool (f x)
theorem cvE {t:Int} (h:-9223372036854775808≤t∧t≤9223372036854775807):(W.cv t).1=t:=by
 show IntKind.i64.wrap t=t
 exact wi h
section
variable {α:Type} {e:El α} {P:Program} {w0:World} {X:List Nat} {N:Nm} {S:Fr} {M M':List Blk} {d:Option Tmp} {ty:TypeId} {ps:String} {af:Array Edge} {gd:Option (Nat×Bool)} {v:Value} {l:List α}
theorem Slr.form {w:World} (h:Slr w e v l):∃ p c,v = .slice p l.length c:=by
 obtain ⟨p,c,hv,_⟩:=h;exact ⟨p,c,hv⟩
theorem zF {T:TypeId} {x y:Operand} {k:Nat} {i:IntKind} {t:Int} (hT:nU P T=some e.n) (hx:evO N S x=some v) (hy:evO N S y=some (.int i t)) (ht:t=(k:Int)) (hv:SLe w0 X M e v l) (hk:k<l.length) :
  OpQ P w0 X N ⟨d,.indexAddr T x y,ty,ps,af,gd⟩ S M (.pointer (some (slb v (k*e.n)))):=by
 subst ht;exact eD hT hx hy hv hk
theorem OwnG.take {E:TypeId} {p:Option Addr} {n c:Nat} {L:List Blk} (h:OwnG w0 E e (.slice p n c) l L) {k:Nat} (hk:k≤l.length):OwnG w0 E e (.slice p (l.take k).length c) (l.take k) L:=by
 have hl:(l.take k).length=k:=by rw [List.length_take,Nat.min_eq_left hk]
 rcases h with ⟨h,rfl,rfl⟩|⟨g,cap,cur,h,rfl,hg,hc,hm,hn,ht⟩
 ·cases h
  obtain rfl:k=0:=by simpa using hk
  exact .inl ⟨rfl,rfl,rfl⟩
 ·cases h
  refine .inr ⟨g,c,cur,rfl,rfl,hg,by omega,hm,hn,?_⟩;rw [hl,← GX,← ht,List.take_take,Nat.min_eq_left (Nat.mul_le_mul_right _ hk)]
theorem UU {T E:TypeId} {x y:Operand} {k n c:Nat} {i:IntKind} {t:Int} {p:Option Addr} {L:List Blk} (hT:nU P T=some e.n) (hx:evO N S x=some (.slice p n c)) (hy:evO N S y=some (.int i t)) (ht:t=(k:Int)) (hv:OwnG w0 E e (.slice p n c) l L) (hk:k≤l.length) :
  OpQ P w0 X N ⟨d,.slice T x none (some y) none,ty,ps,af,gd⟩ S M (.slice p (l.take k).length c):=by
 subst ht
 have hl:(l.take k).length=k:=by rw [List.length_take,Nat.min_eq_left hk]
 rw [hl]
 have hn:n=l.length∧l.length≤c:=by
  rcases hv with ⟨h,rfl,rfl⟩|⟨g,cap,cur,h,rfl,hg,hc,hm,hn,ht⟩
  ·cases h;exact ⟨rfl,Nat.le_refl _⟩
  ·cases h;exact ⟨rfl,hc⟩
 refine qT (w0:=w0) (X:=X) (M:=M) (fun w hw=>?_);obtain ⟨e',q,hu,hi',hs⟩:=uT hT;have hb:=E1 (P:=P) (N:=N) (S:=S) (w:=w) (isSl:=true) (len:=n) (cap:=c) (lo:=none) (hi:=some y) (l:=0) (h:=(k:Int)) O (by simp [CL,hy]) oo_ oo_ oo_;simp only [Option.map_none,Option.map_some] at hb;simp only [execOp,Instr.sliceAt,Instr.slice,Sem.run_bind,run_underlying hu,cG hx,Result.andThen_ok];simp only [Option.map_none,Option.map_some,hb,Result.andThen_ok,sizeOf,typeInfo,Sem.run_bind,run_program,hi',hs,Sem.run_pure]
 cases p<;>simp [Addr.add]
theorem OwnG.len {E:TypeId} {p:Option Addr} {n c:Nat} {L:List Blk} (h:OwnG w0 E e (.slice p n c) l L):n=l.length:=by
 rcases h with ⟨h,rfl,rfl⟩|⟨g,cap,cur,h,_⟩
 ·cases h;rfl
 ·cases h;rfl
theorem WH (x0:α) (h0:0<e.n) (c:Nat):madeCells (e.cs x0).toArray (c*e.n)=(rows e (List.replicate c x0)).toArray:=by
 apply Array.ext
 ·rw [size_madeCells,List.size_toArray,oW,List.length_replicate]
 intro i h1 h2;have hlen:(e.cs x0).length=e.n:=El.cs_len x0;rw [size_madeCells] at h1;have hq:i / e.n<c:=Nat.div_lt_of_lt_mul (by rw [Nat.mul_comm];exact h1);have hr:i % e.n<e.n:=Nat.mod_lt _ h0
 have hk:(List.replicate c x0)[i / e.n]? = some x0:=by rw [List.getElem?_replicate,if_pos hq]
 have hg:=RC (e:=e) hk
 have h3:(rows e (List.replicate c x0))[i]? = some ((e.cs x0)[i % e.n]'oo_):=by
  have h4:(((rows e (List.replicate c x0)).drop (i / e.n*e.n)).take e.n)[i % e.n]? = some ((e.cs x0)[i % e.n]'oo_):=by rw [hg];exact List.getElem?_eq_getElem _
  rw [List.getElem?_take_of_lt hr,List.getElem?_drop,Nat.div_add_mod' i e.n] at h4;exact h4
 have h5:(rows e (List.replicate c x0)).toArray[i]? = some ((e.cs x0)[i % e.n]'oo_):=by simpa using h3
 rw [Array.getElem?_eq_getElem h2] at h5;rw [Option.some.inj h5];simp only [madeCells,Array.getElem_map,Array.getElem_range,List.size_toArray,hlen];rw [getElem!_pos (e.cs x0).toArray (i % e.n) (by rw [List.size_toArray,hlen];exact hr)]
 simp
theorem UY {T E:TypeId} {x y:Operand} {n c:Nat} {i j:IntKind} {s t:Int} {K:Value→List Blk→Prop} (bytes:Nat) (x0:α) (hT:P.underlying T=some (.slice E)) (hE:XD P E e.n bytes=true) (h0:0<e.n) (hz:n8 P E=some (e.cs x0)) (hx:evO N S x=some (.int i s)) (hy:evO N S y=some (.int j t))
  (hs:s=(n:Int)) (ht:t=(c:Int)) (hnc:n≤c) (hcm:c≤200000) (hen:e.n≤80) (hby:bytes≤1000) (k:∀ p L,OwnG w0 E e (.slice p (List.replicate n x0).length c) (List.replicate n x0) L→K (.slice p (List.replicate n x0).length c) (L++M)) :
  OpR P w0 X N ⟨d,.makeSlice T x y,ty,ps,af,gd⟩ S M K:=by
 subst hs ht;intro w hw;obtain ⟨inf,z,hi,hz',hc⟩:=z7 hz;unfold XD at hE;simp only [hi,hz',Bool.and_eq_true,beq_iff_eq] at hE;obtain ⟨⟨h1,hb⟩,hzc⟩:=hE;have b1:c*e.n≤200000*80:=Nat.mul_le_mul hcm hen;have b2:bytes*c≤1000*200000:=Nat.mul_le_mul hby hcm;have hr:=run_makeSlice (P:=P) w T E inf z hT hi hz' i j n c oo_ oo_ (by rw [h1,Int.toNat_natCast];omega) (by rw [hb];omega) oo_;rw [h1,hc,Int.toNat_natCast,Int.toNat_natCast,WH x0 h0] at hr;unfold opw
 have hex:(execOp (ev N S) ⟨d,.makeSlice T x y,ty,ps,af,gd⟩).run P w = .ok (.value (.slice (some ⟨w.heap.size,0,none⟩) n c)) (w.alloc (.cells (rows e (List.replicate c x0)).toArray E)):=by
  simp [execOp,cG hx,cG hy,hr]
 rw [oN,hex];have hl:(List.replicate n x0).length=n:=List.length_replicate
 have hk:=k (some ⟨w.heap.size,0,none⟩) [⟨w.heap.size,E,rows e (List.replicate c x0)⟩] (.inr ⟨w.heap.size,c,_,rfl,rfl,hw.size,by rw [hl];exact hnc,by unfold maxLen;omega,by rw [oW,List.length_replicate],by
  rw [hl,GX,List.take_replicate,Nat.min_eq_left hnc]⟩)
 rw [hl] at hk;exact ⟨.alloc _ _,_,hw.alloc E _,hk⟩
theorem R6 {c:Code} {Q:rP} {M2:List Blk} (p:M.Perm M2) (h:W P w0 X N c Q S M2):W P w0 X N c Q S M:=fun B D w hB hd hr hw=>h B D w hB hd hr (hw.perm p)
def Slo (B:Nat) (w:World) (E:TypeId) (e:El α) (v:Value) (l:List α):Prop :=
 (v = .slice none 0 0∧l=[]) ∨ ∃ g cap,∃ cur:List Value,v = .slice (some ⟨g,0,none⟩) l.length cap∧B≤g∧w.heap[g]? = some (.cells cur.toArray E (0,0))∧l.length≤cap∧cap≤maxLen∧cur.length=cap*e.n∧cur.take (l.length*e.n)=rows e l
theorem OwnG.slo {E:TypeId} {L:List Blk} {w:World} (h:OwnG w0 E e v l L) (hs:L.Sublist M) (hw:Sat w0 X M w):Slo w0.heap.size w E e v l:=by
 rcases h with ⟨rfl,rfl,rfl⟩|⟨g,cap,cur,rfl,rfl,hg,hc,hm,hn,ht⟩
 ·exact .inl ⟨rfl,rfl⟩
 exact .inr ⟨g,cap,cur,rfl,hg,hw.mem _ (hs.mem List.mem_cons_self),hc,hm,hn,ht⟩
theorem Slo.now {w w':World} {E:TypeId} (h:Slo w.heap.size w' E e v l) (hw:Sat w0 X M w) (he:Ext w w'):∃ p c L,v = .slice p l.length c∧Sat w0 X (L++M) w'∧OwnG w0 E e (.slice p l.length c) l L:=by
 have hw':=Sat.mono _ _ _ _ _ hw he;rcases h with ⟨rfl,rfl⟩|⟨g,cap,cur,rfl,hB,hh,hc,hm,hn,ht⟩
 ·exact ⟨none,0,[],rfl,hw',.inl ⟨rfl,rfl,rfl⟩⟩
 have hb:g ∉ M.map Blk.b:=fun hm=>by
  obtain ⟨x,hx,rfl⟩:=List.mem_map.1 hm;have:=eM? (hw.mem x hx);omega
 refine ⟨_,cap,[⟨g,E,cur⟩],rfl,⟨hw'.os,hw'.tape,hw'.output,hw'.size,hw'.old,by simpa using And.intro (by simpa using hb) hw'.nodup,fun y hy=>?_⟩,.inr ⟨g,cap,cur,rfl,rfl,Nat.le_trans hw.size hB,hc,hm,hn,ht⟩⟩;rcases List.mem_cons.1 hy with rfl|hy
 ·exact hh
 exact hw'.mem y hy
def fZ_ (w0:World) (M:List Blk) (E:TypeId) (e:El α) (v:Value) (l:List α):Prop:=∃ L,L.Sublist M∧OwnG w0 E e v l L
theorem eQ {n:Nat} {E:TypeId} {f:FuncId} {fn:Func} {c:Code} {args:List Value} {w:World} (R:Value→Value) (hf:P.funcs[f]? = some fn) (hb:fn.body=some c) (hn:fn.ntmps=n) (hl:args.length≤n)
  (h:W P w [] (pl n) c (qK P fn w [] (pl n) fun r M=>∃ v,r=R v∧fZ_ w M E e v l) (vO 0 args) []):Calls P f args.toArray w fun f w'=>∃ v,f = .returned (R v)∧Ext w w'∧Slo w.heap.size w' E e v l :=
 (rK hf hb hn hl (Sat.start w []) h).mono fun f w' ⟨r,M',he,hs,_,v,hr,L,hL,hu⟩=>⟨v,by rw [he,hr],hs.ext,hu.slo hL hs⟩
theorem aV {E:TypeId} {g:FuncId} {xs:List Operand} {tys:Array TypeId} {args:List Value} {K:Value→List Blk→Prop} (R:Value→Value) (he:lV P g=true) (ha:evL N S xs=some args)
  (h:∀ w,Sat w0 X M w→Calls P g args.toArray w fun f w'=>∃ v,f = .returned (R v)∧Ext w w'∧Slo w.heap.size w' E e v l) (k:∀ p c L,OwnG w0 E e (.slice p l.length c) l L→K (R (.slice p l.length c)) (L++M)):OpR P w0 X N ⟨d,.call { callee:=.value (.func g),args:=xs.toArray,argTypes:=tys },ty,ps,af,gd⟩ S M K :=
 BZ he ha fun w hw=>(h w hw).mono fun _ w' ⟨v,h1,h2,h3⟩=>by
  obtain ⟨p,c,L,rfl,hs,hv⟩:=h3.now hw h2;exact ⟨_,L++M,h1,hs,Ext.keeps h2,k p c L hv⟩
theorem OwnG.max {E:TypeId} {L:List Blk} (h:OwnG w0 E e v l L):l.length≤9223372036854775807:=(h.slfe (List.Sublist.refl L)).max
end
end Go.Kn
namespace Go.Num
open Go Go.Kn
structure Sgd where
 s:W
 ok:Bool
structure Lst8 where
 l:List I
 is:Bool
abbrev gdI (x:I):Bool:=!x.1.bad&&x.1.valid
end Go.Num
namespace Go.Proofs.YtbjlhfochebmiaaGreatDoor
open Go.Kn Go.Num Tryz
def enL_:List Nat:=[7,8,9,10,11,12,13,14,15,16,17,18,19,20,21,22,23,24,25,26,27,28,29,30,31,32,33,34,35,36,37,38,39,40,41,42,43,44,45,46,47,48,49,50,51,52,53,54,55,56,57,58,59,60,61,62,63,64,65,66,67,68,69,70,71,72,73,74,75,76,77,78,79,80,81,82,83,84,85,86,87,88,89,90,91,92,93,94,95,96,97,98,99,100,101,102,103,104,105,106,107,108,109,110,111,112,113,114,115,116,117,118,119,120,121,122,123,124,125,126,127,128,129,130,131,132,133,134,135,136,137,138,139,140,141,142,143,144,145,146,147,148,149,150,151,152,153,154,155,156,157,158,159,160,161,162,163,164,165,166,167,168,169,170,171,172,173,174,175,176,177,178,179,180,181,182,183,184,185,186,187,188,189,190,191,192,193,194,195,196,197,198,199,200,201,202,203,204,205,206,207,208,209,210,211,212,213,214,215,216,217,218,219,220,221,222,223,224,225,226,227,228,229,230,231,232,233,234,235,236,238,239,240]
theorem f8_:enL_.all (fun g=>lV prog g)=true:=by kernel_rfl
theorem aE {g:Nat} (h:enL_.contains g=true:=by rfl):lV prog g=true:=List.all_eq_true.1 f8_ g (List.contains_iff_mem.1 h)
theorem mix:prog.follows .mixedOrders=true:=by kernel_rfl
def pQa (o:List Nat):Nat→Nat→List Nat
 | 0,_=>[]
 | k+1,i=>(4*i+bif o.contains i then 1 else 0)::pQa o k (i+1)
section
variable {w0:World} {X:List Nat} {N:Nm} {S:Fr} {M MD:List Blk} {Q:rP} {y:Code} {id:Nat} {ops:List Oper}
theorem mS (sub:MD.Sublist M) (n:Nat) (o nx:List Nat) (h:PL prog w0 X N ops (nwx ops nx) MD (Nx prog w0 X N y Q) (mP ops.toArray (pQa o n 0)) S M)
 (hok:(Region.noSelect ops.toArray&&Plan.ok ops.toArray (nwx ops nx) ops.length (Array.replicate ops.length false) (mP ops.toArray (pQa o n 0)))=true:=by kernel_rfl):Go.Kn.W prog w0 X N (.seq (.region id ops.toArray true) y) Q S M:=gds sub _ nx mix hok h
theorem kY (sub:MD.Sublist M) (n:Nat) (o nx:List Nat) (h:PL prog w0 X N ops (nwx ops nx) MD (Nk Q) (mP ops.toArray (pQa o n 0)) S M)
 (hok:(Region.noSelect ops.toArray&&Plan.ok ops.toArray (nwx ops nx) ops.length (Array.replicate ops.length false) (mP ops.toArray (pQa o n 0)))=true:=by kernel_rfl):Go.Kn.W prog w0 X N (.region id ops.toArray true) Q S M:=gdr sub _ nx mix hok h
end
instance:FAr prog 23 (3,1):=⟨by kernel_rfl⟩
instance:FAr prog 24 (4,1):=⟨by kernel_rfl⟩
instance:FAr prog 25 (4,1):=⟨by kernel_rfl⟩
instance:FAr prog 31 (16,1):=⟨by kernel_rfl⟩
instance:FAr prog 42 (3,36):=⟨by kernel_rfl⟩
instance:FAr prog 56 (3,1):=⟨by kernel_rfl⟩
instance:FAr prog 62 (4,1):=⟨by kernel_rfl⟩
instance:FAr prog 107 (9,1):=⟨by kernel_rfl⟩
instance:FAr prog 124 (2,18):=⟨by kernel_rfl⟩
instance:FAr prog 157 (9,1):=⟨by kernel_rfl⟩
instance:FAr prog 179 (32,1):=⟨by kernel_rfl⟩
instance:FAr prog 198 (17,1):=⟨by kernel_rfl⟩
instance:FAr prog 217 (3,18):=⟨by kernel_rfl⟩
theorem E0:KX prog 4=true:=by kernel_rfl
theorem DC:prog.eqGuardType prog.depth 23=false:=by kernel_rfl
theorem ch_:prog.eqGuardType prog.depth 25=false:=by kernel_rfl
theorem eI_:prog.eqGuardType prog.depth 27=false:=by kernel_rfl
theorem JA:prog.eqGuardType prog.depth 31=false:=by kernel_rfl
theorem T8:prog.eqGuardType prog.depth 33=false:=by kernel_rfl
theorem MI:prog.eqGuardType prog.depth 42=false:=by kernel_rfl
theorem ci_:prog.eqGuardType prog.depth 80=false:=by kernel_rfl
instance:FEl prog 23 (3,1,false):=⟨by kernel_rfl⟩
instance:FEl prog 24 (4,1,false):=⟨by kernel_rfl⟩
instance:FEl prog 25 (4,1,false):=⟨by kernel_rfl⟩
instance:FFd prog 27 0 (0,3):=⟨by kernel_rfl⟩
instance:FFd prog 27 1 (3,4):=⟨by kernel_rfl⟩
instance:FFd prog 29 0 (0,7):=⟨by kernel_rfl⟩
instance:FFd prog 29 1 (7,7):=⟨by kernel_rfl⟩
instance:FFd prog 33 0 (0,1):=⟨by kernel_rfl⟩
instance:FFd prog 33 1 (1,1):=⟨by kernel_rfl⟩
instance:FFd prog 33 2 (2,16):=⟨by kernel_rfl⟩
instance:FFd prog 35 0 (0,18):=⟨by kernel_rfl⟩
instance:FFd prog 35 1 (18,18):=⟨by kernel_rfl⟩
instance:FFd prog 52 0 (0,1):=⟨by kernel_rfl⟩
instance:FFd prog 60 0 (0,3):=⟨by kernel_rfl⟩
instance:FFd prog 60 1 (3,1):=⟨by kernel_rfl⟩
instance:FFd prog 72 0 (0,1):=⟨by kernel_rfl⟩
instance:FFd prog 72 1 (1,1):=⟨by kernel_rfl⟩
instance:FFd prog 80 0 (0,3):=⟨by kernel_rfl⟩
instance:FFd prog 80 1 (3,3):=⟨by kernel_rfl⟩
instance:FFd prog 136 0 (0,1):=⟨by kernel_rfl⟩
instance:FFd prog 136 1 (1,1):=⟨by kernel_rfl⟩
instance:FFd prog 185 0 (0,3):=⟨by kernel_rfl⟩
instance:FFd prog 185 2 (4,1):=⟨by kernel_rfl⟩
instance:FFd prog 215 0 (0,3):=⟨by kernel_rfl⟩
theorem FS:HS prog 3=some .i64:=by kernel_rfl
theorem QL:HS prog 5=some .u8:=by kernel_rfl
theorem i4:HS prog 30=some .u32:=by kernel_rfl
theorem gA:HS prog 132=some .u64:=by kernel_rfl
theorem JP:nN prog 8 31=some (true,(List.replicate 16 (some IntKind.u32))):=by kernel_rfl
theorem DK:nN prog 8 23=some (true,([some .i64]++([some .i64]++[some .i64]))):=by kernel_rfl
theorem co_:nN prog 8 25=some (true,([some .i64]++([some .i64]++([some .i64]++[some .i64])))):=by kernel_rfl
theorem eP_:nN prog 8 27=some (true,([some .i64]++([some .i64]++([some .i64]++([some .i64]++([some .i64]++([some .i64]++[some .i64]))))))):=by kernel_rfl
theorem UI:nN prog 8 33=some (true,LI):=by kernel_rfl
theorem MQ:nN prog 8 42=some (true,(LI++(LI++(LI++(LI++(LI++LI)))))):=by kernel_rfl
theorem cp_:nN prog 8 80=some (true,([some .i64]++([some .i64]++([some .i64]++([some .i64]++([some .i64]++[some .i64])))))):=by kernel_rfl
theorem QT:RP prog 3=true:=by kernel_rfl
instance:FPl prog 27 [(0,3),(3,4)]:=⟨by kernel_rfl⟩
instance:FPl prog 29 [(0,7),(7,7)]:=⟨by kernel_rfl⟩
instance:FPl prog 33 [(0,1),(1,1),(2,16)]:=⟨by kernel_rfl⟩
instance:FPl prog 35 [(0,18),(18,18)]:=⟨by kernel_rfl⟩
instance:FPl prog 52 [(0,1)]:=⟨by kernel_rfl⟩
instance:FPl prog 60 [(0,3),(3,1)]:=⟨by kernel_rfl⟩
instance:FPl prog 72 [(0,1),(1,1)]:=⟨by kernel_rfl⟩
instance:FPl prog 80 [(0,3),(3,3)]:=⟨by kernel_rfl⟩
instance:FPl prog 136 [(0,1),(1,1)]:=⟨by kernel_rfl⟩
instance:FPl prog 185 [(0,3),(3,1),(4,1)]:=⟨by kernel_rfl⟩
instance:FPl prog 215 [(0,3),(3,1)]:=⟨by kernel_rfl⟩
theorem iV:nU prog 50=some 3:=by kernel_rfl
theorem w6:nU prog 54=some 18:=by kernel_rfl
theorem kI:nU prog 55=some 18:=by kernel_rfl
theorem uJ:nU prog 65=some 108:=by kernel_rfl
theorem j7:nU prog 95=some 1:=by kernel_rfl
theorem sP:nU prog 141=some 1:=by kernel_rfl
theorem O9:nU prog 180=some 1:=by kernel_rfl
theorem zJ:nU prog 182=some 5:=by kernel_rfl
theorem am_:nU prog 194=some 36:=by kernel_rfl
theorem b1_:prog.underlying 9=some .string:=by kernel_rfl
theorem oX:(prog.info? 3).map (·.size)=some 1:=by kernel_rfl
theorem HQ:(prog.info? 23).map (·.size)=some 3:=by kernel_rfl
theorem rN:(prog.info? 33).map (·.size)=some 18:=by kernel_rfl
theorem fp_:(prog.info? 35).map (·.size)=some 36:=by kernel_rfl
theorem cG_:(prog.info? 42).map (·.size)=some 108:=by kernel_rfl
theorem GB:(prog.info? 55).map (·.size)=some 1:=by kernel_rfl
theorem PE:(prog.info? 185).map (·.size)=some 5:=by kernel_rfl
theorem gx_:lH prog 3=some (false,1):=by kernel_rfl
instance:FTy prog 3 (false,1):=⟨gx_⟩
theorem gy_:lH prog 4=some (false,1):=by kernel_rfl
instance:FTy prog 4 (false,1):=⟨gy_⟩
theorem fq_:lH prog 23=some (true,3):=by kernel_rfl
instance:FTy prog 23 (true,3):=⟨fq_⟩
theorem fr_:lH prog 24=some (true,4):=by kernel_rfl
instance:FTy prog 24 (true,4):=⟨fr_⟩
theorem fs_:lH prog 25=some (true,4):=by kernel_rfl
instance:FTy prog 25 (true,4):=⟨fs_⟩
theorem ft_:lH prog 27=some (true,7):=by kernel_rfl
instance:FTy prog 27 (true,7):=⟨ft_⟩
theorem fu_:lH prog 29=some (true,14):=by kernel_rfl
instance:FTy prog 29 (true,14):=⟨fu_⟩
theorem fv_:lH prog 30=some (false,1):=by kernel_rfl
instance:FTy prog 30 (false,1):=⟨fv_⟩
theorem fw_:lH prog 31=some (true,16):=by kernel_rfl
instance:FTy prog 31 (true,16):=⟨fw_⟩
theorem fx_:lH prog 33=some (true,18):=by kernel_rfl
instance:FTy prog 33 (true,18):=⟨fx_⟩
theorem fy_:lH prog 35=some (true,36):=by kernel_rfl
instance:FTy prog 35 (true,36):=⟨fy_⟩
theorem fz_:lH prog 36=some (false,1):=by kernel_rfl
instance:FTy prog 36 (false,1):=⟨fz_⟩
theorem fA_:lH prog 42=some (true,108):=by kernel_rfl
instance:FTy prog 42 (true,108):=⟨fA_⟩
theorem fB_:lH prog 50=some (false,1):=by kernel_rfl
instance:FTy prog 50 (false,1):=⟨fB_⟩
theorem fC_:lH prog 52=some (true,1):=by kernel_rfl
instance:FTy prog 52 (true,1):=⟨fC_⟩
theorem fD_:lH prog 54=some (false,1):=by kernel_rfl
instance:FTy prog 54 (false,1):=⟨fD_⟩
theorem fE_:lH prog 55=some (false,1):=by kernel_rfl
instance:FTy prog 55 (false,1):=⟨fE_⟩
theorem fF_:lH prog 56=some (true,3):=by kernel_rfl
instance:FTy prog 56 (true,3):=⟨fF_⟩
theorem fG_:lH prog 60=some (true,4):=by kernel_rfl
instance:FTy prog 60 (true,4):=⟨fG_⟩
theorem fH_:lH prog 62=some (true,4):=by kernel_rfl
instance:FTy prog 62 (true,4):=⟨fH_⟩
theorem fI_:lH prog 72=some (true,2):=by kernel_rfl
instance:FTy prog 72 (true,2):=⟨fI_⟩
theorem fJ_:lH prog 80=some (true,6):=by kernel_rfl
instance:FTy prog 80 (true,6):=⟨fJ_⟩
theorem fK_:lH prog 95=some (false,1):=by kernel_rfl
instance:FTy prog 95 (false,1):=⟨fK_⟩
theorem eb_:lH prog 107=some (true,9):=by kernel_rfl
instance:FTy prog 107 (true,9):=⟨eb_⟩
theorem ec_:lH prog 119=some (false,1):=by kernel_rfl
instance:FTy prog 119 (false,1):=⟨ec_⟩
theorem ed_:lH prog 124=some (true,36):=by kernel_rfl
instance:FTy prog 124 (true,36):=⟨ed_⟩
theorem ee_:lH prog 136=some (true,2):=by kernel_rfl
instance:FTy prog 136 (true,2):=⟨ee_⟩
theorem ef_:lH prog 157=some (true,9):=by kernel_rfl
instance:FTy prog 157 (true,9):=⟨ef_⟩
theorem eg_:lH prog 185=some (true,5):=by kernel_rfl
instance:FTy prog 185 (true,5):=⟨eg_⟩
theorem eh_:lH prog 215=some (true,4):=by kernel_rfl
instance:FTy prog 215 (true,4):=⟨eh_⟩
theorem ei_:lH prog 217=some (true,54):=by kernel_rfl
instance:FTy prog 217 (true,54):=⟨ei_⟩
theorem zM:prog.underlying 50=some (.slice 23):=by kernel_rfl
theorem rI:prog.underlying 54=some (.slice 33):=by kernel_rfl
theorem ET:prog.underlying 55=some (.slice 33):=by kernel_rfl
theorem VJ:prog.underlying 65=some (.slice 42):=by kernel_rfl
theorem jN:prog.underlying 95=some (.slice 3):=by kernel_rfl
theorem CJ:prog.underlying 141=some (.slice 55):=by kernel_rfl
theorem D2:prog.underlying 182=some (.slice 185):=by kernel_rfl
theorem ek_:prog.underlying 194=some (.slice 35):=by kernel_rfl
theorem z_3:n8 prog 3=some [.int .i64 0]:=by kernel_rfl
theorem RY:n8 prog 23=some (List.replicate 3 (.int .i64 0)):=by kernel_rfl
theorem sU:n8 prog 31=some (uw (List.replicate 16 0)):=by kernel_rfl
theorem mX:n8 prog 33=some zR:=by kernel_rfl
theorem gC_:n8 prog 35=some (([.bool false]++[.bool false]++(List.replicate 16 (.int .u32 0)))++([.bool false]++[.bool false]++(List.replicate 16 (.int .u32 0)))):=by kernel_rfl
theorem fT_:n8 prog 42=some ((([.bool false]++[.bool false]++(List.replicate 16 (.int .u32 0)))++([.bool false]++[.bool false]++(List.replicate 16 (.int .u32 0))))++(([.bool false]++[.bool false]++(List.replicate 16 (.int .u32 0)))++([.bool false]++[.bool false]++(List.replicate 16 (.int .u32 0))))++(([.bool false]++[.bool false]++(List.replicate 16 (.int .u32 0)))++([.bool false]++[.bool false]++(List.replicate 16 (.int .u32 0))))):=by kernel_rfl
theorem PJ:n8 prog 55=some [.slice none 0 0]:=by kernel_rfl
theorem fR_:n8 prog 179=some (uw (List.replicate 32 0)):=by kernel_rfl
theorem VM:n8 prog 185=some ((List.replicate 3 (.int .i64 0))++[.int .i64 0]++[.slice none 0 0]):=by kernel_rfl
theorem fS_:n8 prog 198=some (uw (List.replicate 17 0)):=by kernel_rfl
instance:FZp prog 23 [ci .i64 0,ci .i64 0,ci .i64 0]:=⟨by kernel_rfl⟩
instance:FZp prog 25 [ci .i64 0,ci .i64 0,ci .i64 0,ci .i64 0]:=⟨by kernel_rfl⟩
instance:FZp prog 27 [ci .i64 0,ci .i64 0,ci .i64 0,ci .i64 0,ci .i64 0,ci .i64 0,ci .i64 0]:=⟨by kernel_rfl⟩
instance:FZp prog 29 [ci .i64 0,ci .i64 0,ci .i64 0,ci .i64 0,ci .i64 0,ci .i64 0,ci .i64 0,ci .i64 0,ci .i64 0,ci .i64 0,ci .i64 0,ci .i64 0,ci .i64 0,ci .i64 0]:=⟨by kernel_rfl⟩
instance:FZp prog 33 [pI I0]:=⟨by kernel_rfl⟩
instance:FZp prog 35 [pI I0,pI I0]:=⟨by kernel_rfl⟩
instance:FZp prog 42 [pI I0,pI I0,pI I0,pI I0,pI I0,pI I0]:=⟨by kernel_rfl⟩
instance:FZp prog 52 [csl none 0 0]:=⟨by kernel_rfl⟩
instance:FZp prog 54 [csl none 0 0]:=⟨by kernel_rfl⟩
instance:FZp prog 56 [csl none 0 0,csl none 0 0,csl none 0 0]:=⟨by kernel_rfl⟩
instance:FZp prog 60 [csl none 0 0,csl none 0 0,csl none 0 0,csl none 0 0]:=⟨by kernel_rfl⟩
instance:FZp prog 62 [csl none 0 0,csl none 0 0,csl none 0 0,csl none 0 0]:=⟨by kernel_rfl⟩
instance:FZp prog 72 [csl none 0 0,ci .i64 0]:=⟨by kernel_rfl⟩
instance:FZp prog 80 [ci .i64 0,ci .i64 0,ci .i64 0,ci .i64 0,ci .i64 0,ci .i64 0]:=⟨by kernel_rfl⟩
instance:FZp prog 107 [csl none 0 0,csl none 0 0,csl none 0 0,csl none 0 0,csl none 0 0,csl none 0 0,csl none 0 0,csl none 0 0,csl none 0 0]:=⟨by kernel_rfl⟩
instance:FZp prog 124 [pI I0,pI I0]:=⟨by kernel_rfl⟩
instance:FZp prog 136 [csl none 0 0,ci .i64 0]:=⟨by kernel_rfl⟩
instance:FZp prog 157 [ci .i64 0,ci .i64 0,ci .i64 0,ci .i64 0,ci .i64 0,ci .i64 0,ci .i64 0,ci .i64 0,ci .i64 0]:=⟨by kernel_rfl⟩
instance:FZp prog 185 [ci .i64 0,ci .i64 0,ci .i64 0,ci .i64 0,csl none 0 0]:=⟨by kernel_rfl⟩
instance:FZp prog 215 [ci .i64 0,ci .i64 0,ci .i64 0,ci .i64 0]:=⟨by kernel_rfl⟩
instance:FZp prog 217 [pI I0,pI I0,pI I0]:=⟨by kernel_rfl⟩
def rg (l:List Nat) (a:Nat):Nat→List Nat
 | 0=>l
 | k+1=>(a+k)::rg l a k
theorem giI {A B:Prop} (k:B) (h:Hid B→A:=by intro hk;simp only [vO,Nat.reduceAdd];exact hk.h):A:=h ⟨k⟩
theorem gS0 {A B:Prop} (k:B) (h:Hid B→A:=by intro hk;simp only [A1,rg,Nat.reduceAdd];exact hk.h):A:=h ⟨k⟩
theorem gS1 {A B p:Prop} (e:p) (k:B) (h:p→Hid B→A:=by intro e hk;simp only [A1,rg,Nat.reduceAdd,e];exact hk.h):A:=h e ⟨k⟩
theorem gS2 {A B p q:Prop} (e:p) (f:q) (k:B) (h:p→q→Hid B→A:=by intro e f hk;simp only [A1,rg,Nat.reduceAdd,e,f];exact hk.h):A:=h e f ⟨k⟩
theorem gS3 {A B p q r:Prop} (e:p) (f:q) (g:r) (k:B) (h:p→q→r→Hid B→A:=by intro e f g hk;simp only [A1,rg,Nat.reduceAdd,e,f,g];exact hk.h):A:=h e f g ⟨k⟩
theorem wxo {n m:Int} (h:n=m:=by omega) (h1:-9223372036854775808≤m:=by omega) (h2:m≤9223372036854775807:=by omega):Value.int .i64 (IntKind.i64.wrap n)=Value.int .i64 m:=congrArg _ (wx h h1 h2)
theorem c1_ {α:Type} {e:El α} {w0:World} {X:List Nat} {M M':List Blk} {v:Value} {l:List α} {C:World→Prop} (f:∀ w,Slr w e v l→C w) (H:SLe w0 X M' e v l) (hs:M'.Sublist M):∀ w,Sat w0 X M w→C w:=fun w hw=>f w (aR hw H hs)
theorem fP {P:Prop} (h:P:=by assumption):P:=h
section
variable {w0:World} {X:List Nat} {N:Nm} {fn:Func} {R:Value→List Blk→Prop} {S:Fr} {M:List Blk} {r r1 r2:ResultVar} {v v1 v2 v':Value} {ops:List Oper} {Q:Fr→List Blk→Prop} {d:Tmp} {l:List Oper}
theorem rt1 (k:R v M) (hr:fn.results = #[r]:=by rfl) (h:EO prog N S M r v:=by rfl):qK prog fn w0 X N R .ret S M:=fg_ hr (.inr O) h k
theorem rt2 (k:R (.tuple #[v1,v2]) M) (hr:fn.results = #[r1,r2]:=by rfl) (h:EO prog N S M r1 v1:=by rfl) (h2:EO prog N S M r2 v2:=by rfl):qK prog fn w0 X N R .ret S M:=wX hr (.inr O) h h2 k
theorem rtX (hr:fn.results = #[r]) (h:EO prog N S M r v) (k:R v M):qK prog fn w0 X N R .ret S M:=fg_ hr (.inr O) h k
section
variable {g:FuncId} {xs:List Operand} {tys:Array TypeId} {args:List Value} {ty:TypeId} {ps:String} {af:Array Edge} {gd:Option (Nat×Bool)}
theorem sFc (v':Value) (ha:evL N S xs=some args) (h:∀ w,Sat w0 X M w→Calls prog g args.toArray w fun e w'=>e = .returned v∧Ext w w') (hv:v=v')
 (hd:wD N ops S (⟨some d,.call { callee:=.value (.func g),args:=xs.toArray,argTypes:=tys },ty,ps,af,gd⟩:Oper)=some d) (k:WL prog w0 X N ops Q l ((d,v')::S) M) (he:enL_.contains g=true:=by rfl) :
 WL prog w0 X N ops Q (⟨some d,.call { callee:=.value (.func g),args:=xs.toArray,argTypes:=tys },ty,ps,af,gd⟩::l) S M:=sQ (aM (dF (P:=prog) (g:=g) (aE he) ha h) hv) hd k
end
theorem sWi (m:Int) {n:Int} {o:Oper} (h:G7 N ops S o=some (d,.int .i64 (IntKind.i64.wrap n))) (k:WL prog w0 X N ops Q l ((d,.int .i64 m)::S) M) (h0:n=m:=by omega) (h1:-9223372036854775808≤m:=by omega) (h2:m≤9223372036854775807:=by omega):WL prog w0 X N ops Q (o::l) S M:=sV _ h (congrArg _ (wx h0 h1 h2)) k
end
open Go Go.Kn Go.Num
def vS0 (r:(A3 W)×(A3 W)):Value:=.tuple #[AV [cw r.1.x.1,cw r.1.y.1,cw r.1.z.1],AV [cw r.2.x.1,cw r.2.y.1,cw r.2.z.1]]
def vS1 (r:(A4 W)×Bool):Value:=.tuple #[AV [cw r.1.x.1,cw r.1.y.1,cw r.1.z.1,cw r.1.t.1],.bool r.2]
def vS2 (r:Bool):Value:=.bool r
def vS3 (r:Dir):Value:=AV [cw r.v.x.1,cw r.v.y.1,cw r.v.z.1,cw r.e.1]
def vS4 (r:I):Value:=AV [pI r]
def vS5 (r:I×I):Value:=.tuple #[AV [pI r.1],AV [pI r.2]]
def vS6 (r:Rt):Value:=AV [pI r.n,pI r.d]
def vS7 (r:W):Value:=.int .i64 r.1
end Go.Proofs.YtbjlhfochebmiaaGreatDoor
namespace Go.Num
open Go Go.Kn
structure Convex where
 v:List (A3 W)
end Go.Num
namespace Go.Kn
open Go Go.Num
section
variable {P:Program} {w0:World} {X:List Nat} {N:Nm} {S:Fr} {M M':List Blk} {d:Option Tmp} {ty:TypeId} {ps:String} {af:Array Edge} {gd:Option (Nat×Bool)}
theorem bL_ {g:FuncId} {f:Operand} {xs:List Operand} {tys:Array TypeId} {args cap:List Value} {Q K:Value→List Blk→Prop} (he:lV P g=true) (hf:evO N S f=some (.func (.func g) #[] cap.toArray)) (ha:evL N S xs=some args)
  (h:∀ w,Sat w0 X M w→Calls P g (args++cap).toArray w fun e w'=>∃ v M',e = .returned v∧Sat w0 X M' w'∧KeepsOthers w w'∧Q v M') (k:∀ v M',Q v M'→K v M') :
  OpR P w0 X N ⟨d,.call { callee:=.value f,args:=xs.toArray,argTypes:=tys },ty,ps,af,gd⟩ S M K:=by
 intro w hw;unfold opw;rw [oN,EC (first:=[]) (cap:=cap) (args:=args++cap) he (cG hf) (by simpa using xX ha)];exact (h w hw).mono fun e w' ⟨v,M',h1,h2,h4,h3⟩=>⟨v,h1,h4,M',h2,k v M' h3⟩
theorem KB {α:Type} {e:El α} {l:List α} {E:TypeId} {g:FuncId} {f:Operand} {xs:List Operand} {tys:Array TypeId} {args:List Value} {K:Value→List Blk→Prop} (R:Value→Value) (he:lV P g=true) (hf:evO N S f=some (.func (.func g) #[] #[])) (ha:evL N S xs=some args)
  (h:∀ w,Sat w0 X M w→Calls P g args.toArray w fun f w'=>∃ v,f = .returned (R v)∧Ext w w'∧Slo w.heap.size w' E e v l) (k:∀ p c L,OwnG w0 E e (.slice p l.length c) l L→K (R (.slice p l.length c)) (L++M)) :
  OpR P w0 X N ⟨d,.call { callee:=.value f,args:=xs.toArray,argTypes:=tys },ty,ps,af,gd⟩ S M K :=
 bL_ (cap:=[]) (Q:=K) he hf ha (fun w hw=>by
  rw [List.append_nil]
  exact (h w hw).mono fun _ w' ⟨v,h1,h2,h3⟩=>by
   obtain ⟨p,c,L,rfl,hs,hv⟩:=h3.now hw h2
   exact ⟨_,L++M,h1,hs,Ext.keeps h2,k p c L hv⟩) (fun _ _ h=>h)
theorem Frq.pc {x:Blk} {M1 R:List Blk} (f:Frq M [x] M1) (g:M1.Perm R):M.Perm (x::R):=f.trans (List.Perm.cons x g)
theorem Frq.pa {L M1 R:List Blk} (f:Frq M L M1) (g:M1.Perm R):M.Perm (L++R):=f.trans (List.Perm.append_left L g)
theorem yD {T:TypeId} {x y:Operand} {n s m:Nat} {k:IntKind} {i:Int} {v:Value} (hT:BH P T=some (n,s)) (hx:evO N S x=some (.pointer (some (slb v m)))) (hy:evO N S y=some (.int k i)) (h0:0≤i) (h1:i<n) :
  OpQ P w0 X N ⟨d,.indexAddr T x y,ty,ps,af,gd⟩ S M (.pointer (some (slb v (m+i.toNat*s)))) :=
 qT fun w _=>by
  obtain ⟨e,q,hd,hi,hs⟩:=xK hT
  simp [execOp,cG hx,cG hy,Instr.indexAt,asIntOf,run_underlying hd,Instr.sureAddr,sizeOf,typeInfo,hi,hs,h0,h1,F6]
end
end Go.Kn
namespace Go.Num
open Go Go.Kn
end Go.Num
namespace Go.Kn
open Go Go.Num
structure Lo (σ:Type) where
 p:Option Addr
 c:Nat
 x:σ
structure El2 (σ α:Type) where
 n:Nat
 ps:Option Addr→Nat→σ→List Part
 len:∀ p c x,uG (ps p c x)=n
 e:El α
 li:σ→List α
def El2.el {σ α:Type} (D:El2 σ α):El (Lo σ):=⟨D.n,fun h=>D.ps h.p h.c h.x,fun h=>D.len _ _ _⟩
abbrev El2.v {σ α:Type} (D:El2 σ α) (h:Lo σ):Value:=.slice h.p (D.li h.x).length h.c
section
variable {σ α:Type} {D:El2 σ α} {P:Program} {w0:World} {X:List Nat} {N:Nm} {S:Fr} {M M':List Blk} {d:Option Tmp} {ty:TypeId} {ps:String} {af:Array Edge} {gd:Option (Nat×Bool)} {v:Value} {l:List σ} {L LL:List Blk} {E:TypeId} {B:Nat}
def Slr2 (w:World) (D:El2 σ α) (v:Value) (l:List σ):Prop:=∃ H:List (Lo σ),H.map Lo.x=l∧Slr w D.el v H∧∀ h∈H,Slr w D.e (D.v h) (D.li h.x)
def SLe2 (w0:World) (X:List Nat) (M:List Blk) (D:El2 σ α) (v:Value) (l:List σ):Prop:=∃ H:List (Lo σ),H.map Lo.x=l∧SLe w0 X M D.el v H∧∀ h∈H,SLe w0 X M D.e (D.v h) (D.li h.x)
def Slf2 (B:Nat) (w:World) (D:El2 σ α) (v:Value) (l:List σ):Prop:=∃ H:List (Lo σ),H.map Lo.x=l∧Slfe B w D.el v H∧∀ h∈H,Slfe B w D.e (D.v h) (D.li h.x)
def SLf2 (w0:World) (M:List Blk) (D:El2 σ α) (v:Value) (l:List σ):Prop:=∃ H:List (Lo σ),H.map Lo.x=l∧SLfe w0 M D.el v H∧∀ h∈H,SLfe w0 M D.e (D.v h) (D.li h.x)
def Own2 (w0:World) (E:TypeId) (D:El2 σ α) (v:Value) (l:List σ) (L LL:List Blk):Prop:=∃ H:List (Lo σ),H.map Lo.x=l∧OwnG w0 E D.el v H L∧∀ h∈H,SLfe w0 LL D.e (D.v h) (D.li h.x)
theorem xO {H:List (Lo σ)} (h:H.map Lo.x=l):H.length=l.length:=by rw [← h,List.length_map]
theorem OF {H:List (Lo σ)} {k:Nat} {x:σ} (h:H.map Lo.x=l) (hx:l[k]? = some x):∃ p c,H[k]? = some ⟨p,c,x⟩:=by
 rw [← h,List.getElem?_map] at hx
 cases hk:H[k]? with
 | none=>rw [hk] at hx;cases hx
 | some y =>
  rw [hk] at hx;obtain ⟨p,c,z⟩:=y
  cases hx
  exact ⟨p,c,rfl⟩
theorem Slr2.old (h:Slr2 w0 D v l):SLe2 w0 [] [] D v l:=by
 obtain ⟨H,h1,h2,h3⟩:=h;exact ⟨H,h1,h2.old,fun x hx=>(h3 x hx).old⟩
theorem Slr2.form {w:World} (h:Slr2 w D v l):∃ p c,v = .slice p l.length c:=by
 obtain ⟨H,h1,h2,_⟩:=h;obtain ⟨p,c,rfl⟩:=h2.form;exact ⟨p,c,by rw [xO h1]⟩
theorem Slr2.max {w:World} (h:Slr2 w D v l):l.length≤9223372036854775807:=by
 obtain ⟨H,h1,h2,_⟩:=h;rw [← xO h1];exact h2.max
theorem SLe2.sub (h:SLe2 w0 X M D v l) (hs:M.Sublist M'):SLe2 w0 X M' D v l:=by
 obtain ⟨H,h1,h2,h3⟩:=h;exact ⟨H,h1,h2.sub hs,fun x hx=>(h3 x hx).sub hs⟩
theorem SLf2.sub (h:SLf2 w0 M D v l) (hs:M.Sublist M'):SLf2 w0 M' D v l:=by
 obtain ⟨H,h1,h2,h3⟩:=h;exact ⟨H,h1,h2.sub hs,fun x hx=>(h3 x hx).sub hs⟩
theorem SLf2.sle (h:SLf2 w0 M D v l):SLe2 w0 X M D v l:=by
 obtain ⟨H,h1,h2,h3⟩:=h;exact ⟨H,h1,h2.sle,fun x hx=>(h3 x hx).sle⟩
theorem SLf2.max (h:SLf2 w0 M D v l):l.length≤9223372036854775807:=by
 obtain ⟨H,h1,h2,h3⟩:=h;rw [← xO h1];exact h2.max
theorem SLf2.nil:SLf2 w0 M D (.slice none 0 0) []:=⟨[],rfl,SLfe.nil,fun _ h=>by cases h⟩
theorem SLe2.nil:SLe2 w0 X M D (.slice none 0 0) []:=SLf2.nil.sle
theorem SLe2.ap {w:World} (hw:Sat w0 X M w) (h:SLe2 w0 X M D v l):Slr2 w D v l:=by
 obtain ⟨H,h1,h2,h3⟩:=h;exact ⟨H,h1,h2 w hw,fun x hx=>h3 x hx w hw⟩
theorem Own2.form (h:Own2 w0 E D v l L LL):∃ p c,v = .slice p l.length c:=by
 obtain ⟨H,h1,h2,_⟩:=h;obtain ⟨p,c,rfl⟩:=h2.form;have:=h2.len;exact ⟨p,c,by rw [this,xO h1]⟩
theorem Own2.max (h:Own2 w0 E D v l L LL):l.length≤9223372036854775807:=by
 obtain ⟨H,h1,h2,_⟩:=h;rw [← xO h1];exact h2.max
theorem Own2.slf (h:Own2 w0 E D v l L LL) (h1:L.Sublist M) (h2:LL.Sublist M):SLf2 w0 M D v l:=by
 obtain ⟨H,a,b,c⟩:=h;exact ⟨H,a,b.slfe h1,fun x hx=>(c x hx).sub h2⟩
theorem Own2.sle (h:Own2 w0 E D v l L LL) (h1:L.Sublist M) (h2:LL.Sublist M):SLe2 w0 X M D v l:=(h.slf h1 h2).sle
theorem SLe2.at {k:Nat} {x:σ} (h:SLe2 w0 X M D v l) (hx:l[k]? = some x):∃ p c H,SLe w0 X M D.el v H∧H[k]? = some ⟨p,c,x⟩∧SLe w0 X M D.e (.slice p (D.li x).length c) (D.li x):=by
 obtain ⟨H,h1,h2,h3⟩:=h;obtain ⟨p,c,hk⟩:=OF h1 hx;exact ⟨p,c,H,h2,hk,h3 _ (List.mem_of_getElem? hk)⟩
theorem SLf2.at {k:Nat} {x:σ} (h:SLf2 w0 M D v l) (hx:l[k]? = some x):∃ p c H,SLfe w0 M D.el v H∧H[k]? = some ⟨p,c,x⟩∧SLfe w0 M D.e (.slice p (D.li x).length c) (D.li x):=by
 obtain ⟨H,h1,h2,h3⟩:=h;obtain ⟨p,c,hk⟩:=OF h1 hx;exact ⟨p,c,H,h2,hk,h3 _ (List.mem_of_getElem? hk)⟩
theorem Own2.at {k:Nat} {x:σ} (h:Own2 w0 E D v l L LL) (hx:l[k]? = some x):∃ p c H,OwnG w0 E D.el v H L∧H[k]? = some ⟨p,c,x⟩∧SLfe w0 LL D.e (.slice p (D.li x).length c) (D.li x):=by
 obtain ⟨H,h1,h2,h3⟩:=h;obtain ⟨p,c,hk⟩:=OF h1 hx;exact ⟨p,c,H,h2,hk,h3 _ (List.mem_of_getElem? hk)⟩
theorem S9 {T:TypeId} {x:Operand} {s:Nat} (hT:nU P T=some s) (hx:evO N S x=some v) (hv:SLe2 w0 X M D v l):OpQ P w0 X N ⟨d,.call { callee:=.builtin .len,args:=#[x],argTypes:=#[T] },ty,ps,af,gd⟩ S M (.int .i64 (l.length:Nat)):=by
 obtain ⟨H,h1,h2,_⟩:=hv;rw [← xO h1];exact dV hT hx h2
theorem ZX {T:TypeId} {x y:Operand} {k:Nat} {i:IntKind} {t:Int} (hT:nU P T=some D.n) (hx:evO N S x=some v) (hy:evO N S y=some (.int i t)) (ht:t=(k:Int)) (hv:SLe2 w0 X M D v l) (hk:k<l.length) :
  OpQ P w0 X N ⟨d,.indexAddr T x y,ty,ps,af,gd⟩ S M (.pointer (some (slb v (k*D.n)))):=by
 obtain ⟨H,h1,h2,_⟩:=hv;subst ht;exact eD (e:=D.el) hT hx hy h2 (by rw [xO h1];exact hk)
theorem Own2.one {b c:Nat} {a:Option Addr} {x:σ} {qs:List Part} (hb:w0.heap.size≤b) (hq:qs=D.ps a c x) (hx:SLfe w0 LL D.e (.slice a (D.li x).length c) (D.li x)):Own2 w0 E D (.slice (some ⟨b,0,none⟩) 1 1) [x] [⟨b,E,bB qs⟩] LL :=
 ⟨[⟨a,c,x⟩],rfl,OwnG.lit (e:=D.el) hb O dd_ (by rw [hq];simp [El2.el]),fun h hh=>by
  obtain rfl:=List.mem_singleton.1 hh
  exact hx⟩
theorem JT (w:World) (B:Nat):∀ n:Nat,∃ L:List Blk,(L.map Blk.b).Nodup∧(∀ x∈L,(B≤x.b∧x.b<B+n)∧w.heap[x.b]? = some (.cells x.cs.toArray x.T (0,0)))∧∀ b T (cs:List Value),B≤b→b<B+n→w.heap[b]? = some (.cells cs.toArray T (0,0))→(⟨b,T,cs⟩:Blk)∈L
 | 0=>⟨[],List.nodup_nil,fun x hx=>(by cases hx),fun b T cs h1 h2 _=>oo_⟩
 | n+1=>by
  obtain ⟨L,h1,h2,h3⟩:=JT w B n
  by_cases h:∃ (T:TypeId) (cs:List Value),w.heap[B+n]? = some (.cells cs.toArray T (0,0))
  ·obtain ⟨T,cs,h⟩:=h
   refine ⟨⟨B+n,T,cs⟩::L,?_,fun x hx=>?_,fun b T' cs' b1 b2 hb=>?_⟩
   ·rw [List.map_cons,List.nodup_cons]
    refine ⟨fun hm=>?_,h1⟩;obtain ⟨y,hy,e⟩:=List.mem_map.1 hm;have h4:=(h2 y hy).1;have e':y.b=B+n:=e;omega
   ·rcases List.mem_cons.1 hx with rfl|hx
    ·exact ⟨⟨Nat.le_add_right _ _,by show B+n<B+(n+1);omega⟩,h⟩
    exact ⟨⟨(h2 x hx).1.1,by have:=(h2 x hx).1.2;omega⟩,(h2 x hx).2⟩
   by_cases hn:b=B+n
   ·subst hn
    rw [h] at hb
    injection hb with hb
    injection hb with e1 e2
    subst e2
    obtain rfl:cs=cs':=by simpa using e1
    exact List.mem_cons_self
   exact List.mem_cons_of_mem _ (h3 b T' cs' b1 oo_ hb)
  refine ⟨L,h1,fun x hx=>⟨⟨(h2 x hx).1.1,by have:=(h2 x hx).1.2;omega⟩,(h2 x hx).2⟩,fun b T' cs' b1 b2 hb=>?_⟩
  by_cases hn:b=B+n
  ·subst hn;exact absurd ⟨T',cs',hb⟩ h
  exact h3 b T' cs' b1 oo_ hb
theorem Slfe.all {α:Type} {e:El α} {v:Value} {l:List α} {w:World} {L:List Blk} (h:Slfe B w e v l) (hB:w0.heap.size≤B) (hL:∀ b T (cs:List Value),B≤b→b<w.heap.size→w.heap[b]? = some (.cells cs.toArray T (0,0))→(⟨b,T,cs⟩:Blk)∈L):SLfe w0 L e v l:=by
 obtain ⟨p,c,hv,hc,hm,h⟩:=h;refine ⟨p,c,hv,hc,hm,?_⟩;rcases h with h|⟨b,off,T,cs,hp,hb,hh,ht⟩
 ·exact .inl h
 exact .inr ⟨b,off,T,cs,hp,Nat.le_trans hB hb,hL b T cs hb (eM? hh) hh,ht⟩
theorem Slf2.now {w w':World} (h:Slf2 w.heap.size w' D v l) (hw:Sat w0 X M w) (he:Ext w w'):∃ p c L,v = .slice p l.length c∧Sat w0 X (L++M) w'∧SLf2 w0 L D (.slice p l.length c) l:=by
 have hw':=Sat.mono _ _ _ _ _ hw he;obtain ⟨H,h1,h2,h3⟩:=h;obtain ⟨L,n1,n2,n3⟩:=JT w' w.heap.size (w'.heap.size - w.heap.size);have hL:∀ b T (cs:List Value),w.heap.size≤b→b<w'.heap.size→w'.heap[b]? = some (.cells cs.toArray T (0,0))→(⟨b,T,cs⟩:Blk)∈L:=fun b T cs b1 b2=>n3 b T cs b1 oo_;have g:=h2.all hw.size hL;obtain ⟨p,c,rfl,hc⟩:=id g;have el:=xO h1;refine ⟨p,c,L,by rw [el],⟨hw'.os,hw'.tape,hw'.output,hw'.size,hw'.old,?_,fun y hy=>?_⟩,H,h1,by rw [← el];exact g,fun x hx=>(h3 x hx).all hw.size hL⟩
 ·rw [List.map_append]
  refine List.nodup_append.2 ⟨n1,hw'.nodup,fun a ha b hb e=>?_⟩;subst e;obtain ⟨x,hx,e1⟩:=List.mem_map.1 ha;obtain ⟨y,hy,e2⟩:=List.mem_map.1 hb;have g1:=(n2 x hx).1.1;have g2:=eM? (hw.mem y hy);omega
 rcases List.mem_append.1 hy with hy|hy
 ·exact (n2 y hy).2
 exact hw'.mem y hy
theorem SLf2.slf {w:World} (h:SLf2 w0 M D v l) (hw:Sat w0 X M w):Slf2 w0.heap.size w D v l:=by
 obtain ⟨H,h1,h2,h3⟩:=h;exact ⟨H,h1,h2.slfe hw,fun x hx=>(h3 x hx).slfe hw⟩
theorem PY {n:Nat} {f:FuncId} {fn:Func} {c:Code} {args:List Value} {w:World} (R:Value→Value) (hf:P.funcs[f]? = some fn) (hb:fn.body=some c) (hn:fn.ntmps=n) (hl:args.length≤n)
  (h:W P w [] (pl n) c (qK P fn w [] (pl n) fun r M=>∃ v,r=R v∧SLf2 w M D v l) (vO 0 args) []):Calls P f args.toArray w fun f w'=>∃ v,f = .returned (R v)∧Ext w w'∧Slf2 w.heap.size w' D v l :=
 (rK hf hb hn hl (Sat.start w []) h).mono fun f w' ⟨r,M',he,hs,_,v,hr,hu⟩=>⟨v,by rw [he,hr],hs.ext,hu.slf hs⟩
theorem bK_ {g:FuncId} {xs:List Operand} {tys:Array TypeId} {args:List Value} {K:Value→List Blk→Prop} (R:Value→Value) (he:lV P g=true) (ha:evL N S xs=some args)
  (h:∀ w,Sat w0 X M w→Calls P g args.toArray w fun f w'=>∃ v,f = .returned (R v)∧Ext w w'∧Slf2 w.heap.size w' D v l) (k:∀ p c L,SLf2 w0 L D (.slice p l.length c) l→K (R (.slice p l.length c)) (L++M)):OpR P w0 X N ⟨d,.call { callee:=.value (.func g),args:=xs.toArray,argTypes:=tys },ty,ps,af,gd⟩ S M K :=
 BZ he ha fun w hw=>(h w hw).mono fun _ w' ⟨v,h1,h2,h3⟩=>by
  obtain ⟨p,c,L,rfl,hs,hv⟩:=h3.now hw h2;exact ⟨_,L++M,h1,hs,Ext.keeps h2,k p c L hv⟩
theorem Frq.po {L M1 A Z:List Blk} (f:Frq M L M1) (g:M1.Perm (A++Z)):M.Perm ((L++A)++Z):=by rw [List.append_assoc];exact f.pa g
theorem Frq.pz {L Z:List Blk} (f:Frq M L Z):M.Perm ((L++[])++Z):=by rw [List.append_nil];exact f
end
end Go.Kn
