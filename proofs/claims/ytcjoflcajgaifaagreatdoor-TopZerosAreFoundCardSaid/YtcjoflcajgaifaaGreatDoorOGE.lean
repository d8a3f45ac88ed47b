/- Lemmas: what they ask stands in their statements. -/
import Derived.ArgAppend
import Derived.Test.YtcjoflcajgaifaaGreatDoorOGD
import Derived.Test.YtcjoflcajgaifaaGreatDoorProg
set_option linter.unusedSimpArgs false
set_option linter.unusedVariables false
set_option maxRecDepth 20000
namespace Go.Kn
open Go
def Frq (M L R:List Blk):Prop:=M.Perm (L++R)
theorem lM {x:Blk} {R:List Blk}:Frq (x::R) [x] R:=List.Perm.refl _
theorem lT {L R:List Blk}:Frq (L++R) L R:=List.Perm.refl _
theorem eA {x:Blk} {R L R':List Blk} (h:Frq R L R'):Frq (x::R) L (x::R'):=(List.Perm.cons x h).trans List.perm_middle.symm
theorem FN {L2 R L R':List Blk} (h:Frq R L R'):Frq (L2++R) L (L2++R'):=by
 have h1:(L2++R).Perm (L2++(L++R')):=List.Perm.append_left L2 h
 have h2:(L2++(L++R')).Perm (L++(L2++R')):=by
  rw [← List.append_assoc,← List.append_assoc];exact List.Perm.append_right R' List.perm_append_comm
 exact h1.trans h2
theorem Sat.perm {w0 w:World} {X:List Nat} {M M':List Blk} (h:Sat w0 X M w) (p:M.Perm M'):Sat w0 X M' w :=
 ⟨h.os,h.tape,h.output,h.size,h.old,(p.map Blk.b).nodup_iff.1 h.nodup,fun x hx=>h.mem x (p.mem_iff.2 hx)⟩
theorem OwnG.lit {α:Type} {e:El α} {w0:World} {l:List α} {E:TypeId} {b n:Nat} {qs:List Part} (hb:w0.heap.size≤b) (hn:l.length=n) (hm:n≤maxLen) (hq:qs=l.flatMap e.ps):OwnG w0 E e (.slice (some ⟨b,0,none⟩) n n) l [⟨b,E,aV qs⟩] :=
 OwnG.of_mine hb hn hm (by rw [hq];exact BL l)
theorem VM {α:Type} {e:El α} {P:Program} {w0:World} {X:List Nat} {N:Nm} {S:Fr} {M:List Blk} {d:Option Tmp} {ty:TypeId} {ps:String} {af:Array Edge} {gd:Option (Nat×Bool)} {v:Value} {l:List α}
  {T E:TypeId} {x y:Operand} {u:Value} {m:List α} {L M1:List Blk} {K:Value→List Blk→Prop} (bytes:Nat) (hT:P.underlying T=some (.slice E)) (hE:R3 P E e.n bytes=true) (h0:0<e.n) (hx:evO N S x=some v) (hy:evO N S y=some u)
  (hv:OwnG w0 E e v l L) (hu:SLe w0 X M e u m) (hs:Frq M L M1) (hn:(l.length+m.length)*bytes≤140737488355328) (h8:0<bytes) (k:∀ v' L',OwnG w0 E e v' (l++m) L'→K v' (L'++M1)) :
  OpR P w0 X N ⟨d,.call { callee:=.builtin .append,args:=#[x,y],argTypes:=#[T,T] },ty,ps,af,gd⟩ S M K:=fun w hw =>
 VL (M:=L++M1) hT hE h0 hx hy hv (fun w hw=>hu w (hw.perm (List.Perm.symm hs))) (List.Sublist.refl _) hn h8 k w (hw.perm hs)
section
variable {α:Type} {e:El α} {P:Program} {w0:World} {X:List Nat} {N:Nm} {S:Fr} {M M':List Blk} {d:Option Tmp} {ty:TypeId} {ps:String} {af:Array Edge} {gd:Option (Nat×Bool)} {v:Value} {l:List α}
theorem OpR.perm {o:Oper} {K:Value→List Blk→Prop} (p:M.Perm M') (h:OpR P w0 X N o S M' K):OpR P w0 X N o S M K:=fun w hw=>h w (hw.perm p)
theorem N5 {M:List Blk}:Frq M [] M:=List.Perm.refl _
theorem OwnG.form {E:TypeId} {L:List Blk} (h:OwnG w0 E e v l L):∃ p c,v = .slice p l.length c:=by
 rcases h with ⟨rfl,rfl,rfl⟩|⟨g,cap,cur,rfl,_⟩
 ·exact ⟨none,0,rfl⟩
 exact ⟨_,_,rfl⟩
theorem SLfe.max (h:SLfe w0 M e v l):l.length≤9223372036854775807:=by
 obtain ⟨p,c,hv,hc,hm,_⟩:=h;unfold maxLen at hm;omega
theorem SLfe.lit {b n:Nat} {T:TypeId} {qs:List Part} (hB:w0.heap.size≤b) (h:(⟨b,T,aV qs⟩:Blk)∈M) (hn:l.length=n) (hm:n≤maxLen) (hq:qs=l.flatMap e.ps):SLfe w0 M e (.slice (some ⟨b,0,none⟩) n n) l :=
 SLfe.mine hB h hn (Nat.le_refl _) hm (by rw [← hn,List.take_of_length_le,hq,BL];rw [hq,BL,jR];exact Nat.le_refl _)
theorem dJ {T E:TypeId} {x y:Operand} {u:Value} {m:List α} {L M1:List Blk} {K:Value→List Blk→Prop} (bytes:Nat) (hT:P.underlying T=some (.slice E)) (hE:R3 P E e.n bytes=true) (h0:0<e.n) (hx:evO N S x=some v) (hy:evO N S y=some u)
  (hv:OwnG w0 E e v l L) (hu:SLe w0 X M e u m) (hs:Frq M L M1) (hn:(l.length+m.length)*bytes≤140737488355328) (h8:0<bytes) (k:∀ p c L',OwnG w0 E e (.slice p (l++m).length c) (l++m) L'→K (.slice p (l++m).length c) (L'++M1)) :
  OpR P w0 X N ⟨d,.call { callee:=.builtin .append,args:=#[x,y],argTypes:=#[T,T] },ty,ps,af,gd⟩ S M K :=
 VM bytes hT hE h0 hx hy hv hu hs hn h8 fun v' L' h=>by
  obtain ⟨p,c,rfl⟩:=h.form;exact k p c L' h
theorem af_ {k:Nat} {z:α} (hk:k<l.length):(rows e l).take (k*e.n)++e.cs z++(rows e l).drop (k*e.n+e.n)=rows e (l.set k z):=by
 rw [y4,show k*e.n+e.n=(k+1)*e.n by rw [Nat.succ_mul],JB,List.set_eq_take_append_cons_drop,if_pos hk,rC]
 simp [rows]
theorem aa_ {T E:TypeId} {x y:Operand} {g:Bool} {k m:Nat} {z:α} {u:Value} {L M1:List Blk} {K:Value→List Blk→Prop} (hT:gY P T=some (g,e.n)) (hx:evO N S x=some (.pointer (some (slb v m)))) (hm:m=k*e.n) (hv:OwnG w0 E e v l L) (hk:k<l.length)
  (hs:Frq M L M1) (hy0:evO N S y=some u) (hy:u.cells=(aV (e.ps z)).toArray) (kk:∀ L',OwnG w0 E e v (l.set k z) L'→K undef (L'++M1)):OpR P w0 X N ⟨d,.store T x y,ty,ps,af,gd⟩ S M K:=by
 subst hm;rcases hv with ⟨rfl,rfl,rfl⟩|⟨g',cap,cur,rfl,rfl,hg,hc,hmx,hl,ht⟩
 ·simp at hk
 have hx':evO N S x=some (.pointer (some ⟨g',k*e.n,none⟩)):=by rw [hx];simp [slb,l8]
 have e1:l.length*e.n≤cap*e.n:=Nat.mul_le_mul_right _ hc;have e2:(k+1)*e.n≤l.length*e.n:=Nat.mul_le_mul_right _ oo_;rw [Nat.succ_mul] at e2;have hcs:(e.cs z).length=e.n:=El.cs_len z
 have hcur:cur=rows e l++cur.drop (l.length*e.n):=by rw [← ht,List.take_append_drop]
 have hlr:=jR (e:=e) l;refine OpR.perm hs (ET (U:=E) (cs:=cur) (vs:=e.cs z) (M':=⟨g',E,cur.take (k*e.n)++e.cs z++cur.drop (k*e.n+e.n)⟩::M1) hT hx' (.head _) hy0 hy hcs (fun v h=>El.cs_plain z v h) oo_ O (.inl hg) ?_);refine kk [⟨g',E,cur.take (k*e.n)++e.cs z++cur.drop (k*e.n+e.n)⟩] (.inr ⟨g',cap,_,by rw [List.length_set],rfl,hg,by rw [List.length_set];exact hc,hmx,?_,?_⟩)
 ·rw [List.length_append,List.length_append,List.length_take,List.length_drop,hcs,hl,Nat.min_eq_left oo_];omega
 rw [List.length_set,← af_ hk]
 have t1:cur.take (k*e.n)=(rows e l).take (k*e.n):=by rw [← ht,List.take_take,Nat.min_eq_left oo_]
 have t2:(cur.drop (k*e.n+e.n)).take (l.length*e.n - (k*e.n+e.n))=(rows e l).drop (k*e.n+e.n):=by rw [← ht,List.drop_take]
 rw [t1]
 have n1:((rows e l).take (k*e.n)++e.cs z).length=k*e.n+e.n:=by rw [List.length_append,List.length_take,hcs,hlr,Nat.min_eq_left oo_]
 rw [List.take_append,n1,t2,List.take_of_length_le (by rw [n1];omega)]
end
end Go.Kn
namespace Go.Num
open Go Go.Kn
def Z.half (z:Z):Z:=DE (fun v=>Z.of (v / 2)) z
theorem cS_ {a b:Int} (h:(a != b)=false):a=b:=by simpa using h
theorem fz_ {a b:Int} (h:(a != b)=true):a≠b:=by simpa using h
theorem trs {α:Type} {a b c:α} (h2:b=c) (h1:a=b):a=c:=h1.trans h2
theorem apS {σ β:Type} {f:σ→β} {x s:σ} (h:x=s):ap f x=f s:=by rw [h];rfl
theorem smS {σ ρ β:Type} {f:σ→β} {g:ρ→β} {x:σ ⊕ ρ} {s:σ} (h:x = .inl s):sm f g x=f s:=by rw [h];rfl
structure Edg where
 l:List (A3 Rt)
 e:W
structure Pts where
 l:List Rt
 is:Bool
end Go.Num
namespace Go.Kn
open Go Go.Num
def FnV {α:Type} (P:Program) (w:World) (v:Value) (enc:α→List Value) (dom:α→Prop) (out:α→Value):Prop :=
 ∃ g cap,v = .func (.func g) #[] cap.toArray∧iJ P g=true∧∀ w',Ext w w'→∀ x,dom x→Calls P g (enc x++cap).toArray w' fun e w''=>e = .returned (out x)∧Ext w' w''
def FnE {α:Type} (P:Program) (w0:World) (X:List Nat) (M:List Blk) (g:Nat) (cap:List Value) (enc:α→List Value) (dom:α→Prop) (out:α→Value):Prop :=
 iJ P g=true∧∀ w,Sat w0 X M w→∀ x,dom x→Calls P g (enc x++cap).toArray w fun e w''=>e = .returned (out x)∧Ext w w''
section
variable {α:Type} {P:Program} {w0:World} {X:List Nat} {N:Nm} {S:Fr} {M M':List Blk} {d:Option Tmp} {ty:TypeId} {ps:String} {af:Array Edge} {gd:Option (Nat×Bool)} {enc:α→List Value} {dom:α→Prop} {out:α→Value} {g:Nat} {cap:List Value}
theorem FnV.open {w:World} {v:Value} (h:FnV P w v enc dom out):∃ g cap,v = .func (.func g) #[] cap.toArray∧FnE P w [] [] g cap enc dom out:=by
 obtain ⟨g,cap,hv,he,hc⟩:=h;exact ⟨g,cap,hv,he,fun w' hw' x hx=>hc w' hw'.ext x hx⟩
theorem FnV.mk {w:World} (hw:Sat w0 X M w) (he:iJ P g=true) (h:∀ w,Sat w0 X M w→∀ x,dom x→Calls P g (enc x++cap).toArray w fun e w''=>e = .returned (out x)∧Ext w w''):FnV P w (.func (.func g) #[] cap.toArray) enc dom out :=
 ⟨g,cap,rfl,he,fun w' hx x hd=>h w' (Sat.mono _ _ _ _ _ hw hx) x hd⟩
theorem FnE.sub (h:FnE P w0 X M g cap enc dom out) (hs:M.Sublist M'):FnE P w0 X M' g cap enc dom out:=⟨h.1,fun w hw=>h.2 w (hw.sub hs)⟩
theorem FnE.ap {w:World} (hw:Sat w0 X M w) (h:FnE P w0 X M g cap enc dom out):FnV P w (.func (.func g) #[] cap.toArray) enc dom out:=FnV.mk hw h.1 h.2
theorem FnV.get {w:World} (h:FnV P w (.func (.func g) #[] cap.toArray) enc dom out):FnE P w [] [] g cap enc dom out:=by
 obtain ⟨g',cap',hv,he⟩:=h.open
 have e1:g=g'∧cap=cap':=by simpa using hv
 obtain ⟨rfl,rfl⟩:=e1;exact he
theorem RP {f:Operand} {xs:List Operand} {tys:Array TypeId} (x:α) (hf:evO N S f=some (.func (.func g) #[] cap.toArray)) (ha:evL N S xs=some (enc x)) (h:FnE P w0 X M g cap enc dom out) (hx:dom x) :
  OpQ P w0 X N ⟨d,.call { callee:=.value f,args:=xs.toArray,argTypes:=tys },ty,ps,af,gd⟩ S M (out x) :=
 bW_ (first:=[]) (cap:=cap) (args:=enc x) h.1 hf ha fun w hw=>by simpa using h.2 w hw x hx
end
abbrev eN (k:Nat):List Value:=[.int .i64 (k:Int)]
abbrev eW (k:Num.W):List Value:=[.int .i64 k.1]
abbrev eI (x:I):List Value:=[AV [pI x]]
abbrev eII (x:I×I):List Value:=[AV [pI x.1],AV [pI x.2]]
abbrev eRt (x:Rt):List Value:=[AV [pI x.n,pI x.d]]
abbrev ZS {α:Type} (f:α→I) (x:α):Value:=AV [pI (f x)]
abbrev gQ_ {α:Type} (f:α→Num.W) (x:α):Value:=.int .i64 (f x).1
abbrev bV_ {α:Type} (f:α→Bool) (x:α):Value:=.bool (f x)
theorem cvE {t:Int} (h:-9223372036854775808≤t∧t≤9223372036854775807):(W.cv t).1=t:=by
 show IntKind.i64.wrap t=t
 exact wi h
section
variable {α:Type} {e:El α} {P:Program} {w0:World} {X:List Nat} {N:Nm} {S:Fr} {M M':List Blk} {d:Option Tmp} {ty:TypeId} {ps:String} {af:Array Edge} {gd:Option (Nat×Bool)} {v:Value} {l:List α}
theorem Slr.form {w:World} (h:Slr w e v l):∃ p c,v = .slice p l.length c:=by
 obtain ⟨p,c,hv,_⟩:=h;exact ⟨p,c,hv⟩
theorem l6 {T:TypeId} {x y:Operand} {k:Nat} {i:IntKind} {t:Int} (hT:iK P T=some e.n) (hx:evO N S x=some v) (hy:evO N S y=some (.int i t)) (ht:t=(k:Int)) (hv:SLe w0 X M e v l) (hk:k<l.length) :
  OpQ P w0 X N ⟨d,.indexAddr T x y,ty,ps,af,gd⟩ S M (.pointer (some (slb v (k*e.n)))):=by
 subst ht;exact aJ hT hx hy hv hk
theorem OwnG.take {E:TypeId} {p:Option Addr} {n c:Nat} {L:List Blk} (h:OwnG w0 E e (.slice p n c) l L) {k:Nat} (hk:k≤l.length):OwnG w0 E e (.slice p (l.take k).length c) (l.take k) L:=by
 have hl:(l.take k).length=k:=by rw [List.length_take,Nat.min_eq_left hk]
 rcases h with ⟨h,rfl,rfl⟩|⟨g,cap,cur,h,rfl,hg,hc,hm,hn,ht⟩
 ·cases h
  obtain rfl:k=0:=by simpa using hk
  exact .inl ⟨rfl,rfl,rfl⟩
 ·cases h
  refine .inr ⟨g,c,cur,rfl,rfl,hg,by omega,hm,hn,?_⟩;rw [hl,← y4,← ht,List.take_take,Nat.min_eq_left (Nat.mul_le_mul_right _ hk)]
theorem TO {T E:TypeId} {x y:Operand} {k n c:Nat} {i:IntKind} {t:Int} {p:Option Addr} {L:List Blk} (hT:iK P T=some e.n) (hx:evO N S x=some (.slice p n c)) (hy:evO N S y=some (.int i t)) (ht:t=(k:Int)) (hv:OwnG w0 E e (.slice p n c) l L) (hk:k≤l.length) :
  OpQ P w0 X N ⟨d,.slice T x none (some y) none,ty,ps,af,gd⟩ S M (.slice p (l.take k).length c):=by
 subst ht
 have hl:(l.take k).length=k:=by rw [List.length_take,Nat.min_eq_left hk]
 rw [hl]
 have hn:n=l.length∧l.length≤c:=by
  rcases hv with ⟨h,rfl,rfl⟩|⟨g,cap,cur,h,rfl,hg,hc,hm,hn,ht⟩
  ·cases h;exact ⟨rfl,Nat.le_refl _⟩
  ·cases h;exact ⟨rfl,hc⟩
 refine kU (w0:=w0) (X:=X) (M:=M) (fun w hw=>?_);obtain ⟨e',q,hu,hi',hs⟩:=nT hT;have hb:=vF (P:=P) (N:=N) (S:=S) (w:=w) (isSl:=true) (len:=n) (cap:=c) (lo:=none) (hi:=some y) (l:=0) (h:=(k:Int)) O (by simp [tK,hy]) oo_ oo_ oo_;simp only [Option.map_none,Option.map_some] at hb;simp only [execOp,Instr.sliceAt,Instr.slice,Sem.run_bind,run_underlying hu,aZ hx,Result.andThen_ok];simp only [Option.map_none,Option.map_some,hb,Result.andThen_ok,sizeOf,typeInfo,Sem.run_bind,run_program,hi',hs,Sem.run_pure]
 cases p<;>simp [Addr.add]
def Rpl (M L:List Blk) (f:List Blk→List Blk):Prop:=∃ R,Frq M L R∧∀ L',(L'++R).Perm (f L')
theorem vS {L R:List Blk}:Rpl (L++R) L (fun L'=>L'++R):=⟨R,lT,fun _=>List.Perm.refl _⟩
theorem xY {x:Blk} {R L:List Blk} {f:List Blk→List Blk} (h:Rpl R L f):Rpl (x::R) L (fun L'=>x::f L'):=by
 obtain ⟨R',h1,h2⟩:=h;exact ⟨x::R',eA h1,fun L'=>List.perm_middle.trans (List.Perm.cons x (h2 L'))⟩
theorem rS {K R L:List Blk} {f:List Blk→List Blk} (h:Rpl R L f):Rpl (K++R) L (fun L'=>K++f L'):=by
 obtain ⟨R',h1,h2⟩:=h;refine ⟨K++R',FN h1,fun L'=>?_⟩
 have h3:(L'++(K++R')).Perm (K++(L'++R')):=by
  rw [← List.append_assoc,← List.append_assoc];exact List.Perm.append_right R' List.perm_append_comm
 exact h3.trans (List.Perm.append_left K (h2 L'))
theorem jC {T E:TypeId} {x y:Operand} {g:Bool} {k m:Nat} {z:α} {u:Value} {L:List Blk} {f:List Blk→List Blk} {K:Value→List Blk→Prop} (hT:gY P T=some (g,e.n)) (hx:evO N S x=some (.pointer (some (slb v m)))) (hm:m=k*e.n) (hv:OwnG w0 E e v l L) (hk:k<l.length)
  (hs:Rpl M L f) (hy0:evO N S y=some u) (hy:u.cells=(aV (e.ps z)).toArray) (kk:∀ L',OwnG w0 E e v (l.set k z) L'→K undef (f L')):OpR P w0 X N ⟨d,.store T x y,ty,ps,af,gd⟩ S M K:=by
 obtain ⟨R,h1,h2⟩:=hs;intro w hw;have h:=aa_ (w0:=w0) (X:=X) (M:=M) (d:=d) (ty:=ty) (ps:=ps) (af:=af) (gd:=gd) (K:=fun u M'=>∃ M2,M'.Perm M2∧K u M2) hT hx hm hv hk h1 hy0 hy (fun L' ho=>⟨f L',h2 L',kk L' ho⟩) w hw;refine uY ?_ h;rintro u w' ⟨hk',M',hs',M2,hp,hK⟩;exact ⟨hk',M2,hs'.perm hp,hK⟩
theorem OwnG.len {E:TypeId} {p:Option Addr} {n c:Nat} {L:List Blk} (h:OwnG w0 E e (.slice p n c) l L):n=l.length:=by
 rcases h with ⟨h,rfl,rfl⟩|⟨g,cap,cur,h,_⟩
 ·cases h;rfl
 ·cases h;rfl
theorem VC (x0:α) (h0:0<e.n) (c:Nat):madeCells (e.cs x0).toArray (c*e.n)=(rows e (List.replicate c x0)).toArray:=by
 apply Array.ext
 ·rw [size_madeCells,List.size_toArray,jR,List.length_replicate]
 intro i h1 h2;have hlen:(e.cs x0).length=e.n:=El.cs_len x0;rw [size_madeCells] at h1;have hq:i / e.n<c:=Nat.div_lt_of_lt_mul (by rw [Nat.mul_comm];exact h1);have hr:i % e.n<e.n:=Nat.mod_lt _ h0
 have hk:(List.replicate c x0)[i / e.n]? = some x0:=by rw [List.getElem?_replicate,if_pos hq]
 have hg:=PC (e:=e) hk
 have h3:(rows e (List.replicate c x0))[i]? = some ((e.cs x0)[i % e.n]'oo_):=by
  have h4:(((rows e (List.replicate c x0)).drop (i / e.n*e.n)).take e.n)[i % e.n]? = some ((e.cs x0)[i % e.n]'oo_):=by rw [hg];exact List.getElem?_eq_getElem _
  rw [List.getElem?_take_of_lt hr,List.getElem?_drop,Nat.div_add_mod' i e.n] at h4;exact h4
 have h5:(rows e (List.replicate c x0)).toArray[i]? = some ((e.cs x0)[i % e.n]'oo_):=by simpa using h3
 rw [Array.getElem?_eq_getElem h2] at h5;rw [Option.some.inj h5];simp only [madeCells,Array.getElem_map,Array.getElem_range,List.size_toArray,hlen];rw [getElem!_pos (e.cs x0).toArray (i % e.n) (by rw [List.size_toArray,hlen];exact hr)]
 simp
theorem ES {T E:TypeId} {x y:Operand} {n c:Nat} {i j:IntKind} {s t:Int} {K:Value→List Blk→Prop} (bytes:Nat) (x0:α) (hT:P.underlying T=some (.slice E)) (hE:R3 P E e.n bytes=true) (h0:0<e.n) (hz:jD P E=some (e.cs x0)) (hx:evO N S x=some (.int i s)) (hy:evO N S y=some (.int j t))
  (hs:s=(n:Int)) (ht:t=(c:Int)) (hnc:n≤c) (hcm:c≤200000) (hen:e.n≤80) (hby:bytes≤1000) (k:∀ p L,OwnG w0 E e (.slice p (List.replicate n x0).length c) (List.replicate n x0) L→K (.slice p (List.replicate n x0).length c) (L++M)) :
  OpR P w0 X N ⟨d,.makeSlice T x y,ty,ps,af,gd⟩ S M K:=by
 subst hs ht;intro w hw;obtain ⟨inf,z,hi,hz',hc⟩:=tX hz;unfold R3 at hE;simp only [hi,hz',Bool.and_eq_true,beq_iff_eq] at hE;obtain ⟨⟨h1,hb⟩,hzc⟩:=hE;have b1:c*e.n≤200000*80:=Nat.mul_le_mul hcm hen;have b2:bytes*c≤1000*200000:=Nat.mul_le_mul hby hcm;have hr:=run_makeSlice (P:=P) w T E inf z hT hi hz' i j n c oo_ oo_ (by rw [h1,Int.toNat_natCast];omega) (by rw [hb];omega) oo_;rw [h1,hc,Int.toNat_natCast,Int.toNat_natCast,VC x0 h0] at hr;unfold opw
 have hex:(execOp (ev N S) ⟨d,.makeSlice T x y,ty,ps,af,gd⟩).run P w = .ok (.value (.slice (some ⟨w.heap.size,0,none⟩) n c)) (w.alloc (.cells (rows e (List.replicate c x0)).toArray E)):=by
  simp [execOp,aZ hx,aZ hy,hr]
 rw [gT,hex];have hl:(List.replicate n x0).length=n:=List.length_replicate
 have hk:=k (some ⟨w.heap.size,0,none⟩) [⟨w.heap.size,E,rows e (List.replicate c x0)⟩] (.inr ⟨w.heap.size,c,_,rfl,rfl,hw.size,by rw [hl];exact hnc,by unfold maxLen;omega,by rw [jR,List.length_replicate],by
  rw [hl,y4,List.take_replicate,Nat.min_eq_left hnc]⟩)
 rw [hl] at hk;exact ⟨.alloc _ _,_,hw.alloc E _,hk⟩
theorem qD {c:Code} {Q:kI} {M2:List Blk} (p:M.Perm M2) (h:W P w0 X N c Q S M2):W P w0 X N c Q S M:=fun B D w hB hd hr hw=>h B D w hB hd hr (hw.perm p)
def Slo (B:Nat) (w:World) (E:TypeId) (e:El α) (v:Value) (l:List α):Prop :=
 (v = .slice none 0 0∧l=[]) ∨ ∃ g cap,∃ cur:List Value,v = .slice (some ⟨g,0,none⟩) l.length cap∧B≤g∧w.heap[g]? = some (.cells cur.toArray E (0,0))∧l.length≤cap∧cap≤maxLen∧cur.length=cap*e.n∧cur.take (l.length*e.n)=rows e l
theorem OwnG.slo {E:TypeId} {L:List Blk} {w:World} (h:OwnG w0 E e v l L) (hs:L.Sublist M) (hw:Sat w0 X M w):Slo w0.heap.size w E e v l:=by
 rcases h with ⟨rfl,rfl,rfl⟩|⟨g,cap,cur,rfl,rfl,hg,hc,hm,hn,ht⟩
 ·exact .inl ⟨rfl,rfl⟩
 exact .inr ⟨g,cap,cur,rfl,hg,hw.mem _ (hs.mem List.mem_cons_self),hc,hm,hn,ht⟩
theorem Slo.now {w w':World} {E:TypeId} (h:Slo w.heap.size w' E e v l) (hw:Sat w0 X M w) (he:Ext w w'):∃ p c L,v = .slice p l.length c∧Sat w0 X (L++M) w'∧OwnG w0 E e (.slice p l.length c) l L:=by
 have hw':=Sat.mono _ _ _ _ _ hw he;rcases h with ⟨rfl,rfl⟩|⟨g,cap,cur,rfl,hB,hh,hc,hm,hn,ht⟩
 ·exact ⟨none,0,[],rfl,hw',.inl ⟨rfl,rfl,rfl⟩⟩
 have hb:g ∉ M.map Blk.b:=fun hm=>by
  obtain ⟨x,hx,rfl⟩:=List.mem_map.1 hm;have:=cL? (hw.mem x hx);omega
 refine ⟨_,cap,[⟨g,E,cur⟩],rfl,⟨hw'.os,hw'.tape,hw'.output,hw'.size,hw'.old,by simpa using And.intro (by simpa using hb) hw'.nodup,fun y hy=>?_⟩,.inr ⟨g,cap,cur,rfl,rfl,Nat.le_trans hw.size hB,hc,hm,hn,ht⟩⟩;rcases List.mem_cons.1 hy with rfl|hy
 ·exact hh
 exact hw'.mem y hy
def gt_ (w0:World) (M:List Blk) (E:TypeId) (e:El α) (v:Value) (l:List α):Prop:=∃ L,L.Sublist M∧OwnG w0 E e v l L
theorem e9 {n:Nat} {E:TypeId} {f:FuncId} {fn:Func} {c:Code} {args:List Value} {w:World} (R:Value→Value) (hf:P.funcs[f]? = some fn) (hb:fn.body=some c) (hn:fn.ntmps=n) (hl:args.length≤n)
  (h:W P w [] (pl n) c (kP P fn w [] (pl n) fun r M=>∃ v,r=R v∧gt_ w M E e v l) (nV 0 args) []):Calls P f args.toArray w fun f w'=>∃ v,f = .returned (R v)∧Ext w w'∧Slo w.heap.size w' E e v l :=
 (gU hf hb hn hl (Sat.start w []) h).mono fun f w' ⟨r,M',he,hs,_,v,hr,L,hL,hu⟩=>⟨v,by rw [he,hr],hs.ext,hu.slo hL hs⟩
theorem dM {E:TypeId} {g:FuncId} {xs:List Operand} {tys:Array TypeId} {args:List Value} {K:Value→List Blk→Prop} (R:Value→Value) (he:iJ P g=true) (ha:evL N S xs=some args)
  (h:∀ w,Sat w0 X M w→Calls P g args.toArray w fun f w'=>∃ v,f = .returned (R v)∧Ext w w'∧Slo w.heap.size w' E e v l) (k:∀ p c L,OwnG w0 E e (.slice p l.length c) l L→K (R (.slice p l.length c)) (L++M)):OpR P w0 X N ⟨d,.call { callee:=.value (.func g),args:=xs.toArray,argTypes:=tys },ty,ps,af,gd⟩ S M K :=
 xU he ha fun w hw=>(h w hw).mono fun _ w' ⟨v,h1,h2,h3⟩=>by
  obtain ⟨p,c,L,rfl,hs,hv⟩:=h3.now hw h2;exact ⟨_,L++M,h1,hs,Ext.keeps h2,k p c L hv⟩
theorem OwnG.max {E:TypeId} {L:List Blk} (h:OwnG w0 E e v l L):l.length≤9223372036854775807:=(h.slfe (List.Sublist.refl L)).max
abbrev dD_:Part:=⟨1,[.nilFunc],rfl,fun v h=>by rw [List.mem_singleton.1 h];rfl⟩
end
end Go.Kn
namespace Go.Num
open Go Go.Kn
structure Sgd where
 s:W
 ok:Bool
structure Lst8 where
 l:List I
 is:Bool
abbrev gdI (x:I):Bool:=!x.1.bad&&x.1.valid
def gmP (b:List I):Nat:=bif b.all gdI then 2*b.length else 1
end Go.Num
namespace Go.Proofs.YtcjoflcajgaifaaGreatDoor
open Go.Kn Go.Num Tryz
def enL_:List Nat:=[5,6,7,8,9,10,11,12,13,14,15,16,17,18,19,20,21,22,23,24,25,26,27,28,29,30,31,34,36,37,38,39,40,41,42,43,44,45,46,47,48,49,50,51,52,53,54,55,56,57,58,59,60,61,62,63,64,65,66,67,68,69,70,71,72,73,74,75,76,77,78,79,80,81,82,83,84,85,86,87,88,89,90,91,92,93,94,95,97,98,99,100,101,102,103,104,105,106,107,108,109,110,111,112,113,114,115,116,117,118,119,120,121,122,123,124,125,126,127,128,129,130,131,132,133,134,135,136,137,138,139,140,141,142,143,144,145,146,147,152,153,154,155,156,157,158,159,160,161,162,163,164,165,166,167,168,169,170,171,172,173,174,175,176,177,178,179,180,181,182,183,191,192,193,194,195,196,197,198,199,200,201,202,203,204,205,206,207,215,223]
theorem gC_:enL_.all (fun g=>iJ prog g)=true:=by kernel_rfl
theorem aH {g:Nat} (h:enL_.contains g=true:=by rfl):iJ prog g=true:=List.all_eq_true.1 gC_ g (List.contains_iff_mem.1 h)
theorem mix:prog.follows .mixedOrders=true:=by kernel_rfl
def pQa (o:List Nat):Nat→Nat→List Nat
 | 0,_=>[]
 | k+1,i=>(4*i+bif o.contains i then 1 else 0)::pQa o k (i+1)
section
variable {w0:World} {X:List Nat} {N:Nm} {S:Fr} {M MD:List Blk} {Q:kI} {y:Code} {id:Nat} {ops:List Oper}
theorem jA (sub:MD.Sublist M) (n:Nat) (o nx:List Nat) (h:PL prog w0 X N ops (nwx ops nx) MD (Nx prog w0 X N y Q) (mP ops.toArray (pQa o n 0)) S M)
 (hok:(Region.noSelect ops.toArray&&Plan.ok ops.toArray (nwx ops nx) ops.length (Array.replicate ops.length false) (mP ops.toArray (pQa o n 0)))=true:=by kernel_rfl):Go.Kn.W prog w0 X N (.seq (.region id ops.toArray true) y) Q S M:=gds sub _ nx mix hok h
theorem lJ (sub:MD.Sublist M) (n:Nat) (o nx:List Nat) (h:PL prog w0 X N ops (nwx ops nx) MD (Nk Q) (mP ops.toArray (pQa o n 0)) S M)
 (hok:(Region.noSelect ops.toArray&&Plan.ok ops.toArray (nwx ops nx) ops.length (Array.replicate ops.length false) (mP ops.toArray (pQa o n 0)))=true:=by kernel_rfl):Go.Kn.W prog w0 X N (.region id ops.toArray true) Q S M:=gdr sub _ nx mix hok h
end
instance:FAr prog 29 (16,1):=⟨by kernel_rfl⟩
instance:FAr prog 75 (3,1):=⟨by kernel_rfl⟩
instance:FAr prog 128 (3,3):=⟨by kernel_rfl⟩
instance:FAr prog 139 (32,1):=⟨by kernel_rfl⟩
instance:FAr prog 204 (3,18):=⟨by kernel_rfl⟩
instance:FAr prog 225 (17,1):=⟨by kernel_rfl⟩
theorem QG:HF prog 4=true:=by kernel_rfl
theorem C8:prog.eqGuardType prog.depth 29=false:=by kernel_rfl
theorem SK:prog.eqGuardType prog.depth 31=false:=by kernel_rfl
theorem X1:prog.eqGuardType prog.depth 33=false:=by kernel_rfl
theorem FI:prog.eqGuardType prog.depth 75=false:=by kernel_rfl
instance:FEl prog 75 (3,1,false):=⟨by kernel_rfl⟩
instance:FFd prog 31 0 (0,1):=⟨by kernel_rfl⟩
instance:FFd prog 31 1 (1,1):=⟨by kernel_rfl⟩
instance:FFd prog 31 2 (2,16):=⟨by kernel_rfl⟩
instance:FFd prog 33 0 (0,18):=⟨by kernel_rfl⟩
instance:FFd prog 33 1 (18,18):=⟨by kernel_rfl⟩
instance:FFd prog 47 0 (0,36):=⟨by kernel_rfl⟩
instance:FFd prog 47 1 (36,36):=⟨by kernel_rfl⟩
instance:FFd prog 71 0 (0,1):=⟨by kernel_rfl⟩
instance:FFd prog 125 0 (0,3):=⟨by kernel_rfl⟩
instance:FFd prog 125 1 (3,1):=⟨by kernel_rfl⟩
instance:FFd prog 175 2 (4,1):=⟨by kernel_rfl⟩
theorem y9:wO prog 3=some .i64:=by kernel_rfl
theorem OD:wO prog 5=some .u8:=by kernel_rfl
theorem fD:wO prog 28=some .u32:=by kernel_rfl
theorem eO:wO prog 130=some .u64:=by kernel_rfl
theorem YT:wO prog 131=some .u64:=by kernel_rfl
theorem DH:jV prog 8 29=some (true,(List.replicate 16 (some IntKind.u32))):=by kernel_rfl
theorem TB:jV prog 8 31=some (true,LI):=by kernel_rfl
theorem Y5:jV prog 8 33=some (true,(LI++LI)):=by kernel_rfl
theorem FZ:jV prog 8 75=some (true,([some .i64]++([some .i64]++[some .i64]))):=by kernel_rfl
theorem RH:PT prog 3=true:=by kernel_rfl
instance:FPl prog 31 [(0,1),(1,1),(2,16)]:=⟨by kernel_rfl⟩
instance:FPl prog 33 [(0,18),(18,18)]:=⟨by kernel_rfl⟩
instance:FPl prog 47 [(0,36),(36,36)]:=⟨by kernel_rfl⟩
instance:FPl prog 125 [(0,3),(3,1)]:=⟨by kernel_rfl⟩
instance:FPl prog 175 [(0,3),(3,1),(4,1)]:=⟨by kernel_rfl⟩
theorem yA:iK prog 22=some 36:=by kernel_rfl
theorem yB:iK prog 24=some 18:=by kernel_rfl
theorem fB:iK prog 25=some 18:=by kernel_rfl
theorem aq_:iK prog 41=some 72:=by kernel_rfl
theorem cC:iK prog 69=some 3:=by kernel_rfl
theorem bQ:iK prog 80=some 1:=by kernel_rfl
theorem G0:iK prog 92=some 1:=by kernel_rfl
theorem iV:iK prog 121=some 4:=by kernel_rfl
theorem n5:iK prog 123=some 1:=by kernel_rfl
theorem ez_:iK prog 141=some 1:=by kernel_rfl
theorem GZ:iK prog 172=some 5:=by kernel_rfl
theorem cf_:prog.underlying 9=some .string:=by kernel_rfl
theorem mR:(prog.info? 3).map (·.size)=some 1:=by kernel_rfl
theorem c7_:(prog.info? 25).map (·.size)=some 1:=by kernel_rfl
theorem oJ:(prog.info? 31).map (·.size)=some 18:=by kernel_rfl
theorem fU_:(prog.info? 33).map (·.size)=some 36:=by kernel_rfl
theorem fV_:(prog.info? 47).map (·.size)=some 72:=by kernel_rfl
theorem DP:(prog.info? 75).map (·.size)=some 3:=by kernel_rfl
theorem HC:(prog.info? 125).map (·.size)=some 4:=by kernel_rfl
theorem MT:(prog.info? 175).map (·.size)=some 5:=by kernel_rfl
theorem gZ_:gY prog 3=some (false,1):=by kernel_rfl
instance:FTy prog 3 (false,1):=⟨gZ_⟩
theorem g0_:gY prog 4=some (false,1):=by kernel_rfl
instance:FTy prog 4 (false,1):=⟨g0_⟩
theorem fW_:gY prog 24=some (false,1):=by kernel_rfl
instance:FTy prog 24 (false,1):=⟨fW_⟩
theorem fX_:gY prog 25=some (false,1):=by kernel_rfl
instance:FTy prog 25 (false,1):=⟨fX_⟩
theorem fY_:gY prog 28=some (false,1):=by kernel_rfl
instance:FTy prog 28 (false,1):=⟨fY_⟩
theorem fZ_:gY prog 29=some (true,16):=by kernel_rfl
instance:FTy prog 29 (true,16):=⟨fZ_⟩
theorem f0_:gY prog 31=some (true,18):=by kernel_rfl
instance:FTy prog 31 (true,18):=⟨f0_⟩
theorem f1_:gY prog 33=some (true,36):=by kernel_rfl
instance:FTy prog 33 (true,36):=⟨f1_⟩
theorem f2_:gY prog 41=some (false,1):=by kernel_rfl
instance:FTy prog 41 (false,1):=⟨f2_⟩
theorem f3_:gY prog 47=some (true,72):=by kernel_rfl
instance:FTy prog 47 (true,72):=⟨f3_⟩
theorem f4_:gY prog 50=some (false,1):=by kernel_rfl
instance:FTy prog 50 (false,1):=⟨f4_⟩
theorem f5_:gY prog 69=some (false,1):=by kernel_rfl
instance:FTy prog 69 (false,1):=⟨f5_⟩
theorem f6_:gY prog 71=some (true,1):=by kernel_rfl
instance:FTy prog 71 (true,1):=⟨f6_⟩
theorem f7_:gY prog 75=some (true,3):=by kernel_rfl
instance:FTy prog 75 (true,3):=⟨f7_⟩
theorem f8_:gY prog 80=some (false,1):=by kernel_rfl
instance:FTy prog 80 (false,1):=⟨f8_⟩
theorem f9_:gY prog 86=some (false,1):=by kernel_rfl
instance:FTy prog 86 (false,1):=⟨f9_⟩
theorem ga_:gY prog 92=some (false,1):=by kernel_rfl
instance:FTy prog 92 (false,1):=⟨ga_⟩
theorem gb_:gY prog 96=some (false,1):=by kernel_rfl
instance:FTy prog 96 (false,1):=⟨gb_⟩
theorem eF_:gY prog 119=some (false,1):=by kernel_rfl
instance:FTy prog 119 (false,1):=⟨eF_⟩
theorem eG_:gY prog 125=some (true,4):=by kernel_rfl
instance:FTy prog 125 (true,4):=⟨eG_⟩
theorem eH_:gY prog 128=some (true,9):=by kernel_rfl
instance:FTy prog 128 (true,9):=⟨eH_⟩
theorem eI_:gY prog 175=some (true,5):=by kernel_rfl
instance:FTy prog 175 (true,5):=⟨eI_⟩
theorem eJ_:gY prog 204=some (true,54):=by kernel_rfl
instance:FTy prog 204 (true,54):=⟨eJ_⟩
theorem gd_:prog.underlying 22=some (.slice 33):=by kernel_rfl
theorem pX:prog.underlying 24=some (.slice 31):=by kernel_rfl
theorem zM:prog.underlying 25=some (.slice 31):=by kernel_rfl
theorem c9_:prog.underlying 41=some (.slice 47):=by kernel_rfl
theorem rT:prog.underlying 69=some (.slice 75):=by kernel_rfl
theorem fG:prog.underlying 80=some (.slice 3):=by kernel_rfl
theorem aD_:prog.underlying 92=some (.slice 25):=by kernel_rfl
theorem C2:prog.underlying 121=some (.slice 125):=by kernel_rfl
theorem eL_:prog.underlying 123=some (.slice 4):=by kernel_rfl
theorem yG:prog.underlying 172=some (.slice 175):=by kernel_rfl
theorem z_3:jD prog 3=some [.int .i64 0]:=by kernel_rfl
theorem gk_:jD prog 25=some [.slice none 0 0]:=by kernel_rfl
theorem lU:jD prog 29=some (uw (List.replicate 16 0)):=by kernel_rfl
theorem kB:jD prog 31=some zR:=by kernel_rfl
theorem g2_:jD prog 33=some (([.bool false]++[.bool false]++(List.replicate 16 (.int .u32 0)))++([.bool false]++[.bool false]++(List.replicate 16 (.int .u32 0)))):=by kernel_rfl
theorem g3_:jD prog 47=some ((([.bool false]++[.bool false]++(List.replicate 16 (.int .u32 0)))++([.bool false]++[.bool false]++(List.replicate 16 (.int .u32 0))))++(([.bool false]++[.bool false]++(List.replicate 16 (.int .u32 0)))++([.bool false]++[.bool false]++(List.replicate 16 (.int .u32 0))))):=by kernel_rfl
theorem P3:jD prog 75=some (List.replicate 3 (.int .i64 0)):=by kernel_rfl
theorem P2:jD prog 125=some ((List.replicate 3 (.int .i64 0))++[.int .i64 0]):=by kernel_rfl
theorem gi_:jD prog 139=some (uw (List.replicate 32 0)):=by kernel_rfl
theorem UM:jD prog 175=some ((List.replicate 3 (.int .i64 0))++[.int .i64 0]++[.slice none 0 0]):=by kernel_rfl
theorem gj_:jD prog 225=some (uw (List.replicate 17 0)):=by kernel_rfl
instance:FZp prog 3 [ci .i64 0]:=⟨by kernel_rfl⟩
instance:FZp prog 4 [cb false]:=⟨by kernel_rfl⟩
instance:FZp prog 24 [csl none 0 0]:=⟨by kernel_rfl⟩
instance:FZp prog 31 [pI I0]:=⟨by kernel_rfl⟩
instance:FZp prog 33 [pI I0,pI I0]:=⟨by kernel_rfl⟩
instance:FZp prog 41 [csl none 0 0]:=⟨by kernel_rfl⟩
instance:FZp prog 47 [pI I0,pI I0,pI I0,pI I0]:=⟨by kernel_rfl⟩
instance:FZp prog 71 [csl none 0 0]:=⟨by kernel_rfl⟩
instance:FZp prog 75 [ci .i64 0,ci .i64 0,ci .i64 0]:=⟨by kernel_rfl⟩
instance:FZp prog 80 [csl none 0 0]:=⟨by kernel_rfl⟩
instance:FZp prog 92 [csl none 0 0]:=⟨by kernel_rfl⟩
instance:FZp prog 96 [dD_]:=⟨by kernel_rfl⟩
instance:FZp prog 119 [dD_]:=⟨by kernel_rfl⟩
instance:FZp prog 125 [ci .i64 0,ci .i64 0,ci .i64 0,ci .i64 0]:=⟨by kernel_rfl⟩
instance:FZp prog 128 [ci .i64 0,ci .i64 0,ci .i64 0,ci .i64 0,ci .i64 0,ci .i64 0,ci .i64 0,ci .i64 0,ci .i64 0]:=⟨by kernel_rfl⟩
instance:FZp prog 175 [ci .i64 0,ci .i64 0,ci .i64 0,ci .i64 0,csl none 0 0]:=⟨by kernel_rfl⟩
instance:FZp prog 204 [pI I0,pI I0,pI I0]:=⟨by kernel_rfl⟩
def rg (l:List Nat) (a:Nat):Nat→List Nat
 | 0=>l
 | k+1=>(a+k)::rg l a k
theorem giI {A B:Prop} (k:B) (h:Hid B→A:=by intro hk;simp only [nV,Nat.reduceAdd];exact hk.h):A:=h ⟨k⟩
theorem gS0 {A B:Prop} (k:B) (h:Hid B→A:=by intro hk;simp only [uI,rg,Nat.reduceAdd];exact hk.h):A:=h ⟨k⟩
theorem gS1 {A B p:Prop} (e:p) (k:B) (h:p→Hid B→A:=by intro e hk;simp only [uI,rg,Nat.reduceAdd,e];exact hk.h):A:=h e ⟨k⟩
theorem gS2 {A B p q:Prop} (e:p) (f:q) (k:B) (h:p→q→Hid B→A:=by intro e f hk;simp only [uI,rg,Nat.reduceAdd,e,f];exact hk.h):A:=h e f ⟨k⟩
theorem gS3 {A B p q r:Prop} (e:p) (f:q) (g:r) (k:B) (h:p→q→r→Hid B→A:=by intro e f g hk;simp only [uI,rg,Nat.reduceAdd,e,f,g];exact hk.h):A:=h e f g ⟨k⟩
theorem wxo {n m:Int} (h:n=m:=by omega) (h1:-9223372036854775808≤m:=by omega) (h2:m≤9223372036854775807:=by omega):Value.int .i64 (IntKind.i64.wrap n)=Value.int .i64 m:=congrArg _ (wx h h1 h2)
theorem c1_ {α:Type} {e:El α} {w0:World} {X:List Nat} {M M':List Blk} {v:Value} {l:List α} {C:World→Prop} (f:∀ w,Slr w e v l→C w) (H:SLe w0 X M' e v l) (hs:M'.Sublist M):∀ w,Sat w0 X M w→C w:=fun w hw=>f w (aR hw H hs)
theorem eU {P:Prop} (h:P:=by assumption):P:=h
theorem HV {P:Prop} (h:P:=by with_reducible first|assumption|exact ⟨hpre.1,by omega⟩|exact ⟨by assumption,by omega⟩|exact hpre.1|exact hpre.2):P:=h
theorem U6 {P:Prop} (h:P:=by with_reducible first|assumption|exact hpre.1):P:=h
section
variable {w0:World} {X:List Nat} {N:Nm} {fn:Func} {R:Value→List Blk→Prop} {S:Fr} {M:List Blk} {r r1 r2:ResultVar} {v v1 v2 v':Value} {ops:List Oper} {Q:Fr→List Blk→Prop} {d:Tmp} {l:List Oper}
theorem rt1 (k:R v M) (hr:fn.results = #[r]:=by rfl) (h:w5 prog N S M r v:=by rfl):kP prog fn w0 X N R .ret S M:=ad_ hr (.inr O) h k
theorem rt2 (k:R (.tuple #[v1,v2]) M) (hr:fn.results = #[r1,r2]:=by rfl) (h:w5 prog N S M r1 v1:=by rfl) (h2:w5 prog N S M r2 v2:=by rfl):kP prog fn w0 X N R .ret S M:=rB hr (.inr O) h h2 k
theorem rtX (hr:fn.results = #[r]) (h:w5 prog N S M r v) (k:R v M):kP prog fn w0 X N R .ret S M:=ad_ hr (.inr O) h k
section
variable {g:FuncId} {xs:List Operand} {tys:Array TypeId} {args:List Value} {ty:TypeId} {ps:String} {af:Array Edge} {gd:Option (Nat×Bool)}
theorem sFc (v':Value) (ha:evL N S xs=some args) (h:∀ w,Sat w0 X M w→Calls prog g args.toArray w fun e w'=>e = .returned v∧Ext w w') (hv:v=v')
 (hd:wD N ops S (⟨some d,.call { callee:=.value (.func g),args:=xs.toArray,argTypes:=tys },ty,ps,af,gd⟩:Oper)=some d) (k:WL prog w0 X N ops Q l ((d,v')::S) M) (he:enL_.contains g=true:=by rfl) :
 WL prog w0 X N ops Q (⟨some d,.call { callee:=.value (.func g),args:=xs.toArray,argTypes:=tys },ty,ps,af,gd⟩::l) S M:=sQ (aE (eH (P:=prog) (g:=g) (aH he) ha h) hv) hd k
end
theorem sWi (m:Int) {n:Int} {o:Oper} (h:DA N ops S o=some (d,.int .i64 (IntKind.i64.wrap n))) (k:WL prog w0 X N ops Q l ((d,.int .i64 m)::S) M) (h0:n=m:=by omega) (h1:-9223372036854775808≤m:=by omega) (h2:m≤9223372036854775807:=by omega):WL prog w0 X N ops Q (o::l) S M:=sV _ h (congrArg _ (wx h0 h1 h2)) k
end
open Go Go.Kn Go.Num
def vS0 (r:Bool):Value:=.bool r
def vS1 (r:I):Value:=AV [pI r]
def vS2 (r:I×I):Value:=.tuple #[AV [pI r.1],AV [pI r.2]]
def vS3 (r:Iv×W):Value:=.tuple #[AV [pI r.1.lo.n,pI r.1.lo.d,pI r.1.hi.n,pI r.1.hi.d],.int .i64 r.2.1]
def vS4 (r:Rt):Value:=AV [pI r.n,pI r.d]
def vS5 (r:W):Value:=.int .i64 r.1
def vS6 (r:W×Bool):Value:=.tuple #[.int .i64 r.1.1,.bool r.2]
def vS7 (r:W×W):Value:=.tuple #[.int .i64 r.1.1,.int .i64 r.2.1]
end Go.Proofs.YtcjoflcajgaifaaGreatDoor
namespace Go.Num
open Go Go.Kn
def kH (a:I):I :=
 bif a.1.good then (E (Z.of (sgn false (val a.1.w)))) else (E Z.bad)
def i3 (a:I):W :=
 bif (!a.1.good||(((dl (val a.1.w)).length:Int)==0)) then (wl 0) else (bif a.1.neg then (wl (-1)) else (wl 1))
def F_ratio_one :I :=
 let q0:I:=(E (Z.of 1))
 q0
def F_ratio_Bad :Rt :=
 let q0:I:=(E Z.bad)
 let q1:I:=F_ratio_one
 (⟨q0,q1⟩:Rt)
def iR (a:I):Bool :=
 (!a.1.bad&&a.1.valid)
def aU (a:Rt):Bool :=
 ((iR a.n)&&((iR a.d)&&(decide (0<(Z.signW a.d.dec).1)&&decide ((E (Z.gcd a.n.dec a.d.dec))=F_ratio_one))))
def bN (a:I) (b:I):Rt :=
 bif (!(iR a)||(!(iR b)||((Z.signW b.dec).1==0))) then F_ratio_Bad else (bif decide ((Z.signW b.dec).1<0) then (⟨(E (Z.quo a.dec (Z.neg (Z.gcd a.dec b.dec)))),(E (Z.quo b.dec (Z.neg (Z.gcd a.dec b.dec))))⟩:Rt) else (⟨(E (Z.quo a.dec (Z.gcd a.dec b.dec))),(E (Z.quo b.dec (Z.gcd a.dec b.dec)))⟩:Rt))
def cZ (a:I):Rt :=
 (bN a F_ratio_one)
def aP (a:W):Rt :=
 (cZ (E (Z.of a.1)))
def dW (a:Rt):Rt :=
 bif (aU a) then (⟨(E (Z.neg a.n.dec)),a.d⟩:Rt) else (F_ratio_Bad)
def iZ (a:Rt) (b:Rt):Rt :=
 bif (!(aU a)||(!(aU b))) then F_ratio_Bad else (let r15:I:=(E (Z.add (Z.mul a.n.dec (Z.quo b.d.dec (Z.gcd a.d.dec b.d.dec))) (Z.mul b.n.dec (Z.quo a.d.dec (Z.gcd a.d.dec b.d.dec)))))
 let r16:Rt:=(bN r15 (E (Z.mul (Z.quo a.d.dec (Z.gcd a.d.dec b.d.dec)) b.d.dec)))
 r16)
def gD (a:Rt) (b:Rt):Rt :=
 (iZ a (dW b))
def gA (a:Rt) (b:Rt):Rt :=
 bif (!(aU a)||(!(aU b))) then F_ratio_Bad else (let r26:I:=(E (Z.mul ((bN a.n b.d).n).dec ((bN b.n a.d).n).dec))
 let r27:I:=(E (Z.mul ((bN a.n b.d).d).dec ((bN b.n a.d).d).dec))
 bif (r26.1.bad||r27.1.bad) then F_ratio_Bad else (⟨r26,r27⟩:Rt))
def iH :I :=
 let q0:I:=(E (Z.of 1))
 q0
def bA (a:Rt):Bool :=
 bif (!a.n.1.good||(!a.d.1.good)) then false else (decide (0<(Z.signW a.d.dec).1)&&decide ((E (Z.gcd a.n.dec a.d.dec))=iH))
def eS (a:Rt) (b:Rt):W :=
 bif (!(aU a)&&(!(aU b))) then (wl 0) else (bif (aU a) then (bif (aU b) then (cf (cfN a.d) (wl 1) a.n a.d b.n b.d) else (wl 1)) else (wl (-1)))
def lX (a:W) (b:W):Rt :=
 let r2:Rt:=(bN (E (Z.of a.1)) (E (Z.of b.1)))
 r2
def eE (a:Rt):W :=
 bif (aU a) then (Z.signW a.n.dec) else (wl 0)
def dV (a:Rt) (b:Rt):Rt :=
 bif (aU b) then (let r5:Rt:=(gA a (bN b.d b.n))
 r5) else (F_ratio_Bad)
def V8 :Iv :=
 let q0:Rt:=F_ratio_Bad
 (⟨q0,q0⟩:Iv)
def pY (a:Iv):Bool :=
 ((decide (a.lo.n=V8.lo.n)&&(decide (a.lo.d=V8.lo.d)&&(decide (a.hi.n=V8.hi.n)&&decide (a.hi.d=V8.hi.d))))||(!(aU a.lo)||(!(aU a.hi)||decide (0<(eS a.lo a.hi).1))))
def fC (a:I):I :=
 a
def kR (a:I):Bool :=
 (!a.1.bad&&a.1.valid)
def F_poly_bad :(List I) :=
 let q0:I:=(E Z.bad)
 [q0]
def gF (n:Int) (f:Nat→I) (o:I→I):Nat→(List I)→Nat→(List I×Nat) ⊕ (List I)
 | 0,out,i=>.inl (out,i)
 | k0+1,out,i=>bif decide ((i:Int)<(n.toNat:Int)) then (bif (kR (o (f i))) then (gF n f o k0 (out++[(o (f i))]) (i+1)) else (.inr F_poly_bad)) else (.inl (out,i))
def gG (n:Int) (f:Nat→I) (o:I→I) (out:List I) (i:Nat):Nat→(List I)→List I
 | 0,cut=>cut
 | k1+1,cut=>bif (decide (0<(cut.length:Int))&&((Z.signW (cut.getD (cut.length - 1) I0).dec).1==0)) then (gG n f o out i k1 (cut.take (cut.length - 1))) else (cut)
def e6 (n:Int) (f:Nat→I) (o:I→I):(List I) :=
 sm (fun (s_:List I×Nat)=>let out:List I:=s_.1
 let i:Nat:=s_.2
 ap (fun (s:List I)=>let cut:List I:=s
 bif decide (25<(cut.length:Int)) then F_poly_bad else cut) (gG n f o out i (out.length+1) out)) (fun r=>r) (gF n f o (n.toNat+1) ([]:List I) 0)
def iD (n:Int) (f:Nat→Go.Num.W) (o:Go.Num.W→I):Nat→(List I)→Nat→(List I×Nat) ⊕ (List I)
 | 0,out,i=>.inl (out,i)
 | k0+1,out,i=>bif decide ((i:Int)<(n.toNat:Int)) then (bif (kR (o (f i))) then (iD n f o k0 (out++[(o (f i))]) (i+1)) else (.inr F_poly_bad)) else (.inl (out,i))
def iE (n:Int) (f:Nat→Go.Num.W) (o:Go.Num.W→I) (out:List I) (i:Nat):Nat→(List I)→List I
 | 0,cut=>cut
 | k1+1,cut=>bif (decide (0<(cut.length:Int))&&((Z.signW (cut.getD (cut.length - 1) I0).dec).1==0)) then (iE n f o out i k1 (cut.take (cut.length - 1))) else (cut)
def j4 (n:Int) (f:Nat→Go.Num.W) (o:Go.Num.W→I):(List I) :=
 sm (fun (s_:List I×Nat)=>let out:List I:=s_.1
 let i:Nat:=s_.2
 ap (fun (s:List I)=>let cut:List I:=s
 bif decide (25<(cut.length:Int)) then F_poly_bad else cut) (iE n f o out i (out.length+1) out)) (fun r=>r) (iD n f o (n.toNat+1) ([]:List I) 0)
def iI (l:(List I)) (f:I→Bool):Nat→Nat→(Nat) ⊕ (W)
 | 0,i=>.inl i
 | k0+1,i=>bif decide ((i:Int)<(l.length:Int)) then (bif (f (l.getD i I0)) then (.inr (W.cv (i:Int))) else (iI l f k0 (i+1))) else (.inl i)
def oU (l:(List I)) (f:I→Bool):W :=
 sm (fun (s:Nat)=>let i:Nat:=s
 (wl (-1))) (fun r=>r) (iI l f (l.length+1) 0)
def mS (l:(List I)) (f:I→Bool):Bool :=
 (decide (0≤(oU l f).1))
def o4 (a:I):Bool :=
 (!(kR a))
def aS (p:(List I)):Bool :=
 (mS p (fun (y:I)=>(o4 y)))
def jS (l:(List Rt)) (f:Rt→Bool):Nat→Nat→(Nat) ⊕ (W)
 | 0,i=>.inl i
 | k0+1,i=>bif decide ((i:Int)<(l.length:Int)) then (bif (f (l.getD i Rt0)) then (.inr (W.cv (i:Int))) else (jS l f k0 (i+1))) else (.inl i)
def nI (l:(List Rt)) (f:Rt→Bool):W :=
 sm (fun (s:Nat)=>let i:Nat:=s
 (wl (-1))) (fun r=>r) (jS l f (l.length+1) 0)
def oM (l:(List Rt)) (f:Rt→Bool):Bool :=
 (decide (0≤(nI l f).1))
def lI (a:Rt):Bool :=
 (!(aU a))
def oV (l:(List Rt)):Bool :=
 (!(oM l (fun (y:Rt)=>(lI y))))
def mG (k:Nat) (l:(List I)):I :=
 (l.getD k I0)
def bD (l:(List I)):(List I) :=
 (e6 (l.length:Int) (fun (y:Nat)=>(mG y l)) (fun (y:I)=>(fC y)))
def q9 (k:Nat) (l:(List W)):W :=
 (l.getD k W.z)
def jE (l:(List W)):(List I) :=
 (j4 (l.length:Int) (fun (y:Nat)=>(q9 y l)) (fun (y:Go.Num.W)=>(E (Z.of y.1))))
def kQ (p:(List I)):W :=
 bif (aS p) then (wl (-2)) else (W.cv ((p.length:Int) - 1))
def eK (p:(List I)) (k:Int):I :=
 bif (decide (k<0)||decide ((p.length:Int)≤k)) then I0 else (p.getD (k.toNat) I0)
def mH (k:Nat) (f:I→I→I) (p:(List I)) (q:(List I)):I :=
 (f (eK p (k:Int)) (eK q (k:Int)))
def eM (p:(List I)) (q:(List I)) (f:I→I→I):(List I) :=
 bif ((aS p)||(aS q)) then F_poly_bad else (e6 (((max (p.length) (q.length)):Nat):Int) (fun (y:Nat)=>(mH y f p q)) (fun (y:I)=>(fC y)))
def sF (p:(List I)) (q:(List I)):(List I) :=
 (eM p q (fun (y:I) (z:I)=>(E (Z.add y.dec z.dec))))
def fE (k:Nat) (q:(List I)) (p:(List I)):Nat→Nat→I→Nat×I
 | 0,i,mb2=>(i,mb2)
 | k0+1,i,mb2=>bif decide ((i:Int)≤(min (k:Int) ((p.length:Int) - 1))) then (fE k q p k0 (i+1) (E (Z.add mb2.dec (Z.mul (p.getD i I0).dec (q.getD (k - i) I0).dec)))) else (i,mb2)
def kM (k:Nat) (q:(List I)) (p:(List I)):I :=
 ap (fun (s:Nat×I)=>let i:Nat:=s.1
 let mb2:I:=s.2
 mb2) (fE k q p (k+2) ((((k:Int) - (q.length:Int))+1).toNat) I0)
def fR (p:(List I)) (q:(List I)):(List I) :=
 bif ((aS p)||(aS q)) then F_poly_bad else (bif (((p.length:Int)==0)||((q.length:Int)==0)) then ([]:List I) else (e6 ((((p.length+(q).length):Nat):Int) - 1) (fun (y:Nat)=>(kM y q p)) (fun (y:I)=>(fC y))))
def lQ (a:I) (b:I) (n:I):I :=
 (E (Z.mul a.dec n.dec))
def bL (p:(List I)) (n:I):(List I) :=
 bif (kR n) then (eM p ([]:List I) (fun (y:I) (z:I)=>(lQ y z n))) else (F_poly_bad)
def jJ (k:Nat) (p:(List I)):I :=
 (E (Z.mul (Z.of (((k+1):Nat):Int)) (p.getD (k+1) I0).dec))
def aD (p:(List I)):(List I) :=
 bif (aS p) then F_poly_bad else (e6 ((p.length:Int) - 1) (fun (y:Nat)=>(jJ y p)) (fun (y:I)=>(fC y)))
def gS (l:(List I)):List I→I→I
 | [],mb2=>mb2
 | x0::l0,mb2=>(gS l l0 (E (Z.gcd mb2.dec x0.dec)))
def gK (l:(List I)):I :=
 ap (fun (s:I)=>let mb2:I:=s
 mb2) (gS l l I0)
def jT (a:I) (b:I) (n:I):I :=
 (E (Z.quo a.dec n.dec))
def aC (p:(List I)):(List I) :=
 (eM p ([]:List I) (fun (y:I) (z:I)=>(jT y z (gK p))))
def fW (d:I) (n:Int):Nat→(List I)→List I
 | 0,out=>out
 | k0+1,out=>bif decide ((out.length:Int)<n) then (fW d n k0 (out++[(E (Z.mul (out.getD (out.length - 1) I0).dec d.dec))])) else (out)
def eR (d:I) (n:Int):(List I) :=
 ap (fun (s:List I)=>let out:List I:=s
 out) (fW d n (n.toNat+1) [(E (Z.of 1))])
def fS (p:(List I)) (x:Rt):Nat→Int→I→Int×I
 | 0,i,mb3=>(i,mb3)
 | k0+1,i,mb3=>bif decide (0≤i) then (let r25:I:=(E (Z.mul (p.getD (i.toNat) I0).dec ((eR x.d (p.length:Int)).getD ((p.length - 1) - i.toNat) I0).dec))
 (fS p x k0 (i - 1) (E (Z.add (Z.mul mb3.dec x.n.dec) r25.dec)))) else (i,mb3)
def dY (p:(List I)) (x:Rt):I×I :=
 bif ((aS p)||(!(oV [x]))) then ((E Z.bad),(E (Z.of 1))) else (ap (fun (s:Int×I)=>let i:Int:=s.1
 let mb3:I:=s.2
 (mb3,((eR x.d (p.length:Int)).getD (((p.length:Int) - 1).toNat) I0))) (fS p x (p.length+1) ((p.length:Int) - 1) I0))
def iY (p:(List I)) (x:Rt):Rt :=
 let r3:Rt:=(bN ((dY p x).1) ((dY p x).2))
 r3
def bP (p:(List I)) (x:Rt):W×Bool :=
 ((Z.signW ((dY p x).1).dec),(!((dY p x).1).1.bad))
def eT (p:(List I)) (q:(List I)) (i:Int) (r:List I) (r62:I):Nat→Nat→(List I)→(Nat×List I) ⊕ (List I)
 | 0,k,t=>.inl (k,t)
 | k1+1,k,t=>bif decide ((k:Int)<(r.length:Int)) then (let r75:I:=(E (Z.sub (Z.mul (Z.abs (q.getD (q.length - 1) I0).dec) (t.getD k I0).dec) (Z.mul r62.dec (eK q ((k:Int) - i)).dec)))
 bif ((t.set k r75).getD k I0).1.bad then (.inr F_poly_bad) else (eT p q i r r62 k1 (k+1) (t.set k r75))) else (.inl (k,t))
def cX (p:(List I)) (q:(List I)):Nat→Int→(List I)→(Int×List I) ⊕ (List I)
 | 0,i,r=>.inl (i,r)
 | k0+1,i,r=>bif decide (0≤i) then (let r62:I:=(E (Z.mul (Z.of (Z.signW (q.getD (q.length - 1) I0).dec).1) (r.getD (i.toNat+(q.length - 1)) I0).dec))
 sm (fun (s:Nat×List I)=>let k:Nat:=s.1
 let t:List I:=s.2
 (cX p q k0 (i - 1) t)) (fun r=>.inr r) (eT p q i r r62 (r.length+1) 0 r)) else (.inl (i,r))
def aX (p:(List I)) (q:(List I)):(List I) :=
 bif ((aS p)||((aS q)||((q.length:Int)==0))) then F_poly_bad else (sm (fun (s:Int×List I)=>let i:Int:=s.1
 let r:List I:=s.2
 (bD r)) (fun r=>r) (cX p q (p.length+1) (((p.length:Int) - 1) - ((q.length:Int) - 1)) ([]++p)))
def wY (a:I):Bool :=
 (!a.1.bad&&a.1.valid)
def gP (p:(List I)):Nat→Nat→(Nat) ⊕ (Bool)
 | 0,i=>.inl i
 | k0+1,i=>bif decide ((i:Int)<(p.length:Int)) then (bif (wY (p.getD i I0)) then (gP p k0 (i+1)) else (.inr true)) else (.inl i)
def mJ (p:(List I)):Bool :=
 sm (fun (s:Nat)=>let i:Nat:=s
 false) (fun r=>r) (gP p (p.length+1) 0)
def jQ (p:(List I)):Bool :=
 bif (((p.length:Int)==1)&&decide ((p.getD 0 I0)=(E Z.bad))) then true else (bif ((mJ p)||decide (25<(p.length:Int))) then false else (((p.length:Int)==0)||((Z.signW (p.getD (p.length - 1) I0).dec).1 != 0)))
def jO (p:(List I)) (d:Int) (b:Int):Nat→Nat→(Nat) ⊕ (Bool)
 | 0,i=>.inl i
 | k0+1,i=>bif decide ((i:Int)<(p.length:Int)) then (bif decide (b<(Z.bitsW (p.getD i I0).dec).1) then (.inr false) else (jO p d b k0 (i+1))) else (.inl i)
def jG (p:(List I)) (d:Int) (b:Int):Bool :=
 bif (!(jQ p)||decide ((d+1)<(p.length:Int))) then false else (sm (fun (s:Nat)=>let i:Nat:=s
 true) (fun r=>r) (jO p d b (p.length+1) 0))
def cT (p:(List I)) (q:(List I)):Nat→(List I)→(List I)→(List I×List I) ⊕ (List I)
 | 0,a,b=>.inl (a,b)
 | k0+1,a,b=>bif decide (0<(b.length:Int)) then (bif ((aS a)||(aS b)) then (.inr F_poly_bad) else (cT p q k0 b (aC (aX a b)))) else (.inl (a,b))
def aM (p:(List I)) (q:(List I)):(List I) :=
 sm (fun (s:List I×List I)=>let a:List I:=s.1
 let b:List I:=s.2
 bif (((a.length:Int)==0)||decide (0<(Z.signW (a.getD (a.length - 1) I0).dec).1)) then a else (eM ([]:List I) a (fun (y:I) (z:I)=>(E (Z.sub y.dec z.dec))))) (fun r=>r) (cT p q (gmP (aC q)+1) (aC p) (aC q))
def fN (p:(List I)) (i:Int) (r:List I) (f:List I) (r66:I):Nat→Nat→(List I)→(Nat×List I) ⊕ (List I)
 | 0,k,t=>.inl (k,t)
 | k1+1,k,t=>bif decide ((k:Int)<((aM p (aD p)).length:Int)) then (let r82:I:=(E (Z.mul ((f.set (i.toNat) r66).getD (i.toNat) I0).dec ((aM p (aD p)).getD k I0).dec))
 bif ((t.set (i.toNat+k) (E (Z.sub (t.getD (i.toNat+k) I0).dec r82.dec))).getD (i.toNat+k) I0).1.bad then (.inr F_poly_bad) else (fN p i r f r66 k1 (k+1) (t.set (i.toNat+k) (E (Z.sub (t.getD (i.toNat+k) I0).dec r82.dec))))) else (.inl (k,t))
def eB (p:(List I)):Nat→Int→(List I)→(List I)→(Int×List I×List I) ⊕ (List I)
 | 0,i,r,f=>.inl (i,r,f)
 | k0+1,i,r,f=>bif decide (0≤i) then (let r66:I:=(E (Z.quo (r.getD (i.toNat+((aM p (aD p)).length - 1)) I0).dec ((aM p (aD p)).getD ((aM p (aD p)).length - 1) I0).dec))
 sm (fun (s:Nat×List I)=>let k:Nat:=s.1
 let t:List I:=s.2
 (eB p k0 (i - 1) t (f.set (i.toNat) r66))) (fun r=>.inr r) (fN p i r f r66 ((aM p (aD p)).length+1) 0 r)) else (.inl (i,r,f))
def aN (p:(List I)):(List I) :=
 bif ((aS (aM p (aD p)))||(aS (aC p))) then F_poly_bad else (bif (((aC p).length:Int)==0) then ([]:List I) else (sm (fun (s:Int×List I×List I)=>let i:Int:=s.1
 let r:List I:=s.2.1
 let f:List I:=s.2.2
 bif ((((bD f).length:Int)==0)||decide (0<(Z.signW ((bD f).getD ((bD f).length - 1) I0).dec).1)) then (bD f) else (eM ([]:List I) (bD f) (fun (y:I) (z:I)=>(E (Z.sub y.dec z.dec))))) (fun r=>r) (eB p ((aC p).length+2) (((List.replicate ((aC p).length - ((aM p (aD p)).length - 1)) I0).length:Int) - 1) (aC p) (List.replicate ((aC p).length - ((aM p (aD p)).length - 1)) I0))))
structure Num9 where
 n:W
 e:W
structure Lst9 where
 l:List Iv
 e:W
structure Fnd9 where
 x:Iv
 is:Bool
 e:W
structure Zero9 where
 n:Int
 times:Int
def kN (a:Rt) (b:Rt):Bool :=
 (!a.n.1.bad&&(!b.n.1.bad&&decide ((eS a b).1≤0)))
def bB (a:Rt) (b:Rt):Rt :=
 let r4:Rt:=(gA (iZ a b) (lX (wl 1) (wl 2)))
 r4
def cK (p:(List I)):Nat→(List (List I))→(List I)→(List (List I)×List I) ⊕ ((List (List I))×Bool)
 | 0,out,next=>.inl (out,next)
 | k0+1,out,next=>bif decide (0<(next.length:Int)) then (bif (aS (aC (bL (aX ((out++[next]).getD ((out++[next]).length - 2) []) ((out++[next]).getD ((out++[next]).length - 1) [])) (E (Z.of (-1)))))) then (.inr (([]:List (List I)),false)) else (cK p k0 (out++[next]) (aC (bL (aX ((out++[next]).getD ((out++[next]).length - 2) []) ((out++[next]).getD ((out++[next]).length - 1) [])) (E (Z.of (-1))))))) else (.inl (out,next))
def cP (p:(List I)) (out:List (List I)) (next:List I):List (List I)→(Unit) ⊕ ((List (List I))×Bool)
 | []=>.inl ()
 | x1::l1=>bif (aS x1) then (.inr (([]:List (List I)),false)) else (cP p out next l1)
def aI (p:(List I)):(List (List I))×Bool :=
 sm (fun (s_:List (List I)×List I)=>let out:List (List I):=s_.1
 let next:List I:=s_.2
 sm (fun (s:Unit)=>(out,true)) (fun r=>r) (cP p out next out)) (fun r=>r) (cK p (gmP (aC (aD (aN p)))+1) [(aN p)] (aC (aD (aN p))))
def fJ :Rt :=
 let q0:I:=(E Z.bad)
 let q1:I:=iH
 (⟨q0,q1⟩:Rt)
def bM (a:I) (b:I):Rt :=
 bif (!a.1.good||(!b.1.good||((Z.signW b.dec).1==0))) then fJ else (bif decide ((Z.signW b.dec).1<0) then (⟨(E (Z.quo a.dec (Z.neg (Z.gcd a.dec b.dec)))),(E (Z.quo b.dec (Z.neg (Z.gcd a.dec b.dec))))⟩:Rt) else (⟨(E (Z.quo a.dec (Z.gcd a.dec b.dec))),(E (Z.quo b.dec (Z.gcd a.dec b.dec)))⟩:Rt))
def oR (a:W):Rt :=
 let r2:Rt:=(bM (E (Z.of a.1)) iH)
 r2
def m6 (a:W) (b:W):Rt :=
 let r2:Rt:=(bM (E (Z.of a.1)) (E (Z.of b.1)))
 r2
def iF (a:Rt):Rt :=
 bif (bA a) then (⟨(E (Z.neg a.n.dec)),a.d⟩:Rt) else (fJ)
def fA (a:Rt) (b:Rt):Rt :=
 bif (!(bA a)||(!(bA b))) then fJ else (let r11:I:=(E (Z.add (Z.mul a.n.dec (Z.quo b.d.dec (Z.gcd a.d.dec b.d.dec))) (Z.mul b.n.dec (Z.quo a.d.dec (Z.gcd a.d.dec b.d.dec)))))
 let r12:Rt:=(bM r11 (E (Z.mul (Z.quo a.d.dec (Z.gcd a.d.dec b.d.dec)) b.d.dec)))
 r12)
def iG (a:Rt) (b:Rt):Rt :=
 let r4:Rt:=(fA a (iF b))
 r4
def fK (a:Rt) (b:Rt):Rt :=
 bif (!(bA a)||(!(bA b))) then fJ else (let r10:I:=(E (Z.mul ((bM a.n b.d).n).dec ((bM b.n a.d).n).dec))
 let r12:I:=(E (Z.mul ((bM a.n b.d).d).dec ((bM b.n a.d).d).dec))
 (bM r10 r12))
def P9 (p:(List I)) (q:(List I)):(List I) :=
 (eM p q (fun (y:I) (z:I)=>(E (Z.sub y.dec z.dec))))
def jF (a:Rt) (b:Rt):Rt :=
 let r4:Rt:=(m6 (wl 1) (wl 2))
 let r5:Rt:=(fK (fA a b) r4)
 r5
end Go.Num
