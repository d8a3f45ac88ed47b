/- Lemmas: what they ask stands in their statements. -/
import Derived.ArgAppend
import Derived.Test.YtokjfhfiodopdaaGreatZGD
import Derived.Test.YtokjfhfiodopdaaGreatProg
set_option linter.unusedSimpArgs false
set_option linter.unusedVariables false
set_option maxRecDepth 20000
namespace Go.Kn
open Go
def Frq (M L R:List Blk):Prop:=M.Perm (L++R)
theorem fV {x:Blk} {R:List Blk}:Frq (x::R) [x] R:=List.Perm.refl _
theorem oT {L R:List Blk}:Frq (L++R) L R:=List.Perm.refl _
theorem bT {x:Blk} {R L R':List Blk} (h:Frq R L R'):Frq (x::R) L (x::R'):=(List.Perm.cons x h).trans List.perm_middle.symm
theorem tQ {L2 R L R':List Blk} (h:Frq R L R'):Frq (L2++R) L (L2++R'):=by
 have h1:(L2++R).Perm (L2++(L++R')):=List.Perm.append_left L2 h
 have h2:(L2++(L++R')).Perm (L++(L2++R')):=by
  rw [← List.append_assoc,← List.append_assoc];exact List.Perm.append_right R' List.perm_append_comm
 exact h1.trans h2
theorem Sat.perm {w0 w:World} {X:List Nat} {M M':List Blk} (h:Sat w0 X M w) (p:M.Perm M'):Sat w0 X M' w :=
 ⟨h.os,h.tape,h.output,h.size,h.old,(p.map Blk.b).nodup_iff.1 h.nodup,fun x hx=>h.mem x (p.mem_iff.2 hx)⟩
theorem OwnG.lit {α:Type} {e:El α} {w0:World} {l:List α} {E:TypeId} {b n:Nat} {qs:List Part} (hb:w0.heap.size≤b) (hn:l.length=n) (hm:n≤maxLen) (hq:qs=l.flatMap e.ps):OwnG w0 E e (.slice (some ⟨b,0,none⟩) n n) l [⟨b,E,aX qs⟩] :=
 OwnG.of_mine hb hn hm (by rw [hq];exact BO l)
theorem UR {α:Type} {e:El α} {P:Program} {w0:World} {X:List Nat} {N:Nm} {S:Fr} {M:List Blk} {d:Option Tmp} {ty:TypeId} {ps:String} {af:Array Edge} {gd:Option (Nat×Bool)} {v:Value} {l:List α}
  {T E:TypeId} {x y:Operand} {u:Value} {m:List α} {L M1:List Blk} {K:Value→List Blk→Prop} (bytes:Nat) (hT:P.underlying T=some (.slice E)) (hE:QY P E e.n bytes=true) (h0:0<e.n) (hx:evO N S x=some v) (hy:evO N S y=some u)
  (hv:OwnG w0 E e v l L) (hu:SLe w0 X M e u m) (hs:Frq M L M1) (hn:(l.length+m.length)*bytes≤140737488355328) (h8:0<bytes) (k:∀ v' L',OwnG w0 E e v' (l++m) L'→K v' (L'++M1)) :
  OpR P w0 X N ⟨d,.call { callee:=.builtin .append,args:=#[x,y],argTypes:=#[T,T] },ty,ps,af,gd⟩ S M K:=fun w hw =>
 UQ (M:=L++M1) hT hE h0 hx hy hv (fun w hw=>hu w (hw.perm (List.Perm.symm hs))) (List.Sublist.refl _) hn h8 k w (hw.perm hs)
section
variable {α:Type} {e:El α} {P:Program} {w0:World} {X:List Nat} {N:Nm} {S:Fr} {M M':List Blk} {d:Option Tmp} {ty:TypeId} {ps:String} {af:Array Edge} {gd:Option (Nat×Bool)} {v:Value} {l:List α}
theorem OpR.perm {o:Oper} {K:Value→List Blk→Prop} (p:M.Perm M') (h:OpR P w0 X N o S M' K):OpR P w0 X N o S M K:=fun w hw=>h w (hw.perm p)
theorem OwnG.form {E:TypeId} {L:List Blk} (h:OwnG w0 E e v l L):∃ p c,v = .slice p l.length c:=by
 rcases h with ⟨rfl,rfl,rfl⟩|⟨g,cap,cur,rfl,_⟩
 ·exact ⟨none,0,rfl⟩
 exact ⟨_,_,rfl⟩
theorem SLfe.max (h:SLfe w0 M e v l):l.length≤9223372036854775807:=by
 obtain ⟨p,c,hv,hc,hm,_⟩:=h;unfold maxLen at hm;omega
theorem SLfe.lit {b n:Nat} {T:TypeId} {qs:List Part} (hB:w0.heap.size≤b) (h:(⟨b,T,aX qs⟩:Blk)∈M) (hn:l.length=n) (hm:n≤maxLen) (hq:qs=l.flatMap e.ps):SLfe w0 M e (.slice (some ⟨b,0,none⟩) n n) l :=
 SLfe.mine hB h hn (Nat.le_refl _) hm (by rw [← hn,List.take_of_length_le,hq,BO];rw [hq,BO,kH];exact Nat.le_refl _)
theorem nX {T E:TypeId} {x y:Operand} {u:Value} {m:List α} {L M1:List Blk} {K:Value→List Blk→Prop} (bytes:Nat) (hT:P.underlying T=some (.slice E)) (hE:QY P E e.n bytes=true) (h0:0<e.n) (hx:evO N S x=some v) (hy:evO N S y=some u)
  (hv:OwnG w0 E e v l L) (hu:SLe w0 X M e u m) (hs:Frq M L M1) (hn:(l.length+m.length)*bytes≤140737488355328) (h8:0<bytes) (k:∀ p c L',OwnG w0 E e (.slice p (l++m).length c) (l++m) L'→K (.slice p (l++m).length c) (L'++M1)) :
  OpR P w0 X N ⟨d,.call { callee:=.builtin .append,args:=#[x,y],argTypes:=#[T,T] },ty,ps,af,gd⟩ S M K :=
 UR bytes hT hE h0 hx hy hv hu hs hn h8 fun v' L' h=>by
  obtain ⟨p,c,rfl⟩:=h.form;exact k p c L' h
theorem ZI {k:Nat} {z:α} (hk:k<l.length):(rows e l).take (k*e.n)++e.cs z++(rows e l).drop (k*e.n+e.n)=rows e (l.set k z):=by
 rw [y9,show k*e.n+e.n=(k+1)*e.n by rw [Nat.succ_mul],IQ,List.set_eq_take_append_cons_drop,if_pos hk,r8]
 simp [rows]
theorem ZD {T E:TypeId} {x y:Operand} {g:Bool} {k m:Nat} {z:α} {u:Value} {L M1:List Blk} {K:Value→List Blk→Prop} (hT:i6 P T=some (g,e.n)) (hx:evO N S x=some (.pointer (some (slb v m)))) (hm:m=k*e.n) (hv:OwnG w0 E e v l L) (hk:k<l.length)
  (hs:Frq M L M1) (hy0:evO N S y=some u) (hy:u.cells=(aX (e.ps z)).toArray) (kk:∀ L',OwnG w0 E e v (l.set k z) L'→K undef (L'++M1)):OpR P w0 X N ⟨d,.store T x y,ty,ps,af,gd⟩ S M K:=by
 subst hm;rcases hv with ⟨rfl,rfl,rfl⟩|⟨g',cap,cur,rfl,rfl,hg,hc,hmx,hl,ht⟩
 ·simp at hk
 have hx':evO N S x=some (.pointer (some ⟨g',k*e.n,none⟩)):=by rw [hx];simp [slb,nP]
 have e1:l.length*e.n≤cap*e.n:=Nat.mul_le_mul_right _ hc;have e2:(k+1)*e.n≤l.length*e.n:=Nat.mul_le_mul_right _ oo_;rw [Nat.succ_mul] at e2;have hcs:(e.cs z).length=e.n:=El.cs_len z
 have hcur:cur=rows e l++cur.drop (l.length*e.n):=by rw [← ht,List.take_append_drop]
 have hlr:=kH (e:=e) l;refine OpR.perm hs (EJ (U:=E) (cs:=cur) (vs:=e.cs z) (M':=⟨g',E,cur.take (k*e.n)++e.cs z++cur.drop (k*e.n+e.n)⟩::M1) hT hx' (.head _) hy0 hy hcs (fun v h=>El.cs_plain z v h) oo_ O (.inl hg) ?_);refine kk [⟨g',E,cur.take (k*e.n)++e.cs z++cur.drop (k*e.n+e.n)⟩] (.inr ⟨g',cap,_,by rw [List.length_set],rfl,hg,by rw [List.length_set];exact hc,hmx,?_,?_⟩)
 ·rw [List.length_append,List.length_append,List.length_take,List.length_drop,hcs,hl,Nat.min_eq_left oo_];omega
 rw [List.length_set,← ZI hk]
 have t1:cur.take (k*e.n)=(rows e l).take (k*e.n):=by rw [← ht,List.take_take,Nat.min_eq_left oo_]
 have t2:(cur.drop (k*e.n+e.n)).take (l.length*e.n - (k*e.n+e.n))=(rows e l).drop (k*e.n+e.n):=by rw [← ht,List.drop_take]
 rw [t1]
 have n1:((rows e l).take (k*e.n)++e.cs z).length=k*e.n+e.n:=by rw [List.length_append,List.length_take,hcs,hlr,Nat.min_eq_left oo_]
 rw [List.take_append,n1,t2,List.take_of_length_le (by rw [n1];omega)]
end
end Go.Kn
namespace Go.Num
open Go Go.Kn
theorem e7_ {a b:Int} (h:(a != b)=false):a=b:=by simpa using h
theorem e8_ {a b:Int} (h:(a != b)=true):a≠b:=by simpa using h
theorem trs {α:Type} {a b c:α} (h2:b=c) (h1:a=b):a=c:=h1.trans h2
theorem apS {σ β:Type} {f:σ→β} {x s:σ} (h:x=s):ap f x=f s:=by rw [h];rfl
theorem smS {σ ρ β:Type} {f:σ→β} {g:ρ→β} {x:σ ⊕ ρ} {s:σ} (h:x = .inl s):sm f g x=f s:=by rw [h];rfl
structure Edg where
 l:List (A3 Rt)
 e:W
structure Pts where
 l:List Rt
 is:Bool
end Go.Num
namespace Go.Kn
open Go Go.Num
def FnV {α:Type} (P:Program) (w:World) (v:Value) (enc:α→List Value) (dom:α→Prop) (out:α→Value):Prop :=
 ∃ g cap,v = .func (.func g) #[] cap.toArray∧j5 P g=true∧∀ w',Ext w w'→∀ x,dom x→Calls P g (enc x++cap).toArray w' fun e w''=>e = .returned (out x)∧Ext w' w''
def FnE {α:Type} (P:Program) (w0:World) (X:List Nat) (M:List Blk) (g:Nat) (cap:List Value) (enc:α→List Value) (dom:α→Prop) (out:α→Value):Prop :=
 j5 P g=true∧∀ w,Sat w0 X M w→∀ x,dom x→Calls P g (enc x++cap).toArray w fun e w''=>e = .returned (out x)∧Ext w w''
section
variable {α:Type} {P:Program} {w0:World} {X:List Nat} {N:Nm} {S:Fr} {M M':List Blk} {d:Option Tmp} {ty:TypeId} {ps:String} {af:Array Edge} {gd:Option (Nat×Bool)} {enc:α→List Value} {dom:α→Prop} {out:α→Value} {g:Nat} {cap:List Value}
theorem FnV.open {w:World} {v:Value} (h:FnV P w v enc dom out):∃ g cap,v = .func (.func g) #[] cap.toArray∧FnE P w [] [] g cap enc dom out:=by
 obtain ⟨g,cap,hv,he,hc⟩:=h;exact ⟨g,cap,hv,he,fun w' hw' x hx=>hc w' hw'.ext x hx⟩
theorem FnV.mk {w:World} (hw:Sat w0 X M w) (he:j5 P g=true) (h:∀ w,Sat w0 X M w→∀ x,dom x→Calls P g (enc x++cap).toArray w fun e w''=>e = .returned (out x)∧Ext w w''):FnV P w (.func (.func g) #[] cap.toArray) enc dom out :=
 ⟨g,cap,rfl,he,fun w' hx x hd=>h w' (Sat.mono _ _ _ _ _ hw hx) x hd⟩
theorem FnE.sub (h:FnE P w0 X M g cap enc dom out) (hs:M.Sublist M'):FnE P w0 X M' g cap enc dom out:=⟨h.1,fun w hw=>h.2 w (hw.sub hs)⟩
theorem FnE.ap {w:World} (hw:Sat w0 X M w) (h:FnE P w0 X M g cap enc dom out):FnV P w (.func (.func g) #[] cap.toArray) enc dom out:=FnV.mk hw h.1 h.2
theorem FnV.get {w:World} (h:FnV P w (.func (.func g) #[] cap.toArray) enc dom out):FnE P w [] [] g cap enc dom out:=by
 obtain ⟨g',cap',hv,he⟩:=h.open
 have e1:g=g'∧cap=cap':=by simpa using hv
 obtain ⟨rfl,rfl⟩:=e1;exact he
theorem Y0 {f:Operand} {xs:List Operand} {tys:Array TypeId} (x:α) (hf:evO N S f=some (.func (.func g) #[] cap.toArray)) (ha:evL N S xs=some (enc x)) (h:FnE P w0 X M g cap enc dom out) (hx:dom x) :
  OpQ P w0 X N ⟨d,.call { callee:=.value f,args:=xs.toArray,argTypes:=tys },ty,ps,af,gd⟩ S M (out x) :=
 bn_ (first:=[]) (cap:=cap) (args:=enc x) h.1 hf ha fun w hw=>by simpa using h.2 w hw x hx
end
abbrev eN (k:Nat):List Value:=[.int .i64 (k:Int)]
abbrev eI (x:I):List Value:=[AV [pI x]]
abbrev eII (x:I×I):List Value:=[AV [pI x.1],AV [pI x.2]]
abbrev eRt (x:Rt):List Value:=[AV [pI x.n,pI x.d]]
abbrev bl_ {α:Type} (f:α→I) (x:α):Value:=AV [pI (f x)]
abbrev bk_ {α:Type} (f:α→Bool) (x:α):Value:=.bool (f x)
theorem cvE {t:Int} (h:-9223372036854775808≤t∧t≤9223372036854775807):(W.cv t).1=t:=by
 show IntKind.i64.wrap t=t
 exact wi h
section
variable {α:Type} {e:El α} {P:Program} {w0:World} {X:List Nat} {N:Nm} {S:Fr} {M M':List Blk} {d:Option Tmp} {ty:TypeId} {ps:String} {af:Array Edge} {gd:Option (Nat×Bool)} {v:Value} {l:List α}
theorem Slr.form {w:World} (h:Slr w e v l):∃ p c,v = .slice p l.length c:=by
 obtain ⟨p,c,hv,_⟩:=h;exact ⟨p,c,hv⟩
theorem lV {T:TypeId} {x y:Operand} {k:Nat} {i:IntKind} {t:Int} (hT:kG P T=some e.n) (hx:evO N S x=some v) (hy:evO N S y=some (.int i t)) (ht:t=(k:Int)) (hv:SLe w0 X M e v l) (hk:k<l.length) :
  OpQ P w0 X N ⟨d,.indexAddr T x y,ty,ps,af,gd⟩ S M (.pointer (some (slb v (k*e.n)))):=by
 subst ht;exact iT hT hx hy hv hk
theorem OwnG.take {E:TypeId} {p:Option Addr} {n c:Nat} {L:List Blk} (h:OwnG w0 E e (.slice p n c) l L) {k:Nat} (hk:k≤l.length):OwnG w0 E e (.slice p (l.take k).length c) (l.take k) L:=by
 have hl:(l.take k).length=k:=by rw [List.length_take,Nat.min_eq_left hk]
 rcases h with ⟨h,rfl,rfl⟩|⟨g,cap,cur,h,rfl,hg,hc,hm,hn,ht⟩
 ·cases h
  obtain rfl:k=0:=by simpa using hk
  exact .inl ⟨rfl,rfl,rfl⟩
 ·cases h
  refine .inr ⟨g,c,cur,rfl,rfl,hg,by omega,hm,hn,?_⟩;rw [hl,← y9,← ht,List.take_take,Nat.min_eq_left (Nat.mul_le_mul_right _ hk)]
theorem bo_ {T E:TypeId} {x y:Operand} {k n c:Nat} {i:IntKind} {t:Int} {p:Option Addr} {L:List Blk} (hT:kG P T=some e.n) (hx:evO N S x=some (.slice p n c)) (hy:evO N S y=some (.int i t)) (ht:t=(k:Int)) (hv:OwnG w0 E e (.slice p n c) l L) (hk:k≤l.length) :
  OpQ P w0 X N ⟨d,.slice T x none (some y) none,ty,ps,af,gd⟩ S M (.slice p (l.take k).length c):=by
 subst ht
 have hl:(l.take k).length=k:=by rw [List.length_take,Nat.min_eq_left hk]
 rw [hl]
 have hn:n=l.length∧l.length≤c:=by
  rcases hv with ⟨h,rfl,rfl⟩|⟨g,cap,cur,h,rfl,hg,hc,hm,hn,ht⟩
  ·cases h;exact ⟨rfl,Nat.le_refl _⟩
  ·cases h;exact ⟨rfl,hc⟩
 refine mL (w0:=w0) (X:=X) (M:=M) (fun w hw=>?_);obtain ⟨e',q,hu,hi',hs⟩:=oY hT;have hb:=zT (P:=P) (N:=N) (S:=S) (w:=w) (isSl:=true) (len:=n) (cap:=c) (lo:=none) (hi:=some y) (l:=0) (h:=(k:Int)) O (by simp [w8,hy]) oo_ oo_ oo_;simp only [Option.map_none,Option.map_some] at hb;simp only [execOp,Instr.sliceAt,Instr.slice,Sem.run_bind,run_underlying hu,bO hx,Result.andThen_ok];simp only [Option.map_none,Option.map_some,hb,Result.andThen_ok,sizeOf,typeInfo,Sem.run_bind,run_program,hi',hs,Sem.run_pure]
 cases p<;>simp [Addr.add]
def Rpl (M L:List Blk) (f:List Blk→List Blk):Prop:=∃ R,Frq M L R∧∀ L',(L'++R).Perm (f L')
theorem by_ {L R:List Blk}:Rpl (L++R) L (fun L'=>L'++R):=⟨R,oT,fun _=>List.Perm.refl _⟩
theorem d3_ {x:Blk} {R L:List Blk} {f:List Blk→List Blk} (h:Rpl R L f):Rpl (x::R) L (fun L'=>x::f L'):=by
 obtain ⟨R',h1,h2⟩:=h;exact ⟨x::R',bT h1,fun L'=>List.perm_middle.trans (List.Perm.cons x (h2 L'))⟩
theorem fr_ {K R L:List Blk} {f:List Blk→List Blk} (h:Rpl R L f):Rpl (K++R) L (fun L'=>K++f L'):=by
 obtain ⟨R',h1,h2⟩:=h;refine ⟨K++R',tQ h1,fun L'=>?_⟩
 have h3:(L'++(K++R')).Perm (K++(L'++R')):=by
  rw [← List.append_assoc,← List.append_assoc];exact List.Perm.append_right R' List.perm_append_comm
 exact h3.trans (List.Perm.append_left K (h2 L'))
theorem BL {T E:TypeId} {x y:Operand} {g:Bool} {k m:Nat} {z:α} {u:Value} {L:List Blk} {f:List Blk→List Blk} {K:Value→List Blk→Prop} (hT:i6 P T=some (g,e.n)) (hx:evO N S x=some (.pointer (some (slb v m)))) (hm:m=k*e.n) (hv:OwnG w0 E e v l L) (hk:k<l.length)
  (hs:Rpl M L f) (hy0:evO N S y=some u) (hy:u.cells=(aX (e.ps z)).toArray) (kk:∀ L',OwnG w0 E e v (l.set k z) L'→K undef (f L')):OpR P w0 X N ⟨d,.store T x y,ty,ps,af,gd⟩ S M K:=by
 obtain ⟨R,h1,h2⟩:=hs;intro w hw;have h:=ZD (w0:=w0) (X:=X) (M:=M) (d:=d) (ty:=ty) (ps:=ps) (af:=af) (gd:=gd) (K:=fun u M'=>∃ M2,M'.Perm M2∧K u M2) hT hx hm hv hk h1 hy0 hy (fun L' ho=>⟨f L',h2 L',kk L' ho⟩) w hw;refine vM ?_ h;rintro u w' ⟨hk',M',hs',M2,hp,hK⟩;exact ⟨hk',M2,hs'.perm hp,hK⟩
theorem OwnG.len {E:TypeId} {p:Option Addr} {n c:Nat} {L:List Blk} (h:OwnG w0 E e (.slice p n c) l L):n=l.length:=by
 rcases h with ⟨h,rfl,rfl⟩|⟨g,cap,cur,h,_⟩
 ·cases h;rfl
 ·cases h;rfl
theorem UD (x0:α) (h0:0<e.n) (c:Nat):madeCells (e.cs x0).toArray (c*e.n)=(rows e (List.replicate c x0)).toArray:=by
 apply Array.ext
 ·rw [size_madeCells,List.size_toArray,kH,List.length_replicate]
 intro i h1 h2;have hlen:(e.cs x0).length=e.n:=El.cs_len x0;rw [size_madeCells] at h1;have hq:i / e.n<c:=Nat.div_lt_of_lt_mul (by rw [Nat.mul_comm];exact h1);have hr:i % e.n<e.n:=Nat.mod_lt _ h0
 have hk:(List.replicate c x0)[i / e.n]? = some x0:=by rw [List.getElem?_replicate,if_pos hq]
 have hg:=OL (e:=e) hk
 have h3:(rows e (List.replicate c x0))[i]? = some ((e.cs x0)[i % e.n]'oo_):=by
  have h4:(((rows e (List.replicate c x0)).drop (i / e.n*e.n)).take e.n)[i % e.n]? = some ((e.cs x0)[i % e.n]'oo_):=by rw [hg];exact List.getElem?_eq_getElem _
  rw [List.getElem?_take_of_lt hr,List.getElem?_drop,Nat.div_add_mod' i e.n] at h4;exact h4
 have h5:(rows e (List.replicate c x0)).toArray[i]? = some ((e.cs x0)[i % e.n]'oo_):=by simpa using h3
 rw [Array.getElem?_eq_getElem h2] at h5;rw [Option.some.inj h5];simp only [madeCells,Array.getElem_map,Array.getElem_range,List.size_toArray,hlen];rw [getElem!_pos (e.cs x0).toArray (i % e.n) (by rw [List.size_toArray,hlen];exact hr)]
 simp
theorem SP {T E:TypeId} {x y:Operand} {n c:Nat} {i j:IntKind} {s t:Int} {K:Value→List Blk→Prop} (bytes:Nat) (x0:α) (hT:P.underlying T=some (.slice E)) (hE:QY P E e.n bytes=true) (h0:0<e.n) (hz:kZ P E=some (e.cs x0)) (hx:evO N S x=some (.int i s)) (hy:evO N S y=some (.int j t))
  (hs:s=(n:Int)) (ht:t=(c:Int)) (hnc:n≤c) (hcm:c≤200000) (hen:e.n≤80) (hby:bytes≤1000) (k:∀ p L,OwnG w0 E e (.slice p (List.replicate n x0).length c) (List.replicate n x0) L→K (.slice p (List.replicate n x0).length c) (L++M)) :
  OpR P w0 X N ⟨d,.makeSlice T x y,ty,ps,af,gd⟩ S M K:=by
 subst hs ht;intro w hw;obtain ⟨inf,z,hi,hz',hc⟩:=u1 hz;unfold QY at hE;simp only [hi,hz',Bool.and_eq_true,beq_iff_eq] at hE;obtain ⟨⟨h1,hb⟩,hzc⟩:=hE;have b1:c*e.n≤200000*80:=Nat.mul_le_mul hcm hen;have b2:bytes*c≤1000*200000:=Nat.mul_le_mul hby hcm;have hr:=run_makeSlice (P:=P) w T E inf z hT hi hz' i j n c oo_ oo_ (by rw [h1,Int.toNat_natCast];omega) (by rw [hb];omega) oo_;rw [h1,hc,Int.toNat_natCast,Int.toNat_natCast,UD x0 h0] at hr;unfold opw
 have hex:(execOp (ev N S) ⟨d,.makeSlice T x y,ty,ps,af,gd⟩).run P w = .ok (.value (.slice (some ⟨w.heap.size,0,none⟩) n c)) (w.alloc (.cells (rows e (List.replicate c x0)).toArray E)):=by
  simp [execOp,bO hx,bO hy,hr]
 rw [kV,hex];have hl:(List.replicate n x0).length=n:=List.length_replicate
 have hk:=k (some ⟨w.heap.size,0,none⟩) [⟨w.heap.size,E,rows e (List.replicate c x0)⟩] (.inr ⟨w.heap.size,c,_,rfl,rfl,hw.size,by rw [hl];exact hnc,by unfold maxLen;omega,by rw [kH,List.length_replicate],by
  rw [hl,y9,List.take_replicate,Nat.min_eq_left hnc]⟩)
 rw [hl] at hk;exact ⟨.alloc _ _,_,hw.alloc E _,hk⟩
theorem VO {c:Code} {Q:mO} {M2:List Blk} (p:M.Perm M2) (h:W P w0 X N c Q S M2):W P w0 X N c Q S M:=fun B D w hB hd hr hw=>h B D w hB hd hr (hw.perm p)
def Slo (B:Nat) (w:World) (E:TypeId) (e:El α) (v:Value) (l:List α):Prop :=
 (v = .slice none 0 0∧l=[]) ∨ ∃ g cap,∃ cur:List Value,v = .slice (some ⟨g,0,none⟩) l.length cap∧B≤g∧w.heap[g]? = some (.cells cur.toArray E (0,0))∧l.length≤cap∧cap≤maxLen∧cur.length=cap*e.n∧cur.take (l.length*e.n)=rows e l
theorem OwnG.slo {E:TypeId} {L:List Blk} {w:World} (h:OwnG w0 E e v l L) (hs:L.Sublist M) (hw:Sat w0 X M w):Slo w0.heap.size w E e v l:=by
 rcases h with ⟨rfl,rfl,rfl⟩|⟨g,cap,cur,rfl,rfl,hg,hc,hm,hn,ht⟩
 ·exact .inl ⟨rfl,rfl⟩
 exact .inr ⟨g,cap,cur,rfl,hg,hw.mem _ (hs.mem List.mem_cons_self),hc,hm,hn,ht⟩
theorem Slo.now {w w':World} {E:TypeId} (h:Slo w.heap.size w' E e v l) (hw:Sat w0 X M w) (he:Ext w w'):∃ p c L,v = .slice p l.length c∧Sat w0 X (L++M) w'∧OwnG w0 E e (.slice p l.length c) l L:=by
 have hw':=Sat.mono _ _ _ _ _ hw he;rcases h with ⟨rfl,rfl⟩|⟨g,cap,cur,rfl,hB,hh,hc,hm,hn,ht⟩
 ·exact ⟨none,0,[],rfl,hw',.inl ⟨rfl,rfl,rfl⟩⟩
 have hb:g ∉ M.map Blk.b:=fun hm=>by
  obtain ⟨x,hx,rfl⟩:=List.mem_map.1 hm;have:=dP? (hw.mem x hx);omega
 refine ⟨_,cap,[⟨g,E,cur⟩],rfl,⟨hw'.os,hw'.tape,hw'.output,hw'.size,hw'.old,by simpa using And.intro (by simpa using hb) hw'.nodup,fun y hy=>?_⟩,.inr ⟨g,cap,cur,rfl,rfl,Nat.le_trans hw.size hB,hc,hm,hn,ht⟩⟩;rcases List.mem_cons.1 hy with rfl|hy
 ·exact hh
 exact hw'.mem y hy
def f1_ (w0:World) (M:List Blk) (E:TypeId) (e:El α) (v:Value) (l:List α):Prop:=∃ L,L.Sublist M∧OwnG w0 E e v l L
theorem eX {n:Nat} {E:TypeId} {f:FuncId} {fn:Func} {c:Code} {args:List Value} {w:World} (R:Value→Value) (hf:P.funcs[f]? = some fn) (hb:fn.body=some c) (hn:fn.ntmps=n) (hl:args.length≤n)
  (h:W P w [] (pl n) c (lL P fn w [] (pl n) fun r M=>∃ v,r=R v∧f1_ w M E e v l) (pP 0 args) []):Calls P f args.toArray w fun f w'=>∃ v,f = .returned (R v)∧Ext w w'∧Slo w.heap.size w' E e v l :=
 (mR hf hb hn hl (Sat.start w []) h).mono fun f w' ⟨r,M',he,hs,_,v,hr,L,hL,hu⟩=>⟨v,by rw [he,hr],hs.ext,hu.slo hL hs⟩
theorem cK {E:TypeId} {g:FuncId} {xs:List Operand} {tys:Array TypeId} {args:List Value} {K:Value→List Blk→Prop} (R:Value→Value) (he:j5 P g=true) (ha:evL N S xs=some args)
  (h:∀ w,Sat w0 X M w→Calls P g args.toArray w fun f w'=>∃ v,f = .returned (R v)∧Ext w w'∧Slo w.heap.size w' E e v l) (k:∀ p c L,OwnG w0 E e (.slice p l.length c) l L→K (R (.slice p l.length c)) (L++M)):OpR P w0 X N ⟨d,.call { callee:=.value (.func g),args:=xs.toArray,argTypes:=tys },ty,ps,af,gd⟩ S M K :=
 AB he ha fun w hw=>(h w hw).mono fun _ w' ⟨v,h1,h2,h3⟩=>by
  obtain ⟨p,c,L,rfl,hs,hv⟩:=h3.now hw h2;exact ⟨_,L++M,h1,hs,Ext.keeps h2,k p c L hv⟩
theorem OwnG.max {E:TypeId} {L:List Blk} (h:OwnG w0 E e v l L):l.length≤9223372036854775807:=(h.slfe (List.Sublist.refl L)).max
abbrev WI:Part:=⟨1,[.nilFunc],rfl,fun v h=>by rw [List.mem_singleton.1 h];rfl⟩
end
end Go.Kn
namespace Go.Num
open Go Go.Kn
structure Sgd where
 s:W
 ok:Bool
structure Lst8 where
 l:List I
 is:Bool
abbrev gdI (x:I):Bool:=!x.1.bad&&x.1.valid
def gmP (b:List I):Nat:=bif b.all gdI then 2*b.length else 1
end Go.Num
namespace Go.Proofs.YtokjfhfiodopdaaGreat
open Go.Kn Go.Num Tryz
def enL_:List Nat:=[10,11,12,13,14,15,16,17,18,19,20,21,22,23,24,25,26,27,28,29,30,31,32,33,34,35,36,37,38,39,40,41,42,43,44,45,46,47,48,49,50,51,52,53,54,55,56,57,58,59,60,61,62,63,64,65,66,67,68,69,70,71,72,73,74,75,76,77,78,79,80,81,82,83,84,85,86,87,88,89,90,91,92,93,94,95,96,97,98,99,100,101,102,103,104,105,106,107,108,109,110,111,112,113,114,115,116,117,118,119,120,121,122,123,124,125,126,127,128,129,130,131,132,133,134,135,136,137,138,139,140,141,142,143,144,145,146,147,148,149,150,151,152,153,154,155,156,157,158,159,160,161,162,163,164,165,166,167,168,169,170,171,172,173,174,175,176,177,178,179,180,181,182,183,184,185,186,187,188,189,190,191,192,193,194,195,196,197]
theorem f8_:enL_.all (fun g=>j5 prog g)=true:=by kernel_rfl
theorem aM {g:Nat} (h:enL_.contains g=true:=by rfl):j5 prog g=true:=List.all_eq_true.1 f8_ g (List.contains_iff_mem.1 h)
theorem mix:prog.follows .mixedOrders=true:=by kernel_rfl
def pQa (o:List Nat):Nat→Nat→List Nat
 | 0,_=>[]
 | k+1,i=>(4*i+bif o.contains i then 1 else 0)::pQa o k (i+1)
section
variable {w0:World} {X:List Nat} {N:Nm} {S:Fr} {M MD:List Blk} {Q:mO} {y:Code} {id:Nat} {ops:List Oper}
theorem sK (sub:MD.Sublist M) (n:Nat) (o nx:List Nat) (h:PL prog w0 X N ops (nwx ops nx) MD (Nx prog w0 X N y Q) (mP ops.toArray (pQa o n 0)) S M)
 (hok:(Region.noSelect ops.toArray&&Plan.ok ops.toArray (nwx ops nx) ops.length (Array.replicate ops.length false) (mP ops.toArray (pQa o n 0)))=true:=by kernel_rfl):Go.Kn.W prog w0 X N (.seq (.region id ops.toArray true) y) Q S M:=gds sub _ nx mix hok h
theorem qH (sub:MD.Sublist M) (n:Nat) (o nx:List Nat) (h:PL prog w0 X N ops (nwx ops nx) MD (Nk Q) (mP ops.toArray (pQa o n 0)) S M)
 (hok:(Region.noSelect ops.toArray&&Plan.ok ops.toArray (nwx ops nx) ops.length (Array.replicate ops.length false) (mP ops.toArray (pQa o n 0)))=true:=by kernel_rfl):Go.Kn.W prog w0 X N (.region id ops.toArray true) Q S M:=gdr sub _ nx mix hok h
end
instance:FAr prog 25 (16,1):=⟨by kernel_rfl⟩
instance:FAr prog 112 (2,18):=⟨by kernel_rfl⟩
instance:FAr prog 168 (32,1):=⟨by kernel_rfl⟩
instance:FAr prog 181 (17,1):=⟨by kernel_rfl⟩
theorem AM:GW prog 4=true:=by kernel_rfl
theorem E6:prog.eqGuardType prog.depth 25=false:=by kernel_rfl
theorem RI:prog.eqGuardType prog.depth 27=false:=by kernel_rfl
theorem eM_:prog.eqGuardType prog.depth 29=false:=by kernel_rfl
theorem W3:prog.eqGuardType prog.depth 49=false:=by kernel_rfl
instance:FFd prog 27 0 (0,1):=⟨by kernel_rfl⟩
instance:FFd prog 27 1 (1,1):=⟨by kernel_rfl⟩
instance:FFd prog 27 2 (2,16):=⟨by kernel_rfl⟩
instance:FFd prog 29 0 (0,18):=⟨by kernel_rfl⟩
instance:FFd prog 29 1 (18,18):=⟨by kernel_rfl⟩
instance:FFd prog 37 0 (0,1):=⟨by kernel_rfl⟩
instance:FFd prog 37 1 (1,1):=⟨by kernel_rfl⟩
instance:FFd prog 45 0 (0,1):=⟨by kernel_rfl⟩
instance:FFd prog 45 1 (1,1):=⟨by kernel_rfl⟩
instance:FFd prog 49 0 (0,36):=⟨by kernel_rfl⟩
instance:FFd prog 49 1 (36,36):=⟨by kernel_rfl⟩
instance:FFd prog 53 0 (0,72):=⟨by kernel_rfl⟩
instance:FFd prog 53 1 (72,1):=⟨by kernel_rfl⟩
instance:FFd prog 53 2 (73,1):=⟨by kernel_rfl⟩
instance:FFd prog 72 0 (0,1):=⟨by kernel_rfl⟩
instance:FFd prog 72 1 (1,1):=⟨by kernel_rfl⟩
instance:FFd prog 74 0 (0,1):=⟨by kernel_rfl⟩
instance:FFd prog 74 1 (1,1):=⟨by kernel_rfl⟩
instance:FFl prog 74 0 (0,1,false):=⟨by kernel_rfl⟩
theorem sL:BY prog 3=some .i64:=by kernel_rfl
theorem NO:BY prog 5=some .u8:=by kernel_rfl
theorem fX:BY prog 24=some .u32:=by kernel_rfl
theorem w9:BY prog 68=some .i8:=by kernel_rfl
theorem eV:BY prog 152=some .u64:=by kernel_rfl
theorem FN:kL prog 8 25=some (true,(List.replicate 16 (some IntKind.u32))):=by kernel_rfl
theorem R6:kL prog 8 27=some (true,LI):=by kernel_rfl
theorem e1_:kL prog 8 29=some (true,(LI++LI)):=by kernel_rfl
theorem X7:kL prog 8 49=some (true,(LI++(LI++(LI++LI)))):=by kernel_rfl
theorem QB:O4 prog 3=true:=by kernel_rfl
instance:FPl prog 27 [(0,1),(1,1),(2,16)]:=⟨by kernel_rfl⟩
instance:FPl prog 29 [(0,18),(18,18)]:=⟨by kernel_rfl⟩
instance:FPl prog 37 [(0,1),(1,1)]:=⟨by kernel_rfl⟩
instance:FPl prog 45 [(0,1),(1,1)]:=⟨by kernel_rfl⟩
instance:FPl prog 49 [(0,36),(36,36)]:=⟨by kernel_rfl⟩
instance:FPl prog 53 [(0,72),(72,1),(73,1)]:=⟨by kernel_rfl⟩
instance:FPl prog 74 [(0,1),(1,1)]:=⟨by kernel_rfl⟩
theorem oL:kG prog 22=some 18:=by kernel_rfl
theorem dY:kG prog 23=some 18:=by kernel_rfl
theorem OT:kG prog 41=some 72:=by kernel_rfl
theorem uG:kG prog 67=some 2:=by kernel_rfl
theorem jQ:kG prog 85=some 1:=by kernel_rfl
theorem GG:kG prog 90=some 1:=by kernel_rfl
theorem ZQ:kG prog 162=some 36:=by kernel_rfl
theorem d7_:kG prog 170=some 1:=by kernel_rfl
theorem bC_:prog.underlying 9=some .string:=by kernel_rfl
theorem sF:(prog.info? 3).map (·.size)=some 1:=by kernel_rfl
theorem cs_:(prog.info? 23).map (·.size)=some 1:=by kernel_rfl
theorem nB:(prog.info? 27).map (·.size)=some 18:=by kernel_rfl
theorem ZX:(prog.info? 29).map (·.size)=some 36:=by kernel_rfl
theorem ct_:(prog.info? 49).map (·.size)=some 72:=by kernel_rfl
theorem gx_:i6 prog 3=some (false,1):=by kernel_rfl
instance:FTy prog 3 (false,1):=⟨gx_⟩
theorem gy_:i6 prog 4=some (false,1):=by kernel_rfl
instance:FTy prog 4 (false,1):=⟨gy_⟩
theorem fv_:i6 prog 22=some (false,1):=by kernel_rfl
instance:FTy prog 22 (false,1):=⟨fv_⟩
theorem fw_:i6 prog 23=some (false,1):=by kernel_rfl
instance:FTy prog 23 (false,1):=⟨fw_⟩
theorem fx_:i6 prog 24=some (false,1):=by kernel_rfl
instance:FTy prog 24 (false,1):=⟨fx_⟩
theorem fy_:i6 prog 25=some (true,16):=by kernel_rfl
instance:FTy prog 25 (true,16):=⟨fy_⟩
theorem fz_:i6 prog 27=some (true,18):=by kernel_rfl
instance:FTy prog 27 (true,18):=⟨fz_⟩
theorem fA_:i6 prog 29=some (true,36):=by kernel_rfl
instance:FTy prog 29 (true,36):=⟨fA_⟩
theorem fB_:i6 prog 33=some (false,1):=by kernel_rfl
instance:FTy prog 33 (false,1):=⟨fB_⟩
theorem fC_:i6 prog 37=some (true,2):=by kernel_rfl
instance:FTy prog 37 (true,2):=⟨fC_⟩
theorem fD_:i6 prog 41=some (false,1):=by kernel_rfl
instance:FTy prog 41 (false,1):=⟨fD_⟩
theorem fE_:i6 prog 45=some (true,2):=by kernel_rfl
instance:FTy prog 45 (true,2):=⟨fE_⟩
theorem fF_:i6 prog 49=some (true,72):=by kernel_rfl
instance:FTy prog 49 (true,72):=⟨fF_⟩
theorem fG_:i6 prog 53=some (true,74):=by kernel_rfl
instance:FTy prog 53 (true,74):=⟨fG_⟩
theorem fH_:i6 prog 68=some (false,1):=by kernel_rfl
instance:FTy prog 68 (false,1):=⟨fH_⟩
theorem fI_:i6 prog 72=some (true,2):=by kernel_rfl
instance:FTy prog 72 (true,2):=⟨fI_⟩
theorem fJ_:i6 prog 74=some (true,2):=by kernel_rfl
instance:FTy prog 74 (true,2):=⟨fJ_⟩
theorem fK_:i6 prog 90=some (false,1):=by kernel_rfl
instance:FTy prog 90 (false,1):=⟨fK_⟩
theorem fL_:i6 prog 98=some (false,1):=by kernel_rfl
instance:FTy prog 98 (false,1):=⟨fL_⟩
theorem ee_:i6 prog 108=some (false,1):=by kernel_rfl
instance:FTy prog 108 (false,1):=⟨ee_⟩
theorem ef_:i6 prog 112=some (true,36):=by kernel_rfl
instance:FTy prog 112 (true,36):=⟨ef_⟩
theorem eg_:i6 prog 113=some (false,1):=by kernel_rfl
instance:FTy prog 113 (false,1):=⟨eg_⟩
theorem nC:prog.underlying 22=some (.slice 27):=by kernel_rfl
theorem zO:prog.underlying 23=some (.slice 27):=by kernel_rfl
theorem Z5:prog.underlying 41=some (.slice 49):=by kernel_rfl
theorem lJ:prog.underlying 85=some (.slice 3):=by kernel_rfl
theorem Z6:prog.underlying 90=some (.slice 23):=by kernel_rfl
theorem QZ:prog.underlying 162=some (.slice 29):=by kernel_rfl
theorem z_3:kZ prog 3=some [.int .i64 0]:=by kernel_rfl
theorem fT_:kZ prog 23=some [.slice none 0 0]:=by kernel_rfl
theorem oA:kZ prog 25=some (uw (List.replicate 16 0)):=by kernel_rfl
theorem kF:kZ prog 27=some zR:=by kernel_rfl
theorem ej_:kZ prog 29=some (([.bool false]++[.bool false]++(List.replicate 16 (.int .u32 0)))++([.bool false]++[.bool false]++(List.replicate 16 (.int .u32 0)))):=by kernel_rfl
theorem fU_:kZ prog 49=some ((([.bool false]++[.bool false]++(List.replicate 16 (.int .u32 0)))++([.bool false]++[.bool false]++(List.replicate 16 (.int .u32 0))))++(([.bool false]++[.bool false]++(List.replicate 16 (.int .u32 0)))++([.bool false]++[.bool false]++(List.replicate 16 (.int .u32 0))))):=by kernel_rfl
theorem fR_:kZ prog 168=some (uw (List.replicate 32 0)):=by kernel_rfl
theorem fS_:kZ prog 181=some (uw (List.replicate 17 0)):=by kernel_rfl
instance:FZp prog 3 [ci .i64 0]:=⟨by kernel_rfl⟩
instance:FZp prog 4 [cb false]:=⟨by kernel_rfl⟩
instance:FZp prog 22 [csl none 0 0]:=⟨by kernel_rfl⟩
instance:FZp prog 27 [pI I0]:=⟨by kernel_rfl⟩
instance:FZp prog 29 [pI I0,pI I0]:=⟨by kernel_rfl⟩
instance:FZp prog 37 [ci .i64 0,ci .i64 0]:=⟨by kernel_rfl⟩
instance:FZp prog 41 [csl none 0 0]:=⟨by kernel_rfl⟩
instance:FZp prog 45 [csl none 0 0,ci .i64 0]:=⟨by kernel_rfl⟩
instance:FZp prog 49 [pI I0,pI I0,pI I0,pI I0]:=⟨by kernel_rfl⟩
instance:FZp prog 53 [pI I0,pI I0,pI I0,pI I0,cb false,ci .i64 0]:=⟨by kernel_rfl⟩
instance:FZp prog 74 [ci .i64 0,cb false]:=⟨by kernel_rfl⟩
instance:FZp prog 90 [csl none 0 0]:=⟨by kernel_rfl⟩
instance:FZp prog 98 [WI]:=⟨by kernel_rfl⟩
instance:FZp prog 108 [WI]:=⟨by kernel_rfl⟩
instance:FZp prog 112 [pI I0,pI I0]:=⟨by kernel_rfl⟩
def rg (l:List Nat) (a:Nat):Nat→List Nat
 | 0=>l
 | k+1=>(a+k)::rg l a k
theorem giI {A B:Prop} (k:B) (h:Hid B→A:=by intro hk;simp only [pP,Nat.reduceAdd];exact hk.h):A:=h ⟨k⟩
theorem gS0 {A B:Prop} (k:B) (h:Hid B→A:=by intro hk;simp only [vR,rg,Nat.reduceAdd];exact hk.h):A:=h ⟨k⟩
theorem gS1 {A B p:Prop} (e:p) (k:B) (h:p→Hid B→A:=by intro e hk;simp only [vR,rg,Nat.reduceAdd,e];exact hk.h):A:=h e ⟨k⟩
theorem gS2 {A B p q:Prop} (e:p) (f:q) (k:B) (h:p→q→Hid B→A:=by intro e f hk;simp only [vR,rg,Nat.reduceAdd,e,f];exact hk.h):A:=h e f ⟨k⟩
theorem gS3 {A B p q r:Prop} (e:p) (f:q) (g:r) (k:B) (h:p→q→r→Hid B→A:=by intro e f g hk;simp only [vR,rg,Nat.reduceAdd,e,f,g];exact hk.h):A:=h e f g ⟨k⟩
theorem wxo {n m:Int} (h:n=m:=by omega) (h1:-9223372036854775808≤m:=by omega) (h2:m≤9223372036854775807:=by omega):Value.int .i64 (IntKind.i64.wrap n)=Value.int .i64 m:=congrArg _ (wx h h1 h2)
theorem c1_ {α:Type} {e:El α} {w0:World} {X:List Nat} {M M':List Blk} {v:Value} {l:List α} {C:World→Prop} (f:∀ w,Slr w e v l→C w) (H:SLe w0 X M' e v l) (hs:M'.Sublist M):∀ w,Sat w0 X M w→C w:=fun w hw=>f w (aR hw H hs)
theorem e6 {P:Prop} (h:P:=by assumption):P:=h
theorem rI {P:Prop} (h:P:=by with_reducible first|assumption|exact ⟨hpre.1,by omega⟩|exact ⟨by assumption,by omega⟩|exact hpre.1|exact hpre.2):P:=h
theorem HE {P:Prop} (h:P:=by with_reducible first|assumption|exact hpre.1):P:=h
theorem eX_ {P:Prop} (h:P:=by with_reducible first|assumption|exact ⟨⟨by assumption,by omega⟩,⟨by assumption,by omega⟩⟩):P:=h
section
variable {w0:World} {X:List Nat} {N:Nm} {fn:Func} {R:Value→List Blk→Prop} {S:Fr} {M:List Blk} {r r1 r2:ResultVar} {v v1 v2 v':Value} {ops:List Oper} {Q:Fr→List Blk→Prop} {d:Tmp} {l:List Oper}
theorem rt1 (k:R v M) (hr:fn.results = #[r]:=by rfl) (h:uQ prog N S M r v:=by rfl):lL prog fn w0 X N R .ret S M:=fp_ hr (.inr O) h k
theorem rt2 (k:R (.tuple #[v1,v2]) M) (hr:fn.results = #[r1,r2]:=by rfl) (h:uQ prog N S M r1 v1:=by rfl) (h2:uQ prog N S M r2 v2:=by rfl):lL prog fn w0 X N R .ret S M:=sO hr (.inr O) h h2 k
theorem rtX (hr:fn.results = #[r]) (h:uQ prog N S M r v) (k:R v M):lL prog fn w0 X N R .ret S M:=fp_ hr (.inr O) h k
section
variable {g:FuncId} {xs:List Operand} {tys:Array TypeId} {args:List Value} {ty:TypeId} {ps:String} {af:Array Edge} {gd:Option (Nat×Bool)}
theorem sFc (v':Value) (ha:evL N S xs=some args) (h:∀ w,Sat w0 X M w→Calls prog g args.toArray w fun e w'=>e = .returned v∧Ext w w') (hv:v=v')
 (hd:wD N ops S (⟨some d,.call { callee:=.value (.func g),args:=xs.toArray,argTypes:=tys },ty,ps,af,gd⟩:Oper)=some d) (k:WL prog w0 X N ops Q l ((d,v')::S) M) (he:enL_.contains g=true:=by rfl) :
 WL prog w0 X N ops Q (⟨some d,.call { callee:=.value (.func g),args:=xs.toArray,argTypes:=tys },ty,ps,af,gd⟩::l) S M:=sQ (aW (eH (P:=prog) (g:=g) (aM he) ha h) hv) hd k
end
theorem sWi (m:Int) {n:Int} {o:Oper} (h:DD N ops S o=some (d,.int .i64 (IntKind.i64.wrap n))) (k:WL prog w0 X N ops Q l ((d,.int .i64 m)::S) M) (h0:n=m:=by omega) (h1:-9223372036854775808≤m:=by omega) (h2:m≤9223372036854775807:=by omega):WL prog w0 X N ops Q (o::l) S M:=sV _ h (congrArg _ (wx h0 h1 h2)) k
end
open Go Go.Kn Go.Num
def vS0 (r:Bool):Value:=.bool r
def vS1 (r:Bool×W):Value:=.tuple #[.bool r.1,.int .i64 r.2.1]
def vS2 (r:I):Value:=AV [pI r]
def vS3 (r:I×I):Value:=.tuple #[AV [pI r.1],AV [pI r.2]]
def vS4 (r:Iv×Bool×W):Value:=.tuple #[AV [pI r.1.lo.n,pI r.1.lo.d,pI r.1.hi.n,pI r.1.hi.d],.bool r.2.1,.int .i64 r.2.2.1]
def vS5 (r:Iv×W):Value:=.tuple #[AV [pI r.1.lo.n,pI r.1.lo.d,pI r.1.hi.n,pI r.1.hi.d],.int .i64 r.2.1]
def vS6 (r:Rt):Value:=AV [pI r.n,pI r.d]
def vS7 (r:Sgd):Value:=AV [cw r.s.1,cb r.ok]
def vS8 (r:W):Value:=.int .i64 r.1
def vS9 (r:W×Bool):Value:=.tuple #[.int .i64 r.1.1,.bool r.2]
def vS10 (r:W×W):Value:=.tuple #[.int .i64 r.1.1,.int .i64 r.2.1]
end Go.Proofs.YtokjfhfiodopdaaGreat
namespace Go.Num
open Go Go.Kn
def lH (a:I):I :=
 bif a.1.good then (E (Z.of (sgn (!a.1.neg) (val a.1.w)))) else (E Z.bad)
def lG (a:I):I :=
 bif a.1.good then (E (Z.of (sgn false (val a.1.w)))) else (E Z.bad)
def iO (a:I) (b:I):I :=
 bif ((iK a.1)&&(iK b.1)) then (E (Z.of (W.add (fJ a) (fJ b)).1)) else (bif (!a.1.good||(!b.1.good)) then (E Z.bad) else (bif (a.1.neg==b.1.neg) then (E (Z.of (sgn a.1.neg ((val a.1.w)+(val b.1.w))))) else (bif decide ((val a.1.w)<(val b.1.w)) then (E (Z.of (sgn b.1.neg ((val b.1.w) - (val a.1.w))))) else (E (Z.of (sgn a.1.neg ((val a.1.w) - (val b.1.w))))))))
def j9 (a:I) (b:I):I :=
 bif ((iK a.1)&&((iK b.1)&&((decide ((fJ a).1<2147483648)&&decide (-2147483648<(fJ a).1))&&(decide ((fJ b).1<2147483648)&&decide (-2147483648<(fJ b).1))))) then (E (Z.of (W.mul (fJ a) (fJ b)).1)) else (bif (!a.1.good||(!b.1.good)) then (E Z.bad) else (E (Z.of (sgn (a.1.neg != b.1.neg) ((val a.1.w)*(val b.1.w))))))
def jX (a:I):W :=
 bif (!a.1.good||(((dl (val a.1.w)).length:Int)==0)) then (wl 0) else (bif a.1.neg then (wl (-1)) else (wl 1))
def jE (a:I) (b:I):I :=
 bif ((iK a.1)&&((iK b.1)&&((fJ b).1 != 0))) then (E (Z.of (W.fdiv (fJ a) (fJ b)).1)) else (bif (!a.1.good||(!b.1.good||(((dl (val b.1.w)).length:Int)==0))) then (E Z.bad) else (bif ((a.1.neg != b.1.neg)&&decide (0<((dl ((val a.1.w) % (val b.1.w))).length:Int))) then (E (Z.of (sgn (a.1.neg != b.1.neg) (((val a.1.w) / (val b.1.w))+1)))) else (E (Z.of (sgn (a.1.neg != b.1.neg) ((val a.1.w) / (val b.1.w)))))))
def F_ratio_one :I :=
 let q0:I:=(E (Z.of 1))
 q0
def pN :Rt :=
 let q0:I:=(E Z.bad)
 let q1:I:=F_ratio_one
 (⟨q0,q1⟩:Rt)
def jN (a:I):Bool :=
 (!a.1.bad&&a.1.valid)
def bX (a:Rt):Bool :=
 ((jN a.n)&&((jN a.d)&&(decide (0<(Z.signW a.d.dec).1)&&decide ((E (Z.gcd a.n.dec a.d.dec))=F_ratio_one))))
def cH (a:I) (b:I):Rt :=
 bif (!(jN a)||(!(jN b)||((Z.signW b.dec).1==0))) then pN else (bif decide ((Z.signW b.dec).1<0) then (⟨(E (Z.quo a.dec (Z.neg (Z.gcd a.dec b.dec)))),(E (Z.quo b.dec (Z.neg (Z.gcd a.dec b.dec))))⟩:Rt) else (⟨(E (Z.quo a.dec (Z.gcd a.dec b.dec))),(E (Z.quo b.dec (Z.gcd a.dec b.dec)))⟩:Rt))
def m9 (a:Rt):Rt :=
 bif (bX a) then (⟨(E (Z.neg a.n.dec)),a.d⟩:Rt) else (pN)
def kS (a:Rt) (b:Rt):Rt :=
 bif (!(bX a)||(!(bX b))) then pN else (let r15:I:=(E (Z.add (Z.mul a.n.dec (Z.quo b.d.dec (Z.gcd a.d.dec b.d.dec))) (Z.mul b.n.dec (Z.quo a.d.dec (Z.gcd a.d.dec b.d.dec)))))
 let r16:Rt:=(cH r15 (E (Z.mul (Z.quo a.d.dec (Z.gcd a.d.dec b.d.dec)) b.d.dec)))
 r16)
def gJ (a:Rt) (b:Rt):Rt :=
 (kS a (m9 b))
def iX (a:Rt) (b:Rt):Rt :=
 bif (!(bX a)||(!(bX b))) then pN else (let r26:I:=(E (Z.mul ((cH a.n b.d).n).dec ((cH b.n a.d).n).dec))
 let r27:I:=(E (Z.mul ((cH a.n b.d).d).dec ((cH b.n a.d).d).dec))
 bif (r26.1.bad||r27.1.bad) then pN else (⟨r26,r27⟩:Rt))
def F_skewbackref04_one :I :=
 let q0:I:=(E (Z.of 1))
 q0
def gW :Rt :=
 let q0:I:=(E Z.bad)
 let q1:I:=F_skewbackref04_one
 (⟨q0,q1⟩:Rt)
def bM (a:I) (b:I):Rt :=
 bif (!a.1.good||(!b.1.good||((Z.signW b.dec).1==0))) then gW else (bif decide ((Z.signW b.dec).1<0) then (⟨(E (Z.quo a.dec (Z.neg (Z.gcd a.dec b.dec)))),(E (Z.quo b.dec (Z.neg (Z.gcd a.dec b.dec))))⟩:Rt) else (⟨(E (Z.quo a.dec (Z.gcd a.dec b.dec))),(E (Z.quo b.dec (Z.gcd a.dec b.dec)))⟩:Rt))
def fE (a:W):Rt :=
 let r2:Rt:=(bM (E (Z.of a.1)) F_skewbackref04_one)
 r2
def bB (a:W) (b:W):Rt :=
 let r2:Rt:=(bM (E (Z.of a.1)) (E (Z.of b.1)))
 r2
def bG (a:Rt):Bool :=
 bif (!a.n.1.good||(!a.d.1.good)) then false else (decide (0<(Z.signW a.d.dec).1)&&decide ((E (Z.gcd a.n.dec a.d.dec))=F_skewbackref04_one))
def jF (a:Rt):Rt :=
 bif (bG a) then (⟨(E (Z.neg a.n.dec)),a.d⟩:Rt) else (gW)
def fH (a:Rt) (b:Rt):Rt :=
 bif (!(bG a)||(!(bG b))) then gW else (let r11:I:=(E (Z.add (Z.mul a.n.dec (Z.quo b.d.dec (Z.gcd a.d.dec b.d.dec))) (Z.mul b.n.dec (Z.quo a.d.dec (Z.gcd a.d.dec b.d.dec)))))
 let r12:Rt:=(bM r11 (E (Z.mul (Z.quo a.d.dec (Z.gcd a.d.dec b.d.dec)) b.d.dec)))
 r12)
def jG (a:Rt) (b:Rt):Rt :=
 let r4:Rt:=(fH a (jF b))
 r4
def gK (a:Rt) (b:Rt):Rt :=
 bif (!(bG a)||(!(bG b))) then gW else (let r10:I:=(E (Z.mul ((bM a.n b.d).n).dec ((bM b.n a.d).n).dec))
 let r12:I:=(E (Z.mul ((bM a.n b.d).d).dec ((bM b.n a.d).d).dec))
 (bM r10 r12))
def jW (a:Rt) (b:Rt):W :=
 bif (!(bX a)&&(!(bX b))) then (wl 0) else (bif (bX a) then (bif (bX b) then (cf (cfN a.d) (wl 1) a.n a.d b.n b.d) else (wl 1)) else (wl (-1)))
def oO (a:W) (b:W):Rt :=
 let r2:Rt:=(cH (E (Z.of a.1)) (E (Z.of b.1)))
 r2
def fT (a:I):I :=
 a
def m8 (a:I):Bool :=
 (!a.1.bad&&a.1.valid)
def F_poly_bad :(List I) :=
 let q0:I:=(E Z.bad)
 [q0]
def jS (n:Int) (f:Nat→I) (o:I→I):Nat→(List I)→Nat→(List I×Nat) ⊕ (List I)
 | 0,out,i=>.inl (out,i)
 | k0+1,out,i=>bif decide ((i:Int)<(n.toNat:Int)) then (bif (m8 (o (f i))) then (jS n f o k0 (out++[(o (f i))]) (i+1)) else (.inr F_poly_bad)) else (.inl (out,i))
def jT (n:Int) (f:Nat→I) (o:I→I) (out:List I) (i:Nat):Nat→(List I)→List I
 | 0,cut=>cut
 | k1+1,cut=>bif (decide (0<(cut.length:Int))&&((Z.signW (cut.getD (cut.length - 1) I0).dec).1==0)) then (jT n f o out i k1 (cut.take (cut.length - 1))) else (cut)
def fL (n:Int) (f:Nat→I) (o:I→I):(List I) :=
 sm (fun (s_:List I×Nat)=>let out:List I:=s_.1
 let i:Nat:=s_.2
 ap (fun (s:List I)=>let cut:List I:=s
 bif decide (25<(cut.length:Int)) then F_poly_bad else cut) (jT n f o out i (out.length+1) out)) (fun r=>r) (jS n f o (n.toNat+1) ([]:List I) 0)
def jH (l:(List I)) (f:I→Bool):Nat→Nat→(Nat) ⊕ (W)
 | 0,i=>.inl i
 | k0+1,i=>bif decide ((i:Int)<(l.length:Int)) then (bif (f (l.getD i I0)) then (.inr (W.cv (i:Int))) else (jH l f k0 (i+1))) else (.inl i)
def pM (l:(List I)) (f:I→Bool):W :=
 sm (fun (s:Nat)=>let i:Nat:=s
 (wl (-1))) (fun r=>r) (jH l f (l.length+1) 0)
def oD (l:(List I)) (f:I→Bool):Bool :=
 (decide (0≤(pM l f).1))
def pZ (a:I):Bool :=
 (!(m8 a))
def aS (p:(List I)):Bool :=
 (oD p (fun (y:I)=>(pZ y)))
def jR (l:(List Rt)) (f:Rt→Bool):Nat→Nat→(Nat) ⊕ (W)
 | 0,i=>.inl i
 | k0+1,i=>bif decide ((i:Int)<(l.length:Int)) then (bif (f (l.getD i Rt0)) then (.inr (W.cv (i:Int))) else (jR l f k0 (i+1))) else (.inl i)
def nF (l:(List Rt)) (f:Rt→Bool):W :=
 sm (fun (s:Nat)=>let i:Nat:=s
 (wl (-1))) (fun r=>r) (jR l f (l.length+1) 0)
def nO (l:(List Rt)) (f:Rt→Bool):Bool :=
 (decide (0≤(nF l f).1))
def jK (a:Rt):Bool :=
 (!(bX a))
def iV (l:(List Rt)):Bool :=
 (!(nO l (fun (y:Rt)=>(jK y))))
def nV (k:Nat) (l:(List I)):I :=
 (l.getD k I0)
def bE (l:(List I)):(List I) :=
 (fL (l.length:Int) (fun (y:Nat)=>(nV y l)) (fun (y:I)=>(fT y)))
def dX (p:(List I)) (k:Int):I :=
 bif (decide (k<0)||decide ((p.length:Int)≤k)) then I0 else (p.getD (k.toNat) I0)
def nW (k:Nat) (f:I→I→I) (p:(List I)) (q:(List I)):I :=
 (f (dX p (k:Int)) (dX q (k:Int)))
def eE (p:(List I)) (q:(List I)) (f:I→I→I):(List I) :=
 bif ((aS p)||(aS q)) then F_poly_bad else (fL (((max (p.length) (q.length)):Nat):Int) (fun (y:Nat)=>(nW y f p q)) (fun (y:I)=>(fT y)))
def lS (p:(List I)) (q:(List I)):(List I) :=
 (eE p q (fun (y:I) (z:I)=>(E (Z.add y.dec z.dec))))
def eO (k:Nat) (q:(List I)) (p:(List I)):Nat→Nat→I→Nat×I
 | 0,i,mb2=>(i,mb2)
 | k0+1,i,mb2=>bif decide ((i:Int)≤(min (k:Int) ((p.length:Int) - 1))) then (eO k q p k0 (i+1) (E (Z.add mb2.dec (Z.mul (p.getD i I0).dec (q.getD (k - i) I0).dec)))) else (i,mb2)
def jM (k:Nat) (q:(List I)) (p:(List I)):I :=
 ap (fun (s:Nat×I)=>let i:Nat:=s.1
 let mb2:I:=s.2
 mb2) (eO k q p (k+2) ((((k:Int) - (q.length:Int))+1).toNat) I0)
def fK (p:(List I)) (q:(List I)):(List I) :=
 bif ((aS p)||(aS q)) then F_poly_bad else (bif (((p.length:Int)==0)||((q.length:Int)==0)) then ([]:List I) else (fL ((((p.length+(q).length):Nat):Int) - 1) (fun (y:Nat)=>(jM y q p)) (fun (y:I)=>(fT y))))
def mW (a:I) (b:I) (n:I):I :=
 (E (Z.mul a.dec n.dec))
def bS (p:(List I)) (n:I):(List I) :=
 bif (m8 n) then (eE p ([]:List I) (fun (y:I) (z:I)=>(mW y z n))) else (F_poly_bad)
def kB (k:Nat) (p:(List I)):I :=
 (E (Z.mul (Z.of (((k+1):Nat):Int)) (p.getD (k+1) I0).dec))
def aE (p:(List I)):(List I) :=
 bif (aS p) then F_poly_bad else (fL ((p.length:Int) - 1) (fun (y:Nat)=>(kB y p)) (fun (y:I)=>(fT y)))
def iU (l:(List I)):List I→I→I
 | [],mb2=>mb2
 | x0::l0,mb2=>(iU l l0 (E (Z.gcd mb2.dec x0.dec)))
def dB (l:(List I)):I :=
 ap (fun (s:I)=>let mb2:I:=s
 mb2) (iU l l I0)
def kK (a:I) (b:I) (n:I):I :=
 (E (Z.quo a.dec n.dec))
def aC (p:(List I)):(List I) :=
 (eE p ([]:List I) (fun (y:I) (z:I)=>(kK y z (dB p))))
def gV (d:I) (n:Int):Nat→(List I)→List I
 | 0,out=>out
 | k0+1,out=>bif decide ((out.length:Int)<n) then (gV d n k0 (out++[(E (Z.mul (out.getD (out.length - 1) I0).dec d.dec))])) else (out)
def dH (d:I) (n:Int):(List I) :=
 ap (fun (s:List I)=>let out:List I:=s
 out) (gV d n (n.toNat+1) [(E (Z.of 1))])
def fD (p:(List I)) (x:Rt):Nat→Int→I→Int×I
 | 0,i,mb3=>(i,mb3)
 | k0+1,i,mb3=>bif decide (0≤i) then (let r25:I:=(E (Z.mul (p.getD (i.toNat) I0).dec ((dH x.d (p.length:Int)).getD ((p.length - 1) - i.toNat) I0).dec))
 (fD p x k0 (i - 1) (E (Z.add (Z.mul mb3.dec x.n.dec) r25.dec)))) else (i,mb3)
def gE (p:(List I)) (x:Rt):I×I :=
 bif ((aS p)||(!(iV [x]))) then ((E Z.bad),(E (Z.of 1))) else (ap (fun (s:Int×I)=>let i:Int:=s.1
 let mb3:I:=s.2
 (mb3,((dH x.d (p.length:Int)).getD (((p.length:Int) - 1).toNat) I0))) (fD p x (p.length+1) ((p.length:Int) - 1) I0))
def aF (p:(List I)) (x:Rt):W×Bool :=
 ((Z.signW ((gE p x).1).dec),(!((gE p x).1).1.bad))
def eY (p:(List I)) (q:(List I)) (i:Int) (r:List I) (r62:I):Nat→Nat→(List I)→(Nat×List I) ⊕ (List I)
 | 0,k,t=>.inl (k,t)
 | k1+1,k,t=>bif decide ((k:Int)<(r.length:Int)) then (let r75:I:=(E (Z.sub (Z.mul (Z.abs (q.getD (q.length - 1) I0).dec) (t.getD k I0).dec) (Z.mul r62.dec (dX q ((k:Int) - i)).dec)))
 bif ((t.set k r75).getD k I0).1.bad then (.inr F_poly_bad) else (eY p q i r r62 k1 (k+1) (t.set k r75))) else (.inl (k,t))
def dF (p:(List I)) (q:(List I)):Nat→Int→(List I)→(Int×List I) ⊕ (List I)
 | 0,i,r=>.inl (i,r)
 | k0+1,i,r=>bif decide (0≤i) then (let r62:I:=(E (Z.mul (Z.of (Z.signW (q.getD (q.length - 1) I0).dec).1) (r.getD (i.toNat+(q.length - 1)) I0).dec))
 sm (fun (s:Nat×List I)=>let k:Nat:=s.1
 let t:List I:=s.2
 (dF p q k0 (i - 1) t)) (fun r=>.inr r) (eY p q i r r62 (r.length+1) 0 r)) else (.inl (i,r))
def bD (p:(List I)) (q:(List I)):(List I) :=
 bif ((aS p)||((aS q)||((q.length:Int)==0))) then F_poly_bad else (sm (fun (s:Int×List I)=>let i:Int:=s.1
 let r:List I:=s.2
 (bE r)) (fun r=>r) (dF p q (p.length+1) (((p.length:Int) - 1) - ((q.length:Int) - 1)) ([]++p)))
def kR (n:Int) (i:Int):Nat→Int→I→Int×I
 | 0,j,mb1=>(j,mb1)
 | k0+1,j,mb1=>bif decide (j≤n) then (kR n i k0 (j+1) (E (Z.mul mb1.dec (Z.of j)))) else (j,mb1)
def iC (n:Int) (i:Int) (j:Int) (mb1:I):Nat→(List I)→Nat→I→List I×Nat×I
 | 0,out,k,mb1_1=>(out,k,mb1_1)
 | k1+1,out,k,mb1_1=>bif decide ((k:Int)<(i+1)) then (bif decide ((k:Int)<n) then (let r22:I:=(E (Z.quo (Z.mul mb1_1.dec (Z.of (i - (k:Int)))) (Z.of (n - (k:Int)))))
 (iC n i j mb1 k1 (out++[mb1_1]) (k+1) r22)) else (iC n i j mb1 k1 (out++[mb1_1]) (k+1) mb1_1)) else (out,k,mb1_1)
def dW (n:Int) (i:Int):(List I) :=
 ap (fun (s_:Int×I)=>let j:Int:=s_.1
 let mb1:I:=s_.2
 ap (fun (s:List I×Nat×I)=>let out:List I:=s.1
 let k:Nat:=s.2.1
 let mb1_1:I:=s.2.2
 out) (iC n i j mb1 ((i+1).toNat+1) ([]:List I) 0 mb1)) (kR n i (n.toNat+1) 2 (E (Z.of 1)))
def e8 (a:I):Bool :=
 (!a.1.bad&&a.1.valid)
def F_skewbackref08_bad :(List I) :=
 let q0:I:=(E Z.bad)
 [q0]
def e7 (l:(List I)):Nat→Int→Nat→(Int×Nat) ⊕ (List I)
 | 0,last,i=>.inl (last,i)
 | k0+1,last,i=>bif decide ((i:Int)<(l.length:Int)) then (bif (e8 (l.getD i I0)) then (bif ((Z.signW (l.getD i I0).dec).1 != 0) then (e7 l k0 (i:Int) (i+1)) else (e7 l k0 last (i+1))) else (.inr F_skewbackref08_bad)) else (.inl (last,i))
def fZ (l:(List I)) (last:Int) (i:Nat):Nat→(List I)→Nat→List I×Nat
 | 0,out,j=>(out,j)
 | k1+1,out,j=>bif decide ((j:Int)≤last) then (fZ l last i k1 (out++[(l.getD j I0)]) (j+1)) else (out,j)
def dC (l:(List I)):(List I) :=
 sm (fun (s_:Int×Nat)=>let last:Int:=s_.1
 let i:Nat:=s_.2
 bif decide (24<last) then F_skewbackref08_bad else (ap (fun (s:List I×Nat)=>let out:List I:=s.1
 let j:Nat:=s.2
 out) (fZ l last i ((last+1).toNat+1) ([]:List I) 0))) (fun r=>r) (e7 l (l.length+1) (-1) 0)
def jL (l:(List W)):Nat→(List I)→Nat→List I×Nat
 | 0,out,i=>(out,i)
 | k0+1,out,i=>bif decide ((i:Int)<(l.length:Int)) then (jL l k0 (out++[(E (Z.of (l.getD i W.z).1))]) (i+1)) else (out,i)
def gR (l:(List W)):(List I) :=
 ap (fun (s:List I×Nat)=>let out:List I:=s.1
 let i:Nat:=s.2
 (dC out)) (jL l (l.length+1) ([]:List I) 0)
def eW (p:(List I)):Nat→Nat→(Nat) ⊕ (Bool)
 | 0,i=>.inl i
 | k0+1,i=>bif decide ((i:Int)<(p.length:Int)) then (bif (e8 (p.getD i I0)) then (eW p k0 (i+1)) else (.inr true)) else (.inl i)
def cL (p:(List I)):Bool :=
 sm (fun (s:Nat)=>let i:Nat:=s
 false) (fun r=>r) (eW p (p.length+1) 0)
def cF (p:(List I)) (q:(List I)) (out:List I) (k:Nat):Nat→Nat→I→Nat×I
 | 0,i,mb17=>(i,mb17)
 | k1+1,i,mb17=>bif decide ((i:Int)≤(k:Int)) then (bif (decide ((i:Int)<(p.length:Int))&&decide (((k:Int) - (i:Int))<(q.length:Int))) then (cF p q out k k1 (i+1) (E (Z.add mb17.dec (Z.mul (p.getD i I0).dec (q.getD (k - i) I0).dec)))) else (cF p q out k k1 (i+1) mb17)) else (i,mb17)
def fG (p:(List I)) (q:(List I)):Nat→(List I)→Nat→List I×Nat
 | 0,out,k=>(out,k)
 | k0+1,out,k=>bif decide ((k:Int)<((((p.length+(q).length):Nat):Int) - 1)) then (ap (fun (s:Nat×I)=>let i:Nat:=s.1
 let mb17:I:=s.2
 (fG p q k0 (out++[mb17]) (k+1))) (cF p q out k (k+2) 0 I0)) else (out,k)
def cZ (p:(List I)) (q:(List I)):(List I) :=
 bif ((cL p)||(cL q)) then F_skewbackref08_bad else (bif (((p.length:Int)==0)||((q.length:Int)==0)) then ([]:List I) else (ap (fun (s:List I×Nat)=>let out:List I:=s.1
 let k:Nat:=s.2
 (dC out)) (fG p q (p.length+q.length) ([]:List I) 0)))
def fN (n:I) (k:Int):Nat→Nat→I→Nat×I
 | 0,i,mb3=>(i,mb3)
 | k0+1,i,mb3=>bif decide ((i:Int)<k) then (fN n k k0 (i+1) (E (Z.mul mb3.dec n.dec))) else (i,mb3)
def gI (n:I) (k:Int):I :=
 ap (fun (s:Nat×I)=>let i:Nat:=s.1
 let mb3:I:=s.2
 mb3) (fN n k (k.toNat+1) 0 (E (Z.of 1)))
def iZ (a:Rt):Bool :=
 bif (!(e8 a.n)||(!(e8 a.d)||decide ((Z.signW a.d.dec).1≤0))) then false else (decide ((E (Z.gcd a.n.dec a.d.dec))=(E (Z.of 1))))
def fO (p:(List I)) (x:Rt):Nat→Int→I→Int×I
 | 0,i,mb7=>(i,mb7)
 | k0+1,i,mb7=>bif decide (0≤i) then (let r12:I:=(E (Z.mul (p.getD (i.toNat) I0).dec (gI x.d (((p.length:Int) - 1) - i)).dec))
 (fO p x k0 (i - 1) (E (Z.add (Z.mul mb7.dec x.n.dec) r12.dec)))) else (i,mb7)
def dR (p:(List I)) (x:Rt):I :=
 bif ((cL p)||(!(iZ x))) then (E Z.bad) else (ap (fun (s:Int×I)=>let i:Int:=s.1
 let mb7:I:=s.2
 mb7) (fO p x (p.length+1) ((p.length:Int) - 1) I0))
def eA (p:(List I)) (x:Rt):Sgd :=
 bif (dR p x).1.bad then (⟨(wl 0),false⟩:Sgd) else (⟨(Z.signW (dR p x).dec),true⟩:Sgd)
def eT (p:(List I)):Bool :=
 bif (((p.length:Int)==1)&&decide ((p.getD 0 I0)=(E Z.bad))) then true else (bif ((cL p)||decide (25<(p.length:Int))) then false else (((p.length:Int)==0)||((Z.signW (p.getD (p.length - 1) I0).dec).1 != 0)))
def gL (p:(List I)) (d:Int) (b:Int):Nat→Nat→(Nat) ⊕ (Bool)
 | 0,i=>.inl i
 | k0+1,i=>bif decide ((i:Int)<(p.length:Int)) then (bif decide (b<(Z.bitsW (p.getD i I0).dec).1) then (.inr false) else (gL p d b k0 (i+1))) else (.inl i)
def dZ (p:(List I)) (d:Int) (b:Int):Bool :=
 bif (!(eT p)||decide ((d+1)<(p.length:Int))) then false else (sm (fun (s:Nat)=>let i:Nat:=s
 true) (fun r=>r) (gL p d b (p.length+1) 0))
def cM (p:(List I)) (q:(List I)):Nat→(List I)→(List I)→(List I×List I) ⊕ (List I)
 | 0,a,b=>.inl (a,b)
 | k0+1,a,b=>bif decide (0<(b.length:Int)) then (bif ((aS a)||(aS b)) then (.inr F_poly_bad) else (cM p q k0 b (aC (bD a b)))) else (.inl (a,b))
def aL (p:(List I)) (q:(List I)):(List I) :=
 sm (fun (s:List I×List I)=>let a:List I:=s.1
 let b:List I:=s.2
 bif (((a.length:Int)==0)||decide (0<(Z.signW (a.getD (a.length - 1) I0).dec).1)) then a else (eE ([]:List I) a (fun (y:I) (z:I)=>(E (Z.sub y.dec z.dec))))) (fun r=>r) (cM p q (gmP (aC q)+1) (aC p) (aC q))
def fB (p:(List I)) (a:Rt) (b:Rt):Nat→(List I)→Int→List I×Int
 | 0,r,i=>(r,i)
 | k0+1,r,i=>bif decide (0≤i) then (let r32:I:=(E (Z.mul (p.getD (i.toNat) I0).dec ((dH (E (Z.mul a.d.dec b.d.dec)) (p.length:Int)).getD ((p.length - 1) - i.toNat) I0).dec))
 (fB p a b k0 (lS (fK r (bE [(E (Z.mul a.n.dec b.d.dec)),(E (Z.mul b.n.dec a.d.dec))])) (bE [r32])) (i - 1))) else (r,i)
def fA (p:(List I)) (a:Rt) (b:Rt):(List I) :=
 bif ((aS p)||(!(iV [a,b]))) then F_poly_bad else (ap (fun (s:List I×Int)=>let r:List I:=s.1
 let i:Int:=s.2
 r) (fB p a b (p.length+1) ([]:List I) ((p.length:Int) - 1)))
def eR (p:(List I)) (a:Rt) (b:Rt):(List I) :=
 (aC (fA p a b))
def iD (p:(List I)) (a:Rt) (b:Rt) (out:List I) (i:Nat):Nat→Nat→I→Nat×I
 | 0,j,mb40=>(j,mb40)
 | k1+1,j,mb40=>bif decide ((j:Int)<((dW ((p.length:Int) - 1) (i:Int)).length:Int)) then (let r52:I:=(E (Z.mul ((dW ((p.length:Int) - 1) (i:Int)).getD j I0).dec (dX (eR p a (gJ b a)) (j:Int)).dec))
 (iD p a b out i k1 (j+1) (E (Z.add mb40.dec r52.dec)))) else (j,mb40)
def gM (p:(List I)) (a:Rt) (b:Rt):Nat→(List I)→Nat→(List I×Nat) ⊕ ((List I)×Bool)
 | 0,out,i=>.inl (out,i)
 | k0+1,out,i=>bif decide ((i:Int)<(p.length:Int)) then (ap (fun (s:Nat×I)=>let j:Nat:=s.1
 let mb40:I:=s.2
 bif mb40.1.bad then (.inr (([]:List I),false)) else (gM p a b k0 (out++[mb40]) (i+1))) (iD p a b out i ((dW ((p.length:Int) - 1) (i:Int)).length+1) 0 I0)) else (.inl (out,i))
def gN (p:(List I)) (a:Rt) (b:Rt) (out:List I) (i:Nat):Nat→Nat→(List I)→Nat×List I
 | 0,k,t=>(k,t)
 | k2+1,k,t=>bif decide ((k:Int)<(out.length:Int)) then (gN p a b out i k2 (k+1) (t.set k (E (Z.quo (t.getD k I0).dec (dB out).dec)))) else (k,t)
def bK (p:(List I)) (a:Rt) (b:Rt):(List I)×Bool :=
 bif ((aS p)||(!(iV [a,b]))) then (([]:List I),false) else (bif (aS (eR p a (gJ b a))) then (([]:List I),false) else (sm (fun (s_:List I×Nat)=>let out:List I:=s_.1
 let i:Nat:=s_.2
 bif ((Z.signW (dB out).dec).1 != 0) then (ap (fun (s:Nat×List I)=>let k:Nat:=s.1
 let t:List I:=s.2
 (t,true)) (gN p a b out i (out.length+1) 0 out)) else (out,true)) (fun r=>r) (gM p a b (p.length+1) ([]:List I) 0)))
def gO (p:(List I)) (i:Int) (r:List I) (f:List I) (r66:I):Nat→Nat→(List I)→(Nat×List I) ⊕ (List I)
 | 0,k,t=>.inl (k,t)
 | k1+1,k,t=>bif decide ((k:Int)<((aL p (aE p)).length:Int)) then (let r82:I:=(E (Z.mul ((f.set (i.toNat) r66).getD (i.toNat) I0).dec ((aL p (aE p)).getD k I0).dec))
 bif ((t.set (i.toNat+k) (E (Z.sub (t.getD (i.toNat+k) I0).dec r82.dec))).getD (i.toNat+k) I0).1.bad then (.inr F_poly_bad) else (gO p i r f r66 k1 (k+1) (t.set (i.toNat+k) (E (Z.sub (t.getD (i.toNat+k) I0).dec r82.dec))))) else (.inl (k,t))
def eU (p:(List I)):Nat→Int→(List I)→(List I)→(Int×List I×List I) ⊕ (List I)
 | 0,i,r,f=>.inl (i,r,f)
 | k0+1,i,r,f=>bif decide (0≤i) then (let r66:I:=(E (Z.quo (r.getD (i.toNat+((aL p (aE p)).length - 1)) I0).dec ((aL p (aE p)).getD ((aL p (aE p)).length - 1) I0).dec))
 sm (fun (s:Nat×List I)=>let k:Nat:=s.1
 let t:List I:=s.2
 (eU p k0 (i - 1) t (f.set (i.toNat) r66))) (fun r=>.inr r) (gO p i r f r66 ((aL p (aE p)).length+1) 0 r)) else (.inl (i,r,f))
def aV (p:(List I)):(List I) :=
 bif ((aS (aL p (aE p)))||(aS (aC p))) then F_poly_bad else (bif (((aC p).length:Int)==0) then ([]:List I) else (sm (fun (s:Int×List I×List I)=>let i:Int:=s.1
 let r:List I:=s.2.1
 let f:List I:=s.2.2
 bif ((((bE f).length:Int)==0)||decide (0<(Z.signW ((bE f).getD ((bE f).length - 1) I0).dec).1)) then (bE f) else (eE ([]:List I) (bE f) (fun (y:I) (z:I)=>(E (Z.sub y.dec z.dec))))) (fun r=>r) (eU p ((aC p).length+2) (((List.replicate ((aC p).length - ((aL p (aE p)).length - 1)) I0).length:Int) - 1) (aC p) (List.replicate ((aC p).length - ((aL p (aE p)).length - 1)) I0))))
structure Num9 where
 n:W
 e:W
structure Lst9 where
 l:List Iv
 e:W
structure Fnd9 where
 x:Iv
 is:Bool
 e:W
structure Zero9 where
 n:Int
 times:Int
def cO:Zero9:=⟨0,0⟩
def lU:El Zero9:=⟨2,fun x=>[ci .i8 x.n,ci .i8 x.times],fun _=>rfl⟩
def gG (a:Rt) (b:Rt):Bool :=
 (!a.n.1.bad&&(!b.n.1.bad&&decide ((jW a b).1≤0)))
def aD (a:Rt) (b:Rt):Rt :=
 let r4:Rt:=(iX (kS a b) (oO (wl 1) (wl 2)))
 r4
def kA (a:Rt) (b:Rt):Rt :=
 let r4:Rt:=(bB (wl 1) (wl 2))
 let r5:Rt:=(gK (fH a b) r4)
 r5
def cT (p:(List I)):Nat→(List (List I))→(List I)→(List (List I)×List I) ⊕ ((List (List I))×Bool)
 | 0,out,next=>.inl (out,next)
 | k0+1,out,next=>bif decide (0<(next.length:Int)) then (bif (aS (aC (bS (bD ((out++[next]).getD ((out++[next]).length - 2) []) ((out++[next]).getD ((out++[next]).length - 1) [])) (E (Z.of (-1)))))) then (.inr (([]:List (List I)),false)) else (cT p k0 (out++[next]) (aC (bS (bD ((out++[next]).getD ((out++[next]).length - 2) []) ((out++[next]).getD ((out++[next]).length - 1) [])) (E (Z.of (-1))))))) else (.inl (out,next))
def cY (p:(List I)) (out:List (List I)) (next:List I):List (List I)→(Unit) ⊕ ((List (List I))×Bool)
 | []=>.inl ()
 | x1::l1=>bif (aS x1) then (.inr (([]:List (List I)),false)) else (cY p out next l1)
def aH (p:(List I)):(List (List I))×Bool :=
 sm (fun (s_:List (List I)×List I)=>let out:List (List I):=s_.1
 let next:List I:=s_.2
 sm (fun (s:Unit)=>(out,true)) (fun r=>r) (cY p out next out)) (fun r=>r) (cT p (gmP (aC (aE (aV p)))+1) [(aV p)] (aC (aE (aV p))))
end Go.Num
