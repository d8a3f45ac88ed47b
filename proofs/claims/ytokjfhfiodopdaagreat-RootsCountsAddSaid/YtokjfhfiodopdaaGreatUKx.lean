/- Lemmas: what they ask stands in their statements. -/
import Derived.Test.YtokjfhfiodopdaaGreatUAo
set_option linter.unusedSimpArgs false
set_option linter.unusedVariables false
set_option maxHeartbeats 8000000
set_option maxRecDepth 20000
namespace Go.Kn
open Go Go.Num
structure Lo (σ:Type) where
  p:Option Addr
  c:Nat
  x:σ
structure El2 (σ α:Type) where
  n:Nat
  ps:Option Addr→Nat→σ→List Part
  len:∀ p c x,pW (ps p c x)=n
  e:El α
  li:σ→List α
def El2.el {σ α:Type} (D:El2 σ α):El (Lo σ):=⟨D.n,fun h=>D.ps h.p h.c h.x,fun h=>D.len _ _ _⟩
abbrev El2.v {σ α:Type} (D:El2 σ α) (h:Lo σ):Value:=.slice h.p (D.li h.x).length h.c
def elLL:El2 (List I) I:=⟨1,fun p c x=>[csl p x.length c],fun _ _ _=>rfl,elI,id⟩
section
variable {σ α:Type} {D:El2 σ α} {P:Program} {w0:World} {X:List Nat} {N:Nm} {S:Fr} {M M':List Blk} {d:Option Tmp} {ty:TypeId} {ps:String} {af:Array Edge} {gd:Option (Nat×Bool)} {v:Value} {l:List σ} {L LL:List Blk} {E:TypeId} {B:Nat}
def Slr2 (w:World) (D:El2 σ α) (v:Value) (l:List σ):Prop:=∃ H:List (Lo σ),H.map Lo.x=l∧Slr w D.el v H∧∀ h∈H,Slr w D.e (D.v h) (D.li h.x)
def SLe2 (w0:World) (X:List Nat) (M:List Blk) (D:El2 σ α) (v:Value) (l:List σ):Prop:=∃ H:List (Lo σ),H.map Lo.x=l∧SLe w0 X M D.el v H∧∀ h∈H,SLe w0 X M D.e (D.v h) (D.li h.x)
def Slf2 (B:Nat) (w:World) (D:El2 σ α) (v:Value) (l:List σ):Prop:=∃ H:List (Lo σ),H.map Lo.x=l∧Slfe B w D.el v H∧∀ h∈H,Slfe B w D.e (D.v h) (D.li h.x)
def SLf2 (w0:World) (M:List Blk) (D:El2 σ α) (v:Value) (l:List σ):Prop:=∃ H:List (Lo σ),H.map Lo.x=l∧SLfe w0 M D.el v H∧∀ h∈H,SLfe w0 M D.e (D.v h) (D.li h.x)
def Own2 (w0:World) (E:TypeId) (D:El2 σ α) (v:Value) (l:List σ) (L LL:List Blk):Prop:=∃ H:List (Lo σ),H.map Lo.x=l∧OwnG w0 E D.el v H L∧∀ h∈H,SLfe w0 LL D.e (D.v h) (D.li h.x)
theorem uT {H:List (Lo σ)} (h:H.map Lo.x=l):H.length=l.length:=by rw [← h,List.length_map]
theorem NI {H:List (Lo σ)} {k:Nat} {x:σ} (h:H.map Lo.x=l) (hx:l[k]? = some x):∃ p c,H[k]? = some ⟨p,c,x⟩:=by
  rw [← h,List.getElem?_map] at hx
  cases hk:H[k]? with
  | none=>rw [hk] at hx;cases hx
  | some y =>
    rw [hk] at hx;obtain ⟨p,c,z⟩:=y
    cases hx
    exact ⟨p,c,rfl⟩
theorem Slr2.old (h:Slr2 w0 D v l):SLe2 w0 [] [] D v l:=by
  obtain ⟨H,h1,h2,h3⟩:=h;exact ⟨H,h1,h2.old,fun x hx=>(h3 x hx).old⟩
theorem Slr2.form {w:World} (h:Slr2 w D v l):∃ p c,v = .slice p l.length c:=by
  obtain ⟨H,h1,h2,_⟩:=h;obtain ⟨p,c,rfl⟩:=h2.form;exact ⟨p,c,by rw [uT h1]⟩
theorem Slr2.max {w:World} (h:Slr2 w D v l):l.length≤9223372036854775807:=by
  obtain ⟨H,h1,h2,_⟩:=h;rw [← uT h1];exact h2.max
theorem SLe2.sub (h:SLe2 w0 X M D v l) (hs:M.Sublist M'):SLe2 w0 X M' D v l:=by
  obtain ⟨H,h1,h2,h3⟩:=h;exact ⟨H,h1,h2.sub hs,fun x hx=>(h3 x hx).sub hs⟩
theorem SLf2.sub (h:SLf2 w0 M D v l) (hs:M.Sublist M'):SLf2 w0 M' D v l:=by
  obtain ⟨H,h1,h2,h3⟩:=h;exact ⟨H,h1,h2.sub hs,fun x hx=>(h3 x hx).sub hs⟩
theorem SLf2.sle (h:SLf2 w0 M D v l):SLe2 w0 X M D v l:=by
  obtain ⟨H,h1,h2,h3⟩:=h;exact ⟨H,h1,h2.sle,fun x hx=>(h3 x hx).sle⟩
theorem SLf2.max (h:SLf2 w0 M D v l):l.length≤9223372036854775807:=by
  obtain ⟨H,h1,h2,h3⟩:=h;rw [← uT h1];exact h2.max
theorem SLf2.nil:SLf2 w0 M D (.slice none 0 0) []:=⟨[],rfl,SLfe.nil,fun _ h=>by cases h⟩
theorem SLe2.nil:SLe2 w0 X M D (.slice none 0 0) []:=SLf2.nil.sle
theorem SLe2.ap {w:World} (hw:Sat w0 X M w) (h:SLe2 w0 X M D v l):Slr2 w D v l:=by
  obtain ⟨H,h1,h2,h3⟩:=h;exact ⟨H,h1,h2 w hw,fun x hx=>h3 x hx w hw⟩
theorem Own2.form (h:Own2 w0 E D v l L LL):∃ p c,v = .slice p l.length c:=by
  obtain ⟨H,h1,h2,_⟩:=h;obtain ⟨p,c,rfl⟩:=h2.form;have:=h2.len;exact ⟨p,c,by rw [this,uT h1]⟩
theorem Own2.max (h:Own2 w0 E D v l L LL):l.length≤9223372036854775807:=by
  obtain ⟨H,h1,h2,_⟩:=h;rw [← uT h1];exact h2.max
theorem Own2.slf (h:Own2 w0 E D v l L LL) (h1:L.Sublist M) (h2:LL.Sublist M):SLf2 w0 M D v l:=by
  obtain ⟨H,a,b,c⟩:=h;exact ⟨H,a,b.slfe h1,fun x hx=>(c x hx).sub h2⟩
theorem Own2.sle (h:Own2 w0 E D v l L LL) (h1:L.Sublist M) (h2:LL.Sublist M):SLe2 w0 X M D v l:=(h.slf h1 h2).sle
theorem SLe2.at {k:Nat} {x:σ} (h:SLe2 w0 X M D v l) (hx:l[k]? = some x):∃ p c H,SLe w0 X M D.el v H∧H[k]? = some ⟨p,c,x⟩∧SLe w0 X M D.e (.slice p (D.li x).length c) (D.li x):=by
  obtain ⟨H,h1,h2,h3⟩:=h;obtain ⟨p,c,hk⟩:=NI h1 hx;exact ⟨p,c,H,h2,hk,h3 _ (List.mem_of_getElem? hk)⟩
theorem SLf2.at {k:Nat} {x:σ} (h:SLf2 w0 M D v l) (hx:l[k]? = some x):∃ p c H,SLfe w0 M D.el v H∧H[k]? = some ⟨p,c,x⟩∧SLfe w0 M D.e (.slice p (D.li x).length c) (D.li x):=by
  obtain ⟨H,h1,h2,h3⟩:=h;obtain ⟨p,c,hk⟩:=NI h1 hx;exact ⟨p,c,H,h2,hk,h3 _ (List.mem_of_getElem? hk)⟩
theorem Own2.at {k:Nat} {x:σ} (h:Own2 w0 E D v l L LL) (hx:l[k]? = some x):∃ p c H,OwnG w0 E D.el v H L∧H[k]? = some ⟨p,c,x⟩∧SLfe w0 LL D.e (.slice p (D.li x).length c) (D.li x):=by
  obtain ⟨H,h1,h2,h3⟩:=h;obtain ⟨p,c,hk⟩:=NI h1 hx;exact ⟨p,c,H,h2,hk,h3 _ (List.mem_of_getElem? hk)⟩
theorem IK {T:TypeId} {x:Operand} {s:Nat} (hT:l7 P T=some s) (hx:evO N S x=some v) (hv:SLe2 w0 X M D v l):OpQ P w0 X N ⟨d,.call { callee:=.builtin .len,args:=#[x],argTypes:=#[T] },ty,ps,af,gd⟩ S M (.int .i64 (l.length:Nat)):=by
  obtain ⟨H,h1,h2,_⟩:=hv;rw [← uT h1];exact dO hT hx h2
theorem E6 {T:TypeId} {x y:Operand} {k:Nat} {i:IntKind} {t:Int} (hT:l7 P T=some D.n) (hx:evO N S x=some v) (hy:evO N S y=some (.int i t)) (ht:t=(k:Int)) (hv:SLe2 w0 X M D v l) (hk:k<l.length) :
    OpQ P w0 X N ⟨d,.indexAddr T x y,ty,ps,af,gd⟩ S M (.pointer (some (slb v (k * D.n)))):=by
  obtain ⟨H,h1,h2,_⟩:=hv;subst ht;exact jT (e:=D.el) hT hx hy h2 (by rw [uT h1];exact hk)
theorem Own2.one {b c:Nat} {a:Option Addr} {x:σ} {qs:List Part} (hb:w0.heap.size≤b) (hq:qs=D.ps a c x) (hx:SLfe w0 LL D.e (.slice a (D.li x).length c) (D.li x)):Own2 w0 E D (.slice (some ⟨b,0,none⟩) 1 1) [x] [⟨b,E,bK qs⟩] LL :=
  ⟨[⟨a,c,x⟩],rfl,OwnG.lit (e:=D.el) hb rfl dd_ (by rw [hq];simp [El2.el]),fun h hh=>by
    obtain rfl:=List.mem_singleton.1 hh
    exact hx⟩
theorem LM {T:TypeId} {x y:Operand} {u:Value} {a:Option Addr} {c0:Nat} {z:σ} {L1 R:List Blk} {K:Value→List Blk→Prop} (bytes:Nat) (hT:P.underlying T=some (.slice E)) (hE:S6 P E D.el.n bytes=true) (h0:0<D.el.n) (hx:evO N S x=some v) (hy:evO N S y=some u)
    (hv:Own2 w0 E D v l L LL) (hu:SLe w0 X M D.el u [⟨a,c0,z⟩]) (hz:SLfe w0 L1 D.e (.slice a (D.li z).length c0) (D.li z)) (hs:M.Perm (L ++ (L1 ++ (LL ++ R)))) (hn:(l.length+1) * bytes≤140737488355328) (h8:0<bytes)
    (k:∀ p c L' LL',Own2 w0 E D (.slice p (l ++ [z]).length c) (l ++ [z]) L' LL'→L1.Sublist LL'→LL.Sublist LL'→K (.slice p (l ++ [z]).length c) (L' ++ (LL' ++ R))) :
    OpR P w0 X N ⟨d,.call { callee:=.builtin .append,args:=#[x,y],argTypes:=#[T,T] },ty,ps,af,gd⟩ S M K:=by
  obtain ⟨H,h1,h2,h3⟩:=hv;refine lX (e:=D.el) (l:=H) (m:=[⟨a,c0,z⟩]) (L:=L) (M1:=(L1 ++ LL) ++ R) bytes hT hE h0 hx hy h2 hu (hs.trans (by rw [List.append_assoc])) (by rw [uT h1];exact hn) h8 fun p c L' ho=>?_
  have e1:(H ++ [(⟨a,c0,z⟩:Lo σ)]).map Lo.x=l ++ [z]:=by rw [List.map_append,h1];rfl
  have e2:=uT e1;rw [e2] at ho ⊢;refine k p c L' (L1 ++ LL) ⟨_,e1,ho,fun h hh=>?_⟩ (List.sublist_append_left _ _) (List.sublist_append_right _ _);rcases List.mem_append.1 hh with hh | hh
  · exact (h3 h hh).sub (List.sublist_append_right _ _)
  obtain rfl:=List.mem_singleton.1 hh;exact hz.sub (List.sublist_append_left _ _)
theorem IC (w:World) (B:Nat):∀ n:Nat,∃ L:List Blk,(L.map Blk.b).Nodup∧(∀ x∈L,(B≤x.b∧x.b<B+n)∧w.heap[x.b]? = some (.cells x.cs.toArray x.T (0,0)))∧∀ b T (cs:List Value),B≤b→b<B+n→w.heap[b]? = some (.cells cs.toArray T (0,0))→(⟨b,T,cs⟩:Blk)∈L
  | 0=>⟨[],List.nodup_nil,fun x hx=>(by cases hx),fun b T cs h1 h2 _=>oo_⟩
  | n+1=>by
    obtain ⟨L,h1,h2,h3⟩:=IC w B n
    by_cases h:∃ (T:TypeId) (cs:List Value),w.heap[B+n]? = some (.cells cs.toArray T (0,0))
    · obtain ⟨T,cs,h⟩:=h
      refine ⟨⟨B+n,T,cs⟩ :: L,?_,fun x hx=>?_,fun b T' cs' b1 b2 hb=>?_⟩
      · rw [List.map_cons,List.nodup_cons]
        refine ⟨fun hm=>?_,h1⟩;obtain ⟨y,hy,e⟩:=List.mem_map.1 hm;have h4:=(h2 y hy).1;have e':y.b=B+n:=e;omega
      · rcases List.mem_cons.1 hx with rfl | hx
        · exact ⟨⟨Nat.le_add_right _ _,by show B+n<B+(n+1);omega⟩,h⟩
        exact ⟨⟨(h2 x hx).1.1,by have:=(h2 x hx).1.2;omega⟩,(h2 x hx).2⟩
      by_cases hn:b=B+n
      · subst hn
        rw [h] at hb
        injection hb with hb
        injection hb with e1 e2
        subst e2
        obtain rfl:cs=cs':=by simpa using e1
        exact List.mem_cons_self
      exact List.mem_cons_of_mem _ (h3 b T' cs' b1 oo_ hb)
    refine ⟨L,h1,fun x hx=>⟨⟨(h2 x hx).1.1,by have:=(h2 x hx).1.2;omega⟩,(h2 x hx).2⟩,fun b T' cs' b1 b2 hb=>?_⟩
    by_cases hn:b=B+n
    · subst hn;exact absurd ⟨T',cs',hb⟩ h
    exact h3 b T' cs' b1 oo_ hb
theorem Slfe.all {α:Type} {e:El α} {v:Value} {l:List α} {w:World} {L:List Blk} (h:Slfe B w e v l) (hB:w0.heap.size≤B) (hL:∀ b T (cs:List Value),B≤b→b<w.heap.size→w.heap[b]? = some (.cells cs.toArray T (0,0))→(⟨b,T,cs⟩:Blk)∈L):SLfe w0 L e v l:=by
  obtain ⟨p,c,hv,hc,hm,h⟩:=h;refine ⟨p,c,hv,hc,hm,?_⟩;rcases h with h | ⟨b,off,T,cs,hp,hb,hh,ht⟩
  · exact .inl h
  exact .inr ⟨b,off,T,cs,hp,Nat.le_trans hB hb,hL b T cs hb (eJ? hh) hh,ht⟩
theorem Slf2.now {w w':World} (h:Slf2 w.heap.size w' D v l) (hw:Sat w0 X M w) (he:Ext w w'):∃ p c L,v = .slice p l.length c∧Sat w0 X (L ++ M) w'∧SLf2 w0 L D (.slice p l.length c) l:=by
  have hw':=Sat.mono _ _ _ _ _ hw he;obtain ⟨H,h1,h2,h3⟩:=h;obtain ⟨L,n1,n2,n3⟩:=IC w' w.heap.size (w'.heap.size - w.heap.size);have hL:∀ b T (cs:List Value),w.heap.size≤b→b<w'.heap.size→w'.heap[b]? = some (.cells cs.toArray T (0,0))→(⟨b,T,cs⟩:Blk)∈L:=fun b T cs b1 b2=>n3 b T cs b1 oo_;have g:=h2.all hw.size hL;obtain ⟨p,c,rfl,hc⟩:=id g;have el:=uT h1;refine ⟨p,c,L,by rw [el],⟨hw'.os,hw'.tape,hw'.output,hw'.size,hw'.old,?_,fun y hy=>?_⟩,H,h1,by rw [← el];exact g,fun x hx=>(h3 x hx).all hw.size hL⟩
  · rw [List.map_append]
    refine List.nodup_append.2 ⟨n1,hw'.nodup,fun a ha b hb e=>?_⟩;subst e;obtain ⟨x,hx,e1⟩:=List.mem_map.1 ha;obtain ⟨y,hy,e2⟩:=List.mem_map.1 hb;have g1:=(n2 x hx).1.1;have g2:=eJ? (hw.mem y hy);omega
  rcases List.mem_append.1 hy with hy | hy
  · exact (n2 y hy).2
  exact hw'.mem y hy
theorem SLf2.slf {w:World} (h:SLf2 w0 M D v l) (hw:Sat w0 X M w):Slf2 w0.heap.size w D v l:=by
  obtain ⟨H,h1,h2,h3⟩:=h;exact ⟨H,h1,h2.slfe hw,fun x hx=>(h3 x hx).slfe hw⟩
theorem AD {n:Nat} {f:FuncId} {fn:Func} {c:Code} {args:List Value} {w:World} (R:Value→Value) (hf:P.funcs[f]? = some fn) (hb:fn.body=some c) (hn:fn.ntmps=n) (hl:args.length≤n)
    (h:W P w [] (pl n) c (oO P fn w [] (pl n) fun r M=>∃ v,r=R v∧SLf2 w M D v l) (bS 0 args) []):Calls P f args.toArray w fun f w'=>∃ v,f = .returned (R v)∧Ext w w'∧Slf2 w.heap.size w' D v l :=
  (oK hf hb hn hl (Sat.start w []) h).mono fun f w' ⟨r,M',he,hs,_,v,hr,hu⟩=>⟨v,by rw [he,hr],hs.ext,hu.slf hs⟩
theorem qZ {g:FuncId} {xs:List Operand} {tys:Array TypeId} {args:List Value} {K:Value→List Blk→Prop} (R:Value→Value) (he:lP P g=true) (ha:evL N S xs=some args)
    (h:∀ w,Sat w0 X M w→Calls P g args.toArray w fun f w'=>∃ v,f = .returned (R v)∧Ext w w'∧Slf2 w.heap.size w' D v l) (k:∀ p c L,SLf2 w0 L D (.slice p l.length c) l→K (R (.slice p l.length c)) (L ++ M)):OpR P w0 X N ⟨d,.call { callee:=.value (.func g),args:=xs.toArray,argTypes:=tys },ty,ps,af,gd⟩ S M K :=
  CP he ha fun w hw=>(h w hw).mono fun _ w' ⟨v,h1,h2,h3⟩=>by
    obtain ⟨p,c,L,rfl,hs,hv⟩:=h3.now hw h2;exact ⟨_,L ++ M,h1,hs,Ext.keeps h2,k p c L hv⟩
theorem SLe2.atLL {v:Value} {l:List (List I)} {k:Nat} {x:List I} (h:SLe2 w0 X M elLL v l) (hx:l[k]? = some x):∃ p c H,SLe w0 X M elLL.el v H∧H[k]? = some ⟨p,c,x⟩∧SLe w0 X M elI (.slice p x.length c) x:=h.at hx
theorem SLf2.atLL {v:Value} {l:List (List I)} {k:Nat} {x:List I} (h:SLf2 w0 M elLL v l) (hx:l[k]? = some x):∃ p c H,SLfe w0 M elLL.el v H∧H[k]? = some ⟨p,c,x⟩∧SLfe w0 M elI (.slice p x.length c) x:=h.at hx
theorem Own2.atLL {v:Value} {l:List (List I)} {k:Nat} {x:List I} (h:Own2 w0 E elLL v l L LL) (hx:l[k]? = some x):∃ p c H,OwnG w0 E elLL.el v H L∧H[k]? = some ⟨p,c,x⟩∧SLfe w0 LL elI (.slice p x.length c) x:=h.at hx
theorem ct_ {b:Bool} (h:(!b)=false):b=true:=by cases b <;> first | rfl | cases h
theorem Frq.po {L M1 A Z:List Blk} (f:Frq M L M1) (g:M1.Perm (A ++ Z)):M.Perm ((L ++ A) ++ Z):=by rw [List.append_assoc];exact f.pa g
theorem Frq.pz {L Z:List Blk} (f:Frq M L Z):M.Perm ((L ++ []) ++ Z):=by rw [List.append_nil];exact f
end
end Go.Kn
namespace Go.Proofs.YtokjfhfiodopdaaGreat
open Go.Kn Go.Num Tryz
attribute [local irreducible] Go.Kn.W WL PL OpQ OpR OpS
theorem gR (va:Value) (l:List Nat) (k:Nat) (w:World) (hva:Sl w va l) :
    Calls prog 138 [va,.int .i64 (k:Int)].toArray w (fun e w'=>e = .returned (.int .i64 ((l.getD k 0:Nat):Int))∧Ext w w'):=by
 refine cT (N:=13) func138 rfl rfl (by simp) ?_;obtain ⟨w0,rfl⟩:∃ w0,w0=w:=⟨_,rfl⟩;simp only [bS,Nat.reduceAdd];refine go7 ?_;refine sQ (m8 kR rfl hva.old) rfl (go2 ?_);refine aT _ rfl (fun hk=>?_) (fun hk=>?_)
 ·replace hk:=cB_ hk
  refine go3 ?_;refine sQ (y3 kR rfl rfl hva.old oo_) rfl (sQ (vM tyT rfl hva.old oo_) rfl (go3 ?_));refine bP rfl (.inr rfl) rfl ?_;exact rfl
 replace hk:=cB_ hk
 refine go5 ?_;refine bP rfl (.inr rfl) rfl ?_;exact congrArg (fun n:Nat=>Value.int .i64 (n:Int)) (show 0=l.getD k 0 by simp [List.getD,List.getElem?_eq_none (show l.length≤k by omega)])
theorem jM (va:Value) (l:List Nat) (hD:DL l) (hn:l.length≤1000) (w:World) (hva:Sl w va l) :
    Calls prog 137 [va].toArray w (fun e w'=>e = .returned (sls va (dl (dv l)).length)∧Ext w w'):=by
 refine cT (N:=21) func137 rfl rfl (by simp) ?_;obtain ⟨w0,rfl⟩:∃ w0,w0=w:=⟨_,rfl⟩;simp only [bS,Nat.reduceAdd];refine go5 ?_;refine sQ (m8 kR rfl hva.old) rfl (go4 ?_);refine cO [3,6,7,8,9,10,11,12,13,14,15,16,17] (fun g nn M=>∃ (k:Nat),(g 3 = .int .i64 (k:Int))∧M=[]∧nn=k+0∧(k≤l.length∧∀ j,k≤j→l.getD j 0=0)) (l.length) ?start ?round
 case start =>
  refine ⟨_,(List.Sublist.refl _),l.length,?a3,?mem0,rfl,⟨Nat.le_refl _,fun j hj=>by simp [List.getD,List.getElem?_eq_none (show l.length≤j by omega)]⟩⟩
  case mem0=>rfl
  case a3=>rfl
 case round =>
  rintro nn g M ⟨k,hg3,rfl,hmeas,⟨hk,hhi⟩⟩;subst nn;simp only [eO,hg3];clear hg3;refine go5 ?_
  cases hz:decide ((0:Int)<(k:Int))
  ·refine F7 ?_;refine sQ (at_ kR rfl rfl hva.old oo_) rfl (go3 ?_);refine bP rfl (.inr rfl) rfl ?_;rw [JB hD,OH hhi (.inl (by have:=of_decide_eq_false hz;omega))]
  have hz':=of_decide_eq_true hz;obtain ⟨m,rfl⟩:∃ m,k=m+1:=⟨k - 1,by omega⟩;refine go2 ?_;refine sQ (aV (oD rfl rfl) (congrArg (Value.int .i64) (xX oo_))) rfl (sQ (y3 kR rfl rfl hva.old oo_) rfl (sQ (vM tyT rfl hva.old oo_) rfl (go3 ?_)));refine aT _ rfl (fun h0=>?_) (fun h0=>?_)
  ·replace h0:=cB_ h0
   refine go4 ?_;refine sQ (aV (oD rfl rfl) (congrArg (Value.int .i64) (xX oo_))) rfl (go2 ?_);refine ⟨pp_,_,_,(List.Sublist.refl _),oo_,m,?s3,?mem,rfl,⟨by omega,fun j hj=>by rcases Nat.eq_or_lt_of_le hj with rfl | hj;omega;exact hhi j hj⟩⟩
   case mem=>rfl
   case s3=>rfl
  replace h0:=cB_ h0
  refine go4 ?_;refine sQ (at_ kR rfl rfl hva.old oo_) rfl (go3 ?_);refine bP rfl (.inr rfl) rfl ?_;rw [JB hD,OH hhi (.inr (by simp only [Nat.add_sub_cancel];omega))]
theorem cE (a:R) (ha:a.Ok) (w:World)  :
    Calls prog 84 [RV a].toArray w (fun e w'=>∃ v,e = .returned v∧Ext w w'∧Slf w.heap.size w' v (dl (val a.w))):=by
 refine vH (N:=26) func84 rfl rfl (by simp) ?_;obtain ⟨w0,rfl⟩:∃ w0,w0=w:=⟨_,rfl⟩;simp only [bS,Nat.reduceAdd];refine go_ ?_;refine bJ rfl (kC rfl rfl (fun b1 hb1=>oS ?_));refine cO [3,4,5,6,7,8,9,10,11,12,13,14,15,16,17,18,19,20,21,22,23] (fun g nn M=>∃ (k:Nat) (v:Value) (l:List Nat) (L:List Blk),(g 3=v∧g 4 = .int .i64 (k:Int))∧M=L ++ [⟨b1,27,a.cells⟩]∧nn=16 - k∧(k≤16∧OwnL w0 3 v l L∧DL l∧l.length=2 * k∧dv l=val a.w % 4294967296 ^ k)) (16) ?start ?round
 case start =>
  refine ⟨_,(List.Sublist.refl _),0,_,[],[],⟨?a3,?a4⟩,?mem0,rfl,⟨Nat.zero_le _,.nil,DL.nil,rfl,by simp [dv,Nat.mod_one]⟩⟩
  case mem0=>rfl
  case a3=>rfl
  case a4=>rfl
 case round =>
  rintro nn g M ⟨k,v,l,L,⟨hg3,hg4⟩,rfl,hmeas,⟨hk,hO,hD,hlen,hdv⟩⟩;subst nn;simp only [eO,hg3,hg4];clear hg3 hg4;refine go5 ?_;refine aT _ rfl (fun hc=>?_) (fun hc=>?_)
  ·replace hc:=cB_ hc
   have hc:k<16:=by omega
   refine go3 ?_;refine rE sn 16 [13,14] [14] (go2 ?_);refine pQ rfl (dA fdT dd_ rfl) (pQ rfl (fI arT rfl rfl oo_ oo_) (pQ rfl (d8 tyT rfl mm_ (nQ (r:=a) (k:=k) (by rw [ha.len];omega))) ?_));refine pQ rfl (t7 rfl rfl dd_) (pQ rfl (aV (eX iF ET rfl) (f1_ (eG ha.lim k))) (go_ ?_));refine pQ rfl (dA fdT dd_ rfl) (pQ rfl (fI arT rfl rfl oo_ oo_) (pQ rfl (d8 tyT rfl mm_ (nQ (r:=a) (k:=k) (by rw [ha.len];omega))) ?_));refine pQ rfl (tL rfl rfl dd_) (pQ rfl (aV (eX iF ET rfl) (fY_ (eG ha.lim k))) ?_);refine fT rfl rfl (jS pF z_3 z8 rfl dd_ rfl (d2_ _ _) (fun b22 hb22=>⟨(fun _=>by first | exact sd s0 | exact s0),ss_,?_⟩));refine fT rfl rfl (AR pF SI rfl rfl hO (SL.mine (l:=[a.w.getD k 0 % 65536,a.w.getD k 0 / 65536]) (.head _) (Nat.le_refl _)) (List.sublist_cons_self _ _) (by simp;omega) (fun v' L' hO'=>⟨nf,ss_,?_⟩));refine go4 ?_;refine sQ (aV (jE rfl rfl) (congrArg (Value.int .i64) (j9 oo_))) rfl (go2 ?_);refine ⟨pp_,_,_,(List.Sublist.refl _),oo_,k+1,_,_,_,⟨?s3,?s4⟩,?mem,rfl,⟨by omega,hO',hD.append (DL.two (eG ha.lim k)),by simp [hlen];omega,PD ha.lim hlen hdv⟩⟩
   case mem=>rfl
   case s3=>rfl
   case s4=>rfl
  replace hc:=cB_ hc
  obtain rfl:k=16:=by omega
  refine go3 ?_;refine sQ (bN aJ rfl (fun w hw=>jM v l hD oo_ w (SL.sl (hO.sl lZ) hw))) rfl (go3 ?_);refine bP rfl (.inr rfl) rfl ?_;exact vX hD (by rw [hdv,RZ ha]) (hO.slf lZ)
theorem eB  :
    Ret prog 125 [] (RV Z.bad.enc):=by
 refine cL (N:=2) func125 rfl rfl (by simp) (fun w0=>?_);simp only [bS,Nat.reduceAdd];refine go_ ?_;refine bJ rfl (fB lH (fun b0 hb0=>go2 ?_));refine sQ (wB lH plT rfl (.cons rfl (vs:=[.bool true]) rfl rfl (by simp [zR]) (z':=Z.bad.enc.cells) rfl (.nil _))) rfl ?_;refine bJ rfl (cG tyT rfl rfl uu_ rfl rfl (bW Z.bad.enc) (.inl (by assumption)) ?_);refine go2 ?_;refine bP rfl (.inr rfl) ⟨_,_,_,_,_,_,rfl,mm_,tyT,_,(eH rfl),rfl,rfl⟩ ?_;exact rfl
theorem sI (r:R) (h:r.Ok) :
    Ret prog 122 [RV r] (.bool r.valid):=by
 refine cL (N:=32) func122 rfl rfl (by simp) (fun w0=>?_);simp only [bS,Nat.reduceAdd];refine go_ ?_;refine bJ rfl (kC rfl rfl (fun b1 hb1=>oS ?_));refine cO [3,4,5,6,7,8,9,10,11,12,13,14,15,16] (fun g nn M=>∃ (k:Nat) (z:Bool),(g 3 = .bool z∧g 4 = .int .i64 (k:Int))∧M=[⟨b1,27,r.cells⟩]∧nn=16 - k∧(k≤16∧(z=true ↔ ∀ j,j<k→r.w.getD j 0=0))) (16) ?start ?round
 case start =>
  refine ⟨_,(List.Sublist.refl _),0,true,⟨?a3,?a4⟩,?mem0,rfl,⟨Nat.zero_le _,⟨fun _ j hj=>by omega,fun _=>rfl⟩⟩⟩
  case mem0=>rfl
  case a3=>rfl
  case a4=>rfl
 case round =>
  rintro nn g M ⟨k,z,⟨hg3,hg4⟩,rfl,hmeas,⟨hk,hz⟩⟩;subst nn;simp only [eO,hg3,hg4];clear hg3 hg4;refine go5 ?_;refine aT _ rfl (fun hc=>?_) (fun hc=>?_)
  ·replace hc:=cB_ hc
   have hc:k<16:=by omega
   refine go6 ?_
   cases z
   ·refine oS ?_;refine sQ (aV (jE rfl rfl) (congrArg (Value.int .i64) (j9 oo_))) rfl (go2 ?_);refine ⟨pp_,_,_,(List.Sublist.refl _),oo_,k+1,?zz_1,⟨?s3,?s4⟩,?mem,rfl,⟨by omega,?inv_1⟩⟩
    case mem=>rfl
    case s3=>rfl
    case s4=>rfl
    first | exact RF hz | exact VN hz
   refine go_ ?_;refine sQ (dA fdT dd_ rfl) rfl (sQ (fI arT rfl rfl oo_ oo_) rfl (sQ (d8 tyT rfl mm_ (nQ (r:=r) (k:=k) (by rw [h.len];omega))) rfl ?_));refine go6 ?_;refine sQ (aV (jE rfl rfl) (congrArg (Value.int .i64) (j9 oo_))) rfl (go2 ?_);refine ⟨pp_,_,_,(List.Sublist.refl _),oo_,k+1,?zz_2,⟨?s3,?s4⟩,?mem,rfl,⟨by omega,?inv_2⟩⟩
   case mem=>rfl
   case s3=>rfl
   case s4=>rfl
   first | exact RF hz | exact VN hz
  replace hc:=cB_ hc
  obtain rfl:k=16:=by omega
  obtain rfl:z=r.zero:=cx_ h hz;refine go3 ?_;refine sQ (dA fdT dd_ rfl) rfl (sQ (d8 tyT rfl mm_ rfl) rfl ?_);refine go_ ?_;refine aT _ rfl (fun hb=>?_) (fun hb=>?_)
  ·replace hb:=cB_ hb
   refine go3 ?_
   cases hz0:r.zero
   ·refine go7 ?_;refine bP rfl (.inr rfl) rfl ?_
    simp [R.valid, *]
   refine sQ (dA fdT dd_ rfl) rfl (sQ (d8 tyT rfl mm_ rfl) rfl ?_);refine go5 ?_;refine bP rfl (.inr rfl) rfl ?_
   simp [R.valid, *]
  replace hb:=cB_ hb
  refine go5 ?_
  cases hz0:r.zero
  ·refine go7 ?_;refine bP rfl (.inr rfl) rfl ?_
   simp [R.valid, *]
  refine sQ (dA fdT dd_ rfl) rfl (sQ (d8 tyT rfl mm_ rfl) rfl ?_);refine go5 ?_;refine bP rfl (.inr rfl) rfl ?_
  simp [R.valid, *]
theorem cF (r:R) (h:r.Ok) :
    Ret prog 83 [RV r] (.bool r.good):=by
 refine cL (N:=12) func83 rfl rfl (by simp) (fun w0=>?_);simp only [bS,Nat.reduceAdd];refine go_ ?_;refine bJ rfl (kC rfl rfl (fun b1 hb1=>go3 ?_));refine sQ (dF tyT rfl mm_ (dQ h)) rfl ?_;refine sQ (bZ aJ (sI r h) rfl) rfl (go5 ?_)
 cases hv:r.valid
 ·refine go7 ?_;refine bP rfl (.inr rfl) rfl ?_
  simp [R.good, *]
 refine sQ (dA fdT dd_ rfl) rfl (sQ (d8 tyT rfl mm_ rfl) rfl ?_);refine go5 ?_;refine bP rfl (.inr rfl) rfl ?_
 simp [R.good, *]
theorem d5 (neg:Bool) (va:Value) (l:List Nat) (hD:DL l) (hn:l.length≤1000) (w:World) (hva:Sl w va l) :
    Calls prog 130 [.bool neg,va].toArray w (fun e w'=>e = .returned (RV (Z.of (sgn neg (dv l))).enc)∧Ext w w'):=by
 refine cT (N:=62) func130 rfl rfl (by simp) ?_;obtain ⟨w0,rfl⟩:∃ w0,w0=w:=⟨_,rfl⟩;simp only [bS,Nat.reduceAdd];have hu0:∀ M,SL w0 [] M (sls va (dl (dv l)).length) (dl (dv l)):=fun M=>aZ_ hD hva.old;refine go_ ?_;refine bJ rfl (fB lH (fun b4 hb4=>go3 ?_));refine sQ (bN aJ rfl (fun w hw=>jM va l hD hn w (SL.sl (M:=_) hva.old hw))) rfl (go5 ?_);refine sQ (m8 kR rfl (hu0 _)) rfl (go2 ?_);refine aT _ rfl (fun hbig=>?_) (fun hbig=>?_)
 ·replace hbig:=cB_ hbig
  refine go_ ?_;refine sQ (bZ aJ (eB) rfl) rfl (bJ rfl (cG tyT rfl rfl uu_ (aS _) rfl (bW _) (.inl (by assumption)) ?_));refine go2 ?_;refine bP rfl (.inr rfl) ⟨_,_,_,_,_,_,rfl,mm_,tyT,_,(eH (aS _)),(aS _),rfl⟩ ?_;exact SF oo_
 replace hbig:=cB_ hbig
 have hlen:(dl (dv l)).length≤32:=by omega
 refine go_ ?_;refine rV [6,14,15,16,17,18,19,20] (fun g M=>∃ (b6:Nat),(g 6 = .pointer (some ⟨b6,0,none⟩))∧M=⟨b6,27,R.cells (R.mk false (neg&&decide ((0:Int)<((dl (dv l)).length:Int))) (List.replicate 16 0))⟩ :: [⟨b4,27,zR⟩]∧(w0.heap.size≤b6)) (fun K6 J6=>?_) ?_
 ·refine go3 ?_
  cases neg
  ·refine go4 ?_;refine sQ (wB lH plT rfl (Y9 _)) rfl (bJ rfl (fB lH (fun b6 hb6=>bJ rfl (cG tyT rfl rfl uu_ (by simp [R.cells,iE]) rfl (bW _) (.inl (by assumption)) ?_))));refine go_ ?_;refine J6 _ _ pp_ ⟨_,(List.Sublist.refl _),_,?s6,?mem,hb6⟩
   case mem=>rfl
   case s6=>rfl
  refine go_ ?_;refine sQ (m8 kR rfl (hu0 _)) rfl (go2 ?_);refine sQ (wB lH plT rfl (Y9 _)) rfl (bJ rfl (fB lH (fun b6 hb6=>bJ rfl (cG tyT rfl rfl uu_ (by simp [R.cells,iE]) rfl (bW _) (.inl (by assumption)) ?_))));refine go_ ?_;refine J6 _ _ pp_ ⟨_,(List.Sublist.refl _),_,?s6,?mem,hb6⟩
  case mem=>rfl
  case s6=>rfl
 rintro g M ⟨b6,hg6,rfl,hb6⟩;simp only [eO,hg6];clear hg6;refine go5 ?_;refine cO [7,21,22,23,24,25,26,27,28,29,30,31,32,33,34,35,36,37,38,39,40,41,42,43,44,45,46,47,48,49,50,51,52,53,54,55,56,57,58,59,60] (fun g nn M=>∃ (k:Nat) (ws:List Nat),(g 7 = .int .i64 (k:Int))∧M=⟨b6,27,R.cells (R.mk false (neg&&decide ((0:Int)<((dl (dv l)).length:Int))) ws)⟩ :: [⟨b4,27,zR⟩]∧nn=(dl (dv l)).length - k∧(k≤(dl (dv l)).length∧NumIn (dv l) k ws)) ((dl (dv l)).length - 0) ?start ?round
 case start =>
  refine ⟨_,(List.Sublist.refl _),0,_,?a7,?mem0,rfl,⟨Nat.zero_le _,NumIn.start _⟩⟩
  case mem0=>rfl
  case a7=>rfl
 case round =>
  rintro nn g M ⟨k,ws,hg7,rfl,hmeas,⟨hk,hI⟩⟩;subst nn;simp only [eO,hg7];clear hg7;refine go4 ?_;refine sQ (m8 kR rfl (hu0 _)) rfl (go2 ?_);refine aT _ rfl (fun hc=>?_) (fun hc=>?_)
  ·replace hc:=cB_ hc
   have hk32:k<32:=by omega
   refine go5 ?_;refine sQ (aV (t7 rfl rfl dd_) (congrArg (Value.int .i64) (gY_ k))) rfl (go2 ?_);refine aT _ rfl (fun hpar=>?_) (fun hpar=>?_)
   ·replace hpar:=cB_ hpar
    have hpar:k % 2=0:=by omega
    have hz:=(hI.even hpar hk32).2;refine rE (sd (sk (s0))) 16 [15] [15] (go_ ?_);refine pQ rfl (aV (tL rfl rfl dd_) (congrArg (Value.int .i64) (cd_ k oo_))) (go_ ?_);refine pQ rfl (aV (tL rfl rfl dd_) (congrArg (Value.int .i64) (cd_ k oo_))) (pQ rfl (dA fdT dd_ rfl) (pQ rfl (fI arT rfl rfl oo_ oo_) (pQ rfl (d8 tyT rfl mm_ (nQ (r:=R.mk false (neg&&decide ((0:Int)<((dl (dv l)).length:Int))) ws) (k:=k / 2) (by simp only [hI.len];omega))) ?_)));refine go2 ?_;refine pQ rfl (y3 kR rfl rfl (hu0 _) oo_) (pQ rfl (vM tyT rfl (hu0 _) oo_) (pQ rfl (eX ET iF rfl) (pQ rfl (aV (jE rfl rfl) (show _=U32 (dg (dv l) k) by rw [(hI.even hpar hk32).1,BH];exact XY (nU _ _))) (pQ rfl (dA fdT dd_ rfl) (pQ rfl (fI arT rfl rfl oo_ oo_) ?_)))));refine fT rfl rfl (QN (k:=k / 2) tyT rfl rfl uu_ (by rw [hI.len];omega) (.inl (by assumption)) ⟨nf,ss_,?_⟩);refine go3 ?_;refine sQ (aV (jE rfl rfl) (congrArg (Value.int .i64) (j9 oo_))) rfl (go2 ?_);refine ⟨pp_,_,_,(List.Sublist.refl _),oo_,k+1,_,?s7,?mem,rfl,⟨by omega,hz⟩⟩
    case mem=>rfl
    case s7=>rfl
   replace hpar:=cB_ hpar
   have hpar:¬ k % 2=0:=by omega
   have hz:=(hI.odd hpar hk32).2;refine gdr (sd (sk (s0))) [0,4,8,12,16,20,24,28,32,36,40,44,48,52,56,60,65] [16] mix (by kernel_rfl) (go_ ?_);refine pQ rfl (aV (tL rfl rfl dd_) (congrArg (Value.int .i64) (cd_ k oo_))) (go_ ?_);refine pQ rfl (aV (tL rfl rfl dd_) (congrArg (Value.int .i64) (cd_ k oo_))) (pQ rfl (dA fdT dd_ rfl) (pQ rfl (fI arT rfl rfl oo_ oo_) (pQ rfl (d8 tyT rfl mm_ (nQ (r:=R.mk false (neg&&decide ((0:Int)<((dl (dv l)).length:Int))) ws) (k:=k / 2) (by simp only [hI.len];omega))) ?_)));refine go2 ?_;refine pQ rfl (y3 kR rfl rfl (hu0 _) oo_) (pQ rfl (vM tyT rfl (hu0 _) oo_) (pQ rfl (eX ET iF rfl) (go_ ?_)));refine pQ rfl (aV (jE rfl rfl) (show _=U32 (ws.getD (k / 2) 0+dg (dv l) k * 65536) by rw [BH];exact bq_ (hI.odd hpar hk32).1 (nU _ _))) (pQ rfl (dA fdT dd_ rfl) (pQ rfl (fI arT rfl rfl oo_ oo_) ?_));refine fT rfl rfl (QN (k:=k / 2) tyT rfl rfl uu_ (by rw [hI.len];omega) (.inl (by assumption)) ⟨nf,ss_,?_⟩);refine go3 ?_;refine sQ (aV (jE rfl rfl) (congrArg (Value.int .i64) (j9 oo_))) rfl (go2 ?_);refine ⟨pp_,_,_,(List.Sublist.refl _),oo_,k+1,_,?s7,?mem,rfl,⟨by omega,hz⟩⟩
   case mem=>rfl
   case s7=>rfl
  replace hc:=cB_ hc
  obtain rfl:k=(dl (dv l)).length:=by omega
  refine go2 ?_;refine sQ (dF tyT rfl mm_ (by simp [R.cells,iE,hI.len])) rfl ?_;refine bJ rfl (cG tyT rfl rfl uu_ (by simp [R.cells,iE,hI.len]) rfl (bW _) (.inl (by assumption)) ?_);refine go2 ?_;refine bP rfl (.inr rfl) ⟨_,_,_,_,_,_,rfl,mm_,tyT,_,(eH (by simp [R.cells,iE,hI.len])),(by simp [R.cells,iE,hI.len]),rfl⟩ ?_;exact SG hI
end Go.Proofs.YtokjfhfiodopdaaGreat
