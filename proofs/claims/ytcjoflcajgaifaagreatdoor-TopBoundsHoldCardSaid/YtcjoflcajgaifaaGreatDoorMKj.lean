/- Lemmas: what they ask stands in their statements. -/
import Derived.Maps.RangeRun
import Derived.DeepKeys5
import Derived.Maps.Keyed
import Derived.Test.YtcjoflcajgaifaaGreatDoorMGa
set_option linter.unusedSimpArgs false
set_option linter.unusedVariables false
set_option maxHeartbeats 8000000
set_option maxRecDepth 20000
namespace Go.Kn
open Go.RowKit
section
variable {P:Program} {w0:World} {X:List Nat} {N:Nm} {S:Fr} {M:List Blk}
theorem w9 {ops:List Oper} {R:Exit→Act→World→Prop} {Q':Fr→List Blk→Prop} {B:Nat} {ws:World} (hR:∀ S M D w,KO N.m ws w→DG B D w→RecAt N.m S w→Sat w0 X M w→Q' S M→R .normal (kM D N S) w):∀ (l:List Oper) (k:Nat) (S:Fr) (M:List Blk) (D:List Deferred) (w:World),
  (∀ j,l[j]? = ops[k+j]?)→KO N.m ws w→DG B D w→RecAt N.m S w→Sat w0 X M w→WL P w0 X N ops Q' l S M →
   wpOpsIn (sL N.ro) 0 P ops.toArray R (List.range' k l.length) (kM D N S) w
 | [],_,S,M,D,w,_,hk,hd,hr,hw,h=>hR S M D w hk hd hr hw h
 | o::l,k,S,M,D,w,hl,hk,hd,hr,hw,h=>by
  have h0:ops.toArray[k]? = some o:=by simpa using (hl 0).symm
  have hl':∀ j,l[j]? = ops[k+1+j]?:=fun j=>by have:=hl (j+1);simpa [Nat.add_assoc,Nat.add_comm 1 j] using this
  rw [List.length_cons,List.range'_succ,wpOpsIn_cons];unfold wpOpIn;rw [h0];simp only [WL] at h;obtain ⟨hok,h⟩:=h;simp only [oL]
  split
  ·rename_i hwt
   rw [if_pos hwt] at h;have h2:=h w hr hw;rw [VT D] at h2;refine wE ?_ h2;rintro v w' ⟨hk',S',M',ha,hr',hs,hx⟩;rw [← ha D,nS];exact w9 hR l (k+1) _ M' D w' hl' (hk.trans hk') (DG.ko hr hk' hd) (hr'.put hok) hs hx
  rename_i hwt
  rw [if_neg hwt] at h;rw [nS];exact ⟨fun _ _=>trivial,w9 hR l (k+1) _ M D w hl' hk hd (hr.put hok) hw h⟩
def Sw (P:Program) (w0:World) (X:List Nat) (N:Nm) (ops:List Oper) (o:Oper) (l:List Oper) (c:Code) (Q:kL) (S:Fr) (M:List Blk):Prop :=
 ∀ w,RecAt N.m S w→Sat w0 X M w→opw P o (act N S) w fun v w'=>∃ N' S' M',N'.n=N.n∧N'.ro=N.ro∧(∀ D,kM D N S'=kM D N S)∧Sat w0 X M' w'∧KO N.m w w'∧RecAt N'.m S' w' ∧
  (∀ k,k<w.heap.size→N'.m.mine k→N.m.mine k)∧(∀ S2 w2,RecAt N'.m S2 w2→RecAt N.m S2 w2)∧WL P w0 X N' ops (Nx P w0 X N' c Q) l (lX S' o.dst v) M'
theorem HC {ops:List Oper} {o:Oper} {l:List Oper} {c:Code} {Q:kL} {B k:Nat} {ws w:World} {D:List Deferred} (hl:∀ j,(o::l)[j]? = ops[k+j]?) (hok:okD o.dst=true) (hwt:Region.wanted o (yld N ops S)=true)
  (hB:B≤ws.heap.size) (hk0:KO N.m ws w) (hd:DG B D w) (hr:RecAt N.m S w) (hw:Sat w0 X M w) (h:Sw P w0 X N ops o l c Q S M) :
  wpOpsIn (sL N.ro) 0 P ops.toArray (Exit.then (c.wpIn (sL N.ro) 0 P (lift w0 X N B ws Q)) (lift w0 X N B ws Q)) (List.range' k (l.length+1)) (kM D N S) w:=by
 rw [List.range'_succ,wpOpsIn_cons];unfold wpOpIn
 have h0:ops.toArray[k]? = some o:=by simpa using (hl 0).symm
 rw [h0];simp only [oL];rw [if_pos hwt];have h2:=h w hr hw;rw [VT D] at h2;refine wE ?_ h2;rintro v w' ⟨N',S',M',hn,hro,ha,hs,hk,hr',hmine,hback,hx⟩
 have hN:∀ D S,kM D N S=kM D N' S:=fun D S=>by unfold kM;rw [hn]
 rw [← ha D,nS,hN,← hro];have hd':=DG.ko hr hk hd;refine w9 (B:=B) (ws:=w') (Q':=Nx P w0 X N' c Q) ?_ l (k+1) _ M' D w' (fun j=>by have:=hl (j+1);simpa [Nat.add_assoc,Nat.add_comm 1 j] using this) (.refl _ _) hd' (hr'.put hok) hs hx;intro S3 M3 D3 w3 hk3 hd3 hr3 hw3 q;have hkk:∀ w4,KO N'.m w' w4→KO N.m w w4:=fun w4 h4=>⟨Nat.le_trans hk.size h4.size,fun k ob hm ho hc=>h4.same k ob (fun hm'=>hm (hmine k (cT? ho) hm')) (hk.same k ob hm ho hc) hc⟩;have q3:=q.h B D3 w3 (Nat.le_trans hB (hk0.trans (hkk _ hk3)).size) hd3 hr3 hw3;refine wpIn_mono q3 ?_;rintro e a w4 ⟨D4,S4,M4,rfl,hs4,hk4,hd4,hr4,q4⟩;exact ⟨D4,S4,M4,(hN _ _).symm,hs4,hk0.trans (hkk _ (hk3.trans hk4)),hd4,hback _ _ hr4,q4⟩
theorem W0 {id:Nat} {o:Oper} {l:List Oper} {c:Code} {Q:kL} (hok:okD o.dst=true) (hwt:Region.wanted o (yld N (o::l) S)=true) (h:Sw P w0 X N (o::l) o l c Q S M) :
  W P w0 X N (.seq (.region id (o::l).toArray false) c) Q S M:=by
 intro B D w hB hd hr hw;refine wpIn_seq (wpIn_region ?_);rw [List.range_eq_range',List.size_toArray,List.length_cons];exact HC (fun j=>by rw [Nat.zero_add]) hok hwt hB (.refl _ _) hd hr hw h
theorem U2 {id:Nat} {o0 o:Oper} {l:List Oper} {c:Code} {Q:kL} {v0:Value} (hok0:okD o0.dst=true) (hwt0:Region.wanted o0 (yld N (o0::o::l) S)=true) (hq:OpQ P w0 X N o0 S M v0) (hok:okD o.dst=true)
  (hwt:Region.wanted o (yld N (o0::o::l) (lX S o0.dst v0))=true) (h:Sw P w0 X N (o0::o::l) o l c Q (lX S o0.dst v0) M) :
  W P w0 X N (.seq (.region id (o0::o::l).toArray false) c) Q S M:=by
 intro B D w hB hd hr hw;refine wpIn_seq (wpIn_region ?_);rw [List.range_eq_range',List.size_toArray,List.length_cons,List.range'_succ,wpOpsIn_cons];unfold wpOpIn
 have h0:(o0::o::l).toArray[0]? = some o0:=by simp
 rw [h0];simp only [oL];rw [if_pos hwt0];have h2:=hq w hw;rw [VT D] at h2;refine wE ?_ h2;rintro v w' ⟨rfl,he⟩;rw [nS,List.length_cons];exact HC (fun j=>by rw [Nat.zero_add,Nat.add_comm 1 j];rfl) hok hwt hB (KO.of he.keeps) (DG.ko hr (KO.of he.keeps) hd) ((hr.keeps he.keeps O).put hok0) (Sat.mono _ _ _ _ _ hw he) h
def mX:List Value→Nat→List MapEntry
 | [],_=>[]
 | v::l,i=>⟨v,.bool true,i⟩::mX l (i+1)
def u4 (L:List Value):Obj:=.map (mX L 0).toArray L.length
def xF:Value→Nat
 | .int _ n=>n.toNat
 | _=>0
def vR (r:Nat) (L s:List Value):Obj:=.mapIter (some r) L.length (s.map xF).toArray L.length
def gM (L:List Value):Value:=.agg L.toArray
def gI (L s:List Value):Value:=.tuple #[.agg L.toArray,.agg s.toArray]
def hM:Value→List Obj
 | .agg a=>[u4 a.toList]
 | .tuple t=>match t.toList with
  | [.agg a,.agg _]=>[u4 a.toList]
  | _=>[]
 | _=>[]
def hI (r:Nat):Value→List Obj
 | .tuple t=>match t.toList with
  | [.agg a,.agg s]=>[u4 a.toList,vR r a.toList s.toList]
  | _=>[]
 | _=>[]
theorem ej_ {r:Nat} {v:Value} (h:(hI r v).length=2):∃ L s,v=gI L s:=by
 unfold hI at h
 split at h
 ·rename_i t
  split at h
  ·rename_i a s ht
   exact ⟨a.toList,s.toList,by unfold gI;congr;apply Array.ext';simpa using ht⟩
  ·cases h
 ·cases h
theorem N0 (v:Value):∀ (L:List Value) (i:Nat),mX (L++[v]) i=mX L i++[⟨v,.bool true,i+L.length⟩]
 | [],i=>rfl
 | x::l,i=>by
  show (⟨x,.bool true,i⟩:MapEntry)::mX (l++[v]) (i+1)=_
  rw [N0 v l (i+1)];simp only [mX,List.cons_append,List.length_cons,Nat.add_assoc,Nat.add_comm 1]
theorem qD:∀ {L:List Value} {i:Nat} {e:MapEntry},e∈mX L i→∃ j,L[j]? = some e.key∧e.born=i+j∧e.val = .bool true
 | v::l,i,e,h=>by
  rcases List.mem_cons.1 h with rfl|h
  ·exact ⟨0,rfl,rfl,rfl⟩
  obtain ⟨j,h1,h2,h3⟩:=qD h;exact ⟨j+1,h1,by omega,h3⟩
theorem N1 {v:Value}:∀ {L:List Value},v∈L→∀ i,∃ e∈mX L i,e.key=v
 | x::l,h,i=>by
  rcases List.mem_cons.1 h with rfl|h
  ·exact ⟨_,List.mem_cons_self,rfl⟩
  obtain ⟨e,he,hk⟩:=N1 h (i+1);exact ⟨e,List.mem_cons_of_mem _ he,hk⟩
theorem KW:∀ {L:List Value} {j:Nat},j<L.length→∀ i,∃ e∈mX L i,e.born=i+j
 | x::l,0,_,i=>⟨_,List.mem_cons_self,rfl⟩
 | x::l,j+1,h,i=>by
  obtain ⟨e,he,hb⟩:=KW (Nat.lt_of_succ_lt_succ h) (i+1);exact ⟨e,List.mem_cons_of_mem _ he,by omega⟩
theorem FJ:∀ (L:List Value) (i:Nat),((mX L i).map (·.born)).Nodup
 | [],_=>List.nodup_nil
 | v::l,i=>by
  simp only [mX,List.map_cons,List.nodup_cons];refine ⟨fun h=>?_,FJ l (i+1)⟩;obtain ⟨e,he,hb⟩:=List.mem_map.1 h;obtain ⟨j,_,h2,_⟩:=qD he;omega
def wH:List Value→List Value→Bool
 | [],[]=>true
 | .int k a::l,.int k' b::m=>decide (k=k')&&decide (a=b)&&wH l m
 | _,_=>false
def z4:Value→Value→Bool
 | .agg a,.agg b=>wH a.toList b.toList
 | _,_=>false
theorem AC:∀ {l m:List Value},wH l m=true→l=m
 | [],[],_=>rfl
 | .int k a::l,.int k' b::m,h=>by
  simp only [wH,Bool.and_eq_true,decide_eq_true_eq] at h;obtain ⟨⟨rfl,rfl⟩,h⟩:=h;rw [AC h]
 | [],_::_,h=>by cases h
 | _::_,[],h=>by unfold wH at h;split at h<;>first|contradiction|cases h
 | .bool _::l,_::m,h=>by unfold wH at h;cases h
 | _::_,_::_,h=>by
  unfold wH at h
  split at h
  ·rename_i e1 e2;cases e1
  ·rename_i e1 e2;cases e1;cases e2
   simp only [Bool.and_eq_true,decide_eq_true_eq] at h;obtain ⟨⟨rfl,rfl⟩,h⟩:=h;rw [AC h]
  ·cases h
theorem XA {x y:Value} (h:z4 x y=true):x=y:=by
 unfold z4 at h
 split at h
 ·congr;exact Array.ext' (AC h)
 ·cases h
variable {r it:Nat} {L s:List Value} {T k e:TypeId} {x y z:Operand} {d:Option Tmp} {ty:TypeId} {ps:String} {af:Array Edge} {gd:Option (Nat×Bool)}
theorem YX {w:World} (hr:RecAt N.m S w) (hN:N.m = .held [r] hM) (hg:gv S=gM L):w.heap[r]? = some (u4 L):=by
 have h:=hr.2;rw [hN,hg] at h;exact (h.2 (r,u4 L) (by simp [gM,hM])).2
theorem YW {w:World} (hr:RecAt N.m S w) (hN:N.m = .held [r,it] (hI r)) (hg:gv S=gI L s):w.heap[r]? = some (u4 L)∧w.heap[it]? = some (vR r L s):=by
 have h:=hr.2;rw [hN,hg] at h;exact ⟨(h.2 (r,u4 L) (by simp [gI,hI])).2,(h.2 (it,vR r L s) (by simp [gI,hI])).2⟩
theorem gm_ {w:World} {n:Nat} (h:w.heap[r]? = some (u4 L)) (hg:gv S=gM L):RecAt (.held [r] hM) S w :=
 ⟨fun _ _ e=>(by cases e),by rw [hg];exact ⟨rfl,fun p hp=>by
  have hp:p∈[(r,u4 L)]:=by simpa [gM,hM] using hp
  rcases List.mem_cons.1 hp with rfl|hp
  ·exact ⟨rfl,h⟩
  ·cases hp⟩⟩
theorem gl_ {w:World} (h:w.heap[r]? = some (u4 L)) (h2:w.heap[it]? = some (vR r L s)) (hg:gv S=gI L s):RecAt (.held [r,it] (hI r)) S w :=
 ⟨fun _ _ e=>(by cases e),by rw [hg];exact ⟨rfl,fun p hp=>by
  have hp:p∈[(r,u4 L),(it,vR r L s)]:=by simpa [gI,hI] using hp
  rcases List.mem_cons.1 hp with rfl|hp
  ·exact ⟨rfl,h⟩
  rcases List.mem_cons.1 hp with rfl|hp
  ·exact ⟨rfl,h2⟩
  ·cases hp⟩⟩
theorem fG_ {S2:Fr} {w2:World} (h:RecAt (.held [r,it] (hI r)) S2 w2):RecAt (.held [r] hM) S2 w2:=by
 obtain ⟨L,s,e⟩:=ej_ h.2.1;have h1:=(YW (N:=⟨0,.held [r,it] (hI r)⟩) h O e).1;refine ⟨fun _ _ e=>(by cases e),?_⟩;rw [e]
 exact ⟨rfl,fun p hp=>by
  have hp:p∈[(r,u4 L)]:=by simpa [gI,hM] using hp
  rcases List.mem_cons.1 hp with rfl|hp
  ·exact ⟨rfl,h1⟩
  ·cases hp⟩
theorem KG {n:Nat} {m:Mode} (hn:n≤1000000) (v:Value) (D:List Deferred):kM D ⟨n,m⟩ ((1000000,v)::S)=kM D ⟨n,m⟩ S:=by
 unfold kM
 congr 2
 refine List.map_congr_left fun i hi=>?_;rw [pL,if_neg];have h1:i<n:=List.mem_range.1 hi;intro e;omega
theorem bc_ {n id:Nat} {l:List Oper} {c:Code} {Q:kL} {dd:Tmp} (hok:Nat.blt dd 1000000=true) (hwt:Region.wanted ⟨some dd,.makeMap T none,ty,ps,af,gd⟩ (yld (pl n) (⟨some dd,.makeMap T none,ty,ps,af,gd⟩::l) S)=true) (hn:Nat.ble n 1000000=true)
  (h:∀ r,w0.heap.size≤r→WL P w0 X ⟨n,.held [r] hM⟩ (⟨some dd,.makeMap T none,ty,ps,af,gd⟩::l) (Nx P w0 X ⟨n,.held [r] hM⟩ c Q) l ((dd,.map (some r))::(1000000,gM [])::S) M) :
  W P w0 X (pl n) (.seq (.region id (⟨some dd,.makeMap T none,ty,ps,af,gd⟩::l).toArray false) c) Q S M:=by
 refine W0 hok hwt fun w hr hw=>?_;unfold opw
 have hrun:(execOp (act (pl n) S).eval ⟨some dd,.makeMap T none,ty,ps,af,gd⟩).run P w = .ok (.value (.map (some w.heap.size))) (w.alloc (.map #[] 0)):=by
  simp only [execOp,Sem.run_bind,Option.map_none,run_makeMap,Result.andThen_ok];rfl
 rw [hrun];have hext:Ext w (w.alloc (.map #[] 0)):=(Below.refl _ _).alloc (Nat.le_refl _) _;refine ⟨⟨n,.held [w.heap.size] hM⟩,(1000000,gM [])::S,M,rfl,rfl,fun D=>KG (m:=.plain) (Nat.le_of_ble_eq_true hn) _ D,Sat.mono _ _ _ _ _ hw hext,KO.of hext.keeps,gm_ (n:=0) (L:=[]) (by show (w.heap.push _)[w.heap.size]? = _;simp [u4,mX]) O,fun k hk hm=>?_,fun S2 w2 _=>⟨fun _ _ e=>(by cases e),trivial⟩,h _ hw.size⟩;rcases List.mem_cons.1 (show k∈[w.heap.size] from hm) with rfl|h
 ·exact absurd hk (Nat.lt_irrefl _)
 ·cases h
def DN (P:Program) (k:TypeId) (L:List Value):Bool:=L.all fun v=>(keyOf P k v).isSome
theorem FY {v:Value} (h:DN P k L=true) (hv:v∈L):∃ l,keyOf P k v=some l:=Option.isSome_iff_exists.1 (List.all_eq_true.1 h v hv)
theorem IU {n:Nat} (h:DN P k L=true):∀ e∈mX L n,∃ l,keyOf P k e.key=some l:=fun e he=>by
 obtain ⟨j,h1,_⟩:=qD he;exact FY h (List.mem_of_getElem? h1)
theorem ao_ {e:TypeId} {w:World} (h:P.underlying e=some .bool) (hz:(P.info? e).bind (·.zero)=some (.bool false)):(zeroValue e).run P w = .ok (.bool false) w:=by
 obtain ⟨i,hi,hi2⟩:=Option.bind_eq_some_iff.1 hz
 simp [zeroValue,typeInfo,hi,hi2,Sem.run]
theorem sF {key:Value} {K:Value→Fr→List Blk→Prop} (hN:N.m = .held [r] hM) (hg:gv S=gM L) (Kk:Go.Maps.Keyed P k) (hT:P.underlying T=some (.map k e)) (he:P.underlying e=some .bool) (hz:(P.info? e).bind (·.zero)=some (.bool false))
  (hx:evO N S x=some (.map (some r))) (hy:evO N S y=some key) (hk:DN P k (key::L)=true) (hq:z4 key key=true) (h:K (.bool (L.any (z4 key))) S M) :
  OpS P w0 X N ⟨d,.lookup T x y false,ty,ps,af,gd⟩ S M K:=by
 intro w hr hw;have hm:=YX hr hN hg;obtain ⟨lk,hlk⟩:=FY hk List.mem_cons_self
 have hL:DN P k L=true:=by simp only [DN,List.all_cons,Bool.and_eq_true] at hk;exact hk.2
 have hf:=Kk.find w hlk (mX L 0) (IU hL);have hc:=Kk.check w (mX L 0).isEmpty hlk
 have hrun:(execOp (act N S).eval ⟨d,.lookup T x y false,ty,ps,af,gd⟩).run P w = .ok (.value (.bool (L.any (z4 key)))) w:=by
  rw [iD];simp only [execOp,bE hx,bE hy,Instr.lookup,Sem.run_bind,run_underlying hT,Result.andThen_ok,getObj,Sem.run,hm,u4,Sem.run_pure]
  have he1:(mX L 0).toArray.isEmpty=(mX L 0).isEmpty:=by simp
  simp only [he1,hc,Result.andThen_ok];rcases hf with ⟨h1,h2⟩|⟨j,en,h1,h2,h3⟩
  ·have hb:L.any (z4 key)=false:=by
    rw [← Bool.not_eq_true,List.any_eq_true];rintro ⟨v,hv,hvk⟩;have:=XA hvk;subst this;obtain ⟨en,he,hk⟩:=N1 hv 0;exact h2 en he hk
   simp only [h1,Result.andThen_ok,ao_ he hz,hb,Sem.run_bind,Sem.run_pure];rfl
  have hb:L.any (z4 key)=true:=by
   rw [List.any_eq_true];obtain ⟨i,h4,_⟩:=qD (List.mem_of_getElem? h2);exact ⟨key,by rw [← h3];exact List.mem_of_getElem? h4,hq⟩
  obtain ⟨_,_,_,h5⟩:=qD (List.mem_of_getElem? h2);simp only [h1,Result.andThen_ok,hb,h5,Sem.run_bind,Sem.run_pure];rfl
 unfold opw;rw [hrun];exact ⟨.refl _ _,S,M,fun _=>rfl,hr,hw,h⟩
theorem ZA {m:Mode} {w:World} {b:Nat} {o o':Obj} (hm:m.mine b):KO m w (w.putObj b o') :=
 ⟨by rw [World.putObj_size];exact Nat.le_refl _,fun j ob hj ho _=>(World.putObj_heap_other (fun e=>hj (by rw [e];exact hm))).trans ho⟩
theorem R5 {w:World} {o:Obj} (o':Obj) (hr:w.heap[r]? = some o) (ho:RJ o=true):(setObj r o').run P w = .ok () (w.putObj r o'):=by
 cases o<;>first|(simp [setObj,Sem.run,hr,World.putObj];done)|cases ho
theorem BV {key:Value} {n:Nat} {K:Value→Fr→List Blk→Prop} (hg:gv S=gM L) (Kk:Go.Maps.Keyed P k) (hT:P.underlying T=some (.map k e))
  (hx:evO ⟨n,.held [r] hM⟩ S x=some (.map (some r))) (hy:evO ⟨n,.held [r] hM⟩ S y=some key) (hz:evO ⟨n,.held [r] hM⟩ S z=some (.bool true)) (hk:DN P k (key::L)=true) (hq:z4 key key=true) (hnew:L.any (z4 key)=false) (hb:w0.heap.size≤r) (hn:Nat.ble n 1000000=true)
  (h:K undef ((1000000,gM (L++[key]))::S) M):OpS P w0 X ⟨n,.held [r] hM⟩ ⟨d,.mapUpdate T x y z,ty,ps,af,gd⟩ S M K:=by
 intro w hr hw;have hm:=YX hr O hg;obtain ⟨lk,hlk⟩:=FY hk List.mem_cons_self
 have hL:DN P k L=true:=by simp only [DN,List.all_cons,Bool.and_eq_true] at hk;exact hk.2
 have hc:=Kk.check w false hlk
 have hf:(Instr.findKey k key (mX L 0)).run P w = .ok none w:=by
  rcases Kk.find w hlk (mX L 0) (IU hL) with ⟨h1,_⟩|⟨j,en,_,h2,h3⟩
  ·exact h1
  exfalso
  obtain ⟨i,h4,_⟩:=qD (List.mem_of_getElem? h2);have:L.any (z4 key)=true:=List.any_eq_true.2 ⟨key,by rw [← h3];exact List.mem_of_getElem? h4,hq⟩;rw [hnew] at this;cases this
 have ho:(Obj.map ((mX L 0).toArray.push { key:=key,val:=.bool true,born:=L.length }) (L.length+1))=u4 (L++[key]):=by
  unfold u4;rw [N0,List.length_append]
  simp
 have hrun:(execOp (act ⟨n,.held [r] hM⟩ S).eval ⟨d,.mapUpdate T x y z,ty,ps,af,gd⟩).run P w = .ok .skip (w.putObj r (u4 (L++[key]))):=by
  rw [iD];simp only [execOp,bE hx,bE hy,bE hz,Instr.mapUpdate,Sem.run_bind,run_underlying hT,Result.andThen_ok,getObj,Sem.run,hm,u4,Sem.run_pure];simp only [hc,Result.andThen_ok,hf];rw [ho,R5 _ hm O];rfl
 unfold opw;rw [hrun];have hlt:=cT? hm;have hmm:(Mode.held [r] hM).mine r:=List.mem_cons_self;exact ⟨ZA (o:=u4 L) hmm,(1000000,gM (L++[key]))::S,M,fun D=>KG (Nat.le_of_ble_eq_true hn) _ D,gm_ (n:=0) (World.putObj_heap_same hlt) O,hw.putO hb hm O _,h⟩
theorem WY {n id:Nat} {o0:Oper} {l:List Oper} {c:Code} {Q:kL} {dd:Tmp} {v0:Value} {o1:Oper} (ho:o1=⟨some dd,.range T x,ty,ps,af,gd⟩) (hT:P.underlying T=some (.map k e)) (hok0:okD o0.dst=true) (hwt0:Region.wanted o0 (yld ⟨n,.held [r] hM⟩ (o0::o1::l) S)=true) (hq:OpQ P w0 X ⟨n,.held [r] hM⟩ o0 S M v0)
  (hok:Nat.blt dd 1000000=true) (hwt:Region.wanted o1 (yld ⟨n,.held [r] hM⟩ (o0::o1::l) (lX S o0.dst v0))=true) (hn:Nat.ble n 1000000=true)
  (hg:gv (lX S o0.dst v0)=gM L) (hx:evO ⟨n,.held [r] hM⟩ (lX S o0.dst v0) x=some (.map (some r)))
  (h:∀ it,w0.heap.size≤it→it≠r→WL P w0 X ⟨n,.held [r,it] (hI r)⟩ (o0::o1::l) (Nx P w0 X ⟨n,.held [r,it] (hI r)⟩ c Q) l ((dd,.pointer (some ⟨it,0,none⟩))::(1000000,gI L [])::lX S o0.dst v0) M) :
  W P w0 X ⟨n,.held [r] hM⟩ (.seq (.region id (o0::o1::l).toArray false) c) Q S M:=by
 subst ho;refine U2 hok0 hwt0 hq hok hwt fun w hr hw=>?_;have hm:=YX hr O hg;unfold opw
 have hrun:(execOp (act ⟨n,.held [r] hM⟩ (lX S o0.dst v0)).eval ⟨some dd,.range T x,ty,ps,af,gd⟩).run P w = .ok (.value (.pointer (some ⟨w.heap.size,0,none⟩))) (w.alloc (vR r L [])):=by
  rw [iD];simp only [execOp,bE hx,Instr.range,Sem.run_bind,run_underlying hT,Result.andThen_ok,getObj,Sem.run,hm,u4,Sem.run_pure,newObj,vR];rfl
 rw [hrun];have hext:Ext w (w.alloc (vR r L [])):=(Below.refl _ _).alloc (Nat.le_refl _) _;have hlt:=cT? hm;have hm':(w.alloc (vR r L [])).heap[r]? = some (u4 L):=(Below.heap_alloc _ _ _ hlt).trans hm;refine ⟨⟨n,.held [r,w.heap.size] (hI r)⟩,(1000000,gI L [])::lX S o0.dst v0,M,rfl,rfl,fun D=>KG (m:=.held [r] hM) (Nat.le_of_ble_eq_true hn) _ D,Sat.mono _ _ _ _ _ hw hext,KO.of hext.keeps,gl_ hm' (by show (w.heap.push _)[w.heap.size]? = _;simp) O,fun k hk hm=>?_,fun S2 w2 h=>fG_ h,h _ hw.size (fun e=>by omega)⟩;rcases List.mem_cons.1 (show k∈[r,w.heap.size] from hm) with rfl|h
 ·exact List.mem_cons_self
 rcases List.mem_cons.1 h with rfl|h
 ·exact absurd hk (Nat.lt_irrefl _)
 ·cases h
def vS (L s:List Value) (j:Nat):Bool:=decide (j<L.length) && !(s.map xF).contains j
theorem e0_ {n:Nat} {K:Value→Fr→List Blk→Prop} (hg:gv S=gI L s) (hx:evO ⟨n,.held [r,it] (hI r)⟩ S x=some (.pointer (some ⟨it,0,none⟩))) (hb:w0.heap.size≤it) (hne:it≠r) (hn:Nat.ble n 1000000=true)
  (h0:(∀ j,vS L s j=false)→K (.tuple #[.bool false]) S M)
  (h1:∀ j v,vS L s j=true→L[j]? = some v→K (.tuple #[.bool true,v,.bool true]) ((1000000,gI L (s++[.int .i64 j]))::S) M) :
  OpS P w0 X ⟨n,.held [r,it] (hI r)⟩ ⟨d,.next x false,ty,ps,af,gd⟩ S M K:=by
 intro w hr hw;obtain ⟨hm,hi⟩:=YW hr O hg
 have hnx:=run_next_at (P:=P) w ty it r L.length L.length (s.map xF).toArray (mX L 0).toArray L.length hi hm (fun en he=>by
  obtain ⟨j,h2,h3,_⟩:=qD (by simpa using he);have:=(List.getElem?_eq_some_iff.1 h2).1
  omega) (Nat.le_refl _)
 unfold opw
 have hx2:(execOp (act ⟨n,.held [r,it] (hI r)⟩ S).eval ⟨d,.next x false,ty,ps,af,gd⟩).run P w=((Instr.next (.pointer (some ⟨it,0,none⟩)) false ty).run P w).andThen fun a w'=>.ok (.value a) w':=by
  rw [iD];simp only [execOp,bE hx,Sem.run_bind];rfl
 rw [hx2];rcases hnx with ⟨h2,h3⟩|⟨en,h2,w1,h3,h4⟩
 ·rw [h3]
  refine ⟨.refl _ _,S,M,fun _=>rfl,hr,hw,h0 fun j=>?_⟩;rw [← Bool.not_eq_true];intro hj;simp only [vS,Bool.and_eq_true,decide_eq_true_eq,Bool.not_eq_true'] at hj;obtain ⟨en,he,hb2⟩:=KW hj.1 0
  have:en∈(leftOf (mX L 0).toArray (s.map xF).toArray).toList:=by
   simp only [leftOf,Array.toList_filter,List.mem_filter];refine ⟨he,?_⟩;rw [hb2,Nat.zero_add]
   simpa using hj.2
  have h5:(leftOf (mX L 0).toArray (s.map xF).toArray).toList=[]:=by
   rw [← List.length_eq_zero_iff];simpa using h2
  rw [h5] at this;cases this
 rw [h4];have h20:=h2;simp only [leftOf,Array.toList_filter,List.mem_filter] at h20;have he:en∈mX L 0:=h20.1;obtain ⟨j,h5,h6,h7⟩:=qD he;rw [Nat.zero_add] at h6
 have hj:vS L s j=true:=by
  have h8:=h20.2;rw [h6] at h8;simp only [vS,Bool.and_eq_true,decide_eq_true_eq];exact ⟨(List.getElem?_eq_some_iff.1 h5).1,by simpa using h8⟩
 have hs:∀ (o:Nat) (ob:Obj),w.heap[o]? = some ob→w1.heap[o]? = some ob:=fun o ob ho=>by rcases h3 with rfl|rfl<;>exact ho
 have hk1:KeepsOthers w w1:=by rcases h3 with rfl|rfl;exact KeepsOthers.refl _;exact KeepsOthers.drew _
 have hw1:Sat w0 X M w1:=by rcases h3 with rfl|rfl;exact hw;exact Sat.mono _ _ _ _ _ hw (Below.refl _ _).drew
 have hio:(Obj.mapIter (some r) L.length ((s.map xF).toArray.push en.born) L.length)=vR r L (s++[.int .i64 j]):=by
  unfold vR;rw [h6]
  congr 1
  apply Array.ext'
  simp [xF]
 rw [hio,h7];have hi1:=hs _ _ hi;have hmm:(Mode.held [r,it] (hI r)).mine it:=List.mem_cons_of_mem _ List.mem_cons_self
 exact ⟨(KO.of hk1).trans (ZA (o:=vR r L s) hmm),(1000000,gI L (s++[.int .i64 j]))::S,M,fun D=>KG (Nat.le_of_ble_eq_true hn) _ D,
  gl_ ((World.putObj_heap_other (Ne.symm hne)).trans (hs _ _ hm)) (World.putObj_heap_same (cT? hi1)) O,hw1.putO hb hi1 O _,h1 j en.key hj h5⟩
theorem cs_ {n j:Nat} {v:Value} {K:Value→Fr→List Blk→Prop} (hg:gv S=gI L (s++[.int .i64 j])) (hx:evO ⟨n,.held [r,it] (hI r)⟩ S x=some (.pointer (some ⟨it,0,none⟩))) (hv:L[j]? = some v) (h:K (.tuple #[v,.bool true]) S M) :
  OpS P w0 X ⟨n,.held [r,it] (hI r)⟩ ⟨d,.entry x,ty,ps,af,gd⟩ S M K:=by
 intro w hr hw;obtain ⟨hm,hi⟩:=YW hr O hg;obtain ⟨en,he,hb⟩:=KW (List.getElem?_eq_some_iff.1 hv).1 0;rw [Nat.zero_add] at hb
 have hi':w.heap[it]? = some (.mapIter (some r) L.length ((s.map xF).toArray.push en.born) L.length):=by
  rw [hi,hb];unfold vR
  congr 2
  apply Array.ext'
  simp [xF]
 have hrun:=run_entry_at (P:=P) w it r L.length (s.map xF).toArray (mX L 0).toArray L.length en hi' hm (by simpa using he) (by simpa using FJ L 0);obtain ⟨i,h1,h2,h3⟩:=qD he
 have hij:i=j:=by omega
 subst hij;rw [hv] at h1;cases h1;unfold opw;rw [iD];simp only [execOp,bE hx,Sem.run_bind,hrun,Result.andThen_ok,h3];exact ⟨.refl _ _,S,M,fun _=>rfl,hr,hw,h⟩
theorem zN {α:Type} {el:El α} {l':List α} {v:Value} {E:TypeId} {g:FuncId} {xs:List Operand} {tys:Array TypeId} {args:List Value} {L M1:List Blk} {K:Value→List Blk→Prop} (he:iV P g=true) (ha:evL N S xs=some args)
  (h:∀ w,Sat w0 X (L++M1) w→Calls P g args.toArray w fun e w'=>∃ u M',e = .returned u∧Sat w0 X M' w'∧KeepsOthers w w'∧(u = .tuple #[]∧∃ L',OwnG w0 E el v l' L'∧M'=L'++M1)) (k:∀ L',OwnG w0 E el v l' L'→K (.tuple #[]) (L'++M1)) :
  OpR P w0 X N ⟨d,.call { callee:=.value (.func g),args:=xs.toArray,argTypes:=tys },ty,ps,af,gd⟩ S (L++M1) K :=
 yR he ha fun w hw=>(h w hw).mono fun e w' ⟨u,M',h1,h2,h3,hu,L',h4,h5⟩=>⟨u,M',h1,h2,h3,by subst hu h5;exact k L' h4⟩
theorem gJm {N2:Nm} {Q Q0:kL} {xc yc:Code} (mods:List Nat) (R:(Nat→Value)→List Blk→Prop)
  (hx:∀ K:Fr→List Blk→Prop,(∀ S' M,PutOn mods S S'→(∃ M',M'.Sublist M∧R (look S') M')→K S' M)→W P w0 X N xc (uB K Q) S M)
  (hy:∀ g M,R g M→W P w0 X N2 yc Q0 (vA S g mods) M) (hK:∀ S M,W P w0 X N2 yc Q0 S M→Q .normal S M:=by intro _ _ h;repeat (first|exact gtn h|refine AY ?_|refine BW ?_)):W P w0 X N xc Q S M:=by
 refine CA (hx (fun S' M'=>PutOn mods S S'∧∃ M2,M2.Sublist M'∧R (look S') M2) (fun S M h1 h2=>⟨h1,h2⟩)) ?_;intro e S' M' h
 cases e with
 | normal =>
  obtain ⟨hp,M2,hs,hr⟩:=h;exact hK S' M' (AW (tZ hp) (fX hs (hy _ _ hr)))
 | exit id=>exact h
 | goto l=>exact h
 | ret=>exact h
 | panic c=>exact h
 | outgrown=>exact h
theorem oQ {n':Nat} {g:FuncId} {fn:Func} {c:Code} {f:Operand} {xs:List Operand} {tys:Array TypeId} {args cap:List Value} {K:Value→List Blk→Prop} (he:iV P g=true) (hf:evO N S f=some (.func (.func g) #[] cap.toArray)) (hfn:P.funcs[g]? = some fn) (hb:fn.body=some c) (hn:fn.ntmps=n')
  (ha:evL N S xs=some args) (hl:(args++cap).length≤n') (h:W P w0 X (pl n') c (kQ P fn w0 X (pl n') K) (oM 0 (args++cap)) M):OpR P w0 X N ⟨d,.call { callee:=.value f,args:=xs.toArray,argTypes:=tys },ty,ps,af,gd⟩ S M K :=
 wR he hf ha (fun w hw=>iE hfn hb hn hl hw h) (fun _ _ h=>h)
end
open Go.RowKit
def cS (s:ByteArray):Part:=⟨1,[.string s],rfl,fun v hv=>by cases hv with|head=>rfl|tail _ h=>cases h⟩
instance {s:ByteArray}:PtO (.string s) [cS s]:=⟨rfl⟩
instance {s:ByteArray}:Pt1 (.string s) (cS s):=⟨rfl⟩
def elS:El ByteArray:=⟨1,fun s=>[cS s],fun _=>rfl⟩
section
variable {P:Program} {w0:World} {X:List Nat} {N:Nm} {S:Fr} {M:List Blk} {d:Option Tmp} {ty:TypeId} {ps:String} {af:Array Edge} {gd:Option (Nat×Bool)}
theorem cg_ {T:TypeId} {x:Operand} {lo hi:Option Operand} {s:ByteArray} {l h:Int} (hT:P.underlying T=some .string) (hx:evO N S x=some (.string s)) (hl:tO N S 0 lo=some l) (hh:tO N S s.size hi=some h)
  (h0:0≤l) (h1:l≤h) (h2:h≤s.size):OpQ P w0 X N ⟨d,.slice T x lo hi none,ty,ps,af,gd⟩ S M (.string (s.extract l.toNat h.toNat)) :=
 kX fun w _=>by
  have hb:=tL (P:=P) (w:=w) (isSl:=false) (cap:=s.size) hl hh h0 h1 h2;simp only [execOp,Instr.sliceAt,Instr.slice,Sem.run_bind,run_underlying hT,bE hx,Result.andThen_ok]
  simp [hb]
theorem ac_ {T yT:TypeId} {x y:Operand} {s t:ByteArray} (hx:evO N S x=some (.string s)) (hy:evO N S y=some (.string t)) (h:s.size+t.size≤1000):OpQ P w0 X N ⟨d,.binOp .add T x y yT,ty,ps,af,gd⟩ S M (.string (s++t)) :=
 kX fun w _=>by
  simp [execOp,bE hx,bE hy,eqGuard,binOp,Op.stringOp]
  omega
theorem eO_ {T yT:TypeId} {x y:Operand} {s t:ByteArray} (hx:evO N S x=some (.string s)) (hy:evO N S y=some (.string t)):OpQ P w0 X N ⟨d,.binOp .eql T x y yT,ty,ps,af,gd⟩ S M (.bool (s.toList==t.toList)) :=
 kX fun w _=>by
  simp [execOp,bE hx,bE hy,eqGuard,binOp,Op.stringOp]
end
end Go.Kn
namespace Go.Proofs.YtcjoflcajgaifaaGreatDoor
open Go.Kn Go.Num Tryz
attribute [local irreducible] Go.Kn.W WL PL OpQ OpR OpS
def C4 (n:Nat):ByteArray:=⟨#[UInt8.ofNat (48+n)]⟩
theorem C8 (n:Nat) (h:n=1∨n=2):Ret prog 148 [.int .i64 n] (.string (C4 n)):=by
 rcases h with rfl|rfl
 all_goals
  refine bI (N:=5) func148 O O zz_ (fun w0=>?_);refine giI ?_;refine go_ ?_;refine sQ (m6 O) O ?_
  (repeat refine go_ ?_)
  refine aQ O (rB (by rfl) func184 O O O (Nat.le_of_ble_eq_true O) (go_ ?_));refine sQ (m6 O) O ?_
  (repeat refine go_ ?_)
  refine aQ O (rB (by rfl) func217 O O O (Nat.le_of_ble_eq_true O) (go_ ?_));refine sQ (m6 O) O ?_
  (repeat refine go_ ?_)
  refine aQ O (rB (by rfl) func236 O O O (Nat.le_of_ble_eq_true O) (go_ ?_));refine sQ (m6 O) O ?_
  (repeat refine go_ ?_)
  refine sQ (cg_ O O O O dd_ dd_ dd_) O ?_;refine sQ (m6 O) O ?_
  (repeat refine go_ ?_)
  refine rtX O O (go_ ?_)
  (repeat refine go_ ?_)
  refine rtX O O (go_ ?_)
  (repeat refine go_ ?_)
  refine rtX O O (go_ ?_)
  (repeat refine go_ ?_)
  refine rt1 ?_;rfl
def GM (n:Nat):R:=⟨false,false,n::List.replicate 15 0⟩
theorem cn_ {n:Nat} (h:n=1∨n=2):(GM n).Ok:=⟨rfl,fun d hd=>by
 rcases h with rfl|rfl
 ·exact (by decide:∀ d∈(GM 1).w,d<4294967296) d hd
 exact (by decide:∀ d∈(GM 2).w,d<4294967296) d hd⟩
theorem ML:iO prog 177=some 1:=by kernel_rfl
theorem y7 (n:Nat) (h:n=1∨n=2):Ret prog 96 [RV (GM n)] (.string (C4 n)):=by
 have ha:=cn_ h;have hI:=C8 n h
 have hS:Ret prog 147 [UV (GM n).w,U32 1000000000] (.tuple #[UV (List.replicate 16 0),U32 n]):=by
  have:=xN (GM n).w ha.len ha.lim 1000000000 dd_ dd_;rcases h with rfl|rfl
  ·exact this
  exact this
 have hg:[GM n].all R.good=true:=by rcases h with rfl|rfl<;>rfl
 refine bI (N:=49) func96 O O zz_ (fun w0=>?_);refine giI ?_;refine go_ ?_;refine aQ O (iG O O (fun b1 hb1=>?_));refine sQ (m6 O) O ?_
 (repeat refine go_ ?_)
 refine sQ (bZ tyT O (.head _) (cO ha)) O ?_;refine aQ O (hZ n7 kA n6 O dd_ O (u3 ha) (fun b4 hb4=>sQ (aE (v':=.bool true) (dZ (by rfl) O (fun w hw=>gA [GM n] (ok1 ha) b4 31 w (hw.mem _ m0) zz_)) (congrArg Value.bool hg)) O ?_))
 (repeat refine go_ ?_)
 refine sQ (fU (vs:=uw (GM n).w) tyT O (.tail _ (.head _)) (jD ha.len) ((fG _).trans ha.len)) O ?_;refine aQ O (dP mE (fun b5 hb5=>aQ O (bK tyT O O (.head _) ((fG _).trans ha.len) O (fS _) (.inl eX) ?_)))
 (repeat refine go_ ?_)
 refine jI 2 ?_
 (repeat refine go_ ?_)
 refine sQ (bZ tyT O (.head _) ((fG _).trans ha.len)) O (sQ (aY (by rfl) hS O) O ?_)
 (repeat refine go_ ?_)
 refine aQ O (dP mE (fun b6 hb6=>aQ O (bK (vs:=uw (List.replicate 16 0)) tyT O O (.head _) O O (fS _) (.inl eX) ?_)))
 (repeat refine go_ ?_)
 refine sQ (aE (v':=.int .i64 n) (dJ fM zW O) (by rcases h with rfl|rfl<;>rfl)) O (sQ (aY (by rfl) hI O) O ?_);refine sQ (m6 O) O ?_
 (repeat refine go_ ?_)
 refine sQ (bZ tyT O (.head _) O) O (sQ (lP mE arT O (.nil _)) O (sQ (nX (r:=true) O O (jY 8 dd_ DH DQ (kC O) (kC zz_) ⟨fun _=>rfl,fun _=>rfl⟩)) O ?_))
 (repeat refine go_ ?_)
 refine aQ O (bQ [[cS (C4 n)]] [cS (C4 n)] (by rfl) (by rfl) (by rfl) O dd_ O O ⟨rfl,rfl,rfl,trivial⟩ O (fun b7 hb7=>aQ O (dM (e:=elS) (l:=([]:List ByteArray)) (m:=[C4 n]) 16 (by rfl) (by kernel_rfl) dd_ O O OwnG.nil (SLe.lit (e:=elS) (l:=[C4 n]) m0 O (Nat.le_of_ble_eq_true O) O) OB (by simp only [List.length_append,List.length_cons,List.length_nil];omega) dd_ (fun p8 c8 L8 hO8=>?_))))
 (repeat refine go_ ?_)
 refine sQ (cZ tyT O mm_ O) O ?_
 (repeat refine go_ ?_)
 refine aQ O (rB (by rfl) func150 O O O (Nat.le_of_ble_eq_true O) (go_ ?_))
 (repeat refine go_ ?_)
 refine sQ (aE (v':=.int .i64 1) (bT (e:=elS) (l:=[C4 n]) ML O (rO hO8 lZ)) O) O ?_
 (repeat refine go_ ?_)
 refine jI 2 ?_
 (repeat refine go_ ?_)
 refine u9 O (.inl O) ?_
 (repeat refine go_ ?_)
 refine aQ O (rB (by rfl) func151 O O O (Nat.le_of_ble_eq_true O) (go_ ?_));refine sQ (m6 O) O ?_
 (repeat refine go_ ?_)
 refine sQ (aE (v':=.int .i64 1) (bT (e:=elS) (l:=[C4 n]) ML O (rO hO8 lZ)) O) O ?_
 (repeat refine go_ ?_)
 refine sQ (aM (e:=elS) (l:=[C4 n]) (k:=0) ML O O (rO hO8 lZ) (Nat.le_of_ble_eq_true O)) O ?_;refine sQ (cL (u:=.string (C4 n)) (e:=elS) (l:=[C4 n]) (k:=0) (o:=0) (s:=1) (by kernel_rfl) O (rO hO8 lZ) O O) O ?_;refine sQ (m6 O) O ?_
 (repeat refine go_ ?_)
 refine rt1 ?_
 (repeat refine go_ ?_)
 refine rt1 ?_;rfl
def half:Rt:=⟨E (Z.of 1),E (Z.of 2)⟩
theorem VF:bD half=true:=by kernel_rfl
theorem VH:mK (wl 2) (wl 4)=half:=by kernel_rfl
theorem g7_:(E (Z.of 1)).1=GM 1:=by kernel_rfl
theorem g8_:(E (Z.of 2)).1=GM 2:=by kernel_rfl
theorem fB_:Ret prog 96 [AV [pI (E (Z.of 1))]] (.string (C4 1)):=(show Ret prog 96 [RV (E (Z.of 1)).1] _ from g7_ ▸ y7 1 (.inl O))
theorem fC_:Ret prog 96 [AV [pI (E (Z.of 2))]] (.string (C4 2)):=(show Ret prog 96 [RV (E (Z.of 2)).1] _ from g8_ ▸ y7 2 (.inr O))
def UD:ByteArray:=⟨#[49,47,50]⟩
theorem GQ:Ret prog 35 [AV [pI half.n,pI half.d]] (.string UD):=by
 refine bI (N:=23) func35 O O zz_ (fun w0=>?_);refine giI ?_;refine go2 ?_;intro b1 hb1;refine sQ (m6 O) O ?_
 (repeat refine go_ ?_)
 refine sQ (aE (v':=.bool true) (aY (by rfl) (fC half) O) (congrArg Value.bool VF)) O ?_
 (repeat refine go_ ?_)
 refine kV s0 5 [] [] ?_
 (repeat refine go_ ?_)
 refine pQ O (aY (by rfl) rU O) (pQ O (aE (v':=.bool false) (nX (r:=decide (half.d=F_ratio_one)) O O (jY 8 dd_ NX OP (jX oN) (jX oN) (nF yC))) (by kernel_rfl)) ?_)
 (repeat refine go_ ?_)
 refine kV s0 9 [] [] ?_
 (repeat refine go_ ?_)
 refine pQ O (aY (by rfl) fB_ O) (pQ O (ac_ O O dd_) ?_)
 (repeat refine go_ ?_)
 refine pQ O (aY (by rfl) fC_ O) (pQ O (aE (v':=.string UD) (ac_ O O dd_) (by rfl)) (pQ O (m6 O) ?_))
 (repeat refine go_ ?_)
 refine rt1 ?_;rfl
end Go.Proofs.YtcjoflcajgaifaaGreatDoor
namespace Go.Num
open Go Go.Kn
def n9 (a:(A3 W)):(A3 W) :=
 (⟨(W.neg a.x),(W.neg a.y),(W.neg a.z)⟩:(A3 W))
def pU (a:(A3 W)) (b:(A3 W)):(A3 W) :=
 (⟨(W.add a.x b.x),(W.add a.y b.y),(W.add a.z b.z)⟩:(A3 W))
def kP (a:(A3 W)) (b:(A3 W)):(A3 W) :=
 let r4:(A3 W):=(pU a (n9 b))
 r4
def j7 (a:(A3 W)):(A3 I) :=
 (⟨(E (Z.of a.x.1)),(E (Z.of a.y.1)),(E (Z.of a.z.1))⟩:(A3 I))
def AT (a:(A3 I)) (b:(A3 I)):I :=
 let r5:I:=(E (Z.add (Z.add (Z.of 0) (Z.mul a.x.dec b.x.dec)) (Z.mul a.y.dec b.y.dec)))
 (E (Z.add r5.dec (Z.mul a.z.dec b.z.dec)))
def KA (a:(A3 W)) (b:(A3 W)):I :=
 (AT (j7 a) (j7 b))
def A30:A3 W:=⟨W.z,W.z,W.z⟩
structure HPl where
 n:A3 W
 d:W
def sJ:HPl:=⟨⟨W.z,W.z,W.z⟩,W.z⟩
def elHP:El HPl:=⟨4,fun p=>[ci .i64 p.n.x.1,ci .i64 p.n.y.1,ci .i64 p.n.z.1,ci .i64 p.d.1],fun _=>rfl⟩
def oP:El Bool:=⟨1,fun b=>[cb b],fun _=>rfl⟩
structure FacetL where
 n:A3 W
 d:W
 p:Option Addr
 l:Nat
 c:Nat
def FL0:FacetL:=⟨⟨W.z,W.z,W.z⟩,W.z,none,0,0⟩
def yB:El FacetL:=⟨5,fun f=>[ci .i64 f.n.x.1,ci .i64 f.n.y.1,ci .i64 f.n.z.1,ci .i64 f.d.1,csl f.p f.l f.c],fun _=>rfl⟩
def pA (a:(A3 W)) (b:(A3 W)):W :=
 (W.add (W.add (W.mul a.x b.x) (W.mul a.y b.y)) (W.mul a.z b.z))
def gZ (a:(A3 W)) (b:(A3 W)):(A3 W) :=
 (⟨(W.sub (W.mul a.y b.z) (W.mul a.z b.y)),(W.sub (W.mul a.z b.x) (W.mul a.x b.z)),(W.sub (W.mul a.x b.y) (W.mul a.y b.x))⟩:(A3 W))
def uK (x:W):Bool :=
 (x.1 != x.1)
def bA (x:W) (y:W):W :=
 bif (uK x) then (bif (uK y) then (wl 0) else (wl (-1))) else (bif (uK y) then (wl 1) else (bif decide (x.1<y.1) then (wl (-1)) else (bif decide (y.1<x.1) then (wl 1) else (wl 0))))
def nP (l:(List W)):Nat→Nat→(Nat) ⊕ (W)
 | 0,k=>.inl k
 | k0+1,k=>bif decide ((k:Int)<(l.length:Int)) then (bif ((l.getD k W.z).1 != 0) then (.inr (l.getD k W.z)) else (nP l k0 (k+1))) else (.inl k)
def tJ (l:(List W)):W :=
 sm (fun (s:Nat)=>let k:Nat:=s
 (wl 0)) (fun r=>r) (nP l (l.length+1) 0)
def l5 (a:W) (b:W):Nat→W→W→W×W
 | 0,p,q=>(p,q)
 | k0+1,p,q=>bif (q.1 != 0) then (l5 a b k0 q (W.rem p q)) else (p,q)
def bO (a:W) (b:W):W :=
 ap (fun (s:W×W)=>let p:W:=s.1
 let q:W:=s.2
 (W.max p (W.neg p))) (l5 a b (b.1.natAbs+1) a b)
def pR (a:(A3 W)) (b:(A3 W)) (c:(A3 W)):HPl :=
 let r5:(A3 W):=(gZ (kP b a) (kP c a))
 let r8:(A3 W):=(⟨(bif decide (1<(bO (bO r5.x r5.y) r5.z).1) then (W.quo r5.x (bO (bO r5.x r5.y) r5.z)) else r5.x),(bif decide (1<(bO (bO r5.x r5.y) r5.z).1) then (W.quo r5.y (bO (bO r5.x r5.y) r5.z)) else r5.y),(bif decide (1<(bO (bO r5.x r5.y) r5.z).1) then (W.quo r5.z (bO (bO r5.x r5.y) r5.z)) else r5.z)⟩:(A3 W))
 (⟨r8,(pA r8 a)⟩:HPl)
def jG (l:(List (A3 W))) (p:HPl):Nat→Bool→Nat→(Bool×Nat) ⊕ (Bool)
 | 0,all,k=>.inl (all,k)
 | k0+1,all,k=>bif decide ((k:Int)<(l.length:Int)) then (bif decide (p.d.1<(pA p.n (l.getD k A30)).1) then (.inr false) else (bif all then (jG l p k0 ((pA p.n (l.getD k A30)).1==p.d.1) (k+1)) else (jG l p k0 false (k+1)))) else (.inl (all,k))
def iB (l:(List (A3 W))) (p:HPl):Bool :=
 sm (fun (s:Bool×Nat)=>let all:Bool:=s.1
 let k:Nat:=s.2
 (!all)) (fun r=>r) (jG l p (l.length+1) true 0)
def rZ (n:(A3 W)) (a:(A3 W)) (b:(A3 W)):W :=
 bif (n.x.1 != 0) then (W.mul (bA ((gZ a b).x) (wl 0)) (bA n.x (wl 0))) else (bif (n.y.1 != 0) then (W.mul (bA ((gZ a b).y) (wl 0)) (bA n.y (wl 0))) else (bif (n.z.1 != 0) then (W.mul (bA ((gZ a b).z) (wl 0)) (bA n.z (wl 0))) else (wl 0)))
def xA (a:HPl) (b:HPl):W :=
 let r4:W:=(tJ [(bA a.n.x b.n.x),(bA a.n.y b.n.y),(bA a.n.z b.n.z)])
 r4
def xB (a:(A3 W)) (b:(A3 W)):W :=
 let r4:W:=(tJ [(bA a.x b.x),(bA a.y b.y),(bA a.z b.z)])
 r4
def nM (d:(List HPl)) (i:Nat) (o:List HPl):Nat→Nat→(List HPl)→Nat×List HPl
 | 0,j,u=>(j,u)
 | k1+1,j,u=>bif decide (0<(j:Int)) then (bif decide ((xA (u.getD j sJ) (u.getD (j - 1) sJ)).1<0) then (nM d i o k1 (j - 1) ((u.set j (u.getD (j - 1) sJ)).set (j - 1) (u.getD j sJ))) else (j,u)) else (j,u)
def nL (d:(List HPl)):Nat→Nat→(List HPl)→Nat×List HPl
 | 0,i,o=>(i,o)
 | k0+1,i,o=>bif decide ((i:Int)<(d.length:Int)) then (ap (fun (s:Nat×List HPl)=>let j:Nat:=s.1
 let u:List HPl:=s.2
 (nL d k0 (i+1) u)) (nM d i o (i+1) i o)) else (i,o)
def nK (d:List HPl):List HPl :=
 ap (fun (s:Nat×List HPl)=>let i:Nat:=s.1
 let o:List HPl:=s.2
 o) (nL d (d.length+1) 1 d)
def nO (d:(List (A3 W))) (i:Nat) (o:List (A3 W)):Nat→Nat→(List (A3 W))→Nat×List (A3 W)
 | 0,j,u=>(j,u)
 | k1+1,j,u=>bif decide (0<(j:Int)) then (bif decide ((xB (u.getD j A30) (u.getD (j - 1) A30)).1<0) then (nO d i o k1 (j - 1) ((u.set j (u.getD (j - 1) A30)).set (j - 1) (u.getD j A30))) else (j,u)) else (j,u)
def nN (d:(List (A3 W))):Nat→Nat→(List (A3 W))→Nat×List (A3 W)
 | 0,i,o=>(i,o)
 | k0+1,i,o=>bif decide ((i:Int)<(d.length:Int)) then (ap (fun (s:Nat×List (A3 W))=>let j:Nat:=s.1
 let u:List (A3 W):=s.2
 (nN d k0 (i+1) u)) (nO d i o (i+1) i o)) else (i,o)
def oS (d:List (A3 W)):List (A3 W) :=
 ap (fun (s:Nat×List (A3 W))=>let i:Nat:=s.1
 let o:List (A3 W):=s.2
 o) (nN d (d.length+1) 1 d)
def P4:List (A3 W):=[⟨wl 0,wl 0,wl 0⟩,⟨wl 0,wl 0,wl 6⟩,⟨wl 0,wl 6,wl 0⟩,⟨wl 6,wl 0,wl 0⟩]
def PIN:List (A3 W):=[⟨wl 0,wl 0,wl 0⟩,⟨wl 6,wl 0,wl 0⟩,⟨wl 0,wl 6,wl 0⟩,⟨wl 0,wl 0,wl 6⟩]
def PG0:List W:=[wl 0,wl 1,wl 2]
def PG1:List W:=[wl 0,wl 3,wl 1]
def PG2:List W:=[wl 0,wl 2,wl 3]
def PG3:List W:=[wl 1,wl 3,wl 2]
def KS4:List HPl:=[⟨⟨wl (-1),wl 0,wl 0⟩,wl 0⟩,⟨⟨wl 0,wl (-1),wl 0⟩,wl 0⟩,⟨⟨wl 0,wl 0,wl (-1)⟩,wl 0⟩,⟨⟨wl 1,wl 1,wl 1⟩,wl 6⟩]
def PL4:List HPl:=[⟨⟨wl (-1),wl 0,wl 0⟩,wl 0⟩,⟨⟨wl 0,wl (-1),wl 0⟩,wl 0⟩,⟨⟨wl 0,wl 0,wl (-1)⟩,wl 0⟩,⟨⟨wl 1,wl 1,wl 1⟩,wl 6⟩]
def pvP (p:HPl):Value:=AV (elHP.ps p)
def KSV:List Value:=KS4.map pvP
def rD (j:Nat):HPl:=KS4.getD j sJ
def D7 (j:Nat):Value:=.int .i64 (j:Int)
def Seen4 (s:List Nat):Prop:=s.Nodup∧∀ j∈s,j<4
theorem F9 (s:List Nat):(s.map D7).map xF=s:=by
 rw [List.map_map]
 conv=>rhs;rw [← List.map_id s]
 exact List.map_congr_left fun j _=>by simp [D7,xF]
theorem fZ_ {s:List Nat} {j:Nat} (h:vS KSV (s.map D7) j=true):j<4∧j ∉ s:=by
 unfold vS at h;rw [F9] at h;simp only [Bool.and_eq_true,decide_eq_true_eq,Bool.not_eq_true'] at h;exact ⟨h.1,by simpa using h.2⟩
theorem fY_ {s:List Nat} {j:Nat} (h:vS KSV (s.map D7) j=false) (hj:j<4):j∈s:=by
 unfold vS at h;rw [F9] at h;have h4:decide (j<KSV.length)=true:=decide_eq_true hj;rw [h4,Bool.true_and] at h
 simpa using h
theorem cO_ {j:Nat} (h:j<4):KSV[j]? = some (pvP (rD j)):=by
 match j,h with
 | 0,_=>rfl
 | 1,_=>rfl
 | 2,_=>rfl
 | 3,_=>rfl
theorem KSv {j:Nat} {v:Value} (h:j<4) (hv:KSV[j]? = some v):v=pvP (rD j):=by
 rw [cO_ h] at hv;exact (Option.some.inj hv).symm
theorem gp_:Seen4 []:=⟨List.nodup_nil,fun _ h=>by cases h⟩
theorem Seen4.add {s:List Nat} {j:Nat} (h:Seen4 s) (hj:j<4) (hs:j ∉ s):Seen4 (s++[j]):=by
 refine ⟨?_,fun k hk=>?_⟩
 ·rw [List.nodup_append]
  refine ⟨h.1,by simp,fun a ha b hb=>?_⟩;rw [List.mem_singleton.1 hb];exact fun e=>hs (e ▸ ha)
 rcases List.mem_append.1 hk with hk|hk
 ·exact h.2 k hk
 rw [List.mem_singleton.1 hk];exact hj
theorem GB:∀ {l m:List Nat},l.Nodup→(∀ x∈l,x∈m)→l.length≤m.length
 | [],m,_,_=>Nat.zero_le _
 | a::l,m,hn,hs=>by
  rw [List.nodup_cons] at hn;have ha:=hs a List.mem_cons_self;have h1:=GB (l:=l) (m:=m.erase a) hn.2 (fun x hx=>(List.mem_erase_of_ne (fun (e:x=a)=>hn.1 (by rw [← e];exact hx))).2 (hs x (List.mem_cons_of_mem _ hx)));rw [List.length_erase_of_mem ha] at h1;have:=List.length_pos_of_mem ha;simp only [List.length_cons];omega
theorem Seen4.le {s:List Nat} (h:Seen4 s):s.length≤4:=by
 have:=GB (m:=List.range 4) h.1 (fun j hj=>List.mem_range.2 (h.2 j hj))
 simpa using this
theorem ct_ {s:List Nat} (h:Seen4 s):(s.map rD).length≤4:=by rw [List.length_map];exact h.le
theorem V8 {s:List Nat} {j k:Nat} (h:Seen4 s) (hj:j<4) (hs:j ∉ s) (hq:4 - s.length<k+1):4 - (s++[j]).length<k:=by
 have:=(h.add hj hs).le;simp only [List.length_append,List.length_cons,List.length_nil] at *;omega
theorem JH {s:List Nat} (h:Seen4 s) (hl:∀ j,vS KSV (s.map D7) j=false):s.length=4:=by
 have h1:=GB (l:=List.range 4) (m:=s) List.nodup_range (fun j hj=>fY_ (hl j) (List.mem_range.1 hj));have:=h.le;rw [List.length_range] at h1;omega
theorem ar_ {s:List Nat} (h:Seen4 s) (hl:∀ j,vS KSV (s.map D7) j=false):(s.map rD).length=4:=by rw [List.length_map];exact JH h hl
def d6_ (p q:HPl):Bool:=p.n.x.1==q.n.x.1&&(p.n.y.1==q.n.y.1&&(p.n.z.1==q.n.z.1&&p.d.1==q.d.1))
def S6:List HPl→List HPl→Bool
 | [],[]=>true
 | p::l,q::m=>d6_ p q&&S6 l m
 | _,_=>false
theorem bF_ {p q:HPl} (h:d6_ p q=true):p=q:=by
 obtain ⟨⟨x,y,z⟩,d⟩:=p;obtain ⟨⟨x',y',z'⟩,d'⟩:=q;simp only [d6_,Bool.and_eq_true,beq_iff_eq] at h;obtain ⟨h1,h2,h3,h4⟩:=h;have e1:=Subtype.ext h1;have e2:=Subtype.ext h2;have e3:=Subtype.ext h3;have e4:=Subtype.ext h4;subst e1 e2 e3 e4;rfl
theorem N3:∀ {l m:List HPl},S6 l m=true→l=m
 | [],[],_=>rfl
 | p::l,q::m,h=>by
  simp only [S6,Bool.and_eq_true] at h;rw [bF_ h.1,N3 h.2]
 | [],_::_,h=>by cases h
 | _::_,[],h=>by cases h
def X3 (a b c d:Nat):Bool:=!(a==b)&&(!(a==c)&&(!(a==d)&&(!(b==c)&&(!(b==d) && !(c==d)))))
theorem g4_:((List.range 4).all fun a=>(List.range 4).all fun b=>(List.range 4).all fun c=>(List.range 4).all fun d=>!X3 a b c d||S6 (nK ([a,b,c,d].map rD)) PL4)=true:=by kernel_rfl
theorem V9 {s:List Nat} (h:Seen4 s) (hl:∀ j,vS KSV (s.map D7) j=false):nK (s.map rD)=PL4:=by
 have h4:=JH h hl
 match s,h4 with
 | [a,b,c,d],_ =>
  have ha:=h.2 a (by simp);have hb:=h.2 b (by simp);have hc:=h.2 c (by simp);have hd:=h.2 d (by simp);have hn:=h.1;have e:=List.all_eq_true.1 (List.all_eq_true.1 (List.all_eq_true.1 (List.all_eq_true.1 g4_ a (List.mem_range.2 ha)) b (List.mem_range.2 hb)) c (List.mem_range.2 hc)) d (List.mem_range.2 hd)
  have hdd:X3 a b c d=true:=by
   simp only [List.nodup_cons,List.mem_cons,List.not_mem_nil,or_false,not_or] at hn;simp only [X3,Bool.and_eq_true,Bool.not_eq_true',beq_eq_false_iff_ne];exact ⟨hn.1.1,hn.1.2.1,hn.1.2.2,hn.2.1.1,hn.2.1.2,hn.2.2.1⟩
  rw [hdd] at e;exact N3 e
structure Convex where
 v:List (A3 W)
end Go.Num
namespace Go.Proofs.YtcjoflcajgaifaaGreatDoor
open Go.Kn Go.Num Tryz
attribute [local irreducible] Go.Kn.W WL PL OpQ OpR OpS
theorem n8 (a:(A3 W)) :
  Ret prog 136 [AV [cw a.x.1,cw a.y.1,cw a.z.1]] (AV [cw (((n9 a).x).1),cw (((n9 a).y).1),cw (((n9 a).z).1)]):=by
 refine bI (N:=13) func136 O O zz_ (fun w0=>?_);refine giI ?_;refine go2 ?_;intro b1 hb1;refine go_ ?_;intro b2 hb2;refine go4 ?_;refine sV (.int .i64 ((W.neg a.x).1)) O O (go2 ?_);refine sV (.int .i64 ((W.neg a.y).1)) O O (go2 ?_);refine sV (.int .i64 ((W.neg a.z).1)) O O (go4 ?_);refine rtX O (iN O m0 tyT O) ?_;exact (by rfl)
theorem HM (a:(A3 W)) (b:(A3 W)) :
  Ret prog 181 [AV [cw a.x.1,cw a.y.1,cw a.z.1],AV [cw b.x.1,cw b.y.1,cw b.z.1]] (AV [cw (((pU a b).x).1),cw (((pU a b).y).1),cw (((pU a b).z).1)]):=by
 refine bI (N:=19) func181 O O zz_ (fun w0=>?_);refine giI ?_;refine go2 ?_;intro b1 hb1;refine go_ ?_;intro b2 hb2;refine go_ ?_;intro b3 hb3;refine go6 ?_;refine jI 5 (go2 ?_);refine sV (.bool true) O O (oF ?_);refine kV (sk (sk (sd s0))) 9 [8] [8] (go6 ?_);refine pV (.int .i64 ((W.add a.x b.x).1)) O O (go4 ?_);refine sV (.int .i64 1) O O (go4 ?_);refine sV (.bool true) O O (oF ?_);refine kV (sk (sk (sd s0))) 9 [8] [8] (go6 ?_);refine pV (.int .i64 ((W.add a.y b.y).1)) O O (go4 ?_);refine sV (.int .i64 2) O O (go4 ?_);refine sV (.bool true) O O (oF ?_);refine kV (sk (sk (sd s0))) 9 [8] [8] (go6 ?_);refine pV (.int .i64 ((W.add a.z b.z).1)) O O (go4 ?_);refine sV (.int .i64 3) O O (go4 ?_);refine sV (.bool false) O O (go9 ?_);refine rtX O (iN O m0 tyT O) ?_;exact (by rfl)
theorem dC (a:(A3 W)) (b:(A3 W)) :
  Ret prog 142 [AV [cw a.x.1,cw a.y.1,cw a.z.1],AV [cw b.x.1,cw b.y.1,cw b.z.1]] (AV [cw (((kP a b).x).1),cw (((kP a b).y).1),cw (((kP a b).z).1)]):=by
 refine bI (N:=9) func142 O O zz_ (fun w0=>?_);refine giI ?_;refine go2 ?_;intro b1 hb1;refine go_ ?_;intro b2 hb2;refine go_ ?_;intro b3 hb3;refine go_ ?_;refine jN (sd (sk (sk s0))) 5 [4] [4] (go2 ?_);refine pQ O (aY aK (n8 b) O) ?_;obtain ⟨r4,hr4⟩:=nm ((pU a (n9 b)):(A3 W));refine pC (AV [cw r4.x.1,cw r4.y.1,cw r4.z.1]) aK (HM a (n9 b)) O O (by rw [hr4]) (go3 ?_);refine rtX O (iN O m0 tyT O) ?_;exact (by subst hr4;rfl)
theorem uF (a:(A3 W)) :
  Ret prog 183 [AV [cw a.x.1,cw a.y.1,cw a.z.1]] (AV [pI ((j7 a).x),pI ((j7 a).y),pI ((j7 a).z)]):=by
 refine bI (N:=16) func183 O O zz_ (fun w0=>?_);refine giI ?_;refine go2 ?_;intro b1 hb1;refine go_ ?_;intro b2 hb2;refine go7 ?_;refine jI 5 (go2 ?_);refine sV (.bool true) O O (yE ?_);refine sC (AV [pI (E (Z.of a.x.1))]) aK (dV a.x.1 a.x.2) O O O (go4 ?_);refine sV (.int .i64 1) O O (go4 ?_);refine sV (.bool true) O O (yE ?_);refine sC (AV [pI (E (Z.of a.y.1))]) aK (dV a.y.1 a.y.2) O O O (go4 ?_);refine sV (.int .i64 2) O O (go4 ?_);refine sV (.bool true) O O (yE ?_);refine sC (AV [pI (E (Z.of a.z.1))]) aK (dV a.z.1 a.z.2) O O O (go4 ?_);refine sV (.int .i64 3) O O (go4 ?_);refine sV (.bool false) O O (go9 ?_);refine rtX O (iN O m0 tyT O) ?_;exact (by rfl)
theorem HN (a:(A3 I)) (b:(A3 I)) :
  Ret prog 182 [AV [pI a.x,pI a.y,pI a.z],AV [pI b.x,pI b.y,pI b.z]] (AV [pI (AT a b)]):=by
 refine bI (N:=22) func182 O O zz_ (fun w0=>?_);refine giI ?_;refine go2 ?_;intro b1 hb1;refine go_ ?_;intro b2 hb2;refine go_ ?_;intro b3 hb3;refine go2 ?_;refine sC (AV [pI (E (Z.of 0))]) aK (dV (wl 0).1 (wl 0).2) O O O ?_;refine go_ ?_;intro b4 hb4;refine go7 ?_;refine jI 5 (go2 ?_);refine sV (.bool true) O O (oF ?_);refine kV (sd (sk (sk (sk s0)))) 10 [9] [9] (go7 ?_);refine pC (AV [pI (E (Z.mul a.x.dec b.x.dec))]) aK (cV a.x.1 b.x.1 a.x.2 b.x.2) O O O (pC (AV [pI (E (Z.add (Z.of 0) (Z.mul a.x.dec b.x.dec)))]) aK (gQ (E (Z.of 0)).1 (E (Z.mul a.x.dec b.x.dec)).1 (E (Z.of 0)).2 (E (Z.mul a.x.dec b.x.dec)).2) O O (cg2 (fun p q=>AV [pI (E (Z.add p q))]) (bR _) (bR _)) (go3 ?_));refine sV (.int .i64 1) O O (go4 ?_);refine sV (.bool true) O O (oF ?_);refine kV (sd (sk (sk (sk s0)))) 10 [9] [9] (go7 ?_);refine pC (AV [pI (E (Z.mul a.y.dec b.y.dec))]) aK (cV a.y.1 b.y.1 a.y.2 b.y.2) O O O ?_;obtain ⟨r5,hr5⟩:=nm ((E (Z.add (Z.add (Z.of 0) (Z.mul a.x.dec b.x.dec)) (Z.mul a.y.dec b.y.dec))):I);refine pC (AV [pI r5]) aK (gQ (E (Z.add (Z.of 0) (Z.mul a.x.dec b.x.dec))).1 (E (Z.mul a.y.dec b.y.dec)).1 (E (Z.add (Z.of 0) (Z.mul a.x.dec b.x.dec))).2 (E (Z.mul a.y.dec b.y.dec)).2) O O ((cg2 (fun p q=>AV [pI (E (Z.add p q))]) (bR _) (bR _)).trans (by rw [hr5])) (go3 ?_);refine sV (.int .i64 2) O O (go4 ?_);refine sV (.bool true) O O (oF ?_);refine kV (sd (sk (sk (sk s0)))) 10 [9] [9] (go7 ?_);refine pC (AV [pI (E (Z.mul a.z.dec b.z.dec))]) aK (cV a.z.1 b.z.1 a.z.2 b.z.2) O O O (pC (AV [pI (E (Z.add r5.dec (Z.mul a.z.dec b.z.dec)))]) aK (gQ r5.1 (E (Z.mul a.z.dec b.z.dec)).1 r5.2 (E (Z.mul a.z.dec b.z.dec)).2) O O (cg2 (fun p q=>AV [pI (E (Z.add p q))]) O (bR _)) (go3 ?_));refine sV (.int .i64 3) O O (go4 ?_);refine sV (.bool false) O O (go9 ?_);refine rtX O (iN O m1 tyT O) ?_;exact (by subst hr5;rfl)
theorem q5 (a:(A3 W)) (b:(A3 W)) :
  Ret prog 145 [AV [cw a.x.1,cw a.y.1,cw a.z.1],AV [cw b.x.1,cw b.y.1,cw b.z.1]] (AV [pI (KA a b)]):=by
 refine bI (N:=10) func145 O O zz_ (fun w0=>?_);refine giI ?_;refine go2 ?_;intro b1 hb1;refine go_ ?_;intro b2 hb2;refine go_ ?_;intro b3 hb3;refine go_ ?_;refine jN (sd (sk (sk s0))) 6 [5] [5] (go_ ?_);refine pQ O (aY aK (uF a) O) (go_ ?_);refine pQ O (aY aK (uF b) O) (pQ O (aY aK (HN (j7 a) (j7 b)) O) (go3 ?_));refine rtX O (iN O m0 tyT O) ?_;exact (by rfl)
end Go.Proofs.YtcjoflcajgaifaaGreatDoor
