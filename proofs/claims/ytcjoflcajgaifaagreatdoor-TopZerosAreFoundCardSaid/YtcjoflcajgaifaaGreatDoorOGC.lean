/- Lemmas: what they ask stands in their statements. -/
import Derived.Maps.AppendAt
import Derived.Test.YtcjoflcajgaifaaGreatDoorOGB
set_option linter.unusedSimpArgs false
set_option linter.unusedVariables false
namespace Go.Kn
open Go.RowKit
def IV (n:Nat):Value:=.int .i64 (n:Int)
def iw (l:List Nat):List Value:=l.map IV
theorem zY (l:List Nat):(iw l).length=l.length:=by simp [iw]
theorem YZ {l:List Nat} {k:Nat} (h:k<l.length):(iw l)[k]? = some (IV (l.getD k 0)):=by simp [iw,h]
theorem dZ_ (l:List Nat) (k n:Nat):(iw l).set k (IV n)=iw (l.set k n):=by simp [iw,List.map_set]
theorem Y0 (l:List Nat):∀ v∈iw l,plain v=true:=fun v h=>by
 obtain ⟨n,_,rfl⟩:=List.mem_map.1 h;rfl
theorem S5 (l:List Nat) (n:Nat):(iw l).take n=iw (l.take n):=by simp [iw]
theorem U8 (a b:List Nat):iw (a++b)=iw a++iw b:=by simp [iw]
def Sl (w:World) (v:Value) (l:List Nat):Prop :=
 ∃ p c,v = .slice p l.length c∧l.length≤c∧((p=none∧l=[]∧c=0) ∨ ∃ b off T,∃ cs:List Value,p=some ⟨b,off,none⟩∧w.heap[b]? = some (.cells cs.toArray T (0,0))∧(cs.drop off).take l.length=iw l)
def Hold (w0:World) (X:List Nat) (M:List Blk) (b:Nat) (T:TypeId) (cs:List Value):Prop:=(⟨b,T,cs⟩:Blk)∈M∨(b ∉ X∧w0.heap[b]? = some (.cells cs.toArray T (0,0)))
def SL (w0:World) (X:List Nat) (M:List Blk) (v:Value) (l:List Nat):Prop :=
 ∃ p c,v = .slice p l.length c∧l.length≤c∧((p=none∧l=[]∧c=0) ∨ ∃ b off T cs,p=some ⟨b,off,none⟩∧Hold w0 X M b T cs∧(cs.drop off).take l.length=iw l)
def sla:Value→Nat→Addr
 | .slice (some a) _ _,k=>a.add k
 | _,_=>⟨0,0,none⟩
def sls:Value→Nat→Value
 | .slice p _ c,n=>.slice p n c
 | v,_=>v
section
variable {P:Program} {w0:World} {X:List Nat} {N:Nm} {S:Fr} {M M':List Blk} {d:Option Tmp} {ty:TypeId} {ps:String} {af:Array Edge} {gd:Option (Nat×Bool)}
theorem Hold.at {b:Nat} {T:TypeId} {cs:List Value} {w:World} (h:Hold w0 X M b T cs) (hw:Sat w0 X M w):w.heap[b]? = some (.cells cs.toArray T (0,0)):=by
 rcases h with h|⟨hx,h⟩
 ·exact hw.mem _ h
 rw [hw.old b (cL? h) hx];exact h
theorem SL.sub {v:Value} {l:List Nat} (h:SL w0 X M v l) (hs:M.Sublist M'):SL w0 X M' v l:=by
 obtain ⟨p,c,hv,hc,h⟩:=h;refine ⟨p,c,hv,hc,?_⟩;rcases h with h|⟨b,off,T,cs,hp,hh,ht⟩
 ·exact .inl h
 refine .inr ⟨b,off,T,cs,hp,?_,ht⟩;rcases hh with hh|hh
 ·exact .inl (hs.mem hh)
 exact .inr hh
theorem SL.sl {v:Value} {l:List Nat} {w:World} (h:SL w0 X M v l) (hw:Sat w0 X M w):Sl w v l:=by
 obtain ⟨p,c,hv,hc,h⟩:=h;refine ⟨p,c,hv,hc,?_⟩;rcases h with h|⟨b,off,T,cs,hp,hh,ht⟩
 ·exact .inl h
 exact .inr ⟨b,off,T,cs,hp,hh.at hw,ht⟩
theorem Sl.old {v:Value} {l:List Nat} (h:Sl w0 v l):SL w0 [] M v l:=by
 obtain ⟨p,c,hv,hc,h⟩:=h;refine ⟨p,c,hv,hc,?_⟩;rcases h with h|⟨b,off,T,cs,hp,hh,ht⟩
 ·exact .inl h
 exact .inr ⟨b,off,T,cs,hp,.inr ⟨by simp,hh⟩,ht⟩
theorem Sl.now {v:Value} {l:List Nat} {w:World} (h:Sl w v l) (hw:Sat w0 X M w):∃ L,Sat w0 X (L++M) w∧SL w0 X (L++M) v l:=by
 obtain ⟨p,c,hv,hc,h⟩:=h;rcases h with h|⟨b,off,T,cs,hp,hh,ht⟩
 ·exact ⟨[],hw,p,c,hv,hc,.inl h⟩
 by_cases hb:b∈M.map Blk.b
 ·obtain ⟨x,hx,hxb⟩:=List.mem_map.1 hb
  have h1:=hw.mem x hx;rw [hxb,hh] at h1;simp only [Option.some.injEq,Obj.cells.injEq,and_true] at h1
  have hxe:(⟨b,T,cs⟩:Blk)=x:=by
   cases x with
   | mk xb xT xcs =>
    simp only at hxb h1;subst hxb;obtain ⟨h1,h2⟩:=h1;rw [h2,show cs=xcs by simpa using h1]
  exact ⟨[],hw,p,c,hv,hc,.inr ⟨b,off,T,cs,hp,.inl (by rw [hxe];exact hx),ht⟩⟩
 refine ⟨[⟨b,T,cs⟩],⟨hw.os,hw.tape,hw.output,hw.size,hw.old,by simpa using And.intro (by simpa using hb) hw.nodup,fun y hy=>?_⟩,p,c,hv,hc,.inr ⟨b,off,T,cs,hp,.inl (by simp),ht⟩⟩;rcases List.mem_cons.1 hy with rfl|hy
 ·exact hh
 exact hw.mem y hy
theorem SL.mine {b:Nat} {T:TypeId} {l:List Nat} {c:Nat} (h:(⟨b,T,iw l⟩:Blk)∈M) (hc:l.length≤c):SL w0 X M (.slice (some ⟨b,0,none⟩) l.length c) l :=
 ⟨_,c,rfl,hc,.inr ⟨b,0,T,iw l,rfl,.inl h,by rw [List.drop_zero];exact List.take_of_length_le (by rw [zY];exact Nat.le_refl _)⟩⟩
theorem SL.take {v:Value} {l:List Nat} (h:SL w0 X M v l) {n:Nat} (hn:n≤l.length):SL w0 X M (sls v n) (l.take n):=by
 obtain ⟨p,c,rfl,hc,h⟩:=h
 have hl:(l.take n).length=n:=by rw [List.length_take,Nat.min_eq_left hn]
 refine ⟨p,c,by rw [hl];rfl,by omega,?_⟩;rcases h with ⟨h1,h2,h3⟩|⟨b,off,T,cs,hp,hh,ht⟩
 ·exact .inl ⟨h1,by rw [h2];simp,h3⟩
 refine .inr ⟨b,off,T,cs,hp,hh,?_⟩;rw [hl,← S5,← ht,List.take_take,Nat.min_eq_left hn]
theorem lK {T:TypeId} {x:Operand} {s:Nat} {v:Value} {l:List Nat} (hT:iK P T=some s) (hx:evO N S x=some v) (hv:SL w0 X M v l):OpQ P w0 X N ⟨d,.call { callee:=.builtin .len,args:=#[x],argTypes:=#[T] },ty,ps,af,gd⟩ S M (.int .i64 l.length):=by
 obtain ⟨p,c,rfl,_⟩:=hv;exact DM hT hx
theorem SL.at {v:Value} {l:List Nat} (h:SL w0 X M v l) {k:Nat} (hk:k<l.length):∃ b off T cs c,v = .slice (some ⟨b,off,none⟩) l.length c∧Hold w0 X M b T cs∧cs[off+k]? = some (IV (l.getD k 0)):=by
 obtain ⟨p,c,rfl,hc,h⟩:=h;rcases h with ⟨h1,h2,h3⟩|⟨b,off,T,cs,hp,hh,ht⟩
 ·rw [h2] at hk;simp at hk
 refine ⟨b,off,T,cs,c,by rw [hp],hh,?_⟩;rw [← YZ hk,← ht,List.getElem?_take_of_lt hk,List.getElem?_drop]
theorem vQ {T:TypeId} {x y:Operand} {v:Value} {l:List Nat} {k:Nat} {i:IntKind} (hT:iK P T=some 1) (hx:evO N S x=some v) (hy:evO N S y=some (.int i (k:Int))) (hv:SL w0 X M v l) (hk:k<l.length) :
  OpQ P w0 X N ⟨d,.indexAddr T x y,ty,ps,af,gd⟩ S M (.pointer (some (sla v k))):=by
 obtain ⟨b,off,U,cs,c,rfl,_⟩:=hv.at hk;have h:=z5 (P:=P) (w0:=w0) (X:=X) (M:=M) (d:=d) (ty:=ty) (ps:=ps) (af:=af) (gd:=gd) hT hx hy (by omega) (by omega);rw [show off+(k:Int).toNat*1=off+k by omega] at h;rw [sla,l8];exact h
theorem rW {T:TypeId} {x:Operand} {s:Nat} {v:Value} {l:List Nat} {k:Nat} (hT:gY P T=some (false,s)) (hx:evO N S x=some (.pointer (some (sla v k)))) (hv:SL w0 X M v l) (hk:k<l.length) :
  OpQ P w0 X N ⟨d,.load T x,ty,ps,af,gd⟩ S M (IV (l.getD k 0)):=by
 obtain ⟨b,off,U,cs,c,rfl,hh,hg⟩:=hv.at hk;rw [sla,l8] at hx
 exact kU fun w hw=>by simp only [execOp,aZ hx,Sem.run_bind,yW (w:=w) hT (hh.at hw) hg];rfl
theorem Z4 {T:TypeId} {x y:Operand} {s:Nat} {v:Value} {l:List Nat} {n:Nat} {i:IntKind} (hT:iK P T=some s) (hx:evO N S x=some v) (hy:evO N S y=some (.int i (n:Int))) (hv:SL w0 X M v l) (hn:n≤l.length) :
  OpQ P w0 X N ⟨d,.slice T x none (some y) none,ty,ps,af,gd⟩ S M (sls v n):=by
 obtain ⟨p,c,rfl,hc,_⟩:=hv;refine kU fun w hw=>?_;obtain ⟨e,q,hu,hi',hs⟩:=nT hT;have hb:=vF (P:=P) (N:=N) (S:=S) (w:=w) (isSl:=true) (len:=l.length) (cap:=c) (lo:=none) (hi:=some y) (l:=0) (h:=(n:Int)) O (by simp [tK,hy]) (Int.le_refl _) (by omega) (by omega);simp only [Option.map_none,Option.map_some] at hb;simp only [execOp,Instr.sliceAt,Instr.slice,Sem.run_bind,run_underlying hu,aZ hx,Result.andThen_ok];simp only [Option.map_none,Option.map_some,hb,Result.andThen_ok,sizeOf,typeInfo,Sem.run_bind,run_program,hi',hs,Sem.run_pure,Option.map_some,sls]
 cases p<;>simp [Addr.add]
theorem Upd.left {b:Nat} {T:TypeId} {cs cs':List Value} (h:Upd b T cs cs' M M'):∀ L:List Blk,Upd b T cs cs' (L++M) (L++M')
 | []=>h
 | x::L=>.tail x (Upd.left h L)
def Slf (B:Nat) (w:World) (v:Value) (l:List Nat):Prop :=
 ∃ p c,v = .slice p l.length c∧l.length≤c∧((p=none∧l=[]∧c=0) ∨ ∃ b off T,∃ cs:List Value,p=some ⟨b,off,none⟩∧B≤b∧w.heap[b]? = some (.cells cs.toArray T (0,0))∧(cs.drop off).take l.length=iw l)
theorem Slf.sl {B:Nat} {w:World} {v:Value} {l:List Nat} (h:Slf B w v l):Sl w v l:=by
 obtain ⟨p,c,hv,hc,h⟩:=h;refine ⟨p,c,hv,hc,?_⟩;rcases h with h|⟨b,off,T,cs,hp,_,hh,ht⟩
 ·exact .inl h
 exact .inr ⟨b,off,T,cs,hp,hh,ht⟩
theorem Slf.now {v:Value} {l:List Nat} {w w':World} (h:Slf w.heap.size w' v l) (hw:Sat w0 X M w) (he:Ext w w'):∃ L,Sat w0 X (L++M) w'∧SL w0 X L v l:=by
 have hw':=Sat.mono _ _ _ _ _ hw he;obtain ⟨p,c,hv,hc,h⟩:=h;rcases h with h|⟨b,off,T,cs,hp,hB,hh,ht⟩
 ·exact ⟨[],hw',p,c,hv,hc,.inl h⟩
 have hb:b ∉ M.map Blk.b:=fun hm=>by
  obtain ⟨x,hx,rfl⟩:=List.mem_map.1 hm;have:=cL? (hw.mem x hx);omega
 refine ⟨[⟨b,T,cs⟩],⟨hw'.os,hw'.tape,hw'.output,hw'.size,hw'.old,by simpa using And.intro (by simpa using hb) hw'.nodup,fun y hy=>?_⟩,p,c,hv,hc,.inr ⟨b,off,T,cs,hp,.inl (by simp),ht⟩⟩;rcases List.mem_cons.1 hy with rfl|hy
 ·exact hh
 exact hw'.mem y hy
theorem I9 {g:FuncId} {xs:List Operand} {tys:Array TypeId} {args:List Value} {l1 l2:List Nat} {K:Value→List Blk→Prop} (he:iJ P g=true) (ha:evL N S xs=some args)
  (h:∀ w,Sat w0 X M w→Calls P g args.toArray w fun e w'=>∃ v1 v2,e = .returned (.tuple #[v1,v2])∧Ext w w'∧Slf w.heap.size w' v1 l1∧Slf w.heap.size w' v2 l2) (k:∀ v1 v2 L,SL w0 X L v1 l1→SL w0 X L v2 l2→K (.tuple #[v1,v2]) (L++M)) :
  OpR P w0 X N ⟨d,.call { callee:=.value (.func g),args:=xs.toArray,argTypes:=tys },ty,ps,af,gd⟩ S M K :=
 xU he ha fun w hw=>(h w hw).mono fun _ w' ⟨v1,v2,h1,h2,h3,h4⟩=>by
  obtain ⟨L1,hs,hv⟩:=h3.now hw h2;obtain ⟨p,c,hv2,hc2,h4⟩:=h4;rcases h4 with h4|⟨b,off,T,cs,hp,hB,hh,ht⟩
  ·exact ⟨.tuple #[v1,v2],L1++M,h1,hs,Ext.keeps h2,k v1 v2 _ hv ⟨p,c,hv2,hc2,.inl h4⟩⟩
  by_cases hb:b∈L1.map Blk.b
  ·obtain ⟨x,hx,hxb⟩:=List.mem_map.1 hb
   have h5:=hs.mem x (List.mem_append_left _ hx);rw [hxb,hh] at h5;simp only [Option.some.injEq,Obj.cells.injEq,and_true] at h5
   have hxe:(⟨b,T,cs⟩:Blk)=x:=by
    cases x with
    | mk xb xT xcs =>
     simp only at hxb h5;subst hxb;obtain ⟨h5,h6⟩:=h5;rw [h6,show cs=xcs by simpa using h5]
   exact ⟨.tuple #[v1,v2],L1++M,h1,hs,Ext.keeps h2,k v1 v2 _ hv ⟨p,c,hv2,hc2,.inr ⟨b,off,T,cs,hp,.inl (by rw [hxe];exact hx),ht⟩⟩⟩
  have hb2:b ∉ (L1++M).map Blk.b:=fun hm=>by
   rw [List.map_append] at hm;rcases List.mem_append.1 hm with hm|hm
   ·exact hb hm
   obtain ⟨x,hx,rfl⟩:=List.mem_map.1 hm;have:=cL? (hw.mem x hx);omega
  refine ⟨.tuple #[v1,v2],(⟨b,T,cs⟩::L1)++M,h1,⟨hs.os,hs.tape,hs.output,hs.size,hs.old,by simpa using And.intro (by simpa using hb2) (by simpa using hs.nodup),fun y hy=>?_⟩,Ext.keeps h2,k v1 v2 _ (hv.sub (List.sublist_cons_self _ _)) ⟨p,c,hv2,hc2,.inr ⟨b,off,T,cs,hp,.inl (by simp),ht⟩⟩⟩;rcases List.mem_cons.1 hy with rfl|hy
  ·exact hh
  exact hs.mem y hy
def SLf (w0:World) (M:List Blk) (v:Value) (l:List Nat):Prop :=
 ∃ p c,v = .slice p l.length c∧l.length≤c∧((p=none∧l=[]∧c=0) ∨ ∃ b off T cs,p=some ⟨b,off,none⟩∧w0.heap.size≤b∧(⟨b,T,cs⟩:Blk)∈M∧(cs.drop off).take l.length=iw l)
theorem SLf.slf {v:Value} {l:List Nat} {w:World} (h:SLf w0 M v l) (hw:Sat w0 X M w):Slf w0.heap.size w v l:=by
 obtain ⟨p,c,hv,hc,h⟩:=h;refine ⟨p,c,hv,hc,?_⟩;rcases h with h|⟨b,off,T,cs,hp,hB,hh,ht⟩
 ·exact .inl h
 exact .inr ⟨b,off,T,cs,hp,hB,hw.mem _ hh,ht⟩
theorem SLf.take {v:Value} {l:List Nat} (h:SLf w0 M v l) {n:Nat} (hn:n≤l.length):SLf w0 M (sls v n) (l.take n):=by
 obtain ⟨p,c,rfl,hc,h⟩:=h
 have hl:(l.take n).length=n:=by rw [List.length_take,Nat.min_eq_left hn]
 refine ⟨p,c,by rw [hl];rfl,by omega,?_⟩;rcases h with ⟨h1,h2,h3⟩|⟨b,off,T,cs,hp,hB,hh,ht⟩
 ·exact .inl ⟨h1,by rw [h2];simp,h3⟩
 refine .inr ⟨b,off,T,cs,hp,hB,hh,?_⟩;rw [hl,← S5,← ht,List.take_take,Nat.min_eq_left hn]
theorem SLf.sub {v:Value} {l:List Nat} (h:SLf w0 M v l) (hs:M.Sublist M'):SLf w0 M' v l:=by
 obtain ⟨p,c,hv,hc,h⟩:=h;refine ⟨p,c,hv,hc,?_⟩;rcases h with h|⟨b,off,T,cs,hp,hB,hh,ht⟩
 ·exact .inl h
 exact .inr ⟨b,off,T,cs,hp,hB,hs.mem hh,ht⟩
theorem SLf.mine {b n c:Nat} {T:TypeId} {l:List Nat} (hB:w0.heap.size≤b) (h:(⟨b,T,iw l⟩:Blk)∈M) (hl:l.length=n) (hc:n≤c):SLf w0 M (.slice (some ⟨b,0,none⟩) n c) l:=by
 subst hl;exact ⟨_,c,rfl,hc,.inr ⟨b,0,T,iw l,rfl,hB,h,by rw [List.drop_zero];exact List.take_of_length_le (by rw [zY];exact Nat.le_refl _)⟩⟩
theorem SLf.sl {v:Value} {l:List Nat} (h:SLf w0 M v l):SL w0 X M v l:=by
 obtain ⟨p,c,hv,hc,h⟩:=h;refine ⟨p,c,hv,hc,?_⟩;rcases h with h|⟨b,off,T,cs,hp,hB,hh,ht⟩
 ·exact .inl h
 exact .inr ⟨b,off,T,cs,hp,.inl hh,ht⟩
theorem SLf.none:SLf w0 M (.slice none 0 0) []:=⟨_,0,rfl,Nat.le_refl _,.inl ⟨rfl,rfl,rfl⟩⟩
theorem Slf.nowf {v:Value} {l:List Nat} {w w':World} (h:Slf w.heap.size w' v l) (hw:Sat w0 X M w) (he:Ext w w'):∃ L,Sat w0 X (L++M) w'∧SLf w0 L v l:=by
 have hw':=Sat.mono _ _ _ _ _ hw he;obtain ⟨p,c,hv,hc,h⟩:=h;rcases h with h|⟨b,off,T,cs,hp,hB,hh,ht⟩
 ·exact ⟨[],hw',p,c,hv,hc,.inl h⟩
 have hb:b ∉ M.map Blk.b:=fun hm=>by
  obtain ⟨x,hx,rfl⟩:=List.mem_map.1 hm;have:=cL? (hw.mem x hx);omega
 refine ⟨[⟨b,T,cs⟩],⟨hw'.os,hw'.tape,hw'.output,hw'.size,hw'.old,by simpa using And.intro (by simpa using hb) hw'.nodup,fun y hy=>?_⟩,p,c,hv,hc,.inr ⟨b,off,T,cs,hp,Nat.le_trans hw.size hB,by simp,ht⟩⟩;rcases List.mem_cons.1 hy with rfl|hy
 ·exact hh
 exact hw'.mem y hy
theorem lS {g:FuncId} {xs:List Operand} {tys:Array TypeId} {args:List Value} {l:List Nat} {K:Value→List Blk→Prop} (he:iJ P g=true) (ha:evL N S xs=some args)
  (h:∀ w,Sat w0 X M w→Calls P g args.toArray w fun e w'=>∃ v,e = .returned v∧Ext w w'∧Slf w.heap.size w' v l) (k:∀ v L,SLf w0 L v l→K v (L++M)):OpR P w0 X N ⟨d,.call { callee:=.value (.func g),args:=xs.toArray,argTypes:=tys },ty,ps,af,gd⟩ S M K :=
 xU he ha fun w hw=>(h w hw).mono fun _ w' ⟨v,h1,h2,h3⟩=>by
  obtain ⟨L,hs,hv⟩:=h3.nowf hw h2;exact ⟨v,L++M,h1,hs,Ext.keeps h2,k v L hv⟩
theorem rU {N:Nat} {f:FuncId} {fn:Func} {c:Code} {args:List Value} {w:World} {l:List Nat} (hf:P.funcs[f]? = some fn) (hb:fn.body=some c) (hn:fn.ntmps=N) (hl:args.length≤N)
  (h:W P w [] (pl N) c (kP P fn w [] (pl N) fun v M=>SLf w M v l) (nV 0 args) []):Calls P f args.toArray w fun e w'=>∃ v,e = .returned v∧Ext w w'∧Slf w.heap.size w' v l :=
 (gU hf hb hn hl (Sat.start w []) h).mono fun e w' ⟨u,M',he,hs,_,hu⟩=>⟨u,he,hs.ext,hu.slf hs⟩
theorem HS {N:Nat} {f:FuncId} {fn:Func} {c:Code} {args:List Value} {w:World} {l1 l2:List Nat} (hf:P.funcs[f]? = some fn) (hb:fn.body=some c) (hn:fn.ntmps=N) (hl:args.length≤N)
  (h:W P w [] (pl N) c (kP P fn w [] (pl N) fun v M=>∃ v1 v2,v = .tuple #[v1,v2]∧SLf w M v1 l1∧SLf w M v2 l2) (nV 0 args) []):Calls P f args.toArray w fun e w'=>∃ v1 v2,e = .returned (.tuple #[v1,v2])∧Ext w w'∧Slf w.heap.size w' v1 l1∧Slf w.heap.size w' v2 l2 :=
 (gU hf hb hn hl (Sat.start w []) h).mono fun e w' ⟨u,M',he,hs,_,v1,v2,hu,h1,h2⟩=>⟨v1,v2,by rw [he,hu],hs.ext,h1.slf hs,h2.slf hs⟩
theorem ZZ {x y:Operand} {tys:Array TypeId} {k:IntKind} {a b:Nat} (hx:evO N S x=some (.int k (a:Int))) (hy:evO N S y=some (.int k (b:Int))):OpQ P w0 X N ⟨d,.call { callee:=.builtin .max,args:=#[x,y],argTypes:=tys },ty,ps,af,gd⟩ S M (.int k ((max a b:Nat):Int)) :=
 kU fun w _=>by
  have e:(if (b:Int) > (a:Int) then (b:Int) else (a:Int))=((max a b:Nat):Int):=by split<;>omega
  simp only [execOp,resolve,invoke,builtin,Sem.run_bind,Sem.run_pure,Result.andThen_ok,List.map_toArray,List.map_cons,List.map_nil,aZ hx,aZ hy,run_max_int2,e]
theorem ei_ {x y:Operand} {tys:Array TypeId} {k:IntKind} {a b:Nat} (hx:evO N S x=some (.int k (a:Int))) (hy:evO N S y=some (.int k (b:Int))):OpQ P w0 X N ⟨d,.call { callee:=.builtin .min,args:=#[x,y],argTypes:=tys },ty,ps,af,gd⟩ S M (.int k ((min a b:Nat):Int)) :=
 kU fun w _=>by
  have e:(if (b:Int)<(a:Int) then (b:Int) else (a:Int))=((min a b:Nat):Int):=by split<;>omega
  simp only [execOp,resolve,invoke,builtin,Sem.run_bind,Sem.run_pure,Result.andThen_ok,List.map_toArray,List.map_cons,List.map_nil,aZ hx,aZ hy,run_min_int2,e]
def OwnL (w0:World) (E:TypeId) (v:Value) (l:List Nat) (L:List Blk):Prop :=
 (v = .slice none 0 0∧l=[]∧L=[]) ∨ ∃ g cap,∃ cur:List Value,v = .slice (some ⟨g,0,none⟩) l.length cap∧L=[⟨g,E,cur⟩]∧w0.heap.size≤g∧l.length≤cap∧cap≤maxLen∧cur.length=cap∧cur.take l.length=iw l
theorem OwnL.nil {E:TypeId}:OwnL w0 E (.slice none 0 0) [] []:=.inl ⟨rfl,rfl,rfl⟩
theorem OwnL.sl {E:TypeId} {v:Value} {l:List Nat} {L:List Blk} (h:OwnL w0 E v l L) (hs:L.Sublist M):SL w0 X M v l:=by
 rcases h with ⟨rfl,rfl,rfl⟩|⟨g,cap,cur,rfl,rfl,hg,hc,hm,hl,ht⟩
 ·exact ⟨none,0,rfl,Nat.le_refl _,.inl ⟨rfl,rfl,rfl⟩⟩
 exact ⟨_,cap,rfl,hc,.inr ⟨g,0,E,cur,rfl,.inl (hs.mem (by simp)),by rw [List.drop_zero];exact ht⟩⟩
theorem OwnL.slf {E:TypeId} {v:Value} {l:List Nat} {L:List Blk} (h:OwnL w0 E v l L) (hs:L.Sublist M):SLf w0 M v l:=by
 rcases h with ⟨rfl,rfl,rfl⟩|⟨g,cap,cur,rfl,rfl,hg,hc,hm,hl,ht⟩
 ·exact ⟨none,0,rfl,Nat.le_refl _,.inl ⟨rfl,rfl,rfl⟩⟩
 exact ⟨_,cap,rfl,hc,.inr ⟨g,0,E,cur,rfl,hg,hs.mem (by simp),by rw [List.drop_zero];exact ht⟩⟩
theorem OwnL.of_mine {E:TypeId} {b:Nat} {l:List Nat} (hb:w0.heap.size≤b) (hm:l.length≤maxLen):OwnL w0 E (.slice (some ⟨b,0,none⟩) l.length l.length) l [⟨b,E,iw l⟩] :=
 .inr ⟨b,l.length,iw l,rfl,rfl,hb,Nat.le_refl _,hm,zY l,List.take_of_length_le (by rw [zY];exact Nat.le_refl _)⟩
def PT (P:Program) (E:TypeId):Bool:=match P.info? E with
 | some i=>i.size==1&&i.bytes==8&&(match i.zero with|some z=>z.cells.size==1|none=>false)
 | none=>false
theorem bK_ (n:Nat):madeCells #[IV 0] n=(iw (List.replicate n 0)).toArray:=by
 unfold madeCells
 apply Array.ext
 ·simp [iw]
 intro i h1 h2
 simp [iw,Nat.mod_one,IV]
theorem Z9 {T E:TypeId} {x y:Operand} {n:Nat} {K:Value→List Blk→Prop} (hT:P.underlying T=some (.slice E)) (hE:PT P E=true) (hz:jD P E=some [IV 0]) (hx:evO N S x=some (.int .i64 (n:Int))) (hy:evO N S y=some (.int .i64 (n:Int))) (hn:n≤1000000)
  (k:∀ b,w0.heap.size≤b→K (.slice (some ⟨b,0,none⟩) n n) (⟨b,E,iw (List.replicate n 0)⟩::M)):OpR P w0 X N ⟨d,.makeSlice T x y,ty,ps,af,gd⟩ S M K:=by
 intro w hw;obtain ⟨i,z,hi,hz,hc⟩:=tX hz;unfold PT at hE;simp only [hi,hz,Bool.and_eq_true,beq_iff_eq] at hE;obtain ⟨⟨h1,h8⟩,hzc⟩:=hE;have hr:=run_makeSlice (P:=P) w T E i z hT hi hz .i64 .i64 n n (by omega) (Int.le_refl _) (by rw [h1];omega) (by rw [h8];omega) (by omega);rw [h1,hc,Nat.mul_one,bK_,Int.toNat_natCast] at hr;unfold opw
 have hex:(execOp (ev N S) ⟨d,.makeSlice T x y,ty,ps,af,gd⟩).run P w = .ok (.value (.slice (some ⟨w.heap.size,0,none⟩) n n)) (w.alloc (.cells (iw (List.replicate n 0)).toArray E)):=by
  simp [execOp,aZ hx,aZ hy,hr]
 rw [gT,hex];exact ⟨.alloc _ _,_,hw.alloc E _,k _ hw.size⟩
theorem xS {T E:TypeId} {x y:Operand} {v u:Value} {l m:List Nat} {L M1:List Blk} {K:Value→List Blk→Prop} (hT:P.underlying T=some (.slice E)) (hE:PT P E=true) (hx:evO N S x=some v) (hy:evO N S y=some u)
  (hv:OwnL w0 E v l L) (hu:SL w0 X M u m) (hs:(L++M1).Sublist M) (hn:l.length+m.length≤1000000) (k:∀ v' L',OwnL w0 E v' (l++m) L'→K v' (L'++M1)) :
  OpR P w0 X N ⟨d,.call { callee:=.builtin .append,args:=#[x,y],argTypes:=#[T,T] },ty,ps,af,gd⟩ S M K:=by
 intro w hw;unfold PT at hE
 cases hi:P.info? E with
 | none=>simp [hi] at hE
 | some i =>
 cases hz:i.zero with
 | none=>simp [hi,hz] at hE
 | some z =>
 simp only [hi,hz,Bool.and_eq_true,beq_iff_eq] at hE;obtain ⟨⟨h1,h8⟩,hzc⟩:=hE;have hw1:Sat w0 X (L++M1) w:=hw.sub hs
 have hown:w.ownsRow w0.heap.size E 1 v l.length (iw l):=by
  refine ⟨by rw [zY,Nat.mul_one],?_⟩;rcases hv with ⟨rfl,rfl,rfl⟩|⟨g,cap,cur,rfl,rfl,hg,hc,hm,hl,ht⟩
  ·exact .inl ⟨rfl,rfl⟩
  exact .inr ⟨g,cap,cur.toArray,rfl,hg,hw1.mem ⟨g,E,cur⟩ (by simp),hc,hm,by simp [hl],by rw [Nat.mul_one];exact ht⟩
 have hrow:∀ k,v.ownBlock=some k→k∈L.map Blk.b∧w0.heap.size≤k:=by
  intro k hk;rcases hv with ⟨rfl,rfl,rfl⟩|⟨g,cap,cur,rfl,rfl,hg,hc,hm,hl,ht⟩
  ·cases hk
  obtain rfl:g=k:=by simpa [Value.ownBlock] using hk
  exact ⟨by simp,hg⟩
 -- the run
 have hrun:∃ v' w',(Builtin.append_ #[T,T] ty #[v,u]).run P w = .ok v' w'∧w'.ownsRow w0.heap.size E 1 v' (l.length+m.length) (iw l++iw m)∧w.grownBy w' v.ownBlock∧(v'.ownBlock=v.ownBlock∨v'.ownBlock=some w.heap.size):=by
  obtain ⟨p,c,rfl,hc,h⟩:=hu;rcases h with ⟨rfl,rfl,rfl⟩|⟨b,off,U,cs,rfl,hh,ht⟩
  ·-- nothing is appended
   have hle:l.length≤(match v with|.slice _ _ c=>c|_=>0):=by
    rcases hv with ⟨rfl,rfl,rfl⟩|⟨g,cap,cur,rfl,rfl,hg,hc,hm,hl,ht⟩
    ·exact Nat.le_refl _
    exact hc
   refine ⟨v,w,?_,by simpa [iw] using hown,⟨rfl,rfl,rfl,Nat.le_refl _,fun _ _ _=>rfl⟩,.inl O⟩;rcases hv with ⟨rfl,rfl,rfl⟩|⟨g,cap,cur,rfl,rfl,hg,hc,hm,hl,ht⟩
   ·simp [Builtin.append_,run_underlying hT,sizeOf,typeInfo,hi,Builtin.lenOf,Builtin.firstCells]
   simp [Builtin.append_,run_underlying hT,sizeOf,typeInfo,hi,Builtin.lenOf,Builtin.firstCells,hc,storeCells]
  obtain ⟨v',w',hr,ho,hg,_,hb⟩:=run_append_own_at (P:=P) w w0.heap.size T ty E i z 1 8 hT hi hz h1 h8 hzc (by decide) v l.length (iw l) hown ⟨b,off,none⟩ m.length c (iw m) (by rw [zY,Nat.mul_one]) (fun j u hj=>by
   rw [l8];rw [← ht] at hj
   have hj':j<m.length:=by
    have:=(List.getElem?_eq_some_iff.1 hj).1;rw [List.length_take] at this;omega
   rw [List.getElem?_take_of_lt hj',List.getElem?_drop] at hj
   simp [World.cell?,hh.at hw,hj]) (fun u hu=>yX (Y0 m u hu)) (by unfold maxLen;omega) (by omega) hw.size
  exact ⟨v',w',hr,ho,hg,hb⟩
 obtain ⟨v',w',hr,ho,hg,hb⟩:=hrun;unfold opw
 have hex:(execOp (ev N S) ⟨d,.call { callee:=.builtin .append,args:=#[x,y],argTypes:=#[T,T] },ty,ps,af,gd⟩).run P w = .ok (.value v') w':=by
  simp [execOp,resolve,invoke,builtin,aZ hx,aZ hy,hr]
 rw [gT,hex]
 have hko:KeepsOthers w w':=KeepsOthers.of_grownBy hg fun j o hj ho=>by
  obtain ⟨x,hx,hxb⟩:=List.mem_map.1 (hrow j hj).1;have h9:=hw1.mem x (List.mem_append_left _ hx);rw [hxb,ho] at h9
  cases h9;rfl
 have hold:∀ k,k<w0.heap.size→k ∉ X→w'.heap[k]? = w0.heap[k]?:=fun k hk hx=>by
  rw [hg.block k (Nat.lt_of_lt_of_le hk hw.size) (fun e=>by have:=(hrow k e.symm).2;omega)];exact hw.old k hk hx
 have hM1:∀ y∈M1,w'.heap[y.b]? = some (.cells y.cs.toArray y.T (0,0)):=fun y hy=>by
  have hy':=hw1.mem y (List.mem_append_right _ hy);rw [hg.block y.b (cL? hy') (fun e=>?_)];exact hy';have h2:=hw1.nodup;rw [List.map_append,List.nodup_append] at h2;exact h2.2.2 _ (hrow _ e.symm).1 _ (List.mem_map_of_mem hy) O
 have hnd1:(M1.map Blk.b).Nodup:=by
  have h2:=hw1.nodup;rw [List.map_append,List.nodup_append] at h2;exact h2.2.1
 rcases ho.2 with ⟨rfl,hz0⟩|⟨g,cap,cur,rfl,hbg,hcell,hnc,hcm,hcs,htk⟩
 ·have e0:l++m=[]:=List.eq_nil_of_length_eq_zero (by rw [List.length_append];exact hz0)
  refine ⟨hko,[]++M1,⟨hg.os.trans hw.os,hg.tape.trans hw.tape,hg.output.trans hw.output,Nat.le_trans hw.size hg.size,hold,hnd1,hM1⟩,k _ [] (.inl ⟨rfl,e0,rfl⟩)⟩
 have hgn:g ∉ M1.map Blk.b:=by
  rcases hb with hb|hb
  ·have h2:=hw1.nodup
   rw [List.map_append,List.nodup_append] at h2;exact fun hm=>h2.2.2 _ (hrow g hb.symm).1 _ hm O
  have hgs:g=w.heap.size:=by simpa [Value.ownBlock] using hb
  intro hm;obtain ⟨y,hy,hyb⟩:=List.mem_map.1 hm;have:=cL? (hw1.mem y (List.mem_append_right _ hy));omega
 refine ⟨hko,[⟨g,E,cur.toList⟩]++M1,⟨hg.os.trans hw.os,hg.tape.trans hw.tape,hg.output.trans hw.output,Nat.le_trans hw.size hg.size,hold,by simpa using And.intro (by simpa using hgn) hnd1,fun y hy=>?_⟩,k _ _ (.inr ⟨g,cap,cur.toList,by rw [List.length_append],rfl,hbg,by rw [List.length_append];exact hnc,hcm,by simpa using hcs,by rw [U8,List.length_append,← htk,Nat.mul_one]⟩)⟩;rcases List.mem_cons.1 hy with rfl|hy
 ·simpa using hcell
 exact hM1 y hy
end
end Go.Kn
namespace Go.Num
open Go Go.Kn
def dv:List Nat→Nat
 | []=>0
 | d::l=>d+65536*dv l
def DL (l:List Nat):Prop:=∀ d∈l,d<65536
def dg (n k:Nat):Nat:=n / 65536 ^ k % 65536
def dl (n:Nat):List Nat:=if h:n=0 then [] else (n % 65536)::dl (n / 65536)
termination_by n
theorem o8:dl 0=[]:=by rw [dl];rfl
theorem FF {n:Nat} (h:n≠0):dl n=(n % 65536)::dl (n / 65536):=by rw [dl,dif_neg h]
theorem DL.tail {d:Nat} {l:List Nat} (h:DL (d::l)):DL l:=fun x hx=>h x (List.mem_cons_of_mem _ hx)
theorem DL.head {d:Nat} {l:List Nat} (h:DL (d::l)):d<65536:=h d List.mem_cons_self
theorem DL.nil:DL []:=fun _ h=>by cases h
theorem DL.append {a b:List Nat} (ha:DL a) (hb:DL b):DL (a++b):=fun d h=>by
 rcases List.mem_append.1 h with h|h
 ·exact ha d h
 exact hb d h
theorem DL.one {d:Nat} (h:d<65536):DL [d]:=fun x hx=>by rw [List.mem_singleton.1 hx];exact h
theorem DL.take {l:List Nat} (h:DL l) (n:Nat):DL (l.take n):=fun d hd=>h d (List.mem_of_mem_take hd)
theorem sI (n:Nat):DL (dl n):=by
 induction n using Nat.strongRecOn with
 | ind n ih =>
  by_cases h:n=0
  ·subst h;rw [o8];exact DL.nil
  rw [FF h];intro d hd;rcases List.mem_cons.1 hd with rfl|hd
  ·exact Nat.mod_lt _ (by decide)
  exact ih (n / 65536) (by omega) d hd
theorem mM (n:Nat):dv (dl n)=n:=by
 induction n using Nat.strongRecOn with
 | ind n ih =>
  by_cases h:n=0
  ·subst h;rw [o8];rfl
  rw [FF h,dv,ih (n / 65536) (by omega)];omega
theorem uR:∀ a b,dv (a++b)=dv a+65536 ^ a.length*dv b
 | [],b=>by simp [dv]
 | d::a,b=>by
  simp only [List.cons_append,dv,uR a b,List.length_cons,Nat.pow_succ];rw [Nat.mul_add,Nat.add_assoc,← Nat.mul_assoc,Nat.mul_comm 65536 (65536 ^ a.length)]
theorem uS:∀ l,DL l→dv l<65536 ^ l.length
 | [],_=>by simp [dv]
 | d::l,h=>by
  have h1:=uS l h.tail;have h2:=h.head;simp only [dv,List.length_cons,Nat.pow_succ];omega
theorem AU:∀ n,dv (List.replicate n 0)=0
 | 0=>rfl
 | n+1=>by rw [List.replicate_succ,dv,AU n]
theorem l4:∀ (l:List Nat) (k:Nat),DL l→l.getD k 0=dg (dv l) k
 | [],k,_=>by simp [dv,dg]
 | d::l,0,h=>by
  have h2:=h.head;simp only [dv,dg,List.getD_cons_zero,Nat.pow_zero,Nat.div_one];omega
 | d::l,k+1,h=>by
  have h2:=h.head;rw [List.getD_cons_succ,l4 l k h.tail,dg,dg,dv,Nat.pow_succ,Nat.mul_comm (65536 ^ k),← Nat.div_div_eq_div_mul]
  congr 2;omega
theorem kZ (n k:Nat):dg n k<65536:=Nat.mod_lt _ (by decide)
theorem FP {l:List Nat} (h:DL l) (k:Nat):l.getD k 0<65536:=by rw [l4 l k h];exact kZ _ _
theorem bq_ (l:List Nat) (n:Nat) (h:szL l≤n):dv (l.take n)=dv l:=by
 conv=>rhs;rw [← List.take_append_drop n l,uR]
 have e:dv (l.drop n)=0:=by
  have h2:l.drop n=List.replicate (l.drop n).length 0:=by
   refine List.eq_replicate_iff.2 ⟨rfl,fun x hx=>?_⟩;obtain ⟨i,hi,rfl⟩:=List.mem_iff_getElem.1 hx;have h3:=BT l (n+i) (by omega);rw [List.length_drop] at hi;rw [List.getElem_drop]
   simpa [List.getD,List.getElem?_eq_getElem (show n+i<l.length by omega)] using h3
  rw [h2,AU]
 rw [e,Nat.mul_zero,Nat.add_zero]
theorem bp_ {d m:Nat} (hd:d<65536) (h:d+65536*m≠0):dl (d+65536*m)=d::dl m:=by
 rw [FF h,show (d+65536*m) % 65536=d by omega,show (d+65536*m) / 65536=m by omega]
theorem MW:∀ l,DL l→l.take (szL l)=dl (dv l)
 | [],_=>by simp [dv,o8,szL]
 | d::l,h=>by
  have ih:=MW l h.tail;have h2:=h.head;simp only [szL,dv]
  split
  ·rename_i h0
   have hz:dv l=0:=by rw [← bq_ l 0 (by omega)];rfl
   rw [hz,Nat.mul_zero,Nat.add_zero]
   split
   ·rename_i hd;subst hd;rw [o8];rfl
   rename_i hd
   rw [FF hd,Nat.mod_eq_of_lt h2,Nat.div_eq_of_lt h2,o8];rfl
  rename_i h0
  rw [List.take_succ_cons,ih,bp_ h2];intro hc
  have:dv l=0:=by omega
  rw [this,o8] at ih;have hl:=congrArg List.length ih;rw [List.length_take,Nat.min_eq_left (rN l)] at hl;exact h0 hl
theorem sJ {n k:Nat} (h:n<65536 ^ k):(dl n).length≤k:=by
 induction k generalizing n with
 | zero=>rw [Nat.pow_zero] at h;rw [show n=0 by omega,o8];exact Nat.le_refl _
 | succ k ih =>
  by_cases h0:n=0
  ·subst h0;rw [o8];exact Nat.zero_le _
  rw [FF h0,List.length_cons];exact Nat.succ_le_succ (ih (by rw [Nat.div_lt_iff_lt_mul (by decide),← Nat.pow_succ];exact h))
theorem IN {l:List Nat} (h:DL l):(dl (dv l)).length≤l.length:=sJ (uS l h)
theorem KV {n:Nat}:(dl n).length=0 ↔ n=0:=by
 constructor
 ·intro h
  rw [← mM n,List.eq_nil_of_length_eq_zero h];rfl
 rintro rfl;rw [o8];rfl
theorem JW {n:Nat} (h:n<9223372036854775808):IntKind.i64.wrap (n:Int)=(n:Int):=bR (by unfold I64;omega)
theorem HE {l:List Nat} (h:DL l):(dl (dv l)).length=szL l:=by rw [← MW l h,List.length_take,Nat.min_eq_left (rN l)]
theorem T9 {l:List Nat} (h:DL l):l.take (dl (dv l)).length=dl (dv l):=by rw [HE h,MW l h]
theorem r9 {w0:World} {M:List Blk} {v:Value} {l:List Nat} {n:Nat} (hD:DL l) (hd:dv l=n) (h:SLf w0 M v l):SLf w0 M (sls v (dl (dv l)).length) (dl n):=by
 have:=h.take (IN hD);rw [T9 hD] at this;rw [← hd];exact this
theorem aB_ {w0:World} {X:List Nat} {M:List Blk} {v:Value} {l:List Nat} (hD:DL l) (h:SL w0 X M v l):SL w0 X M (sls v (dl (dv l)).length) (dl (dv l)):=by
 have:=h.take (IN hD);rw [T9 hD] at this;exact this
theorem fP_ {x:Nat} (hx:x<4294967296):Value.int .i64 (IntKind.i64.wrap ((x:Int).tmod 65536))=IV (x % 65536):=by
 rw [show (65536:Int)=((65536:Nat):Int) from rfl,yZ,JW (by omega)];rfl
theorem fL_ {x:Nat} (hx:x<4294967296):Value.int .i64 (IntKind.i64.wrap (IntKind.u32.wrap ((x:Int).tdiv 65536)))=IV (x / 65536):=by
 rw [show (65536:Int)=((65536:Nat):Int) from rfl,Int.tdiv_eq_ediv_of_nonneg (by omega),← Int.natCast_ediv,tG,IV,show ((x / 65536:Nat):Int) % 4294967296=((x / 65536:Nat):Int) by omega,JW (by omega)]
theorem dN_ (a b:Nat):FillR (fun i=>some (i*1,1)) (List.replicate 2 [Value.int .i64 0]).flatten [(0,IV a),(1,IV b)] (iw [a,b]):=by
 refine .cons O (vs:=[IV a]) O O (by simp) O (.cons O (vs:=[IV b]) O O (by simp) O (.nil _))
theorem CB (a:Nat):FillR (fun i=>some (i*1,1)) (List.replicate 1 [Value.int .i64 0]).flatten [(0,IV a)] (iw [a]):=by
 refine .cons O (vs:=[IV a]) O O (by simp) O (.nil _)
theorem DL.two {x:Nat} (hx:x<4294967296):DL [x % 65536,x / 65536]:=fun d hd=>by
 simp only [List.mem_cons,List.not_mem_nil,or_false] at hd;omega
theorem NT {w l:List Nat} {k:Nat} (hw:Lim w) (hl:l.length=2*k) (h:dv l=val w % 4294967296 ^ k):dv (l++[w.getD k 0 % 65536,w.getD k 0 / 65536])=val w % 4294967296 ^ (k+1):=by
 rw [uR,hl,h,oA,dU w k hw,Nat.pow_mul]
 have e:dv [dig (val w) k % 65536,dig (val w) k / 65536]=dig (val w) k:=by simp only [dv];omega
 rw [e]
theorem QM {a:R} (ha:a.Ok):val a.w % 4294967296 ^ 16=val a.w:=Nat.mod_eq_of_lt ha.vlt
theorem PV {w:List Nat} {k:Nat} (h:false=true ↔ ∀ j,j<k→w.getD j 0=0):false=true ↔ ∀ j,j<k+1→w.getD j 0=0 :=
 ⟨fun hf=>(by cases hf),fun hf=>h.2 fun j hj=>hf j (by omega)⟩
theorem UL {w:List Nat} {k:Nat} (h:true=true ↔ ∀ j,j<k→w.getD j 0=0):(((w.getD k 0:Nat):Int)==0)=true ↔ ∀ j,j<k+1→w.getD j 0=0:=by
 rw [beq_iff_eq]
 constructor
 ·intro h0 j hj
  rcases Nat.lt_or_ge j k with h1|h1
  ·exact h.1 O j h1
  obtain rfl:j=k:=by omega
  omega
 intro hf;have:=hf k (by omega);omega
theorem cn_ {r:R} (hr:r.Ok) {z:Bool} (h:z=true ↔ ∀ j,j<16→r.w.getD j 0=0):z=r.zero:=by
 have e:r.zero=true ↔ ∀ j,j<16→r.w.getD j 0=0:=by
  unfold R.zero;rw [beq_iff_eq]
  constructor
  ·intro h0 j _;rw [dU _ _ hr.lim,h0];simp [dig]
  intro hf
  have h1:szL r.w≤0:=C1 fun j _=>by
   rcases Nat.lt_or_ge j 16 with h2|h2
   ·exact hf j h2
   simp [List.getD,List.getElem?_eq_none (show r.w.length≤j by rw [hr.len];exact h2)]
  exact MU (by omega)
 exact Bool.eq_iff_iff.2 (h.trans e.symm)
theorem nL (n k:Nat):n % 65536 ^ (k+1)=n % 65536 ^ k+65536 ^ k*dg n k:=by
 rw [Nat.pow_succ,Nat.mod_mul];rfl
theorem OY (j:Nat):4294967296 ^ j=65536 ^ (2*j):=by rw [Nat.pow_mul]
theorem GJ:65536 ^ 32=4294967296 ^ 16:=by rw [OY]
theorem dy_ {n:Nat} (h:¬ (dl n).length≤32):¬ n<4294967296 ^ 16:=fun hn=>h (sJ (by rw [GJ];exact hn))
theorem RE {neg:Bool} {n:Nat} (h:32<(dl n).length):RV Z.bad.enc=RV (Z.of (sgn neg n)).enc:=by
 rw [Z.of_big (by rw [kY];exact dy_ (by omega))]
theorem X9 (x:Bool):FillR (fun i=>([(0,1),(1,1),(2,16)]:List (Nat×Nat))[i]?) zR [(1,.bool x)] (R.cells ⟨false,x,List.replicate 16 0⟩) :=
 .cons O (vs:=[.bool x]) O O (by simp [zR]) O (.nil _)
structure NumIn (n k:Nat) (ws:List Nat):Prop where
 len:ws.length=16
 lim:Lim ws
 eq:val ws=n % 65536 ^ k
theorem NumIn.start (n:Nat):NumIn n 0 (List.replicate 16 0):=⟨by simp,qH 16,by rw [mI,Nat.pow_zero,Nat.mod_one]⟩
theorem NumIn.even {n k:Nat} {ws:List Nat} (h:NumIn n k ws) (he:k % 2=0) (hk:k<32):ws.getD (k / 2) 0=0∧NumIn n (k+1) (ws.set (k / 2) (dg n k)):=by
 obtain ⟨j,rfl⟩:∃ j,k=2*j:=⟨k / 2,by omega⟩
 have e0:ws.getD (2*j / 2) 0=0:=by
  rw [show 2*j / 2=j by omega,dU _ _ h.lim,dig,h.eq,← OY,Nat.div_eq_of_lt (Nat.mod_lt _ (jB j))]
 refine ⟨e0,⟨by simp [h.len],rV h.lim (Nat.lt_trans (kZ _ _) (by decide)),?_⟩⟩;have hv:=q6 ws (2*j / 2) (dg n (2*j)) (by rw [h.len];omega);rw [e0,Nat.mul_zero,Nat.add_zero,h.eq] at hv;rw [hv,nL,show 2*j / 2=j by omega,OY]
theorem NumIn.odd {n k:Nat} {ws:List Nat} (h:NumIn n k ws) (he:¬ k % 2=0) (hk:k<32):ws.getD (k / 2) 0<65536∧NumIn n (k+1) (ws.set (k / 2) (ws.getD (k / 2) 0+dg n k*65536)):=by
 obtain ⟨j,rfl⟩:∃ j,k=2*j+1:=⟨k / 2,by omega⟩
 have e0:ws.getD ((2*j+1) / 2) 0<65536:=by
  rw [show (2*j+1) / 2=j by omega,dU _ _ h.lim,dig,h.eq,Nat.pow_succ,OY,Nat.mod_mul_right_div_self];exact Nat.lt_of_le_of_lt (Nat.mod_le _ _) (Nat.mod_lt _ (by decide))
 have hd:=kZ n (2*j+1);refine ⟨e0,⟨by simp [h.len],rV h.lim (by omega),?_⟩⟩;have hv:=q6 ws ((2*j+1) / 2) (ws.getD ((2*j+1) / 2) 0+dg n (2*j+1)*65536) (by rw [h.len];omega);rw [Nat.mul_add,h.eq] at hv;rw [nL n (2*j+1),show 65536 ^ (2*j+1)*dg n (2*j+1)=4294967296 ^ ((2*j+1) / 2)*(dg n (2*j+1)*65536) by rw [show (2*j+1) / 2=j by omega,OY,Nat.pow_succ];ac_rfl];omega
theorem yP (n k:Nat):(dl n).getD k 0=dg n k:=by rw [l4 _ _ (sI n),mM]
theorem d5_ (n:Nat):n % 65536 ^ (dl n).length=n:=Nat.mod_eq_of_lt (by have:=uS _ (sI n);rwa [mM] at this)
theorem RF {neg:Bool} {n:Nat} {ws:List Nat} (h:NumIn n (dl n).length ws):RV ⟨false,neg&&decide ((0:Int)<((dl n).length:Int)),ws⟩ = RV (Z.of (sgn neg n)).enc:=by
 have hv:val ws=n:=by rw [h.eq,d5_]
 have e:=kS neg h.len h.lim;rw [hv] at e;rw [e]
 have hd:decide ((0:Int)<((dl n).length:Int)) = !(n==0):=by
  have:=@KV n
  by_cases h0:n=0
  ·subst h0;rw [o8];rfl
  have h1:¬ (dl n).length=0:=fun hc=>h0 (this.1 hc);rw [decide_eq_true (by omega)];simp [h0]
 rw [hd]
theorem bZ_ (n:Nat) (h:n<1000000):IntKind.i64.wrap ((n:Int).tdiv 2)=((n / 2:Nat):Int):=by
 rw [Int.tdiv_eq_ediv_of_nonneg (by omega),bR (by unfold I64;omega)];omega
theorem gT_ (n:Nat):(n:Int).tmod 2=((n % 2:Nat):Int):=yZ n 2
theorem WQ {d:Nat} (hd:d<65536):Value.int .u32 (IntKind.u32.wrap ((0:Nat)+IntKind.u32.wrap (d:Int)))=U32 d:=by
 simp only [tG,U32];congr 1;omega
theorem a4_ {x d:Nat} (hx:x<65536) (hd:d<65536):Value.int .u32 (IntKind.u32.wrap ((x:Int)+IntKind.u32.wrap (IntKind.u32.wrap (d:Int)*65536)))=U32 (x+d*65536):=by
 simp only [tG,U32];congr 1;omega
section
variable {P:Program} {w0:World} {X:List Nat} {N:Nm} {S:Fr} {M:List Blk} {d:Option Tmp} {ty:TypeId} {ps:String} {af:Array Edge} {gd:Option (Nat×Bool)}
theorem O6 {T U:TypeId} {x y:Operand} {b k e:Nat} {bd ng:Bool} {l:List Nat} {M':List Blk} {K:Value→List Blk→Prop} (hT:gY P T=some (false,1)) (hx:evO N S x=some (.pointer (some ⟨b,0+2+(k:Int).toNat*1,none⟩)))
  (hy:evO N S y=some (U32 e)) (hu:Upd b U (R.cells ⟨bd,ng,l⟩) (R.cells ⟨bd,ng,l.set k e⟩) M M') (ho:k<l.length) (hb:w0.heap.size≤b∨b∈X) (kk:K undef M') :
  OpR P w0 X N ⟨d,.store T x y,ty,ps,af,gd⟩ S M K:=by
 have e1:(R.cells ⟨bd,ng,l⟩).set (0+2+(k:Int).toNat*1) (U32 e)=R.cells ⟨bd,ng,l.set k e⟩:=by
  rw [show 0+2+(k:Int).toNat*1=k+1+1 by omega];simp only [R.cells,List.set_cons_succ,aF_]
 exact GO hT hx hy O (by rw [e1];exact hu) (by simp [R.cells,e8];omega) hb kk
end
open Go Go.Kn
def cD (a b k:Nat):Nat:=(a % 65536 ^ k+b % 65536 ^ k) / 65536 ^ k
theorem cC_ (a b k:Nat):cD a b k≤1:=by
 unfold cD;have h1:=Nat.mod_lt a (show 0<65536 ^ k from Nat.pow_pos (by decide));have h2:=Nat.mod_lt b (show 0<65536 ^ k from Nat.pow_pos (by decide))
 have:(a % 65536 ^ k+b % 65536 ^ k) / 65536 ^ k<2:=by
  rw [Nat.div_lt_iff_lt_mul (Nat.pow_pos (by decide))];omega
 omega
theorem bf_ (a b:Nat):cD a b 0=0:=by simp [cD,Nat.mod_one]
theorem OV (a b k:Nat):(cD a b k+dg a k+dg b k) % 65536=dg (a+b) k:=by
 unfold cD dg;generalize hp:65536 ^ k=p
 have hp0:0<p:=by rw [← hp];exact Nat.pow_pos (by decide)
 have h:(a+b) / p=a / p+b / p+(a % p+b % p) / p:=by
  have e1:=Nat.div_add_mod a p;have e2:=Nat.div_add_mod b p
  have:a+b=p*(a / p+b / p)+(a % p+b % p):=by rw [Nat.mul_add];omega
  rw [this,Nat.mul_add_div hp0]
 rw [h];omega
theorem OU (a b k:Nat):(cD a b k+dg a k+dg b k) / 65536=cD a b (k+1):=by
 unfold cD;rw [nL a k,nL b k,Nat.pow_succ];generalize hp:65536 ^ k=p
 have hp0:0<p:=by rw [← hp];exact Nat.pow_pos (by decide)
 rw [← Nat.div_div_eq_div_mul]
 congr 1
 rw [show a % p+p*dg a k+(b % p+p*dg b k)=p*(dg a k+dg b k)+(a % p+b % p) by rw [Nat.mul_add];omega,Nat.mul_add_div hp0];omega
theorem gv_ {x y c:Nat} (hx:x<65536) (hy:y<65536) (hc:c≤1):IntKind.i64.wrap (IntKind.i64.wrap ((x:Int)+(y:Int))+(c:Int))=((c+x+y:Nat):Int):=by
 rw [bR (n:=(x:Int)+y) (by unfold I64;omega),bR (by unfold I64;omega)];omega
theorem O9 (n:Nat):Value.int .i64 ((n:Int).tmod 65536)=IV (n % 65536):=congrArg (Value.int .i64) (yZ n 65536)
theorem fM_ {n:Nat} (h:n<4611686018427387904):IntKind.i64.wrap ((n:Int).tdiv 65536)=((n / 65536:Nat):Int):=by
 rw [Int.tdiv_eq_ediv_of_nonneg (by omega),bR (by unfold I64;omega)];omega
theorem SJ (l:List Nat) (d:Nat):dv (l++[d])=dv l+65536 ^ l.length*d:=by rw [uR];simp [dv]
theorem RK {A B k:Nat} {l:List Nat} (hl:l.length=k) (h:dv l=(A+B) % 65536 ^ k):dv (l++[(cD A B k+dg A k+dg B k) % 65536])=(A+B) % 65536 ^ (k+1):=by
 rw [SJ,hl,h,OV,nL]
theorem VH {la lb:List Nat} (ha:DL la) (hb:DL lb):(dv la+dv lb) % 65536 ^ (max la.length lb.length+1)=dv la+dv lb:=by
 refine Nat.mod_eq_of_lt ?_;have h1:=uS la ha;have h2:=uS lb hb;have h3:65536 ^ la.length≤65536 ^ max la.length lb.length:=Nat.pow_le_pow_right (by decide) (by omega);have h4:65536 ^ lb.length≤65536 ^ max la.length lb.length:=Nat.pow_le_pow_right (by decide) (by omega);rw [Nat.pow_succ];omega
theorem gX_ {x y c:Nat} (hx:x<65536) (hy:y<65536) (hc:c≤1):IntKind.i64.wrap (IntKind.i64.wrap ((x:Int) - (y:Int)) - (c:Int))=(x:Int) - y - c:=by
 rw [bR (n:=(x:Int) - y) (by unfold I64;omega),bR (by unfold I64;omega)]
def md (x y c:Nat):Nat:=if x<y+c then x+65536 - y - c else x - y - c
def mb (x y c:Nat):Nat:=if x<y+c then 1 else 0
theorem ZD {x y c:Nat} (hx:x<65536) (hy:y<65536) (hc:c≤1) (h:(x:Int) - y - c<0):Value.int .i64 (IntKind.i64.wrap ((x:Int) - y - c+65536))=IV (md x y c):=by
 rw [bR (by unfold I64;omega),IV,md,if_pos (by omega)];congr 1;omega
theorem ZE {x y c:Nat} (h:¬ (x:Int) - y - c<0):Value.int .i64 ((x:Int) - y - c)=IV (md x y c):=by
 rw [IV,md,if_neg (by omega)];congr 1;omega
theorem Y9 {x y c:Nat} (h:(x:Int) - y - c<0):Value.int .i64 1 = .int .i64 ((mb x y c:Nat):Int):=by rw [mb,if_pos (by omega)];rfl
theorem ZA {x y c:Nat} (h:¬ (x:Int) - y - c<0):Value.int .i64 0 = .int .i64 ((mb x y c:Nat):Int):=by rw [mb,if_neg (by omega)];rfl
theorem cO_ (x y c:Nat):mb x y c≤1:=by unfold mb;split<;>omega
theorem cQ_ {x y c:Nat} (hx:x<65536) (hy:y<65536) (hc:c≤1):md x y c<65536:=by unfold md;split<;>omega
theorem fv_ {x y c:Nat} (hy:y<65536) (hc:c≤1):x+65536*mb x y c=md x y c+y+c:=by unfold md mb;split<;>omega
theorem DI {A B k c:Nat} {l:List Nat} (hl:l.length=k) (hc:c≤1) (h:dv l+B % 65536 ^ k=A % 65536 ^ k+c*65536 ^ k) :
  dv (l++[md (dg A k) (dg B k) c])+B % 65536 ^ (k+1)=A % 65536 ^ (k+1)+mb (dg A k) (dg B k) c*65536 ^ (k+1):=by
 have e:=fv_ (x:=dg A k) (kZ B k) hc;rw [SJ,hl,nL,nL,Nat.pow_succ];generalize 65536 ^ k=p at *
 have e2:p*dg A k+p*(65536*mb (dg A k) (dg B k) c)=p*md (dg A k) (dg B k) c+p*dg B k+p*c:=by rw [← Nat.mul_add,e,Nat.mul_add,Nat.mul_add]
 have e3:mb (dg A k) (dg B k) c*(p*65536)=p*(65536*mb (dg A k) (dg B k) c):=by ac_rfl
 rw [e3];rw [Nat.mul_comm c p] at h;omega
theorem RD {la l:List Nat} {B c:Nat} (ha:DL la) (hD:DL l) (hl:l.length=la.length) (hle:B≤dv la) (h:dv l+B % 65536 ^ la.length=dv la % 65536 ^ la.length+c*65536 ^ la.length) (hc:c≤1):dv l=dv la - B:=by
 have h1:=uS la ha;have h2:=uS l hD;rw [hl] at h2;rw [Nat.mod_eq_of_lt h1,Nat.mod_eq_of_lt (Nat.lt_of_le_of_lt hle h1)] at h
 have hc':c=0∨c=1:=by omega
 rcases hc' with rfl|rfl<;>omega
theorem n8 (x k:Nat):x / 65536 ^ k=dg x k+65536*(x / 65536 ^ (k+1)):=by
 unfold dg;rw [Nat.pow_succ,← Nat.div_div_eq_div_mul];omega
theorem U9 {A B m:Nat} (h:A / 65536 ^ (m+1)=B / 65536 ^ (m+1)) (he:dg A m=dg B m):A / 65536 ^ m=B / 65536 ^ m:=by rw [n8 A m,n8 B m,h,he]
theorem VA {A B m:Nat} (h:A / 65536 ^ (m+1)=B / 65536 ^ (m+1)) (hne:dg A m≠dg B m):decide (((dg A m:Nat):Int)<((dg B m:Nat):Int))=decide (A<B):=by
 have ea:=n8 A m;have eb:=n8 B m;have hp:0<65536 ^ m:=Nat.pow_pos (by decide)
 have key:∀ x y:Nat,x / 65536 ^ m<y / 65536 ^ m→x<y:=fun x y hxy=>by
  rcases Nat.lt_or_ge x y with h1|h1
  ·exact h1
  have:=Nat.div_le_div_right (c:=65536 ^ m) h1;omega
 rcases Nat.lt_or_ge (dg A m) (dg B m) with h1|h1
 ·rw [decide_eq_true (by omega),decide_eq_true (key A B (by omega))]
 have:=key B A (by omega);rw [decide_eq_false (by omega),decide_eq_false (by omega)]
theorem Q8 {la lb:List Nat} (ha:DL la) (hb:DL lb):dv la / 65536 ^ max la.length lb.length=dv lb / 65536 ^ max la.length lb.length:=by
 have h3:65536 ^ la.length≤65536 ^ max la.length lb.length:=Nat.pow_le_pow_right (by decide) (by omega);have h4:65536 ^ lb.length≤65536 ^ max la.length lb.length:=Nat.pow_le_pow_right (by decide) (by omega);rw [Nat.div_eq_of_lt (Nat.lt_of_lt_of_le (uS la ha) h3),Nat.div_eq_of_lt (Nat.lt_of_lt_of_le (uS lb hb) h4)]
theorem KX:∀ (l:List Nat) (j d:Nat),j<l.length→dv (l.set j d)+65536 ^ j*l.getD j 0=dv l+65536 ^ j*d
 | [],j,d,h=>by simp at h
 | x::l,0,d,_=>by simp [dv];omega
 | x::l,j+1,d,h=>by
  have ih:=KX l j d (by simpa using h);simp only [List.set_cons_succ,dv,List.getD_cons_succ,Nat.pow_succ]
  have e1:65536 ^ j*65536*l.getD j 0=65536*(65536 ^ j*l.getD j 0):=by ac_rfl
  have e2:65536 ^ j*65536*d=65536*(65536 ^ j*d):=by ac_rfl
  rw [e1,e2];omega
theorem rZ (l:List Nat) (i j d:Nat):(l.set i d).getD j 0=if i=j∧j<l.length then d else l.getD j 0:=by
 by_cases h:i=j
 ·subst h
  by_cases h2:i<l.length
  ·rw [if_pos ⟨rfl,h2⟩];simp [List.getD,h2]
  rw [if_neg (by simp [h2])];simp [List.getD,h2]
 rw [if_neg (by simp [h])];simp [List.getD,List.getElem?_set,h]
theorem cr_ {l:List Nat} (h:∀ t,t<l.length→l.getD t 0<65536):DL l:=fun d hd=>by
 obtain ⟨i,hi,rfl⟩:=List.mem_iff_getElem.1 hd;have:=h i hi
 simpa [List.getD,hi] using this
structure RowIn (n B i a:Nat) (o:List Nat) (k:Nat) (l:List Nat):Prop where
 len:l.length=n
 low:∀ t,l.getD t 0<8589934592
 high:∀ t,i+k≤t→l.getD t 0<65536
 eq:dv l=dv o+65536 ^ i*(a*(B % 65536 ^ k))
theorem RowIn.start {n:Nat} (B i a:Nat) {o:List Nat} (ho:DL o) (hl:o.length=n):RowIn n B i a o 0 o :=
 ⟨hl,fun t=>Nat.lt_trans (FP ho t) (by decide),fun t _=>FP ho t,by simp [Nat.mod_one]⟩
theorem RowIn.step {n B i a:Nat} {o:List Nat} {k:Nat} {l:List Nat} (h:RowIn n B i a o k l) (hik:i+k<n) (ha:a<65536):RowIn n B i a o (k+1) (l.set (i+k) (l.getD (i+k) 0+a*dg B k)):=by
 have hb:=kZ B k;have hm:a*dg B k≤65535*65535:=Nat.mul_le_mul (by omega) (by omega);have hh:=h.high (i+k) (Nat.le_refl _);have hv:=KX l (i+k) (l.getD (i+k) 0+a*dg B k) (by rw [h.len];exact hik);refine ⟨by simp [h.len],fun t=>?_,fun t ht=>?_,?_⟩
 ·rw [rZ];split
  ·omega
  exact h.low t
 ·rw [rZ,if_neg (by omega)];exact h.high t (by omega)
 rw [Nat.mul_add,h.eq] at hv;rw [nL,Nat.mul_add a,Nat.mul_add (65536 ^ i)]
 have e:65536 ^ (i+k)*(a*dg B k)=65536 ^ i*(a*(65536 ^ k*dg B k)):=by rw [Nat.pow_add];ac_rfl
 rw [e] at hv;omega
structure CarryIn (n T k:Nat) (l:List Nat) (c:Nat):Prop where
 len:l.length=n
 low:∀ t,l.getD t 0<8589934592
 done:∀ t,t<k→l.getD t 0<65536
 clt:c<8589934592
 eq:dv l+c*65536 ^ k=T
theorem RowIn.done {n B i a k:Nat} {o l:List Nat} (h:RowIn n B i a o k l):CarryIn n (dv o+65536 ^ i*(a*(B % 65536 ^ k))) 0 l 0 :=
 ⟨h.len,h.low,fun t ht=>by omega,by decide,by rw [h.eq,Nat.zero_mul,Nat.add_zero]⟩
theorem CarryIn.step {n T k:Nat} {l:List Nat} {c:Nat} (h:CarryIn n T k l c) (hk:k<n):CarryIn n T (k+1) (l.set k ((l.getD k 0+c) % 65536)) ((l.getD k 0+c) / 65536):=by
 have h1:=h.low k;have h2:=h.clt;have hv:=KX l k ((l.getD k 0+c) % 65536) (by rw [h.len];exact hk);refine ⟨by simp [h.len],fun t=>?_,fun t ht=>?_,by omega,?_⟩
 ·rw [rZ];split
  ·omega
  exact h.low t
 ·rw [rZ];split
  ·exact Nat.mod_lt _ (by decide)
  rename_i hne
  exact h.done t (by rw [h.len] at hne;omega)
 have he:=h.eq;rw [show 65536 ^ (k+1)=65536 ^ k*65536 from Nat.pow_succ ..];generalize 65536 ^ k=p at *;generalize l.getD k 0=g at *;have e4:=Nat.div_add_mod (g+c) 65536
 have f1:p*(65536*((g+c) / 65536))+p*((g+c) % 65536)=p*g+p*c:=by rw [← Nat.mul_add,e4,Nat.mul_add]
 have f3:(g+c) / 65536*(p*65536)=p*(65536*((g+c) / 65536)):=by ac_rfl
 rw [f3];rw [Nat.mul_comm c p] at he;omega
theorem CarryIn.fin {n T:Nat} {l:List Nat} {c:Nat} (h:CarryIn n T n l c) (hT:T<65536 ^ n):DL l∧l.length=n∧dv l=T:=by
 have he:=h.eq
 have hc:c=0:=by
  rcases Nat.eq_zero_or_pos c with h0|h0
  ·exact h0
  have:1*65536 ^ n≤c*65536 ^ n:=Nat.mul_le_mul_right _ h0;omega
 rw [hc,Nat.zero_mul,Nat.add_zero] at he;exact ⟨cr_ fun t ht=>h.done t (by rw [← h.len];exact ht),h.len,he⟩
theorem V3 {A B i m:Nat} (hm:B<65536 ^ m):A % 65536 ^ i*B+65536 ^ i*(dg A i*(B % 65536 ^ m))=A % 65536 ^ (i+1)*B:=by
 rw [Nat.mod_eq_of_lt hm,nL,Nat.add_mul,Nat.mul_assoc]
theorem ay_ {A B i n m:Nat} (hi:i≤n) (hm:B<65536 ^ m):A % 65536 ^ i*B<65536 ^ (n+m+1):=by
 have h1:=Nat.mod_lt A (show 0<65536 ^ i from Nat.pow_pos (by decide));have h2:65536 ^ i≤65536 ^ n:=Nat.pow_le_pow_right (by decide) hi;rw [Nat.pow_succ,Nat.pow_add];have h3:A % 65536 ^ i*B≤65536 ^ n*65536 ^ m:=Nat.mul_le_mul (by omega) (Nat.le_of_lt hm);have h4:0<65536 ^ n*65536 ^ m:=Nat.mul_pos (Nat.pow_pos (by decide)) (Nat.pow_pos (by decide));omega
def atD (l:List Nat) (k:Int):Nat:=if k<0 then 0 else l.getD k.toNat 0
theorem a6_ {l:List Nat} {k:Int} (h:k<0):atD l k=0:=if_pos h
theorem a7_ {l:List Nat} {k:Int} (h:¬ k<0):atD l k=l.getD k.toNat 0:=if_neg h
theorem fp_ {l:List Nat} {k:Nat} (h:k<l.length):(iw l)[0+(k:Int).toNat*1]? = some (IV (l.getD k 0)):=by rw [U7];exact YZ h
theorem bJ_ {x a b:Nat} (hx:x<65536) (ha:a<65536) (hb:b<65536):Value.int .i64 (IntKind.i64.wrap ((x:Int)+IntKind.i64.wrap ((a:Int)*(b:Int))))=IV (x+a*b):=by
 have hm:a*b≤65535*65535:=Nat.mul_le_mul (by omega) (by omega);rw [← Int.natCast_mul,bR (n:=((a*b:Nat):Int)) (by unfold I64;omega),bR (by unfold I64;omega),IV];congr 1
theorem gw_ {a b:Nat} (h:a+b<9223372036854775808):IntKind.i64.wrap ((a:Int)+(b:Int))=((a+b:Nat):Int):=by
 rw [bR (by unfold I64;omega)];omega
section
variable {P:Program} {w0:World} {X:List Nat} {N:Nm} {S:Fr} {M:List Blk} {d:Option Tmp} {ty:TypeId} {ps:String} {af:Array Edge} {gd:Option (Nat×Bool)}
theorem _root_.Go.Kn.SL.mine' {b n c:Nat} {T:TypeId} {l:List Nat} (h:(⟨b,T,iw l⟩:Blk)∈M) (hl:l.length=n) (hc:n≤c):SL w0 X M (.slice (some ⟨b,0,none⟩) n c) l:=by
 subst hl;exact SL.mine h hc
theorem GP {T U:TypeId} {x y:Operand} {b k e:Nat} {l:List Nat} {M':List Blk} {K:Value→List Blk→Prop} (hT:gY P T=some (false,1)) (hx:evO N S x=some (.pointer (some ⟨b,0+(k:Int).toNat*1,none⟩)))
  (hy:evO N S y=some (IV e)) (hu:Upd b U (iw l) (iw (l.set k e)) M M') (ho:k<l.length) (hb:w0.heap.size≤b∨b∈X) (kk:K undef M') :
  OpR P w0 X N ⟨d,.store T x y,ty,ps,af,gd⟩ S M K:=by
 have hu':Upd b U (iw l) ((iw l).set (0+(k:Int).toNat*1) (IV e)) M M':=by rw [U7,dZ_];exact hu
 exact GO hT hx hy O hu' (by rw [U7,zY];exact ho) hb kk
end
open Go Go.Kn
theorem p16 (k:Nat):0<65536 ^ k:=Nat.pow_pos (by decide)
theorem dH_ {n:Nat} (h:0<n):65536 ^ ((dl n).length - 1)≤n:=by
 rcases Nat.lt_or_ge n (65536 ^ ((dl n).length - 1)) with h1|h1
 ·have h2:=sJ h1
  have h3:(dl n).length≠0:=fun hc=>by rw [KV] at hc;omega
  omega
 exact h1
theorem IO (n:Nat):n<65536 ^ (dl n).length:=by have:=uS _ (sI n);rwa [mM] at this
theorem bA_ {R B:Nat} (hB:0<B) (hR:R<65536*B) {top num:Nat} {n:Nat} (hn:n=(dl B).length)
  (ht:top=dg B (n - 1)*65536+(if n=1 then 0 else dg B (n - 2))) (hu:num=dg R n*4294967296+dg R (n - 1)*65536+(if n=1 then 0 else dg R (n - 2))) :
  0<top∧R / B≤min 65535 (num / top):=by
 have h1:=IO B;have h2:=dH_ hB
 have h3:n≠0:=fun hc=>by rw [hn,KV] at hc;omega
 rw [← hn] at h1 h2
 have hq:R / B≤65535:=by
  have:R / B<65536:=by rw [Nat.div_lt_iff_lt_mul hB];exact hR
  omega
 by_cases h4:n=1
 ·subst h4
  simp only [if_pos,Nat.sub_self,Nat.pow_zero,Nat.pow_one] at *
  have e1:dg B 0=B:=by unfold dg;rw [Nat.pow_zero,Nat.div_one,Nat.mod_eq_of_lt h1]
  have e2:dg R 1*4294967296+dg R 0*65536=R*65536:=by unfold dg;rw [Nat.pow_one,Nat.pow_zero,Nat.div_one];omega
  rw [e1] at ht;rw [e2] at hu;refine ⟨by omega,?_⟩;rw [ht,hu,Nat.add_zero,Nat.add_zero,Nat.mul_div_mul_right _ _ (by decide)];omega
 rw [if_neg h4] at ht hu
 have e1:B / 65536 ^ (n - 2)=top:=by
  have a1:=n8 B (n - 2);have a2:=n8 B (n - 1);rw [show n - 2+1=n - 1 by omega] at a1;rw [show n - 1+1=n by omega,Nat.div_eq_of_lt h1] at a2;omega
 have hR2:R<65536 ^ (n+1):=by rw [Nat.pow_succ];omega
 have e2:R / 65536 ^ (n - 2)=num:=by
  have a1:=n8 R (n - 2);have a2:=n8 R (n - 1);have a3:=n8 R n;rw [show n - 2+1=n - 1 by omega] at a1;rw [show n - 1+1=n by omega] at a2;rw [Nat.div_eq_of_lt hR2] at a3;omega
 have ht0:0<top:=by
  rw [← e1];refine Nat.div_pos (Nat.le_trans (Nat.pow_le_pow_right (by decide) (by omega)) h2) (p16 _)
 refine ⟨ht0,?_⟩
 have h5:R / B≤num / top:=by
  rw [Nat.le_div_iff_mul_le ht0,← e1,← e2,Nat.le_div_iff_mul_le (p16 _),Nat.mul_assoc];exact Nat.le_trans (Nat.mul_le_mul_left _ (Nat.div_mul_le_self _ _)) (Nat.div_mul_le_self _ _)
 omega
structure DivIn (A B n k R:Nat) (qs:List Nat):Prop where
 len:qs.length=n
 ok:DL qs
 rest:R=A / 65536 ^ k % B
 eq:dv qs=65536 ^ k*(A / 65536 ^ k / B)
 low:∀ t,t<k→qs.getD t 0=0
theorem DivIn.start {A B n:Nat} (h:A<65536 ^ n):DivIn A B n n 0 (List.replicate n 0) :=
 ⟨by simp,fun d hd=>by rw [List.eq_of_mem_replicate hd];decide,by rw [Nat.div_eq_of_lt h,Nat.zero_mod],by rw [AU,Nat.div_eq_of_lt h,Nat.zero_div,Nat.mul_zero],fun t _=>FQ n t⟩
theorem XW {X B a:Nat} (hB:0<B):(65536*X+a) / B=65536*(X / B)+(X % B*65536+a) / B∧(65536*X+a) % B=(X % B*65536+a) % B:=by
 have e:65536*X+a=B*(65536*(X / B))+(X % B*65536+a):=by
  have h1:=Nat.div_add_mod X B
  have h2:B*(65536*(X / B))=65536*(B*(X / B)):=by ac_rfl
  rw [h2];omega
 constructor
 ·rw [e,Nat.mul_add_div hB]
 rw [e,Nat.mul_add_mod]
theorem DivIn.step {A B n m R:Nat} {qs:List Nat} (h:DivIn A B n (m+1) R qs) (hB:0<B) (hm:m<n):DivIn A B n m ((R*65536+dg A m) % B) (qs.set m ((R*65536+dg A m) / B)):=by
 have hs:=n8 A m;obtain ⟨e1,e2⟩:=XW (X:=A / 65536 ^ (m+1)) (a:=dg A m) hB;have hr:=h.rest
 have hRB:R<B:=by rw [hr];exact Nat.mod_lt _ hB
 have hd:=kZ A m
 have hdl:(R*65536+dg A m) / B<65536:=by rw [Nat.div_lt_iff_lt_mul hB];omega
 rw [← hr] at e1 e2
 have hA:A / 65536 ^ m=65536*(A / 65536 ^ (m+1))+dg A m:=by omega
 have hv:=KX qs m ((R*65536+dg A m) / B) (by rw [h.len];exact hm);refine ⟨by simp [h.len],cr_ fun t _=>?_,by rw [hA,e2],?_,fun t ht=>?_⟩
 ·rw [rZ];split
  ·exact hdl
  exact FP h.ok t
 ·rw [h.low m (by omega),Nat.mul_zero,Nat.add_zero,h.eq,show 65536 ^ (m+1)=65536 ^ m*65536 from Nat.pow_succ ..] at hv
  rw [hv,hA,e1,Nat.mul_add,Nat.mul_assoc,show 65536 ^ m*65536=65536 ^ (m+1) from (Nat.pow_succ ..).symm]
 rw [rZ,if_neg (by omega)];exact h.low t (by omega)
theorem DivIn.fin {A B n R:Nat} {qs:List Nat} (h:DivIn A B n 0 R qs):dv qs=A / B∧R=A % B:=by
 have h1:=h.eq;have h2:=h.rest;rw [Nat.pow_zero,Nat.div_one,Nat.one_mul] at h1;rw [Nat.pow_zero,Nat.div_one] at h2;exact ⟨h1,h2⟩
theorem T6 {a:Nat} {c:Int} (h:a≤1000000) (hc:0≤c) (hc2:c≤1000):IntKind.i64.wrap ((a:Int) - c)=(a:Int) - c:=bR (by unfold I64;omega)
theorem cj_ {x y:Nat} (hx:x<65536) (hy:y<65536):IntKind.i64.wrap (IntKind.i64.wrap ((x:Int)*65536)+(y:Int))=((x*65536+y:Nat):Int):=by
 rw [bR (n:=(x:Int)*65536) (by unfold I64;omega),bR (by unfold I64;omega)];omega
theorem bS_ {x y z:Nat} (hx:x<65536) (hy:y<65536) (hz:z<65536):IntKind.i64.wrap (IntKind.i64.wrap (IntKind.i64.wrap ((x:Int)*4294967296)+IntKind.i64.wrap ((y:Int)*65536))+(z:Int))=((x*4294967296+y*65536+z:Nat):Int):=by
 rw [bR (n:=(x:Int)*4294967296) (by unfold I64;omega),bR (n:=(y:Int)*65536) (by unfold I64;omega),bR (n:=(x:Int)*4294967296+(y:Int)*65536) (by unfold I64;omega),bR (by unfold I64;omega)];omega
theorem O5 {a b:Nat} (h:a<9223372036854775808):IntKind.i64.wrap ((a:Int).tdiv (b:Int))=((a / b:Nat):Int):=by
 have h1:∀ c:Nat,c≤a→I64 (c:Int):=fun c hc=>by unfold I64;omega
 rw [Int.tdiv_eq_ediv_of_nonneg (by omega),← Int.natCast_ediv,bR (h1 _ (Nat.div_le_self a b))]
theorem KK (n:Nat) (k:Int):atD (dl n) k=if k<0 then 0 else dg n k.toNat:=by unfold atD;split<;>simp only [yP]
theorem zQ (n:Nat) (k:Int):atD (dl n) k<65536:=by rw [KK];split;decide;exact kZ _ _
theorem SG {a R:Nat} (ha:a<65536):DL ([a]++dl R)∧dv ([a]++dl R)=R*65536+a:=by
 refine ⟨DL.append (DL.one ha) (sI R),?_⟩;rw [uR,mM];simp [dv];omega
theorem WW (x n:Nat) (h:1≤n):atD (dl x) ((n:Int) - 2)=if n=1 then 0 else dg x (n - 2):=by
 rw [KK]
 by_cases h1:n=1
 ·rw [if_pos h1,if_pos (by omega)]
 rw [if_neg h1,if_neg (by omega)];congr 1;omega
theorem dw_ (x n:Nat) (h:1≤n):atD (dl x) ((n:Int) - 1)=dg x (n - 1):=by
 rw [KK,if_neg (by omega)];congr 1;omega
theorem YL {R B n:Nat} (hB:0<B) (hR:R<65536*B) (hn:n=(dl B).length) (h1:1≤n) :
  0<dg B (n - 1)*65536+atD (dl B) ((n:Int) - 2)∧R / B≤min 65535 ((atD (dl R) (n:Int)*4294967296+atD (dl R) ((n:Int) - 1)*65536+atD (dl R) ((n:Int) - 2)) / (dg B (n - 1)*65536+atD (dl B) ((n:Int) - 2))):=by
 refine bA_ hB hR hn (by rw [WW _ _ h1]) ?_;rw [WW _ _ h1,dw_ _ _ h1,KK,if_neg (by omega)];rfl
theorem d7_ (R:Nat) (a b c:Int):atD (dl R) a*4294967296+atD (dl R) b*65536+atD (dl R) c<9223372036854775808:=by
 have h1:=zQ R a;have h2:=zQ R b;have h3:=zQ R c;omega
theorem XV {R B d:Nat} (hB:0<B) (h:R / B≤d) (hl:R<B*d):1≤d∧R / B≤d - 1∧B≤B*d∧B*d - B=B*(d - 1):=by
 have h1:R / B<d:=by rw [Nat.div_lt_iff_lt_mul hB,Nat.mul_comm d B];exact hl
 have h0:0<d:=Nat.lt_of_le_of_lt (Nat.zero_le _) h1;obtain ⟨e,rfl⟩:∃ e,d=e+1:=⟨d - 1,by omega⟩;refine ⟨h0,Nat.le_of_lt_succ h1,?_,?_⟩
 ·rw [Nat.mul_succ];omega
 rw [Nat.mul_succ,Nat.add_sub_cancel,Nat.add_sub_cancel]
theorem XS {R B d:Nat} (hB:0<B) (h:R / B≤d) (hl:¬ R<B*d):d=R / B∧R - B*d=R % B∧B*d≤R:=by
 have h1:d≤R / B:=by rw [Nat.le_div_iff_mul_le hB,Nat.mul_comm d B];exact Nat.le_of_not_lt hl
 have h2:d=R / B:=by omega
 have h3:=Nat.div_add_mod R B;have h4:=Nat.le_of_not_lt hl;refine ⟨h2,?_,h4⟩;rw [← h2] at h3;omega
theorem fh_ {A B:Nat} (h:A≤B):(dl A).length≤(dl B).length:=sJ (Nat.lt_of_le_of_lt h (IO B))
def rF (a:R):Bool:=a.good&&decide (val a.w<4611686018427387904)
def lW (a:R):Int:=if rF a then sgn a.neg (val a.w) else 0
theorem vB {a:R} (ha:a.Ok) (h:rF a=true):a.dec.o=some (lW a)∧a.good=true∧lW a=sgn a.neg (val a.w)∧-4611686018427387904<lW a∧lW a<4611686018427387904:=by
 have h0:lW a=sgn a.neg (val a.w):=by unfold lW;rw [if_pos h]
 unfold rF at h;rw [Bool.and_eq_true,decide_eq_true_iff] at h;refine ⟨by rw [h0];exact dQ ha h.1,h.1,h0,?_⟩;rw [h0];cases a.neg<;>simp only [x9,u4]<;>omega
theorem V4 {a:R} (h:a.good=false):Value.tuple #[.int .i64 0,.bool false] = .tuple #[.int .i64 (lW a),.bool (rF a)]:=by
 simp [lW,rF,h]
theorem PZ {a:R} (h:¬ val a.w<4611686018427387904):Value.tuple #[.int .i64 0,.bool false] = .tuple #[.int .i64 (lW a),.bool (rF a)]:=by
 simp [lW,rF,h]
theorem BV {w:List Nat} (hw:Lim w) (k:Nat):w.getD k 0*4294967296 ^ k≤val w:=by
 rw [dU w k hw];unfold dig;exact Nat.le_trans (Nat.mul_le_mul_right _ (Nat.mod_le _ _)) (Nat.div_mul_le_self _ _)
theorem aL_ {a:R} (ha:a.Ok) (h:1073741824≤((a.w.getD 1 0:Nat):Int)):¬ val a.w<4611686018427387904:=by
 have:=BV ha.lim 1;rw [Nat.pow_one] at this;omega
theorem V5 {a:R} (ha:a.Ok) {k:Nat} (hk:2≤k) (h:a.w.getD k 0≠0):¬ val a.w<4611686018427387904:=by
 have h1:=BV ha.lim k;have h2:(4294967296:Nat) ^ 2≤4294967296 ^ k:=Nat.pow_le_pow_right (by decide) hk;have h3:4294967296 ^ k≤a.w.getD k 0*4294967296 ^ k:=Nat.le_mul_of_pos_left _ (Nat.pos_of_ne_zero h)
 have h4:(4294967296:Nat) ^ 2=18446744073709551616:=by decide
 omega
theorem cm_ {w:List Nat} (hl:w.length=16) (h:∀ j,2≤j→j<16→w.getD j 0=0):val w=w.getD 0 0+4294967296*w.getD 1 0:=by
 have hs:szL w≤2:=by
  rcases Nat.lt_or_ge 2 (szL w) with hc|hc
  ·obtain ⟨m,hm⟩:∃ m,szL w=m+1:=⟨szL w - 1,by omega⟩
   have h1:=rX w m hm;have h2:=rN w;exact absurd (h m (by omega) (by omega)) h1
  exact hc
 rw [← yI w 2 hs]
 match w,hl with
 | a::b::l,_=>simp [val]
theorem P1 {a:R} (ha:a.Ok) (h1:a.w.getD 1 0<1073741824) (h:∀ j,2≤j→j<16→a.w.getD j 0=0) :
  IntKind.i64.wrap (IntKind.i64.wrap (IntKind.i64.wrap ((a.w.getD 1 0:Nat):Int)*4294967296)+IntKind.i64.wrap ((a.w.getD 0 0:Nat):Int))=((val a.w:Nat):Int)∧val a.w<4611686018427387904:=by
 have h0:=dA ha.lim 0;rw [cm_ ha.len h];rw [bR (n:=((a.w.getD 1 0:Nat):Int)) (by unfold I64;omega),bR (n:=((a.w.getD 1 0:Nat):Int)*4294967296) (by unfold I64;omega),bR (n:=((a.w.getD 0 0:Nat):Int)) (by unfold I64;omega),bR (by unfold I64;omega)];exact ⟨by omega,by omega⟩
theorem aJ_ {a:R} (g:a.good=true) (h:val a.w<4611686018427387904) (hn:a.neg=true):Value.tuple #[.int .i64 (IntKind.i64.wrap (0 - ((val a.w:Nat):Int))),.bool true] = .tuple #[.int .i64 (lW a),.bool (rF a)]:=by
 have hb:rF a=true:=by simp [rF,g,h]
 rw [hb,lW,if_pos hb,hn,x9,bR (by unfold I64;omega)];simp
theorem aK_ {a:R} (g:a.good=true) (h:val a.w<4611686018427387904) (hn:a.neg=false):Value.tuple #[.int .i64 ((val a.w:Nat):Int),.bool true] = .tuple #[.int .i64 (lW a),.bool (rF a)]:=by
 have hb:rF a=true:=by simp [rF,g,h]
 rw [hb,lW,if_pos hb,hn,u4]
theorem X8 (a b c d:Nat):FillR (fun i=>some (i*1,1)) (List.replicate 4 [Value.int .i64 0]).flatten [(0,IV a),(1,IV b),(2,IV c),(3,IV d)] (iw [a,b,c,d]):=by
 refine .cons O (vs:=[IV a]) O O (by simp) O (.cons O (vs:=[IV b]) O O (by simp) O (.cons O (vs:=[IV c]) O O (by simp) O (.cons O (vs:=[IV d]) O O (by simp) O (.nil _))))
def dl4 (m:Nat):List Nat:=[m % 65536,m / 65536 % 65536,m / 4294967296 % 65536,m / 281474976710656]
theorem XX {m:Nat} (h:m<9223372036854775808):DL (dl4 m):=fun d hd=>by
 simp only [dl4,List.mem_cons,List.not_mem_nil,or_false] at hd;rcases hd with rfl|rfl|rfl|rfl<;>omega
theorem QN (m:Nat):dv (dl4 m)=m:=by simp only [dl4,dv];omega
theorem I7 {m:Nat} (c:Nat) (h:m<9223372036854775808):Value.int .i64 (IntKind.i64.wrap ((m:Int).tdiv (c:Int))) = .int .i64 ((m / c:Nat):Int):=by rw [O5 h]
theorem bT_ {m:Nat} (h:m<9223372036854775808):IntKind.i64.wrap (0 - IntKind.i64.wrap (-((m:Int)+1)+1))=(m:Int):=by
 rw [bR (n:=-((m:Int)+1)+1) (by unfold I64;omega),bR (by unfold I64;omega)];omega
theorem fS_ (m:Nat):sgn true (m+1) = -((m:Int)+1):=by rw [x9];omega
theorem cL_ {a:R} (ha:a.Ok):(dl (val a.w)).length≤32:=sJ (by rw [GJ];exact ha.vlt)
theorem WX {a:R} (h:a.good=false):a.dec.o=none:=by rw [qR h];rfl
theorem du_ {a:R} (ha:a.Ok) (ga:a.good=true):Z.of (sgn false (val a.w))=Z.abs a.dec:=by rw [Z.abs,kG (dQ ha ga),kY,u4]
theorem cd_ {a:R} (ha:a.Ok) (g:a.good=true) (h:val a.w≠0):a.dec.sign=if a.neg then -1 else 1:=by
 have hz:a.zero=false:=by simpa [R.zero] using h
 cases hn:a.neg
 ·exact (PK ha g hz hn).symm
 exact (PJ ha g hz hn).symm
theorem W8 {a b:R} (ha:a.good=false) (hb:b.good=false):(0:Int)=Z.cmp a.dec b.dec:=by rw [qR ha,qR hb];rfl
theorem W9 {a b:R} (ha:a.good=false) (hb:b.Ok) (gb:b.good=true):(-1:Int)=Z.cmp a.dec b.dec:=by unfold Z.cmp;rw [qR ha,dQ hb gb];rfl
theorem XA {a b:R} (ha:a.Ok) (ga:a.good=true) (hb:b.good=false):(1:Int)=Z.cmp a.dec b.dec:=by unfold Z.cmp;rw [qR hb,dQ ha ga];rfl
theorem S9 {a:R} (ha:a.Ok):val a.w<65536 ^ 32:=by rw [GJ];exact ha.vlt
theorem CE {n:Nat} (h:n<65536 ^ 32):(dl n).length≤190:=Nat.le_trans (sJ h) (by decide)
theorem S7 {n:Nat} (h:(0:Int)<((dl n).length:Int)):0<n:=Nat.pos_of_ne_zero fun hc=>by rw [KV.2 hc] at h;exact absurd h (by decide)
theorem OH {n:Nat} (h:¬ (0:Int)<((dl n).length:Int)):n=0:=KV.1 (by omega)
theorem LE (X Y:Nat):Nat.gcd Y (X % Y)=Nat.gcd X Y:=by rw [Nat.gcd_comm Y,← Nat.gcd_rec,Nat.gcd_comm]
theorem YS (x y:Int):Int.gcd y (x.tmod y)=Int.gcd x y:=by
 unfold Int.gcd;rw [Int.natAbs_tmod];exact LE _ _
theorem dU_ {x:Int} (h:-4611686018427387904<x∧x<4611686018427387904):I64 x:=by unfold I64;omega
theorem dV_ {x y:Int} (h:-4611686018427387904<x∧x<4611686018427387904):-4611686018427387904<x.tmod y∧x.tmod y<4611686018427387904:=by
 have h1:(x.tmod y).natAbs≤x.natAbs:=by rw [Int.natAbs_tmod];exact Nat.mod_le _ _
 omega
theorem U0 {a b:R} (ha:a.Ok) (hb:b.Ok) (h:rF a=true) (k:rF b=true) {x y:Int} (e:Int.gcd x y=Int.gcd (lW a) (lW b)) (h0:y=0):Z.abs (Z.of x)=Z.gcd a.dec b.dec:=by
 rw [Z.gcd,eG (vB ha h).1 (vB hb k).1,← e,h0]
 have h1:Int.gcd x 0=x.natAbs:=by simp
 have hw:=(vB ha h).2.2.2
 have hl:Int.gcd (lW a) (lW b)<4294967296 ^ 16:=by
  have p:(4611686018427387904:Nat)≤4294967296 ^ 16:=by decide
  by_cases hz:lW a=0
  ·have hb':=(vB hb k).2.2.2
   rw [hz];simp;omega
  have:=Int.gcd_le_natAbs_left (b:=lW b) hz;omega
 have hx:x.natAbs<4294967296 ^ 16:=by rw [← h1,← h0,e];exact hl
 rw [h1,Z.abs,kG (Z.of_some hx)]
theorem YG {a b:R} (ha:a.Ok) (hb:b.Ok) (ga:a.good=true) (gb:b.good=true) {X:Nat} (h:X=Nat.gcd (val a.w) (val b.w)):(Z.gcd a.dec b.dec)=Z.of (sgn false X):=by
 rw [EG ha hb ga gb,h,u4]
end Go.Num
