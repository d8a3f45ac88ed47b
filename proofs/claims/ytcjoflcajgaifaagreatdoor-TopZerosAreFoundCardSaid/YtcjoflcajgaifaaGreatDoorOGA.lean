/- Lemmas: what they ask stands in their statements. -/
import Derived.Test.YtcjoflcajgaifaaGreatDoorOR
import Derived.Still
import Derived.Below
import Derived.OrdersIn
import Derived.RangeFuncOwn
import Derived.RangeFuncCalls
import Derived.Laws.CopyRow
import Derived.Laws.Rows
import Derived.KernelRfl
import Derived.Laws.StructEq
import Derived.ChangeKeysEq
set_option linter.unusedSimpArgs false
set_option linter.unusedVariables false
namespace Go.Kn
open Go.RowKit
abbrev Cls:=World→Prop
def Ext (w w':World):Prop:=Below w.heap.size w w'
theorem Ext.refl (w:World):Ext w w:=Below.refl _ _
theorem Ext.trans {a b c:World} (h:Ext a b) (k:Ext b c):Ext a c:=Below.trans h (Below.mono k h.size)
def zO (C:Cls):Prop:=∀ w w',C w→Ext w w'→C w'
def MZ (P:Program) (K:Value→World→Prop):Result Next→Prop
 | .ok (.value v) w'=>K v w'
 | .ok .skip w'=>K undef w'
 | .ok (.enter f args) w'=>Calls P f args w' fun e w''=>∃ v,e = .returned v∧K v w''
 | .ok (.round l f tmps assign body) w'=>RoundIn Fence.wide 0 P l f tmps assign body w' fun e w''=>∃ v,e = .returned v∧K v w''
 | _=>False
def rI (r:Option Nat):Fence:={ Fence.wide with round:=r }
def opw (P:Program) (o:Oper) (a:Act) (w:World) (K:Value→World→Prop):Prop:=MZ P K ((execOp a.eval o).run P w)
theorem JQ {P:Program} {K K':Value→World→Prop} (h:∀ v w,K v w→K' v w):∀ {r:Result Next},MZ P K r→MZ P K' r:=by
 intro r hr
 cases r with
 | ok n w' =>
  cases n<;>simp only [MZ] at hr ⊢
  case value=>exact h _ _ hr
  case skip=>exact h _ _ hr
  case enter=>exact hr.mono fun e w'' ⟨v,he,hk⟩=>⟨v,he,h _ _ hk⟩
  case round=>exact hr.mono fun e w'' ⟨v,he,hk⟩=>⟨v,he,h _ _ hk⟩
 | halt x w'=>simp only [MZ] at hr
theorem uY {P:Program} {o:Oper} {a:Act} {w:World} {K K':Value→World→Prop} (h:∀ v w,K v w→K' v w) (hh:opw P o a w K):opw P o a w K' :=
 JQ h hh
theorem eu_ {P:Program} {r:Option Nat} {n l:Nat} {f:FuncId} {tmps:Array Value} {assign body:Code} {w:World} {R:Ending→World→Prop} (h:RoundIn Fence.wide 0 P l f tmps assign body w R) :
 RoundIn (rI r) n P l f tmps assign body w R:=⟨trivial,fun c cs _=>h.2 c cs (fun _ e=>by cases e)⟩
theorem OQ {P:Program} {o:Oper} {a:Act} {w:World} {K:Value→World→Prop} (hh:opw P o a w K):∀ c,o.op ≠ .defer c:=by
 intro c hc;unfold opw execOp at hh;rw [hc] at hh;simp only [Sem.run_bind] at hh
 cases hr:(resolve a.eval c o.type).run P w with
 | ok d w'=>rw [hr] at hh;simp [Result.andThen,MZ] at hh
 | halt x w'=>rw [hr] at hh;simp [Result.andThen,MZ] at hh
theorem vC {P:Program} {r:Option Nat} {n:Nat} {o:Oper} {a:Act} {w:World} {K:Value→World→Prop} {K':Act→World→Prop} {Q:Exit→Act→World→Prop}
  (h:∀ v w',K v w'→K' (a.put o.dst v) w') (hh:opw P o a w K):o.wpIn (rI r) n P a w K' Q:=by
 refine ⟨fun _ _=>trivial,?_⟩;rw [Oper.semAt_eq _ _ _ (OQ hh)];unfold opw at hh;unfold Oper.uponIn;generalize (execOp a.eval o).run P w=r at *
 cases r with
 | ok n w' =>
  cases n<;>simp only [MZ] at hh<;>simp only
  case value=>exact h _ _ hh
  case skip=>exact h _ _ hh
  case enter f args=>exact ⟨fun e=>(by cases e),CallsIn.mono (F:=rI _) (callsIn_wide.2 hh) fun e w'' ⟨v,he,hk⟩=>by subst he;exact h _ _ hk⟩
  case round=>exact ⟨fun e=>(by cases e),RoundIn.mono (eu_ hh) fun e w'' ⟨v,he,hk⟩=>by subst he;exact h _ _ hk⟩
 | halt x w'=>simp only [MZ] at hh
section any
variable (P:Program) (ops:Array Oper) (nw:List Nat)
def DS (D:Cls) (Q:Act→Cls→Prop):Nat→Array Bool→Act→Cls→Prop
 | 0,listed,a,C=>Region.ready .any ops listed=[]∧Q a C
 | fuel+1,listed,a,C=>(Region.ready .any ops listed=[]→Q a C) ∧
  ∀ j∈Region.ready .any ops listed,∀ o,ops[j]? = some o →
   if Region.wanted o (yielded ops a.tmps) then
    ∀ w,C w→opw P o a w fun v w'=>∃ C',zO C'∧C' w'∧(nw.contains j=true→∀ x,C' x→C x)∧(∀ x,C' x→D x) ∧
     DS D Q fuel (listed.setIfInBounds j true) (a.put o.dst v) C'
   else DS D Q fuel (listed.setIfInBounds j true) (a.put o.dst undef) C
end any
section any
variable {P:Program} {ops:Array Oper} {nw:List Nat} {D:Cls}
theorem uM {r:Option Nat} {n:Nat} {Q:Act→Cls→Prop} {Q':Exit→Act→World→Prop} (hQ:∀ a C w,C w→Q a C→Q' .normal a w) :
  ∀ (fuel:Nat) (listed:Array Bool) (a:Act) (C:Cls) (w:World),C w→DS P ops nw D Q fuel listed a C→wpAnyIn (rI r) n P .any ops Q' fuel listed a w
 | 0,_,_,_,_,hw,h=>⟨h.1,hQ _ _ _ hw h.2⟩
 | fuel+1,listed,a,C,w,hw,h=>by
  refine ⟨fun h0=>hQ _ _ _ hw (h.1 h0),fun i hi=>?_⟩;have h1:=h.2 i hi;unfold wpOpIn
  split
  ·rename_i ho
   obtain ⟨_,o,ho',_⟩:=mem_ready.1 hi;rw [ho'] at ho;cases ho
  rename_i o ho
  have h2:=h1 o ho
  split
  ·rename_i hwt
   rw [if_pos hwt] at h2;exact vC (fun v w' ⟨C',_,hc',_,_,hk⟩=>uM hQ fuel _ _ C' w' hc' hk) (h2 w hw)
  rename_i hwt
  rw [if_neg hwt] at h2;exact ⟨fun _ _=>trivial,uM hQ fuel _ _ C w hw h2⟩
def YQ (P:Program) (ops:Array Oper) (C:Cls) (o:Oper) (v:Value) (a:Act):Prop :=
 (Region.wanted o (yielded ops a.tmps)=true∧∀ w,C w→opw P o a w fun u w'=>u=v∧Ext w w') ∨
 (Region.wanted o (yielded ops a.tmps)=false∧v=undef)
theorem YQ.move {C C':Cls} {o oj:Oper} {v u:Value} {a:Act} (hy:YQ P ops C o v a) (hs:∀ cs b,o.op ≠ .select cs b)
  (h3:∀ d,oj.dst=some d→d ∉ o.looksAt ops) (hC:∀ x,C' x→C x):YQ P ops C' o v (a.put oj.dst u):=by
 rcases hy with ⟨h1,h2⟩|⟨h1,h2⟩
 ·refine .inl ⟨by rw [wanted_put o a oj.dst u h3];exact h1,fun w hw=>?_⟩
  have:=h2 w (hC w hw);unfold opw at *;rw [execOp_put o hs a oj.dst u h3];exact this
 exact .inr ⟨by rw [wanted_put o a oj.dst u h3];exact h1,h2⟩
theorem YQ.sub {C C':Cls} {o:Oper} {v:Value} {a:Act} (hy:YQ P ops C o v a) (hC:∀ x,C' x→C x):YQ P ops C' o v a:=by
 rcases hy with ⟨h1,h2⟩|h
 ·exact .inl ⟨h1,fun w hw=>h2 w (hC w hw)⟩
 exact .inr h
theorem IE {Q:Act→Cls→Prop} {i:Nat} {oi:Oper} {v:Value} {fuel:Nat} {listed:Array Bool} {a:Act} {C:Cls}
  (hi:ops[i]? = some oi) (hm:zO C) (hCD:∀ x,C x→D x) (hy:YQ P ops C oi v a) (H:DS P ops nw D Q fuel (listed.setIfInBounds i true) (a.put oi.dst v) C) :
  ∀ o,ops[i]? = some o→if Region.wanted o (yielded ops a.tmps) then
    ∀ w,C w→opw P o a w fun v w'=>∃ C',zO C'∧C' w'∧(nw.contains i=true→∀ x,C' x→C x)∧(∀ x,C' x→D x) ∧
     DS P ops nw D Q fuel (listed.setIfInBounds i true) (a.put o.dst v) C'
   else DS P ops nw D Q fuel (listed.setIfInBounds i true) (a.put o.dst undef) C:=by
 intro o ho;rw [hi] at ho;cases ho;rcases hy with ⟨h1,h2⟩|⟨h1,rfl⟩
 ·rw [if_pos h1]
  intro w hw;exact uY (fun u w' ⟨hu,he⟩=>by subst hu;exact ⟨C,hm,hm _ _ hw he,fun _ _ h=>h,hCD,H⟩) (h2 w hw)
 rw [if_neg (by simp [h1])];exact H
theorem E4 {Q:Act→Cls→Prop} {i:Nat} {oi:Oper} {v:Value} {Ws:List Nat} {E:Cls} (still:Bool) (hDE:still=true→∀ x,D x→E x) (hi:ops[i]? = some oi)
  (hsel:∀ (j:Nat) (o:Oper) cs b,ops[j]? = some o→o.op ≠ .select cs b)
  (hWs:∀ j∈Ws,∃ oj,ops[j]? = some oj∧∃ e∈oj.after,Region.binds .any e=true∧(e.on=i∨e.on∈Ws)) :
  ∀ (fuel:Nat) (listed:Array Bool) (a:Act) (C:Cls),zO C→(∀ x,C x→D x)→(∀ x,C x→E x) →
   (∀ j∈Ws,listed.getD j false=false) →
   (∀ j oj,ops[j]? = some oj→j≠i→listed.getD j true=false→j ∉ Ws→oi.apart ops oj=true∧(nw.contains j=true∨still=true)) →
   i∈Region.ready .any ops listed→YQ P ops E oi v a →
   DS P ops nw D Q fuel (listed.setIfInBounds i true) (a.put oi.dst v) C→DS P ops nw D Q (fuel+1) listed a C:=by
 intro fuel
 induction fuel with
 | zero =>
  intro listed a C hm hCD hCE _ _ hr hy H;refine ⟨fun h=>(by rw [h] at hr;cases hr),fun j hj=>?_⟩
  by_cases hji:j=i
  ·subst hji;exact IE hi hm hCD (hy.sub hCE) H
  have:=ready_mono hj hji;rw [H.1] at this
  cases this
 | succ fuel ih =>
  intro listed a C hm hCD hCE hW hfree hr hy H;refine ⟨fun h=>(by rw [h] at hr;cases hr),fun j hj=>?_⟩
  by_cases hji:j=i
  ·subst hji;exact IE hi hm hCD (hy.sub hCE) H
  obtain ⟨hjun,oj,hoj,hall⟩:=mem_ready.1 hj
  have hiun:listed.getD i false=false:=by
   have h0:=(mem_ready.1 hr).1;rcases Nat.lt_or_ge i listed.size with h'|h'
   ·simpa [h'] using h0
   simp [Array.getElem?_eq_none h']
  have hjW:j ∉ Ws:=fun hjw=>by
   obtain ⟨oj',hoj',e,he,hb,hon⟩:=hWs j hjw;rw [hoj] at hoj';cases hoj';have h1:=hall e he hb;rcases hon with hon|hon
   ·rw [hon,hiun] at h1;cases h1
   rw [hW _ hon] at h1;cases h1
  obtain ⟨hap,hnw⟩:=hfree j oj hoj hji hjun hjW;obtain ⟨h1,h2,h3⟩:=Oper.apart_spec hap;intro o ho;rw [hoj] at ho;cases ho;have hH:=H.2 j (ready_mono hj hji) oj hoj;rw [wanted_put oj a oi.dst v h1] at hH
  have hfree':∀ k ok,ops[k]? = some ok→k≠i→(listed.setIfInBounds j true).getD k true=false→k ∉ Ws→oi.apart ops ok=true∧(nw.contains k=true∨still=true):=fun k ok hk hki hun hno=>by
   refine hfree k ok hk hki ?_ hno
   by_cases hjk:j=k
   ·subst hjk;exact hjun
   rw [getD_set_ne true hjk] at hun;exact hun
  have hW':∀ k∈Ws,(listed.setIfInBounds j true).getD k false=false:=fun k hk=>by
   rw [getD_set_ne false (fun e:j=k=>hjW (by rw [e];exact hk))];exact hW k hk
  split
  ·rename_i hwt
   rw [if_pos hwt] at hH;intro w hw;have:=hH w hw;unfold opw at *;rw [execOp_put oj (fun cs b=>hsel j oj cs b hoj) a oi.dst v h1] at this;refine JQ ?_ this;rintro u w' ⟨C',hm',hc',hsub,hsd,hk⟩;refine ⟨C',hm',hc',hsub,hsd,?_⟩
   have hE':∀ x,C' x→E x:=fun x hx=>by
    rcases hnw with h|h
    ·exact hCE x (hsub h x hx)
    exact hDE h x (hsd x hx)
   refine ih _ _ _ hm' hsd hE' hW' hfree' (ready_mono hr (Ne.symm hji)) (hy.move (fun cs b=>hsel i oi cs b hi) h3 (fun _ h=>h)) ?_;rw [Array.setIfInBounds_comm _ _ hji,Act.put_comm _ u v (fun d hd he=>h2 d he hd)];exact hk
  rename_i hwt
  rw [if_neg hwt] at hH;refine ih _ _ _ hm hCD hCE hW' hfree' (ready_mono hr (Ne.symm hji)) (hy.move (fun cs b=>hsel i oi cs b hi) h3 (fun _ h=>h)) ?_;rw [Array.setIfInBounds_comm _ _ hji,Act.put_comm _ undef v (fun d hd he=>h2 d he hd)];exact hH
end any
inductive Plan where
 | fin
 /-- a quiet operation, taken first; 'ws': the operations that wait for it, directly or not -/
 | quiet (i:Nat) (ws:List Nat) (rest:Plan)
 /-- the one operation that is ready -/
 | only (i:Nat) (rest:Plan)
 /-- like 'quiet', and it looks at nothing that the region writes -/
 | still (i:Nat) (ws:List Nat) (rest:Plan)
 | both (i:Nat) (r:Plan) (j:Nat) (s:Plan)
 | tri (i:Nat) (r:Plan) (j:Nat) (s:Plan) (k:Nat) (t:Plan)
def Plan.run (P:Program) (ops:Array Oper) (nw:List Nat) (D:Cls) (Q:Act→Cls→Prop):Plan→Act→Cls→Prop
 | .fin,a,C=>Q a C
 | .still i _ r,a,C=>∃ o v,ops[i]? = some o∧YQ P ops D o v a∧Plan.run P ops nw D Q r (a.put o.dst v) C
 | .quiet i _ r,a,C=>∃ o v,ops[i]? = some o∧YQ P ops C o v a∧Plan.run P ops nw D Q r (a.put o.dst v) C
 | .only i r,a,C=>∀ o,ops[i]? = some o→if Region.wanted o (yielded ops a.tmps) then
   ∀ w,C w→opw P o a w fun v w'=>∃ C',zO C'∧C' w'∧(nw.contains i=true→∀ x,C' x→C x)∧(∀ x,C' x→D x)∧Plan.run P ops nw D Q r (a.put o.dst v) C'
  else Plan.run P ops nw D Q r (a.put o.dst undef) C
 | .both i r j s,a,C=>(∀ o,ops[i]? = some o→if Region.wanted o (yielded ops a.tmps) then
   ∀ w,C w→opw P o a w fun v w'=>∃ C',zO C'∧C' w'∧(nw.contains i=true→∀ x,C' x→C x)∧(∀ x,C' x→D x)∧Plan.run P ops nw D Q r (a.put o.dst v) C'
  else Plan.run P ops nw D Q r (a.put o.dst undef) C)∧(∀ o,ops[j]? = some o→if Region.wanted o (yielded ops a.tmps) then
   ∀ w,C w→opw P o a w fun v w'=>∃ C',zO C'∧C' w'∧(nw.contains j=true→∀ x,C' x→C x)∧(∀ x,C' x→D x)∧Plan.run P ops nw D Q s (a.put o.dst v) C'
  else Plan.run P ops nw D Q s (a.put o.dst undef) C)
 | .tri i r j s k t,a,C=>(∀ o,ops[i]? = some o→if Region.wanted o (yielded ops a.tmps) then
   ∀ w,C w→opw P o a w fun v w'=>∃ C',zO C'∧C' w'∧(nw.contains i=true→∀ x,C' x→C x)∧(∀ x,C' x→D x)∧Plan.run P ops nw D Q r (a.put o.dst v) C'
  else Plan.run P ops nw D Q r (a.put o.dst undef) C)∧(∀ o,ops[j]? = some o→if Region.wanted o (yielded ops a.tmps) then
   ∀ w,C w→opw P o a w fun v w'=>∃ C',zO C'∧C' w'∧(nw.contains j=true→∀ x,C' x→C x)∧(∀ x,C' x→D x)∧Plan.run P ops nw D Q s (a.put o.dst v) C'
  else Plan.run P ops nw D Q s (a.put o.dst undef) C)∧(∀ o,ops[k]? = some o→if Region.wanted o (yielded ops a.tmps) then
   ∀ w,C w→opw P o a w fun v w'=>∃ C',zO C'∧C' w'∧(nw.contains k=true→∀ x,C' x→C x)∧(∀ x,C' x→D x)∧Plan.run P ops nw D Q t (a.put o.dst v) C'
  else Plan.run P ops nw D Q t (a.put o.dst undef) C)
def EP (ops:Array Oper) (nw:List Nat) (still:Bool) (listed:Array Bool) (i:Nat) (ws:List Nat):Bool :=
 match ops[i]? with
 | none=>false
 | some oi =>
  (Region.ready .any ops listed).contains i &&
  ws.all (fun j=>!listed.getD j false&&(match ops[j]? with|some oj=>oj.after.any (fun e=>Region.binds .any e&&(e.on==i||ws.contains e.on))|none=>false)) &&
  (List.range ops.size).all fun j=>j==i||listed.getD j true||ws.contains j||((nw.contains j||still)&&(match ops[j]? with|some oj=>oi.apart ops oj|none=>true))
def Plan.ok (ops:Array Oper) (nw:List Nat):Nat→Array Bool→Plan→Bool
 | _,listed,.fin=>(Region.ready .any ops listed).isEmpty
 | 0,_,_=>false
 | fuel+1,listed,.still i ws r=>EP ops nw true listed i ws&&Plan.ok ops nw fuel (listed.setIfInBounds i true) r
 | fuel+1,listed,.quiet i ws r=>EP ops nw false listed i ws&&Plan.ok ops nw fuel (listed.setIfInBounds i true) r
 | fuel+1,listed,.only i r=>(Region.ready .any ops listed)==[i]&&Plan.ok ops nw fuel (listed.setIfInBounds i true) r
 | fuel+1,listed,.both i r j s=>(Region.ready .any ops listed)==[i,j]&&Plan.ok ops nw fuel (listed.setIfInBounds i true) r&&Plan.ok ops nw fuel (listed.setIfInBounds j true) s
 | fuel+1,listed,.tri i r j s k t=>(Region.ready .any ops listed)==[i,j,k]&&Plan.ok ops nw fuel (listed.setIfInBounds i true) r&&Plan.ok ops nw fuel (listed.setIfInBounds j true) s&&Plan.ok ops nw fuel (listed.setIfInBounds k true) t
theorem NG {P:Program} {ops:Array Oper} {nw:List Nat} {D:Cls} {Q:Act→Cls→Prop} {fuel:Nat} {listed:Array Bool} {a:Act} {C:Cls}
  (h:Region.ready .any ops listed=[]) (hq:Q a C):DS P ops nw D Q fuel listed a C:=by
 cases fuel with
 | zero=>exact ⟨h,hq⟩
 | succ n=>exact ⟨fun _=>hq,fun j hj=>by rw [h] at hj;cases hj⟩
theorem Plan.sound {P:Program} {ops:Array Oper} {nw:List Nat} {D:Cls} {Q:Act→Cls→Prop} (hs:Region.noSelect ops=true) :
  ∀ (fuel:Nat) (p:Plan) (listed:Array Bool) (a:Act) (C:Cls),Plan.ok ops nw fuel listed p=true→zO C→(∀ x,C x→D x)→Plan.run P ops nw D Q p a C→DS P ops nw D Q fuel listed a C:=by
 intro fuel
 induction fuel with
 | zero =>
  intro p listed a C hok hm hCD hr
  cases p<;>simp only [Plan.ok,Bool.false_eq_true] at hok
  exact NG (by simpa using hok) hr
 | succ fuel ih =>
  intro p listed a C hok hm hCD hr;have step:∀ (i:Nat) (r:Plan),Plan.ok ops nw fuel (listed.setIfInBounds i true) r=true →
    (∀ o,ops[i]? = some o→if Region.wanted o (yielded ops a.tmps) then
    ∀ w,C w→opw P o a w fun v w'=>∃ C',zO C'∧C' w'∧(nw.contains i=true→∀ x,C' x→C x)∧(∀ x,C' x→D x)∧Plan.run P ops nw D Q r (a.put o.dst v) C'
   else Plan.run P ops nw D Q r (a.put o.dst undef) C)→∀ o,ops[i]? = some o→if Region.wanted o (yielded ops a.tmps) then
    ∀ w,C w→opw P o a w fun v w'=>∃ C',zO C'∧C' w'∧(nw.contains i=true→∀ x,C' x→C x)∧(∀ x,C' x→D x) ∧
     DS P ops nw D Q fuel (listed.setIfInBounds i true) (a.put o.dst v) C'
   else DS P ops nw D Q fuel (listed.setIfInBounds i true) (a.put o.dst undef) C:=by
   intro i r hk h o ho;have h1:=h o ho
   split
   ·rename_i hwt
    rw [if_pos hwt] at h1;intro w hw;exact uY (fun v w' ⟨C',hm',hc,hsub,hsd,hrun⟩=>⟨C',hm',hc,hsub,hsd,ih r _ _ _ hk hm' hsd hrun⟩) (h1 w hw)
   rename_i hwt
   rw [if_neg hwt] at h1;exact ih r _ _ _ hk hm hCD h1
  cases p with
  | fin=>simp only [Plan.ok] at hok;exact NG (by simpa using hok) hr
  | quiet i ws r =>
   simp only [Plan.ok,Bool.and_eq_true] at hok;obtain ⟨hq,hok'⟩:=hok;obtain ⟨o,v,ho,hy,hrun⟩:=hr;unfold EP at hq;simp only [ho,Bool.and_eq_true] at hq;obtain ⟨⟨hready,hws⟩,hrest⟩:=hq;simp only [List.all_eq_true,Bool.and_eq_true] at hws;refine E4 (Ws:=ws) (E:=C) false (fun h=>by cases h) ho (Region.noSelect_spec hs) (fun j hj=>?_) fuel listed a C hm hCD (fun _ h=>h) (fun j hj=>?_) (fun j oj hoj hji hun hno=>?_) (by simpa using hready) hy (ih r _ _ _ hok' hm hCD hrun)
   ·have h2:=(hws j hj).2
    cases hoj:ops[j]? with
    | none=>simp [hoj] at h2
    | some oj =>
     simp only [hoj,Array.any_eq_true'] at h2;obtain ⟨e,he,hb⟩:=h2;simp only [Bool.and_eq_true,Bool.or_eq_true,beq_iff_eq,List.contains_iff_mem] at hb;exact ⟨oj,rfl,e,he,hb.1,hb.2⟩
   ·simpa using (hws j hj).1
   simp only [List.all_eq_true,List.mem_range] at hrest;have hlt:j<ops.size:=(Array.getElem?_eq_some_iff.1 hoj).1;have h3:=hrest j hlt;simp only [Bool.or_eq_true,beq_iff_eq,Bool.and_eq_true,hoj,List.contains_iff_mem] at h3;rcases h3 with ((h3|h3)|h3)|h3
   ·exact absurd h3 hji
   ·rw [hun] at h3;cases h3
   ·exact absurd h3 hno
   exact ⟨h3.2,by simpa using h3.1⟩
  | still i ws r =>
   simp only [Plan.ok,Bool.and_eq_true] at hok;obtain ⟨hq,hok'⟩:=hok;obtain ⟨o,v,ho,hy,hrun⟩:=hr;unfold EP at hq;simp only [ho,Bool.and_eq_true] at hq;obtain ⟨⟨hready,hws⟩,hrest⟩:=hq;simp only [List.all_eq_true,Bool.and_eq_true] at hws;refine E4 (Ws:=ws) (E:=D) true (fun _ _ h=>h) ho (Region.noSelect_spec hs) (fun j hj=>?_) fuel listed a C hm hCD hCD (fun j hj=>?_) (fun j oj hoj hji hun hno=>?_) (by simpa using hready) hy (ih r _ _ _ hok' hm hCD hrun)
   ·have h2:=(hws j hj).2
    cases hoj:ops[j]? with
    | none=>simp [hoj] at h2
    | some oj =>
     simp only [hoj,Array.any_eq_true'] at h2;obtain ⟨e,he,hb⟩:=h2;simp only [Bool.and_eq_true,Bool.or_eq_true,beq_iff_eq,List.contains_iff_mem] at hb;exact ⟨oj,rfl,e,he,hb.1,hb.2⟩
   ·simpa using (hws j hj).1
   simp only [List.all_eq_true,List.mem_range] at hrest;have hlt:j<ops.size:=(Array.getElem?_eq_some_iff.1 hoj).1;have h3:=hrest j hlt;simp only [Bool.or_eq_true,beq_iff_eq,Bool.and_eq_true,hoj,List.contains_iff_mem] at h3;rcases h3 with ((h3|h3)|h3)|h3
   ·exact absurd h3 hji
   ·rw [hun] at h3;cases h3
   ·exact absurd h3 hno
   exact ⟨h3.2,.inr O⟩
  | only i r =>
   simp only [Plan.ok,Bool.and_eq_true,beq_iff_eq] at hok;refine ⟨fun h=>(by rw [hok.1] at h;cases h),fun j hj=>?_⟩;rw [hok.1] at hj
   obtain rfl:j=i:=by simpa using hj
   exact step j r hok.2 hr
  | both i r j s =>
   simp only [Plan.ok,Bool.and_eq_true,beq_iff_eq] at hok;refine ⟨fun h=>(by rw [hok.1.1] at h;cases h),fun k hk=>?_⟩;rw [hok.1.1] at hk
   have:k=i∨k=j:=by simpa using hk
   rcases this with rfl|rfl
   ·exact step k r hok.1.2 hr.1
   exact step k s hok.2 hr.2
  | tri i r j s m t =>
   simp only [Plan.ok,Bool.and_eq_true,beq_iff_eq] at hok;refine ⟨fun h=>(by rw [hok.1.1.1] at h;cases h),fun k hk=>?_⟩;rw [hok.1.1.1] at hk
   have:k=i∨k=j∨k=m:=by simpa using hk
   rcases this with rfl|rfl|rfl
   ·exact step k r hok.1.1.2 hr.1
   ·exact step k s hok.1.2 hr.2.1
   exact step k t hok.2 hr.2.2
open Go.RowKit
structure Blk where
 b:Nat
 T:TypeId
 cs:List Value
structure Sat (w0:World) (X:List Nat) (M:List Blk) (w:World):Prop where
 os:w.os=w0.os
 tape:w.tape=w0.tape
 output:w.output=w0.output
 size:w0.heap.size≤w.heap.size
 old:∀ k,k<w0.heap.size→k ∉ X→w.heap[k]? = w0.heap[k]?
 nodup:(M.map Blk.b).Nodup
 mem:∀ x∈M,w.heap[x.b]? = some (.cells x.cs.toArray x.T (0,0))
theorem cL? {α:Type} {a:Array α} {i:Nat} {x:α} (h:a[i]? = some x):i<a.size:=(Array.getElem?_eq_some_iff.1 h).1
theorem Sat.mono (w0:World) (X:List Nat) (M:List Blk):zO (Sat w0 X M):=fun w w' h he=>by
 have he':Below w.heap.size w w':=he
 exact ⟨he'.os.trans h.os,he'.tape.trans h.tape,he'.output.trans h.output,Nat.le_trans h.size he'.size,
  fun k hk hx=>(he'.block k (Nat.lt_of_lt_of_le hk h.size)).trans (h.old k hk hx),h.nodup,
  fun x hx=>(he'.block x.b (cL? (h.mem x hx))).trans (h.mem x hx)⟩
theorem Sat.start (w:World) (X:List Nat):Sat w X [] w:=⟨rfl,rfl,rfl,Nat.le_refl _,fun _ _ _=>rfl,List.nodup_nil,fun x hx=>(by cases hx)⟩
theorem Sat.ext {w0 w:World} {M:List Blk} (h:Sat w0 [] M w):Ext w0 w :=
 ⟨h.os,h.tape,h.output,h.size,fun k hk=>h.old k hk (by simp)⟩
theorem Sat.sub {w0:World} {X:List Nat} {M M':List Blk} (hs:M'.Sublist M) {w:World} (h:Sat w0 X M w):Sat w0 X M' w :=
 ⟨h.os,h.tape,h.output,h.size,h.old,(hs.map Blk.b).nodup h.nodup,fun x hx=>h.mem x (hs.mem hx)⟩
theorem Sat.alloc {w0:World} {X:List Nat} {M:List Blk} {w:World} (h:Sat w0 X M w) (T:TypeId) (cs:List Value) :
  Sat w0 X (⟨w.heap.size,T,cs⟩::M) (w.alloc (.cells cs.toArray T)):=by
 refine ⟨h.os,h.tape,h.output,by simp;have:=h.size;omega,fun k hk hx=>?_,?_,fun x hx=>?_⟩
 ·rw [Below.heap_alloc _ _ _ (Nat.lt_of_lt_of_le hk h.size)];exact h.old k hk hx
 ·simp only [List.map_cons,List.nodup_cons]
  refine ⟨fun hm=>?_,h.nodup⟩;obtain ⟨y,hy,he⟩:=List.mem_map.1 hm;have:=cL? (h.mem y hy);omega
 rcases List.mem_cons.1 hx with rfl|hx
 ·show (w.heap.push _)[w.heap.size]? = _
  simp
 rw [Below.heap_alloc _ _ _ (cL? (h.mem x hx))];exact h.mem x hx
inductive Upd (b:Nat) (T:TypeId) (cs cs':List Value):List Blk→List Blk→Prop where
 | head (M:List Blk):Upd b T cs cs' (⟨b,T,cs⟩::M) (⟨b,T,cs'⟩::M)
 | tail (x:Blk) {M M':List Blk} (h:Upd b T cs cs' M M'):Upd b T cs cs' (x::M) (x::M')
theorem Upd.mem {b:Nat} {T:TypeId} {cs cs':List Value} {M M':List Blk} (h:Upd b T cs cs' M M'):(⟨b,T,cs⟩:Blk)∈M:=by
 induction h with
 | head=>exact List.mem_cons_self
 | tail x _ ih=>exact List.mem_cons_of_mem _ ih
theorem Upd.names {b:Nat} {T:TypeId} {cs cs':List Value} {M M':List Blk} (h:Upd b T cs cs' M M'):M'.map Blk.b=M.map Blk.b:=by
 induction h with
 | head=>rfl
 | tail x _ ih=>simp [ih]
theorem Upd.new {b:Nat} {T:TypeId} {cs cs':List Value} {M M':List Blk} (h:Upd b T cs cs' M M') (hn:(M.map Blk.b).Nodup) :
  ∀ x∈M',x=⟨b,T,cs'⟩ ∨ (x∈M∧x.b≠b):=by
 induction h with
 | head M =>
  intro x hx;rcases List.mem_cons.1 hx with rfl|hx
  ·exact .inl O
  refine .inr ⟨List.mem_cons_of_mem _ hx,fun e=>?_⟩;simp only [List.map_cons,List.nodup_cons] at hn;exact hn.1 (e ▸ List.mem_map_of_mem (f:=Blk.b) hx)
 | tail y h ih =>
  intro x hx;simp only [List.map_cons,List.nodup_cons] at hn;rcases List.mem_cons.1 hx with rfl|hx
  ·refine .inr ⟨List.mem_cons_self,fun e=>hn.1 ?_⟩
   rw [e];exact List.mem_map_of_mem (f:=Blk.b) h.mem
  rcases ih hn.2 x hx with h1|⟨h1,h2⟩
  ·exact .inl h1
  exact .inr ⟨List.mem_cons_of_mem _ h1,h2⟩
theorem Sat.set {w0:World} {X:List Nat} {M M':List Blk} {w:World} {b:Nat} {T:TypeId} {cs cs':List Value} (h:Sat w0 X M w) (hu:Upd b T cs cs' M M')
  (hb:w0.heap.size≤b∨b∈X):Sat w0 X M' (w.setRow b cs'.toArray):=by
 have hheap:∀ k,k≠b→(w.setRow b cs'.toArray).heap[k]? = w.heap[k]?:=fun k hk=>by
  simp only [World.setRow,Array.getElem?_modify];rw [if_neg (by omega)]
 refine ⟨h.os,h.tape,h.output,?_,fun k hk hx=>?_,by rw [hu.names];exact h.nodup,fun x hx=>?_⟩
 ·simp only [World.setRow,Array.size_modify];exact h.size
 ·rw [hheap k (fun e=>by subst e;rcases hb with hb|hb;omega;exact hx hb)];exact h.old k hk hx
 rcases hu.new h.nodup x hx with rfl|⟨h1,h2⟩
 ·exact setRow_heap w b cs.toArray cs'.toArray T _ (h.mem _ hu.mem)
 rw [hheap _ h2];exact h.mem x h1
abbrev Fr:=List (Nat×Value)
def DF:Fr→Nat→Option Value
 | [],_=>some undef
 | (j,v)::l,i=>bif Nat.beq j i then some v else DF l i
def look (S:Fr) (i:Nat):Value:=(DF S i).getD undef
inductive Mode where
 | plain
 | iter (l:Nat) (ρ:Loop)
 | round (l:Nat) (ρ:Loop) (st:LoopState)
 | held (T:List Nat) (f:Value→List Obj)
structure Nm where
 n:Nat
 m:Mode
abbrev pl (n:Nat):Nm:=⟨n,.plain⟩
def Nm.ro (N:Nm):Option Nat:=match N.m with
 | .round l _ _=>some l
 | _=>none
def kJ (D:List Deferred) (N:Nm) (S:Fr):Act:=⟨((List.range N.n).map (look S)).toArray,D⟩
def act (N:Nm) (S:Fr):Act:=kJ [] N S
def ev (N:Nm) (S:Fr):Operand→Value
 | .tmp t=>bif Nat.blt t N.n then look S t else undef
 | .const v=>v
 | .global g=>.pointer (some ⟨g,0,none⟩)
 | .func f=>.func (.func f) #[] #[]
def evO (N:Nm) (S:Fr):Operand→Option Value
 | .tmp t=>bif Nat.blt t N.n then DF S t else none
 | .const v=>some v
 | .global g=>some (.pointer (some ⟨g,0,none⟩))
 | .func f=>some (.func (.func f) #[] #[])
theorem aZ {N:Nm} {S:Fr} {x:Operand} {v:Value} (h:evO N S x=some v):ev N S x=v:=by
 cases x with
 | tmp t =>
  simp only [evO,ev] at *
  cases hb:Nat.blt t N.n
  ·rw [hb] at h;cases h
  rw [hb] at h;simp only [cond_true] at *;simp [look,h]
 | _=>simp only [evO,ev] at *;cases h;rfl
def evL (N:Nm) (S:Fr):List Operand→Option (List Value)
 | []=>some []
 | x::xs=>match evO N S x,evL N S xs with
  | some v,some vs=>some (v::vs)
  | _,_=>none
theorem pB {N:Nm} {S:Fr}:∀ {xs:List Operand} {vs:List Value},evL N S xs=some vs→xs.map (ev N S)=vs
 | [],_,h=>by simp only [evL] at h;cases h;rfl
 | x::xs,vs,h=>by
  simp only [evL] at h
  split at h
  ·rename_i v ws hv hw
   cases h
   simp [aZ hv,pB hw]
  ·cases h
def lN (S:Fr):Option Tmp→Value→Fr
 | none,_=>S
 | some d,v=>(d,v)::S
theorem yN (D:List Deferred) (N:Nm) (S:Fr):(kJ D N S).eval=ev N S:=by
 funext x
 cases x with
 | tmp t =>
  simp only [Act.eval,kJ,ev]
  by_cases h:t<N.n
  ·have:Nat.blt t N.n=true:=by simp [Nat.blt_eq,h]
   simp [this,h]
  have:Nat.blt t N.n=false:=by rw [← Bool.not_eq_true];simp [Nat.blt_eq,h]
  simp [this,h]
 | _=>rfl
theorem gT (N:Nm) (S:Fr):(act N S).eval=ev N S:=yN [] N S
theorem VG {P:Program} {o:Oper} {N:Nm} {S:Fr} {w:World} {K:Value→World→Prop} (D:List Deferred):opw P o (act N S) w K=opw P o (kJ D N S) w K:=by
 unfold opw;rw [gT,yN]
theorem oX (d:Nat) (v:Value) (S:Fr) (i:Nat):look ((d,v)::S) i=if d=i then v else look S i:=by
 simp only [look,DF]
 by_cases h:d=i
 ·subst h;simp
 have:Nat.beq d i=false:=by rw [← Bool.not_eq_true];simp [Nat.beq_eq,h]
 simp [this,h]
theorem QD {D:List Deferred} {N:Nm} {S S':Fr} (h:∀ i,look S i=look S' i):kJ D N S=kJ D N S':=by
 unfold kJ;rw [List.map_congr_left (fun i _=>h i)]
theorem m7 (D:List Deferred) (N:Nm) (S:Fr) (d:Option Tmp) (v:Value):(kJ D N S).put d v=kJ D N (lN S d v):=by
 cases d with
 | none=>rfl
 | some d =>
  simp only [Act.put,kJ,lN,List.setIfInBounds_toArray]
  congr 2
  apply List.ext_getElem?
  intro i;simp only [List.getElem?_set,List.getElem?_map,List.length_map,List.length_range]
  by_cases h:d=i
  ·subst h
   by_cases hd:d<N.n
   ·simp [hd,oX]
   simp [hd]
  rw [if_neg h]
  by_cases hi:i<N.n
  ·simp [hi,oX,h]
  simp [hi]
theorem a3_ (N:Nm) (S:Fr) (d:Option Tmp) (v:Value):(act N S).put d v=act N (lN S d v):=m7 [] N S d v
def yld (N:Nm) (ops:List Oper) (S:Fr) (j:Nat):Option Bool :=
 match (ops[j]?).bind (·.dst) with
 | some d=>bif Nat.blt d N.n then (match DF S d with|some (.bool b)=>some b|_=>none) else none
 | none=>none
theorem Q9 (S:Fr) (i:Nat):DF S i=some (look S i):=by
 induction S with
 | nil=>rfl
 | cons p l ih =>
  obtain ⟨j,v⟩:=p;simp only [DF,look]
  cases Nat.beq j i
  ·simpa [look] using ih
  rfl
theorem nU (D:List Deferred) (N:Nm) (ops:List Oper) (S:Fr):yielded ops.toArray (kJ D N S).tmps=yld N ops S:=by
 funext j
 simp only [yielded,yld,kJ,List.getElem?_toArray]
 cases (ops[j]?).bind (·.dst) with
 | none=>rfl
 | some d =>
  simp only [Option.bind_some,List.getElem?_map]
  by_cases h:d<N.n
  ·have hb:Nat.blt d N.n=true:=by simp [Nat.blt_eq,h]
   simp only [hb,cond_true,Q9]
   simp [h]
   rfl
  have hb:Nat.blt d N.n=false:=by rw [← Bool.not_eq_true];simp [Nat.blt_eq,h]
  simp [hb,h]
def okD:Option Tmp→Bool
 | none=>true
 | some d=>Nat.blt d 1000000
def gv (S:Fr):Value:=look S 1000000
def gst (S:Fr):Bool:=match gv S with
 | .bool false=>true
 | _=>false
theorem yV {S:Fr} {d:Option Tmp} {v:Value} (h:okD d=true):gv (lN S d v)=gv S:=by
 cases d with
 | none=>rfl
 | some d =>
  have hd:d<1000000:=by simpa [okD,Nat.blt_eq] using h
  have hb:Nat.beq d 1000000=false:=by
   rw [← Bool.not_eq_true];intro e;have he:d=1000000:=Nat.eq_of_beq_eq_true e;rw [he] at hd;exact Nat.lt_irrefl _ hd
  show ((bif Nat.beq d 1000000 then some v else DF S 1000000).getD undef:Value)=_
  rw [hb];rfl
theorem YK {S S':Fr} (h:gv S=gv S'):gst S=gst S':=by unfold gst;rw [h]
theorem U3 {S S':Fr} (h:∀ i,look S i=look S' i):gv S=gv S':=h _
def xW (m:Mode) (S:Fr):Option (Nat×Loop):=match m with
 | .plain=>none
 | .iter l ρ=>some (l,bif gst S then { ρ with state:=.done,pending:=some .ret } else { ρ with state:=.ready,pending:=none })
 | .round l ρ st=>some (l,{ ρ with state:=st,pending:=none })
 | .held _ _=>none
def RB:Obj→Bool
 | .map _ _=>true
 | .mapIter _ _ _ _=>true
 | _=>false
theorem RC {o:Obj} (h:RB o=true):o.isCells=false:=by cases o<;>first|rfl|cases h
def QY (m:Mode) (v:Value) (w:World):Prop:=match m with
 | .held T f=>(f v).length=T.length∧∀ p∈T.zip (f v),RB p.2=true∧w.heap[p.1]? = some p.2
 | _=>True
def RecAt (m:Mode) (S:Fr) (w:World):Prop:=(∀ l ρ,xW m S=some (l,ρ)→w.heap[l]? = some (.loop ρ))∧QY m (gv S) w
def Mode.mine (m:Mode) (k:Nat):Prop:=match m with
 | .iter l _=>k=l
 | .held T _=>k∈T
 | _=>False
structure KO (m:Mode) (w w':World):Prop where
 size:w.heap.size≤w'.heap.size
 same:∀ (k:Nat) (o:Obj),¬ m.mine k→w.heap[k]? = some o→o.isCells=false→w'.heap[k]? = some o
theorem KO.of {m:Mode} {w w':World} (h:KeepsOthers w w'):KO m w w':=⟨h.size,fun k o _=>h.same k o⟩
theorem KO.refl (m:Mode) (w:World):KO m w w:=⟨Nat.le_refl _,fun _ _ _ h _=>h⟩
theorem KO.trans {m:Mode} {a b c:World} (h:KO m a b) (k:KO m b c):KO m a c:=⟨Nat.le_trans h.size k.size,fun i o hn hi ho=>k.same i o hn (h.same i o hn hi ho) ho⟩
theorem QY.keeps {m:Mode} {v:Value} {w w':World} (h:QY m v w) (hk:KeepsOthers w w'):QY m v w':=by
 cases m with
 | held T f=>exact ⟨h.1,fun p hp=>⟨(h.2 p hp).1,hk.same _ _ (h.2 p hp).2 (RC (h.2 p hp).1)⟩⟩
 | _=>trivial
theorem RecAt.keeps {m:Mode} {S S':Fr} {w w':World} (h:RecAt m S w) (hk:KeepsOthers w w') (hg:gv S'=gv S):RecAt m S' w':=by
 refine ⟨fun l ρ hr=>?_,by rw [hg];exact h.2.keeps hk⟩;refine hk.same l _ (h.1 l ρ ?_) O
 cases m with
 | plain=>simp only [xW] at hr;cases hr
 | iter l ρ=>simp only [xW] at hr ⊢;rw [YK hg] at hr;exact hr
 | round l ρ st=>simp only [xW] at hr ⊢;exact hr
 | held T f=>simp only [xW] at hr;cases hr
theorem aM_ {α β:Type} {k:α}:∀ {T:List α} {l:List β},l.length=T.length→k∈T→∃ o,(k,o)∈T.zip l
 | [],_,_,h=>by cases h
 | t::T,[],h,_=>by cases h
 | t::T,o::l,h,hk=>by
  rcases List.mem_cons.1 hk with rfl|hk
  ·exact ⟨o,List.mem_cons_self⟩
  obtain ⟨x,hx⟩:=aM_ (T:=T) (l:=l) (by simpa using h) hk;exact ⟨x,List.mem_cons_of_mem _ hx⟩
def DG (B:Nat):List Deferred→World→Prop
 | [],_=>True
 | d::D,w=>(∃ b,d = { target:=.collected b,args:=#[] }∧B≤b∧w.heap[b]? = some (.deferred (some []))∧(∀ e∈D,e.target ≠ .collected b))∧DG B D w
theorem DG.ko {B:Nat} {m:Mode} {S:Fr} {w w':World} (hr:RecAt m S w) (hk:KO m w w'):∀ {D:List Deferred},DG B D w→DG B D w'
 | [],_=>trivial
 | d::D,⟨⟨b,h1,h2,h3,h4⟩,h⟩=>⟨⟨b,h1,h2,hk.same b _ (fun hm=>by
  cases m with
  | iter l ρ =>
   have hm:b=l:=hm;subst hm;have:=hr.1 _ _ O;rw [h3] at this;cases this
  | held T f =>
   obtain ⟨o,ho⟩:=aM_ hr.2.1 (show b∈T from hm);obtain ⟨h5,h6⟩:=hr.2.2 _ ho;rw [h3] at h6;cases h6;cases h5
  | _=>exact hm) h3 O,h4⟩,DG.ko hr hk h⟩
abbrev kI:=Exit→Fr→List Blk→Prop
def lift (w0:World) (X:List Nat) (N:Nm) (B:Nat) (ws:World) (Q:kI):Exit→Act→World→Prop :=
 fun e a w=>∃ D S M,a=kJ D N S∧Sat w0 X M w∧KO N.m ws w∧DG B D w∧RecAt N.m S w∧Q e S M
def W (P:Program) (w0:World) (X:List Nat) (N:Nm) (c:Code) (Q:kI) (S:Fr) (M:List Blk):Prop :=
 ∀ (B:Nat) (D:List Deferred) (w:World),B≤w.heap.size→DG B D w→RecAt N.m S w→Sat w0 X M w→c.wpIn (rI N.ro) 0 P (lift w0 X N B w Q) (kJ D N S) w
def tA (next:Fr→List Blk→Prop) (Q:kI):kI
 | .normal,S,M=>next S M
 | e,S,M=>Q e S M
def B5 (id:Nat) (Q:kI):kI
 | .exit id',S,M=>if id'=id then Q .normal S M else Q (.exit id') S M
 | e,S,M=>Q e S M
section
variable {P:Program} {w0:World} {X:List Nat} {N:Nm} {Q:kI} {S:Fr} {M:List Blk}
theorem bG_ {B:Nat} {ws w:World} (hk:KO N.m ws w) {e:Exit} {a:Act} {w':World} (h:lift w0 X N B w Q e a w'):lift w0 X N B ws Q e a w':=by
 obtain ⟨D,S,M,ha,hs,k,hd,hr,q⟩:=h;exact ⟨D,S,M,ha,hs,hk.trans k,hd,hr,q⟩
theorem BZ {c:Code} {Q':kI} (h:W P w0 X N c Q S M) (hq:∀ e S M,Q e S M→Q' e S M):W P w0 X N c Q' S M :=
 fun B D w hB hd hr hw=>wpIn_mono (h B D w hB hd hr hw) fun _ _ _ ⟨D',S',M',ha,hs,hk,hd,hr,q⟩=>⟨D',S',M',ha,hs,hk,hd,hr,hq _ _ _ q⟩
theorem fQ {c:Code} {M':List Blk} (hs:M'.Sublist M) (h:W P w0 X N c Q S M'):W P w0 X N c Q S M:=fun B D w hB hd hr hw=>h B D w hB hd hr (hw.sub hs)
theorem WM {x y:Code} (h:∀ K:Fr→List Blk→Prop,(∀ S M,W P w0 X N y Q S M→K S M)→W P w0 X N x (tA K Q) S M):W P w0 X N (.seq x y) Q S M:=by
 intro B D w hB hd hr hw;refine wpIn_seq ?_;refine wpIn_mono (h _ (fun _ _ h=>h) B D w hB hd hr hw) ?_;rintro e a w' ⟨D',S',M',rfl,hs,hk,hd',hr',q⟩
 cases e with
 | normal=>exact wpIn_mono (q B D' w' (Nat.le_trans hB hk.size) hd' hr' hs) fun _ _ _=>bG_ hk
 | exit id=>exact ⟨D',S',M',rfl,hs,hk,hd',hr',q⟩
 | goto l=>exact ⟨D',S',M',rfl,hs,hk,hd',hr',q⟩
 | ret=>exact ⟨D',S',M',rfl,hs,hk,hd',hr',q⟩
 | panic c=>exact ⟨D',S',M',rfl,hs,hk,hd',hr',q⟩
 | outgrown=>exact ⟨D',S',M',rfl,hs,hk,hd',hr',q⟩
theorem aX_ {id:Nat} {c:Code} (h:W P w0 X N c (B5 id Q) S M):W P w0 X N (.block id c) Q S M:=by
 intro B D w hB hd hr hw;refine wpIn_block ?_;refine wpIn_mono (h B D w hB hd hr hw) ?_;rintro e a w' ⟨D',S',M',rfl,hs,hk,hd',hr',q⟩
 cases e with
 | exit id' =>
  simp only [B5] at q;simp only [Exit.inBlock]
  split
  ·rename_i h;rw [if_pos h] at q;exact ⟨D',S',M',rfl,hs,hk,hd',hr',q⟩
  rename_i h;rw [if_neg h] at q;exact ⟨D',S',M',rfl,hs,hk,hd',hr',q⟩
 | normal=>exact ⟨D',S',M',rfl,hs,hk,hd',hr',q⟩
 | goto l=>exact ⟨D',S',M',rfl,hs,hk,hd',hr',q⟩
 | ret=>exact ⟨D',S',M',rfl,hs,hk,hd',hr',q⟩
 | panic c=>exact ⟨D',S',M',rfl,hs,hk,hd',hr',q⟩
 | outgrown=>exact ⟨D',S',M',rfl,hs,hk,hd',hr',q⟩
theorem aT {c:Operand} {x y:Code} (t:Bool) (hc:evO N S c=some (.bool t)) (ht:t=true→W P w0 X N x Q S M) (hf:t=false→W P w0 X N y Q S M):W P w0 X N (.cond c x y) Q S M:=by
 intro B D w hB hd hr hw;refine wpIn_cond (t:=t) (by rw [yN];exact aZ hc) ?_
 cases t
 ·exact hf O B D w hB hd hr hw
 exact ht O B D w hB hd hr hw
theorem WO {c:Operand} {x y:Code} (hc:evO N S c=some (.bool true)) (h:W P w0 X N x Q S M):W P w0 X N (.cond c x y) Q S M:=aT true hc (fun _=>h) (by simp)
theorem R9 {c:Operand} {x y:Code} (hc:evO N S c=some (.bool false)) (h:W P w0 X N y Q S M):W P w0 X N (.cond c x y) Q S M:=aT false hc (by simp) (fun _=>h)
theorem ds_ (h:Q .normal S M):W P w0 X N .skip Q S M:=fun B D w hB hd hr hw=>wpIn_skip ⟨D,S,M,rfl,hw,.refl _ _,hd,hr,h⟩
theorem e6_ (h:Q .ret S M):W P w0 X N .ret Q S M:=fun B D w hB hd hr hw=>wpIn_ret ⟨D,S,M,rfl,hw,.refl _ _,hd,hr,h⟩
theorem dr_ {id:Nat} (h:Q (.exit id) S M):W P w0 X N (.exit id) Q S M:=fun B D w hB hd hr hw=>wpIn_exit ⟨D,S,M,rfl,hw,.refl _ _,hd,hr,h⟩
end
theorem H7 {F:Fence} {n0:Nat} {P:Program} {c:Code} {Q:Exit→Act→World→Prop} (J:Nat→Act→World→Prop)
  (round:∀ n a w,J n a w→c.wpIn F n0 P (Exit.then (fun a' w'=>∃ m,m<n∧J m a' w') Q) a w) {n:Nat} {a:Act} {w:World} (h0:J n a w):(Code.loop c).wpIn F n0 P Q a w:=by
 intro b k cs hro hb hr
 have key:∀ n a w,J n a w→∃ e a' w',Q e a' w'∧ArrivesIn (Machine.fenced P F) P (lone (b.atR a (.code c::.inLoop c::k)) cs w) b k cs e a' w':=by
  intro n
  induction n using Nat.strongRecOn with
  | _ n ih =>
   intro a w hI;obtain ⟨e,a₁,w₁,hq,harr⟩:=round n a w hI b (.inLoop c::k) cs hro hb hr
   cases e with
   | normal =>
    obtain ⟨m,hlt,hI₁⟩:=hq;obtain ⟨e₂,a₂,w₂,hq₂,harr₂⟩:=ih m hlt a₁ w₁ hI₁;exact ⟨e₂,a₂,w₂,hq₂,.of_steps (StepsIn.trans harr (.one (fenced_calm hb hr O) stepR_inLoop)) harr₂⟩
   | exit id=>exact ⟨_,a₁,w₁,hq,.pass (x:=.inLoop c) O (fun _ _=>.inl (by simp)) harr⟩
   | goto l=>exact ⟨_,a₁,w₁,hq,.pass (x:=.inLoop c) O (fun _ _=>.inl (by simp)) harr⟩
   | ret=>exact ⟨_,a₁,w₁,hq,.pass (x:=.inLoop c) O (fun _ _=>.inl (by simp)) harr⟩
   | panic ch=>exact ⟨_,a₁,w₁,hq,.pass (x:=.inLoop c) O (fun _ _=>.inl (by simp)) harr⟩
   | outgrown=>exact ⟨_,a₁,w₁,hq,.pass (x:=.inLoop c) O (fun _ _=>.inl (by simp)) harr⟩
 obtain ⟨e,a',w',hq,harr⟩:=key n a w h0;exact ⟨e,a',w',hq,.of_steps (.one (fenced_calm hb hr O) stepR_loop) harr⟩
theorem WJ {P:Program} {w0:World} {X:List Nat} {N:Nm} {Q:kI} {S:Fr} {M:List Blk} {c:Code} (I:Nat→Fr→List Blk→Prop) (n:Nat) (h0:∃ M',M'.Sublist M∧I n S M')
  (round:∀ n S M,I n S M→W P w0 X N c (tA (fun S' M'=>∃ M'' m,M''.Sublist M'∧m<n∧I m S' M'') Q) S M):W P w0 X N (.loop c) Q S M:=by
 intro B D w hB hd hr hw;obtain ⟨M',hsub,hI⟩:=h0;refine H7 (fun n a w'=>∃ D S M,a=kJ D N S∧Sat w0 X M w'∧KO N.m w w'∧DG B D w'∧RecAt N.m S w'∧I n S M) ?_ ⟨D,S,M',rfl,hw.sub hsub,.refl _ _,hd,hr,hI⟩;rintro n a w1 ⟨D,S,M,rfl,hs,hk1,hd,hr,hI⟩;refine wpIn_mono (round n S M hI B D w1 (Nat.le_trans hB hk1.size) hd hr hs) ?_;rintro e a w' ⟨D',S',M',rfl,hs',hk,hd',hr',q⟩;have hk':=hk1.trans hk
 cases e with
 | normal =>
  obtain ⟨M'',m,hsub,hlt,hI'⟩:=q;exact ⟨m,hlt,D',S',M'',rfl,hs'.sub hsub,hk',hd',hr',hI'⟩
 | exit id=>exact ⟨D',S',M',rfl,hs',hk',hd',hr',q⟩
 | goto l=>exact ⟨D',S',M',rfl,hs',hk',hd',hr',q⟩
 | ret=>exact ⟨D',S',M',rfl,hs',hk',hd',hr',q⟩
 | panic c=>exact ⟨D',S',M',rfl,hs',hk',hd',hr',q⟩
 | outgrown=>exact ⟨D',S',M',rfl,hs',hk',hd',hr',q⟩
open Go.RowKit
theorem Ext.keeps {w w':World} (h:Ext w w'):KeepsOthers w w':=⟨Below.size h,fun k o hk _=>(Below.block h k (cL? hk)).trans hk⟩
theorem RecAt.put {m:Mode} {S:Fr} {w:World} {d:Option Tmp} {v:Value} (h:RecAt m S w) (hd:okD d=true):RecAt m (lN S d v) w:=h.keeps (KeepsOthers.refl w) (yV hd)
section judge
variable (P:Program) (w0:World) (X:List Nat) (N:Nm)
def OpR (o:Oper) (S:Fr) (M:List Blk) (K:Value→List Blk→Prop):Prop :=
 ∀ w,Sat w0 X M w→opw P o (act N S) w fun v w'=>KeepsOthers w w'∧∃ M',Sat w0 X M' w'∧K v M'
def OpQ (o:Oper) (S:Fr) (M:List Blk) (v:Value):Prop :=
 ∀ w,Sat w0 X M w→opw P o (act N S) w fun u w'=>u=v∧Ext w w'
def OpS (o:Oper) (S:Fr) (M:List Blk) (K:Value→Fr→List Blk→Prop):Prop :=
 ∀ w,RecAt N.m S w→Sat w0 X M w→opw P o (act N S) w fun v w'=>KO N.m w w'∧∃ S' M',(∀ D,kJ D N S'=kJ D N S)∧RecAt N.m S' w'∧Sat w0 X M' w'∧K v S' M'
def WL (ops:List Oper) (Q:Fr→List Blk→Prop):List Oper→Fr→List Blk→Prop
 | [],S,M=>Q S M
 | o::l,S,M=>okD o.dst=true∧if Region.wanted o (yld N ops S) then OpS P w0 X N o S M (fun v S' M'=>WL ops Q l (lN S' o.dst v) M') else WL ops Q l (lN S o.dst undef) M
def PL (ops:List Oper) (nw:List Nat) (MD:List Blk) (Q:Fr→List Blk→Prop):Plan→Fr→List Blk→Prop
 | .fin,S,M=>Q S M
 | .quiet i _ r,S,M=>∃ o v,ops[i]? = some o∧okD o.dst=true∧((Region.wanted o (yld N ops S)=true∧OpQ P w0 X N o S M v)∨(Region.wanted o (yld N ops S)=false∧v=undef))∧PL ops nw MD Q r (lN S o.dst v) M
 | .still i _ r,S,M=>∃ o v,ops[i]? = some o∧okD o.dst=true∧((Region.wanted o (yld N ops S)=true∧OpQ P w0 X N o S MD v)∨(Region.wanted o (yld N ops S)=false∧v=undef))∧PL ops nw MD Q r (lN S o.dst v) M
 | .only i r,S,M=>∃ o,ops[i]? = some o∧okD o.dst=true∧if Region.wanted o (yld N ops S) then OpR P w0 X N o S M (fun v M'=>(nw.contains i=true→M.Sublist M')∧MD.Sublist M'∧PL ops nw MD Q r (lN S o.dst v) M') else PL ops nw MD Q r (lN S o.dst undef) M
 | .both i r j s,S,M=>(∃ o,ops[i]? = some o∧okD o.dst=true∧if Region.wanted o (yld N ops S) then OpR P w0 X N o S M (fun v M'=>(nw.contains i=true→M.Sublist M')∧MD.Sublist M'∧PL ops nw MD Q r (lN S o.dst v) M') else PL ops nw MD Q r (lN S o.dst undef) M) ∧
  (∃ o,ops[j]? = some o∧okD o.dst=true∧if Region.wanted o (yld N ops S) then OpR P w0 X N o S M (fun v M'=>(nw.contains j=true→M.Sublist M')∧MD.Sublist M'∧PL ops nw MD Q s (lN S o.dst v) M') else PL ops nw MD Q s (lN S o.dst undef) M)
 | .tri i r j s k t,S,M=>(∃ o,ops[i]? = some o∧okD o.dst=true∧if Region.wanted o (yld N ops S) then OpR P w0 X N o S M (fun v M'=>(nw.contains i=true→M.Sublist M')∧MD.Sublist M'∧PL ops nw MD Q r (lN S o.dst v) M') else PL ops nw MD Q r (lN S o.dst undef) M) ∧
  (∃ o,ops[j]? = some o∧okD o.dst=true∧if Region.wanted o (yld N ops S) then OpR P w0 X N o S M (fun v M'=>(nw.contains j=true→M.Sublist M')∧MD.Sublist M'∧PL ops nw MD Q s (lN S o.dst v) M') else PL ops nw MD Q s (lN S o.dst undef) M) ∧
  (∃ o,ops[k]? = some o∧okD o.dst=true∧if Region.wanted o (yld N ops S) then OpR P w0 X N o S M (fun v M'=>(nw.contains k=true→M.Sublist M')∧MD.Sublist M'∧PL ops nw MD Q t (lN S o.dst v) M') else PL ops nw MD Q t (lN S o.dst undef) M)
end judge
section
variable {P:Program} {w0:World} {X:List Nat} {N:Nm} {S:Fr} {M:List Blk}
theorem EZ {o:Oper} {v:Value} {K:Value→List Blk→Prop} (h:OpQ P w0 X N o S M v) (k:K v M):OpR P w0 X N o S M K :=
 fun w hw=>uY (fun u w' ⟨hu,he⟩=>⟨Ext.keeps he,M,Sat.mono w0 X M _ _ hw he,by subst hu;exact k⟩) (h w hw)
theorem NB {o:Oper} {K:Value→Fr→List Blk→Prop} (h:OpR P w0 X N o S M fun v M'=>K v S M'):OpS P w0 X N o S M K :=
 fun w hr hw=>uY (fun _ _ ⟨hk,M',hs,k⟩=>⟨KO.of hk,S,M',fun _=>rfl,hr.keeps hk O,hs,k⟩) (h w hw)
theorem yK {ops:List Oper} {Q:kI} {Q':Fr→List Blk→Prop} (hQ:∀ S M,Q' S M→Q .normal S M) {B:Nat} {ws:World}:∀ (l:List Oper) (k:Nat) (S:Fr) (M:List Blk) (D:List Deferred) (w:World),
  (∀ j,l[j]? = ops[k+j]?)→KO N.m ws w→DG B D w→RecAt N.m S w→Sat w0 X M w→WL P w0 X N ops Q' l S M →
   wpOpsIn (rI N.ro) 0 P ops.toArray (lift w0 X N B ws Q) (List.range' k l.length) (kJ D N S) w
 | [],_,S,M,D,w,_,hk,hd,hr,hw,h=>⟨D,S,M,rfl,hw,hk,hd,hr,hQ _ _ h⟩
 | o::l,k,S,M,D,w,hl,hk,hd,hr,hw,h=>by
  have h0:ops.toArray[k]? = some o:=by simpa using (hl 0).symm
  have hl':∀ j,l[j]? = ops[k+1+j]?:=fun j=>by have:=hl (j+1);simpa [Nat.add_assoc,Nat.add_comm 1 j] using this
  rw [List.length_cons,List.range'_succ,wpOpsIn_cons];unfold wpOpIn;rw [h0];simp only [WL] at h;obtain ⟨hok,h⟩:=h;simp only [nU]
  split
  ·rename_i hwt
   rw [if_pos hwt] at h;have h2:=h w hr hw;rw [VG D] at h2;refine vC ?_ h2;rintro v w' ⟨hk',S',M',ha,hr',hs,hx⟩;rw [← ha D,m7];exact yK hQ l (k+1) _ M' D w' hl' (hk.trans hk') (DG.ko hr hk' hd) (hr'.put hok) hs hx
  rename_i hwt
  rw [if_neg hwt] at h;rw [m7];exact ⟨fun _ _=>trivial,yK hQ l (k+1) _ M D w hl' hk hd (hr.put hok) hw h⟩
theorem IA {id:Nat} {ops:List Oper} {Q:kI} {Q':Fr→List Blk→Prop} (hQ:∀ S M,Q' S M→Q .normal S M) (h:WL P w0 X N ops Q' ops S M):W P w0 X N (.region id ops.toArray false) Q S M:=by
 intro B D w hB hd hr hw;refine wpIn_region ?_;have:=yK (Q:=Q) hQ ops 0 S M D w (fun j=>by rw [Nat.zero_add]) (.refl _ w) hd hr hw h;rw [List.range_eq_range',List.size_toArray];exact this
theorem cy_ {ops:List Oper} {C:Cls} {o:Oper} {v:Value} {D:List Deferred} (hC:∀ x,C x→Sat w0 X M x)
  (h:(Region.wanted o (yld N ops S)=true∧OpQ P w0 X N o S M v)∨(Region.wanted o (yld N ops S)=false∧v=undef)):YQ P ops.toArray C o v (kJ D N S):=by
 unfold YQ;rw [nU];rcases h with ⟨h1,h2⟩|h
 ·exact .inl ⟨h1,fun w hw=>by rw [← VG D];exact h2 w (hC w hw)⟩
 exact .inr h
theorem VS {ops:List Oper} {nw:List Nat} {MD:List Blk} {Q':Fr→List Blk→Prop} {w1:World} {g:Value} {D:List Deferred}:∀ (p:Plan) (S:Fr) (M:List Blk),gv S=g→PL P w0 X N ops nw MD Q' p S M →
  Plan.run P ops.toArray nw (Sat w0 X MD) (fun a C=>∃ S M,a=kJ D N S∧(∀ w,C w→Sat w0 X M w∧KeepsOthers w1 w)∧gv S=g∧Q' S M) p (kJ D N S) (fun x=>Sat w0 X M x∧KeepsOthers w1 x):=by
 have one:∀ (r:Plan),(∀ (S:Fr) (M:List Blk),gv S=g→PL P w0 X N ops nw MD Q' r S M →
   Plan.run P ops.toArray nw (Sat w0 X MD) (fun a C=>∃ S M,a=kJ D N S∧(∀ w,C w→Sat w0 X M w∧KeepsOthers w1 w)∧gv S=g∧Q' S M) r (kJ D N S) (fun x=>Sat w0 X M x∧KeepsOthers w1 x))→∀ (i:Nat) (S:Fr) (M:List Blk),gv S=g →
   (∃ o,ops[i]? = some o∧okD o.dst=true∧if Region.wanted o (yld N ops S) then OpR P w0 X N o S M (fun v M'=>(nw.contains i=true→M.Sublist M')∧MD.Sublist M'∧PL P w0 X N ops nw MD Q' r (lN S o.dst v) M') else PL P w0 X N ops nw MD Q' r (lN S o.dst undef) M) →
   (∀ o,ops.toArray[i]? = some o→if Region.wanted o (yielded ops.toArray (kJ D N S).tmps) then
    ∀ w,(Sat w0 X M w∧KeepsOthers w1 w)→opw P o (kJ D N S) w fun v w'=>∃ C',zO C'∧C' w'∧(nw.contains i=true→∀ x,C' x→Sat w0 X M x∧KeepsOthers w1 x)∧(∀ x,C' x→Sat w0 X MD x) ∧
     Plan.run P ops.toArray nw (Sat w0 X MD) (fun a C=>∃ S M,a=kJ D N S∧(∀ w,C w→Sat w0 X M w∧KeepsOthers w1 w)∧gv S=g∧Q' S M) r ((kJ D N S).put o.dst v) C'
   else Plan.run P ops.toArray nw (Sat w0 X MD) (fun a C=>∃ S M,a=kJ D N S∧(∀ w,C w→Sat w0 X M w∧KeepsOthers w1 w)∧gv S=g∧Q' S M) r ((kJ D N S).put o.dst undef) (fun x=>Sat w0 X M x∧KeepsOthers w1 x)):=by
  rintro r ih i S M hg ⟨o,ho,hok,h⟩ o' ho';rw [List.getElem?_toArray,ho] at ho';cases ho';rw [nU]
  split
  ·rename_i hwt
   rw [if_pos hwt] at h;rintro w ⟨hw,hk1⟩;have h2:=h w hw;rw [VG D] at h2;refine uY ?_ h2;rintro v w' ⟨hk,M',hs,hsub,hsd,hx⟩;refine ⟨fun x=>Sat w0 X M' x∧KeepsOthers w1 x,fun a b h1 h2=>⟨Sat.mono _ _ _ _ _ h1.1 h2,h1.2.trans (Ext.keeps h2)⟩,⟨hs,hk1.trans hk⟩,fun hn x hx=>⟨hx.1.sub (hsub hn),hx.2⟩,fun x hx=>hx.1.sub hsd,?_⟩;rw [m7];exact ih _ _ ((yV hok).trans hg) hx
  rename_i hwt
  rw [if_neg hwt] at h;rw [m7];exact ih _ _ ((yV hok).trans hg) h
 intro p
 induction p with
 | fin=>exact fun S M hg h=>⟨S,M,rfl,fun _ h=>h,hg,h⟩
 | quiet i ws r ih =>
  rintro S M hg ⟨o,v,ho,hok,hy,hk⟩;exact ⟨o,v,by rw [List.getElem?_toArray];exact ho,cy_ (fun _ h=>h.1) hy,by rw [m7];exact ih _ _ ((yV hok).trans hg) hk⟩
 | still i ws r ih =>
  rintro S M hg ⟨o,v,ho,hok,hy,hk⟩;exact ⟨o,v,by rw [List.getElem?_toArray];exact ho,cy_ (fun _ h=>h) hy,by rw [m7];exact ih _ _ ((yV hok).trans hg) hk⟩
 | only i r ih=>exact fun S M hg h=>one r ih i S M hg h
 | both i r j s ih1 ih2=>exact fun S M hg h=>⟨one r ih1 i S M hg h.1,one s ih2 j S M hg h.2⟩
 | tri i r j s k t ih1 ih2 ih3=>exact fun S M hg h=>⟨one r ih1 i S M hg h.1,one s ih2 j S M hg h.2.1,one t ih3 k S M hg h.2.2⟩
theorem KE {id:Nat} {ops:List Oper} {Q:kI} {Q':Fr→List Blk→Prop} {MD:List Blk} (hQ:∀ S M,Q' S M→Q .normal S M) (sub:MD.Sublist M) (p:Plan) (nw:List Nat) (hm:P.follows .mixedOrders=true) (hs:Region.noSelect ops.toArray=true)
  (hok:Plan.ok ops.toArray nw ops.length (Array.replicate ops.length false) p=true)
  (h:PL P w0 X N ops nw MD Q' p S M):W P w0 X N (.region id ops.toArray true) Q S M:=by
 intro B D w hB hd hr hw;refine wpIn_region_any hm ?_;have h1:=VS (w1:=w) (D:=D) p S M O h;have he:Ext w { w with drawn:=w.drawn+1 }:=(Below.refl _ _).drew;have hw':Sat w0 X M { w with drawn:=w.drawn+1 }:=Sat.mono _ _ _ _ _ hw he;rw [List.size_toArray]
 exact uM (nw:=nw) (fun a C w' hc ⟨S',M',ha,hs',hg,hq⟩ =>
   have h2:=hs' w' hc
   ⟨D,S',M',ha,h2.1,KO.of h2.2,DG.ko hr (KO.of h2.2) hd,hr.keeps h2.2 hg,hQ _ _ hq⟩) _ _ _ _ _ ⟨hw',Ext.keeps he⟩ (Plan.sound hs _ _ _ _ _ hok (fun a b h1 h2=>⟨Sat.mono _ _ _ _ _ h1.1 h2,h1.2.trans (Ext.keeps h2)⟩) (fun x hx=>hx.1.sub sub) h1)
theorem dq_ {id:Nat} {ops:List Oper} {Q:kI} {MD:List Blk} (sub:MD.Sublist M) (p:Plan) (nw:List Nat) (hm:P.follows .mixedOrders=true) (hs:Region.noSelect ops.toArray=true)
  (hok:Plan.ok ops.toArray nw ops.length (Array.replicate ops.length false) p=true)
  (h:∀ K:Fr→List Blk→Prop,(∀ S M,Q .normal S M→K S M)→PL P w0 X N ops nw MD K p S M):W P w0 X N (.region id ops.toArray true) Q S M :=
 KE (fun _ _ h=>h) sub p nw hm hs hok (h _ fun _ _ h=>h)
def pS (N:Nm) (ops:List Oper) (S:Fr) (o:Oper):Bool:=bif okD o.dst then Region.wanted o (yld N ops S) else false
def JV (N:Nm) (ops:List Oper) (S:Fr) (o:Oper):Bool:=bif okD o.dst then Region.wanted o (yld N ops S) else true
theorem mF {ops:List Oper} {o:Oper} (h:pS N ops S o=true):okD o.dst=true∧Region.wanted o (yld N ops S)=true:=by
 unfold pS at h
 cases hd:okD o.dst
 ·rw [hd] at h;cases h
 rw [hd] at h;exact ⟨rfl,h⟩
theorem BW {ops:List Oper} {o:Oper} (h:JV N ops S o=false):okD o.dst=true∧Region.wanted o (yld N ops S)=false:=by
 unfold JV at h
 cases hd:okD o.dst
 ·rw [hd] at h;cases h
 rw [hd] at h;exact ⟨rfl,h⟩
theorem dp_ {ops:List Oper} {Q:Fr→List Blk→Prop} {o:Oper} {l:List Oper} {v:Value} (hg:pS N ops S o=true) (h:OpQ P w0 X N o S M v) (k:WL P w0 X N ops Q l (lN S o.dst v) M) :
  WL P w0 X N ops Q (o::l) S M:=by
 simp only [WL];exact ⟨(mF hg).1,by rw [if_pos (mF hg).2];exact NB (EZ h k)⟩
theorem aQ {ops:List Oper} {Q:Fr→List Blk→Prop} {o:Oper} {l:List Oper} (hg:pS N ops S o=true) (h:OpR P w0 X N o S M (fun v M'=>WL P w0 X N ops Q l (lN S o.dst v) M')) :
  WL P w0 X N ops Q (o::l) S M:=by
 simp only [WL];exact ⟨(mF hg).1,by rw [if_pos (mF hg).2];exact NB h⟩
theorem gu_ {ops:List Oper} {Q:Fr→List Blk→Prop} {o:Oper} {l:List Oper} (hg:JV N ops S o=false) (k:WL P w0 X N ops Q l (lN S o.dst undef) M) :
  WL P w0 X N ops Q (o::l) S M:=by
 simp only [WL];exact ⟨(BW hg).1,by rw [if_neg (by simp [(BW hg).2])];exact k⟩
theorem eZ_ {ops:List Oper} {nw:List Nat} {MD:List Blk} {Q:Fr→List Blk→Prop} {i:Nat} {ws:List Nat} {r:Plan} {o:Oper} {v:Value} (ho:ops[i]? = some o) (hg:pS N ops S o=true)
 (h:OpQ P w0 X N o S M v) (k:PL P w0 X N ops nw MD Q r (lN S o.dst v) M):PL P w0 X N ops nw MD Q (.quiet i ws r) S M:=⟨o,v,ho,(mF hg).1,.inl ⟨(mF hg).2,h⟩,k⟩
theorem E0 {ops:List Oper} {nw:List Nat} {MD:List Blk} {Q:Fr→List Blk→Prop} {i:Nat} {ws:List Nat} {r:Plan} {o:Oper} {v:Value} (ho:ops[i]? = some o) (hg:pS N ops S o=true)
 (h:OpQ P w0 X N o S MD v) (k:PL P w0 X N ops nw MD Q r (lN S o.dst v) M):PL P w0 X N ops nw MD Q (.still i ws r) S M:=⟨o,v,ho,(mF hg).1,.inl ⟨(mF hg).2,h⟩,k⟩
theorem dC {ops:List Oper} {nw:List Nat} {MD:List Blk} {Q:Fr→List Blk→Prop} {i:Nat} {r:Plan} {o:Oper} (ho:ops[i]? = some o) (hg:pS N ops S o=true)
 (h:OpR P w0 X N o S M (fun v M'=>(nw.contains i=true→M.Sublist M')∧MD.Sublist M'∧PL P w0 X N ops nw MD Q r (lN S o.dst v) M')):PL P w0 X N ops nw MD Q (.only i r) S M:=⟨o,ho,(mF hg).1,by rw [if_pos (mF hg).2];exact h⟩
theorem eY_ {ops:List Oper} {nw:List Nat} {MD:List Blk} {Q:Fr→List Blk→Prop} {i:Nat} {r:Plan} {o:Oper} (ho:ops[i]? = some o) (hg:JV N ops S o=false)
 (k:PL P w0 X N ops nw MD Q r (lN S o.dst undef) M):PL P w0 X N ops nw MD Q (.only i r) S M:=⟨o,ho,(BW hg).1,by rw [if_neg (by simp [(BW hg).2])];exact k⟩
theorem uO {ops:List Oper} {nw:List Nat} {MD:List Blk} {Q:Fr→List Blk→Prop} {i j:Nat} {r s:Plan} (h1:PL P w0 X N ops nw MD Q (.only i r) S M) (h2:PL P w0 X N ops nw MD Q (.only j s) S M):PL P w0 X N ops nw MD Q (.both i r j s) S M:=⟨h1,h2⟩
end
def YU:TypeDesc→Bool
 | .struct _|.array _ _=>true
 | _=>false
def gY (P:Program) (T:TypeId):Option (Bool×Nat):=match P.underlying T,P.info? T with
 | some d,some i=>some (YU d,i.size)
 | _,_=>none
def wO (P:Program) (T:TypeId):Option IntKind:=match P.underlying T with|some (.int k)=>some k|_=>none
def yF (P:Program) (T:TypeId):Option (Nat×Nat):=match P.underlying T with|some (.array n e)=>(P.info? e).map fun i=>(n,i.size)|_=>none
def iK (P:Program) (T:TypeId):Option Nat:=match P.underlying T with|some (.slice e)=>(P.info? e).map (·.size)|_=>none
def wB (P:Program) (T:TypeId) (f:Nat):Option (Nat×Nat):=match P.underlying T with|some (.struct fs)=>(fs[f]?).bind fun x=>(P.info? x.type).map fun i=>(x.offset,i.size)|_=>none
section
variable {P:Program} {w:World}
theorem l8 (b o n:Nat):(⟨b,o,none⟩:Addr).add n=⟨b,o+n,none⟩:=by unfold Addr.add;split<;>simp_all
theorem lC {T:TypeId} {g:Bool} {n:Nat} (h:gY P T=some (g,n)):(isAgg T).run P w = .ok g w∧(sizeOf T).run P w = .ok n w:=by
 unfold gY at h
 split at h
 ·rename_i d i hd hi
  cases h
  refine ⟨?_,?_⟩
  ·unfold isAgg;simp only [Sem.run_bind,run_underlying hd,Result.andThen_ok];cases d<;>rfl
  simp [sizeOf,typeInfo,hi]
 ·cases h
theorem yW {T U:TypeId} {s b off:Nat} {cs:List Value} {v:Value} (hT:gY P T=some (false,s)) (hm:w.heap[b]? = some (.cells cs.toArray U (0,0))) (hc:cs[off]? = some v) :
  (Instr.loadAt T (.pointer (some ⟨b,off,none⟩))).run P w = .ok v w:=by
 have hcell:w.cell? ⟨b,off,none⟩ = some v:=by simp [World.cell?,hm,hc]
 simp [Instr.loadAt,Instr.sureAddr,loadVar,(lC (w:=w) hT).1,load,Sem.run,hcell]
theorem FY {T U:TypeId} {n b off:Nat} {cs:List Value} {vs:List Value} (hT:gY P T=some (true,n)) (hm:w.heap[b]? = some (.cells cs.toArray U (0,0))) (hv:(cs.drop off).take n=vs) (hl:vs.length=n) :
  (Instr.loadAt T (.pointer (some ⟨b,off,none⟩))).run P w = .ok (.agg vs.toArray) w:=by
 have hx:=run_loadCells_list (P:=P) w ⟨b,off,none⟩ vs (fun j v hj=>by
  rw [l8]
  have hj':j<n:=by have:=(List.getElem?_eq_some_iff.1 hj).1;omega
  rw [← hv,List.getElem?_take_of_lt hj',List.getElem?_drop] at hj
  simp [World.cell?,hm,hj])
 rw [hl] at hx
 simp [Instr.loadAt,Instr.sureAddr,loadVar,(lC (w:=w) hT).1,(lC (w:=w) hT).2,hx]
def plain:Value→Bool
 | .agg _|.tuple _=>false
 | _=>true
theorem yX {v:Value} (h:plain v=true):v.oneCell'=true:=by cases v<;>first|rfl|cases h
theorem V1 {T U:TypeId} {n b off:Nat} {g:Bool} {cs vs:List Value} (hT:gY P T=some (g,n)) (hm:w.heap[b]? = some (.cells cs.toArray U (0,0))) {x:Value} (hx:x.cells=vs.toArray) (hl:vs.length=n)
  (hp:∀ v∈vs,plain v=true) (ho:off+n≤cs.length) :
  (Instr.storeAt T (.pointer (some ⟨b,off,none⟩)) x).run P w = .ok () (w.setRow b (cs.take off++vs++cs.drop (off+n)).toArray):=by
 have h:=run_storeCells_at (P:=P) b off U vs 0 cs.toArray w hm (by simp;omega) (fun v hv=>yX (hp v hv));simp only [Nat.add_zero,hl] at h
 simp [Instr.storeAt,Instr.sureAddr,storeVar,hx,hl,(lC (w:=w) hT).2,h]
end
open Go.RowKit
section
variable {P:Program} {w0:World} {X:List Nat} {N:Nm} {S:Fr} {M:List Blk} {d:Option Tmp} {ty:TypeId} {ps:String} {af:Array Edge} {gd:Option (Nat×Bool)}
theorem kU {o:Oper} {v:Value} (h:∀ w,Sat w0 X M w→(execOp (ev N S) o).run P w = .ok (.value v) w):OpQ P w0 X N o S M v:=by
 intro w hw;unfold opw;rw [gT,h w hw];exact ⟨rfl,Ext.refl _⟩
theorem gV {x:Operand} {v:Value} (hv:evO N S x=some v):OpQ P w0 X N ⟨d,.move x,ty,ps,af,gd⟩ S M v:=kU fun w _=>by simp [execOp,aZ hv]
theorem mE {x:Operand} {v:Value} (hv:evO N S x=some v):OpQ P w0 X N ⟨d,.assign x,ty,ps,af,gd⟩ S M v:=kU fun w _=>by simp [execOp,aZ hv]
theorem ej_ {c a b:Operand} {t:Bool} {v:Value} (hc:evO N S c=some (.bool t)) (hv:(if t then evO N S a else evO N S b)=some v):OpQ P w0 X N ⟨d,.pick c a b,ty,ps,af,gd⟩ S M v :=
 kU fun w _=>by
  simp only [execOp,aZ hc,asBool]
  cases t<;>simp [aZ hv]
theorem jK {op:BinOp} {T yT:TypeId} {x y:Operand} {k:IntKind} {a b:Int} {v:Value} (hx:evO N S x=some (.int k a)) (hy:evO N S y=some (.int k b)) (hs:op ≠ .shl∧op ≠ .shr)
  (hr:∀ w,((match op with|.add|.sub|.mul=>Op.intArith op k a b|.quo|.rem=>Op.intDiv op k a b|.and|.or|.xor|.andNot=>Op.intBits op k a b|_=>Op.intCmp op a b):Sem Value).run P w = .ok v w) :
  OpQ P w0 X N ⟨d,.binOp op T x y yT,ty,ps,af,gd⟩ S M v:=kU fun w _=>by
 have hg:∀ w,(eqGuard op T x y (.int k a) (.int k b)).run P w = .ok () w:=fun w=>by cases op<;>rfl
 have h1:=hr w;simp only [execOp,aZ hx,aZ hy,Sem.run_bind,hg,Result.andThen_ok]
 have h2:(binOp op T (.int k a) (.int k b)).run P w = .ok v w:=by
  rw [← h1]
  cases op<;>first|(exact absurd O hs.1)|(exact absurd O hs.2)|simp [binOp]
 rw [h2];rfl
theorem fZ {T yT:TypeId} {x y:Operand} {k:IntKind} {a b:Int} (hx:evO N S x=some (.int k a)) (hy:evO N S y=some (.int k b)):OpQ P w0 X N ⟨d,.binOp .add T x y yT,ty,ps,af,gd⟩ S M (.int k (k.wrap (a+b))) :=
 jK hx hy (by simp) fun _=>rfl
theorem lL {T yT:TypeId} {x y:Operand} {k:IntKind} {a b:Int} (hx:evO N S x=some (.int k a)) (hy:evO N S y=some (.int k b)):OpQ P w0 X N ⟨d,.binOp .sub T x y yT,ty,ps,af,gd⟩ S M (.int k (k.wrap (a - b))) :=
 jK hx hy (by simp) fun _=>rfl
theorem TN {T yT:TypeId} {x y:Operand} {k:IntKind} {a b:Int} (hx:evO N S x=some (.int k a)) (hy:evO N S y=some (.int k b)):OpQ P w0 X N ⟨d,.binOp .mul T x y yT,ty,ps,af,gd⟩ S M (.int k (k.wrap (a*b))) :=
 jK hx hy (by simp) fun _=>rfl
theorem oF {T yT:TypeId} {x y:Operand} {k:IntKind} {a b:Int} (hx:evO N S x=some (.int k a)) (hy:evO N S y=some (.int k b)) (hb:b≠0):OpQ P w0 X N ⟨d,.binOp .quo T x y yT,ty,ps,af,gd⟩ S M (.int k (k.wrap (a.tdiv b))) :=
 jK hx hy (by simp) fun _=>by simp [Op.intDiv,hb]
theorem pW {T yT:TypeId} {x y:Operand} {k:IntKind} {a b:Int} (hx:evO N S x=some (.int k a)) (hy:evO N S y=some (.int k b)) (hb:b≠0):OpQ P w0 X N ⟨d,.binOp .rem T x y yT,ty,ps,af,gd⟩ S M (.int k (a.tmod b)) :=
 jK hx hy (by simp) fun _=>by simp [Op.intDiv,hb]
theorem L0 {T yT:TypeId} {x y:Operand} {k:IntKind} {a b:Int} (hx:evO N S x=some (.int k a)) (hy:evO N S y=some (.int k b)):OpQ P w0 X N ⟨d,.binOp .or T x y yT,ty,ps,af,gd⟩ S M (.int k (k.wrap (BitVec.ofInt k.bits a ||| BitVec.ofInt k.bits b).toNat)) :=
 jK hx hy (by simp) fun _=>rfl
theorem fD_ {T yT:TypeId} {x y:Operand} {k:IntKind} {a b:Int} (hx:evO N S x=some (.int k a)) (hy:evO N S y=some (.int k b)):OpQ P w0 X N ⟨d,.binOp .eql T x y yT,ty,ps,af,gd⟩ S M (.bool (a==b)) :=
 jK hx hy (by simp) fun _=>rfl
theorem cX_ {T yT:TypeId} {x y:Operand} {k:IntKind} {a b:Int} (hx:evO N S x=some (.int k a)) (hy:evO N S y=some (.int k b)):OpQ P w0 X N ⟨d,.binOp .neq T x y yT,ty,ps,af,gd⟩ S M (.bool (a != b)) :=
 jK hx hy (by simp) fun _=>rfl
theorem fH_ {T yT:TypeId} {x y:Operand} {k:IntKind} {a b:Int} (hx:evO N S x=some (.int k a)) (hy:evO N S y=some (.int k b)):OpQ P w0 X N ⟨d,.binOp .lss T x y yT,ty,ps,af,gd⟩ S M (.bool (decide (a<b))) :=
 jK hx hy (by simp) fun _=>rfl
theorem fG_ {T yT:TypeId} {x y:Operand} {k:IntKind} {a b:Int} (hx:evO N S x=some (.int k a)) (hy:evO N S y=some (.int k b)):OpQ P w0 X N ⟨d,.binOp .leq T x y yT,ty,ps,af,gd⟩ S M (.bool (decide (a≤b))) :=
 jK hx hy (by simp) fun _=>rfl
theorem fF_ {T yT:TypeId} {x y:Operand} {k:IntKind} {a b:Int} (hx:evO N S x=some (.int k a)) (hy:evO N S y=some (.int k b)):OpQ P w0 X N ⟨d,.binOp .gtr T x y yT,ty,ps,af,gd⟩ S M (.bool (decide (b<a))) :=
 jK hx hy (by simp) fun _=>rfl
theorem fE_ {T yT:TypeId} {x y:Operand} {k:IntKind} {a b:Int} (hx:evO N S x=some (.int k a)) (hy:evO N S y=some (.int k b)):OpQ P w0 X N ⟨d,.binOp .geq T x y yT,ty,ps,af,gd⟩ S M (.bool (decide (b≤a))) :=
 jK hx hy (by simp) fun _=>rfl
theorem BI {T yT:TypeId} {x y:Operand} {k k':IntKind} {a b:Int} (hx:evO N S x=some (.int k a)) (hy:evO N S y=some (.int k' b)) (hb:0≤b):OpQ P w0 X N ⟨d,.binOp .shl T x y yT,ty,ps,af,gd⟩ S M (.int k (k.wrap (a*2 ^ (min b.toNat k.bits)))) :=
 kU fun w _=>by
  have hb':¬ b<0:=by omega
  simp [execOp,aZ hx,aZ hy,eqGuard,binOp,Op.shift,hb']
theorem rA {T yT:TypeId} {x y:Operand} {k k':IntKind} {a b:Int} (hx:evO N S x=some (.int k a)) (hy:evO N S y=some (.int k' b)) (hb:0≤b):OpQ P w0 X N ⟨d,.binOp .shr T x y yT,ty,ps,af,gd⟩ S M (.int k (a.fdiv (2 ^ (min b.toNat k.bits)))) :=
 kU fun w _=>by
  have hb':¬ b<0:=by omega
  simp [execOp,aZ hx,aZ hy,eqGuard,binOp,Op.shift,hb']
def HF (P:Program) (T:TypeId):Bool:=match P.underlying T with|some .bool=>true|_=>false
theorem DQ {T:TypeId} (h:HF P T=true):P.underlying T=some .bool:=by
 unfold HF at h;split at h
 ·assumption
 ·cases h
theorem eg_ {T yT:TypeId} {x y:Operand} {a b:Bool} (hT:HF P T=true) (hx:evO N S x=some (.bool a)) (hy:evO N S y=some (.bool b)):OpQ P w0 X N ⟨d,.binOp .eql T x y yT,ty,ps,af,gd⟩ S M (.bool (a==b)) :=
 kU fun w _=>by simp [execOp,aZ hx,aZ hy,eqGuard,binOp,Op.equal,Op.maxDepth,run_equalIn_bool' w 9999 T a b (DQ hT)]
theorem CP {T yT:TypeId} {x y:Operand} {a b:Bool} (hT:HF P T=true) (hx:evO N S x=some (.bool a)) (hy:evO N S y=some (.bool b)):OpQ P w0 X N ⟨d,.binOp .neq T x y yT,ty,ps,af,gd⟩ S M (.bool (a != b)) :=
 kU fun w _=>by simp [execOp,aZ hx,aZ hy,eqGuard,binOp,Op.equal,Op.maxDepth,run_equalIn_bool' w 9999 T a b (DQ hT)];cases a<;>cases b<;>rfl
def dh_ (P:Program) (T:TypeId) (xs ys:List Value) (r:Bool):Prop:=P.eqGuardType P.depth T=false∧∀ w,(Op.equalIn 10000 T (.agg xs.toArray) (.agg ys.toArray)).run P w = .ok r w
theorem nY {T yT:TypeId} {x y:Operand} {xs ys:List Value} {r:Bool} (hx:evO N S x=some (.agg xs.toArray)) (hy:evO N S y=some (.agg ys.toArray)) (h:dh_ P T xs ys r):OpQ P w0 X N ⟨d,.binOp .eql T x y yT,ty,ps,af,gd⟩ S M (.bool r) :=
 kU fun w _=>by simp only [execOp,aZ hx,aZ hy,Sem.run_bind,run_eqGuard_agg w .eql T x y _ _ h.1,Result.andThen_ok,run_eql_struct,h.2];rfl
theorem CO {T yT:TypeId} {x y:Operand} {xs ys:List Value} {r:Bool} (hx:evO N S x=some (.agg xs.toArray)) (hy:evO N S y=some (.agg ys.toArray)) (h:dh_ P T xs ys r):OpQ P w0 X N ⟨d,.binOp .neq T x y yT,ty,ps,af,gd⟩ S M (.bool (!r)) :=
 kU fun w _=>by simp only [execOp,aZ hx,aZ hy,Sem.run_bind,run_eqGuard_agg w .neq T x y _ _ h.1,Result.andThen_ok,run_neq_struct,h.2];rfl
theorem Z0 {T:TypeId} {x:Operand} {k:IntKind} {a:Int} (hx:evO N S x=some (.int k a)):OpQ P w0 X N ⟨d,.unOp .neg T x,ty,ps,af,gd⟩ S M (.int k (k.wrap (0 - a))):=kU fun w _=>by simp [execOp,aZ hx,Op.unary,Op.intArith]
theorem fJ_ {T:TypeId} {x:Operand} {a:Bool} (hx:evO N S x=some (.bool a)):OpQ P w0 X N ⟨d,.unOp .not T x,ty,ps,af,gd⟩ S M (.bool (!a)):=kU fun w _=>by simp [execOp,aZ hx,Op.unary]
theorem HG {T:TypeId} {k:IntKind} (h:wO P T=some k):P.underlying T=some (.int k):=by
 unfold wO at h;split at h
 ·cases h;assumption
 ·cases h
theorem dD {T U:TypeId} {x:Operand} {k k':IntKind} {a:Int} (hT:wO P T=some k') (hU:wO P U=some k) (hx:evO N S x=some (.int k' a)):OpQ P w0 X N ⟨d,.convert T U x,ty,ps,af,gd⟩ S M (.int k (k.wrap a)) :=
 kU fun w _=>by simp [execOp,aZ hx,convert,run_underlying (HG hT),run_underlying (HG hU),Conv.intToInt]
theorem BU {T:TypeId} {f o n:Nat} (h:wB P T f=some (o,n)):∃ fs x i,P.underlying T=some (.struct fs)∧fs[f]? = some x∧P.info? x.type=some i∧x.offset=o∧i.size=n:=by
 unfold wB at h;split at h
 ·rename_i fs hd
  cases hf:fs[f]? with
  | none=>simp [hf] at h
  | some x =>
   cases hi:P.info? x.type with
   | none=>simp [hf,hi] at h
   | some i=>simp [hf,hi] at h;exact ⟨fs,x,i,hd,hf,hi,h.1,h.2⟩
 ·cases h
theorem bT {T:TypeId} {x:Operand} {f o n b off:Nat} (hT:wB P T f=some (o,n)) (hn:n≠0) (hx:evO N S x=some (.pointer (some ⟨b,off,none⟩))):OpQ P w0 X N ⟨d,.fieldAddr T x f,ty,ps,af,gd⟩ S M (.pointer (some ⟨b,off+o,none⟩)) :=
 kU fun w _=>by
  obtain ⟨fs,y,i,hd,hf,hi,ho,hs⟩:=BU hT
  simp [execOp,aZ hx,Instr.fieldAt,run_underlying hd,hf,Instr.sureAddr,fieldPlace,sizeOf,typeInfo,hi,hs,hn,ho,l8]
theorem wA {T n s:Nat} (h:yF P T=some (n,s)):∃ e i,P.underlying T=some (.array n e)∧P.info? e=some i∧i.size=s:=by
 unfold yF at h;split at h
 ·rename_i m e hd
  cases hi:P.info? e with
  | none=>simp [hi] at h
  | some i=>simp [hi] at h;obtain ⟨rfl,h2⟩:=h;exact ⟨e,i,hd,hi,h2⟩
 ·cases h
theorem nT {T s:Nat} (h:iK P T=some s):∃ e i,P.underlying T=some (.slice e)∧P.info? e=some i∧i.size=s:=by
 unfold iK at h;split at h
 ·rename_i e hd
  cases hi:P.info? e with
  | none=>simp [hi] at h
  | some i=>simp [hi] at h;exact ⟨e,i,hd,hi,h⟩
 ·cases h
theorem dS {T:TypeId} {x y:Operand} {n s b off:Nat} {k:IntKind} {i:Int} (hT:yF P T=some (n,s)) (hx:evO N S x=some (.pointer (some ⟨b,off,none⟩))) (hy:evO N S y=some (.int k i)) (h0:0≤i) (h1:i<n) :
  OpQ P w0 X N ⟨d,.indexAddr T x y,ty,ps,af,gd⟩ S M (.pointer (some ⟨b,off+i.toNat*s,none⟩)) :=
 kU fun w _=>by
  obtain ⟨e,q,hd,hi,hs⟩:=wA hT
  simp [execOp,aZ hx,aZ hy,Instr.indexAt,asIntOf,run_underlying hd,Instr.sureAddr,sizeOf,typeInfo,hi,hs,h0,h1,l8]
theorem z5 {T:TypeId} {x y:Operand} {s b off len cap:Nat} {k:IntKind} {i:Int} (hT:iK P T=some s) (hx:evO N S x=some (.slice (some ⟨b,off,none⟩) len cap)) (hy:evO N S y=some (.int k i)) (h0:0≤i) (h1:i<len) :
  OpQ P w0 X N ⟨d,.indexAddr T x y,ty,ps,af,gd⟩ S M (.pointer (some ⟨b,off+i.toNat*s,none⟩)) :=
 kU fun w _=>by
  obtain ⟨e,q,hd,hi,hs⟩:=nT hT
  simp [execOp,aZ hx,aZ hy,Instr.indexAt,asIntOf,run_underlying hd,sizeOf,typeInfo,hi,hs,h0,h1,l8]
theorem cU {T U:TypeId} {x:Operand} {s b off:Nat} {cs:List Value} {v:Value} (hT:gY P T=some (false,s)) (hx:evO N S x=some (.pointer (some ⟨b,off,none⟩))) (hm:(⟨b,U,cs⟩:Blk)∈M) (hc:cs[off]? = some v) :
  OpQ P w0 X N ⟨d,.load T x,ty,ps,af,gd⟩ S M v :=
 kU fun w hw=>by simp only [execOp,aZ hx,Sem.run_bind,yW (w:=w) hT (hw.mem _ hm) hc];rfl
theorem fM {T U:TypeId} {x:Operand} {n b off:Nat} {cs vs:List Value} (hT:gY P T=some (true,n)) (hx:evO N S x=some (.pointer (some ⟨b,off,none⟩))) (hm:(⟨b,U,cs⟩:Blk)∈M) (hv:(cs.drop off).take n=vs) (hl:vs.length=n) :
  OpQ P w0 X N ⟨d,.load T x,ty,ps,af,gd⟩ S M (.agg vs.toArray) :=
 kU fun w hw=>by simp only [execOp,aZ hx,Sem.run_bind,FY (w:=w) hT (hw.mem _ hm) hv hl];rfl
theorem VJ {x:Operand} {i:Nat} {vs:Array Value} {v:Value} (hx:evO N S x=some (.tuple vs)) (hv:vs[i]? = some v):OpQ P w0 X N ⟨d,.extract x i,ty,ps,af,gd⟩ S M v:=kU fun w _=>by simp [execOp,aZ hx,Instr.extract,hv]
theorem fI_ {x:Operand} {a:Addr} (hx:evO N S x=some (.pointer (some a))):OpQ P w0 X N ⟨d,.nilCheck x,ty,ps,af,gd⟩ S M (.pointer (some a)):=kU fun w _=>by simp [execOp,aZ hx]
theorem DM {T:TypeId} {x:Operand} {s len cap:Nat} {a:Option Addr} (hT:iK P T=some s) (hx:evO N S x=some (.slice a len cap)):OpQ P w0 X N ⟨d,.call { callee:=.builtin .len,args:=#[x],argTypes:=#[T] },ty,ps,af,gd⟩ S M (.int .i64 len) :=
 kU fun w _=>by
  obtain ⟨e,q,hd,hi,hs⟩:=nT hT
  simp [execOp,resolve,invoke,builtin,aZ hx,Builtin.len_,run_underlying hd,goInt]
def iJ (P:Program) (f:FuncId):Bool:=match P.funcs[f]? with
 | some fn => !(fn.name == "runtime.NumGoroutine") && fn.body.isSome
 | none=>false
theorem JD {f:FuncId} (h:iJ P f=true) (args:Array Value) (w:World):(callFunc f args).run P w = .ok (.enter f args) w:=by
 unfold iJ at h
 split at h
 ·rename_i fn hf
  simp only [Bool.and_eq_true,Bool.not_eq_true'] at h
  have hn:fn.body.isNone=false:=by cases hb:fn.body<;>simp_all
  simp only [callFunc,Sem.run_bind,run_program,Result.andThen_ok,hf,h.1,hn];rfl
 ·cases h
def Ret (P:Program) (f:FuncId) (args:List Value) (v:Value):Prop:=∀ w,Calls P f args.toArray w fun e w'=>e = .returned v∧Ext w w'
theorem uU {g:FuncId} {f:Operand} {xs:List Operand} {tys:Array TypeId} {args:List Value} {first cap:List Value} (he:iJ P g=true) (hf:ev N S f = .func (.func g) first.toArray cap.toArray)
  (ha:first++xs.map (ev N S)++cap=args) (w:World) :
  (execOp (ev N S) ⟨d,.call { callee:=.value f,args:=xs.toArray,argTypes:=tys },ty,ps,af,gd⟩).run P w = .ok (.enter g args.toArray) w:=by
 have:first.toArray++Array.map (ev N S) xs.toArray++cap.toArray=args.toArray:=by rw [← ha];simp
 simp only [execOp,resolve,hf,Deferred.ofValue,Sem.run_bind,Sem.run_pure,Result.andThen_ok,invoke,this,JD he]
theorem eH {g:FuncId} {xs:List Operand} {tys:Array TypeId} {args:List Value} {v:Value} (he:iJ P g=true) (ha:evL N S xs=some args)
  (h:∀ w,Sat w0 X M w→Calls P g args.toArray w fun e w'=>e = .returned v∧Ext w w'):OpQ P w0 X N ⟨d,.call { callee:=.value (.func g),args:=xs.toArray,argTypes:=tys },ty,ps,af,gd⟩ S M v:=by
 intro w hw;unfold opw;rw [gT,uU (first:=[]) (cap:=[]) he O (by simpa using pB ha)];exact (h w hw).mono fun e w' ⟨h1,h2⟩=>⟨v,h1,rfl,h2⟩
theorem aW {g:FuncId} {xs:List Operand} {tys:Array TypeId} {args:List Value} {v:Value} (he:iJ P g=true) (h:Ret P g args v) (ha:evL N S xs=some args) :
 OpQ P w0 X N ⟨d,.call { callee:=.value (.func g),args:=xs.toArray,argTypes:=tys },ty,ps,af,gd⟩ S M v:=eH he ha fun w _=>h w
theorem xU {g:FuncId} {xs:List Operand} {tys:Array TypeId} {args:List Value} {K:Value→List Blk→Prop} (he:iJ P g=true) (ha:evL N S xs=some args)
  (h:∀ w,Sat w0 X M w→Calls P g args.toArray w fun e w'=>∃ v M',e = .returned v∧Sat w0 X M' w'∧KeepsOthers w w'∧K v M'):OpR P w0 X N ⟨d,.call { callee:=.value (.func g),args:=xs.toArray,argTypes:=tys },ty,ps,af,gd⟩ S M K:=by
 intro w hw;unfold opw;rw [gT,uU (first:=[]) (cap:=[]) he O (by simpa using pB ha)];exact (h w hw).mono fun e w' ⟨v,M',h1,h2,h4,h3⟩=>⟨v,h1,h4,M',h2,h3⟩
theorem gW {T:TypeId} {x:Operand} {v:Value} {cs:List Value} {K:Value→List Blk→Prop} (hx:evO N S x=some v) (hv:v.cells=cs.toArray) (k:∀ b,w0.heap.size≤b→K (.pointer (some ⟨b,0,none⟩)) (⟨b,T,cs⟩::M)) :
  OpR P w0 X N ⟨d,.box T x,ty,ps,af,gd⟩ S M K:=by
 intro w hw;unfold opw
 have hrun:(execOp (ev N S) ⟨d,.box T x,ty,ps,af,gd⟩).run P w = .ok (.value (.pointer (some ⟨w.heap.size,0,none⟩))) (w.alloc (.cells cs.toArray T)):=by
  simp [execOp,Instr.box,newVar,newRow,newObj,aZ hx,hv,Sem.run]
 rw [gT,hrun];exact ⟨.alloc _ _,_,hw.alloc T cs,k _ hw.size⟩
def jD (P:Program) (T:TypeId):Option (List Value):=(P.info? T).bind fun i=>i.zero.map fun v=>v.cells.toList
theorem tX {T:TypeId} {cs:List Value} (h:jD P T=some cs):∃ i v,P.info? T=some i∧i.zero=some v∧v.cells=cs.toArray:=by
 unfold jD at h
 cases hi:P.info? T with
 | none=>simp [hi] at h
 | some i =>
  cases hz:i.zero with
  | none=>simp [hi,hz] at h
  | some v=>simp [hi,hz] at h;exact ⟨i,v,rfl,hz,by rw [← h]⟩
theorem dL {T:TypeId} {cs:List Value} {K:Value→List Blk→Prop} (hT:jD P T=some cs) (k:∀ b,w0.heap.size≤b→K (.pointer (some ⟨b,0,none⟩)) (⟨b,T,cs⟩::M)) :
  OpR P w0 X N ⟨d,.alloc T,ty,ps,af,gd⟩ S M K:=by
 intro w hw;obtain ⟨i,z,hi,hz,hc⟩:=tX hT;unfold opw
 have hrun:(execOp (ev N S) ⟨d,.alloc T,ty,ps,af,gd⟩).run P w = .ok (.value (.pointer (some ⟨w.heap.size,0,none⟩))) (w.alloc (.cells cs.toArray T)):=by
  simp [execOp,Instr.alloc,zeroValue,typeInfo,hi,hz,newVar,newRow,newObj,hc,Sem.run]
 rw [gT,hrun];exact ⟨.alloc _ _,_,hw.alloc T cs,k _ hw.size⟩
theorem BA {w:World} {b:Nat} {cs:Array Value} {T:TypeId} {e:Nat×Nat} {xs:Array Value} (h:w.heap[b]? = some (.cells cs T e)):KeepsOthers w (w.setRow b xs) :=
 ⟨by simp only [World.setRow,Array.size_modify];exact Nat.le_refl _,fun k o hk ho=>by
  by_cases e:k=b
  ·subst e;rw [h] at hk;cases hk;cases ho
  simp only [World.setRow,Array.getElem?_modify];rw [if_neg (fun e'=>e e'.symm)];exact hk⟩
theorem ET {T U:TypeId} {x y:Operand} {g:Bool} {n b off:Nat} {cs vs cs':List Value} {M':List Blk} {v:Value} {K:Value→List Blk→Prop} (hT:gY P T=some (g,n)) (hx:evO N S x=some (.pointer (some ⟨b,off,none⟩))) (hu:Upd b U cs cs' M M')
  (hy0:evO N S y=some v) (hy:v.cells=vs.toArray) (hl:vs.length=n) (hp:∀ v∈vs,plain v=true) (ho:off+n≤cs.length) (hc:cs.take off++vs++cs.drop (off+n)=cs') (hb:w0.heap.size≤b∨b∈X) (k:K undef M') :
  OpR P w0 X N ⟨d,.store T x y,ty,ps,af,gd⟩ S M K:=by
 intro w hw;unfold opw
 have hrun:(execOp (ev N S) ⟨d,.store T x y,ty,ps,af,gd⟩).run P w = .ok .skip (w.setRow b cs'.toArray):=by
  simp only [execOp,aZ hx,aZ hy0,Sem.run_bind,V1 (w:=w) hT (hw.mem _ hu.mem) hy hl hp ho,hc];rfl
 rw [gT,hrun];exact ⟨BA (hw.mem _ hu.mem),M',hw.set hu hb,k⟩
theorem GO {T U:TypeId} {x y:Operand} {b off:Nat} {cs:List Value} {v:Value} {M':List Blk} {K:Value→List Blk→Prop} (hT:gY P T=some (false,1)) (hx:evO N S x=some (.pointer (some ⟨b,off,none⟩)))
  (hy:evO N S y=some v) (hp:plain v=true) (hu:Upd b U cs (cs.set off v) M M') (ho:off<cs.length) (hb:w0.heap.size≤b∨b∈X) (k:K undef M') :
  OpR P w0 X N ⟨d,.store T x y,ty,ps,af,gd⟩ S M K :=
 ET (vs:=[v]) hT hx hu hy (by cases v<;>first|rfl|cases hp) O (by simpa using hp) (by omega) (by
  rw [List.set_eq_take_append_cons_drop,if_pos ho];simp) hb k
theorem bE {T U:TypeId} {x y:Operand} {n b:Nat} {cs vs:List Value} {M':List Blk} {K:Value→List Blk→Prop} (hT:gY P T=some (true,n)) (hx:evO N S x=some (.pointer (some ⟨b,0,none⟩)))
  (hy:evO N S y=some (.agg vs.toArray)) (hu:Upd b U cs vs M M') (hl:vs.length=n) (ho:cs.length=n) (hp:∀ v∈vs,plain v=true) (hb:w0.heap.size≤b∨b∈X) (k:K undef M') :
  OpR P w0 X N ⟨d,.store T x y,ty,ps,af,gd⟩ S M K :=
 ET (vs:=vs) hT hx hu hy O hl hp (by omega) (by simp [← ho]) hb k
theorem bU {T U:TypeId} {x:Operand} {n b:Nat} {cs:List Value} (hT:gY P T=some (true,n)) (hx:evO N S x=some (.pointer (some ⟨b,0,none⟩))) (hm:(⟨b,U,cs⟩:Blk)∈M) (hl:cs.length=n) :
 OpQ P w0 X N ⟨d,.load T x,ty,ps,af,gd⟩ S M (.agg cs.toArray):=fM hT hx hm (by simp [← hl]) hl
end
section
variable {α:Type} {x a0 a1 a2 a3 a4 a5 a6 a7 a8 a9 a10 a11 a12 a13:α} {l:List α}
theorem m0:x∈x::l:=List.mem_cons_self
theorem m1:x∈a0::x::l:=List.mem_cons_of_mem _ m0
theorem m2:x∈a0::a1::x::l:=List.mem_cons_of_mem _ m1
theorem m3:x∈a0::a1::a2::x::l:=List.mem_cons_of_mem _ m2
theorem m4:x∈a0::a1::a2::a3::x::l:=List.mem_cons_of_mem _ m3
theorem m5:x∈a0::a1::a2::a3::a4::x::l:=List.mem_cons_of_mem _ m4
end
section
variable {P:Program} {w0:World} {X:List Nat} {N:Nm}
def kP (P:Program) (fn:Func) (w0:World) (X:List Nat) (N:Nm) (R:Value→List Blk→Prop):kI:=fun e S M =>
 (e = .normal∨e = .ret)∧∃ v,(∀ w,Sat w0 X M w→(results fn (act N S).tmps).run P w = .ok v w)∧R v M
def nV:Nat→List Value→Fr
 | _,[]=>[]
 | i,v::l=>(i,v)::nV (i+1) l
theorem RA (l:List Value):∀ (k i:Nat),look (nV k l) (k+i)=l.getD i undef:=by
 induction l with
 | nil=>intro k i;rfl
 | cons v l ih =>
  intro k i;simp only [nV,oX]
  cases i with
  | zero=>simp
  | succ i =>
   rw [if_neg (by omega),show k+(i+1)=(k+1)+i by omega,ih]
   simp
theorem IB (D:List Deferred) (N:Nm) (args:List Value) (hl:args.length≤N.n):kJ D N (nV 0 args) = { tmps:=args.toArray++Array.replicate (N.n - args.toArray.size) undef,defers:=D }:=by
 unfold kJ
 congr 1
 apply Array.ext'
 apply List.ext_getElem?
 intro i;have h:=RA args 0 i;rw [Nat.zero_add] at h;simp only [List.getElem?_map,Array.toList_append,Array.toList_replicate,List.size_toArray]
 by_cases hi:i<N.n
 ·rw [List.getElem?_range hi,Option.map_some,h]
  by_cases h2:i<args.length
  ·rw [List.getElem?_append_left h2];simp [h2]
  rw [List.getElem?_append_right (by omega),List.getElem?_replicate,if_pos (by omega)]
  simp [List.getD,List.getElem?_eq_none (Nat.le_of_not_lt h2)]
 rw [List.getElem?_eq_none (by simp;omega),List.getElem?_eq_none (by simp;omega)];rfl
theorem Sat.shut {M:List Blk} {w:World} {b:Nat} {o:Option (List Deferred)} (h:Sat w0 X M w) (hb:w0.heap.size≤b) (hd:w.heap[b]? = some (.deferred o)) (o':Option (List Deferred)):Sat w0 X M (w.putObj b (.deferred o')) :=
 ⟨h.os,h.tape,h.output,by rw [World.putObj_size];exact h.size,fun k hk hx=>(World.putObj_heap_other (by omega)).trans (h.old k hk hx),h.nodup,fun x hx=>by
  refine (World.putObj_heap_other (fun e=>?_)).trans (h.mem x hx);have:=h.mem x hx
  rw [e,hd] at this;cases this⟩
theorem I3 {fn:Func} {tmps:Array Value} {w:World} {M:List Blk} {v:Value} {R:Value→List Blk→Prop} (hB:w0.heap.size≤w.heap.size) (hv:∀ w,Sat w0 X M w→(results fn tmps).run P w = .ok v w) (hr:R v M):∀ (D:List Deferred) (w':World),DG w.heap.size D w'→Sat w0 X M w'→KeepsOthers w w' →
  LeavesInM Fence.wide 0 P fn tmps (fun e w'=>∃ v M',e = .returned v∧Sat w0 X M' w'∧KeepsOthers w w'∧R v M') D .returning w'
 | [],w',_,hs,hk=>⟨v,hv w' hs,v,M,rfl,hs,hk,hr⟩
 | d::D,w',⟨⟨b,h1,h2,h3,h4⟩,hd⟩,hs,hk=>by
  refine ⟨by simp,.inl ⟨b,w'.putObj b (.deferred none),by rw [h1],run_takeDeferred h3,I3 hB hv hr D _ ?_ (hs.shut (Nat.le_trans hB h2) h3 _) ?_⟩⟩
  ·clear h1 hs hk
   revert hd h4
   induction D with
   | nil=>exact fun _ _=>trivial
   | cons e D ih =>
    rintro h4 ⟨⟨b',g1,g2,g3,g4⟩,hd⟩;refine ⟨⟨b',g1,g2,(World.putObj_heap_other (fun e'=>?_)).trans g3,g4⟩,ih (fun x hx=>h4 x (List.mem_cons_of_mem _ hx)) hd⟩;exact h4 e List.mem_cons_self (by rw [g1,e'])
  refine ⟨Nat.le_trans hk.size (by rw [World.putObj_size];exact Nat.le_refl _),fun k o hk' ho=>(World.putObj_heap_other (fun e=>?_)).trans (hk.same k o hk' ho)⟩;have:=cL? hk';omega
theorem gU {N:Nat} {f:FuncId} {fn:Func} {c:Code} {args:List Value} {w:World} {M:List Blk} {R:Value→List Blk→Prop} (hf:P.funcs[f]? = some fn) (hb:fn.body=some c) (hn:fn.ntmps=N) (hl:args.length≤N) (hw:Sat w0 X M w)
  (h:W P w0 X (pl N) c (kP P fn w0 X (pl N) R) (nV 0 args) M):Calls P f args.toArray w fun e w'=>∃ v M',e = .returned v∧Sat w0 X M' w'∧KeepsOthers w w'∧R v M':=by
 refine callsIn_wide.1 (callsIn_of_wp_marks (F:=Fence.wide) (n:=0) hf hb trivial ?_ O);have h1:=h w.heap.size [] w (Nat.le_refl _) trivial ⟨fun _ _ h=>(by cases h),trivial⟩ hw;rw [IB [] (pl N) args hl] at h1;rw [hn];refine wpIn_mono h1 ?_;rintro e a w' ⟨D,S,M',rfl,hs,hk,hd,hr,hne,v,hv,hR⟩;have hk':KeepsOthers w w':=⟨hk.size,fun k o h1 h2=>hk.same k o (fun e=>e) h1 h2⟩;have key:=I3 (R:=R) hw.size hv hR D w' hd hs hk';rcases hne with rfl|rfl
 ·exact key
 exact key
theorem bG {N:Nat} {f:FuncId} {fn:Func} {c:Code} {args:List Value} {v:Value} (hf:P.funcs[f]? = some fn) (hb:fn.body=some c) (hn:fn.ntmps=N) (hl:args.length≤N)
  (h:∀ w0,W P w0 [] (pl N) c (kP P fn w0 [] (pl N) fun u _=>u=v) (nV 0 args) []):Ret P f args v:=fun w =>
 (gU hf hb hn hl (Sat.start w []) (h w)).mono fun e w' ⟨u,M',he,hs,_,hu⟩=>⟨by rw [he,hu],hs.ext⟩
def w5 (P:Program) (N:Nm) (S:Fr) (M:List Blk):ResultVar→Value→Prop
 | .tmp t,v=>evO N S (.tmp t)=some v
 | .cell a T,v=>∃ b off cs U g n,evO N S (.tmp a)=some (.pointer (some ⟨b,off,none⟩))∧(⟨b,U,cs⟩:Blk)∈M∧gY P T=some (g,n) ∧
  (match g with|true=>∃ vs,(cs.drop off).take n=vs∧vs.length=n∧v = .agg vs.toArray|false=>cs[off]? = some v)
def MB (tmps:Array Value):ResultVar→Sem Value
 | .tmp t=>pure (tmps.getD t undef)
 | .cell a t=>do loadVar t (← asAddr (tmps.getD a undef))
theorem sP (fn:Func) (tmps:Array Value):results fn tmps=(do let vs ← fn.results.mapM (MB tmps);pure (if h:vs.size=1 then vs[0] else .tuple vs)):=rfl
theorem UE (N:Nm) (S:Fr) (t:Tmp):(act N S).tmps.getD t undef=ev N S (.tmp t):=by rw [← gT];rfl
theorem MF {S:Fr} {M:List Blk} {r:ResultVar} {v:Value} (h:w5 P N S M r v) {w:World} (hw:Sat w0 X M w):(MB (act N S).tmps r).run P w = .ok v w:=by
 cases r with
 | tmp t=>simp only [w5] at h;simp only [MB,UE,aZ h];rfl
 | cell a T =>
  obtain ⟨b,off,cs,U,g,n,hp,hm,hT,hv⟩:=h;simp only [MB,UE,aZ hp,asAddr,Sem.run_bind,Sem.run_pure,Result.andThen_ok]
  cases g with
  | true =>
   obtain ⟨vs,h1,h2,rfl⟩:=hv;have:=FY (w:=w) hT (hw.mem _ hm) h1 h2
   simpa [Instr.loadAt,Instr.sureAddr] using this
  | false =>
   have:=yW (w:=w) hT (hw.mem _ hm) hv
   simpa [Instr.loadAt,Instr.sureAddr] using this
theorem ad_ {fn:Func} {R:Value→List Blk→Prop} {S:Fr} {M:List Blk} {r:ResultVar} {v:Value} {e:Exit} (hr:fn.results = #[r]) (he:e = .normal∨e = .ret) (h:w5 P N S M r v) (k:R v M):kP P fn w0 X N R e S M :=
 ⟨he,v,fun w hw=>by
  have:=MF h hw
  simp [sP,hr,List.mapM_toArray,List.mapM_cons,List.mapM_nil,this],k⟩
theorem rB {fn:Func} {R:Value→List Blk→Prop} {S:Fr} {M:List Blk} {r1 r2:ResultVar} {v1 v2:Value} {e:Exit} (hr:fn.results = #[r1,r2]) (he:e = .normal∨e = .ret) (h1:w5 P N S M r1 v1) (h2:w5 P N S M r2 v2)
  (k:R (.tuple #[v1,v2]) M):kP P fn w0 X N R e S M :=
 ⟨he,_,fun w hw=>by
  have a1:=MF h1 hw;have a2:=MF h2 hw
  simp [sP,hr,List.mapM_toArray,List.mapM_cons,List.mapM_nil,a1,a2],k⟩
end
section
variable {P:Program} {w0:World} {X:List Nat} {N:Nm}
def uI (S:Fr) (g:Nat→Value):List Nat→Fr
 | []=>S
 | i::l=>(i,g i)::uI S g l
inductive PutOn (mods:List Nat) (S0:Fr):Fr→Prop where
 | refl:PutOn mods S0 S0
 | cons {d:Nat} {v:Value} {S:Fr} (h:mods.contains d=true) (k:PutOn mods S0 S):PutOn mods S0 ((d,v)::S)
theorem PutOn.look {mods:List Nat} {S0 S:Fr} (h:PutOn mods S0 S) {i:Nat} (hi:mods.contains i=false):look S i=look S0 i:=by
 induction h with
 | refl=>rfl
 | cons h _ ih=>rw [oX,if_neg (fun e=>by subst e;rw [h] at hi;cases hi)];exact ih
theorem r6 (S:Fr) (g:Nat→Value) (i:Nat):∀ l:List Nat,look (uI S g l) i=if l.contains i then g i else look S i
 | []=>by simp [uI]
 | j::l=>by
  simp only [uI,oX]
  by_cases h:j=i
  ·subst h;simp
  rw [if_neg h,r6 S g i l];have h':¬ i=j:=fun e=>h e.symm
  simp [h']
theorem H3 {mods:List Nat} {S0 S:Fr} {g:Nat→Value} (h:PutOn mods (uI S0 g mods) S) :∀ i,look S i=look (uI S0 (look S) mods) i:=by
 intro i;rw [r6]
 cases hc:mods.contains i
 ·rw [h.look hc,r6,hc];rfl
 rfl
theorem AI {c:Code} {Q:kI} {S S':Fr} {M:List Blk} (h:∀ i,look S i=look S' i) (k:W P w0 X N c Q S' M):W P w0 X N c Q S M:=fun B D w hB hd hr hw=>by rw [QD h];exact k B D w hB hd (hr.keeps (KeepsOthers.refl w) (U3 h).symm) hw
theorem cE {Q:kI} {S0:Fr} {M0:List Blk} {c:Code} (mods:List Nat) (R:(Nat→Value)→Nat→List Blk→Prop) (n:Nat)
  (start:∃ M',M'.Sublist M0∧R (look S0) n M')
  (round:∀ n g M,R g n M→W P w0 X N c (tA (fun S' M'=>PutOn mods (uI S0 g mods) S'∧∃ M'' m,M''.Sublist M'∧m<n∧R (look S') m M'') Q) (uI S0 g mods) M):W P w0 X N (.loop c) Q S0 M0:=by
 refine WJ (fun n S M=>∃ g,(∀ i,look S i=look (uI S0 g mods) i)∧R g n M) n ?_ ?_
 ·obtain ⟨M',hs,hr⟩:=start
  refine ⟨M',hs,_,fun i=>?_,hr⟩;rw [r6];split<;>rfl
 rintro n S M ⟨g,he,hr⟩;refine AI he (BZ (round n g M hr) ?_);intro e S M h
 cases e with
 | normal=>obtain ⟨hp,M'',m,hs,hl,hr⟩:=h;exact ⟨M'',m,hs,hl,_,H3 hp,hr⟩
 | exit id=>exact h
 | goto l=>exact h
 | ret=>exact h
 | panic c=>exact h
 | outgrown=>exact h
theorem sW {mods:List Nat} {S0 S:Fr} (h:PutOn mods S0 S) :∀ i,look S i=look (uI S0 (look S) mods) i:=by
 intro i;rw [r6]
 cases hc:mods.contains i
 ·rw [h.look hc];rfl
 rfl
theorem kF {Q:kI} {S0:Fr} {M0:List Blk} {x y:Code} (mods:List Nat) (R:(Nat→Value)→List Blk→Prop)
  (hx:∀ K:Fr→List Blk→Prop,(∀ S M,PutOn mods S0 S→(∃ M',M'.Sublist M∧R (look S) M')→K S M)→W P w0 X N x (tA K Q) S0 M0)
  (hy:∀ g M,R g M→W P w0 X N y Q (uI S0 g mods) M):W P w0 X N (.seq x y) Q S0 M0:=by
 refine WM fun K hK=>BZ (hx (fun S M=>PutOn mods S0 S∧∃ M',M'.Sublist M∧R (look S) M') (fun S M h1 h2=>⟨h1,h2⟩)) ?_;intro e S M h
 cases e with
 | normal =>
  obtain ⟨hp,M',hs,hr⟩:=h;exact hK S M (AI (sW hp) (fQ hs (hy _ _ hr)))
 | exit id=>exact h
 | goto l=>exact h
 | ret=>exact h
 | panic c=>exact h
 | outgrown=>exact h
theorem UB {id:Nat} {K:Fr→List Blk→Prop} {Q:kI} {S:Fr} {M:List Blk} (h:Q (.exit id) S M):tA K Q (.exit id) S M:=h
theorem UA {K:Fr→List Blk→Prop} {Q:kI} {S:Fr} {M:List Blk} (h:Q .ret S M):tA K Q .ret S M:=h
theorem NJ {id:Nat} {Q:kI} {S:Fr} {M:List Blk} (h:Q .ret S M):B5 id Q .ret S M:=h
theorem E9 {id:Nat} {Q:kI} {S:Fr} {M:List Blk} (h:Q .normal S M):B5 id Q (.exit id) S M:=by show (if id=id then _ else _);rw [if_pos O];exact h
theorem C4 {id id':Nat} {Q:kI} {S:Fr} {M:List Blk} (hn:id'≠id) (h:Q (.exit id') S M):B5 id Q (.exit id') S M:=by show (if id'=id then _ else _);rw [if_neg hn];exact h
end
open Go.RowKit
abbrev nW:=Option IntKind
def vN:Value→nW→Bool
 | .bool _,none=>true
 | .int k _,some k'=>k==k'
 | _,_=>false
def eY:List Value→List nW→Bool
 | [],[]=>true
 | v::vs,l::ls=>vN v l&&eY vs ls
 | _,_=>false
theorem pF:∀ {vs:List Value} {ls:List nW},eY vs ls=true→vs.length=ls.length
 | [],[],_=>rfl
 | v::vs,l::ls,h=>by simp only [eY,Bool.and_eq_true] at h;simp [pF h.2]
 | [],_::_,h=>by cases h
 | _::_,[],h=>by cases h
theorem wJ:∀ {vs us:List Value} {ls ms:List nW},eY vs ls=true→eY us ms=true→eY (vs++us) (ls++ms)=true
 | [],_,[],_,_,h=>h
 | v::vs,_,l::ls,_,h,k=>by
  simp only [eY,Bool.and_eq_true,List.cons_append] at *;exact ⟨h.1,wJ h.2 k⟩
 | [],_,_::_,_,h,_=>by cases h
 | _::_,_,[],_,h,_=>by cases h
theorem nB:∀ {ls ms:List nW} {vs:List Value},eY vs (ls++ms)=true→eY (vs.take ls.length) ls=true∧eY (vs.drop ls.length) ms=true
 | [],ms,vs,h=>⟨by simp [eY],by simpa using h⟩
 | l::ls,ms,[],h=>by cases h
 | l::ls,ms,v::vs,h=>by
  simp only [eY,List.cons_append,Bool.and_eq_true] at h;obtain ⟨h1,h2⟩:=nB h.2;exact ⟨by simp [eY,h.1,h1],by simpa using h2⟩
def xD (P:Program) (f:TypeId→Option (Bool×List nW)):List Field→Nat→Option (List nW)
 | [],_=>some []
 | x :: fs, off => if x.name = "_" ∨ x.offset ≠ off then none else
  (f x.type).bind fun (_,l)=>if (P.info? x.type).map (·.size)=some l.length then (xD P f fs (off+l.length)).map (l ++ ·) else none
def jV (P:Program):Nat→TypeId→Option (Bool×List nW)
 | 0,_=>none
 | d+1,T=>match P.underlying T with
  | some .bool=>some (false,[none])
  | some (.int k)=>some (false,[some k])
  | some (.array n e)=>(jV P d e).bind fun (_,l)=>if (P.info? e).map (·.size)=some l.length then some (true,(List.replicate n l).flatten) else none
  | some (.struct fs)=>if P.stoodInHeld T then none else (xD P (jV P d) fs.toList 0).map fun l=>(true,l)
  | _=>none
def mkT (g:Bool) (vs:List Value):Value:=if g then .agg vs.toArray else vs.headD undef
theorem xC {vs:List Value} {l:nW} (h:eY vs [l]=true):∃ v,vs=[v]∧vN v l=true:=by
 cases vs with
 | nil=>cases h
 | cons v vs =>
  simp only [eY,Bool.and_eq_true] at h
  cases vs with
  | nil=>exact ⟨v,rfl,h.1⟩
  | cons u us=>cases h.2
def EqT (P:Program) (dd:Nat) (T:TypeId) (g:Bool) (ls:List nW):Prop :=
 ∀ (w:World) (xs ys:List Value),eY xs ls=true→eY ys ls=true→∃ r:Bool,(Op.equalIn dd T (mkT g xs) (mkT g ys)).run P w = .ok r w∧(r=true ↔ xs=ys)
theorem Q7 {P:Program}:∀ {d:Nat} {T:TypeId} {g:Bool} {ls:List nW},jV P d T=some (g,ls)→∃ desc,P.underlying T=some desc∧YU desc=g∧(g=false→ls.length=1)
 | 0,_,_,_,h=>by simp [jV] at h
 | d+1,T,g,ls,h=>by
  unfold jV at h
  split at h
  ·rename_i hu;cases h;exact ⟨_,hu,rfl,fun _=>rfl⟩
  ·rename_i k hu;cases h;exact ⟨_,hu,rfl,fun _=>rfl⟩
  ·rename_i n e hu
   obtain ⟨⟨g',l⟩,_,h2⟩:=Option.bind_eq_some_iff.1 h
   dsimp only at h2
   split at h2
   ·cases h2;exact ⟨_,hu,rfl,fun h=>by cases h⟩
   ·cases h2
  ·rename_i fs hu
   split at h
   ·cases h
   obtain ⟨l,_,h2⟩:=Option.map_eq_some_iff.1 h
   cases h2;exact ⟨_,hu,rfl,fun h=>by cases h⟩
  ·cases h
theorem q5 {P:Program} {d:Nat} {T:TypeId} {g:Bool} {ls:List nW} {i:TypeInfo} (h:jV P d T=some (g,ls)) (hi:P.info? T=some i) (hs:i.size=ls.length) {xs:List Value} {off:Nat} (hx:eY ((xs.drop off).take ls.length) ls=true) (w:World) :
  (part T xs.toArray off).run P w = .ok (mkT g ((xs.drop off).take ls.length)) w:=by
 obtain ⟨desc,hu,hg,hl1⟩:=Q7 h
 have ha:(isAgg T).run P w = .ok g w:=by
  unfold isAgg;simp only [Sem.run_bind,run_underlying hu,Result.andThen_ok];rw [← hg];cases desc<;>rfl
 have hz:(sizeOf T).run P w = .ok ls.length w:=by simp [sizeOf,typeInfo,hi,hs]
 unfold part;simp only [Sem.run_bind,ha,Result.andThen_ok]
 cases g with
 | true =>
  simp only [if_true,Sem.run_bind,hz,Result.andThen_ok,Sem.run_pure,mkT]
  congr 2
  simp [List.extract]
 | false =>
  have hl:=hl1 O
  obtain ⟨l,rfl⟩:∃ l,ls=[l]:=by
   match ls,hl with
   | [l],_=>exact ⟨l,rfl⟩
  obtain ⟨v,hv,_⟩:=xC hx
  have hget:xs.toArray[off]? = some v:=by
   have:((xs.drop off).take 1)[0]? = some v:=by
    have hv':=hv;simp only [List.length_singleton] at hv';rw [hv'];rfl
   simpa using this
  simp only [Bool.false_eq_true,if_false,hget,Sem.run_pure];rw [hv];rfl
theorem cH_ {P:Program} {d dd:Nat} (IH:∀ {T:TypeId} {g:Bool} {ls:List nW},jV P d T=some (g,ls)→EqT P dd T g ls):∀ (fs:List Field) (off:Nat) (ls:List nW),xD P (jV P d) fs off=some ls →
  ∀ (w:World) (xs ys:List Value),eY (xs.drop off) ls=true→eY (ys.drop off) ls=true→∃ r:Bool,(Op.eqFields dd xs.toArray ys.toArray fs).run P w = .ok r w∧(r=true ↔ xs.drop off=ys.drop off)
 | [],off,ls,h,w,xs,ys,hx,hy=>by
  simp only [xD] at h;cases h;have h1:=pF hx;have h2:=pF hy;exact ⟨true,by simp [Op.eqFields],by rw [List.length_eq_zero_iff.1 h1,List.length_eq_zero_iff.1 h2];simp⟩
 | f::fs,off,ls,h,w,xs,ys,hx,hy=>by
  simp only [xD] at h
  split at h
  ·cases h
  rename_i hn
  obtain ⟨⟨g,l⟩,hl,h2⟩:=Option.bind_eq_some_iff.1 h
  dsimp only at h2
  split at h2
  ·rename_i hsz
   obtain ⟨rest, hrest, rfl⟩ := Option.map_eq_some_iff.1 h2;have hname : f.name ≠ "_" := fun e => hn (.inl e)
   have hoff:f.offset=off:=Classical.byContradiction fun e=>hn (.inr e);obtain ⟨i,hi,hs⟩:=Option.map_eq_some_iff.1 hsz;obtain ⟨hx1,hx2⟩:=nB hx;obtain ⟨hy1,hy2⟩:=nB hy;rw [List.drop_drop] at hx2 hy2;obtain ⟨r1,hr1,e1⟩:=IH hl w _ _ hx1 hy1;obtain ⟨r2,hr2,e2⟩:=cH_ IH fs (off+l.length) rest hrest w xs ys hx2 hy2;have p1:=q5 hl hi hs (off:=off) hx1 w;have p2:=q5 hl hi hs (off:=off) hy1 w
   have key:xs.drop off=ys.drop off ↔ (xs.drop off).take l.length=(ys.drop off).take l.length∧xs.drop (off+l.length)=ys.drop (off+l.length):=by
    rw [← List.drop_drop,← List.drop_drop]
    constructor
    ·intro e;rw [e];exact ⟨rfl,rfl⟩
    rintro ⟨a,b⟩;rw [← List.take_append_drop l.length (xs.drop off),← List.take_append_drop l.length (ys.drop off),a,b]
   simp only [Op.eqFields,hname,ne_eq,not_false_eq_true,if_true,Sem.run_bind,hoff,p1,p2,hr1,Result.andThen_ok]
   cases r1
   ·exact ⟨false,by simp,by simp only [Bool.false_eq_true,false_iff];intro e;exact absurd (e1.2 (key.1 e).1) (by simp)⟩
   refine ⟨r2,by simpa using hr2,?_⟩;rw [e2,key];simp [e1.1 O]
  ·cases h2
theorem OF {P:Program} {dd:Nat} {d:Nat} {e:TypeId} {g:Bool} {l:List nW} {i:TypeInfo} (hl:jV P d e=some (g,l)) (hi:P.info? e=some i) (hs:i.size=l.length) (IH:EqT P dd e g l):∀ (n k:Nat)
  (w:World) (xs ys:List Value),eY (xs.drop (k*l.length)) (List.replicate n l).flatten=true→eY (ys.drop (k*l.length)) (List.replicate n l).flatten=true →
  ∃ r:Bool,(Op.eqItems dd e l.length xs.toArray ys.toArray (List.range' k n)).run P w = .ok r w∧(r=true ↔ xs.drop (k*l.length)=ys.drop (k*l.length))
 | 0,k,w,xs,ys,hx,hy=>by
  have h1:=pF hx;have h2:=pF hy;simp only [List.replicate_zero,List.flatten_nil,List.length_nil] at h1 h2;exact ⟨true,by simp [Op.eqItems],by rw [List.length_eq_zero_iff.1 h1,List.length_eq_zero_iff.1 h2];simp⟩
 | n+1,k,w,xs,ys,hx,hy=>by
  rw [List.replicate_succ,List.flatten_cons] at hx hy;obtain ⟨hx1,hx2⟩:=nB hx;obtain ⟨hy1,hy2⟩:=nB hy;rw [List.drop_drop,← Nat.succ_mul] at hx2 hy2;obtain ⟨r1,hr1,e1⟩:=IH w _ _ hx1 hy1;obtain ⟨r2,hr2,e2⟩:=OF hl hi hs IH n (k+1) w xs ys hx2 hy2;have p1:=q5 hl hi hs (off:=k*l.length) hx1 w;have p2:=q5 hl hi hs (off:=k*l.length) hy1 w
  have key:xs.drop (k*l.length)=ys.drop (k*l.length) ↔ (xs.drop (k*l.length)).take l.length=(ys.drop (k*l.length)).take l.length∧xs.drop ((k+1)*l.length)=ys.drop ((k+1)*l.length):=by
   rw [Nat.succ_mul,← List.drop_drop,← List.drop_drop]
   constructor
   ·intro e;rw [e];exact ⟨rfl,rfl⟩
   rintro ⟨a,b⟩;rw [← List.take_append_drop l.length (xs.drop (k*l.length)),← List.take_append_drop l.length (ys.drop (k*l.length)),a,b]
  simp only [List.range'_succ,Op.eqItems,Sem.run_bind,p1,p2,hr1,Result.andThen_ok]
  cases r1
  ·exact ⟨false,by simp,by simp only [Bool.false_eq_true,false_iff];intro e;exact absurd (e1.2 (key.1 e).1) (by simp)⟩
  refine ⟨r2,by simpa using hr2,?_⟩;rw [e2,key];simp [e1.1 O]
theorem QO {P:Program} (x:Nat):∀ (d:Nat) {T:TypeId} {g:Bool} {ls:List nW},jV P d T=some (g,ls)→EqT P (x+d) T g ls
 | 0,_,_,_,h=>by simp [jV] at h
 | d+1,T,g,ls,h=>by
  intro w xs ys hx hy;rw [← Nat.add_assoc];have h0:=h;unfold jV at h
  split at h
  ·rename_i hu
   cases h
   obtain ⟨u,rfl,hu1⟩:=xC hx;obtain ⟨v,rfl,hv1⟩:=xC hy
   cases u<;>simp only [vN,Bool.false_eq_true] at hu1
   cases v<;>simp only [vN,Bool.false_eq_true] at hv1
   rename_i a b
   exact ⟨a==b,by simpa [mkT] using run_equalIn_bool' w (x+d) T a b hu,by simp⟩
  ·rename_i k hu
   cases h
   obtain ⟨u,rfl,hu1⟩:=xC hx;obtain ⟨v,rfl,hv1⟩:=xC hy
   cases u<;>simp only [vN,Bool.false_eq_true] at hu1
   cases v<;>simp only [vN,Bool.false_eq_true] at hv1
   rename_i k1 a k2 b
   obtain rfl:k1=k:=by simpa using hu1
   obtain rfl:k2=k1:=by simpa using hv1
   exact ⟨a==b,by simpa [mkT] using run_equalIn_int w (x+d) T k2 k2 a b hu,by simp⟩
  ·rename_i n e hu
   obtain ⟨⟨g',l⟩,hl,h2⟩:=Option.bind_eq_some_iff.1 h
   dsimp only at h2
   split at h2
   ·rename_i hsz
    cases h2
    obtain ⟨i,hi,hs⟩:=Option.map_eq_some_iff.1 hsz;obtain ⟨r,hr,e1⟩:=OF hl hi hs (QO x d hl) n 0 w xs ys (by simpa using hx) (by simpa using hy);refine ⟨r,?_,by simpa using e1⟩;have:=run_equalIn_array (P:=P) w (x+d) xs.toArray ys.toArray hu hi;simp only [mkT,if_true];rw [this,List.range_eq_range',show P.cellsOf e=l.length by simp [Program.cellsOf,hi,hs]];exact hr
   ·cases h2
  ·rename_i fs hu
   split at h
   ·cases h
   rename_i hst
   obtain ⟨l,hgo,h2⟩:=Option.map_eq_some_iff.1 h;obtain ⟨rfl,rfl⟩:=Prod.mk.inj h2;obtain ⟨r,hr,e1⟩:=cH_ (fun {_ _ _} hh=>QO x d hh) fs.toList 0 _ hgo w xs ys (by simpa using hx) (by simpa using hy)
   have hfo:P.fieldsOf T=fs:=by simp [Program.fieldsOf,hu]
   refine ⟨r,?_,by simpa using e1⟩;have:=run_equalIn_struct (P:=P) w (x+d) T xs.toArray ys.toArray (by rw [hfo];exact hu) (by simpa using hst);simp only [mkT,if_true];rw [this,hfo];exact hr
  ·cases h
theorem jP {P:Program} {T:TypeId} {ls:List nW} {xs ys:List Value} {r:Bool} (d:Nat) (hd:d≤10000) (hg:P.eqGuardType P.depth T=false) (h:jV P d T=some (true,ls)) (hx:eY xs ls=true) (hy:eY ys ls=true)
  (hr:r=true ↔ xs=ys):dh_ P T xs ys r:=by
 refine ⟨hg,fun w=>?_⟩;obtain ⟨r',h1,h2⟩:=QO (P:=P) (10000 - d) d h w xs ys hx hy;rw [show 10000 - d+d=10000 by omega] at h1
 have:r'=r:=by
  cases r<;>cases r'<;>simp_all
 rw [this] at h1
 simpa [mkT] using h1
inductive FillR (place:Nat→Option (Nat×Nat)):List Value→List (Nat×Value)→List Value→Prop where
 | nil (z:List Value):FillR place z [] z
 | cons {i off size:Nat} {v:Value} {vs z z' out:List Value} {rest:List (Nat×Value)} (hp:place i=some (off,size)) (hv:v.cells=vs.toArray) (hl:vs.length=size) (ho:off+size≤z.length)
  (hz:z.take off++vs++z.drop (off+size)=z') (k:FillR place z' rest out):FillR place z ((i,v)::rest) out
theorem UY (vs:List Value):∀ (j off:Nat) (z:List Value),off+j+vs.length≤z.length →
  (vs.zipIdx j).foldl (fun (cs:Array Value) (x:Value×Nat)=>cs.setIfInBounds (off+x.2) x.1) z.toArray=(z.take (off+j)++vs++z.drop (off+j+vs.length)).toArray:=by
 induction vs with
 | nil=>intro j off z h;simp
 | cons v vs ih =>
  intro j off z h;simp only [List.zipIdx_cons,List.foldl_cons,List.setIfInBounds_toArray];simp only [List.length_cons] at h;rw [ih (j+1) off (z.set (off+j) v) (by simp;omega)]
  congr 1
  have hlt:off+j<z.length:=by omega
  apply List.ext_getElem?
  intro i;simp only [List.append_assoc,List.getElem?_append,List.length_take,List.length_set,List.getElem?_take,List.getElem?_drop,List.getElem?_set,List.length_cons]
  have e1:min (off+(j+1)) z.length=off+j+1:=by omega
  have e2:min (off+j) z.length=off+j:=by omega
  rw [e1,e2]
  by_cases h1:i<off+j
  ·rw [if_pos (by omega),if_pos (by omega),if_neg (by omega),if_pos h1,if_pos (by omega)]
  by_cases h2:i=off+j
  ·subst h2
   rw [if_pos (by omega),if_pos (by omega),if_pos O,if_pos hlt,if_neg (by omega)]
   simp
  rw [if_neg (by omega),if_neg h1];rw [if_neg (show ¬ off+j=off+(j+1)+vs.length+(i - (off+j+1) - vs.length) by omega)]
  have e3:i - (off+j)=(i - (off+j+1))+1:=by omega
  rw [e3]
  by_cases h3:i - (off+j+1)<vs.length
  ·rw [if_pos h3,if_pos (by omega)];simp
  rw [if_neg h3,if_neg (by omega)]
  congr 1;omega
theorem LC {place:Nat→Option (Nat×Nat)} {z out:List Value} {parts:List (Nat×Value)} (h:FillR place z parts out):Instr.fill place z.toArray parts=some out.toArray:=by
 induction h with
 | nil z=>rfl
 | @cons i off size v vs z z' out rest hp hv hl ho hz k ih =>
  rw [Instr.fill,hp];simp only [hv]
  have h1:¬ (vs.toArray.size≠size∨off+vs.toArray.size > z.toArray.size):=by
   simp only [List.size_toArray];omega
  have h2:(vs.toArray.size≠size||off+vs.toArray.size > z.toArray.size)=false:=by
   simp only [List.size_toArray,Bool.or_eq_false_iff,decide_eq_false_iff_not];omega
  have hf:=UY vs 0 off z (by omega);simp only [Nat.add_zero] at hf
  have hz':(vs.toArray.zipIdx).foldl (fun cs (x:Value×Nat)=>cs.setIfInBounds (off+x.2) x.1) z.toArray=z'.toArray:=by
   rw [← hz,← hl,← hf,← Array.foldl_toList,Array.toList_zipIdx]
  simp only [h2,Bool.false_eq_true,if_false];rw [← ih,← hz']
def vA (P:Program) (T:TypeId):Option (List (Nat×Nat)):=match P.underlying T with
 | some (.struct fs)=>fs.toList.mapM fun f=>(P.info? f.type).map fun i=>(f.offset,i.size)
 | _=>none
theorem GV {P:Program} {w:World}:∀ (fs:List Field) (pl:List (Nat×Nat)),(fs.mapM fun f=>(P.info? f.type).map fun i=>(f.offset,i.size))=some pl →
  (fs.mapM fun f=>(do pure (f.offset,← sizeOf f.type):Sem (Nat×Nat))).run P w = .ok pl w
 | [],pl,h=>by simp at h;subst h;simp
 | f::fs,pl,h=>by
  rw [List.mapM_cons] at h;simp only [bind,Option.bind_eq_some_iff,pure,Option.some.injEq] at h;obtain ⟨a,ha,as,has,rfl⟩:=h;obtain ⟨i,hi,rfl⟩:=Option.map_eq_some_iff.1 ha
  have h1:(do pure (f.offset,← sizeOf f.type):Sem (Nat×Nat)).run P w = .ok (f.offset,i.size) w:=by simp [sizeOf,typeInfo,hi]
  have h2:=GV (w:=w) fs as has
  have h3:∀ (g:Field→Sem (Nat×Nat)),(g f).run P w = .ok (f.offset,i.size) w→(fs.mapM g).run P w = .ok as w→((f::fs).mapM g).run P w = .ok ((f.offset,i.size)::as) w:=fun g a b=>by
   rw [List.mapM_cons];simp only [Sem.run_bind,a,b,Result.andThen_ok,Sem.run_pure]
  exact h3 _ h1 h2
def evP (N:Nm) (S:Fr):List (Nat×Operand)→Option (List (Nat×Value))
 | []=>some []
 | (i,x)::xs=>match evO N S x,evP N S xs with
  | some v,some vs=>some ((i,v)::vs)
  | _,_=>none
theorem AW {N:Nm} {S:Fr}:∀ {xs:List (Nat×Operand)} {vs:List (Nat×Value)},evP N S xs=some vs→(xs.map fun (i,x)=>(i,ev N S x))=vs
 | [],_,h=>by simp only [evP] at h;cases h;rfl
 | (i,x)::xs,vs,h=>by
  simp only [evP] at h
  split at h
  ·rename_i v ws hv hw
   cases h
   have:=AW hw;simp only [List.map_cons,aZ hv,this]
  ·cases h
section
variable {P:Program} {w0:World} {X:List Nat} {N:Nm} {S:Fr} {M:List Blk} {d:Option Tmp} {ty:TypeId} {ps:String} {af:Array Edge} {gd:Option (Nat×Bool)}
theorem HR {T:TypeId} {z:List Value} (h:jD P T=some z) (w:World):∃ v,(zeroValue T).run P w = .ok v w∧v.cells=z.toArray:=by
 obtain ⟨i,v,hi,hz,hc⟩:=tX h;exact ⟨v,by simp [zeroValue,typeInfo,hi,hz],hc⟩
theorem sM {T:TypeId} {xs:List (Nat×Operand)} {parts:List (Nat×Value)} {pl:List (Nat×Nat)} {z out:List Value} (hz:jD P T=some z) (hp:vA P T=some pl) (hx:evP N S xs=some parts)
  (h:FillR (fun i=>pl[i]?) z parts out):OpQ P w0 X N ⟨d,.build T xs.toArray,ty,ps,af,gd⟩ S M (.agg out.toArray):=kU fun w _=>by
 obtain ⟨v,hv,hc⟩:=HR hz w;unfold vA at hp
 split at hp
 ·rename_i fs hu
  have hpl:(fs.mapM fun f=>(do pure (f.offset,← sizeOf f.type):Sem (Nat×Nat))).run P w = .ok pl.toArray w:=by
   have:=GV (w:=w) fs.toList pl hp;rw [← Array.toArray_toList (xs:=fs),List.mapM_toArray];simp only [Sem.run_map,this,Result.andThen_ok]
  have hf:Instr.fill (fun i=>pl.toArray[i]?) z.toArray parts=some out.toArray:=by
   have:=LC h
   simpa using this
  simp only [execOp,Instr.build,Sem.run_bind,hv,Result.andThen_ok,run_underlying hu,hpl,hc]
  have hparts:(Array.map (fun x=>(x.1,ev N S x.2)) xs.toArray).toList=parts:=by
   have:=AW hx;simpa using this
  simp only [hparts,hf];rfl
 ·cases hp
theorem lG {T:TypeId} {xs:List (Nat×Operand)} {parts:List (Nat×Value)} {n s:Nat} {z out:List Value} (hz:jD P T=some z) (hp:yF P T=some (n,s)) (hx:evP N S xs=some parts)
  (h:FillR (fun i=>some (i*s,s)) z parts out):OpQ P w0 X N ⟨d,.build T xs.toArray,ty,ps,af,gd⟩ S M (.agg out.toArray):=kU fun w _=>by
 obtain ⟨v,hv,hc⟩:=HR hz w;obtain ⟨e,q,hu,hi,hs⟩:=wA hp;have hf:=LC h
 have hparts:(Array.map (fun x=>(x.1,ev N S x.2)) xs.toArray).toList=parts:=by
  have:=AW hx;simpa using this
 simp only [execOp,Instr.build,Sem.run_bind,hv,Result.andThen_ok,run_underlying hu,hc,sizeOf,typeInfo,run_program,hi,hs,Sem.run_pure,hparts,hf]
theorem gQ {T E:TypeId} {xs:List (Nat×Operand)} {parts:List (Nat×Value)} {n s:Nat} {z out:List Value} {K:Value→List Blk→Prop} (hT:P.underlying T=some (.slice E)) (hz:jD P E=some z) (hs:(P.info? E).map (·.size)=some s) (hzl:z.length=s)
  (hn:n*s≤16777216) (hx:evP N S xs=some parts) (h:FillR (fun i=>some (i*s,s)) (List.replicate n z).flatten parts out) (k:∀ b,w0.heap.size≤b→K (.slice (some ⟨b,0,none⟩) n n) (⟨b,E,out⟩::M)) :
  OpR P w0 X N ⟨d,.buildSlice T n xs.toArray,ty,ps,af,gd⟩ S M K:=by
 intro w hw;obtain ⟨v,hv,hc⟩:=HR hz w;obtain ⟨i,hi,hsz⟩:=Option.map_eq_some_iff.1 hs
 have hparts:(Array.map (fun x=>(x.1,ev N S x.2)) xs.toArray).toList=parts:=by
  have:=AW hx;simpa using this
 have hf:=LC h
 have hrep:(Array.range (n*s)).map (fun j=>z.toArray[j % z.toArray.size]!)=((List.replicate n z).flatten).toArray:=by
  apply Array.ext'
  apply List.ext_getElem?
  intro j;simp only [Array.toList_map,Array.toList_range,List.getElem?_map,List.size_toArray,hzl]
  by_cases hj:j<n*s
  ·have hs0:0<s:=by
    rcases Nat.eq_zero_or_pos s with h0|h0
    ·rw [h0] at hj;simp at hj
    exact h0
   rw [List.getElem?_range hj,Option.map_some]
   have hm:j % s<z.length:=by rw [hzl];exact Nat.mod_lt _ hs0
   have hfl:∀ (m:Nat) (q:Nat),q<m*s→(List.replicate m z).flatten[q]? = z[q % s]?:=by
    intro m
    induction m with
    | zero=>intro q hq;simp at hq
    | succ m ih =>
     intro q hq;rw [List.replicate_succ,List.flatten_cons,List.getElem?_append]
     split
     ·rename_i hlt;rw [hzl] at hlt;rw [Nat.mod_eq_of_lt hlt]
     rename_i hge
     rw [hzl] at hge ⊢;rw [ih (q - s) (by rw [Nat.succ_mul] at hq;omega),Nat.mod_eq_sub_mod (by omega:s≤q)]
   rw [hfl n j hj]
   simp [hm]
  rw [List.getElem?_eq_none (by simpa using Nat.le_of_not_lt hj),List.getElem?_eq_none]
  ·rfl
  simp [hzl];omega
 unfold opw
 have hrun:(execOp (ev N S) ⟨d,.buildSlice T n xs.toArray,ty,ps,af,gd⟩).run P w = .ok (.value (.slice (some ⟨w.heap.size,0,none⟩) n n)) (w.alloc (.cells out.toArray E)):=by
  have hlim:¬ n*s > 2 ^ 24:=by omega
  by_cases h0:n*s=0
  ·have hcells:(Array.range (n*s)).map (fun j=>(#[]:Array Value)[j % (#[]:Array Value).size]!)=((List.replicate n z).flatten).toArray:=by
    rw [← hrep,h0];simp
   simp only [execOp,Instr.buildSlice,Sem.run_bind,run_underlying hT,Result.andThen_ok,sizeOf,typeInfo,run_program,hi,hsz,Sem.run_pure,hlim,if_false,if_pos h0,hcells,hparts,hf]
   simp [newRow,newObj,Sem.run]
  simp only [execOp,Instr.buildSlice,Sem.run_bind,run_underlying hT,Result.andThen_ok,sizeOf,typeInfo,run_program,hi,hsz,Sem.run_pure,hlim,if_false,if_neg h0,hv,hc,hrep,hparts,hf]
  simp [newRow,newObj,Sem.run]
 rw [gT,hrun];exact ⟨.alloc _ _,_,hw.alloc E out,k _ hw.size⟩
theorem EO {T U:TypeId} {x:Operand} {s b off:Nat} {cs:List Value} {v:Value} (hT:gY P T=some (false,s)) (hx:evO N S x=some (.pointer (some ⟨b,off,none⟩))) (hm:w0.heap[b]? = some (.cells cs.toArray U (0,0))) (hX:b ∉ X) (hc:cs[off]? = some v) :
  OpQ P w0 X N ⟨d,.load T x,ty,ps,af,gd⟩ S M v :=
 kU fun w hw=>by
  have hm':w.heap[b]? = some (.cells cs.toArray U (0,0)):=by rw [hw.old b (cL? hm) hX];exact hm
  simp only [execOp,aZ hx,Sem.run_bind,yW (w:=w) hT hm' hc];rfl
theorem O3 {T U:TypeId} {x:Operand} {n b off:Nat} {cs vs:List Value} (hT:gY P T=some (true,n)) (hx:evO N S x=some (.pointer (some ⟨b,off,none⟩))) (hm:w0.heap[b]? = some (.cells cs.toArray U (0,0))) (hX:b ∉ X) (hv:(cs.drop off).take n=vs) (hl:vs.length=n) :
  OpQ P w0 X N ⟨d,.load T x,ty,ps,af,gd⟩ S M (.agg vs.toArray) :=
 kU fun w hw=>by
  have hm':w.heap[b]? = some (.cells cs.toArray U (0,0)):=by rw [hw.old b (cL? hm) hX];exact hm
  simp only [execOp,aZ hx,Sem.run_bind,FY (w:=w) hT hm' hv hl];rfl
theorem cV {N:Nat} {f:FuncId} {fn:Func} {c:Code} {args:List Value} {v:Value} {w:World} (hf:P.funcs[f]? = some fn) (hb:fn.body=some c) (hn:fn.ntmps=N) (hl:args.length≤N)
  (h:W P w [] (pl N) c (kP P fn w [] (pl N) fun u _=>u=v) (nV 0 args) []):Calls P f args.toArray w fun e w'=>e = .returned v∧Ext w w' :=
 (gU hf hb hn hl (Sat.start w []) h).mono fun e w' ⟨u,M',he,hs,_,hu⟩=>⟨by rw [he,hu],hs.ext⟩
theorem aE {o:Oper} {v v':Value} (q:OpQ P w0 X N o S M v) (h:v=v'):OpQ P w0 X N o S M v':=h ▸ q
theorem dB {l:List Value} {n:Nat} (h:l.length=n):(l.drop 0).take n=l:=by simp [← h]
theorem BR {α:Type} (f:α→List Value) (n:Nat):∀ (l:List α) (k:Nat) (x:α),(∀ y∈l,(f y).length=n)→l[k]? = some x→((l.flatMap f).drop (k*n)).take n=f x
 | [],k,x,_,h=>by simp at h
 | y::l,0,x,hl,h=>by
  simp only [List.getElem?_cons_zero,Option.some.injEq] at h;subst h
  simp [List.flatMap_cons,← hl y List.mem_cons_self]
 | y::l,k+1,x,hl,h=>by
  rw [List.flatMap_cons,Nat.succ_mul,Nat.add_comm (k*n),← List.drop_drop,← hl y List.mem_cons_self,List.drop_left,hl y List.mem_cons_self];exact BR f n l k x (fun z hz=>hl z (List.mem_cons_of_mem _ hz)) (by simpa using h)
end
open Go.RowKit
section
variable {P:Program} {w0:World} {X:List Nat} {N:Nm} {S:Fr} {M:List Blk} {d:Option Tmp} {ty:TypeId} {ps:String} {af:Array Edge} {gd:Option (Nat×Bool)}
def tK (N:Nm) (S:Fr) (dflt:Int):Option Operand→Option Int
 | none=>some dflt
 | some x=>match evO N S x with|some (.int _ i)=>some i|_=>none
theorem B6 {x:Operand} {i:Int} {y:Nat} {code:BoundsCode} {w:World} (h:tK N S 0 (some x)=some i) (h0:0≤i) (h1:i≤y):(Instr.sliceBound (ev N S x) y code).run P w = .ok i.toNat w:=by
 simp only [tK] at h
 split at h
 ·rename_i k j hx
  cases h
  simp [Instr.sliceBound,aZ hx,asIntOf,h0,h1]
 ·cases h
theorem vF {isSl:Bool} {len cap:Nat} {lo hi:Option Operand} {l h:Int} {w:World} (hl:tK N S 0 lo=some l) (hh:tK N S len hi=some h) (h0:0≤l) (h1:l≤h) (h2:h≤cap) :
  (Instr.sliceBounds isSl len cap (lo.map (ev N S)) (hi.map (ev N S)) none).run P w = .ok (l.toNat,h.toNat,cap) w:=by
 unfold Instr.sliceBounds
 have hh':h=(h.toNat:Int):=by omega
 cases hi with
 | none =>
  simp only [tK] at hh;cases hh
  cases lo with
  | none=>simp only [tK] at hl;cases hl;simp
  | some x =>
   have hb:=fun code=>B6 (P:=P) (w:=w) (code:=code) (y:=len) hl h0 (by omega)
   simp [hb]
 | some z =>
  have hz:tK N S 0 (some z)=some h:=hh;have hb2:=fun code=>B6 (P:=P) (w:=w) (code:=code) (y:=cap) hz (by omega) h2
  cases lo with
  | none =>
   simp only [tK] at hl;cases hl
   cases isSl<;>simp [hb2]
  | some x =>
   have hb:=fun code=>B6 (P:=P) (w:=w) (code:=code) (y:=h.toNat) hl h0 (by omega)
   cases isSl<;>simp [hb2,hb]
theorem GM {T:TypeId} {x:Operand} {lo hi:Option Operand} {n s b off:Nat} {l h:Int} (hT:yF P T=some (n,s)) (hx:evO N S x=some (.pointer (some ⟨b,off,none⟩))) (hl:tK N S 0 lo=some l) (hh:tK N S n hi=some h)
  (h0:0≤l) (h1:l≤h) (h2:h≤n) (h3:l<n):OpQ P w0 X N ⟨d,.slice T x lo hi none,ty,ps,af,gd⟩ S M (.slice (some ⟨b,off+l.toNat*s,none⟩) (h.toNat - l.toNat) (n - l.toNat)) :=
 kU fun w _=>by
  obtain ⟨e,q,hu,hi',hs⟩:=wA hT;have hb:=vF (P:=P) (w:=w) (isSl:=false) (cap:=n) hl hh h0 h1 h2
  have hne:¬ n=l.toNat:=by omega
  simp [execOp,Instr.sliceAt,run_underlying hu,aZ hx,Instr.sureAddr,hb,sizeOf,typeInfo,hi',hs,hne,l8]
theorem Z2 {T:TypeId} {x:Operand} {n s len cap:Nat} {a:Addr} (hT:yF P T=some (n,s)) (hx:evO N S x=some (.slice (some a) len cap)) (hn:n≤len):OpQ P w0 X N ⟨d,.sliceToArrayPointer T x,ty,ps,af,gd⟩ S M (.pointer (some a)) :=
 kU fun w _=>by
  obtain ⟨e,q,hu,hi',hs⟩:=wA hT
  have hlt:¬ len<n:=by omega
  simp [execOp,Instr.arrayAt,run_underlying hu,aZ hx,hlt]
theorem GL {T:TypeId} {x y:Operand} {s:ByteArray} {k:IntKind} {j n:Nat} (f:Nat→Nat) (hT:P.underlying T=some .string) (hx:evO N S x=some (.string s)) (hy:evO N S y=some (.int k (j:Int))) (hj:j<n)
  (h:(List.range n).all (fun j=>(s.data[j]?).map UInt8.toNat==some (f j))=true):OpQ P w0 X N ⟨d,.index T x y,ty,ps,af,gd⟩ S M (.int .u8 (f j:Nat)) :=
 kU fun w _=>by
  rw [List.all_eq_true] at h;have h1:=h j (List.mem_range.2 hj);rw [beq_iff_eq] at h1;obtain ⟨c,hc,hcf⟩:=Option.map_eq_some_iff.1 h1
  have hs:s[j]? = some c:=by
   obtain ⟨hlt,he⟩:=Array.getElem?_eq_some_iff.1 hc;have hlt':j<s.size:=hlt;rw [getElem?_pos s j hlt']
   congr 1
  simp [execOp,Instr.index,aZ hx,aZ hy,asIntOf,run_underlying hT,hs,hcf]
structure ExtX (X:List Nat) (w w':World):Prop where
 os:w'.os=w.os
 tape:w'.tape=w.tape
 output:w'.output=w.output
 size:w.heap.size≤w'.heap.size
 old:∀ k,k<w.heap.size→k ∉ X→w'.heap[k]? = w.heap[k]?
theorem ExtX.keeps {w w':World} {b:Nat} {cs:Array Value} {T:TypeId} {e:Nat×Nat} (h:ExtX [b] w w') (hb:w.heap[b]? = some (.cells cs T e)):KeepsOthers w w' :=
 ⟨h.size,fun k o hk ho=>by
  by_cases e:k=b
  ·subst e;rw [hb] at hk;cases hk;cases ho
  exact (h.old k (cL? hk) (by simpa using e)).trans hk⟩
theorem Sat.extX {w:World} (h:Sat w0 X M w):ExtX X w0 w:=⟨h.os,h.tape,h.output,h.size,h.old⟩
theorem Sat.upd {w w':World} {b:Nat} {T:TypeId} {cs cs':List Value} {M':List Blk} (h:Sat w0 X M w) (he:ExtX [b] w w') (hc:w'.heap[b]? = some (.cells cs'.toArray T (0,0))) (hu:Upd b T cs cs' M M') (hb:w0.heap.size≤b∨b∈X):Sat w0 X M' w':=by
 refine ⟨he.os.trans h.os,he.tape.trans h.tape,he.output.trans h.output,Nat.le_trans h.size he.size,fun k hk hx=>?_,by rw [hu.names];exact h.nodup,fun x hx=>?_⟩
 ·have hne:k ∉ [b]:=by
   simp only [List.mem_singleton];rintro rfl;rcases hb with hb|hb
   ·omega
   exact hx hb
  rw [he.old k (Nat.lt_of_lt_of_le hk h.size) hne];exact h.old k hk hx
 rcases hu.new h.nodup x hx with rfl|⟨h1,h2⟩
 ·exact hc
 rw [he.old x.b (cL? (h.mem x h1)) (by simpa using h2)];exact h.mem x h1
theorem b4_ {α:Type} {g:FuncId} {xs:List Operand} {tys:Array TypeId} {args:List Value} {f:α→Value} {Q:α→Prop} {K:Value→List Blk→Prop} (he:iJ P g=true) (ha:evL N S xs=some args)
  (h:∀ w,Sat w0 X M w→Calls P g args.toArray w fun e w'=>∃ x,e = .returned (f x)∧Ext w w'∧Q x) (k:∀ x,Q x→K (f x) M):OpR P w0 X N ⟨d,.call { callee:=.value (.func g),args:=xs.toArray,argTypes:=tys },ty,ps,af,gd⟩ S M K :=
 xU he ha fun w hw=>(h w hw).mono fun _ w' ⟨x,h1,h2,h3⟩=>⟨f x,M,h1,Sat.mono _ _ _ _ _ hw h2,Ext.keeps h2,k x h3⟩
theorem TQ {α:Type} {g:FuncId} {xs:List Operand} {tys:Array TypeId} {args:List Value} {f:α→Value} {Q:α→Prop} {K:Value→List Blk→Prop} {b:Nat} {T:TypeId} {cs:List Value} {cs':α→List Value} {M':α→List Blk}
  (he:iJ P g=true) (ha:evL N S xs=some args)
  (h:∀ w,Sat w0 X M w→Calls P g args.toArray w fun e w'=>∃ x,e = .returned (f x)∧ExtX [b] w w'∧w'.heap[b]? = some (.cells (cs' x).toArray T (0,0))∧Q x) (hu:∀ x,Upd b T cs (cs' x) M (M' x)) (hb:w0.heap.size≤b∨b∈X)
  (k:∀ x,Q x→K (f x) (M' x)):OpR P w0 X N ⟨d,.call { callee:=.value (.func g),args:=xs.toArray,argTypes:=tys },ty,ps,af,gd⟩ S M K :=
 xU he ha fun w hw=>(h w hw).mono fun _ w' ⟨x,h1,h2,h4,h3⟩=>⟨f x,M' x,h1,hw.upd h2 h4 (hu x) hb,h2.keeps (hw.mem _ (hu x).mem),k x h3⟩
theorem NL {N:Nat} {f:FuncId} {fn:Func} {c:Code} {args:List Value} {w:World} {b:Nat} {T:TypeId} {cs:List Value} {R:Value→List Blk→Prop} (hf:P.funcs[f]? = some fn) (hb:fn.body=some c) (hn:fn.ntmps=N) (hl:args.length≤N)
  (hc:w.heap[b]? = some (.cells cs.toArray T (0,0))) (h:W P w [b] (pl N) c (kP P fn w [b] (pl N) R) (nV 0 args) [⟨b,T,cs⟩]):Calls P f args.toArray w fun e w'=>∃ v M',e = .returned v∧Sat w [b] M' w'∧R v M':=by
 refine (gU hf hb hn hl ⟨rfl,rfl,rfl,Nat.le_refl _,fun _ _ _=>rfl,by simp,fun x hx=>?_⟩ h).mono fun e w' ⟨v,M',h1,h2,_,h3⟩=>⟨v,M',h1,h2,h3⟩
 obtain rfl:x=⟨b,T,cs⟩:=by simpa using hx
 exact hc
theorem NO {N:Nat} {α:Type} {f:FuncId} {fn:Func} {c:Code} {args:List Value} {w:World} {g:α→Value} {Q:α→Prop} (hf:P.funcs[f]? = some fn) (hb:fn.body=some c) (hn:fn.ntmps=N) (hl:args.length≤N)
  (h:W P w [] (pl N) c (kP P fn w [] (pl N) fun v _=>∃ x,v=g x∧Q x) (nV 0 args) []):Calls P f args.toArray w fun e w'=>∃ x,e = .returned (g x)∧Ext w w'∧Q x :=
 (gU hf hb hn hl (Sat.start w []) h).mono fun e w' ⟨u,M',he,hs,_,x,hu,hq⟩=>⟨x,by rw [he,hu],hs.ext,hq⟩
theorem NM {N:Nat} {α:Type} {f:FuncId} {fn:Func} {c:Code} {args:List Value} {w:World} {b:Nat} {T:TypeId} {cs:List Value} {g:α→Value} {cs':α→List Value} {Q:α→Prop} (hf:P.funcs[f]? = some fn) (hb:fn.body=some c) (hn:fn.ntmps=N) (hl:args.length≤N)
  (hc:w.heap[b]? = some (.cells cs.toArray T (0,0))) (h:W P w [b] (pl N) c (kP P fn w [b] (pl N) fun v M=>∃ x,v=g x∧(⟨b,T,cs' x⟩:Blk)∈M∧Q x) (nV 0 args) [⟨b,T,cs⟩]) :
  Calls P f args.toArray w fun e w'=>∃ x,e = .returned (g x)∧ExtX [b] w w'∧w'.heap[b]? = some (.cells (cs' x).toArray T (0,0))∧Q x :=
 (NL hf hb hn hl hc h).mono fun e w' ⟨v,M',he,hs,x,hv,hx,hq⟩=>⟨x,by rw [he,hv],hs.extX,hs.mem _ hx,hq⟩
theorem zA {fn:Func} {R:Value→List Blk→Prop} {e:Exit} (hr:fn.results = #[]) (he:e = .normal∨e = .ret) (k:R (.tuple #[]) M):kP P fn w0 X N R e S M :=
 ⟨he,_,fun w _=>by simp [sP,hr],k⟩
theorem eo_ {dT sT:TypeId} {x y:Operand} {s b b' off off' len len' cap cap':Nat} {T T':TypeId} {cs cs' cs'':List Value} {M':List Blk} {K:Value→List Blk→Prop} (hT:iK P dT=some s)
  (hx:evO N S x=some (.slice (some ⟨b,off,none⟩) len cap)) (hy:evO N S y=some (.slice (some ⟨b',off',none⟩) len' cap')) (hm:(⟨b',T',cs'⟩:Blk)∈M) (hu:Upd b T cs cs'' M M')
  (hp:∀ v∈(cs'.drop off').take (min len' len*s),plain v=true) (h1:off'+min len' len*s≤cs'.length) (h2:off+min len' len*s≤cs.length)
  (hc:cs.take off++(cs'.drop off').take (min len' len*s)++cs.drop (off+min len' len*s)=cs'') (hb:w0.heap.size≤b∨b∈X) (k:K (.int .i64 (min len' len:Nat)) M') :
  OpR P w0 X N ⟨d,.call { callee:=.builtin .copy,args:=#[x,y],argTypes:=#[dT,sT] },ty,ps,af,gd⟩ S M K:=by
 intro w hw;obtain ⟨e,q,hu',hi,hs⟩:=nT hT
 have hl:((cs'.drop off').take (min len' len*s)).length=min len' len*s:=by simp;omega
 have hld:(loadCells ⟨b',off',none⟩ (min len' len*s)).run P w = .ok ((cs'.drop off').take (min len' len*s)).toArray w:=by
  have:=run_loadCells_list (P:=P) w ⟨b',off',none⟩ ((cs'.drop off').take (min len' len*s)) (fun j v hj=>by
   rw [l8]
   have hj':j<min len' len*s:=by have:=(List.getElem?_eq_some_iff.1 hj).1;omega
   rw [List.getElem?_take_of_lt hj',List.getElem?_drop] at hj
   simp [World.cell?,hw.mem _ hm,hj])
  rwa [hl] at this
 have hst:=run_storeCells_at (P:=P) b off T ((cs'.drop off').take (min len' len*s)) 0 cs.toArray w (hw.mem _ hu.mem) (by simp only [List.size_toArray];omega) (fun v hv=>yX (hp v hv));simp only [Nat.add_zero,hl] at hst;unfold opw
 have hrun:(execOp (ev N S) ⟨d,.call { callee:=.builtin .copy,args:=#[x,y],argTypes:=#[dT,sT] },ty,ps,af,gd⟩).run P w = .ok (.value (.int .i64 (min len' len:Nat))) (w.setRow b cs''.toArray):=by
  have hmin:Nat.min len' len=min len' len:=rfl
  simp [execOp,resolve,invoke,builtin,aZ hx,aZ hy,Builtin.copy_,run_underlying hu',Builtin.lenOf,sizeOf,typeInfo,hi,hs,Builtin.firstCells,hmin,hld,hst,hc,goInt]
 rw [gT,hrun];exact ⟨BA (hw.mem _ hu.mem),M',hw.set hu hb,k⟩
end
end Go.Kn
