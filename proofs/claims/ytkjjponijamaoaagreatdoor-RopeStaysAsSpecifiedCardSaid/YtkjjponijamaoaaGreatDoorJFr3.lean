/- Lemmas: what they ask stands in their statements. -/
import Derived.Test.YtkjjponijamaoaaGreatDoorJFp
set_option linter.unusedSimpArgs false
set_option linter.unusedVariables false
set_option maxHeartbeats 8000000
set_option maxRecDepth 20000
namespace Go.Num
open Go Go.Kn
def eV (a:W) (b:W) (c:W) (d:W) (e:W) (x:W):(A6 Rt) :=
 (⟨(aI a),(aI b),(aI c),(aI d),(aI e),(aI x)⟩:(A6 Rt))
def fW (a:W) (b:W) (c:W):(A3 Rt) :=
 let r2:(A3 Rt):=(lA (⟨a,b,c⟩:(A3 W)))
 r2
def iZ :Bool :=
 let q0:Pull:=(iN (⟨(wl 0),(wl 2),(⟨(wl 10),(wl 0),(wl 20)⟩:(A3 W)),(⟨(wl 0),(wl 0),(wl 4)⟩:(A3 W))⟩:Rope) [(⟨(⟨(wl 10),(wl 0),(wl 0)⟩:(A3 W)),(⟨(wl 1),(wl 0),(wl 0),(wl 0)⟩:(A4 W))⟩:Pose),(⟨(⟨(wl 10),(wl 0),(wl 8)⟩:(A3 W)),(⟨(wl 1),(wl 0),(wl 0),(wl 0)⟩:(A4 W))⟩:Pose)]).1
 let q1:W:=(iN (⟨(wl 0),(wl 2),(⟨(wl 10),(wl 0),(wl 20)⟩:(A3 W)),(⟨(wl 0),(wl 0),(wl 4)⟩:(A3 W))⟩:Rope) [(⟨(⟨(wl 10),(wl 0),(wl 0)⟩:(A3 W)),(⟨(wl 1),(wl 0),(wl 0),(wl 0)⟩:(A4 W))⟩:Pose),(⟨(⟨(wl 10),(wl 0),(wl 8)⟩:(A3 W)),(⟨(wl 1),(wl 0),(wl 0),(wl 0)⟩:(A4 W))⟩:Pose)]).2
 let q2:I:=(l9 q0).1
 let q3:I:=(l9 q0).2
 let q4:(A3 W):=(dG q0).1
 let q5:W:=(dG q0).2
 let q6:(A6 Rt):=(cY q0).1
 let q7:(A6 Rt):=(cY q0).2.1
 let q8:W:=(cY q0).2.2
 let q9:(A3 Rt):=(fW (wl 10) (wl 0) (wl 20))
 let q10:(A3 Rt):=(fW (wl 10) (wl 0) (wl 12))
 let q11:Rt:=(dQ q0)
 let q12:Rt:=(bQ (wl 64))
 let q13:I:=(E (Z.of 8))
 let q14:(A6 Rt):=(eV (wl 0) (wl 0) (wl (-1)) (wl 0) (wl 10) (wl 0))
 let q15:(A6 Rt):=(eV (wl 0) (wl 0) (wl 1) (wl 0) (wl (-10)) (wl 0))
 let q16:(A3 Rt):=(fW (wl 10) (wl 0) (wl 0))
 let q17:(List Rt):=(fK (⟨(⟨(⟨(wl 10),(wl 0),(wl 0)⟩:(A3 W)),(⟨(wl 1),(wl 0),(wl 0),(wl 0)⟩:(A4 W))⟩:Pose),(⟨(⟨(wl 10),(wl 0),(wl 8)⟩:(A3 W)),(⟨(wl 1),(wl 0),(wl 0),(wl 0)⟩:(A4 W))⟩:Pose)⟩:Path) (⟨(wl 0),(wl 0),(wl 0)⟩:(A3 W)) q16 q12 0).1
 let q18:W:=(fK (⟨(⟨(⟨(wl 10),(wl 0),(wl 0)⟩:(A3 W)),(⟨(wl 1),(wl 0),(wl 0),(wl 0)⟩:(A4 W))⟩:Pose),(⟨(⟨(wl 10),(wl 0),(wl 8)⟩:(A3 W)),(⟨(wl 1),(wl 0),(wl 0),(wl 0)⟩:(A4 W))⟩:Pose)⟩:Path) (⟨(wl 0),(wl 0),(wl 0)⟩:(A3 W)) q16 q12 0).2
 let q19:Rt:=(bQ (wl 63))
 let q20:(List Rt):=(fK (⟨(⟨(⟨(wl 10),(wl 0),(wl 0)⟩:(A3 W)),(⟨(wl 1),(wl 0),(wl 0),(wl 0)⟩:(A4 W))⟩:Pose),(⟨(⟨(wl 10),(wl 0),(wl 8)⟩:(A3 W)),(⟨(wl 1),(wl 0),(wl 0),(wl 0)⟩:(A4 W))⟩:Pose)⟩:Path) (⟨(wl 0),(wl 0),(wl 0)⟩:(A3 W)) q16 q19 0).1
 let q21:W:=(fK (⟨(⟨(⟨(wl 10),(wl 0),(wl 0)⟩:(A3 W)),(⟨(wl 1),(wl 0),(wl 0),(wl 0)⟩:(A4 W))⟩:Pose),(⟨(⟨(wl 10),(wl 0),(wl 8)⟩:(A3 W)),(⟨(wl 1),(wl 0),(wl 0),(wl 0)⟩:(A4 W))⟩:Pose)⟩:Path) (⟨(wl 0),(wl 0),(wl 0)⟩:(A3 W)) q16 q19 0).2
 let q22:I:=(rD (wl 5) (wl 2) [(⟨(⟨(wl 10),(wl 0),(wl 0)⟩:(A3 W)),(⟨(wl 1),(wl 0),(wl 0),(wl 0)⟩:(A4 W))⟩:Pose),(⟨(⟨(wl 10),(wl 0),(wl 8)⟩:(A3 W)),(⟨(wl 1),(wl 0),(wl 0),(wl 0)⟩:(A4 W))⟩:Pose),(⟨(⟨(wl 10),(wl 0),(wl 0)⟩:(A3 W)),(⟨(wl 1),(wl 0),(wl 0),(wl 0)⟩:(A4 W))⟩:Pose)]).1
 let q23:W:=(rD (wl 5) (wl 2) [(⟨(⟨(wl 10),(wl 0),(wl 0)⟩:(A3 W)),(⟨(wl 1),(wl 0),(wl 0),(wl 0)⟩:(A4 W))⟩:Pose),(⟨(⟨(wl 10),(wl 0),(wl 8)⟩:(A3 W)),(⟨(wl 1),(wl 0),(wl 0),(wl 0)⟩:(A4 W))⟩:Pose),(⟨(⟨(wl 10),(wl 0),(wl 0)⟩:(A3 W)),(⟨(wl 1),(wl 0),(wl 0),(wl 0)⟩:(A4 W))⟩:Pose)]).2
 let q24:Rt:=(bQ (wl 1))
 let q25:Bool:=(iB q17 [q24])
 let q26:I:=(E (Z.of 80))
 (((q1.1==0)&&((decide (q0.a.1=0)&&(decide (q0.b.1=2)&&(decide (q0.p.x.n=q9.x.n)&&(decide (q0.p.x.d=q9.x.d)&&(decide (q0.p.y.n=q9.y.n)&&(decide (q0.p.y.d=q9.y.d)&&(decide (q0.p.z.n=q9.z.n)&&(decide (q0.p.z.d=q9.z.d)&&(decide (q0.q.x.n=q10.x.n)&&(decide (q0.q.x.d=q10.x.d)&&(decide (q0.q.y.n=q10.y.n)&&(decide (q0.q.y.d=q10.y.d)&&(decide (q0.q.z.n=q10.z.n)&&decide (q0.q.z.d=q10.z.d))))))))))))))&&((decide (q11.n=q12.n)&&decide (q11.d=q12.d))&&(decide (q2=q13)&&decide (q3=q13)))))&&(((q5.1==0)&&((q8.1==0)&&((decide (q4.x.1=0)&&(decide (q4.y.1=0)&&decide (q4.z.1=(-1))))&&((decide (q6.x0.n=q14.x0.n)&&(decide (q6.x0.d=q14.x0.d)&&(decide (q6.x1.n=q14.x1.n)&&(decide (q6.x1.d=q14.x1.d)&&(decide (q6.x2.n=q14.x2.n)&&(decide (q6.x2.d=q14.x2.d)&&(decide (q6.x3.n=q14.x3.n)&&(decide (q6.x3.d=q14.x3.d)&&(decide (q6.x4.n=q14.x4.n)&&(decide (q6.x4.d=q14.x4.d)&&(decide (q6.x5.n=q14.x5.n)&&decide (q6.x5.d=q14.x5.d))))))))))))&&(decide (q7.x0.n=q15.x0.n)&&(decide (q7.x0.d=q15.x0.d)&&(decide (q7.x1.n=q15.x1.n)&&(decide (q7.x1.d=q15.x1.d)&&(decide (q7.x2.n=q15.x2.n)&&(decide (q7.x2.d=q15.x2.d)&&(decide (q7.x3.n=q15.x3.n)&&(decide (q7.x3.d=q15.x3.d)&&(decide (q7.x4.n=q15.x4.n)&&(decide (q7.x4.d=q15.x4.d)&&(decide (q7.x5.n=q15.x5.n)&&decide (q7.x5.d=q15.x5.d))))))))))))))))&&((q18.1==0)&&(q25&&((q21.1==200)&&(decide (q22=q26)&&(q23.1==0)))))))
def iT (h:Path) (u:(A3 W)) (b:(A3 Rt)) (m:Rt) (k:W) (l:(List Rt)):Bool :=
 bif (decide (40<(l.length:Int))||(decide (4<k.1)&&decide (k.1≤12))) then iZ else (iZ&&((iB ((fK h u b m k.1).1) ((dO h u b m k.1).l))&&((((fK h u b m k.1).2).1==((dO h u b m k.1).e).1)&&((oB h u b m l)==(iA h u b m l)))))
end Go.Num
namespace Go.Kn
open Go Go.Num
section
variable {α:Type} {e:El α} {P:Program} {w0:World} {X:List Nat} {N:Nm} {S:Fr} {M M':List Blk} {d:Option Tmp} {ty:TypeId} {ps:String} {af:Array Edge} {gd:Option (Nat×Bool)} {E:TypeId}
def OwnN (w0:World) (E:TypeId) (e:El α):List Value→List (List α)→List Blk→Prop
 | [],[],L=>L=[]
 | v::vs,l::ls,L=>∃ L1 L2,L=L1++L2∧OwnG w0 E e v l L1∧OwnN w0 E e vs ls L2
 | _,_,_=>False
def SloN (w1 w:World) (E:TypeId) (e:El α) (vs:List Value) (ls:List (List α)):Prop :=
 ∃ L,OwnN w1 E e vs ls L∧(L.map Blk.b).Nodup∧∀ x∈L,w.heap[x.b]? = some (.cells x.cs.toArray x.T (0,0))
theorem OwnG.ge {v:Value} {l:List α} {L:List Blk} (h:OwnG w0 E e v l L):∀ x∈L,w0.heap.size≤x.b:=by
 rcases h with ⟨_,_,rfl⟩|⟨g,cap,cur,_,rfl,hg,_⟩
 ·intro x hx;cases hx
 intro x hx;obtain rfl:=List.mem_singleton.1 hx;exact hg
theorem OwnG.wid {w:World} {v:Value} {l:List α} {L:List Blk} (hs:w0.heap.size≤w.heap.size) (h:OwnG w E e v l L):OwnG w0 E e v l L:=by
 rcases h with h|⟨g,cap,cur,h1,h2,hg,h3⟩
 ·exact .inl h
 exact .inr ⟨g,cap,cur,h1,h2,Nat.le_trans hs hg,h3⟩
theorem OwnN.ge:∀ {vs:List Value} {ls:List (List α)} {L:List Blk},OwnN w0 E e vs ls L→∀ x∈L,w0.heap.size≤x.b
 | [],[],L,h,x,hx=>by rw [show L=[] from h] at hx;cases hx
 | v::vs,l::ls,L,⟨L1,L2,h,h1,h2⟩,x,hx=>by
  rw [h] at hx;rcases List.mem_append.1 hx with hx|hx
  ·exact h1.ge x hx
  exact OwnN.ge h2 x hx
theorem OwnN.wid {w:World} (hs:w0.heap.size≤w.heap.size):∀ {vs:List Value} {ls:List (List α)} {L:List Blk},OwnN w E e vs ls L→OwnN w0 E e vs ls L
 | [],[],_,h=>h
 | v::vs,l::ls,L,⟨L1,L2,h,h1,h2⟩=>⟨L1,L2,h,h1.wid hs,OwnN.wid hs h2⟩
theorem SloN.now {w w':World} {vs:List Value} {ls:List (List α)} (h:SloN w w' E e vs ls) (hw:Sat w0 X M w) (he:Ext w w'):∃ L,Sat w0 X (L++M) w'∧OwnN w0 E e vs ls L:=by
 obtain ⟨L,h1,h2,h3⟩:=h;have hw':=Sat.mono _ _ _ _ _ hw he;refine ⟨L,⟨hw'.os,hw'.tape,hw'.output,hw'.size,hw'.old,?_,fun y hy=>?_⟩,h1.wid hw.size⟩
 ·rw [List.map_append]
  refine List.nodup_append.2 ⟨h2,hw'.nodup,fun a ha b hb e=>?_⟩;subst e;obtain ⟨x,hx,e1⟩:=List.mem_map.1 ha;obtain ⟨y,hy,e2⟩:=List.mem_map.1 hb;have g1:=h1.ge x hx;have g2:=eZ? (hw.mem y hy);omega
 rcases List.mem_append.1 hy with hy|hy
 ·exact h3 y hy
 exact hw'.mem y hy
theorem Sat.sloN {w:World} {L M2:List Blk} {vs:List Value} {ls:List (List α)} (hw:Sat w0 X M w) (p:M.Perm (L++M2)) (h:OwnN w0 E e vs ls L):SloN w0 w E e vs ls:=by
 have h2:=hw.perm p;refine ⟨L,h,?_,fun x hx=>h2.mem x (List.mem_append_left _ hx)⟩;have:=h2.nodup;rw [List.map_append] at this;exact (List.nodup_append.1 this).1
def av_ (w0:World) (M:List Blk) (E:TypeId) (e:El α) (v1 v2 v3 v4:Value) (l1 l2 l3 l4:List α):Prop:=∃ L M2,M.Perm (L++M2)∧OwnN w0 E e [v1,v2,v3,v4] [l1,l2,l3,l4] L
theorem UJ {v1 v2 v3 v4:Value} {l1 l2 l3 l4:List α} {L1 L2 L3 L4 M1 M2 M3 M4:List Blk} (h1:OwnG w0 E e v1 l1 L1) (h2:OwnG w0 E e v2 l2 L2) (h3:OwnG w0 E e v3 l3 L3) (h4:OwnG w0 E e v4 l4 L4)
  (f1:Frq M L1 M1) (f2:Frq M1 L2 M2) (f3:Frq M2 L3 M3) (f4:Frq M3 L4 M4):av_ w0 M E e v1 v2 v3 v4 l1 l2 l3 l4 :=
 ⟨L1++(L2++(L3++(L4++[]))),M4,f1.trans (by
  have g1:M1.Perm (L2++(L3++(L4++M4))):=f2.trans (List.Perm.append_left _ (f3.trans (List.Perm.append_left _ f4)));have:=List.Perm.append_left L1 g1
  simpa [List.append_assoc] using this),L1,_,rfl,h1,L2,_,rfl,h2,L3,_,rfl,h3,L4,_,rfl,h4,rfl⟩
theorem yL {n:Nat} {f:FuncId} {fn:Func} {c:Code} {args:List Value} {w:World} {l1 l2 l3 l4:List α} (R:Value→Value→Value→Value→Value) (hf:P.funcs[f]? = some fn) (hb:fn.body=some c) (hn:fn.ntmps=n) (hl:args.length≤n)
  (h:W P w [] (pl n) c (oW P fn w [] (pl n) fun r M=>∃ v1 v2 v3 v4,r=R v1 v2 v3 v4∧av_ w M E e v1 v2 v3 v4 l1 l2 l3 l4) (tS 0 args) []):Calls P f args.toArray w fun f w'=>∃ v1 v2 v3 v4,f = .returned (R v1 v2 v3 v4)∧Ext w w'∧SloN w w' E e [v1,v2,v3,v4] [l1,l2,l3,l4] :=
 (qK hf hb hn hl (Sat.start w []) h).mono fun f w' ⟨r,M',he,hs,_,v1,v2,v3,v4,hr,L,M2,p,hN⟩=>⟨v1,v2,v3,v4,by rw [he,hr],hs.ext,hs.sloN p hN⟩
theorem AQ {g:FuncId} {xs:List Operand} {tys:Array TypeId} {args:List Value} {K:Value→List Blk→Prop} {l1 l2 l3 l4:List α} (R:Value→Value→Value→Value→Value) (he:mI P g=true) (ha:evL N S xs=some args)
  (h:∀ w,Sat w0 X M w→Calls P g args.toArray w fun f w'=>∃ v1 v2 v3 v4,f = .returned (R v1 v2 v3 v4)∧Ext w w'∧SloN w w' E e [v1,v2,v3,v4] [l1,l2,l3,l4])
  (k:∀ p1 c1 L1 p2 c2 L2 p3 c3 L3 p4 c4 L4,OwnG w0 E e (.slice p1 l1.length c1) l1 L1→OwnG w0 E e (.slice p2 l2.length c2) l2 L2→OwnG w0 E e (.slice p3 l3.length c3) l3 L3→OwnG w0 E e (.slice p4 l4.length c4) l4 L4→K (R (.slice p1 l1.length c1) (.slice p2 l2.length c2) (.slice p3 l3.length c3) (.slice p4 l4.length c4)) (L1++(L2++(L3++(L4++M))))) :
  OpR P w0 X N ⟨d,.call { callee:=.value (.func g),args:=xs.toArray,argTypes:=tys },ty,ps,af,gd⟩ S M K :=
 DX he ha fun w hw=>(h w hw).mono fun _ w' ⟨v1,v2,v3,v4,h1,h2,h3⟩=>by
  obtain ⟨L,hs,L1,_,rfl,q1,L2,_,rfl,q2,L3,_,rfl,q3,L4,_,rfl,q4,rfl⟩:=h3.now hw h2;obtain ⟨p1,c1,rfl⟩:=q1.form;obtain ⟨p2,c2,rfl⟩:=q2.form;obtain ⟨p3,c3,rfl⟩:=q3.form;obtain ⟨p4,c4,rfl⟩:=q4.form;simp only [List.append_assoc,List.nil_append] at hs;exact ⟨_,_,h1,hs,Ext.keeps h2,k _ _ _ _ _ _ _ _ _ _ _ _ q1 q2 q3 q4⟩
end
open Go Go.Num
section
variable {P:Program} {w0:World} {X:List Nat} {N:Nm} {S:Fr} {M M':List Blk} {d:Option Tmp} {ty:TypeId} {ps:String} {af:Array Edge} {gd:Option (Nat×Bool)}
theorem HI {g:FuncId} {f:Operand} {xs:List Operand} {tys:Array TypeId} {args cap:List Value} {Q K:Value→List Blk→Prop} (he:mI P g=true) (hf:evO N S f=some (.func (.func g) #[] cap.toArray)) (ha:evL N S xs=some args)
  (h:∀ w,Sat w0 X M w→Calls P g (args++cap).toArray w fun e w'=>∃ v M',e = .returned v∧Sat w0 X M' w'∧KeepsOthers w w'∧Q v M') (k:∀ v M',Q v M'→K v M') :
  OpR P w0 X N ⟨d,.call { callee:=.value f,args:=xs.toArray,argTypes:=tys },ty,ps,af,gd⟩ S M K:=by
 intro w hw;unfold opw;rw [nQ,zN (first:=[]) (cap:=cap) (args:=args++cap) he (bT hf) (by simpa using uO ha)];exact (h w hw).mono fun e w' ⟨v,M',h1,h2,h4,h3⟩=>⟨v,h1,h4,M',h2,k v M' h3⟩
theorem IR {α:Type} {e:El α} {l:List α} {E:TypeId} {g:FuncId} {f:Operand} {xs:List Operand} {tys:Array TypeId} {args:List Value} {K:Value→List Blk→Prop} (R:Value→Value) (he:mI P g=true) (hf:evO N S f=some (.func (.func g) #[] #[])) (ha:evL N S xs=some args)
  (h:∀ w,Sat w0 X M w→Calls P g args.toArray w fun f w'=>∃ v,f = .returned (R v)∧Ext w w'∧Slo w.heap.size w' E e v l) (k:∀ p c L,OwnG w0 E e (.slice p l.length c) l L→K (R (.slice p l.length c)) (L++M)) :
  OpR P w0 X N ⟨d,.call { callee:=.value f,args:=xs.toArray,argTypes:=tys },ty,ps,af,gd⟩ S M K :=
 HI (cap:=[]) (Q:=K) he hf ha (fun w hw=>by
  rw [List.append_nil]
  exact (h w hw).mono fun _ w' ⟨v,h1,h2,h3⟩=>by
   obtain ⟨p,c,L,rfl,hs,hv⟩:=h3.now hw h2
   exact ⟨_,L++M,h1,hs,Ext.keeps h2,k p c L hv⟩) (fun _ _ h=>h)
theorem N9 {n:Nat} {f:FuncId} {fn:Func} {c:Code} {args:List Value} {w:World} {Q:Value→List Blk→Prop} (hf:P.funcs[f]? = some fn) (hb:fn.body=some c) (hn:fn.ntmps=n) (hl:args.length≤n) (hw:Sat w0 X M w)
  (h:W P w0 X (pl n) c (oW P fn w0 X (pl n) fun v M'=>∃ M2 Z,M'.Perm (M2++Z)∧Q v M2) (tS 0 args) M):Calls P f args.toArray w fun e w'=>∃ v M',e = .returned v∧Sat w0 X M' w'∧KeepsOthers w w'∧Q v M' :=
 (qK hf hb hn hl hw h).mono fun e w' ⟨v,M',h1,h2,h3,M2,Z,p,hq⟩=>⟨v,M2,h1,(h2.perm p).sub (List.sublist_append_left _ _),h3,hq⟩
theorem MP {x y z:Blk} {L R M1 M2 M3 M4 M5:List Blk} (f1:Frq M [x] M1) (f2:Frq M1 L M2) (f3:Frq M2 [y] M3) (f4:Frq M3 [z] M4) (f5:Frq M4 R M5):M.Perm (x::(L++(y::(z::(R++M5))))):=by
 have g4:M3.Perm (z::(R++M5)):=f4.trans (List.Perm.cons z f5);have g3:M2.Perm (y::(z::(R++M5))):=f3.trans (List.Perm.cons y g4);have g2:M1.Perm (L++(y::(z::(R++M5)))):=f2.trans (List.Perm.append_left L g3);exact f1.trans (List.Perm.cons x g2)
theorem Frq.pc {x:Blk} {M1 R:List Blk} (f:Frq M [x] M1) (g:M1.Perm R):M.Perm (x::R):=f.trans (List.Perm.cons x g)
theorem Frq.pa {L M1 R:List Blk} (f:Frq M L M1) (g:M1.Perm R):M.Perm (L++R):=f.trans (List.Perm.append_left L g)
theorem zT {x y z:Blk} {L R Z:List Blk}:(x::(L++(y::(z::(R++Z))))).Perm ((x::(L++(y::(z::(R++[])))))++Z):=by
 simp [List.append_assoc]
theorem c7_ {M:List Blk}:Frq M [] M:=List.Perm.refl _
def eo_ {α:Type} (w0:World) (E T:TypeId) (e:El α) (bt:Nat) (v:Value) (l:List α) (R:List Blk) (r:Value) (M:List Blk):Prop :=
 ∃ p c L,r=v∧OwnG w0 E e (.slice p l.length c) l L∧M=⟨bt,T,cF [csl p l.length c]⟩::(L++R)
end
end Go.Kn
namespace Go.Num
open Go Go.Kn
theorem W.sub1 {a:W} (h:1≤a.1):(W.sub a (wl 1)).1=a.1 - 1:=by
 have:=a.2;unfold I64 at this;exact wi ⟨by show _≤a.1 - 1;omega,by show a.1 - 1≤_;omega⟩
theorem cp_ {k:Nat} (h:k≤12):([]:List Rt).length+2 ^ k≤5000:=by
 have:=Nat.pow_le_pow_right (show 0<2 by decide) h
 show 0+2 ^ k≤5000
 omega
end Go.Num
namespace Go.Proofs.YtkjjponijamaoaaGreatDoor
open Go.Kn Go.Num Tryz
attribute [local irreducible] Go.Kn.W WL PL OpQ OpR OpS
theorem jI (va:Value) (l:List Nat) (k:Nat) (w:World) (hva:Sl w va l) :
   Calls prog 236 [va,.int .i64 (k:Int)].toArray w (fun e w'=>e = .returned (.int .i64 ((l.getD k 0:Nat):Int))∧Ext w w'):=by
 refine cM (N:=13) func236 O O zz_ ?_;obtain ⟨w0,rfl⟩:=nm w;refine giI ?_;refine go7 ?_;refine sQ (oV iV O hva.old) O (go2 ?_);refine aH _ O (fun hk=>?_) (fun hk=>?_)
 ·replace hk:=cB_ hk
  refine go3 ?_;refine sQ (AO iV O O hva.old oo_) O (sQ (wY tyT O hva.old oo_) O (go3 ?_));refine rt1 ?_;exact rfl
 replace hk:=cB_ hk
 refine go5 ?_;refine rt1 ?_;exact congrArg (fun n:Nat=>Value.int .i64 (n:Int)) (show 0=l.getD k 0 by simp [List.getD,List.getElem?_eq_none (show l.length≤k by omega)])
theorem kK (va:Value) (l:List Nat) (hD:DL l) (hn:l.length≤1000) (w:World) (hva:Sl w va l) :
    Calls prog 235 [va].toArray w (fun e w'=>e = .returned (sls va (dl (dv l)).length)∧Ext w w'):=by
 refine cM (N:=21) func235 O O zz_ ?_;obtain ⟨w0,rfl⟩:=nm w;refine giI ?_;refine go5 ?_;refine sQ (oV iV O hva.old) O (go4 ?_);refine bX (rg [3] 6 12) (fun g nn M=>∃ (k:Nat),(g 3 = .int .i64 (k:Int))∧M=[]∧nn=k+0∧(k≤l.length∧∀ j,k≤j→l.getD j 0=0)) (l.length) ?start ?round
 case start =>
  refine ⟨_,(List.Sublist.refl _),l.length,?a3,?mem0,rfl,⟨Nat.le_refl _,fun j hj=>by simp [List.getD,List.getElem?_eq_none (show l.length≤j by omega)]⟩⟩
  case mem0=>rfl
  case a3=>rfl
 case round =>
  rintro nn g M ⟨k,hg3,rfl,hmeas,⟨hk,hhi⟩⟩;subst nn;refine gS1 hg3 ?_;clear hg3;refine go5 ?_
  cases hz:decide ((0:Int)<(k:Int))
  ·refine ZK ?_;refine sQ (XQ iV O O hva.old oo_) O (go3 ?_);refine rt1 ?_;rw [I8 hD,NP hhi (.inl (by have:=of_decide_eq_false hz;omega))]
  have hz':=of_decide_eq_true hz;obtain ⟨m,rfl⟩:∃ m,k=m+1:=⟨k - 1,by omega⟩;refine go2 ?_;refine sQ (aY (qV O O) (congrArg (Value.int .i64) (EI oo_))) O (sQ (AO iV O O hva.old oo_) O (sQ (wY tyT O hva.old oo_) O (go3 ?_)));refine aH _ O (fun h0=>?_) (fun h0=>?_)
  ·replace h0:=cB_ h0
   refine go4 ?_;refine sQ (aY (qV O O) (congrArg (Value.int .i64) (EI oo_))) O (go2 ?_);refine ⟨pp_,_,_,(List.Sublist.refl _),oo_,m,?s3,?mem,rfl,⟨by omega,fun j hj=>by rcases Nat.eq_or_lt_of_le hj with rfl|hj;omega;exact hhi j hj⟩⟩
   case mem=>rfl
   case s3=>rfl
  replace h0:=cB_ h0
  refine go4 ?_;refine sQ (XQ iV O O hva.old oo_) O (go3 ?_);refine rt1 ?_;rw [I8 hD,NP hhi (.inr (by simp only [Nat.add_sub_cancel];omega))]
theorem bS (a:R) (ha:a.Ok) (w:World)  :
    Calls prog 163 [RV a].toArray w (fun e w'=>∃ v,e = .returned v∧Ext w w'∧Slf w.heap.size w' v (dl (val a.w))):=by
 refine wU (N:=26) func163 O O zz_ ?_;obtain ⟨w0,rfl⟩:=nm w;refine giI ?_;refine go_ ?_;refine aZ O (kV O O (fun b1 hb1=>j0 ?_));refine bX (rg [] 3 21) (fun g nn M=>∃ (k:Nat) (v:Value) (l:List Nat) (L:List Blk),(g 3=v∧g 4 = .int .i64 (k:Int))∧M=L++[⟨b1,31,a.cells⟩]∧nn=16 - k∧(k≤16∧OwnL w0 3 v l L∧DL l∧l.length=2*k∧dv l=val a.w % 4294967296 ^ k)) (16) ?start ?round
 case start =>
  refine ⟨_,(List.Sublist.refl _),0,_,[],[],⟨?a3,?a4⟩,?mem0,rfl,⟨Nat.zero_le _,.nil,DL.nil,rfl,by simp [dv,Nat.mod_one]⟩⟩
  case mem0=>rfl
  case a3=>rfl
  case a4=>rfl
 case round =>
  rintro nn g M ⟨k,v,l,L,⟨hg3,hg4⟩,rfl,hmeas,⟨hk,hO,hD,hlen,hdv⟩⟩;subst nn;refine gS2 hg3 hg4 ?_;clear hg3 hg4;refine go5 ?_;refine aH _ O (fun hc=>?_) (fun hc=>?_)
  ·replace hc:=cB_ hc
   have hc:k<16:=by omega
   refine go3 ?_;refine kU sn 16 [13,14] [14] (go2 ?_);refine pQ O (cB fdT dd_ O) (pQ O (fL arT O O oo_ oo_) (pQ O (dR tyT O mm_ (pH (r:=a) (k:=k) (by rw [ha.len];omega))) ?_));refine pQ O (qU O O dd_) (pQ O (aY (eX jA FG O) (dy_ (eH ha.lim k))) (go_ ?_));refine pQ O (cB fdT dd_ O) (pQ O (fL arT O O oo_ oo_) (pQ O (dR tyT O mm_ (pH (r:=a) (k:=k) (by rw [ha.len];omega))) ?_));refine pQ O (lC O O dd_) (pQ O (aY (eX jA FG O) (dv_ (eH ha.lim k))) ?_);refine bP O O (kA iG z_3 pM O dd_ O (bA_ _ _) (fun b22 hb22=>⟨(fun _=>by first|exact sd s0|exact s0),ss_,?_⟩));refine bP O O (CB iG Q9 O O hO (SL.mine (l:=[a.w.getD k 0 % 65536,a.w.getD k 0 / 65536]) (.head _) (Nat.le_refl _)) (List.sublist_cons_self _ _) (by simp;omega) (fun v' L' hO'=>⟨nf,ss_,?_⟩));refine go4 ?_;refine sQ (aY (j9 O O) (congrArg (Value.int .i64) (lD oo_))) O (go2 ?_);refine ⟨pp_,_,_,(List.Sublist.refl _),oo_,k+1,_,_,_,⟨?s3,?s4⟩,?mem,rfl,⟨by omega,hO',hD.append (DL.two (eH ha.lim k)),by simp [hlen];omega,OH ha.lim hlen hdv⟩⟩
   case mem=>rfl
   case s3=>rfl
   case s4=>rfl
  replace hc:=cB_ hc
  obtain rfl:k=16:=by omega
  refine go3 ?_;refine sQ (dF aB O (fun w hw=>kK v l hD oo_ w (SL.sl (hO.sl lZ) hw))) O (go3 ?_);refine rt1 ?_;exact xC hD (by rw [hdv,QQ ha]) (hO.slf lZ)
theorem eO  :
  Ret prog 89 [] (RV Z.bad.enc):=by
 refine bG (N:=2) func89 O O zz_ (fun w0=>?_);refine giI ?_;refine go_ ?_;refine aZ O (eM jP (fun b0 hb0=>go2 ?_));refine sQ (xN jP plT O (.cons O (vs:=[.bool true]) O O (by simp [zR]) (z':=Z.bad.enc.cells) O (.nil _))) O ?_;refine aZ O (bN tyT O O uu_ O O (bI Z.bad.enc) (.inl fR) ?_);refine go2 ?_;refine rtX O ⟨_,_,_,_,_,_,rfl,mm_,tyT,_,(dI O),rfl,rfl⟩ ?_;exact rfl
theorem tW (r:R) (h:r.Ok) :
    Ret prog 227 [RV r] (.bool r.valid):=by
 refine bG (N:=32) func227 O O zz_ (fun w0=>?_);refine giI ?_;refine go_ ?_;refine aZ O (kV O O (fun b1 hb1=>j0 ?_));refine bX (rg [] 3 14) (fun g nn M=>∃ (k:Nat) (z:Bool),(g 3 = .bool z∧g 4 = .int .i64 (k:Int))∧M=[⟨b1,31,r.cells⟩]∧nn=16 - k∧(k≤16∧(z=true ↔ ∀ j,j<k→r.w.getD j 0=0))) (16) ?start ?round
 case start =>
  refine ⟨_,(List.Sublist.refl _),0,true,⟨?a3,?a4⟩,?mem0,rfl,⟨Nat.zero_le _,⟨fun _ j hj=>by omega,fun _=>rfl⟩⟩⟩
  case mem0=>rfl
  case a3=>rfl
  case a4=>rfl
 case round =>
  rintro nn g M ⟨k,z,⟨hg3,hg4⟩,rfl,hmeas,⟨hk,hz⟩⟩;subst nn;refine gS2 hg3 hg4 ?_;clear hg3 hg4;refine go5 ?_;refine aH _ O (fun hc=>?_) (fun hc=>?_)
  ·replace hc:=cB_ hc
   have hc:k<16:=by omega
   refine go6 ?_
   cases z
   ·refine j0 ?_;refine sQ (aY (j9 O O) (congrArg (Value.int .i64) (lD oo_))) O (go2 ?_);refine ⟨pp_,_,_,(List.Sublist.refl _),oo_,k+1,?zz_1,⟨?s3,?s4⟩,?mem,rfl,⟨by omega,?inv_1⟩⟩
    case mem=>rfl
    case s3=>rfl
    case s4=>rfl
    first|exact P7 hz|exact TM hz
   refine go_ ?_;refine sQ (cB fdT dd_ O) O (sQ (fL arT O O oo_ oo_) O (sQ (dR tyT O mm_ (pH (r:=r) (k:=k) (by rw [h.len];omega))) O ?_));refine go6 ?_;refine sQ (aY (j9 O O) (congrArg (Value.int .i64) (lD oo_))) O (go2 ?_);refine ⟨pp_,_,_,(List.Sublist.refl _),oo_,k+1,?zz_2,⟨?s3,?s4⟩,?mem,rfl,⟨by omega,?inv_2⟩⟩
   case mem=>rfl
   case s3=>rfl
   case s4=>rfl
   first|exact P7 hz|exact TM hz
  replace hc:=cB_ hc
  obtain rfl:k=16:=by omega
  obtain rfl:z=r.zero:=as_ h hz;refine go3 ?_;refine sQ (cB fdT dd_ O) O (sQ (dR tyT O mm_ O) O ?_);refine go_ ?_;refine aH _ O (fun hb=>?_) (fun hb=>?_)
  ·replace hb:=cB_ hb
   refine go3 ?_
   cases hz0:r.zero
   ·refine go7 ?_;refine rt1 ?_
    simp [R.valid, *]
   refine sQ (cB fdT dd_ O) O (sQ (dR tyT O mm_ O) O ?_);refine go5 ?_;refine rt1 ?_
   simp [R.valid, *]
  replace hb:=cB_ hb
  refine go5 ?_
  cases hz0:r.zero
  ·refine go7 ?_;refine rt1 ?_
   simp [R.valid, *]
  refine sQ (cB fdT dd_ O) O (sQ (dR tyT O mm_ O) O ?_);refine go5 ?_;refine rt1 ?_
  simp [R.valid, *]
theorem bW (r:R) (h:r.Ok) :
   Ret prog 148 [RV r] (.bool r.good):=by
 refine bG (N:=12) func148 O O zz_ (fun w0=>?_);refine giI ?_;refine go_ ?_;refine aZ O (kV O O (fun b1 hb1=>go3 ?_));refine sQ (cA tyT O mm_ (cC h)) O ?_;refine sQ (bE aB (tW r h) O) O (go5 ?_)
 cases hv:r.valid
 ·refine go7 ?_;refine rt1 ?_
  simp [R.good, *]
 refine sQ (cB fdT dd_ O) O (sQ (dR tyT O mm_ O) O ?_);refine go5 ?_;refine rt1 ?_
 simp [R.good, *]
theorem dU (neg:Bool) (va:Value) (l:List Nat) (hD:DL l) (hn:l.length≤1000) (w:World) (hva:Sl w va l) :
    Calls prog 168 [.bool neg,va].toArray w (fun e w'=>e = .returned (RV (Z.of (sgn neg (dv l))).enc)∧Ext w w'):=by
 refine cM (N:=62) func168 O O zz_ ?_;obtain ⟨w0,rfl⟩:=nm w;refine giI ?_;have hu0:∀ M,SL w0 [] M (sls va (dl (dv l)).length) (dl (dv l)):=fun M=>YE hD hva.old;refine go_ ?_;refine aZ O (eM jP (fun b4 hb4=>go3 ?_));refine sQ (dF aB O (fun w hw=>kK va l hD hn w (SL.sl (M:=_) hva.old hw))) O (go5 ?_);refine sQ (oV iV O (hu0 _)) O (go2 ?_);refine aH _ O (fun hbig=>?_) (fun hbig=>?_)
 ·replace hbig:=cB_ hbig
  refine go_ ?_;refine sQ (bE aB eO O) O (aZ O (bN tyT O O uu_ (aF _) O (bI _) (.inl fR) ?_));refine go2 ?_;refine rtX O ⟨_,_,_,_,_,_,rfl,mm_,tyT,_,(dI (aF _)),(aF _),rfl⟩ ?_;exact Q7 oo_
 replace hbig:=cB_ hbig
 have hlen:(dl (dv l)).length≤32:=by omega
 refine go_ ?_;refine wN (rg [6] 14 7) (fun g M=>∃ (b6:Nat),(g 6 = .pointer (some ⟨b6,0,none⟩))∧M=⟨b6,31,R.cells (R.mk false (neg&&decide ((0:Int)<((dl (dv l)).length:Int))) (List.replicate 16 0))⟩::[⟨b4,31,zR⟩]∧(w0.heap.size≤b6)) (fun K6 J6=>?_) ?_
 ·refine go3 ?_
  cases neg
  ·refine go4 ?_;refine sQ (xN jP plT O (WF _)) O (aZ O (eM jP (fun b6 hb6=>aZ O (bN tyT O O uu_ (by simp [R.cells,i6]) O (bI _) (.inl fR) ?_))));refine go_ ?_;refine J6 _ _ pp_ ⟨_,(List.Sublist.refl _),_,?s6,?mem,hb6⟩
   case mem=>rfl
   case s6=>rfl
  refine go_ ?_;refine sQ (oV iV O (hu0 _)) O (go2 ?_);refine sQ (xN jP plT O (WF _)) O (aZ O (eM jP (fun b6 hb6=>aZ O (bN tyT O O uu_ (by simp [R.cells,i6]) O (bI _) (.inl fR) ?_))));refine go_ ?_;refine J6 _ _ pp_ ⟨_,(List.Sublist.refl _),_,?s6,?mem,hb6⟩
  case mem=>rfl
  case s6=>rfl
 rintro g M ⟨b6,hg6,rfl,hb6⟩;refine gS1 hg6 ?_;clear hg6;refine go5 ?_;refine bX (rg [7] 21 40) (fun g nn M=>∃ (k:Nat) (ws:List Nat),(g 7 = .int .i64 (k:Int))∧M=⟨b6,31,R.cells (R.mk false (neg&&decide ((0:Int)<((dl (dv l)).length:Int))) ws)⟩::[⟨b4,31,zR⟩]∧nn=(dl (dv l)).length - k∧(k≤(dl (dv l)).length∧NumIn (dv l) k ws)) ((dl (dv l)).length - 0) ?start ?round
 case start =>
  refine ⟨_,(List.Sublist.refl _),0,_,?a7,?mem0,rfl,⟨Nat.zero_le _,NumIn.start _⟩⟩
  case mem0=>rfl
  case a7=>rfl
 case round =>
  rintro nn g M ⟨k,ws,hg7,rfl,hmeas,⟨hk,hI⟩⟩;subst nn;refine gS1 hg7 ?_;clear hg7;refine go4 ?_;refine sQ (oV iV O (hu0 _)) O (go2 ?_);refine aH _ O (fun hc=>?_) (fun hc=>?_)
  ·replace hc:=cB_ hc
   have hk32:k<32:=by omega
   refine go5 ?_;refine sQ (aY (qU O O dd_) (congrArg (Value.int .i64) (eK_ k))) O (go2 ?_);refine aH _ O (fun hpar=>?_) (fun hpar=>?_)
   ·replace hpar:=cB_ hpar
    have hpar:k % 2=0:=by omega
    have hz:=(hI.even hpar hk32).2;refine kU (sd (sk s0)) 16 [15] [15] (go_ ?_);refine pQ O (aY (lC O O dd_) (congrArg (Value.int .i64) (Z3 k oo_))) (go_ ?_);refine pQ O (aY (lC O O dd_) (congrArg (Value.int .i64) (Z3 k oo_))) (pQ O (cB fdT dd_ O) (pQ O (fL arT O O oo_ oo_) (pQ O (dR tyT O mm_ (pH (r:=R.mk false (neg&&decide ((0:Int)<((dl (dv l)).length:Int))) ws) (k:=k / 2) (by simp only [hI.len];omega))) ?_)));refine go2 ?_;refine pQ O (AO iV O O (hu0 _) oo_) (pQ O (wY tyT O (hu0 _) oo_) (pQ O (eX FG jA O) (pQ O (aY (j9 O O) (show _=U32 (dg (dv l) k) by rw [(hI.even hpar hk32).1,D9];exact VM (pN _ _))) (pQ O (cB fdT dd_ O) (pQ O (fL arT O O oo_ oo_) ?_)))));refine bP O O (PN (k:=k / 2) tyT O O uu_ (by rw [hI.len];omega) (.inl fR) ⟨nf,ss_,?_⟩);refine go3 ?_;refine sQ (aY (j9 O O) (congrArg (Value.int .i64) (lD oo_))) O (go2 ?_);refine ⟨pp_,_,_,(List.Sublist.refl _),oo_,k+1,_,?s7,?mem,rfl,⟨by omega,hz⟩⟩
    case mem=>rfl
    case s7=>rfl
   replace hpar:=cB_ hpar
   have hpar:¬ k % 2=0:=by omega
   have hz:=(hI.odd hpar hk32).2;refine gdr (sd (sk s0)) [0,4,8,12,16,20,24,28,32,36,40,44,48,52,56,60,65] [16] mix (by kernel_rfl) (go_ ?_);refine pQ O (aY (lC O O dd_) (congrArg (Value.int .i64) (Z3 k oo_))) (go_ ?_);refine pQ O (aY (lC O O dd_) (congrArg (Value.int .i64) (Z3 k oo_))) (pQ O (cB fdT dd_ O) (pQ O (fL arT O O oo_ oo_) (pQ O (dR tyT O mm_ (pH (r:=R.mk false (neg&&decide ((0:Int)<((dl (dv l)).length:Int))) ws) (k:=k / 2) (by simp only [hI.len];omega))) ?_)));refine go2 ?_;refine pQ O (AO iV O O (hu0 _) oo_) (pQ O (wY tyT O (hu0 _) oo_) (pQ O (eX FG jA O) (go_ ?_)));refine pQ O (aY (j9 O O) (show _=U32 (ws.getD (k / 2) 0+dg (dv l) k*65536) by rw [D9];exact Y0 (hI.odd hpar hk32).1 (pN _ _))) (pQ O (cB fdT dd_ O) (pQ O (fL arT O O oo_ oo_) ?_));refine bP O O (PN (k:=k / 2) tyT O O uu_ (by rw [hI.len];omega) (.inl fR) ⟨nf,ss_,?_⟩);refine go3 ?_;refine sQ (aY (j9 O O) (congrArg (Value.int .i64) (lD oo_))) O (go2 ?_);refine ⟨pp_,_,_,(List.Sublist.refl _),oo_,k+1,_,?s7,?mem,rfl,⟨by omega,hz⟩⟩
   case mem=>rfl
   case s7=>rfl
  replace hc:=cB_ hc
  obtain rfl:k=(dl (dv l)).length:=by omega
  refine go2 ?_;refine sQ (cA tyT O mm_ (by simp [R.cells,i6,hI.len])) O ?_;refine aZ O (bN tyT O O uu_ (by simp [R.cells,i6,hI.len]) O (bI _) (.inl fR) ?_);refine go2 ?_;refine rtX O ⟨_,_,_,_,_,_,rfl,mm_,tyT,_,(dI (by simp [R.cells,i6,hI.len])),(by simp [R.cells,i6,hI.len]),rfl⟩ ?_;exact Q8 hI
theorem rL (va vb:Value) (la lb:List Nat) (hDa:DL la) (hDb:DL lb) (hna:la.length≤200) (hnb:lb.length≤200) (w:World) (hva:Sl w va la) (hvb:Sl w vb lb) :
    Calls prog 164 [va,vb].toArray w (fun e w'=>∃ v,e = .returned v∧Ext w w'∧Slf w.heap.size w' v (dl (dv la+dv lb))):=by
 refine wU (N:=37) func164 O O zz_ ?_;obtain ⟨w0,rfl⟩:=nm w;refine giI ?_;refine zO ?_;refine bX (rg [] 5 30) (fun g nn M=>∃ (k:Nat) (v:Value) (l:List Nat) (L:List Blk),(g 5=v∧g 6 = .int .i64 ((cD (dv la) (dv lb) k:Nat):Int)∧g 7 = .int .i64 (k:Int))∧M=L++[]∧nn=max la.length lb.length+1 - k∧(k≤max la.length lb.length+1∧OwnL w0 3 v l L∧DL l∧l.length=k∧dv l=(dv la+dv lb) % 65536 ^ k)) (max la.length lb.length+1 - 0) ?start ?round
 case start =>
  refine ⟨_,(List.Sublist.refl _),0,_,[],[],⟨?a5,?a6,?a7⟩,?mem0,rfl,⟨Nat.zero_le _,.nil,DL.nil,rfl,by simp [dv,Nat.mod_one]⟩⟩
  case mem0=>rfl
  case a5=>rfl
  case a6=>rw [Y5];rfl
  case a7=>rfl
 case round =>
  rintro nn g M ⟨k,v,l,L,⟨hg5,hg6,hg7⟩,rfl,hmeas,⟨hk,hO,hD,hlen,hdv⟩⟩;subst nn;refine gS3 hg5 hg6 hg7 ?_;clear hg5 hg6 hg7;refine go4 ?_;refine sQ (oV iV O hva.old) O (go_ ?_);refine sQ (oV iV O hvb.old) O (sQ (XL O O) O (sQ (aY (j9 O O) (congrArg (Value.int .i64) (lD oo_))) O (go2 ?_)));refine aH _ O (fun hc=>?_) (fun hc=>?_)
  ·replace hc:=cB_ hc
   have hc:k<max la.length lb.length+1:=by omega
   refine go6 ?_;refine sQ (dF aB O (fun w hw=>jI va la k w (SL.sl (M:=_) hva.old hw))) O (go2 ?_);refine sQ (dF aB O (fun w hw=>jI vb lb k w (SL.sl (M:=_) hvb.old hw))) O (go2 ?_);refine sQ (aY (j9 O O) (congrArg (Value.int .i64) (show _=((cD (dv la) (dv lb) k+dg (dv la) k+dg (dv lb) k:Nat):Int) by rw [rJ la k hDa,rJ lb k hDb];exact es_ (pN _ _) (pN _ _) (ay_ _ _ _)))) O (go5 ?_);refine sQ (aY (qU O O dd_) (PP _)) O (aZ O (kA iG z_3 pM O dd_ O (B3 _) (fun b31 hb31=>aZ O (CB iG Q9 O O hO (SL.mine (l:=[(cD (dv la) (dv lb) k+dg (dv la) k+dg (dv lb) k) % 65536]) (.head _) (Nat.le_refl _)) (List.sublist_cons_self _ _) (by simp;omega) (fun v' L' hO'=>?_)))));refine go4 ?_;refine sQ (aY (lC O O dd_) (congrArg (Value.int .i64) (dw_ (by have:=ay_ (dv la) (dv lb) k;have:=pN (dv la) k;have:=pN (dv lb) k;omega)))) O (go4 ?_);refine sQ (aY (j9 O O) (congrArg (Value.int .i64) (lD oo_))) O (go2 ?_);refine ⟨pp_,_,_,(List.Sublist.refl _),oo_,k+1,_,_,_,⟨?s5,?s6,?s7⟩,?mem,rfl,⟨by omega,hO',hD.append (DL.one (Nat.mod_lt _ dd_)),by simp [hlen],RC hlen hdv⟩⟩
   case mem=>rfl
   case s5=>rfl
   case s6=>rw [← O9];rfl
   case s7=>rfl
  replace hc:=cB_ hc
  obtain rfl:k=max la.length lb.length+1:=by omega
  refine go3 ?_;refine sQ (dF aB O (fun w hw=>kK v l hD oo_ w (SL.sl (hO.sl lZ) hw))) O (go3 ?_);refine rt1 ?_;exact xC hD (by rw [hdv,UK hDa hDb]) (hO.slf lZ)
theorem mQ (va vb:Value) (la lb:List Nat) (hDa:DL la) (hDb:DL lb) (hna:la.length≤200) (hnb:lb.length≤200) (hle:dv lb≤dv la) (w:World) (hva:Sl w va la) (hvb:Sl w vb lb) :
    Calls prog 171 [va,vb].toArray w (fun e w'=>∃ v,e = .returned v∧Ext w w'∧Slf w.heap.size w' v (dl (dv la - dv lb))):=by
 refine wU (N:=35) func171 O O zz_ ?_;obtain ⟨w0,rfl⟩:=nm w;refine giI ?_;refine zO ?_;refine bX (rg [] 5 28) (fun g nn M=>∃ (k:Nat) (v:Value) (l:List Nat) (L:List Blk) (c:Nat),(g 5=v∧g 6 = .int .i64 (c:Int)∧g 7 = .int .i64 (k:Int))∧M=L++[]∧nn=la.length - k∧(k≤la.length∧OwnL w0 3 v l L∧DL l∧l.length=k∧c≤1∧dv l+dv lb % 65536 ^ k=dv la % 65536 ^ k+c*65536 ^ k)) (la.length - 0) ?start ?round
 case start =>
  refine ⟨_,(List.Sublist.refl _),0,_,[],[],0,⟨?a5,?a6,?a7⟩,?mem0,rfl,⟨Nat.zero_le _,.nil,DL.nil,rfl,by decide,by simp [dv,Nat.mod_one]⟩⟩
  case mem0=>rfl
  case a5=>rfl
  case a6=>rfl
  case a7=>rfl
 case round =>
  rintro nn g M ⟨k,v,l,L,c,⟨hg5,hg6,hg7⟩,rfl,hmeas,⟨hk,hO,hD,hlen,hcb,hdv⟩⟩;subst nn;refine gS3 hg5 hg6 hg7 ?_;clear hg5 hg6 hg7;refine go4 ?_;refine sQ (oV iV O hva.old) O (go2 ?_);refine aH _ O (fun hc=>?_) (fun hc=>?_)
  ·replace hc:=cB_ hc
   have hc:k<la.length:=by omega
   refine go4 ?_;refine kU sn 11 [] [] (go2 ?_);refine pQ O (AO iV O O hva.old oo_) (pQ O (wY tyT O hva.old oo_) (go2 ?_));refine pQ O (dF aB O (fun w hw=>jI vb lb k w (SL.sl (M:=_) hvb.old hw))) (go2 ?_);refine pQ O (aY (qV O O) (congrArg (Value.int .i64) (show _=((dg (dv la) k:Nat):Int) - ((dg (dv lb) k:Nat):Int) - (c:Int) by rw [rJ la k hDa,rJ lb k hDb];exact eO_ (pN _ _) (pN _ _) hcb))) (j0 ?_);refine aH _ O (fun h26=>?_) (fun h26=>?_)
   ·replace h26:=cB_ h26
    refine j0 ?_;refine sQ (aY (lI O) (show _=IV (md (dg (dv la) k) (dg (dv lb) k) c) by first|exact W5 (pN _ _) (pN _ _) hcb h26|exact W6 h26)) O ?_;refine aZ O (kA iG z_3 pM O dd_ O (B3 _) (fun b31 hb31=>aZ O (CB iG Q9 O O hO (SL.mine (l:=[md (dg (dv la) k) (dg (dv lb) k) c]) (.head _) (Nat.le_refl _)) (List.sublist_cons_self _ _) (by simp;omega) (fun v' L' hO'=>?_))));refine go4 ?_;refine sQ (aY (j9 O O) (congrArg (Value.int .i64) (lD oo_))) O (go2 ?_);refine ⟨pp_,_,_,(List.Sublist.refl _),oo_,k+1,_,_,_,mb (dg (dv la) k) (dg (dv lb) k) c,⟨?s5,?s6,?s7⟩,?mem,rfl,⟨by omega,hO',hD.append (DL.one (aN_ (pN _ _) (pN _ _) hcb)),by simp [hlen],aL_ _ _ _,F9 hlen hcb hdv⟩⟩
    case mem=>rfl
    case s5=>rfl
    case s6=>first|exact W0 h26|exact W2 h26
    case s7=>rfl
   replace h26:=cB_ h26
   refine go3 ?_;refine sQ (aY (lI O) (show _=IV (md (dg (dv la) k) (dg (dv lb) k) c) by first|exact W5 (pN _ _) (pN _ _) hcb h26|exact W6 h26)) O ?_;refine aZ O (kA iG z_3 pM O dd_ O (B3 _) (fun b31 hb31=>aZ O (CB iG Q9 O O hO (SL.mine (l:=[md (dg (dv la) k) (dg (dv lb) k) c]) (.head _) (Nat.le_refl _)) (List.sublist_cons_self _ _) (by simp;omega) (fun v' L' hO'=>?_))));refine go4 ?_;refine sQ (aY (j9 O O) (congrArg (Value.int .i64) (lD oo_))) O (go2 ?_);refine ⟨pp_,_,_,(List.Sublist.refl _),oo_,k+1,_,_,_,mb (dg (dv la) k) (dg (dv lb) k) c,⟨?s5,?s6,?s7⟩,?mem,rfl,⟨by omega,hO',hD.append (DL.one (aN_ (pN _ _) (pN _ _) hcb)),by simp [hlen],aL_ _ _ _,F9 hlen hcb hdv⟩⟩
   case mem=>rfl
   case s5=>rfl
   case s6=>first|exact W0 h26|exact W2 h26
   case s7=>rfl
  replace hc:=cB_ hc
  obtain rfl:k=la.length:=by omega
  refine go3 ?_;refine sQ (dF aB O (fun w hw=>kK v l hD oo_ w (SL.sl (hO.sl lZ) hw))) O (go3 ?_);refine rt1 ?_;exact xC hD (Q5 hDa hD hlen hle hdv hcb) (hO.slf lZ)
theorem lL (va vb:Value) (la lb:List Nat) (hDa:DL la) (hDb:DL lb) (hna:la.length≤200) (hnb:lb.length≤200) (w:World) (hva:Sl w va la) (hvb:Sl w vb lb) :
    Calls prog 166 [va,vb].toArray w (fun e w'=>e = .returned (.bool (decide (dv la<dv lb)))∧Ext w w'):=by
 refine cM (N:=30) func166 O O zz_ ?_;obtain ⟨w0,rfl⟩:=nm w;refine giI ?_;refine go6 ?_;refine sQ (oV iV O hva.old) O (go_ ?_);refine sQ (oV iV O hvb.old) O (sQ (XL O O) O (go4 ?_));refine bX (rg [4,5] 12 18) (fun g nn M=>∃ (k:Nat),(g 5 = .int .i64 ((k:Int) - 1))∧M=[]∧nn=k+0∧(k≤max la.length lb.length∧dv la / 65536 ^ k=dv lb / 65536 ^ k)) (max la.length lb.length) ?start ?round
 case start =>
  refine ⟨_,(List.Sublist.refl _),max la.length lb.length,?a5,?mem0,rfl,⟨Nat.le_refl _,Q3 hDa hDb⟩⟩
  case mem0=>rfl
  case a5=>exact congrArg (Value.int .i64) (bV (by unfold I64;omega))
 case round =>
  rintro nn g M ⟨k,hg5,rfl,hmeas,⟨hk,hd⟩⟩;subst nn;refine gS1 hg5 ?_;clear hg5;refine go5 ?_;refine aH _ O (fun hc=>?_) (fun hc=>?_)
  ·replace hc:=cB_ hc
   obtain ⟨m,rfl⟩:∃ m,k=m+1:=⟨k - 1,by omega⟩;refine go5 ?_;refine sQ (aY (lI O) (congrArg (Value.int .i64) (show (((m+1:Nat):Int) - 1)=(m:Int) by omega))) O (sQ (dF aB O (fun w hw=>jI va la m w (SL.sl (M:=_) hva.old hw))) O (go_ ?_));refine sQ (aY (lI O) (congrArg (Value.int .i64) (show (((m+1:Nat):Int) - 1)=(m:Int) by omega))) O (sQ (dF aB O (fun w hw=>jI vb lb m w (SL.sl (M:=_) hvb.old hw))) O (go2 ?_));refine aH _ O (fun hne=>?_) (fun hne=>?_)
   ·replace hne:=cB_ hne
    have hne':dg (dv la) m≠dg (dv lb) m:=by rw [← rJ la m hDa,← rJ lb m hDb];omega
    refine go2 ?_;refine sQ (aY (lI O) (congrArg (Value.int .i64) (show (((m+1:Nat):Int) - 1)=(m:Int) by omega))) O (sQ (dF aB O (fun w hw=>jI va la m w (SL.sl (M:=_) hva.old hw))) O (go_ ?_));refine sQ (aY (lI O) (congrArg (Value.int .i64) (show (((m+1:Nat):Int) - 1)=(m:Int) by omega))) O (sQ (dF aB O (fun w hw=>jI vb lb m w (SL.sl (M:=_) hvb.old hw))) O (go4 ?_));refine rt1 ?_
    (rw [rJ la m hDa,rJ lb m hDb];exact congrArg Value.bool (T9 hd hne'))
   replace hne:=cB_ hne
   have heq':dg (dv la) m=dg (dv lb) m:=by rw [← rJ la m hDa,← rJ lb m hDb];omega
   refine go2 ?_;refine sQ (aY (lI O) (congrArg (Value.int .i64) (show (((m+1:Nat):Int) - 1)=(m:Int) by omega))) O (go3 ?_);refine ⟨pp_,_,_,(List.Sublist.refl _),oo_,m,?s5,?mem,rfl,⟨by omega,T8 hd heq'⟩⟩
   case mem=>rfl
   case s5=>exact congrArg (Value.int .i64) (bV (n:=(m:Int) - 1) (by unfold I64;omega))
  replace hc:=cB_ hc
  obtain rfl:k=0:=by omega
  refine go5 ?_;refine rt1 ?_
  (simp only [Nat.pow_zero,Nat.div_one] at hd;rw [hd];exact congrArg Value.bool (decide_eq_false (Nat.lt_irrefl _)).symm)
theorem tY (va vb:Value) (la lb:List Nat) (hDa:DL la) (hDb:DL lb) (hna:la.length≤200) (hnb:lb.length≤200) (w:World) (hva:Sl w va la) (hvb:Sl w vb lb) :
    Calls prog 167 [va,vb].toArray w (fun e w'=>∃ v,e = .returned v∧Ext w w'∧Slf w.heap.size w' v (dl (dv la*dv lb))):=by
 refine wU (N:=72) func167 O O zz_ ?_;obtain ⟨w0,rfl⟩:=nm w;refine giI ?_;refine go5 ?_;refine sQ (oV iV O hva.old) O (go_ ?_);refine sQ (oV iV O hvb.old) O (sQ (aY (j9 O O) (congrArg (Value.int .i64) (pT oo_))) O (sQ (aY (j9 O O) (congrArg (Value.int .i64) (lD oo_))) O (aZ O (XW iG Q9 z_3 O O oo_ (fun b17 hb17=>go7 ?_)))));refine bX (rg [6,7,8,9,10] 18 52) (fun g nn M=>∃ (i:Nat) (o:List Nat),(g 6 = .int .i64 (i:Int))∧M=[⟨b17,3,iw o⟩]∧nn=la.length - i∧(i≤la.length∧DL o∧o.length=(la.length+lb.length+1)∧dv o=dv la % 65536 ^ i*dv lb)) (la.length - 0) ?start ?round
 case start =>
  refine ⟨_,(List.Sublist.refl _),0,List.replicate (la.length+lb.length+1) 0,?a6,?mem0,rfl,⟨Nat.zero_le _,fun d hd=>by rw [List.eq_of_mem_replicate hd];decide,by simp,by rw [EA,Nat.pow_zero,Nat.mod_one,Nat.zero_mul]⟩⟩
  case mem0=>rfl
  case a6=>rfl
 case round =>
  rintro nn g M ⟨i,o,hg6,rfl,hmeas,⟨hi,hDo,hlo,hdv⟩⟩;subst nn;refine gS1 hg6 ?_;clear hg6;refine go4 ?_;refine sQ (oV iV O hva.old) O (go2 ?_);refine aH _ O (fun hc=>?_) (fun hc=>?_)
  ·replace hc:=cB_ hc
   have hc:i<la.length:=by omega
   refine go8 ?_;refine bX (rg [7] 24 27) (fun g nn M=>∃ (k:Nat) (l:List Nat),(g 7 = .int .i64 (k:Int))∧M=[⟨b17,3,iw l⟩]∧nn=lb.length - k∧(k≤lb.length∧RowIn (la.length+lb.length+1) (dv lb) i (dg (dv la) i) o k l)) (lb.length - 0) ?start ?round
   case start =>
    refine ⟨_,(List.Sublist.refl _),0,o,?a7,?mem0,rfl,⟨Nat.zero_le _,RowIn.start _ _ _ hDo hlo⟩⟩
    case mem0=>rfl
    case a7=>rfl
   case round =>
    rintro nn g M ⟨k,l,hg7,rfl,hmeas,⟨hkl,hR⟩⟩;subst nn;refine gS1 hg7 ?_;clear hg7;refine go4 ?_;refine sQ (oV iV O hvb.old) O (go2 ?_);refine aH _ O (fun hk2=>?_) (fun hk2=>?_)
    ·replace hk2:=cB_ hk2
     have hk2:k<lb.length:=by omega
     refine go3 ?_;refine gdr sn [0,4,8,12,16,20,24,28,32,36,40,44,48,52,56,60,64,68,72,76,80,85] [21] mix (by kernel_rfl) (go3 ?_);refine pQ O (aY (j9 O O) (congrArg (Value.int .i64) (pT oo_))) (go3 ?_);refine pQ O (aY (j9 O O) (congrArg (Value.int .i64) (pT oo_))) (pQ O (rK iV O O oo_ oo_) (pQ O (dR tyT O mm_ (db_ (by rw [hR.len];omega))) ?_));refine go2 ?_;refine pQ O (AO iV O O hva.old oo_) (pQ O (wY tyT O hva.old oo_) (go2 ?_));refine pQ O (AO iV O O hvb.old oo_) (pQ O (wY tyT O hvb.old oo_) (go_ ?_));refine pQ O (aY (j9 O O) (show _=IV (l.getD (i+k) 0+dg (dv la) i*dg (dv lb) k) by rw [rJ la i hDa,rJ lb k hDb];exact ZQ (hR.high _ (Nat.le_refl _)) (pN _ _) (pN _ _))) (pQ O (rK iV O O oo_ oo_) ?_);refine bP O O (IT tyT O O uu_ (by rw [hR.len];omega) (.inl fR) ⟨nf,ss_,?_⟩);refine go3 ?_;refine sQ (aY (j9 O O) (congrArg (Value.int .i64) (lD oo_))) O (go2 ?_);refine ⟨pp_,_,_,(List.Sublist.refl _),oo_,k+1,_,?s7,?mem,rfl,⟨by omega,hR.step oo_ (pN _ _)⟩⟩
     case mem=>rfl
     case s7=>rfl
    replace hk2:=cB_ hk2
    obtain rfl:k=lb.length:=by omega
    refine go8 ?_;refine bX (rg [8,9,10] 51 19) (fun g nn M=>∃ (m:Nat) (l:List Nat) (c:Nat),(g 8 = .int .i64 (c:Int)∧g 9 = .int .i64 (m:Int))∧M=[⟨b17,3,iw l⟩]∧nn=(la.length+lb.length+1) - m∧(m≤(la.length+lb.length+1)∧CarryIn (la.length+lb.length+1) (dv o+65536 ^ i*(dg (dv la) i*(dv lb % 65536 ^ lb.length))) m l c)) ((la.length+lb.length+1) - 0) ?start ?round
    case start =>
     refine ⟨_,(List.Sublist.refl _),0,l,0,⟨?a8,?a9⟩,?mem0,rfl,⟨Nat.zero_le _,hR.done⟩⟩
     case mem0=>rfl
     case a8=>rfl
     case a9=>rfl
    case round =>
     rintro nn g M ⟨m,l,c,⟨hg8,hg9⟩,rfl,hmeas,⟨hml,hC⟩⟩;subst nn;refine gS2 hg8 hg9 ?_;clear hg8 hg9;refine go4 ?_;refine sQ (A8 iV O) O (go2 ?_);refine aH _ O (fun hm2=>?_) (fun hm2=>?_)
     ·replace hm2:=cB_ hm2
      have hm2:m<(la.length+lb.length+1):=by omega
      refine go6 ?_;refine sQ (rK iV O O oo_ oo_) O (sQ (dR tyT O mm_ (db_ (by rw [hC.len];omega))) O ?_);refine go_ ?_;refine sQ (aY (j9 O O) (congrArg (Value.int .i64) (et_ (by have:=hC.low m;have:=hC.clt;omega)))) O (go6 ?_);refine sQ (aY (qU O O dd_) (PP _)) O (sQ (rK iV O O oo_ oo_) O (aZ O (IT tyT O O uu_ (by rw [hC.len];omega) (.inl fR) ?_)));refine go3 ?_;refine sQ (aY (lC O O dd_) (congrArg (Value.int .i64) (dw_ (by have:=hC.low m;have:=hC.clt;omega)))) O (go4 ?_);refine sQ (aY (j9 O O) (congrArg (Value.int .i64) (lD oo_))) O (go2 ?_);refine ⟨pp_,_,_,(List.Sublist.refl _),oo_,m+1,_,_,⟨?s8,?s9⟩,?mem,rfl,⟨by omega,hC.step oo_⟩⟩
      case mem=>rfl
      case s8=>rfl
      case s9=>rfl
     replace hm2:=cB_ hm2
     obtain rfl:m=(la.length+lb.length+1):=by omega
     have hT:(dv o+65536 ^ i*(dg (dv la) i*(dv lb % 65536 ^ lb.length)))=dv la % 65536 ^ (i+1)*dv lb:=by rw [hdv];exact U1 (zJ lb hDb)
     have hF:=hC.fin (by rw [hT];exact YB oo_ (zJ lb hDb));rw [hT] at hF;refine go3 ?_;refine sQ (aY (j9 O O) (congrArg (Value.int .i64) (lD oo_))) O (go2 ?_);refine ⟨pp_,_,_,(List.Sublist.refl _),oo_,i+1,_,?s6,?mem,rfl,⟨by omega,hF⟩⟩
     case mem=>rfl
     case s6=>rfl
  replace hc:=cB_ hc
  obtain rfl:i=la.length:=by omega
  refine go3 ?_;refine sQ (dF aB O (fun w hw=>kK _ o hDo oo_ w (SL.sl (SL.mine' (.head _) hlo (Nat.le_refl _)) hw))) O (go3 ?_);refine rt1 ?_;exact xC hDo (by rw [hdv,Nat.mod_eq_of_lt (zJ la hDa)]) (SLf.mine hb17 (.head _) hlo (Nat.le_refl _))
theorem qG (va:Value) (la:List Nat) (k:Int) (w:World) (hva:Sl w va la) :
   Calls prog 247 [va,.int .i64 k].toArray w (fun e w'=>e = .returned (.int .i64 ((atD la k:Nat):Int))∧Ext w w'):=by
 refine cM (N:=10) func247 O O zz_ ?_;obtain ⟨w0,rfl⟩:=nm w;refine giI ?_;refine go8 ?_;refine aH _ O (fun h0=>?_) (fun h0=>?_)
 ·replace h0:=cB_ h0
  refine go4 ?_;refine rt1 ?_
  (rw [Y2 h0];rfl)
 replace h0:=cB_ h0
 refine go3 ?_;refine sQ (aY (lI O) (show _=Value.int .i64 (k.toNat:Int) from congrArg (Value.int .i64) oo_)) O (sQ (dF aB O (fun w hw=>jI va la k.toNat w (SL.sl (M:=_) hva.old hw))) O (go3 ?_));refine rt1 ?_;rw [Y3 h0]
theorem u7 (n:Int) :
   Ret prog 170 [.int .i64 n] (.bool (decide (n<2147483648)&&decide (-2147483648<n))):=by
 refine bG (N:=9) func170 O O zz_ (fun w0=>?_);refine giI ?_;refine go7 ?_
 cases h1:decide (n<2147483648)
 ·refine go6 ?_;refine rt1 ?_
  simp [*]
 refine go6 ?_;refine rt1 ?_
 simp [*]
theorem tX (n m:Int) (hn:I64 n) (hnm:n ≠ -9223372036854775808) (hm:m≠0) :
   Ret prog 197 [.int .i64 n,.int .i64 m] (.int .i64 (n.fdiv m)):=by
 refine bG (N:=23) func197 O O zz_ (fun w0=>?_);refine giI ?_;refine go6 ?_;refine sQ (aY (lC O O hm) (congrArg (Value.int .i64) (bV (RG hn hnm)))) O (go6 ?_);refine sQ (qU O O hm) O (go2 ?_)
 cases h0:(n.tmod m != 0)
 ·refine zO ?_;refine rt1 ?_;exact congrArg (Value.int .i64) (ED hm (.inl (by simpa using h0))).1.symm
 refine go4 ?_;refine sQ (vU C6 O O) O (go2 ?_);refine aH _ O (fun hs=>?_) (fun hs=>?_)
 ·replace hs:=cB_ hs
  refine go2 ?_;refine sQ (aY (qV O O) (congrArg (Value.int .i64) (bV (XS hn hnm)))) O (go7 ?_);refine rt1 ?_;exact congrArg (Value.int .i64) (QU hm (by simpa using h0) (bne_iff_ne.2 (by rw [LO (by simpa using h0)];exact hs))).1.symm
 replace hs:=cB_ hs
 refine go6 ?_;refine rt1 ?_;exact congrArg (Value.int .i64) (ED hm (.inr (by rw [LO (by simpa using h0)];simpa using hs))).1.symm
theorem gY (a:R) (ha:a.Ok) :
    Ret prog 169 [RV a] (.tuple #[.int .i64 (kZ a),.bool (jL a)]):=by
 refine bG (N:=41) func169 O O zz_ (fun w0=>?_);refine giI ?_;refine go_ ?_;refine aZ O (kV O O (fun b1 hb1=>go4 ?_));refine sQ (cA tyT O mm_ (cC ha)) O ?_;refine sQ (bE aB (bW a ha) O) O (go7 ?_)
 cases hg:a.good
 ·refine tL ?_;refine rt2 ?_;exact U6 hg
 refine sQ (cB fdT dd_ O) O (sQ (fL arT O O dd_ dd_) O (sQ (dR tyT O mm_ (pH (r:=a) (k:=1) (by rw [ha.len];decide))) O ?_));refine go3 ?_;refine aH _ O (fun h16=>?_) (fun h16=>?_)
 ·replace h16:=cB_ h16
  refine go5 ?_;refine rt2 ?_;exact QB (YL ha h16)
 replace h16:=cB_ h16
 refine go6 ?_;refine bX (rg [2,3,5] 17 9) (fun g nn M=>∃ (k:Nat),(g 5 = .int .i64 (k:Int))∧M=[⟨b1,31,a.cells⟩]∧nn=16 - k∧(2≤k∧k≤16∧∀ j,2≤j→j<k→a.w.getD j 0=0)) (14) ?start ?round
 case start =>
  refine ⟨_,(List.Sublist.refl _),2,?a5,?mem0,rfl,⟨Nat.le_refl _,by decide,fun j h1 h2=>by omega⟩⟩
  case mem0=>rfl
  case a5=>rfl
 case round =>
  rintro nn g M ⟨k,hg5,rfl,hmeas,⟨hk2,hk,hz⟩⟩;subst nn;refine gS1 hg5 ?_;clear hg5;refine go5 ?_;refine aH _ O (fun hc=>?_) (fun hc=>?_)
  ·replace hc:=cB_ hc
   have hc:k<16:=by omega
   refine go5 ?_;refine sQ (cB fdT dd_ O) O (sQ (fL arT O O oo_ oo_) O (sQ (dR tyT O mm_ (pH (r:=a) (k:=k) (by rw [ha.len];omega))) O ?_));refine go2 ?_;refine aH _ O (fun hz2=>?_) (fun hz2=>?_)
   ·replace hz2:=cB_ hz2
    refine go5 ?_;refine rt2 ?_;exact QB (U7 ha hk2 oo_)
   replace hz2:=cB_ hz2
   refine go3 ?_;refine sQ (aY (j9 O O) (congrArg (Value.int .i64) (lD oo_))) O (go2 ?_);refine ⟨pp_,_,_,(List.Sublist.refl _),oo_,k+1,?s5,?mem,rfl,⟨by omega,by omega,fun j h1 h2=>by rcases Nat.eq_or_lt_of_le (Nat.le_of_lt_succ h2) with rfl|h3;omega;exact hz j h1 h3⟩⟩
   case mem=>rfl
   case s5=>rfl
  replace hc:=cB_ hc
  obtain rfl:k=16:=by omega
  have hws:=QC ha oo_ hz;refine go2 ?_;refine sQ (cB fdT dd_ O) O (sQ (fL arT O O dd_ dd_) O (sQ (dR tyT O mm_ (pH (r:=a) (k:=1) (by rw [ha.len];decide))) O ?_));refine sQ (eX jA FG O) O (go_ ?_);refine sQ (cB fdT dd_ O) O (sQ (fL arT O O dd_ dd_) O (sQ (dR tyT O mm_ (pH (r:=a) (k:=0) (by rw [ha.len];decide))) O ?_));refine sQ (eX jA FG O) O (sQ (aY (j9 O O) (congrArg (Value.int .i64) ((QC ha oo_ hz).1))) O (go4 ?_));refine sQ (cB fdT dd_ O) O (sQ (dR tyT O mm_ O) O ?_);refine go_ ?_;refine aH _ O (fun hn=>?_) (fun hn=>?_)
  ·replace hn:=cB_ hn
   refine go7 ?_;refine rt2 ?_;exact YJ hg hws.2 hn
  replace hn:=cB_ hn
  refine go7 ?_;refine rt2 ?_;exact YK hg hws.2 hn
theorem bU (n:Int) (hn:I64 n) :
   Ret prog 95 [.int .i64 n] (RV (Z.of n).enc):=by
 refine bG (N:=35) func95 O O zz_ (fun w0=>?_);refine giI ?_;unfold I64 at hn;refine go_ ?_;refine aZ O (eM jP (fun b2 hb2=>go6 ?_));refine aH _ O (fun h0=>?_) (fun h0=>?_)
 ·replace h0:=cB_ h0
  obtain ⟨m,rfl⟩:∃ m:Nat,n=m:=⟨n.toNat,by omega⟩;refine go2 ?_;refine sQ (aY (qU O O dd_) (show _=IV (m % 65536) from PP _)) O (go_ ?_);refine sQ (aY (lC O O dd_) (LC 65536 oo_)) O (sQ (aY (qU O O dd_) (show _=IV (m / 65536 % 65536) from PP _)) O (go_ ?_));refine sQ (aY (lC O O dd_) (LC 4294967296 oo_)) O (sQ (aY (qU O O dd_) (show _=IV (m / 4294967296 % 65536) from PP _)) O (go_ ?_));refine sQ (aY (lC O O dd_) (LC 281474976710656 oo_)) O (aZ O (kA iG z_3 pM O dd_ O (WE _ _ _ _) (fun b16 hb16=>sQ (dF aB O (fun w hw=>dU false _ (dl4 m) (V7 oo_) (by simp [dl4]) w (SL.sl (SL.mine (l:=dl4 m) (.head _) (Nat.le_refl _)) hw))) O ?_)));refine aZ O (bN tyT O O uu_ (aF _) O (bI _) (.inl fR) ?_);refine go2 ?_;refine rtX O ⟨_,_,_,_,_,_,rfl,mm_,tyT,_,(dI (aF _)),(aF _),rfl⟩ ?_
  (rw [QR,tU];rfl)
 replace h0:=cB_ h0
 obtain ⟨m,rfl⟩:∃ m:Nat,n = -((m:Int)+1):=⟨(-n - 1).toNat,by omega⟩;refine go4 ?_;refine sQ (aY (XO O) (congrArg (Value.int .i64) (ZZ oo_))) O (go4 ?_);refine sQ (aY (qU O O dd_) (show _=IV (m % 65536) from PP _)) O (go_ ?_);refine sQ (aY (lC O O dd_) (LC 65536 oo_)) O (sQ (aY (qU O O dd_) (show _=IV (m / 65536 % 65536) from PP _)) O (go_ ?_));refine sQ (aY (lC O O dd_) (LC 4294967296 oo_)) O (sQ (aY (qU O O dd_) (show _=IV (m / 4294967296 % 65536) from PP _)) O (go_ ?_));refine sQ (aY (lC O O dd_) (LC 281474976710656 oo_)) O (aZ O (kA iG z_3 pM O dd_ O (WE _ _ _ _) (fun b31 hb31=>aZ O (kA iG z_3 pM O dd_ O (B3 1) (fun b32 hb32=>aZ O (gK aB O (fun w hw=>rL _ _ (dl4 m) [1] (V7 oo_) (DL.one dd_) (by simp [dl4]) zz_ w (SL.sl (SL.mine (l:=dl4 m) (.tail _ (.head _)) (Nat.le_refl _)) hw) (SL.sl (SL.mine (l:=[1]) (.head _) (Nat.le_refl _)) hw)) (fun v9 L9 h9=>?_)))))));refine sQ (dF aB O (fun w hw=>dU true _ _ (lN _) (Nat.le_trans (jT (k:=64) (by rw [QR];simp only [dv];omega)) dd_) w (SL.sl (h9.sl.sub lZ) hw))) O (aZ O (bN tyT O O uu_ (aF _) O (bI _) (.inl fR) ?_));refine go2 ?_;refine rtX O ⟨_,_,_,_,_,_,rfl,mm_,tyT,_,(dI (aF _)),(aF _),rfl⟩ ?_
 (rw [iI,QR];simp only [dv,Nat.mul_zero,Nat.add_zero];rw [dH_];rfl)
end Go.Proofs.YtkjjponijamaoaaGreatDoor
