/- Lemmas: what they ask stands in their statements. -/
import Derived.Test.YtbjlhfochebmiaaGreatDoorNWh
set_option linter.unusedSimpArgs false
set_option linter.unusedVariables false
set_option maxHeartbeats 8000000
set_option maxRecDepth 20000
namespace Go.Proofs.YtbjlhfochebmiaaGreatDoor
open Go.Kn Go.Num Tryz
attribute [local irreducible] Go.Kn.W WL PL OpQ OpR OpS
theorem iV (a:Rt) (b:Rt) :
    Ret prog 40 [AV [pI a.n,pI a.d],AV [pI b.n,pI b.d]] (.int .i64 ((cH a b).1)):=by
 refine bJ (N:=80) func40 O O zz_ (fun w0=>?_);refine giI ?_;refine go2 ?_;intro b1 hb1;refine go_ ?_;intro b2 hb2;refine go3 ?_;refine nK (sk (sk s0)) 6 [] [] (go_ ?_);refine pQ O (aX aE (kK a) O) (go_ ?_);refine pQ O (aX aE (kK b) O) (go5 ?_);refine gJv [15,16,17,18,19,20,21] [(15,.bool (!(cQ a)&&(!(cQ b))))] (fun K2 J2=>?_) ?_
 ·refine go3 ?_;rcases bt (cQ a) with h4|h4
  ·refine sB (fZ h4) O (go5 ?_);refine J2 _ _ pp_ s0 (bS (vO h4))
  refine sB (gA h4) O (go5 ?_);refine J2 _ _ pp_ s0 (bS (rY h4 O))
 intro g5;refine aN _ O (fun h6=>?_) (fun h6=>?_)
 ·refine go4 ?_;refine rt1 ?_;exact congrArg vS6 (show _=(cH a b) from aC h6 O)
 refine go5 ?_;rcases bt (cQ a) with h7|h7
 ·refine W_f (fZ h7) O (go5 ?_);rcases bt (cQ b) with h8|h8
  ·refine W_f (fZ h8) O (go8 ?_);refine cI (rg [7,8,9,10] 28 51) (fun g nn M=>∃ (o:W) (x:Rt) (y:Rt) (k:Nat),(g 7 = .int .i64 o.1)∧M=[⟨b2,35,aU [pI y.n,pI y.d]⟩,⟨b1,35,aU [pI x.n,pI x.d]⟩]∧nn=k∧(cf k o x.n x.d y.n y.d=cf (cfN a.d) (wl 1) a.n a.d b.n b.d∧cfP k x.d)) (cfN a.d) ?start ?round
   case start =>
    refine ⟨_,s0,(wl 1),a,b,(cfN a.d),?a7,rfl,rfl,⟨rfl,VK h7⟩⟩
    case a7=>rfl
   case round =>
    rintro nn g M ⟨o,x,y,k,hg7,rfl,hmeas,hinv⟩;subst nn;refine gS1 hg7 ?_;clear hg7;obtain ⟨m,rfl⟩:=OE hinv.2;refine go2 ?_;refine nK (sk (sk s0)) 12 [] [] (go4 ?_);refine pC (AV [pI (E (Z.quo x.n.dec x.d.dec))]) aE (lW x.n.1 x.d.1 x.n.2 x.d.2) O O O (go4 ?_);refine pC (AV [pI (E (Z.quo y.n.dec y.d.dec))]) aE (lW y.n.1 y.d.1 y.n.2 y.d.2) O O O (pC (.int .i64 ((Z.cmpW (Z.quo x.n.dec x.d.dec) (Z.quo y.n.dec y.d.dec)).1)) aE (DO (E (Z.quo x.n.dec x.d.dec)).1 (E (Z.quo y.n.dec y.d.dec)).1 (E (Z.quo x.n.dec x.d.dec)).2 (E (Z.quo y.n.dec y.d.dec)).2) O O (cg2 (fun p q=>Value.int .i64 (Z.cmpW p q).1) (dQ _) (dQ _)) (go6 ?_));refine aN _ O (fun h9=>?_) (fun h9=>?_)
    ·refine go3 ?_;refine sV (.int .i64 ((W.mul o (Z.cmpW (Z.quo x.n.dec x.d.dec) (Z.quo y.n.dec y.d.dec))).1)) O O (go8 ?_);refine rt1 ?_;exact congrArg vS6 (show _=(cH a b) from aH h6 (aC h7 (aC h8 (ed_ hinv.1 h9))))
    refine go_ ?_;refine gDs sn (.quiet 0 [1,7,16,17] (.quiet 1 [7,16,17] (.quiet 2 [3,6,7,14,15,16,17] (.quiet 3 [6,7,14,15,16,17] (.quiet 4 [5,6,7,14,15,16,17] (.quiet 5 [6,7,14,15,16,17] (.quiet 6 [7,14,15,16,17] (.quiet 7 [16,17] (.quiet 10 [11,14,15,16,17] (.quiet 11 [14,15,16,17] (.quiet 12 [13,14,15,16,17] (.quiet 13 [14,15,16,17] (.quiet 14 [15,16,17] (.still 8 [9,15,17] (.both 9 (.still 15 [17] (.only 16 (.only 17 (.fin)))) 16 (.quiet 9 [15,17] (.quiet 15 [17] (.only 17 (.fin))))))))))))))))))) [0,1,2,3,4,5,6,7,8,9,10,11,12,13,14,15] mix (by kernel_rfl) (by kernel_rfl) (go6 ?_);refine pC (AV [pI (E (Z.rem x.n.dec x.d.dec))]) aE (DP x.n.1 x.d.1 x.n.2 x.d.2) O O O (pQ O (oX zpT plT O (.cons [pI x.d] [pI x.d,pI I0] O O O O (.cons [pI (E (Z.rem x.n.dec x.d.dec))] [pI x.d,pI (E (Z.rem x.n.dec x.d.dec))] O O O O (.nil _)))) (go4 ?_));refine pC (AV [pI (E (Z.rem y.n.dec y.d.dec))]) aE (DP y.n.1 y.d.1 y.n.2 y.d.2) O O O (tC O O (qZ (off':=18) (cA fdT dd_ O) O) ?_);refine AF ?_ ?_
    ·refine dF O O (wG (G9 tyT O m0 O) ⟨fun _=>s0,sn,tC O O (oX zpT plT O (.cons [pI y.d] [pI y.d,pI I0] O O O O (.cons [pI (E (Z.rem y.n.dec y.d.dec))] [pI y.d,pI (E (Z.rem y.n.dec y.d.dec))] O O O O (.nil _)))) (go3 ?_)⟩);refine nK (sk (sk s0)) 8 [] [] (go2 ?_);refine pC (.int .i64 ((Z.signW (Z.rem x.n.dec x.d.dec)).1)) aE (iR (E (Z.rem x.n.dec x.d.dec)).1 (E (Z.rem x.n.dec x.d.dec)).2) O O (cg1 (fun p=>Value.int .i64 (Z.signW p).1) (dQ _)) (go2 ?_);refine pC (.int .i64 ((Z.signW (Z.rem y.n.dec y.d.dec)).1)) aE (iR (E (Z.rem y.n.dec y.d.dec)).1 (E (Z.rem y.n.dec y.d.dec)).2) O O (cg1 (fun p=>Value.int .i64 (Z.signW p).1) (dQ _)) (go4 ?_);refine gJv [66,67,68,69,70,71] [(71,.bool (((Z.signW (Z.rem x.n.dec x.d.dec)).1==0)||((Z.signW (Z.rem y.n.dec y.d.dec)).1==0)))] (fun K7 J7=>?_) ?_
     ·refine go3 ?_;refine sBB O (fun h11=>?_) (fun h11=>?_)
      ·refine go4 ?_;refine J7 _ _ pp_ s0 (bS (oH h11))
      refine go4 ?_;refine J7 _ _ pp_ s0 (bS (mO h11 O))
     intro g12;refine aN _ O (fun h13=>?_) (fun h13=>?_)
     ·refine go4 ?_;refine sV (.int .i64 ((W.sub (Z.signW (Z.rem x.n.dec x.d.dec)) (Z.signW (Z.rem y.n.dec y.d.dec))).1)) O O (sV (.int .i64 ((W.mul o (W.sub (Z.signW (Z.rem x.n.dec x.d.dec)) (Z.signW (Z.rem y.n.dec y.d.dec)))).1)) O O (go8 ?_));refine rt1 ?_;exact congrArg vS6 (show _=(cH a b) from aH h6 (aC h7 (aC h8 (cP_ hinv.1 h9 h13))))
     refine go3 ?_;refine sV (.int .i64 ((W.neg o).1)) O O (go2 ?_);refine ⟨pp_,_,_,s0,(Nat.lt_succ_self m),(W.neg o),(⟨x.d,(E (Z.rem x.n.dec x.d.dec))⟩:Rt),(⟨y.d,(E (Z.rem y.n.dec y.d.dec))⟩:Rt),m,?s7,rfl,rfl,cO_ hinv h9 h13⟩
     case s7=>rfl
    refine go2 ?_;refine pQ O (oX zpT plT O (.cons [pI y.d] [pI y.d,pI I0] O O O O (.cons [pI (E (Z.rem y.n.dec y.d.dec))] [pI y.d,pI (E (Z.rem y.n.dec y.d.dec))] O O O O (.nil _)))) (go2 ?_);refine nK (sk (sk s0)) 8 [] [] (go2 ?_);refine pC (.int .i64 ((Z.signW (Z.rem x.n.dec x.d.dec)).1)) aE (iR (E (Z.rem x.n.dec x.d.dec)).1 (E (Z.rem x.n.dec x.d.dec)).2) O O (cg1 (fun p=>Value.int .i64 (Z.signW p).1) (dQ _)) (go2 ?_);refine pC (.int .i64 ((Z.signW (Z.rem y.n.dec y.d.dec)).1)) aE (iR (E (Z.rem y.n.dec y.d.dec)).1 (E (Z.rem y.n.dec y.d.dec)).2) O O (cg1 (fun p=>Value.int .i64 (Z.signW p).1) (dQ _)) (go4 ?_);refine gJv [66,67,68,69,70,71] [(71,.bool (((Z.signW (Z.rem x.n.dec x.d.dec)).1==0)||((Z.signW (Z.rem y.n.dec y.d.dec)).1==0)))] (fun K9 J9=>?_) ?_
    ·refine go3 ?_;refine sBB O (fun h15=>?_) (fun h15=>?_)
     ·refine go4 ?_;refine J9 _ _ pp_ s0 (bS (oH h15))
     refine go4 ?_;refine J9 _ _ pp_ s0 (bS (mO h15 O))
    intro g16;refine aN _ O (fun h17=>?_) (fun h17=>?_)
    ·refine go4 ?_;refine sV (.int .i64 ((W.sub (Z.signW (Z.rem x.n.dec x.d.dec)) (Z.signW (Z.rem y.n.dec y.d.dec))).1)) O O (sV (.int .i64 ((W.mul o (W.sub (Z.signW (Z.rem x.n.dec x.d.dec)) (Z.signW (Z.rem y.n.dec y.d.dec)))).1)) O O (go8 ?_));refine rt1 ?_;exact congrArg vS6 (show _=(cH a b) from aH h6 (aC h7 (aC h8 (cP_ hinv.1 h9 h17))))
    refine go3 ?_;refine sV (.int .i64 ((W.neg o).1)) O O (go2 ?_);refine ⟨pp_,_,_,s0,(Nat.lt_succ_self m),(W.neg o),(⟨x.d,(E (Z.rem x.n.dec x.d.dec))⟩:Rt),(⟨y.d,(E (Z.rem y.n.dec y.d.dec))⟩:Rt),m,?s7,rfl,rfl,cO_ hinv h9 h17⟩
    case s7=>rfl
  refine W_t (gA h8) O (go4 ?_);refine rt1 ?_;exact congrArg vS6 (show _=(cH a b) from aH h6 (aC h7 (aH h8 O)))
 refine W_t (gA h7) O (go4 ?_);refine rt1 ?_;exact congrArg vS6 (show _=(cH a b) from aH h6 (aH h7 O))
theorem eD (a:W) (b:W) :
  Ret prog 49 [.int .i64 a.1,.int .i64 b.1] (AV [pI ((i6 a b).n),pI ((i6 a b).d)]):=by
 refine bJ (N:=10) func49 O O zz_ (fun w0=>?_);refine giI ?_;refine go2 ?_;intro b1 hb1;refine go3 ?_;refine sC (AV [pI (E (Z.of a.1))]) aE (eG a.1 a.2) O O O (go_ ?_);refine sC (AV [pI (E (Z.of b.1))]) aE (eG b.1 b.2) O O O ?_;obtain ⟨r2,hr2⟩:=nm ((cK (E (Z.of a.1)) (E (Z.of b.1))):Rt);refine sC (AV [pI r2.n,pI r2.d]) aE (nP (E (Z.of a.1)) (E (Z.of b.1))) O O (by rw [hr2]) (go3 ?_);refine rtX O (fF O m0 tyT O) ?_;exact (by subst hr2;rfl)
theorem yX (a:Rt) (b:Rt) :
   Ret prog 54 [AV [pI a.n,pI a.d],AV [pI b.n,pI b.d]] (AV [pI ((lK a b).n),pI ((lK a b).d)]):=by
 refine bJ (N:=16) func54 O O zz_ (fun w0=>?_);refine giI ?_;refine go2 ?_;intro b1 hb1;refine go_ ?_;intro b2 hb2;refine go_ ?_;intro b3 hb3;refine go4 ?_;refine sQ (aX aE (kK b) O) O (go2 ?_);rcases bt (cQ b) with h4|h4
 ·refine W_f (fZ h4) O (go_ ?_);refine nK (sd (sk (sk s0))) 8 [7] [7] (go5 ?_);refine pQ O (aX aE (nP b.d b.n) O) ?_;obtain ⟨r5,hr5⟩:=nm ((fW a (cK b.d b.n)):Rt);refine pC (AV [pI r5.n,pI r5.d]) aE (wA a (cK b.d b.n)) O O (by rw [hr5]) (go3 ?_);refine rtX O (fF O m0 tyT O) ?_;exact (by subst hr5;exact congrArg vS5 (show _=(lK a b) from aC h4 O))
 refine W_t (gA h4) O (go_ ?_);refine sQ (aX aE nC  rfl) O (go3 ?_);refine rtX O (fF O m0 tyT O) ?_;exact congrArg vS5 (show _=(lK a b) from aH h4 O)
end Go.Proofs.YtbjlhfochebmiaaGreatDoor
namespace Go.Num
open Go Go.Kn
theorem I7 (l out:List (A3 W)) (i:Nat):∀ (f:Nat) (next:List (A3 W)) (put:Bool) (k:Nat),sI put next.length k→sI (dK l out i f next put k).2.1 (dK l out i f next put k).1.length (max k out.length)
 | 0,next,put,k,hs=>⟨Nat.le_trans hs.1 oo_,fun e=>Nat.le_trans (hs.2 e) oo_⟩
 | f+1,next,put,k,hs=>by
  unfold dK
  by_cases hk:k<out.length
  ·rw [decide_eq_true oo_,cond_true,show max k out.length=max (k+1) out.length by omega]
   generalize hb:(!put&&((gD (l.getD i A30) (out.getD k A30))||(decide (((l.getD i A30).x).1=((out.getD k A30).x).1)&&(decide (((l.getD i A30).y).1=((out.getD k A30).y).1)&&decide (((l.getD i A30).z).1=((out.getD k A30).z).1)))))=b;generalize (decide (((out.getD k A30).x).1=((l.getD i A30).x).1)&&(decide (((out.getD k A30).y).1=((l.getD i A30).y).1)&&decide (((out.getD k A30).z).1=((l.getD i A30).z).1)))=c
   cases b
   ·cases c
    ·exact I7 l out i f _ _ _ (by rw [List.length_append];exact LC hs)
    exact I7 l out i f _ _ _ (PX hs)
   ·cases c
    ·exact I7 l out i f _ _ _ (by rw [List.length_append,List.length_append];exact TS hs (R6 hb))
    exact I7 l out i f _ _ _ (by rw [List.length_append];exact ZF hs (R6 hb))
  rw [decide_eq_false oo_,cond_false];exact ⟨Nat.le_trans hs.1 oo_,fun e=>Nat.le_trans (hs.2 e) oo_⟩
theorem NR (l:List (A3 W)):∀ (f:Nat) (out:List (A3 W)) (i:Nat),out.length≤i→(eV l f out i).1.length≤max i l.length
 | 0,out,i,h=>by show out.length≤_;omega
 | f+1,out,i,h=>by
  unfold eV
  by_cases hk:i<l.length
  ·rw [decide_eq_true oo_,cond_true,show max i l.length=max (i+1) l.length by omega]
   have k:=I7 l out i (out.length+1) [] false 0 dD_;generalize dK l out i (out.length+1) [] false 0=a at k ⊢;obtain ⟨a1,a2,a3⟩:=a;simp only [ap] at k ⊢
   cases a2
   ·simp only [cond_false]
    exact NR l f _ _ (by rw [List.length_append];simp only [List.length_singleton];have:=k.2 O;omega)
   simp only [cond_true];exact NR l f _ _ (by have:=k.1;omega)
  rw [decide_eq_false oo_,cond_false];show out.length≤_;omega
theorem SB (l:List (A3 W)):(aK l).length≤l.length:=by
 have:=NR l (l.length+1) [] 0 (Nat.zero_le _);unfold aK
 show (eV l (l.length+1) [] 0).1.length≤_
 omega
end Go.Num
namespace Go.Kn
open Go Go.Num
section
variable {α:Type} {e:El α} {P:Program} {w0:World} {X:List Nat} {N:Nm} {S:Fr} {M M':List Blk} {d:Option Tmp} {ty:TypeId} {ps:String} {af:Array Edge} {gd:Option (Nat×Bool)} {E:TypeId}
def OwnN (w0:World) (E:TypeId) (e:El α):List Value→List (List α)→List Blk→Prop
 | [],[],L=>L=[]
 | v::vs,l::ls,L=>∃ L1 L2,L=L1++L2∧OwnG w0 E e v l L1∧OwnN w0 E e vs ls L2
 | _,_,_=>False
def SloN (w1 w:World) (E:TypeId) (e:El α) (vs:List Value) (ls:List (List α)):Prop :=
 ∃ L,OwnN w1 E e vs ls L∧(L.map Blk.b).Nodup∧∀ x∈L,w.heap[x.b]? = some (.cells x.cs.toArray x.T (0,0))
theorem OwnG.ge {v:Value} {l:List α} {L:List Blk} (h:OwnG w0 E e v l L):∀ x∈L,w0.heap.size≤x.b:=by
 rcases h with ⟨_,_,rfl⟩|⟨g,cap,cur,_,rfl,hg,_⟩
 ·intro x hx;cases hx
 intro x hx;obtain rfl:=List.mem_singleton.1 hx;exact hg
theorem OwnG.wid {w:World} {v:Value} {l:List α} {L:List Blk} (hs:w0.heap.size≤w.heap.size) (h:OwnG w E e v l L):OwnG w0 E e v l L:=by
 rcases h with h|⟨g,cap,cur,h1,h2,hg,h3⟩
 ·exact .inl h
 exact .inr ⟨g,cap,cur,h1,h2,Nat.le_trans hs hg,h3⟩
theorem OwnN.ge:∀ {vs:List Value} {ls:List (List α)} {L:List Blk},OwnN w0 E e vs ls L→∀ x∈L,w0.heap.size≤x.b
 | [],[],L,h,x,hx=>by rw [show L=[] from h] at hx;cases hx
 | v::vs,l::ls,L,⟨L1,L2,h,h1,h2⟩,x,hx=>by
  rw [h] at hx;rcases List.mem_append.1 hx with hx|hx
  ·exact h1.ge x hx
  exact OwnN.ge h2 x hx
theorem OwnN.wid {w:World} (hs:w0.heap.size≤w.heap.size):∀ {vs:List Value} {ls:List (List α)} {L:List Blk},OwnN w E e vs ls L→OwnN w0 E e vs ls L
 | [],[],_,h=>h
 | v::vs,l::ls,L,⟨L1,L2,h,h1,h2⟩=>⟨L1,L2,h,h1.wid hs,OwnN.wid hs h2⟩
theorem SloN.now {w w':World} {vs:List Value} {ls:List (List α)} (h:SloN w w' E e vs ls) (hw:Sat w0 X M w) (he:Ext w w'):∃ L,Sat w0 X (L++M) w'∧OwnN w0 E e vs ls L:=by
 obtain ⟨L,h1,h2,h3⟩:=h;have hw':=Sat.mono _ _ _ _ _ hw he;refine ⟨L,⟨hw'.os,hw'.tape,hw'.output,hw'.size,hw'.old,?_,fun y hy=>?_⟩,h1.wid hw.size⟩
 ·rw [List.map_append]
  refine List.nodup_append.2 ⟨h2,hw'.nodup,fun a ha b hb e=>?_⟩;subst e;obtain ⟨x,hx,e1⟩:=List.mem_map.1 ha;obtain ⟨y,hy,e2⟩:=List.mem_map.1 hb;have g1:=h1.ge x hx;have g2:=dW? (hw.mem y hy);omega
 rcases List.mem_append.1 hy with hy|hy
 ·exact h3 y hy
 exact hw'.mem y hy
theorem Sat.sloN {w:World} {L M2:List Blk} {vs:List Value} {ls:List (List α)} (hw:Sat w0 X M w) (p:M.Perm (L++M2)) (h:OwnN w0 E e vs ls L):SloN w0 w E e vs ls:=by
 have h2:=hw.perm p;refine ⟨L,h,?_,fun x hx=>h2.mem x (List.mem_append_left _ hx)⟩;have:=h2.nodup;rw [List.map_append] at this;exact (List.nodup_append.1 this).1
def bM_ (w0:World) (M:List Blk) (E:TypeId) (e:El α) (v1 v2 v3 v4:Value) (l1 l2 l3 l4:List α):Prop:=∃ L M2,M.Perm (L++M2)∧OwnN w0 E e [v1,v2,v3,v4] [l1,l2,l3,l4] L
theorem dk_ {v1 v2 v3 v4:Value} {l1 l2 l3 l4:List α} {L1 L2 L3 L4 M1 M2 M3 M4:List Blk} (h1:OwnG w0 E e v1 l1 L1) (h2:OwnG w0 E e v2 l2 L2) (h3:OwnG w0 E e v3 l3 L3) (h4:OwnG w0 E e v4 l4 L4)
  (f1:Frq M L1 M1) (f2:Frq M1 L2 M2) (f3:Frq M2 L3 M3) (f4:Frq M3 L4 M4):bM_ w0 M E e v1 v2 v3 v4 l1 l2 l3 l4 :=
 ⟨L1++(L2++(L3++(L4++[]))),M4,f1.trans (by
  have g1:M1.Perm (L2++(L3++(L4++M4))):=f2.trans (List.Perm.append_left _ (f3.trans (List.Perm.append_left _ f4)));have:=List.Perm.append_left L1 g1
  simpa [List.append_assoc] using this),L1,_,rfl,h1,L2,_,rfl,h2,L3,_,rfl,h3,L4,_,rfl,h4,rfl⟩
theorem FV {n:Nat} {f:FuncId} {fn:Func} {c:Code} {args:List Value} {w:World} {l1 l2 l3 l4:List α} (R:Value→Value→Value→Value→Value) (hf:P.funcs[f]? = some fn) (hb:fn.body=some c) (hn:fn.ntmps=n) (hl:args.length≤n)
  (h:W P w [] (pl n) c (oO P fn w [] (pl n) fun r M=>∃ v1 v2 v3 v4,r=R v1 v2 v3 v4∧bM_ w M E e v1 v2 v3 v4 l1 l2 l3 l4) (tZ 0 args) []):Calls P f args.toArray w fun f w'=>∃ v1 v2 v3 v4,f = .returned (R v1 v2 v3 v4)∧Ext w w'∧SloN w w' E e [v1,v2,v3,v4] [l1,l2,l3,l4] :=
 (pJ hf hb hn hl (Sat.start w []) h).mono fun f w' ⟨r,M',he,hs,_,v1,v2,v3,v4,hr,L,M2,p,hN⟩=>⟨v1,v2,v3,v4,by rw [he,hr],hs.ext,hs.sloN p hN⟩
theorem EW {g:FuncId} {xs:List Operand} {tys:Array TypeId} {args:List Value} {K:Value→List Blk→Prop} {l1 l2 l3 l4:List α} (R:Value→Value→Value→Value→Value) (he:kM P g=true) (ha:evL N S xs=some args)
  (h:∀ w,Sat w0 X M w→Calls P g args.toArray w fun f w'=>∃ v1 v2 v3 v4,f = .returned (R v1 v2 v3 v4)∧Ext w w'∧SloN w w' E e [v1,v2,v3,v4] [l1,l2,l3,l4])
  (k:∀ p1 c1 L1 p2 c2 L2 p3 c3 L3 p4 c4 L4,OwnG w0 E e (.slice p1 l1.length c1) l1 L1→OwnG w0 E e (.slice p2 l2.length c2) l2 L2→OwnG w0 E e (.slice p3 l3.length c3) l3 L3→OwnG w0 E e (.slice p4 l4.length c4) l4 L4→K (R (.slice p1 l1.length c1) (.slice p2 l2.length c2) (.slice p3 l3.length c3) (.slice p4 l4.length c4)) (L1++(L2++(L3++(L4++M))))) :
  OpR P w0 X N ⟨d,.call { callee:=.value (.func g),args:=xs.toArray,argTypes:=tys },ty,ps,af,gd⟩ S M K :=
 AP he ha fun w hw=>(h w hw).mono fun _ w' ⟨v1,v2,v3,v4,h1,h2,h3⟩=>by
  obtain ⟨L,hs,L1,_,rfl,q1,L2,_,rfl,q2,L3,_,rfl,q3,L4,_,rfl,q4,rfl⟩:=h3.now hw h2;obtain ⟨p1,c1,rfl⟩:=q1.form;obtain ⟨p2,c2,rfl⟩:=q2.form;obtain ⟨p3,c3,rfl⟩:=q3.form;obtain ⟨p4,c4,rfl⟩:=q4.form;simp only [List.append_assoc,List.nil_append] at hs;exact ⟨_,_,h1,hs,Ext.keeps h2,k _ _ _ _ _ _ _ _ _ _ _ _ q1 q2 q3 q4⟩
end
end Go.Kn
namespace Go.Proofs.YtbjlhfochebmiaaGreatDoor
open Go.Kn Go.Num Tryz
attribute [local irreducible] Go.Kn.W WL PL OpQ OpR OpS
theorem zT (a:(A3 W)) :
    Ret prog 238 [AV [cw a.x.1,cw a.y.1,cw a.z.1]] (.bool (j5 a)):=by
 refine bJ (N:=18) func238 O O zz_ (fun w0=>?_);refine giI ?_;refine go2 ?_;intro b1 hb1;refine go7 ?_;refine rM 5 (go4 ?_);refine sV (.bool true) O O (go5 ?_);refine gJv (rg [] 8 10) [(17,.bool (decide (2305843009213693952≤a.x.1)||decide (a.x.1≤(-2305843009213693952))))] (fun K5 J5=>?_) ?_
 ·refine go5 ?_;refine sBB O (fun h3=>?_) (fun h3=>?_)
  ·refine go6 ?_;refine J5 _ _ pp_ s0 (bS (oH h3))
  refine go6 ?_;refine J5 _ _ pp_ s0 (bS (mO h3 O))
 intro g4;refine aN _ O (fun h5=>?_) (fun h5=>?_)
 ·refine go4 ?_;refine rt1 ?_;exact congrArg vS1 (show _=(j5 a) from aC h5 O)
 refine go3 ?_;refine sV (.int .i64 1) O O (go6 ?_);refine sV (.bool true) O O (go5 ?_);refine gJv (rg [] 8 10) [(17,.bool (decide (2305843009213693952≤a.y.1)||decide (a.y.1≤(-2305843009213693952))))] (fun K9 J9=>?_) ?_
 ·refine go5 ?_;refine sBB O (fun h7=>?_) (fun h7=>?_)
  ·refine go6 ?_;refine J9 _ _ pp_ s0 (bS (oH h7))
  refine go6 ?_;refine J9 _ _ pp_ s0 (bS (mO h7 O))
 intro g8;refine aN _ O (fun h9=>?_) (fun h9=>?_)
 ·refine go4 ?_;refine rt1 ?_;exact congrArg vS1 (show _=(j5 a) from aH h5 (aC h9 O))
 refine go3 ?_;refine sV (.int .i64 2) O O (go6 ?_);refine sV (.bool true) O O (go5 ?_);refine gJv (rg [] 8 10) [(17,.bool (decide (2305843009213693952≤a.z.1)||decide (a.z.1≤(-2305843009213693952))))] (fun K13 J13=>?_) ?_
 ·refine go5 ?_;refine sBB O (fun h11=>?_) (fun h11=>?_)
  ·refine go6 ?_;refine J13 _ _ pp_ s0 (bS (oH h11))
  refine go6 ?_;refine J13 _ _ pp_ s0 (bS (mO h11 O))
 intro g12;refine aN _ O (fun h13=>?_) (fun h13=>?_)
 ·refine go4 ?_;refine rt1 ?_;exact congrArg vS1 (show _=(j5 a) from aH h5 (aH h9 (aC h13 O)))
 refine go3 ?_;refine sV (.int .i64 3) O O (go6 ?_);refine sV (.bool false) O O (go7 ?_);refine rt1 ?_;exact congrArg vS1 (show _=(j5 a) from aH h5 (aH h9 (aH h13 O)))
theorem AT (a:(A3 W)) :
  Ret prog 235 [AV [cw a.x.1,cw a.y.1,cw a.z.1]] (AV [pI ((nG a).x),pI ((nG a).y),pI ((nG a).z)]):=by
 refine bJ (N:=13) func235 O O zz_ (fun w0=>?_);refine giI ?_;refine go2 ?_;intro b1 hb1;refine go_ ?_;intro b2 hb2;refine go_ ?_;refine nK (sd (sk s0)) 11 [10] [10] (go2 ?_);refine pC (AV [pI (E (Z.of a.x.1))]) aE (dO a.x.1 a.x.2) O O O (go2 ?_);refine pC (AV [pI (E (Z.of a.y.1))]) aE (dO a.y.1 a.y.2) O O O (go2 ?_);refine pC (AV [pI (E (Z.of a.z.1))]) aE (dO a.z.1 a.z.2) O O O (pQ O (dN zpT arT O (.cons [pI (E (Z.of a.x.1))] [pI (E (Z.of a.x.1)),pI I0,pI I0] O O O O (.cons [pI (E (Z.of a.y.1))] [pI (E (Z.of a.x.1)),pI (E (Z.of a.y.1)),pI I0] O O O O (.cons [pI (E (Z.of a.z.1))] [pI (E (Z.of a.x.1)),pI (E (Z.of a.y.1)),pI (E (Z.of a.z.1))] O O O O (.nil _))))) (go3 ?_));refine rtX O (fF O m0 tyT O) ?_;exact (by rfl)
theorem w5 (a:(A3 I)) :
    Ret prog 234 [AV [pI a.x,pI a.y,pI a.z]] (AV [cw ((((dP a).v).x).1),cw ((((dP a).v).y).1),cw ((((dP a).v).z).1),cw (((dP a).e).1)]):=by
 refine bJ (N:=55) func234 O O zz_ (fun w0=>?_);refine giI ?_;refine go2 ?_;intro b1 hb1;refine go_ ?_;intro b2 hb2;refine go2 ?_;refine sC (AV [pI (E (Z.of 0))]) aE (dO (wl 0).1 (wl 0).2) O O O ?_;refine go_ ?_;intro b3 hb3;refine go7 ?_;refine rM 5 (go4 ?_);refine sV (.bool true) O O (go5 ?_);refine mB (sd (sk (sk s0))) 6 [5] [5] (go4 ?_);refine pC (AV [pI (E (Z.gcd (Z.of 0) a.x.dec))]) aE (k9 (E (Z.of 0)).1 a.x.1 (E (Z.of 0)).2 a.x.2) O O (cg2 (fun p q=>AV [pI (E (Z.gcd p q))]) (dQ _) O) (go4 ?_);refine sV (.int .i64 1) O O (go6 ?_);refine sV (.bool true) O O (go5 ?_);refine mB (sd (sk (sk s0))) 6 [5] [5] (go4 ?_);refine pC (AV [pI (E (Z.gcd (Z.gcd (Z.of 0) a.x.dec) a.y.dec))]) aE (k9 (E (Z.gcd (Z.of 0) a.x.dec)).1 a.y.1 (E (Z.gcd (Z.of 0) a.x.dec)).2 a.y.2) O O (cg2 (fun p q=>AV [pI (E (Z.gcd p q))]) (dQ _) O) (go4 ?_);refine sV (.int .i64 2) O O (go6 ?_);refine sV (.bool true) O O (go5 ?_);refine mB (sd (sk (sk s0))) 6 [5] [5] (go4 ?_);refine pC (AV [pI (E (Z.gcd (Z.gcd (Z.gcd (Z.of 0) a.x.dec) a.y.dec) a.z.dec))]) aE (k9 (E (Z.gcd (Z.gcd (Z.of 0) a.x.dec) a.y.dec)).1 a.z.1 (E (Z.gcd (Z.gcd (Z.of 0) a.x.dec) a.y.dec)).2 a.z.2) O O (cg2 (fun p q=>AV [pI (E (Z.gcd p q))]) (dQ _) O) (go4 ?_);refine sV (.int .i64 3) O O (go6 ?_);refine sV (.bool false) O O (go8 ?_);refine aN _ O (fun h4=>?_) (fun h4=>?_)
 ·refine go5 ?_;refine rtX O (fF O m1 tyT O) ?_;exact congrArg vS2 (show _=(dP a) from aC h4 O)
 refine go4 ?_;refine sC (.int .i64 ((Z.signW (Z.gcd (Z.gcd (Z.gcd (Z.of 0) a.x.dec) a.y.dec) a.z.dec)).1)) aE (fK (E (Z.gcd (Z.gcd (Z.gcd (Z.of 0) a.x.dec) a.y.dec) a.z.dec)).1 (E (Z.gcd (Z.gcd (Z.gcd (Z.of 0) a.x.dec) a.y.dec) a.z.dec)).2) O O (cg1 (fun p=>Value.int .i64 (Z.signW p).1) (dQ _)) (go2 ?_);refine aN _ O (fun h5=>?_) (fun h5=>?_)
 ·refine go5 ?_;refine rtX O (fF O m1 tyT O) ?_;exact congrArg vS2 (show _=(dP a) from aH h4 (aC h5 O))
 refine go4 ?_;intro b6 hb6;refine go7 ?_;refine rM 5 (go4 ?_);refine sV (.bool true) O O (go5 ?_);refine nK (sk (sk (sk (sk s0)))) 11 [] [] (go4 ?_);obtain ⟨r7,hr7⟩:=nm ((E (Z.quo a.x.dec (Z.gcd (Z.gcd (Z.gcd (Z.of 0) a.x.dec) a.y.dec) a.z.dec))):I);refine pC (AV [pI r7]) aE (hZ a.x.1 (E (Z.gcd (Z.gcd (Z.gcd (Z.of 0) a.x.dec) a.y.dec) a.z.dec)).1 a.x.2 (E (Z.gcd (Z.gcd (Z.gcd (Z.of 0) a.x.dec) a.y.dec) a.z.dec)).2) O O ((cg2 (fun p q=>AV [pI (E (Z.quo p q))]) O (dQ _)).trans (by rw [hr7])) (pC (.tuple #[.int .i64 ((Z.smallW r7.dec).1),.bool r7.dec.small.2]) aE (qK r7.1 r7.2) O O O (wN ?_));rcases bt r7.dec.small.2 with h8|h8
 ·refine W_f (fZ h8) O (iK ?_);refine sV (.int .i64 1) O O (go6 ?_);refine sV (.bool true) O O (go5 ?_);refine nK (sk (sk (sk (sk s0)))) 11 [] [] (go4 ?_);obtain ⟨r9,hr9⟩:=nm ((E (Z.quo a.y.dec (Z.gcd (Z.gcd (Z.gcd (Z.of 0) a.x.dec) a.y.dec) a.z.dec))):I);refine pC (AV [pI r9]) aE (hZ a.y.1 (E (Z.gcd (Z.gcd (Z.gcd (Z.of 0) a.x.dec) a.y.dec) a.z.dec)).1 a.y.2 (E (Z.gcd (Z.gcd (Z.gcd (Z.of 0) a.x.dec) a.y.dec) a.z.dec)).2) O O ((cg2 (fun p q=>AV [pI (E (Z.quo p q))]) O (dQ _)).trans (by rw [hr9])) (pC (.tuple #[.int .i64 ((Z.smallW r9.dec).1),.bool r9.dec.small.2]) aE (qK r9.1 r9.2) O O O (wN ?_));rcases bt r9.dec.small.2 with h10|h10
  ·refine W_f (fZ h10) O (iK ?_);refine sV (.int .i64 2) O O (go6 ?_);refine sV (.bool true) O O (go5 ?_);refine nK (sk (sk (sk (sk s0)))) 11 [] [] (go4 ?_);obtain ⟨r11,hr11⟩:=nm ((E (Z.quo a.z.dec (Z.gcd (Z.gcd (Z.gcd (Z.of 0) a.x.dec) a.y.dec) a.z.dec))):I);refine pC (AV [pI r11]) aE (hZ a.z.1 (E (Z.gcd (Z.gcd (Z.gcd (Z.of 0) a.x.dec) a.y.dec) a.z.dec)).1 a.z.2 (E (Z.gcd (Z.gcd (Z.gcd (Z.of 0) a.x.dec) a.y.dec) a.z.dec)).2) O O ((cg2 (fun p q=>AV [pI (E (Z.quo p q))]) O (dQ _)).trans (by rw [hr11])) (pC (.tuple #[.int .i64 ((Z.smallW r11.dec).1),.bool r11.dec.small.2]) aE (qK r11.1 r11.2) O O O (wN ?_));rcases bt r11.dec.small.2 with h12|h12
   ·refine W_f (fZ h12) O (iK ?_);refine sV (.int .i64 3) O O (go6 ?_);refine sV (.bool false) O O (go6 ?_);refine sQ (aX aE (zT (⟨(Z.smallW r7.dec),(Z.smallW r9.dec),(Z.smallW r11.dec)⟩:(A3 W))) O) O (go7 ?_);rcases bt (j5 (⟨(Z.smallW r7.dec),(Z.smallW r9.dec),(Z.smallW r11.dec)⟩:(A3 W))) with h13|h13
    ·refine W_f (fZ h13) O (go6 ?_);refine rtX O (fF O m2 tyT O) ?_
     subst_vars;exact congrArg vS2 (show _=(dP a) from aH h4 (aH h5 (aC h8 (aC h10 (aC h12 (aC h13 O))))))
    refine W_t (gA h13) O (go5 ?_);refine rtX O (fF O m2 tyT O) ?_
    subst_vars;exact congrArg vS2 (show _=(dP a) from aH h4 (aH h5 (aC h8 (aC h10 (aC h12 (aH h13 O))))))
   refine W_t (gA h12) O (go5 ?_);refine rtX O (fF O m2 tyT O) ?_
   subst_vars;exact congrArg vS2 (show _=(dP a) from aH h4 (aH h5 (aC h8 (aC h10 (aH h12 O)))))
  refine W_t (gA h10) O (go5 ?_);refine rtX O (fF O m2 tyT O) ?_
  subst_vars;exact congrArg vS2 (show _=(dP a) from aH h4 (aH h5 (aC h8 (aH h10 O))))
 refine W_t (gA h8) O (go5 ?_);refine rtX O (fF O m2 tyT O) ?_;exact (by subst hr7;exact congrArg vS2 (show _=(dP a) from aH h4 (aH h5 (aH h8 O))))
theorem vB (a:(A3 W)) (b:(A3 W)) :
   Ret prog 220 [AV [cw a.x.1,cw a.y.1,cw a.z.1],AV [cw b.x.1,cw b.y.1,cw b.z.1]] (.bool (gD a b)):=by
 refine bJ (N:=30) func220 O O zz_ (fun w0=>?_);refine giI ?_;refine go2 ?_;intro b1 hb1;refine go_ ?_;intro b2 hb2;refine iK ?_;refine aN _ O (fun h3=>?_) (fun h3=>?_)
 ·refine go9 ?_;refine rt1 ?_;exact congrArg vS1 (show _=(gD a b) from aC h3 O)
 refine go9 ?_;refine aN _ O (fun h4=>?_) (fun h4=>?_)
 ·refine go9 ?_;refine rt1 ?_;exact congrArg vS1 (show _=(gD a b) from aH h3 (aC h4 O))
 refine iK ?_;refine rt1 ?_;exact congrArg vS1 (show _=(gD a b) from aH h3 (aH h4 O))
theorem gN (a:(A3 W)) (b:(A3 W)) :
  Ret prog 227 [AV [cw a.x.1,cw a.y.1,cw a.z.1],AV [cw b.x.1,cw b.y.1,cw b.z.1]] (AV [cw (((cT a b).x).1),cw (((cT a b).y).1),cw (((cT a b).z).1)]):=by
 refine bJ (N:=21) func227 O O zz_ (fun w0=>?_);refine giI ?_;refine go2 ?_;intro b1 hb1;refine go_ ?_;intro b2 hb2;refine go_ ?_;intro b3 hb3;refine go6 ?_;refine sV (.int .i64 ((W.sub a.x b.x).1)) O O (go4 ?_);refine sV (.int .i64 ((W.sub a.y b.y).1)) O O (go4 ?_);refine sV (.int .i64 ((W.sub a.z b.z).1)) O O (go4 ?_);refine rtX O (fF O m0 tyT O) ?_;exact (by rfl)
theorem gO (a:(A3 W)) (b:(A3 W)) :
  Ret prog 222 [AV [cw a.x.1,cw a.y.1,cw a.z.1],AV [cw b.x.1,cw b.y.1,cw b.z.1]] (.int .i64 ((aF a b).1)):=by
 refine bJ (N:=22) func222 O O zz_ (fun w0=>?_);refine giI ?_;refine go2 ?_;intro b1 hb1;refine go_ ?_;intro b2 hb2;refine go7 ?_;refine sV (.int .i64 ((W.mul a.x b.x).1)) O O (go4 ?_);refine sV (.int .i64 ((W.mul a.y b.y).1)) O O (sV (.int .i64 ((W.add (W.mul a.x b.x) (W.mul a.y b.y)).1)) O O (go4 ?_));refine sV (.int .i64 ((W.mul a.z b.z).1)) O O (sV (.int .i64 ((W.add (W.add (W.mul a.x b.x) (W.mul a.y b.y)) (W.mul a.z b.z)).1)) O O (go3 ?_));refine rt1 ?_;exact (by rfl)
theorem uF (a:(A3 W)) (b:(A3 W)) :
  Ret prog 233 [AV [cw a.x.1,cw a.y.1,cw a.z.1],AV [cw b.x.1,cw b.y.1,cw b.z.1]] (AV [cw (((j6 a b).x).1),cw (((j6 a b).y).1),cw (((j6 a b).z).1)]):=by
 refine bJ (N:=39) func233 O O zz_ (fun w0=>?_);refine giI ?_;refine go2 ?_;intro b1 hb1;refine go_ ?_;intro b2 hb2;refine go_ ?_;intro b3 hb3;refine go6 ?_;refine sV (.int .i64 ((W.mul a.y b.z).1)) O O (go4 ?_);refine sV (.int .i64 ((W.mul a.z b.y).1)) O O (sV (.int .i64 ((W.sub (W.mul a.y b.z) (W.mul a.z b.y)).1)) O O (go4 ?_));refine sV (.int .i64 ((W.mul a.z b.x).1)) O O (go4 ?_);refine sV (.int .i64 ((W.mul a.x b.z).1)) O O (sV (.int .i64 ((W.sub (W.mul a.z b.x) (W.mul a.x b.z)).1)) O O (go4 ?_));refine sV (.int .i64 ((W.mul a.x b.y).1)) O O (go4 ?_);refine sV (.int .i64 ((W.mul a.y b.x).1)) O O (sV (.int .i64 ((W.sub (W.mul a.x b.y) (W.mul a.y b.x)).1)) O O (go4 ?_));refine rtX O (fF O m0 tyT O) ?_;exact (by rfl)
theorem kQ (n:W) :
   Ret prog 240 [.int .i64 n.1] (.int .i64 ((dX n).1)):=by
 refine bJ (N:=7) func240 O O zz_ (fun w0=>?_);refine giI ?_;refine go8 ?_;refine aN _ O (fun h1=>?_) (fun h1=>?_)
 ·have ph1:=of_decide_eq_true h1;refine go4 ?_;refine rt1 ?_;exact congrArg vS6 (show _=(dX n) from aC h1 O)
 have ph1:=of_decide_eq_false h1;refine go6 ?_;refine aN _ O (fun h2=>?_) (fun h2=>?_)
 ·have ph2:=of_decide_eq_true h2;refine go4 ?_;refine rt1 ?_;exact congrArg vS6 (show _=(dX n) from aH h1 (aC h2 O))
 have ph2:=of_decide_eq_false h2;refine go5 ?_;refine rt1 ?_;exact congrArg vS6 (show _=(dX n) from aH h1 (aH h2 O))
theorem A5 (n:(A3 W)) (c:(A3 W)) :
   Ret prog 239 [AV [cw n.x.1,cw n.y.1,cw n.z.1],AV [cw c.x.1,cw c.y.1,cw c.z.1]] (.int .i64 ((iI n c).1)):=by
 refine bJ (N:=23) func239 O O zz_ (fun w0=>?_);refine giI ?_;refine go2 ?_;intro b1 hb1;refine go_ ?_;intro b2 hb2;refine go7 ?_;refine rM 5 (go4 ?_);refine sV (.bool true) O O (wN ?_);refine aN _ O (fun h3=>?_) (fun h3=>?_)
 ·refine nK s0 10 [] [] (go3 ?_);refine pQ O (aX aE (kQ n.x) O) (go3 ?_);refine pQ O (aX aE (kQ c.x) O) (pV (.int .i64 ((W.mul (dX n.x) (dX c.x)).1)) O O (go3 ?_));refine rt1 ?_;exact congrArg vS6 (show _=(iI n c) from aC h3 O)
 refine go3 ?_;refine sV (.int .i64 1) O O (go6 ?_);refine sV (.bool true) O O (wN ?_);refine aN _ O (fun h4=>?_) (fun h4=>?_)
 ·refine nK s0 10 [] [] (go3 ?_);refine pQ O (aX aE (kQ n.y) O) (go3 ?_);refine pQ O (aX aE (kQ c.y) O) (pV (.int .i64 ((W.mul (dX n.y) (dX c.y)).1)) O O (go3 ?_));refine rt1 ?_;exact congrArg vS6 (show _=(iI n c) from aH h3 (aC h4 O))
 refine go3 ?_;refine sV (.int .i64 2) O O (go6 ?_);refine sV (.bool true) O O (wN ?_);refine aN _ O (fun h5=>?_) (fun h5=>?_)
 ·refine nK s0 10 [] [] (go3 ?_);refine pQ O (aX aE (kQ n.z) O) (go3 ?_);refine pQ O (aX aE (kQ c.z) O) (pV (.int .i64 ((W.mul (dX n.z) (dX c.z)).1)) O O (go3 ?_));refine rt1 ?_;exact congrArg vS6 (show _=(iI n c) from aH h3 (aH h4 (aC h5 O)))
 refine go3 ?_;refine sV (.int .i64 3) O O (go6 ?_);refine sV (.bool false) O O (go7 ?_);refine rt1 ?_;exact congrArg vS6 (show _=(iI n c) from aH h3 (aH h4 (aH h5 O)))
theorem y4 (a:(A3 W)) (b:(A3 W)) (c:(A3 W)) :
  Ret prog 221 [AV [cw a.x.1,cw a.y.1,cw a.z.1],AV [cw b.x.1,cw b.y.1,cw b.z.1],AV [cw c.x.1,cw c.y.1,cw c.z.1]] (AV [cw (((l8 a b c).x).1),cw (((l8 a b c).y).1),cw (((l8 a b c).z).1)]):=by
 refine bJ (N:=21) func221 O O zz_ (fun w0=>?_);refine giI ?_;refine go2 ?_;intro b1 hb1;refine go_ ?_;intro b2 hb2;refine go_ ?_;intro b3 hb3;refine go_ ?_;intro b4 hb4;refine go_ ?_;refine nK s0 9 [7,8] [8] (go2 ?_);obtain ⟨r5,hr5⟩:=nm ((cT b a):(A3 W));refine pC (AV [cw r5.x.1,cw r5.y.1,cw r5.z.1]) aE (gN b a) O O (by rw [hr5]) (go2 ?_);obtain ⟨r6,hr6⟩:=nm ((cT c a):(A3 W));refine pC (AV [cw r6.x.1,cw r6.y.1,cw r6.z.1]) aE (gN c a) O O (by rw [hr6]) ?_;obtain ⟨r7,hr7⟩:=nm ((j6 r5 r6):(A3 W));refine pC (AV [cw r7.x.1,cw r7.y.1,cw r7.z.1]) aE (uF r5 r6) O O (by rw [hr7]) (dF O O (eQ zpT (fun b8 hb8=>⟨(fun _=>sd s0),(sd s0),?_⟩)));refine go2 ?_;refine oA (sk (sk (sd (sd (sd s0))))) ?_;refine go2 ?_;obtain ⟨r9,hr9⟩:=nm ((nG r7):(A3 I));refine sC (AV [pI r9.x,pI r9.y,pI r9.z]) aE (AT r7) O O (by rw [hr9]) ?_;obtain ⟨r10,hr10⟩:=nm ((dP r9):Dir);refine sC (AV [cw r10.v.x.1,cw r10.v.y.1,cw r10.v.z.1,cw r10.e.1]) aE (w5 r9) O O (by rw [hr10]) (go_ ?_);intro b11 hb11;refine go8 ?_;refine rtX O (fF O m2 tyT O) ?_;exact (by subst_vars;rfl)
theorem oV (vl:Value) (l:(List (A3 W))) (n:(A3 W)) (d:W) (w:World) (hl:Slr w elV vl l) :
    Calls prog 224 [vl,AV [cw n.x.1,cw n.y.1,cw n.z.1],.int .i64 d.1].toArray w (fun e w'=>e = .returned (.bool (eM l n d))∧Ext w w'):=by
 obtain ⟨p_l,c_l,rfl⟩:=hl.form;refine dB (N:=32) func224 O O zz_ ?_;obtain ⟨w0,rfl⟩:=nm w;have Hl:=hl.old;have hm_l:=hl.max;refine giI ?_;refine go2 ?_;intro b1 hb1;refine go9 ?_;refine gJ3 (rg [] 6 25) (fun g M=>∃ (below:Bool) (k:Nat),(iA l n d (l.length+1) false 0) = .inl (below,k)∧(g 7 = .bool below∧g 8 = .int .i64 (k:Int))∧M=[⟨b1,23,aU [cw n.x.1,cw n.y.1,cw n.z.1]⟩]) (fun K_u2 hK_u2=>?_) ?_
 ·refine go_ ?_;refine cI (rg [] 6 25) (fun g nn M=>∃ (below:Bool) (k:Nat),(iA l n d nn below k)=(iA l n d (l.length+1) false 0)∧l.length - k<nn∧(k≤l.length)∧(g 7 = .bool below∧g 8 = .int .i64 (k:Int))∧M=[⟨b1,23,aU [cw n.x.1,cw n.y.1,cw n.z.1]⟩]) (l.length+1) ?start ?round
  case start=>exact ⟨_,s0,false,0,rfl,oo_,oo_,⟨rfl,rfl⟩,rfl⟩
  case round =>
   rintro nn g M ⟨below,k,hT0,hq0,hinv0,⟨hg7,hg8⟩,rfl⟩;obtain ⟨k0,rfl⟩:∃ m,nn=m+1:=⟨nn - 1,by omega⟩;refine gS2 hg7 hg8 ?_;clear hg7 hg8;refine go4 ?_;refine sQ (eK iY O (SLe.sub Hl sn)) O (go2 ?_);refine aN _ O (fun h9=>?_) (fun h9=>?_)
   ·have ph9:=of_decide_eq_true h9;refine go3 ?_;refine nK s0 7 [] [] (go3 ?_);refine pQ O (aS (v':=.pointer (some (slb (.slice p_l l.length c_l) (k*3+0)))) (eY (e:=elV) (l:=l) (k:=k) iY O O (SLe.sub Hl sn) o2_) O) ?_;refine pQ O (iS (e:=elV) (l:=l) (k:=k) (o:=0) tyT O (SLe.sub Hl sn) (cL A30 o2_) O) ?_;refine pQ O (aX aE (gO n (l.getD k A30)) O) (go8 ?_);refine aN _ O (fun h10=>?_) (fun h10=>?_)
    ·have ph10:=of_decide_eq_true h10;refine go4 ?_;refine rt1 ?_;exact congrArg vS1 (show _=(eM l n d) from (wQ O (hT0.symm.trans (Eq.symm (aC h9 (aC h10 O))))))
    have ph10:=of_decide_eq_false h10;refine go3 ?_;refine sBB O (fun h11=>?_) (fun h11=>?_)
    ·refine go8 ?_;refine sWi (((k+1):Nat):Int) O (go2 ?_);refine ⟨pp_,_,_,s0,(Nat.lt_succ_self _),true,(k+1),(by exact (hT0.symm.trans (Eq.symm (aC h9 (aH h10 (aC h11 O))))).symm),(Nat.lt_of_lt_of_le oo_ (Nat.le_of_lt_succ hq0)),oo_,⟨rfl,rfl⟩,rfl⟩
    refine go8 ?_;refine sWi (((k+1):Nat):Int) O (go2 ?_);refine ⟨pp_,_,_,s0,(Nat.lt_succ_self _),(decide ((aF n (l.getD k A30)).1<d.1)),(k+1),(by exact (hT0.symm.trans (Eq.symm (aC h9 (aH h10 (aH h11 O))))).symm),(Nat.lt_of_lt_of_le oo_ (Nat.le_of_lt_succ hq0)),oo_,⟨rfl,rfl⟩,rfl⟩
   have ph9:=of_decide_eq_false h9;refine go_ ?_;refine hK_u2 _ _ pp_ ⟨_,s0,below,k,(by exact hT0.symm.trans (Eq.symm (aH h9 O))),⟨rfl,rfl⟩,rfl⟩
 rintro g M ⟨below,k,hCu2,⟨hg7,hg8⟩,rfl⟩;refine gS2 hg7 hg8 ?_;clear hg7 hg8;refine go5 ?_;refine rt1 ?_;exact congrArg vS1 (show _=(eM l n d) from trs (Eq.symm (smS hCu2)) O)
theorem qM (vl:Value) (l:(List (Lo Facet))) (n:(A3 W)) (w:World) (hl:Slr w tF vl l) :
    Calls prog 223 [vl,AV [cw n.x.1,cw n.y.1,cw n.z.1]].toArray w (fun e w'=>e = .returned (.bool (k7 l n))∧Ext w w'):=by
 obtain ⟨p_l,c_l,rfl⟩:=hl.form;refine dB (N:=19) func223 O O zz_ ?_;obtain ⟨w0,rfl⟩:=nm w;have Hl:=hl.old;have hm_l:=hl.max;refine giI ?_;refine go2 ?_;intro b1 hb1;refine go6 ?_;refine gJ3 (rg [] 4 15) (fun g M=>∃ (k:Nat),(fY l n (l.length+1) 0) = .inl k∧(g 5 = .int .i64 (k:Int))∧M=[⟨b1,23,aU [cw n.x.1,cw n.y.1,cw n.z.1]⟩]) (fun K_u2 hK_u2=>?_) ?_
 ·refine go_ ?_;refine cI (rg [] 4 15) (fun g nn M=>∃ (k:Nat),(fY l n nn k)=(fY l n (l.length+1) 0)∧l.length - k<nn∧(k≤l.length)∧(g 5 = .int .i64 (k:Int))∧M=[⟨b1,23,aU [cw n.x.1,cw n.y.1,cw n.z.1]⟩]) (l.length+1) ?start ?round
  case start=>exact ⟨_,s0,0,rfl,oo_,oo_,rfl,rfl⟩
  case round =>
   rintro nn g M ⟨k,hT0,hq0,hinv0,hg5,rfl⟩;obtain ⟨k0,rfl⟩:∃ m,nn=m+1:=⟨nn - 1,by omega⟩;refine gS1 hg5 ?_;clear hg5;refine go4 ?_;refine sQ (eK xQ O (SLe.sub Hl sn)) O (go2 ?_);refine aN _ O (fun h13=>?_) (fun h13=>?_)
   ·have ph13:=of_decide_eq_true h13;refine go3 ?_;refine nK s0 7 [] [] (go2 ?_);refine pQ O (aS (v':=.pointer (some (slb (.slice p_l l.length c_l) (k*5+0)))) (eY (e:=tF) (l:=l) (k:=k) xQ O O (SLe.sub Hl sn) o2_) O) ?_;refine pQ O (aS (v':=.pointer (some (slb (.slice p_l l.length c_l) (k*5+0)))) (M9 fdT O O) O) (pQ O (iS (e:=tF) (l:=l) (k:=k) (o:=0) tyT O (SLe.sub Hl sn) (cL mW o2_) O) ?_);refine go_ ?_;refine pQ O (gI (r:=(decide ((((l.getD k mW).x.n).x).1=n.x.1)&&(decide ((((l.getD k mW).x.n).y).1=n.y.1)&&decide ((((l.getD k mW).x.n).z).1=n.z.1)))) O O (dR 8 dd_ pN pO (aD bU (aD bU (cM bU))) (aD bU (aD bU (cM bU))) (aQ O eB (aQ O eB (eJ eB))))) (go_ ?_);refine aN _ O (fun h14=>?_) (fun h14=>?_)
    ·have ph15:=of_decide_eq_true (Bool.and_eq_true_iff.1 h14).1;have ph16:=of_decide_eq_true (Bool.and_eq_true_iff.1 (Bool.and_eq_true_iff.1 h14).2).1;have ph17:=of_decide_eq_true (Bool.and_eq_true_iff.1 (Bool.and_eq_true_iff.1 h14).2).2;refine go4 ?_;refine rt1 ?_;exact congrArg vS1 (show _=(k7 l n) from (wQ O (hT0.symm.trans (Eq.symm (aC h13 (aC h14 O))))))
    refine go3 ?_;refine sWi (((k+1):Nat):Int) O (go2 ?_);refine ⟨pp_,_,_,s0,(Nat.lt_succ_self _),(k+1),(by exact (hT0.symm.trans (Eq.symm (aC h13 (aH h14 O)))).symm),(Nat.lt_of_lt_of_le oo_ (Nat.le_of_lt_succ hq0)),oo_,rfl,rfl⟩
   have ph13:=of_decide_eq_false h13;refine go_ ?_;refine hK_u2 _ _ pp_ ⟨_,s0,k,(by exact hT0.symm.trans (Eq.symm (aH h13 O))),rfl,rfl⟩
 rintro g M ⟨k,hCu2,hg5,rfl⟩;refine gS1 hg5 ?_;clear hg5;refine go4 ?_;refine rt1 ?_;exact congrArg vS1 (show _=(k7 l n) from trs (Eq.symm (smS hCu2)) O)
theorem pL (vl:Value) (l:(List (Lo Facet))) (f:(Lo Facet)) (w:World) (hl:Slr w tF vl l) (hpre:l.length≤5000) :
    Calls prog 225 [vl,AV [cw f.x.n.x.1,cw f.x.n.y.1,cw f.x.n.z.1,cw f.x.d.1,csl f.p f.x.ats.length f.c]].toArray w (fun e w'=>∃ v,e = .returned (v)∧Ext w w'∧Slo w.heap.size w' 185 tF v (eU l f)):=by
 obtain ⟨p_l,c_l,rfl⟩:=hl.form;refine gQ (n:=46) (fun v=>v) func225 O O zz_ ?_;obtain ⟨w0,rfl⟩:=nm w;have Hl:=hl.old;have hm_l:=hl.max;refine giI ?_;refine go2 ?_;intro b1 hb1;refine yP ?_;refine gJ3 (rg [] 5 34) (fun g M=>∃ (out:List (Lo Facet)) (put:Bool) (k:Nat) (p_out:Option Addr) (c_out:Nat) (L_out:List Blk),(cF l f (l.length+1) ([]:List (Lo Facet)) false 0)=(out,put,k)∧(out.length≤2*l.length)∧(g 5 = .slice p_out out.length c_out∧g 6 = .bool put∧g 7 = .int .i64 (k:Int)∧OwnG w0 185 tF (.slice p_out out.length c_out) out L_out)∧M=(L_out++(⟨b1,185,aU [cw f.x.n.x.1,cw f.x.n.y.1,cw f.x.n.z.1,cw f.x.d.1,csl f.p f.x.ats.length f.c]⟩::[]))) (fun K_u2 hK_u2=>?_) ?_
 ·refine go_ ?_;refine cI (rg [] 5 34) (fun g nn M=>∃ (out:List (Lo Facet)) (put:Bool) (k:Nat) (p_out:Option Addr) (c_out:Nat) (L_out:List Blk),(cF l f nn out put k)=(cF l f (l.length+1) ([]:List (Lo Facet)) false 0)∧l.length - k<nn∧(k≤l.length∧out.length≤2*k)∧(g 5 = .slice p_out out.length c_out∧g 6 = .bool put∧g 7 = .int .i64 (k:Int)∧OwnG w0 185 tF (.slice p_out out.length c_out) out L_out)∧M=(L_out++(⟨b1,185,aU [cw f.x.n.x.1,cw f.x.n.y.1,cw f.x.n.z.1,cw f.x.d.1,csl f.p f.x.ats.length f.c]⟩::[]))) (l.length+1) ?start ?round
  case start=>exact ⟨_,s0,([]:List (Lo Facet)),false,0,none,0,[],rfl,oo_,⟨by omega,Nat.zero_le _⟩,⟨rfl,rfl,rfl,OwnG.nil⟩,rfl⟩
  case round =>
   rintro nn g M ⟨out,put,k,p_out,c_out,L_out,hT0,hq0,hinv0,⟨hg5,hg6,hg7,hO_out⟩,rfl⟩;obtain ⟨k0,rfl⟩:∃ m,nn=m+1:=⟨nn - 1,by omega⟩;refine gS3 hg5 hg6 hg7 ?_;clear hg5 hg6 hg7;have hm_out:=OwnG.max hO_out;refine go4 ?_;refine sQ (eK xQ O (SLe.sub Hl sn)) O (go2 ?_);refine aN _ O (fun h23=>?_) (fun h23=>?_)
   ·have ph23:=of_decide_eq_true h23;refine go3 ?_;refine nK s0 9 [] [] (go4 ?_);refine pQ O (aS (v':=.pointer (some (slb (.slice p_l l.length c_l) (k*5+0)))) (eY (e:=tF) (l:=l) (k:=k) xQ O O (SLe.sub Hl sn) o2_) O) ?_;refine pQ O (aS (v':=.pointer (some (slb (.slice p_l l.length c_l) (k*5+0)))) (M9 fdT O O) O) (pQ O (iS (e:=tF) (l:=l) (k:=k) (o:=0) tyT O (SLe.sub Hl sn) (cL mW o2_) O) ?_);refine pQ O (aX aE (vB f.x.n ((l.getD k mW).x.n)) O) (go3 ?_);refine gJv [23,24,25,26,27] [(27,.bool (!put&&(gD f.x.n ((l.getD k mW).x.n))))] (fun K9 J9=>?_) ?_
    ·refine go3 ?_;rcases bt put with h25|h25
     ·refine sB (fZ h25) O (go3 ?_);refine J9 _ _ pp_ s0 (bS (vO h25))
     refine sB (gA h25) O (go3 ?_);refine J9 _ _ pp_ s0 (bS (rY h25 O))
    intro g26;refine aN _ O (fun h27=>?_) (fun h27=>?_)
    ·refine go3 ?_;refine bI O (cO [[cw f.x.n.x.1,cw f.x.n.y.1,cw f.x.n.z.1,cw f.x.d.1,csl f.p f.x.ats.length f.c]] [cw f.x.n.x.1,cw f.x.n.y.1,cw f.x.n.z.1,cw f.x.d.1,csl f.p f.x.ats.length f.c] CP UD NT O dd_ O O ⟨rfl,rfl,rfl,trivial⟩ O (fun b28 hb28=>bI O (mL (e:=tF) (l:=out) (m:=[f]) 56 CP (by kernel_rfl) dd_ O O hO_out (SLe.lit (e:=tF) (l:=[f]) m0 O (Nat.le_of_ble_eq_true O) O) (vD rE) (by show (out.length+1)*56≤_;(try simp only [List.length_append,List.length_cons,List.length_nil]);omega) dd_ (fun p29 c30 L31 hO32=>go9 ?_))));refine sQ (aS (v':=.pointer (some (slb (.slice p_l l.length c_l) (k*5+0)))) (eY (e:=tF) (l:=l) (k:=k) xQ O O (SLe.sub Hl sn) o2_) O) O ?_;refine sQ (iS (e:=tF) (l:=l) (k:=k) (o:=0) tyT O (SLe.sub Hl sn) (cL mW o2_) O) O ?_;refine bI O (cO [[cw ((((l.getD k mW).x.n).x).1),cw ((((l.getD k mW).x.n).y).1),cw ((((l.getD k mW).x.n).z).1),cw (((l.getD k mW).x.d).1),csl (l.getD k mW).p (l.getD k mW).x.ats.length (l.getD k mW).c]] [cw ((((l.getD k mW).x.n).x).1),cw ((((l.getD k mW).x.n).y).1),cw ((((l.getD k mW).x.n).z).1),cw (((l.getD k mW).x.d).1),csl (l.getD k mW).p (l.getD k mW).x.ats.length (l.getD k mW).c] CP UD NT O dd_ O O ⟨rfl,rfl,rfl,trivial⟩ O (fun b33 hb33=>bI O (mL (e:=tF) (l:=(out++[f])) (m:=[(l.getD k mW)]) 56 CP (by kernel_rfl) dd_ O O hO32 (SLe.lit (e:=tF) (l:=[(l.getD k mW)]) m0 O (Nat.le_of_ble_eq_true O) O) (vD rE) (by show ((out++[f]).length+1)*56≤_;(try simp only [List.length_append,List.length_cons,List.length_nil]);omega) dd_ (fun p34 c35 L36 hO37=>go4 ?_))));refine sWi (((k+1):Nat):Int) O (go2 ?_);refine ⟨pp_,_,_,(sA (sd (sd s0))),(Nat.lt_succ_self _),((out++[f])++[(l.getD k mW)]),true,(k+1),p34,c35,L36,(by exact (hT0.symm.trans (Eq.symm (aC h23 (aC h27 O)))).symm),(Nat.lt_of_lt_of_le oo_ (Nat.le_of_lt_succ hq0)),⟨by omega,by simp only [List.length_append,List.length_cons,List.length_nil];omega⟩,⟨rfl,rfl,rfl,hO37⟩,rfl⟩
    refine go5 ?_;refine sQ (aS (v':=.pointer (some (slb (.slice p_l l.length c_l) (k*5+0)))) (eY (e:=tF) (l:=l) (k:=k) xQ O O (SLe.sub Hl sn) o2_) O) O ?_;refine sQ (iS (e:=tF) (l:=l) (k:=k) (o:=0) tyT O (SLe.sub Hl sn) (cL mW o2_) O) O ?_;refine bI O (cO [[cw ((((l.getD k mW).x.n).x).1),cw ((((l.getD k mW).x.n).y).1),cw ((((l.getD k mW).x.n).z).1),cw (((l.getD k mW).x.d).1),csl (l.getD k mW).p (l.getD k mW).x.ats.length (l.getD k mW).c]] [cw ((((l.getD k mW).x.n).x).1),cw ((((l.getD k mW).x.n).y).1),cw ((((l.getD k mW).x.n).z).1),cw (((l.getD k mW).x.d).1),csl (l.getD k mW).p (l.getD k mW).x.ats.length (l.getD k mW).c] CP UD NT O dd_ O O ⟨rfl,rfl,rfl,trivial⟩ O (fun b38 hb38=>bI O (mL (e:=tF) (l:=out) (m:=[(l.getD k mW)]) 56 CP (by kernel_rfl) dd_ O O hO_out (SLe.lit (e:=tF) (l:=[(l.getD k mW)]) m0 O (Nat.le_of_ble_eq_true O) O) (vD rE) (by show (out.length+1)*56≤_;(try simp only [List.length_append,List.length_cons,List.length_nil]);omega) dd_ (fun p39 c40 L41 hO42=>go4 ?_))));refine sWi (((k+1):Nat):Int) O (go2 ?_);refine ⟨pp_,_,_,(sA (sd s0)),(Nat.lt_succ_self _),(out++[(l.getD k mW)]),put,(k+1),p39,c40,L41,(by exact (hT0.symm.trans (Eq.symm (aC h23 (aH h27 O)))).symm),(Nat.lt_of_lt_of_le oo_ (Nat.le_of_lt_succ hq0)),⟨by omega,by simp only [List.length_append,List.length_cons,List.length_nil];omega⟩,⟨rfl,rfl,rfl,hO42⟩,rfl⟩
   have ph23:=of_decide_eq_false h23;refine go_ ?_;refine hK_u2 _ _ pp_ ⟨_,s0,out,put,k,p_out,c_out,L_out,(by exact hT0.symm.trans (Eq.symm (aH h23 O))),oo_,⟨rfl,rfl,rfl,hO_out⟩,rfl⟩
 rintro g M ⟨out,put,k,p_out,c_out,L_out,hCu2,hPu2,⟨hg5,hg6,hg7,hO_out⟩,rfl⟩;refine gS3 hg5 hg6 hg7 ?_;clear hg5 hg6 hg7;have hm_out:=OwnG.max hO_out;refine go5 ?_;rcases bt put with h43|h43
 ·refine W_f (fZ h43) O (go6 ?_);refine rt1 ?_
  have hE:(out:(List (Lo Facet)))=(eU l f):=by exact (by unfold eU;exact trs (Eq.symm (apS hCu2)) (aC h43 O))
  rw [← hE];exact ⟨_,rfl,⟨L_out,lZ,hO_out⟩⟩
 refine W_t (gA h43) O (go3 ?_);refine bI O (cO [[cw f.x.n.x.1,cw f.x.n.y.1,cw f.x.n.z.1,cw f.x.d.1,csl f.p f.x.ats.length f.c]] [cw f.x.n.x.1,cw f.x.n.y.1,cw f.x.n.z.1,cw f.x.d.1,csl f.p f.x.ats.length f.c] CP UD NT O dd_ O O ⟨rfl,rfl,rfl,trivial⟩ O (fun b44 hb44=>bI O (mL (e:=tF) (l:=out) (m:=[f]) 56 CP (by kernel_rfl) dd_ O O hO_out (SLe.lit (e:=tF) (l:=[f]) m0 O (Nat.le_of_ble_eq_true O) O) (vD rE) (by show (out.length+1)*56≤_;(try simp only [List.length_append,List.length_cons,List.length_nil]);omega) dd_ (fun p45 c46 L47 hO48=>go7 ?_))));refine rt1 ?_
 have hE:((out++[f]):(List (Lo Facet)))=(eU l f):=by exact (by unfold eU;exact trs (Eq.symm (apS hCu2)) (aH h43 O))
 rw [← hE];exact ⟨_,rfl,⟨L47,lZ,hO48⟩⟩
theorem A1 (va:Value) (a:(List (A3 W))) (vb:Value) (b:(List (A3 W))) (w:World) (ha:Slr w elV va a) (hb:Slr w elV vb b) :
    Calls prog 128 [va,vb].toArray w (fun e w'=>e = .returned (.bool (jF a b))∧Ext w w'):=by
 obtain ⟨p_a,c_a,rfl⟩:=ha.form;obtain ⟨p_b,c_b,rfl⟩:=hb.form;refine dB (N:=26) func128 O O zz_ ?_;obtain ⟨w0,rfl⟩:=nm w;have Ha:=ha.old;have hm_a:=ha.max;have Hb:=hb.old;have hm_b:=hb.max;refine giI ?_;refine go6 ?_;refine sQ (eK iY O (SLe.sub Ha sn)) O (go_ ?_);refine sQ (eK iY O (SLe.sub Hb sn)) O (go2 ?_);refine aN _ O (fun h1=>?_) (fun h1=>?_)
 ·have ph2:=b3_ h1;refine go4 ?_;refine rt1 ?_;exact congrArg vS1 (show _=(jF a b) from aC h1 O)
 have ph3:=b2_ h1;refine go5 ?_;refine gJ3 (rg [4,5] 11 15) (fun g M=>∃ (k:Nat),(kF a b (a.length+1) 0) = .inl k∧(g 5 = .int .i64 (k:Int))∧M=[]) (fun K_u4 hK_u4=>?_) ?_
 ·refine go_ ?_;refine cI (rg [4,5] 11 15) (fun g nn M=>∃ (k:Nat),(kF a b nn k)=(kF a b (a.length+1) 0)∧a.length - k<nn∧(k≤a.length)∧(g 5 = .int .i64 (k:Int))∧M=[]) (a.length+1) ?start ?round
  case start=>exact ⟨_,s0,0,rfl,oo_,oo_,rfl,rfl⟩
  case round =>
   rintro nn g M ⟨k,hT0,hq0,hinv0,hg5,rfl⟩;obtain ⟨k0,rfl⟩:∃ m,nn=m+1:=⟨nn - 1,by omega⟩;refine gS1 hg5 ?_;clear hg5;refine go4 ?_;refine sQ (eK iY O (SLe.sub Ha sn)) O (go2 ?_);refine aN _ O (fun h15=>?_) (fun h15=>?_)
   ·have ph15:=of_decide_eq_true h15;refine go3 ?_;refine nK sn 9 [] [] (go2 ?_);refine pQ O (aS (v':=.pointer (some (slb (.slice p_a a.length c_a) (k*3+0)))) (eY (e:=elV) (l:=a) (k:=k) iY O O (SLe.sub Ha sn) o2_) O) ?_;refine pQ O (iS (e:=elV) (l:=a) (k:=k) (o:=0) tyT O (SLe.sub Ha sn) (cL A30 o2_) O) ?_;refine go2 ?_;refine pQ O (aS (v':=.pointer (some (slb (.slice p_b b.length c_b) (k*3+0)))) (eY (e:=elV) (l:=b) (k:=k) iY O O (SLe.sub Hb sn) o2_) O) ?_;refine pQ O (iS (e:=elV) (l:=b) (k:=k) (o:=0) tyT O (SLe.sub Hb sn) (cL A30 o2_) O) ?_;refine pQ O (yW (r:=(decide (((a.getD k A30).x).1=((b.getD k A30).x).1)&&(decide (((a.getD k A30).y).1=((b.getD k A30).y).1)&&decide (((a.getD k A30).z).1=((b.getD k A30).z).1)))) O O (dR 8 dd_ pN pO (aD bU (aD bU (cM bU))) (aD bU (aD bU (cM bU))) (aQ O eB (aQ O eB (eJ eB))))) (go_ ?_);rcases bt (decide (((a.getD k A30).x).1=((b.getD k A30).x).1)&&(decide (((a.getD k A30).y).1=((b.getD k A30).y).1)&&decide (((a.getD k A30).z).1=((b.getD k A30).z).1))) with h16|h16
    ·have ph17:=of_decide_eq_true (Bool.and_eq_true_iff.1 h16).1;have ph18:=of_decide_eq_true (Bool.and_eq_true_iff.1 (Bool.and_eq_true_iff.1 h16).2).1;have ph19:=of_decide_eq_true (Bool.and_eq_true_iff.1 (Bool.and_eq_true_iff.1 h16).2).2;refine W_f (fZ h16) O (go3 ?_);refine sWi (((k+1):Nat):Int) O (go2 ?_);refine ⟨pp_,_,_,s0,(Nat.lt_succ_self _),(k+1),(by exact (hT0.symm.trans (Eq.symm (aC h15 (aC h16 O)))).symm),(Nat.lt_of_lt_of_le oo_ (Nat.le_of_lt_succ hq0)),oo_,rfl,rfl⟩
    refine W_t (gA h16) O (go4 ?_);refine rt1 ?_;exact congrArg vS1 (show _=(jF a b) from aH h1 (wQ O (hT0.symm.trans (Eq.symm (aC h15 (aH h16 O))))))
   have ph15:=of_decide_eq_false h15;refine go_ ?_;refine hK_u4 _ _ pp_ ⟨_,s0,k,(by exact hT0.symm.trans (Eq.symm (aH h15 O))),rfl,rfl⟩
 rintro g M ⟨k,hCu4,hg5,rfl⟩;refine gS1 hg5 ?_;clear hg5;refine go4 ?_;refine rt1 ?_;exact congrArg vS1 (show _=(jF a b) from aH h1 (trs (Eq.symm (smS hCu4)) O))
theorem A7 (vl:Value) (l:(List (A3 W))) (n:(A3 W)) (d:W) (a:(A3 W)) (b:(A3 W)) (w:World) (hl:Slr w elV vl l) :
    Calls prog 236 [vl,AV [cw n.x.1,cw n.y.1,cw n.z.1],.int .i64 d.1,AV [cw a.x.1,cw a.y.1,cw a.z.1],AV [cw b.x.1,cw b.y.1,cw b.z.1]].toArray w (fun e w'=>e = .returned (.bool (nH l n d a b))∧Ext w w'):=by
 obtain ⟨p_l,c_l,rfl⟩:=hl.form;refine dB (N:=64) func236 O O zz_ ?_;obtain ⟨w0,rfl⟩:=nm w;have Hl:=hl.old;have hm_l:=hl.max;refine giI ?_;refine go2 ?_;intro b1 hb1;refine go_ ?_;intro b2 hb2;refine go_ ?_;intro b3 hb3;refine go5 ?_;obtain ⟨r4,hr4⟩:=nm ((cT b a):(A3 W));refine sC (AV [cw r4.x.1,cw r4.y.1,cw r4.z.1]) aE (gN b a) O O (by rw [hr4]) (go_ ?_);intro b5 hb5;refine go6 ?_;refine gJ3 (rg [10,12,13,14] 18 46) (fun g M=>∃ (k:Nat),(jA l n d a b r4 (l.length+1) 0) = .inl k∧(g 12 = .int .i64 (k:Int))∧M=[⟨b5,23,aU [cw r4.x.1,cw r4.y.1,cw r4.z.1]⟩,⟨b3,23,aU [cw b.x.1,cw b.y.1,cw b.z.1]⟩,⟨b2,23,aU [cw a.x.1,cw a.y.1,cw a.z.1]⟩,⟨b1,23,aU [cw n.x.1,cw n.y.1,cw n.z.1]⟩]) (fun K_u6 hK_u6=>?_) ?_
 ·refine go_ ?_;refine cI (rg [10,12,13,14] 18 46) (fun g nn M=>∃ (k:Nat),(jA l n d a b r4 nn k)=(jA l n d a b r4 (l.length+1) 0)∧l.length - k<nn∧(k≤l.length)∧(g 12 = .int .i64 (k:Int))∧M=[⟨b5,23,aU [cw r4.x.1,cw r4.y.1,cw r4.z.1]⟩,⟨b3,23,aU [cw b.x.1,cw b.y.1,cw b.z.1]⟩,⟨b2,23,aU [cw a.x.1,cw a.y.1,cw a.z.1]⟩,⟨b1,23,aU [cw n.x.1,cw n.y.1,cw n.z.1]⟩]) (l.length+1) ?start ?round
  case start=>exact ⟨_,s0,0,rfl,oo_,oo_,rfl,rfl⟩
  case round =>
   rintro nn g M ⟨k,hT0,hq0,hinv0,hg12,rfl⟩;obtain ⟨k0,rfl⟩:∃ m,nn=m+1:=⟨nn - 1,by omega⟩;refine gS1 hg12 ?_;clear hg12;refine go4 ?_;refine sQ (eK iY O (SLe.sub Hl sn)) O (go2 ?_);refine aN _ O (fun h35=>?_) (fun h35=>?_)
   ·have ph35:=of_decide_eq_true h35;refine go4 ?_;refine nK s0 8 [] [] (go3 ?_);refine pQ O (aS (v':=.pointer (some (slb (.slice p_l l.length c_l) (k*3+0)))) (eY (e:=elV) (l:=l) (k:=k) iY O O (SLe.sub Hl sn) o2_) O) ?_;refine pQ O (iS (e:=elV) (l:=l) (k:=k) (o:=0) tyT O (SLe.sub Hl sn) (cL A30 o2_) O) ?_;refine pQ O (aX aE (gO n (l.getD k A30)) O) (go3 ?_);refine aN _ O (fun h36=>?_) (fun h36=>?_)
    ·refine go3 ?_;refine sWi (((k+1):Nat):Int) O (go2 ?_);refine ⟨pp_,_,_,s0,(Nat.lt_succ_self _),(k+1),(by exact (hT0.symm.trans (Eq.symm (aC h35 (aC h36 O)))).symm),(Nat.lt_of_lt_of_le oo_ (Nat.le_of_lt_succ hq0)),oo_,rfl,rfl⟩
    refine go_ ?_;refine nK s0 8 [6,7] [7] (go2 ?_);refine pQ O (aS (v':=.pointer (some (slb (.slice p_l l.length c_l) (k*3+0)))) (eY (e:=elV) (l:=l) (k:=k) iY O O (SLe.sub Hl sn) o2_) O) ?_;refine pQ O (iS (e:=elV) (l:=l) (k:=k) (o:=0) tyT O (SLe.sub Hl sn) (cL A30 o2_) O) ?_;refine go_ ?_;obtain ⟨r37,hr37⟩:=nm ((cT (l.getD k A30) a):(A3 W));refine pC (AV [cw r37.x.1,cw r37.y.1,cw r37.z.1]) aE (gN (l.getD k A30) a) O O (by rw [hr37]) (dF O O (eQ zpT (fun b38 hb38=>⟨(fun _=>sd s0),(sd s0),?_⟩)));refine go2 ?_;refine nK s0 6 [] [] (go3 ?_);obtain ⟨r39,hr39⟩:=nm ((j6 r4 r37):(A3 W));refine pC (AV [cw r39.x.1,cw r39.y.1,cw r39.z.1]) aE (uF r4 r37) O O (by rw [hr39]) (pQ O (aX aE (A5 n r39) O) (go2 ?_));refine gJv (rg [] 43 21) [(63,.bool (decide ((iI n r39).1<0)||(((iI n r39).1==0)&&(decide ((aF r37 r4).1<0)||decide ((aF r4 r4).1<(aF r37 r4).1)))))] (fun K13 J13=>?_) ?_
    ·refine gdr s0 [0,4,8,12,16,20,24,28,32,36,40,44,48,52,56,60,64,68,72,76,80] [] mix (by kernel_rfl) (go2 ?_);refine pBB O (fun h43=>?_) (fun h43=>?_)
     ·have ph43:=of_decide_eq_true h43;refine aT_ ?_;refine J13 _ _ pp_ s0 (bS (oH h43))
     have ph43:=of_decide_eq_false h43;refine go2 ?_;refine pBB O (fun h44=>?_) (fun h44=>?_)
     ·refine go2 ?_;refine pQ O (aX aE (gO r37 r4) O) (go_ ?_);refine pBB O (fun h45=>?_) (fun h45=>?_)
      ·have ph45:=of_decide_eq_true h45;refine wN ?_;refine J13 _ _ pp_ s0 (bS (mO h43 (k6 h44 (oH h45))))
      have ph45:=of_decide_eq_false h45;refine go2 ?_;refine pQ O (aX aE (gO r37 r4) O) (go2 ?_);refine pQ O (aX aE (gO r4 r4) O) (go5 ?_);refine J13 _ _ pp_ s0 (bS (mO h43 (k6 h44 (mO h45 O))))
     refine UW ?_;refine J13 _ _ pp_ s0 (bS (mO h43 (oB h44)))
    intro g46;refine aN _ O (fun h47=>?_) (fun h47=>?_)
    ·refine go4 ?_;refine rt1 ?_
     subst_vars;exact congrArg vS1 (show _=(nH l n d a b) from (wQ O (hT0.symm.trans (Eq.symm (aC h35 (aH h36 (aC h47 O)))))))
    have ph48:=of_decide_eq_false (Bool.or_eq_false_iff.1 h47).1;refine go3 ?_;refine sWi (((k+1):Nat):Int) O (go2 ?_);refine ⟨pp_,_,_,(sd s0),(Nat.lt_succ_self _),(k+1),(by subst_vars;exact (hT0.symm.trans (Eq.symm (aC h35 (aH h36 (aH h47 O))))).symm),(Nat.lt_of_lt_of_le oo_ (Nat.le_of_lt_succ hq0)),oo_,rfl,rfl⟩
   have ph35:=of_decide_eq_false h35;refine go_ ?_;refine hK_u6 _ _ pp_ ⟨_,s0,k,(by exact hT0.symm.trans (Eq.symm (aH h35 O))),rfl,rfl⟩
 rintro g M ⟨k,hCu6,hg12,rfl⟩;refine gS1 hg12 ?_;clear hg12;refine oA (sd (sd (sd (sd s0)))) ?_;refine go4 ?_;refine rt1 ?_;exact (by obtain rfl:=hr4.symm;exact congrArg vS1 (show _=(nH l n d a b) from trs (Eq.symm (smS hCu6)) O))
end Go.Proofs.YtbjlhfochebmiaaGreatDoor
