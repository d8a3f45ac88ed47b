/- Lemmas: what they ask stands in their statements. -/
import Derived.Test.YtokjfhfiodopdaaGreatWGa
set_option linter.unusedSimpArgs false
set_option linter.unusedVariables false
set_option maxHeartbeats 8000000
set_option maxRecDepth 20000
namespace Go.Proofs.YtokjfhfiodopdaaGreat
open Go.Kn Go.Num Tryz
attribute [local irreducible] Go.Kn.W WL PL OpQ OpR OpS
theorem HT (a:Rt) (b:Rt) :
    Ret prog 91 [AV [pI a.n,pI a.d],AV [pI b.n,pI b.d]] (.int .i64 ((i6 a b).1)):=by
 refine bT (N:=80) func91 rfl rfl (by simp) (fun w0=>?_);simp only [bK,Nat.reduceAdd];refine go2 ?_;intro b1 hb1;refine go_ ?_;intro b2 hb2;refine go3 ?_;refine rD (sk (sk (s0))) 6 [] [] (go_ ?_);refine pQ rfl (bM aJ (lJ a) rfl) (go_ ?_);refine pQ rfl (bM aJ (lJ b) rfl) (go5 ?_);refine gJv [15,16,17,18,19,20,21] [(15,.bool (!(cG a)&&(!(cG b))))] (fun K2 J2=>?_) ?_
 ·refine go3 ?_;rcases bt (cG a) with h4 | h4
  ·refine sB (fY h4) rfl (go5 ?_);refine J2 _ _ pp_ s0 (aZ (w6 h4))
  refine sB (fP h4) rfl (go5 ?_);refine J2 _ _ pp_ s0 (aZ (pX h4 rfl))
 intro g5;refine aQ _ rfl (fun h6=>?_) (fun h6=>?_)
 ·refine go4 ?_;refine bG rfl (.inr rfl) rfl ?_;exact congrArg vS7 (show _=(i6 a b) from aW h6 rfl)
 refine go5 ?_;rcases bt (cG a) with h7 | h7
 ·refine W_f (fY h7) rfl (go5 ?_);rcases bt (cG b) with h8 | h8
  ·refine W_f (fY h8) rfl (go8 ?_);refine cF [7,8,9,10,28,29,30,31,32,33,34,35,36,37,38,39,40,41,42,43,44,45,46,47,48,49,50,51,52,53,54,55,56,57,58,59,60,61,62,63,64,65,66,67,68,69,70,71,72,73,74,75,76,77,78] (fun g nn M=>∃ (o:W) (x:Rt) (y:Rt) (k:Nat),(g 7 = .int .i64 o.1)∧M=[⟨b2,29,bB [pI y.n,pI y.d]⟩,⟨b1,29,bB [pI x.n,pI x.d]⟩]∧nn=k∧(cf k o x.n x.d y.n y.d=cf (cfN a.d) (wl 1) a.n a.d b.n b.d∧cfP k x.d)) ((cfN a.d)) ?start ?round
   case start =>
    refine ⟨_,s0,(wl 1),a,b,(cfN a.d),?a7,rfl,rfl,⟨rfl,U6 h7⟩⟩
    case a7=>rfl
   case round =>
    rintro nn g M ⟨o,x,y,k,hg7,rfl,hmeas,hinv⟩;subst nn;simp only [eH,hg7];clear hg7;obtain ⟨m,rfl⟩:=ND hinv.2;refine go2 ?_;refine rD (sk (sk (s0))) 12 [] [] (go4 ?_);refine pC (AV [pI (E (Z.quo x.n.dec x.d.dec))]) aJ (jL x.n.1 x.d.1 x.n.2 x.d.2) rfl rfl rfl (go4 ?_);refine pC (AV [pI (E (Z.quo y.n.dec y.d.dec))]) aJ (jL y.n.1 y.d.1 y.n.2 y.d.2) rfl rfl rfl (pC (.int .i64 ((Z.cmpW (Z.quo x.n.dec x.d.dec) (Z.quo y.n.dec y.d.dec)).1)) aJ (H2 (E (Z.quo x.n.dec x.d.dec)).1 (E (Z.quo y.n.dec y.d.dec)).1 (E (Z.quo x.n.dec x.d.dec)).2 (E (Z.quo y.n.dec y.d.dec)).2) rfl rfl (cg2 (fun p q=>Value.int .i64 (Z.cmpW p q).1) (bZ _) (bZ _)) (go6 ?_));refine aQ _ rfl (fun h9=>?_) (fun h9=>?_)
    ·refine go3 ?_;refine sV (.int .i64 ((W.mul o (Z.cmpW (Z.quo x.n.dec x.d.dec) (Z.quo y.n.dec y.d.dec))).1)) rfl rfl (go8 ?_);refine bG rfl (.inr rfl) rfl ?_;exact congrArg vS7 (show _=(i6 a b) from aM h6 (aW h7 (aW h8 ((eD_ hinv.1 h9)))))
    refine go_ ?_;refine gDs sn (.quiet 0 [1,7,16,17] (.quiet 1 [7,16,17] (.quiet 2 [3,6,7,14,15,16,17] (.quiet 3 [6,7,14,15,16,17] (.quiet 4 [5,6,7,14,15,16,17] (.quiet 5 [6,7,14,15,16,17] (.quiet 6 [7,14,15,16,17] (.quiet 7 [16,17] (.quiet 10 [11,14,15,16,17] (.quiet 11 [14,15,16,17] (.quiet 12 [13,14,15,16,17] (.quiet 13 [14,15,16,17] (.quiet 14 [15,16,17] (.still 8 [9,15,17] (.both 9 (.still 15 [17] (.only 16 (.only 17 (.fin)))) 16 (.quiet 9 [15,17] (.quiet 15 [17] (.only 17 (.fin))))))))))))))))))) [0,1,2,3,4,5,6,7,8,9,10,11,12,13,14,15] mix (by kernel_rfl) (by kernel_rfl) (go6 ?_);refine pC (AV [pI (E (Z.rem x.n.dec x.d.dec))]) aJ (AH x.n.1 x.d.1 x.n.2 x.d.2) rfl rfl rfl (pQ rfl (m6 zpT plT rfl (.cons [pI x.d] [pI x.d,pI I0] rfl rfl rfl rfl (.cons [pI (E (Z.rem x.n.dec x.d.dec))] [pI x.d,pI (E (Z.rem x.n.dec x.d.dec))] rfl rfl rfl rfl (.nil _)))) (go4 ?_));refine pC (AV [pI (E (Z.rem y.n.dec y.d.dec))]) aJ (AH y.n.1 y.d.1 y.n.2 y.d.2) rfl rfl rfl (E6 rfl rfl (ff_ (off':=18) (cC fdT dd_ rfl) rfl) ?_);refine HP ?_ ?_
    ·refine fM rfl rfl (E5 (S6 tyT rfl m0 rfl) ⟨fun _=>s0,sn,E6 rfl rfl (m6 zpT plT rfl (.cons [pI y.d] [pI y.d,pI I0] rfl rfl rfl rfl (.cons [pI (E (Z.rem y.n.dec y.d.dec))] [pI y.d,pI (E (Z.rem y.n.dec y.d.dec))] rfl rfl rfl rfl (.nil _)))) (go3 ?_)⟩);refine rD (sk (sk (s0))) 8 [] [] (go2 ?_);refine pC (.int .i64 ((Z.signW (Z.rem x.n.dec x.d.dec)).1)) aJ (gM (E (Z.rem x.n.dec x.d.dec)).1 (E (Z.rem x.n.dec x.d.dec)).2) rfl rfl (cg1 (fun p=>Value.int .i64 (Z.signW p).1) (bZ _)) (go2 ?_);refine pC (.int .i64 ((Z.signW (Z.rem y.n.dec y.d.dec)).1)) aJ (gM (E (Z.rem y.n.dec y.d.dec)).1 (E (Z.rem y.n.dec y.d.dec)).2) rfl rfl (cg1 (fun p=>Value.int .i64 (Z.signW p).1) (bZ _)) (go4 ?_);refine gJv [66,67,68,69,70,71] [(71,.bool (((Z.signW (Z.rem x.n.dec x.d.dec)).1==0)||((Z.signW (Z.rem y.n.dec y.d.dec)).1==0)))] (fun K7 J7=>?_) ?_
     ·refine go3 ?_;refine sBB rfl (fun h11=>?_) (fun h11=>?_)
      ·refine go4 ?_;refine J7 _ _ pp_ s0 (aZ (lX h11))
      refine go4 ?_;refine J7 _ _ pp_ s0 (aZ (kE h11 rfl))
     intro g12;refine aQ _ rfl (fun h13=>?_) (fun h13=>?_)
     ·refine go4 ?_;refine sV (.int .i64 ((W.sub (Z.signW (Z.rem x.n.dec x.d.dec)) (Z.signW (Z.rem y.n.dec y.d.dec))).1)) rfl rfl (sV (.int .i64 ((W.mul o (W.sub (Z.signW (Z.rem x.n.dec x.d.dec)) (Z.signW (Z.rem y.n.dec y.d.dec)))).1)) rfl rfl (go8 ?_));refine bG rfl (.inr rfl) rfl ?_;exact congrArg vS7 (show _=(i6 a b) from aM h6 (aW h7 (aW h8 ((c4_ hinv.1 h9 h13)))))
     refine go3 ?_;refine sV (.int .i64 ((W.neg o).1)) rfl rfl (go2 ?_);refine ⟨pp_,_,_,s0,(Nat.lt_succ_self m),(W.neg o),(⟨x.d,(E (Z.rem x.n.dec x.d.dec))⟩:Rt),(⟨y.d,(E (Z.rem y.n.dec y.d.dec))⟩:Rt),m,?s7,rfl,rfl,c3_ hinv h9 h13⟩
     case s7=>rfl
    refine go2 ?_;refine pQ rfl (m6 zpT plT rfl (.cons [pI y.d] [pI y.d,pI I0] rfl rfl rfl rfl (.cons [pI (E (Z.rem y.n.dec y.d.dec))] [pI y.d,pI (E (Z.rem y.n.dec y.d.dec))] rfl rfl rfl rfl (.nil _)))) (go2 ?_);refine rD (sk (sk (s0))) 8 [] [] (go2 ?_);refine pC (.int .i64 ((Z.signW (Z.rem x.n.dec x.d.dec)).1)) aJ (gM (E (Z.rem x.n.dec x.d.dec)).1 (E (Z.rem x.n.dec x.d.dec)).2) rfl rfl (cg1 (fun p=>Value.int .i64 (Z.signW p).1) (bZ _)) (go2 ?_);refine pC (.int .i64 ((Z.signW (Z.rem y.n.dec y.d.dec)).1)) aJ (gM (E (Z.rem y.n.dec y.d.dec)).1 (E (Z.rem y.n.dec y.d.dec)).2) rfl rfl (cg1 (fun p=>Value.int .i64 (Z.signW p).1) (bZ _)) (go4 ?_);refine gJv [66,67,68,69,70,71] [(71,.bool (((Z.signW (Z.rem x.n.dec x.d.dec)).1==0)||((Z.signW (Z.rem y.n.dec y.d.dec)).1==0)))] (fun K9 J9=>?_) ?_
    ·refine go3 ?_;refine sBB rfl (fun h15=>?_) (fun h15=>?_)
     ·refine go4 ?_;refine J9 _ _ pp_ s0 (aZ (lX h15))
     refine go4 ?_;refine J9 _ _ pp_ s0 (aZ (kE h15 rfl))
    intro g16;refine aQ _ rfl (fun h17=>?_) (fun h17=>?_)
    ·refine go4 ?_;refine sV (.int .i64 ((W.sub (Z.signW (Z.rem x.n.dec x.d.dec)) (Z.signW (Z.rem y.n.dec y.d.dec))).1)) rfl rfl (sV (.int .i64 ((W.mul o (W.sub (Z.signW (Z.rem x.n.dec x.d.dec)) (Z.signW (Z.rem y.n.dec y.d.dec)))).1)) rfl rfl (go8 ?_));refine bG rfl (.inr rfl) rfl ?_;exact congrArg vS7 (show _=(i6 a b) from aM h6 (aW h7 (aW h8 ((c4_ hinv.1 h9 h17)))))
    refine go3 ?_;refine sV (.int .i64 ((W.neg o).1)) rfl rfl (go2 ?_);refine ⟨pp_,_,_,s0,(Nat.lt_succ_self m),(W.neg o),(⟨x.d,(E (Z.rem x.n.dec x.d.dec))⟩:Rt),(⟨y.d,(E (Z.rem y.n.dec y.d.dec))⟩:Rt),m,?s7,rfl,rfl,c3_ hinv h9 h17⟩
    case s7=>rfl
  refine W_t (fP h8) rfl (go4 ?_);refine bG rfl (.inr rfl) rfl ?_;exact congrArg vS7 (show _=(i6 a b) from aM h6 (aW h7 (aM h8 rfl)))
 refine W_t (fP h7) rfl (go4 ?_);refine bG rfl (.inr rfl) rfl ?_;exact congrArg vS7 (show _=(i6 a b) from aM h6 (aM h7 rfl))
theorem oT (a:Rt) (b:Rt) :
    Ret prog 28 [AV [pI a.n,pI a.d],AV [pI b.n,pI b.d]] (.int .i64 ((eC a b).1)):=by
 refine bT (N:=95) func28 rfl rfl (by simp) (fun w0=>?_);simp only [bK,Nat.reduceAdd];refine go2 ?_;intro b1 hb1;refine go_ ?_;intro b2 hb2;refine go4 ?_;refine sQ (bM aJ (iD a) rfl) rfl (go4 ?_);refine sQ (bM aJ (iD b) rfl) rfl (go3 ?_);refine gJv [17,18,19,20,21,22] [(22,.bool (!(aP a)||(!(aP b))))] (fun K2 J2=>?_) ?_
 ·refine go3 ?_;rcases bt (aP a) with h4 | h4
  ·refine sB (fY h4) rfl (go4 ?_);refine J2 _ _ pp_ s0 (aZ (jC h4 rfl))
  refine sB (fP h4) rfl (go4 ?_);refine J2 _ _ pp_ s0 (aZ (mI h4))
 intro g5;refine aQ _ rfl (fun h6=>?_) (fun h6=>?_)
 ·refine rD (sk (sk (s0))) 8 [] [] (go2 ?_);refine pQ rfl (bM aJ (rX a (aP a)) rfl) (go2 ?_);refine pQ rfl (bM aJ (rX b (aP b)) rfl) ?_;obtain ⟨r7,hr7⟩:=nm ((Z.cmpW (fC a (aP a)).dec (fC b (aP b)).dec):W);refine pC (.int .i64 r7.1) aJ (r9 (fC a (aP a)).1 (fC b (aP b)).1 (fC a (aP a)).2 (fC b (aP b)).2) rfl rfl (by rw [hr7];first | done | rfl) (go3 ?_);refine bG rfl (.inr rfl) rfl ?_;exact (by subst hr7;exact congrArg vS7 (show _=(eC a b) from aW h6 rfl))
 refine vK ?_;intro b8 hb8;refine go9 ?_;intro b9 hb9;refine go3 ?_;refine cF [4,7,10,11,12,40,41,42,43,44,45,46,47,48,49,50,51,52,53,54,55,56,57,58,59,60,61,62,63,64,65,66,67,68,69,70,71,72,73,74,75,76,77,78,79,80,81,82,83,84,85,86,87,88,89,90,91,92,93,94] (fun g nn M=>∃ (o:W) (x:(A2 I)) (y:(A2 I)) (k:Nat),(g 7 = .int .i64 o.1)∧M=[⟨b9,112,bB [pI y.x,pI y.y]⟩,⟨b8,112,bB [pI x.x,pI x.y]⟩,⟨b2,29,bB [pI b.n,pI b.d]⟩,⟨b1,29,bB [pI a.n,pI a.d]⟩]∧nn=k∧(cf k o x.x x.y y.x y.y=cf (cfN a.d) (wl 1) a.n a.d b.n b.d∧cfP k x.y)) ((cfN a.d)) ?start ?round
 case start =>
  refine ⟨_,s0,(wl 1),(⟨a.n,a.d⟩:(A2 I)),(⟨b.n,b.d⟩:(A2 I)),(cfN a.d),?a7,rfl,rfl,⟨rfl,U7 (bl_ h6)⟩⟩
  case a7=>rfl
 case round =>
  rintro nn g M ⟨o,x,y,k,hg7,rfl,hmeas,hinv⟩;subst nn;simp only [eH,hg7];clear hg7;obtain ⟨m,rfl⟩:=ND hinv.2;refine go6 ?_;refine sC (AV [pI (E (Z.quo x.x.dec x.y.dec))]) aJ (iH x.x.1 x.y.1 x.x.2 x.y.2) rfl rfl rfl (go_ ?_);intro b10 hb10;refine go7 ?_;refine sC (AV [pI (E (Z.quo y.x.dec y.y.dec))]) aJ (iH y.x.1 y.y.1 y.x.2 y.y.2) rfl rfl rfl (go_ ?_);intro b11 hb11;refine go5 ?_;refine sC (.int .i64 ((Z.cmpW (Z.quo x.x.dec x.y.dec) (Z.quo y.x.dec y.y.dec)).1)) aJ (r9 (E (Z.quo x.x.dec x.y.dec)).1 (E (Z.quo y.x.dec y.y.dec)).1 (E (Z.quo x.x.dec x.y.dec)).2 (E (Z.quo y.x.dec y.y.dec)).2) rfl rfl (cg2 (fun p q=>Value.int .i64 (Z.cmpW p q).1) (bZ _) (bZ _)) (go7 ?_);refine aQ _ rfl (fun h12=>?_) (fun h12=>?_)
  ·refine go3 ?_;refine sV (.int .i64 ((W.mul o (Z.cmpW (Z.quo x.x.dec x.y.dec) (Z.quo y.x.dec y.y.dec))).1)) rfl rfl (go3 ?_);refine bG rfl (.inr rfl) rfl ?_;exact congrArg vS7 (show _=(eC a b) from aM h6 ((eD_ hinv.1 h12)))
  refine go_ ?_;refine gds (sk (sk (sk (sd (sk (sk (s0))))))) [0,4,8,12,16,20,24,28,33] [8] mix (by kernel_rfl) (go6 ?_);refine pC (AV [pI (E (Z.rem x.x.dec x.y.dec))]) aJ (sF x.x.1 x.y.1 x.x.2 x.y.2) rfl rfl rfl (pQ rfl (C5 zpT arT rfl (.cons [pI x.y] [pI x.y,pI I0] rfl rfl rfl rfl (.cons [pI (E (Z.rem x.x.dec x.y.dec))] [pI x.y,pI (E (Z.rem x.x.dec x.y.dec))] rfl rfl rfl rfl (.nil _)))) (go2 ?_));refine gds (sk (sk (sd (sk (sk (sk (s0))))))) [0,4,8,12,16,20,24,28,33] [8] mix (by kernel_rfl) (go6 ?_);refine pC (AV [pI (E (Z.rem y.x.dec y.y.dec))]) aJ (sF y.x.1 y.y.1 y.x.2 y.y.2) rfl rfl rfl (pQ rfl (C5 zpT arT rfl (.cons [pI y.y] [pI y.y,pI I0] rfl rfl rfl rfl (.cons [pI (E (Z.rem y.x.dec y.y.dec))] [pI y.y,pI (E (Z.rem y.x.dec y.y.dec))] rfl rfl rfl rfl (.nil _)))) (go3 ?_));refine gJv [74,75,76,77,78,79,80,81,82,83] [(83,.bool (((Z.signW (Z.rem x.x.dec x.y.dec)).1==0)||((Z.signW (Z.rem y.x.dec y.y.dec)).1==0)))] (fun K5 J5=>?_) ?_
  ·refine go3 ?_;refine sC (.int .i64 ((Z.signW (Z.rem x.x.dec x.y.dec)).1)) aJ (e9 (E (Z.rem x.x.dec x.y.dec)).1 (E (Z.rem x.x.dec x.y.dec)).2) rfl rfl (cg1 (fun p=>Value.int .i64 (Z.signW p).1) (bZ _)) (go_ ?_);refine sBB rfl (fun h14=>?_) (fun h14=>?_)
   ·refine go6 ?_;refine J5 _ _ pp_ s0 (aZ (lX h14))
   refine go2 ?_;refine sC (.int .i64 ((Z.signW (Z.rem y.x.dec y.y.dec)).1)) aJ (e9 (E (Z.rem y.x.dec y.y.dec)).1 (E (Z.rem y.x.dec y.y.dec)).2) rfl rfl (cg1 (fun p=>Value.int .i64 (Z.signW p).1) (bZ _)) (go3 ?_);refine J5 _ _ pp_ s0 (aZ (kE h14 rfl))
  intro g15;refine aQ _ rfl (fun h16=>?_) (fun h16=>?_)
  ·refine gds (sk (sk (sk (sk (sk (sk (s0))))))) [0,4,8,12,16,20,24,28,32,36] [] mix (by kernel_rfl) (go3 ?_);refine pC (.int .i64 ((Z.signW (Z.rem x.x.dec x.y.dec)).1)) aJ (e9 (E (Z.rem x.x.dec x.y.dec)).1 (E (Z.rem x.x.dec x.y.dec)).2) rfl rfl (cg1 (fun p=>Value.int .i64 (Z.signW p).1) (bZ _)) (go2 ?_);refine pC (.int .i64 ((Z.signW (Z.rem y.x.dec y.y.dec)).1)) aJ (e9 (E (Z.rem y.x.dec y.y.dec)).1 (E (Z.rem y.x.dec y.y.dec)).2) rfl rfl (cg1 (fun p=>Value.int .i64 (Z.signW p).1) (bZ _)) (pV (.int .i64 ((W.sub (Z.signW (Z.rem x.x.dec x.y.dec)) (Z.signW (Z.rem y.x.dec y.y.dec))).1)) rfl rfl (pV (.int .i64 ((W.mul o (W.sub (Z.signW (Z.rem x.x.dec x.y.dec)) (Z.signW (Z.rem y.x.dec y.y.dec)))).1)) rfl rfl (go3 ?_)));refine bG rfl (.inr rfl) rfl ?_;exact congrArg vS7 (show _=(eC a b) from aM h6 ((c4_ hinv.1 h12 h16)))
  refine go3 ?_;refine sV (.int .i64 ((W.neg o).1)) rfl rfl (go2 ?_);refine ⟨pp_,_,_,(sd (sd (s0))),(Nat.lt_succ_self m),(W.neg o),(⟨x.y,(E (Z.rem x.x.dec x.y.dec))⟩:(A2 I)),(⟨y.y,(E (Z.rem y.x.dec y.y.dec))⟩:(A2 I)),m,?s7,rfl,rfl,c3_ hinv h12 h16⟩
  case s7=>rfl
end Go.Proofs.YtokjfhfiodopdaaGreat
namespace Go.Kn
open Go Go.Num
section
variable {α:Type} {e:El α} {P:Program} {w0:World} {X:List Nat} {N:Nm} {S:Fr} {M M':List Blk} {d:Option Tmp} {ty:TypeId} {ps:String} {af:Array Edge} {gd:Option (Nat×Bool)} {E:TypeId}
def OwnN (w0:World) (E:TypeId) (e:El α):List Value→List (List α)→List Blk→Prop
  | [],[],L=>L=[]
  | v :: vs,l :: ls,L=>∃ L1 L2,L=L1 ++ L2∧OwnG w0 E e v l L1∧OwnN w0 E e vs ls L2
  | _,_,_=>False
def SloN (w1 w:World) (E:TypeId) (e:El α) (vs:List Value) (ls:List (List α)):Prop :=
  ∃ L,OwnN w1 E e vs ls L∧(L.map Blk.b).Nodup∧∀ x∈L,w.heap[x.b]? = some (.cells x.cs.toArray x.T (0,0))
theorem OwnG.ge {v:Value} {l:List α} {L:List Blk} (h:OwnG w0 E e v l L):∀ x∈L,w0.heap.size≤x.b:=by
  rcases h with ⟨_,_,rfl⟩ | ⟨g,cap,cur,_,rfl,hg,_⟩
  · intro x hx;cases hx
  intro x hx;obtain rfl:=List.mem_singleton.1 hx;exact hg
theorem OwnG.wid {w:World} {v:Value} {l:List α} {L:List Blk} (hs:w0.heap.size≤w.heap.size) (h:OwnG w E e v l L):OwnG w0 E e v l L:=by
  rcases h with h | ⟨g,cap,cur,h1,h2,hg,h3⟩
  · exact .inl h
  exact .inr ⟨g,cap,cur,h1,h2,Nat.le_trans hs hg,h3⟩
theorem OwnN.ge:∀ {vs:List Value} {ls:List (List α)} {L:List Blk},OwnN w0 E e vs ls L→∀ x∈L,w0.heap.size≤x.b
  | [],[],L,h,x,hx=>by rw [show L=[] from h] at hx;cases hx
  | v :: vs,l :: ls,L,⟨L1,L2,h,h1,h2⟩,x,hx=>by
    rw [h] at hx;rcases List.mem_append.1 hx with hx | hx
    · exact h1.ge x hx
    exact OwnN.ge h2 x hx
theorem OwnN.wid {w:World} (hs:w0.heap.size≤w.heap.size):∀ {vs:List Value} {ls:List (List α)} {L:List Blk},OwnN w E e vs ls L→OwnN w0 E e vs ls L
  | [],[],_,h=>h
  | v :: vs,l :: ls,L,⟨L1,L2,h,h1,h2⟩=>⟨L1,L2,h,h1.wid hs,OwnN.wid hs h2⟩
theorem SloN.now {w w':World} {vs:List Value} {ls:List (List α)} (h:SloN w w' E e vs ls) (hw:Sat w0 X M w) (he:Ext w w'):∃ L,Sat w0 X (L ++ M) w'∧OwnN w0 E e vs ls L:=by
  obtain ⟨L,h1,h2,h3⟩:=h;have hw':=Sat.mono _ _ _ _ _ hw he;refine ⟨L,⟨hw'.os,hw'.tape,hw'.output,hw'.size,hw'.old,?_,fun y hy=>?_⟩,h1.wid hw.size⟩
  · rw [List.map_append]
    refine List.nodup_append.2 ⟨h2,hw'.nodup,fun a ha b hb e=>?_⟩;subst e;obtain ⟨x,hx,e1⟩:=List.mem_map.1 ha;obtain ⟨y,hy,e2⟩:=List.mem_map.1 hb;have g1:=h1.ge x hx;have g2:=dU? (hw.mem y hy);omega
  rcases List.mem_append.1 hy with hy | hy
  · exact h3 y hy
  exact hw'.mem y hy
end
open Go Go.Num
section
variable {P:Program} {w0:World} {X:List Nat} {N:Nm} {S:Fr} {M M':List Blk} {d:Option Tmp} {ty:TypeId} {ps:String} {af:Array Edge} {gd:Option (Nat×Bool)}
theorem t7 {g:FuncId} {f:Operand} {xs:List Operand} {tys:Array TypeId} {args cap:List Value} {Q K:Value→List Blk→Prop} (he:kL P g=true) (hf:evO N S f=some (.func (.func g) #[] cap.toArray)) (ha:evL N S xs=some args)
    (h:∀ w,Sat w0 X M w→Calls P g (args ++ cap).toArray w fun e w'=>∃ v M',e = .returned v∧Sat w0 X M' w'∧KeepsOthers w w'∧Q v M') (k:∀ v M',Q v M'→K v M') :
    OpR P w0 X N ⟨d,.call { callee:=.value f,args:=xs.toArray,argTypes:=tys },ty,ps,af,gd⟩ S M K:=by
  intro w hw;unfold opw;rw [lI,zK (first:=[]) (cap:=cap) (args:=args ++ cap) he (bR hf) (by simpa using tH ha)];exact (h w hw).mono fun e w' ⟨v,M',h1,h2,h4,h3⟩=>⟨v,h1,h4,M',h2,k v M' h3⟩
theorem DP {n:Nat} {f:FuncId} {fn:Func} {c:Code} {args:List Value} {w:World} {Q:Value→List Blk→Prop} (hf:P.funcs[f]? = some fn) (hb:fn.body=some c) (hn:fn.ntmps=n) (hl:args.length≤n) (hw:Sat w0 X M w)
    (h:W P w0 X (pl n) c (nN P fn w0 X (pl n) fun v M'=>∃ M2 Z,M'.Perm (M2 ++ Z)∧Q v M2) (bK 0 args) M):Calls P f args.toArray w fun e w'=>∃ v M',e = .returned v∧Sat w0 X M' w'∧KeepsOthers w w'∧Q v M' :=
  (nK hf hb hn hl hw h).mono fun e w' ⟨v,M',h1,h2,h3,M2,Z,p,hq⟩=>⟨v,M2,h1,(h2.perm p).sub (List.sublist_append_left _ _),h3,hq⟩
theorem Frq.pc {x:Blk} {M1 R:List Blk} (f:Frq M [x] M1) (g:M1.Perm R):M.Perm (x :: R):=f.trans (List.Perm.cons x g)
theorem Frq.pa {L M1 R:List Blk} (f:Frq M L M1) (g:M1.Perm R):M.Perm (L ++ R):=f.trans (List.Perm.append_left L g)
theorem eN_ {M:List Blk}:Frq M [] M:=List.Perm.refl _
end
end Go.Kn
namespace Go.Num
open Go Go.Kn
end Go.Num
namespace Go.Kn
open Go Go.Num
structure Lo (σ:Type) where
  p:Option Addr
  c:Nat
  x:σ
structure El2 (σ α:Type) where
  n:Nat
  ps:Option Addr→Nat→σ→List Part
  len:∀ p c x,o3 (ps p c x)=n
  e:El α
  li:σ→List α
def El2.el {σ α:Type} (D:El2 σ α):El (Lo σ):=⟨D.n,fun h=>D.ps h.p h.c h.x,fun h=>D.len _ _ _⟩
abbrev El2.v {σ α:Type} (D:El2 σ α) (h:Lo σ):Value:=.slice h.p (D.li h.x).length h.c
def elLL:El2 (List I) I:=⟨1,fun p c x=>[csl p x.length c],fun _ _ _=>rfl,elI,id⟩
section
variable {σ α:Type} {D:El2 σ α} {P:Program} {w0:World} {X:List Nat} {N:Nm} {S:Fr} {M M':List Blk} {d:Option Tmp} {ty:TypeId} {ps:String} {af:Array Edge} {gd:Option (Nat×Bool)} {v:Value} {l:List σ} {L LL:List Blk} {E:TypeId} {B:Nat}
def Slr2 (w:World) (D:El2 σ α) (v:Value) (l:List σ):Prop:=∃ H:List (Lo σ),H.map Lo.x=l∧Slr w D.el v H∧∀ h∈H,Slr w D.e (D.v h) (D.li h.x)
def SLe2 (w0:World) (X:List Nat) (M:List Blk) (D:El2 σ α) (v:Value) (l:List σ):Prop:=∃ H:List (Lo σ),H.map Lo.x=l∧SLe w0 X M D.el v H∧∀ h∈H,SLe w0 X M D.e (D.v h) (D.li h.x)
def Slf2 (B:Nat) (w:World) (D:El2 σ α) (v:Value) (l:List σ):Prop:=∃ H:List (Lo σ),H.map Lo.x=l∧Slfe B w D.el v H∧∀ h∈H,Slfe B w D.e (D.v h) (D.li h.x)
def SLf2 (w0:World) (M:List Blk) (D:El2 σ α) (v:Value) (l:List σ):Prop:=∃ H:List (Lo σ),H.map Lo.x=l∧SLfe w0 M D.el v H∧∀ h∈H,SLfe w0 M D.e (D.v h) (D.li h.x)
def Own2 (w0:World) (E:TypeId) (D:El2 σ α) (v:Value) (l:List σ) (L LL:List Blk):Prop:=∃ H:List (Lo σ),H.map Lo.x=l∧OwnG w0 E D.el v H L∧∀ h∈H,SLfe w0 LL D.e (D.v h) (D.li h.x)
theorem sZ {H:List (Lo σ)} (h:H.map Lo.x=l):H.length=l.length:=by rw [← h,List.length_map]
theorem KV {H:List (Lo σ)} {k:Nat} {x:σ} (h:H.map Lo.x=l) (hx:l[k]? = some x):∃ p c,H[k]? = some ⟨p,c,x⟩:=by
  rw [← h,List.getElem?_map] at hx
  cases hk:H[k]? with
  | none=>rw [hk] at hx;cases hx
  | some y =>
    rw [hk] at hx;obtain ⟨p,c,z⟩:=y
    cases hx
    exact ⟨p,c,rfl⟩
theorem Slr2.old (h:Slr2 w0 D v l):SLe2 w0 [] [] D v l:=by
  obtain ⟨H,h1,h2,h3⟩:=h;exact ⟨H,h1,h2.old,fun x hx=>(h3 x hx).old⟩
theorem Slr2.form {w:World} (h:Slr2 w D v l):∃ p c,v = .slice p l.length c:=by
  obtain ⟨H,h1,h2,_⟩:=h;obtain ⟨p,c,rfl⟩:=h2.form;exact ⟨p,c,by rw [sZ h1]⟩
theorem Slr2.max {w:World} (h:Slr2 w D v l):l.length≤9223372036854775807:=by
  obtain ⟨H,h1,h2,_⟩:=h;rw [← sZ h1];exact h2.max
theorem SLe2.sub (h:SLe2 w0 X M D v l) (hs:M.Sublist M'):SLe2 w0 X M' D v l:=by
  obtain ⟨H,h1,h2,h3⟩:=h;exact ⟨H,h1,h2.sub hs,fun x hx=>(h3 x hx).sub hs⟩
theorem SLf2.sub (h:SLf2 w0 M D v l) (hs:M.Sublist M'):SLf2 w0 M' D v l:=by
  obtain ⟨H,h1,h2,h3⟩:=h;exact ⟨H,h1,h2.sub hs,fun x hx=>(h3 x hx).sub hs⟩
theorem SLf2.sle (h:SLf2 w0 M D v l):SLe2 w0 X M D v l:=by
  obtain ⟨H,h1,h2,h3⟩:=h;exact ⟨H,h1,h2.sle,fun x hx=>(h3 x hx).sle⟩
theorem SLf2.max (h:SLf2 w0 M D v l):l.length≤9223372036854775807:=by
  obtain ⟨H,h1,h2,h3⟩:=h;rw [← sZ h1];exact h2.max
theorem SLf2.nil:SLf2 w0 M D (.slice none 0 0) []:=⟨[],rfl,SLfe.nil,fun _ h=>by cases h⟩
theorem SLe2.nil:SLe2 w0 X M D (.slice none 0 0) []:=SLf2.nil.sle
theorem SLe2.ap {w:World} (hw:Sat w0 X M w) (h:SLe2 w0 X M D v l):Slr2 w D v l:=by
  obtain ⟨H,h1,h2,h3⟩:=h;exact ⟨H,h1,h2 w hw,fun x hx=>h3 x hx w hw⟩
theorem Own2.form (h:Own2 w0 E D v l L LL):∃ p c,v = .slice p l.length c:=by
  obtain ⟨H,h1,h2,_⟩:=h;obtain ⟨p,c,rfl⟩:=h2.form;have:=h2.len;exact ⟨p,c,by rw [this,sZ h1]⟩
theorem Own2.max (h:Own2 w0 E D v l L LL):l.length≤9223372036854775807:=by
  obtain ⟨H,h1,h2,_⟩:=h;rw [← sZ h1];exact h2.max
theorem Own2.slf (h:Own2 w0 E D v l L LL) (h1:L.Sublist M) (h2:LL.Sublist M):SLf2 w0 M D v l:=by
  obtain ⟨H,a,b,c⟩:=h;exact ⟨H,a,b.slfe h1,fun x hx=>(c x hx).sub h2⟩
theorem Own2.sle (h:Own2 w0 E D v l L LL) (h1:L.Sublist M) (h2:LL.Sublist M):SLe2 w0 X M D v l:=(h.slf h1 h2).sle
theorem SLe2.at {k:Nat} {x:σ} (h:SLe2 w0 X M D v l) (hx:l[k]? = some x):∃ p c H,SLe w0 X M D.el v H∧H[k]? = some ⟨p,c,x⟩∧SLe w0 X M D.e (.slice p (D.li x).length c) (D.li x):=by
  obtain ⟨H,h1,h2,h3⟩:=h;obtain ⟨p,c,hk⟩:=KV h1 hx;exact ⟨p,c,H,h2,hk,h3 _ (List.mem_of_getElem? hk)⟩
theorem SLf2.at {k:Nat} {x:σ} (h:SLf2 w0 M D v l) (hx:l[k]? = some x):∃ p c H,SLfe w0 M D.el v H∧H[k]? = some ⟨p,c,x⟩∧SLfe w0 M D.e (.slice p (D.li x).length c) (D.li x):=by
  obtain ⟨H,h1,h2,h3⟩:=h;obtain ⟨p,c,hk⟩:=KV h1 hx;exact ⟨p,c,H,h2,hk,h3 _ (List.mem_of_getElem? hk)⟩
theorem Own2.at {k:Nat} {x:σ} (h:Own2 w0 E D v l L LL) (hx:l[k]? = some x):∃ p c H,OwnG w0 E D.el v H L∧H[k]? = some ⟨p,c,x⟩∧SLfe w0 LL D.e (.slice p (D.li x).length c) (D.li x):=by
  obtain ⟨H,h1,h2,h3⟩:=h;obtain ⟨p,c,hk⟩:=KV h1 hx;exact ⟨p,c,H,h2,hk,h3 _ (List.mem_of_getElem? hk)⟩
theorem Q1 {T:TypeId} {x:Operand} {s:Nat} (hT:lE P T=some s) (hx:evO N S x=some v) (hv:SLe2 w0 X M D v l):OpQ P w0 X N ⟨d,.call { callee:=.builtin .len,args:=#[x],argTypes:=#[T] },ty,ps,af,gd⟩ S M (.int .i64 (l.length:Nat)):=by
  obtain ⟨H,h1,h2,_⟩:=hv;rw [← sZ h1];exact dW hT hx h2
theorem LO {T:TypeId} {x y:Operand} {k:Nat} {i:IntKind} {t:Int} (hT:lE P T=some D.n) (hx:evO N S x=some v) (hy:evO N S y=some (.int i t)) (ht:t=(k:Int)) (hv:SLe2 w0 X M D v l) (hk:k<l.length) :
    OpQ P w0 X N ⟨d,.indexAddr T x y,ty,ps,af,gd⟩ S M (.pointer (some (slb v (k * D.n)))):=by
  obtain ⟨H,h1,h2,_⟩:=hv;subst ht;exact kZ (e:=D.el) hT hx hy h2 (by rw [sZ h1];exact hk)
theorem Own2.one {b c:Nat} {a:Option Addr} {x:σ} {qs:List Part} (hb:w0.heap.size≤b) (hq:qs=D.ps a c x) (hx:SLfe w0 LL D.e (.slice a (D.li x).length c) (D.li x)):Own2 w0 E D (.slice (some ⟨b,0,none⟩) 1 1) [x] [⟨b,E,bB qs⟩] LL :=
  ⟨[⟨a,c,x⟩],rfl,OwnG.lit (e:=D.el) hb rfl dd_ (by rw [hq];simp [El2.el]),fun h hh=>by
    obtain rfl:=List.mem_singleton.1 hh
    exact hx⟩
theorem U3 {T:TypeId} {x y:Operand} {u:Value} {a:Option Addr} {c0:Nat} {z:σ} {L1 R:List Blk} {K:Value→List Blk→Prop} (bytes:Nat) (hT:P.underlying T=some (.slice E)) (hE:RD P E D.el.n bytes=true) (h0:0<D.el.n) (hx:evO N S x=some v) (hy:evO N S y=some u)
    (hv:Own2 w0 E D v l L LL) (hu:SLe w0 X M D.el u [⟨a,c0,z⟩]) (hz:SLfe w0 L1 D.e (.slice a (D.li z).length c0) (D.li z)) (hs:M.Perm (L ++ (L1 ++ (LL ++ R)))) (hn:(l.length+1) * bytes≤140737488355328) (h8:0<bytes)
    (k:∀ p c L' LL',Own2 w0 E D (.slice p (l ++ [z]).length c) (l ++ [z]) L' LL'→L1.Sublist LL'→LL.Sublist LL'→K (.slice p (l ++ [z]).length c) (L' ++ (LL' ++ R))) :
    OpR P w0 X N ⟨d,.call { callee:=.builtin .append,args:=#[x,y],argTypes:=#[T,T] },ty,ps,af,gd⟩ S M K:=by
  obtain ⟨H,h1,h2,h3⟩:=hv;refine nS (e:=D.el) (l:=H) (m:=[⟨a,c0,z⟩]) (L:=L) (M1:=(L1 ++ LL) ++ R) bytes hT hE h0 hx hy h2 hu (hs.trans (by rw [List.append_assoc])) (by rw [sZ h1];exact hn) h8 fun p c L' ho=>?_
  have e1:(H ++ [(⟨a,c0,z⟩:Lo σ)]).map Lo.x=l ++ [z]:=by rw [List.map_append,h1];rfl
  have e2:=sZ e1;rw [e2] at ho ⊢;refine k p c L' (L1 ++ LL) ⟨_,e1,ho,fun h hh=>?_⟩ (List.sublist_append_left _ _) (List.sublist_append_right _ _);rcases List.mem_append.1 hh with hh | hh
  · exact (h3 h hh).sub (List.sublist_append_right _ _)
  obtain rfl:=List.mem_singleton.1 hh;exact hz.sub (List.sublist_append_left _ _)
theorem GC (w:World) (B:Nat):∀ n:Nat,∃ L:List Blk,(L.map Blk.b).Nodup∧(∀ x∈L,(B≤x.b∧x.b<B+n)∧w.heap[x.b]? = some (.cells x.cs.toArray x.T (0,0)))∧∀ b T (cs:List Value),B≤b→b<B+n→w.heap[b]? = some (.cells cs.toArray T (0,0))→(⟨b,T,cs⟩:Blk)∈L
  | 0=>⟨[],List.nodup_nil,fun x hx=>(by cases hx),fun b T cs h1 h2 _=>oo_⟩
  | n+1=>by
    obtain ⟨L,h1,h2,h3⟩:=GC w B n
    by_cases h:∃ (T:TypeId) (cs:List Value),w.heap[B+n]? = some (.cells cs.toArray T (0,0))
    · obtain ⟨T,cs,h⟩:=h
      refine ⟨⟨B+n,T,cs⟩ :: L,?_,fun x hx=>?_,fun b T' cs' b1 b2 hb=>?_⟩
      · rw [List.map_cons,List.nodup_cons]
        refine ⟨fun hm=>?_,h1⟩;obtain ⟨y,hy,e⟩:=List.mem_map.1 hm;have h4:=(h2 y hy).1;have e':y.b=B+n:=e;omega
      · rcases List.mem_cons.1 hx with rfl | hx
        · exact ⟨⟨Nat.le_add_right _ _,by show B+n<B+(n+1);omega⟩,h⟩
        exact ⟨⟨(h2 x hx).1.1,by have:=(h2 x hx).1.2;omega⟩,(h2 x hx).2⟩
      by_cases hn:b=B+n
      · subst hn
        rw [h] at hb
        injection hb with hb
        injection hb with e1 e2
        subst e2
        obtain rfl:cs=cs':=by simpa using e1
        exact List.mem_cons_self
      exact List.mem_cons_of_mem _ (h3 b T' cs' b1 oo_ hb)
    refine ⟨L,h1,fun x hx=>⟨⟨(h2 x hx).1.1,by have:=(h2 x hx).1.2;omega⟩,(h2 x hx).2⟩,fun b T' cs' b1 b2 hb=>?_⟩
    by_cases hn:b=B+n
    · subst hn;exact absurd ⟨T',cs',hb⟩ h
    exact h3 b T' cs' b1 oo_ hb
theorem Slfe.all {α:Type} {e:El α} {v:Value} {l:List α} {w:World} {L:List Blk} (h:Slfe B w e v l) (hB:w0.heap.size≤B) (hL:∀ b T (cs:List Value),B≤b→b<w.heap.size→w.heap[b]? = some (.cells cs.toArray T (0,0))→(⟨b,T,cs⟩:Blk)∈L):SLfe w0 L e v l:=by
  obtain ⟨p,c,hv,hc,hm,h⟩:=h;refine ⟨p,c,hv,hc,hm,?_⟩;rcases h with h | ⟨b,off,T,cs,hp,hb,hh,ht⟩
  · exact .inl h
  exact .inr ⟨b,off,T,cs,hp,Nat.le_trans hB hb,hL b T cs hb (dU? hh) hh,ht⟩
theorem Slf2.now {w w':World} (h:Slf2 w.heap.size w' D v l) (hw:Sat w0 X M w) (he:Ext w w'):∃ p c L,v = .slice p l.length c∧Sat w0 X (L ++ M) w'∧SLf2 w0 L D (.slice p l.length c) l:=by
  have hw':=Sat.mono _ _ _ _ _ hw he;obtain ⟨H,h1,h2,h3⟩:=h;obtain ⟨L,n1,n2,n3⟩:=GC w' w.heap.size (w'.heap.size - w.heap.size);have hL:∀ b T (cs:List Value),w.heap.size≤b→b<w'.heap.size→w'.heap[b]? = some (.cells cs.toArray T (0,0))→(⟨b,T,cs⟩:Blk)∈L:=fun b T cs b1 b2=>n3 b T cs b1 oo_;have g:=h2.all hw.size hL;obtain ⟨p,c,rfl,hc⟩:=id g;have el:=sZ h1;refine ⟨p,c,L,by rw [el],⟨hw'.os,hw'.tape,hw'.output,hw'.size,hw'.old,?_,fun y hy=>?_⟩,H,h1,by rw [← el];exact g,fun x hx=>(h3 x hx).all hw.size hL⟩
  · rw [List.map_append]
    refine List.nodup_append.2 ⟨n1,hw'.nodup,fun a ha b hb e=>?_⟩;subst e;obtain ⟨x,hx,e1⟩:=List.mem_map.1 ha;obtain ⟨y,hy,e2⟩:=List.mem_map.1 hb;have g1:=(n2 x hx).1.1;have g2:=dU? (hw.mem y hy);omega
  rcases List.mem_append.1 hy with hy | hy
  · exact (n2 y hy).2
  exact hw'.mem y hy
theorem SLf2.slf {w:World} (h:SLf2 w0 M D v l) (hw:Sat w0 X M w):Slf2 w0.heap.size w D v l:=by
  obtain ⟨H,h1,h2,h3⟩:=h;exact ⟨H,h1,h2.slfe hw,fun x hx=>(h3 x hx).slfe hw⟩
theorem DO {n:Nat} {f:FuncId} {fn:Func} {c:Code} {args:List Value} {w:World} (R:Value→Value) (hf:P.funcs[f]? = some fn) (hb:fn.body=some c) (hn:fn.ntmps=n) (hl:args.length≤n)
    (h:W P w [] (pl n) c (nN P fn w [] (pl n) fun r M=>∃ v,r=R v∧SLf2 w M D v l) (bK 0 args) []):Calls P f args.toArray w fun f w'=>∃ v,f = .returned (R v)∧Ext w w'∧Slf2 w.heap.size w' D v l :=
  (nK hf hb hn hl (Sat.start w []) h).mono fun f w' ⟨r,M',he,hs,_,v,hr,hu⟩=>⟨v,by rw [he,hr],hs.ext,hu.slf hs⟩
theorem t6 {g:FuncId} {xs:List Operand} {tys:Array TypeId} {args:List Value} {K:Value→List Blk→Prop} (R:Value→Value) (he:kL P g=true) (ha:evL N S xs=some args)
    (h:∀ w,Sat w0 X M w→Calls P g args.toArray w fun f w'=>∃ v,f = .returned (R v)∧Ext w w'∧Slf2 w.heap.size w' D v l) (k:∀ p c L,SLf2 w0 L D (.slice p l.length c) l→K (R (.slice p l.length c)) (L ++ M)):OpR P w0 X N ⟨d,.call { callee:=.value (.func g),args:=xs.toArray,argTypes:=tys },ty,ps,af,gd⟩ S M K :=
  A6 he ha fun w hw=>(h w hw).mono fun _ w' ⟨v,h1,h2,h3⟩=>by
    obtain ⟨p,c,L,rfl,hs,hv⟩:=h3.now hw h2;exact ⟨_,L ++ M,h1,hs,Ext.keeps h2,k p c L hv⟩
theorem SLe2.atLL {v:Value} {l:List (List I)} {k:Nat} {x:List I} (h:SLe2 w0 X M elLL v l) (hx:l[k]? = some x):∃ p c H,SLe w0 X M elLL.el v H∧H[k]? = some ⟨p,c,x⟩∧SLe w0 X M elI (.slice p x.length c) x:=h.at hx
theorem SLf2.atLL {v:Value} {l:List (List I)} {k:Nat} {x:List I} (h:SLf2 w0 M elLL v l) (hx:l[k]? = some x):∃ p c H,SLfe w0 M elLL.el v H∧H[k]? = some ⟨p,c,x⟩∧SLfe w0 M elI (.slice p x.length c) x:=h.at hx
theorem Own2.atLL {v:Value} {l:List (List I)} {k:Nat} {x:List I} (h:Own2 w0 E elLL v l L LL) (hx:l[k]? = some x):∃ p c H,OwnG w0 E elLL.el v H L∧H[k]? = some ⟨p,c,x⟩∧SLfe w0 LL elI (.slice p x.length c) x:=h.at hx
theorem bJ_ {b:Bool} (h:(!b)=false):b=true:=by cases b <;> first | rfl | cases h
theorem Frq.po {L M1 A Z:List Blk} (f:Frq M L M1) (g:M1.Perm (A ++ Z)):M.Perm ((L ++ A) ++ Z):=by rw [List.append_assoc];exact f.pa g
theorem Frq.pz {L Z:List Blk} (f:Frq M L Z):M.Perm ((L ++ []) ++ Z):=by rw [List.append_nil];exact f
end
end Go.Kn
namespace Go.Proofs.YtokjfhfiodopdaaGreat
open Go.Kn Go.Num Tryz
attribute [local irreducible] Go.Kn.W WL PL OpQ OpR OpS
theorem yB (va:Value) (n k:Nat) (hk:k≤1000000) (w:World) (hva:Sl w va (dl n)) :
    Calls prog 85 [va,.int .i64 (k:Int)].toArray w (fun e w'=>e = .returned (.int .i64 ((n / 2 ^ k % 2:Nat):Int))∧Ext w w'):=by
 refine cQ (N:=13) func85 rfl rfl (by simp) ?_;obtain ⟨w0,rfl⟩:∃ w0,w0=w:=⟨_,rfl⟩;simp only [bK,Nat.reduceAdd];refine go6 ?_;refine sQ (aS (rS rfl rfl dd_) (congrArg (Value.int .i64) (shq 16 dd_ oo_))) rfl (sQ (aS (bE aJ rfl (fun w hw=>fR va (dl n) (k / 16) w (SL.sl (M:=_) hva.old hw))) (congrArg (fun z:Nat=>Value.int .i64 (z:Int)) (zH n (k / 16)))) rfl (go_ ?_));refine sQ (aS (rT rfl rfl dd_) (congrArg (Value.int .i64) (shr 16 k))) rfl (sQ (tJ rfl rfl (Int.natCast_nonneg _)) rfl (sQ (aS (rT rfl rfl dd_) (congrArg (Value.int .i64) (aF_ n k))) rfl (go3 ?_)));refine bG rfl (.inr rfl) rfl ?_;exact rfl
theorem n9 (a:R) (ha:a.Ok) :
    Ret prog 38 [RV a] (.int .i64 ((a.dec.bits:Nat):Int)):=by
 refine bT (N:=25) func38 rfl rfl (by simp) (fun w0=>?_);simp only [bK,Nat.reduceAdd];refine go_ ?_;refine bC rfl (jN rfl rfl (fun b1 hb1=>go4 ?_));refine sQ (cJ tyT rfl mm_ (cX ha)) rfl ?_;refine sQ (bM aJ (bN a ha) rfl) rfl (go2 ?_);refine aQ _ rfl (fun hg=>?_) (fun hg=>?_)
 ·replace hg:=cB_ hg
  refine go4 ?_;refine bG rfl (.inr rfl) rfl ?_;exact congrArg (fun z:Nat=>Value.int .i64 (z:Int)) (WI (by simpa using hg)).symm
 replace hg:=cB_ hg
 refine go2 ?_;refine sQ (cJ tyT rfl mm_ (cX ha)) rfl ?_;refine bC rfl (fB aJ rfl (fun w hw=>bL a ha w) (fun v L hv=>go3 ?_));have hl32:(dl (val a.w)).length≤32:=gW (by rw [← GJ];have:=vP a.w ha.lim;rwa [ha.len] at this);refine go_ ?_;refine sQ (lR jV rfl (SL.sub hv.sl lZ)) rfl (sQ (aS (S7 rfl rfl) (congrArg (Value.int .i64) (eY_ (Nat.le_trans hl32 dd_)))) rfl (go4 ?_));refine cF [4,13,14,15,16,17,18,19,20,21,22,23] (fun g nn M=>∃ (k:Nat),(g 4 = .int .i64 (k:Int))∧M=L ++ [⟨b1,27,a.cells⟩]∧nn=k+0∧(k≤16 * (dl (val a.w)).length∧val a.w<2 ^ k)) (16 * (dl (val a.w)).length) ?start ?round
 case start =>
  refine ⟨_,(List.Sublist.refl _),16 * (dl (val a.w)).length,?a4,?mem0,rfl,⟨Nat.le_refl _,PV _⟩⟩
  case mem0=>rfl
  case a4=>rfl
 case round =>
  rintro nn g M ⟨k,hg4,rfl,hmeas,⟨hk,hlt⟩⟩;subst nn;simp only [eH,hg4];clear hg4;refine go5 ?_
  cases hz:decide ((0:Int)<(k:Int))
  ·refine QA ?_;refine bG rfl (.inr rfl) rfl ?_;exact congrArg (fun z:Nat=>Value.int .i64 (z:Int)) (aG_ ha (by simpa using hg) hlt (by have:=of_decide_eq_false hz;omega)).symm
  have hz':=of_decide_eq_true hz;obtain ⟨m,rfl⟩:∃ m,k=m+1:=⟨k - 1,by omega⟩;refine go2 ?_;refine sQ (aS (nF rfl rfl) (congrArg (Value.int .i64) (wC oo_))) rfl (sQ (bE aJ rfl (fun w hw=>yB v (val a.w) m oo_ w (SL.sl (SL.sub hv.sl lZ) hw))) rfl (go3 ?_));refine aQ _ rfl (fun h0=>?_) (fun h0=>?_)
  ·replace h0:=cB_ h0
   refine go4 ?_;refine sQ (aS (nF rfl rfl) (congrArg (Value.int .i64) (wC oo_))) rfl (go2 ?_);refine ⟨pp_,_,_,(List.Sublist.refl _),oo_,m,?s4,?mem,rfl,⟨by omega,UA hlt oo_⟩⟩
   case mem=>rfl
   case s4=>rfl
  replace h0:=cB_ h0
  refine go6 ?_;refine bG rfl (.inr rfl) rfl ?_;exact congrArg (fun z:Nat=>Value.int .i64 (z:Int)) ((IA ha (by simpa using hg)).trans (aH_ hlt oo_)).symm
end Go.Proofs.YtokjfhfiodopdaaGreat
