/- Lemmas: what they ask stands in their statements. -/
import Derived.Test.YtcjoflcajgaifaaGreatDoorOYg
import Derived.Maps.RangeRun
import Derived.DeepKeys5
import Derived.Maps.Keyed
set_option linter.unusedSimpArgs false
set_option linter.unusedVariables false
set_option maxHeartbeats 8000000
set_option maxRecDepth 20000
namespace Go.Proofs.YtcjoflcajgaifaaGreatDoor
open Go.Kn Go.Num Tryz
attribute [local irreducible] Go.Kn.W WL PL OpQ OpR OpS
theorem zB (w0:World) (b_c b_ok b_out b_h:Nat) (hb_ok:w0.heap.size≤b_ok) (hb_out:w0.heap.size≤b_out) (p_c:Option Addr) (c_c:Nat) (c:(List (List I))) (hal:AL c) (n:Nat):∀ (R:List Blk) (a:Rt) (b:Rt) (k:Nat) (ok:Bool) (p_out:Option Addr) (c_out:Nat) (out:List Iv) (L0_out:List Blk),
    SLe2 w0 [] R elLL (.slice p_c c.length c_c) c→OwnG w0 47 HT (.slice p_out out.length c_out) out L0_out→k≤600→600<k+n→((aL c n a b k ok out).2.length≤5000)→∀ w,Sat w0 [] (⟨b_ok,4,aV [cb ok]⟩::(⟨b_out,41,aV [csl p_out out.length c_out]⟩::(L0_out++(⟨b_c,92,aV [csl p_c c.length c_c]⟩::(⟨b_h,96,aV [cfn 54 [.pointer (some ⟨b_c,0,none⟩),.pointer (some ⟨b_ok,0,none⟩),.pointer (some ⟨b_out,0,none⟩),.pointer (some ⟨b_h,0,none⟩)]]⟩::(R)))))) w →
    Calls prog 54 [AV [pI a.n,pI a.d],AV [pI b.n,pI b.d],.int .i64 (k:Int),.pointer (some ⟨b_c,0,none⟩),.pointer (some ⟨b_ok,0,none⟩),.pointer (some ⟨b_out,0,none⟩),.pointer (some ⟨b_h,0,none⟩)].toArray w (fun e w'=>∃ v M',e = .returned v∧Sat w0 [] M' w'∧KeepsOthers w w'∧(v = .tuple #[]∧∃ (p':Option Addr) (c':Nat) (L':List Blk),OwnG w0 47 HT (.slice p' (aL c n a b k ok out).2.length c') (aL c n a b k ok out).2 L'∧M'=⟨b_ok,4,aV [cb ((aL c n a b k ok out).1)]⟩::(⟨b_out,41,aV [csl p' (aL c n a b k ok out).2.length c']⟩::(L'++(⟨b_c,92,aV [csl p_c c.length c_c]⟩::(⟨b_h,96,aV [cfn 54 [.pointer (some ⟨b_c,0,none⟩),.pointer (some ⟨b_ok,0,none⟩),.pointer (some ⟨b_out,0,none⟩),.pointer (some ⟨b_h,0,none⟩)]]⟩::(R))))))):=by
 induction n with
 | zero=>intro R a b k ok p_out c_out out L0_out H_c H_out hd1 hd2 hx0_;omega
 | succ n ih =>
 intro R a b k ok p_out c_out out L0_out H_c H_out hd1 hd2 hx0_ w hw;obtain ⟨R1,rfl⟩:∃ R1,R=R1++[]:=⟨R,by simp⟩;rw [List.append_nil] at H_c;have hm_out:=H_out.max;refine NK (n:=69) func54 O O zz_ hw ?_;refine giI ?_;refine go2 ?_;intro b1 hb1;refine go_ ?_;intro b2 hb2;refine go2 ?_;have hb0:=A8 c (n+1) a b k ok out;refine go3 ?_;refine sFc (.tuple #[.int .i64 (((aK c a b).1).1),.bool ((aK c a b).2)]) O (fun w hw=>rL _ c a b w (SLe2.ap hw (SLe2.sub H_c (sd (sd (sd (sd (sR (sd (sd lZ))))))))) U6) O O (go7 ?_);refine kF (rg [] 20 20) (fun g M=>(True)∧M=(⟨b2,33,aV [pI b.n,pI b.d]⟩::(⟨b1,33,aV [pI a.n,pI a.d]⟩::(⟨b_ok,4,aV [cb (ok&&((aK c a b).2&&(decide ((k:Int)<600)&&(!a.n.1.bad&&(!b.n.1.bad)))))]⟩::(⟨b_out,41,aV [csl p_out out.length c_out]⟩::(L0_out++(⟨b_c,92,aV [csl p_c c.length c_c]⟩::(⟨b_h,96,aV [cfn 54 [.pointer (some ⟨b_c,0,none⟩),.pointer (some ⟨b_ok,0,none⟩),.pointer (some ⟨b_out,0,none⟩),.pointer (some ⟨b_h,0,none⟩)]]⟩::(R1++[]))))))))) (fun K2 J2=>?_) ?_
 ·refine go2 ?_;refine sBB O (fun h7=>?_) (fun h7=>?_)
  ·refine go2 ?_;refine sBB O (fun h8=>?_) (fun h8=>?_)
   ·refine go3 ?_;refine sBB O (fun h9=>?_) (fun h9=>?_)
    ·have ph9:=of_decide_eq_true h9;refine go5 ?_;rcases bt a.n.1.bad with h10|h10
     ·refine sB (kC h10) O (go7 ?_);refine J2 _ _ pp_ ⟨_,s0,trivial,(show ((⟨b2,33,aV [pI b.n,pI b.d]⟩::(⟨b1,33,aV [pI a.n,pI a.d]⟩::(⟨b_ok,4,aV [cb false]⟩::(⟨b_out,41,aV [csl p_out out.length c_out]⟩::(L0_out++(⟨b_c,92,aV [csl p_c c.length c_c]⟩::(⟨b_h,96,aV [cfn 54 [.pointer (some ⟨b_c,0,none⟩),.pointer (some ⟨b_ok,0,none⟩),.pointer (some ⟨b_out,0,none⟩),.pointer (some ⟨b_h,0,none⟩)]]⟩::(R1++[])))))))):List Blk)=(⟨b2,33,aV [pI b.n,pI b.d]⟩::(⟨b1,33,aV [pI a.n,pI a.d]⟩::(⟨b_ok,4,aV [cb (ok&&((aK c a b).2&&(decide ((k:Int)<600)&&(!a.n.1.bad&&(!b.n.1.bad)))))]⟩::(⟨b_out,41,aV [csl p_out out.length c_out]⟩::(L0_out++(⟨b_c,92,aV [csl p_c c.length c_c]⟩::(⟨b_h,96,aV [cfn 54 [.pointer (some ⟨b_c,0,none⟩),.pointer (some ⟨b_ok,0,none⟩),.pointer (some ⟨b_out,0,none⟩),.pointer (some ⟨b_h,0,none⟩)]]⟩::(R1++[])))))))) by first|done|rfl|simp [h7,h8,h9,h10]|(simp [h7,h8,h9,h10];rfl))⟩
     refine sB (j8 h10) O (go7 ?_);refine J2 _ _ pp_ ⟨_,s0,trivial,(show ((⟨b2,33,aV [pI b.n,pI b.d]⟩::(⟨b1,33,aV [pI a.n,pI a.d]⟩::(⟨b_ok,4,aV [cb (!b.n.1.bad)]⟩::(⟨b_out,41,aV [csl p_out out.length c_out]⟩::(L0_out++(⟨b_c,92,aV [csl p_c c.length c_c]⟩::(⟨b_h,96,aV [cfn 54 [.pointer (some ⟨b_c,0,none⟩),.pointer (some ⟨b_ok,0,none⟩),.pointer (some ⟨b_out,0,none⟩),.pointer (some ⟨b_h,0,none⟩)]]⟩::(R1++[])))))))):List Blk)=(⟨b2,33,aV [pI b.n,pI b.d]⟩::(⟨b1,33,aV [pI a.n,pI a.d]⟩::(⟨b_ok,4,aV [cb (ok&&((aK c a b).2&&(decide ((k:Int)<600)&&(!a.n.1.bad&&(!b.n.1.bad)))))]⟩::(⟨b_out,41,aV [csl p_out out.length c_out]⟩::(L0_out++(⟨b_c,92,aV [csl p_c c.length c_c]⟩::(⟨b_h,96,aV [cfn 54 [.pointer (some ⟨b_c,0,none⟩),.pointer (some ⟨b_ok,0,none⟩),.pointer (some ⟨b_out,0,none⟩),.pointer (some ⟨b_h,0,none⟩)]]⟩::(R1++[])))))))) by first|done|rfl|simp [h7,h8,h9,h10]|(simp [h7,h8,h9,h10];rfl))⟩
    have ph9:=of_decide_eq_false h9;refine U1 ?_;refine J2 _ _ pp_ ⟨_,s0,trivial,(show ((⟨b2,33,aV [pI b.n,pI b.d]⟩::(⟨b1,33,aV [pI a.n,pI a.d]⟩::(⟨b_ok,4,aV [cb false]⟩::(⟨b_out,41,aV [csl p_out out.length c_out]⟩::(L0_out++(⟨b_c,92,aV [csl p_c c.length c_c]⟩::(⟨b_h,96,aV [cfn 54 [.pointer (some ⟨b_c,0,none⟩),.pointer (some ⟨b_ok,0,none⟩),.pointer (some ⟨b_out,0,none⟩),.pointer (some ⟨b_h,0,none⟩)]]⟩::(R1++[])))))))):List Blk)=(⟨b2,33,aV [pI b.n,pI b.d]⟩::(⟨b1,33,aV [pI a.n,pI a.d]⟩::(⟨b_ok,4,aV [cb (ok&&((aK c a b).2&&(decide ((k:Int)<600)&&(!a.n.1.bad&&(!b.n.1.bad)))))]⟩::(⟨b_out,41,aV [csl p_out out.length c_out]⟩::(L0_out++(⟨b_c,92,aV [csl p_c c.length c_c]⟩::(⟨b_h,96,aV [cfn 54 [.pointer (some ⟨b_c,0,none⟩),.pointer (some ⟨b_ok,0,none⟩),.pointer (some ⟨b_out,0,none⟩),.pointer (some ⟨b_h,0,none⟩)]]⟩::(R1++[])))))))) by first|done|rfl|simp [h7,h8,h9]|(simp [h7,h8,h9];rfl))⟩
   refine dT_ ?_;refine J2 _ _ pp_ ⟨_,s0,trivial,(show ((⟨b2,33,aV [pI b.n,pI b.d]⟩::(⟨b1,33,aV [pI a.n,pI a.d]⟩::(⟨b_ok,4,aV [cb false]⟩::(⟨b_out,41,aV [csl p_out out.length c_out]⟩::(L0_out++(⟨b_c,92,aV [csl p_c c.length c_c]⟩::(⟨b_h,96,aV [cfn 54 [.pointer (some ⟨b_c,0,none⟩),.pointer (some ⟨b_ok,0,none⟩),.pointer (some ⟨b_out,0,none⟩),.pointer (some ⟨b_h,0,none⟩)]]⟩::(R1++[])))))))):List Blk)=(⟨b2,33,aV [pI b.n,pI b.d]⟩::(⟨b1,33,aV [pI a.n,pI a.d]⟩::(⟨b_ok,4,aV [cb (ok&&((aK c a b).2&&(decide ((k:Int)<600)&&(!a.n.1.bad&&(!b.n.1.bad)))))]⟩::(⟨b_out,41,aV [csl p_out out.length c_out]⟩::(L0_out++(⟨b_c,92,aV [csl p_c c.length c_c]⟩::(⟨b_h,96,aV [cfn 54 [.pointer (some ⟨b_c,0,none⟩),.pointer (some ⟨b_ok,0,none⟩),.pointer (some ⟨b_out,0,none⟩),.pointer (some ⟨b_h,0,none⟩)]]⟩::(R1++[])))))))) by first|done|rfl|simp [h7,h8]|(simp [h7,h8];rfl))⟩
  refine OA ?_;refine J2 _ _ pp_ ⟨_,s0,trivial,(show ((⟨b2,33,aV [pI b.n,pI b.d]⟩::(⟨b1,33,aV [pI a.n,pI a.d]⟩::(⟨b_ok,4,aV [cb false]⟩::(⟨b_out,41,aV [csl p_out out.length c_out]⟩::(L0_out++(⟨b_c,92,aV [csl p_c c.length c_c]⟩::(⟨b_h,96,aV [cfn 54 [.pointer (some ⟨b_c,0,none⟩),.pointer (some ⟨b_ok,0,none⟩),.pointer (some ⟨b_out,0,none⟩),.pointer (some ⟨b_h,0,none⟩)]]⟩::(R1++[])))))))):List Blk)=(⟨b2,33,aV [pI b.n,pI b.d]⟩::(⟨b1,33,aV [pI a.n,pI a.d]⟩::(⟨b_ok,4,aV [cb (ok&&((aK c a b).2&&(decide ((k:Int)<600)&&(!a.n.1.bad&&(!b.n.1.bad)))))]⟩::(⟨b_out,41,aV [csl p_out out.length c_out]⟩::(L0_out++(⟨b_c,92,aV [csl p_c c.length c_c]⟩::(⟨b_h,96,aV [cfn 54 [.pointer (some ⟨b_c,0,none⟩),.pointer (some ⟨b_ok,0,none⟩),.pointer (some ⟨b_out,0,none⟩),.pointer (some ⟨b_h,0,none⟩)]]⟩::(R1++[])))))))) by first|done|rfl|simp [h7]|(simp [h7];rfl))⟩
 rintro g11 M ⟨-,rfl⟩;refine gS0 ?_;refine gJv [40,41,42,43,44,45] [(45,.bool (!(ok&&((aK c a b).2&&(decide ((k:Int)<600)&&(!a.n.1.bad&&(!b.n.1.bad)))))||(((aK c a b).1).1==0)))] (fun K3 J3=>?_) ?_
 ·refine go3 ?_;rcases bt (ok&&((aK c a b).2&&(decide ((k:Int)<600)&&(!a.n.1.bad&&(!b.n.1.bad))))) with h14|h14
  ·have ph15:=of_decide_eq_true (Bool.and_eq_true_iff.1 (Bool.and_eq_true_iff.1 (Bool.and_eq_true_iff.1 h14).2).2).1;refine sB (kC h14) O (go4 ?_);refine J3 _ _ pp_ s0 (dG (uX h14 O))
  refine sB (j8 h14) O (go4 ?_);refine J3 _ _ pp_ s0 (dG (xK h14))
 intro g16;refine aT _ O (fun h17=>?_) (fun h17=>?_)
 ·refine go_ ?_;refine zA O (.inr O) ?_
  have hE:(((ok&&((aK c a b).2&&(decide ((k:Int)<600)&&(!a.n.1.bad&&(!b.n.1.bad))))),out):Bool×List Iv)=(aL c (n+1) a b k ok out):=by exact bS h17 O
  rw [← hE];exact ⟨_,_,(Frq.pc (eA (eA lM)) (Frq.pc (eA (eA lM)) (Frq.po (eA (eA lT)) (Frq.pc (eA (eA lM)) (Frq.pc (eA (eA lM)) (Frq.pz (eA (eA lT)))))))),rfl,_,_,_,H_out,rfl⟩
 have ph18:=of_decide_eq_true (Bool.and_eq_true_iff.1 (Bool.and_eq_true_iff.1 (Bool.and_eq_true_iff.1 (MY (Bool.or_eq_false_iff.1 h17).1)).2).2).1;refine go6 ?_;refine aT _ O (fun h19=>?_) (fun h19=>?_)
 ·refine go5 ?_;refine aQ O (bZ [[pI a.n,pI a.d,pI b.n,pI b.d]] [pI a.n,pI a.d,pI b.n,pI b.d] c9_ g3_ fV_ O dd_ O O ⟨rfl,rfl,rfl,trivial⟩ O (fun b20 hb20=>aQ O (dJ (e:=HT) (l:=out) (m:=[(⟨a,b⟩:Iv)]) 272 c9_ (by kernel_rfl) dd_ O O H_out (SLe.lit (e:=HT) (l:=[(⟨a,b⟩:Iv)]) m0 O (Nat.le_of_ble_eq_true O) O) (eA (eA (eA (eA (eA lT))))) (by show (out.length+1)*272≤_;omega) dd_ (fun p21 c22 L23 hO24=>go3 ?_))));refine zA O (.inr O) ?_
  have hE:(((ok&&((aK c a b).2&&(decide ((k:Int)<600)&&(!a.n.1.bad&&(!b.n.1.bad))))),(out++[(⟨a,b⟩:Iv)])):Bool×List Iv)=(aL c (n+1) a b k ok out):=by exact bH h17 (bS h19 O)
  rw [← hE];exact ⟨_,_,(Frq.pc (FN (eA (eA (eA lM)))) (Frq.pc (FN (eA (eA (eA lM)))) (Frq.po lT (Frq.pc (eA (eA (eA lM))) (Frq.pc (eA (eA (eA lM))) (Frq.pz (eA (eA (eA lT))))))))),rfl,_,_,_,hO24,rfl⟩
 refine go4 ?_;refine sQ (aW aH (zJ a b) O) O (go_ ?_);intro b25 hb25;refine go7 ?_;refine sWi (((k+1):Nat):Int) O (aQ O (OpR.perm (Frq.pc (eA (eA (eA lM))) (Frq.pc (eA (eA (eA lM))) (Frq.pa (eA (eA (eA lT))) (Frq.pc (eA (eA (eA lM))) (Frq.pc (eA (eA (eA lM))) (Frq.pa (eA (eA (eA lT))) (List.Perm.refl _))))))) (ER aH O O (fun w hw=>by have hx:=ih _ a (bB a b) (k+1) (ok&&((aK c a b).2&&(decide ((k:Int)<600)&&(!a.n.1.bad&&(!b.n.1.bad))))) p_out c_out out L0_out (SLe2.sub H_c lZ) H_out oo_ oo_ (by have hst:((aL c n (bB a b) b (k+1) (aL c n a (bB a b) (k+1) (ok&&((aK c a b).2&&(decide ((k:Int)<600)&&(!a.n.1.bad&&(!b.n.1.bad))))) out).1 (aL c n a (bB a b) (k+1) (ok&&((aK c a b).2&&(decide ((k:Int)<600)&&(!a.n.1.bad&&(!b.n.1.bad))))) out).2).1,(aL c n (bB a b) b (k+1) (aL c n a (bB a b) (k+1) (ok&&((aK c a b).2&&(decide ((k:Int)<600)&&(!a.n.1.bad&&(!b.n.1.bad))))) out).1 (aL c n a (bB a b) (k+1) (ok&&((aK c a b).2&&(decide ((k:Int)<600)&&(!a.n.1.bad&&(!b.n.1.bad))))) out).2).2)=(aL c (n+1) a b k ok out):=(by exact bH h17 (bH h19 O));have h2:=A8 c n (bB a b) b (k+1) (aL c n a (bB a b) (k+1) (ok&&((aK c a b).2&&(decide ((k:Int)<600)&&(!a.n.1.bad&&(!b.n.1.bad))))) out).1 (aL c n a (bB a b) (k+1) (ok&&((aK c a b).2&&(decide ((k:Int)<600)&&(!a.n.1.bad&&(!b.n.1.bad))))) out).2;rw [← hst] at hx0_;exact Nat.le_trans h2 hx0_) w hw;exact hx) (fun r M' hback=>?_))));obtain ⟨rfl,p26,c27,L28,hF29,rfl⟩:=hback;refine go6 ?_;refine sWi (((k+1):Nat):Int) O (aQ O (OpR.perm (Frq.pc lM (Frq.pc lM (Frq.pa lT (Frq.pc lM (Frq.pc lM (Frq.pa lT (List.Perm.refl _))))))) (ER aH O O (fun w hw=>by have hx:=ih _ (bB a b) b (k+1) ((aL c n a (bB a b) (k+1) (ok&&((aK c a b).2&&(decide ((k:Int)<600)&&(!a.n.1.bad&&(!b.n.1.bad))))) out).1) p26 c27 ((aL c n a (bB a b) (k+1) (ok&&((aK c a b).2&&(decide ((k:Int)<600)&&(!a.n.1.bad&&(!b.n.1.bad))))) out).2) L28 (SLe2.sub H_c lZ) hF29 oo_ oo_ (by have hst:((aL c n (bB a b) b (k+1) ((aL c n a (bB a b) (k+1) (ok&&((aK c a b).2&&(decide ((k:Int)<600)&&(!a.n.1.bad&&(!b.n.1.bad))))) out).1) ((aL c n a (bB a b) (k+1) (ok&&((aK c a b).2&&(decide ((k:Int)<600)&&(!a.n.1.bad&&(!b.n.1.bad))))) out).2)).1,(aL c n (bB a b) b (k+1) ((aL c n a (bB a b) (k+1) (ok&&((aK c a b).2&&(decide ((k:Int)<600)&&(!a.n.1.bad&&(!b.n.1.bad))))) out).1) ((aL c n a (bB a b) (k+1) (ok&&((aK c a b).2&&(decide ((k:Int)<600)&&(!a.n.1.bad&&(!b.n.1.bad))))) out).2)).2)=(aL c (n+1) a b k ok out):=(by exact bH h17 (bH h19 O));rw [← hst] at hx0_;exact hx0_) w hw;exact hx) (fun r M' hback=>?_))));obtain ⟨rfl,p30,c31,L32,hF33,rfl⟩:=hback;refine go_ ?_;refine zA O (.inl O) ?_
 have hE:((((aL c n (bB a b) b (k+1) ((aL c n a (bB a b) (k+1) (ok&&((aK c a b).2&&(decide ((k:Int)<600)&&(!a.n.1.bad&&(!b.n.1.bad))))) out).1) ((aL c n a (bB a b) (k+1) (ok&&((aK c a b).2&&(decide ((k:Int)<600)&&(!a.n.1.bad&&(!b.n.1.bad))))) out).2)).1),(aL c n (bB a b) b (k+1) ((aL c n a (bB a b) (k+1) (ok&&((aK c a b).2&&(decide ((k:Int)<600)&&(!a.n.1.bad&&(!b.n.1.bad))))) out).1) ((aL c n a (bB a b) (k+1) (ok&&((aK c a b).2&&(decide ((k:Int)<600)&&(!a.n.1.bad&&(!b.n.1.bad))))) out).2)).2):Bool×List Iv)=(aL c (n+1) a b k ok out):=by exact bH h17 (bH h19 O)
 rw [← hE];exact ⟨_,_,(Frq.pc lM (Frq.pc lM (Frq.po lT (Frq.pc lM (Frq.pc lM (Frq.pz lT)))))),rfl,_,_,_,hF33,rfl⟩
theorem BJ (vp:Value) (p:(List I)) (a:Rt) (b:Rt) (w:World) (hp:Slr w elI vp p) (hpre:Rgt p∧p.length≤100) :
    Calls prog 13 [vp,AV [pI a.n,pI a.d],AV [pI b.n,pI b.d]].toArray w (fun e w'=>∃ v,e = .returned (.tuple #[v,.int .i64 (((bO p a b).2).1)])∧Ext w w'∧Slo w.heap.size w' 47 HT v (bO p a b).1):=by
 obtain ⟨p_p,c_p,rfl⟩:=hp.form;refine e9 (n:=39) (fun v=>.tuple #[v,.int .i64 (((bO p a b).2).1)]) func13 O O zz_ ?_;obtain ⟨w0,rfl⟩:=nm w;have Hp:=hp.old;have hm_p:=hp.max;refine giI ?_;refine go2 ?_;intro b1 hb1;refine go_ ?_;intro b2 hb2;refine go4 ?_;refine gJv (rg [] 12 13) [(24,.bool ((aS p)||(((p.length:Int)==0)||(!(kN a b)))))] (fun K2 J2=>?_) ?_
 ·refine go2 ?_;refine sFc (.bool (aS p)) O (c1_ (eZ _ p) Hp sn) O O ?_;refine sBB O (fun h5=>?_) (fun h5=>?_)
  ·refine zX ?_;refine J2 _ _ pp_ s0 (dG (pJ h5))
  refine go_ ?_;refine sQ (bX fB O (SLe.sub Hp sn)) O (go2 ?_);refine sBB O (fun h6=>?_) (fun h6=>?_)
  ·have ph6:=B4 h6;refine go6 ?_;refine J2 _ _ pp_ s0 (dG (l5 h5 (pJ h6)))
  have ph6:=o6 h6;refine go2 ?_;refine sQ (aW aH (xX a b) O) O (go3 ?_);refine J2 _ _ pp_ s0 (dG (l5 h5 (l5 h6 O)))
 intro g7;refine aT _ O (fun h8=>?_) (fun h8=>?_)
 ·refine go5 ?_;refine rt2 ?_
  have hE:((([]:List Iv),(wl 1)):(List Iv)×W)=(bO p a b):=by exact bS h8 O
  rw [← hE];exact ⟨_,rfl,⟨[],sn,OwnG.nil⟩⟩
 have ph9:=o6 (Bool.or_eq_false_iff.1 (Bool.or_eq_false_iff.1 h8).2).1;refine go3 ?_;refine aQ O (EQ (D:=elLL) (l:=(aI p).1) (fun v=>.tuple #[v,.bool ((aI p).2)]) aH O (fun w hw=>rM _ p w (aR hw Hp sn) HV) (fun p10 c11 L12 hF13=>?_));have hb14:=(pM p);refine go4 ?_;intro b15 hb15;refine go_ ?_;intro b16 hb16;refine go5 ?_;intro b17 hb17;refine go2 ?_;refine aQ O (bI (qs:=[dD_]) zpT (fun b18 hb18=>?_));refine go2 ?_;refine sQ (nZ O O) O (sS [cfn 54 [.pointer (some ⟨b15,0,none⟩),.pointer (some ⟨b16,0,none⟩),.pointer (some ⟨b17,0,none⟩),.pointer (some ⟨b18,0,none⟩)]] tyT O O O O O uH O hb18 (go5 ?_));refine aT _ O (fun h19=>?_) (fun h19=>?_)
 ·refine go4 ?_;refine aQ O (OpR.perm (Frq.pc (eA (eA lM)) (Frq.pc (eA lM) (Frq.pa fl_ (Frq.pc (eA lM) (Frq.pc lM (List.Perm.refl _)))))) (ER aH O O (fun w hw=>by have hx:=zB w0 _ _ _ _ hb16 hb17 _ _ ((aI p).1) (by with_reducible assumption) 601 _ a b 0 ((aI p).2) none 0 ([]:List Iv) [] (SLf2.sle (SLf2.sub hF13 lZ)) (OwnG.nil) oo_ oo_ (H2 p _ _ hpre h19) w hw;exact hx) (fun r M' hback=>?_)));obtain ⟨rfl,p20,c21,L22,hF23,rfl⟩:=hback;refine go_ ?_;refine fQ (sk (sk (sA (sd (sd (sR (sd (sd s0)))))))) ?_;refine go5 ?_;rcases bt ((aL ((aI p).1) 601 a b 0 ((aI p).2) ([]:List Iv)).1) with h24|h24
  ·refine W_f (kC h24) O (go7 ?_);refine rt2 ?_
   have hE:(((aL ((aI p).1) 601 a b 0 ((aI p).2) ([]:List Iv)).2,(wl 0)):(List Iv)×W)=(bO p a b):=by exact bH h8 (bS h19 (bS h24 O))
   rw [← hE];exact ⟨_,rfl,⟨L22,(sd (sd lZ)),hF23⟩⟩
  refine W_t (j8 h24) O (go5 ?_);refine rt2 ?_
  have hE:((([]:List Iv),(wl 30)):(List Iv)×W)=(bO p a b):=by exact bH h8 (bS h19 (bH h24 O))
  rw [← hE];exact ⟨_,rfl,⟨[],sn,OwnG.nil⟩⟩
 refine go_ ?_;refine fQ (sd (sk (sk (sd (sR (sd (sd s0))))))) ?_;refine go5 ?_;refine W_t (j8 h19) O (go5 ?_);refine rt2 ?_
 have hE:((([]:List Iv),(wl 30)):(List Iv)×W)=(bO p a b):=by exact bH h8 (bH h19 O)
 rw [← hE];exact ⟨_,rfl,⟨[],sn,OwnG.nil⟩⟩
end Go.Proofs.YtcjoflcajgaifaaGreatDoor
namespace Go.Kn
open Go.RowKit
section
variable {P:Program} {w0:World} {X:List Nat} {N:Nm} {S:Fr} {M:List Blk}
theorem wC {ops:List Oper} {R:Exit→Act→World→Prop} {Q':Fr→List Blk→Prop} {B:Nat} {ws:World} (hR:∀ S M D w,KO N.m ws w→DG B D w→RecAt N.m S w→Sat w0 X M w→Q' S M→R .normal (kJ D N S) w):∀ (l:List Oper) (k:Nat) (S:Fr) (M:List Blk) (D:List Deferred) (w:World),
  (∀ j,l[j]? = ops[k+j]?)→KO N.m ws w→DG B D w→RecAt N.m S w→Sat w0 X M w→WL P w0 X N ops Q' l S M →
   wpOpsIn (rI N.ro) 0 P ops.toArray R (List.range' k l.length) (kJ D N S) w
 | [],_,S,M,D,w,_,hk,hd,hr,hw,h=>hR S M D w hk hd hr hw h
 | o::l,k,S,M,D,w,hl,hk,hd,hr,hw,h=>by
  have h0:ops.toArray[k]? = some o:=by simpa using (hl 0).symm
  have hl':∀ j,l[j]? = ops[k+1+j]?:=fun j=>by have:=hl (j+1);simpa [Nat.add_assoc,Nat.add_comm 1 j] using this
  rw [List.length_cons,List.range'_succ,wpOpsIn_cons];unfold wpOpIn;rw [h0];simp only [WL] at h;obtain ⟨hok,h⟩:=h;simp only [nU]
  split
  ·rename_i hwt
   rw [if_pos hwt] at h;have h2:=h w hr hw;rw [VG D] at h2;refine vC ?_ h2;rintro v w' ⟨hk',S',M',ha,hr',hs,hx⟩;rw [← ha D,m7];exact wC hR l (k+1) _ M' D w' hl' (hk.trans hk') (DG.ko hr hk' hd) (hr'.put hok) hs hx
  rename_i hwt
  rw [if_neg hwt] at h;rw [m7];exact ⟨fun _ _=>trivial,wC hR l (k+1) _ M D w hl' hk hd (hr.put hok) hw h⟩
def Sw (P:Program) (w0:World) (X:List Nat) (N:Nm) (ops:List Oper) (o:Oper) (l:List Oper) (c:Code) (Q:kI) (S:Fr) (M:List Blk):Prop :=
 ∀ w,RecAt N.m S w→Sat w0 X M w→opw P o (act N S) w fun v w'=>∃ N' S' M',N'.n=N.n∧N'.ro=N.ro∧(∀ D,kJ D N S'=kJ D N S)∧Sat w0 X M' w'∧KO N.m w w'∧RecAt N'.m S' w' ∧
  (∀ k,k<w.heap.size→N'.m.mine k→N.m.mine k)∧(∀ S2 w2,RecAt N'.m S2 w2→RecAt N.m S2 w2)∧WL P w0 X N' ops (Nx P w0 X N' c Q) l (lN S' o.dst v) M'
theorem HB {ops:List Oper} {o:Oper} {l:List Oper} {c:Code} {Q:kI} {B k:Nat} {ws w:World} {D:List Deferred} (hl:∀ j,(o::l)[j]? = ops[k+j]?) (hok:okD o.dst=true) (hwt:Region.wanted o (yld N ops S)=true)
  (hB:B≤ws.heap.size) (hk0:KO N.m ws w) (hd:DG B D w) (hr:RecAt N.m S w) (hw:Sat w0 X M w) (h:Sw P w0 X N ops o l c Q S M) :
  wpOpsIn (rI N.ro) 0 P ops.toArray (Exit.then (c.wpIn (rI N.ro) 0 P (lift w0 X N B ws Q)) (lift w0 X N B ws Q)) (List.range' k (l.length+1)) (kJ D N S) w:=by
 rw [List.range'_succ,wpOpsIn_cons];unfold wpOpIn
 have h0:ops.toArray[k]? = some o:=by simpa using (hl 0).symm
 rw [h0];simp only [nU];rw [if_pos hwt];have h2:=h w hr hw;rw [VG D] at h2;refine vC ?_ h2;rintro v w' ⟨N',S',M',hn,hro,ha,hs,hk,hr',hmine,hback,hx⟩
 have hN:∀ D S,kJ D N S=kJ D N' S:=fun D S=>by unfold kJ;rw [hn]
 rw [← ha D,m7,hN,← hro];have hd':=DG.ko hr hk hd;refine wC (B:=B) (ws:=w') (Q':=Nx P w0 X N' c Q) ?_ l (k+1) _ M' D w' (fun j=>by have:=hl (j+1);simpa [Nat.add_assoc,Nat.add_comm 1 j] using this) (.refl _ _) hd' (hr'.put hok) hs hx;intro S3 M3 D3 w3 hk3 hd3 hr3 hw3 q;have hkk:∀ w4,KO N'.m w' w4→KO N.m w w4:=fun w4 h4=>⟨Nat.le_trans hk.size h4.size,fun k ob hm ho hc=>h4.same k ob (fun hm'=>hm (hmine k (cL? ho) hm')) (hk.same k ob hm ho hc) hc⟩;have q3:=q.h B D3 w3 (Nat.le_trans hB (hk0.trans (hkk _ hk3)).size) hd3 hr3 hw3;refine wpIn_mono q3 ?_;rintro e a w4 ⟨D4,S4,M4,rfl,hs4,hk4,hd4,hr4,q4⟩;exact ⟨D4,S4,M4,(hN _ _).symm,hs4,hk0.trans (hkk _ (hk3.trans hk4)),hd4,hback _ _ hr4,q4⟩
theorem WN {id:Nat} {o:Oper} {l:List Oper} {c:Code} {Q:kI} (hok:okD o.dst=true) (hwt:Region.wanted o (yld N (o::l) S)=true) (h:Sw P w0 X N (o::l) o l c Q S M) :
  W P w0 X N (.seq (.region id (o::l).toArray false) c) Q S M:=by
 intro B D w hB hd hr hw;refine wpIn_seq (wpIn_region ?_);rw [List.range_eq_range',List.size_toArray,List.length_cons];exact HB (fun j=>by rw [Nat.zero_add]) hok hwt hB (.refl _ _) hd hr hw h
theorem UO {id:Nat} {o0 o:Oper} {l:List Oper} {c:Code} {Q:kI} {v0:Value} (hok0:okD o0.dst=true) (hwt0:Region.wanted o0 (yld N (o0::o::l) S)=true) (hq:OpQ P w0 X N o0 S M v0) (hok:okD o.dst=true)
  (hwt:Region.wanted o (yld N (o0::o::l) (lN S o0.dst v0))=true) (h:Sw P w0 X N (o0::o::l) o l c Q (lN S o0.dst v0) M) :
  W P w0 X N (.seq (.region id (o0::o::l).toArray false) c) Q S M:=by
 intro B D w hB hd hr hw;refine wpIn_seq (wpIn_region ?_);rw [List.range_eq_range',List.size_toArray,List.length_cons,List.range'_succ,wpOpsIn_cons];unfold wpOpIn
 have h0:(o0::o::l).toArray[0]? = some o0:=by simp
 rw [h0];simp only [nU];rw [if_pos hwt0];have h2:=hq w hw;rw [VG D] at h2;refine vC ?_ h2;rintro v w' ⟨rfl,he⟩;rw [m7,List.length_cons];exact HB (fun j=>by rw [Nat.zero_add,Nat.add_comm 1 j];rfl) hok hwt hB (KO.of he.keeps) (DG.ko hr (KO.of he.keeps) hd) ((hr.keeps he.keeps O).put hok0) (Sat.mono _ _ _ _ _ hw he) h
def mB:List Value→Nat→List MapEntry
 | [],_=>[]
 | v::l,i=>⟨v,.bool true,i⟩::mB l (i+1)
def uC (L:List Value):Obj:=.map (mB L 0).toArray L.length
def wK:Value→Nat
 | .int _ n=>n.toNat
 | _=>0
def uV (r:Nat) (L s:List Value):Obj:=.mapIter (some r) L.length (s.map wK).toArray L.length
def gM (L:List Value):Value:=.agg L.toArray
def gI (L s:List Value):Value:=.tuple #[.agg L.toArray,.agg s.toArray]
def hM:Value→List Obj
 | .agg a=>[uC a.toList]
 | .tuple t=>match t.toList with
  | [.agg a,.agg _]=>[uC a.toList]
  | _=>[]
 | _=>[]
def hI (r:Nat):Value→List Obj
 | .tuple t=>match t.toList with
  | [.agg a,.agg s]=>[uC a.toList,uV r a.toList s.toList]
  | _=>[]
 | _=>[]
theorem dW_ {r:Nat} {v:Value} (h:(hI r v).length=2):∃ L s,v=gI L s:=by
 unfold hI at h
 split at h
 ·rename_i t
  split at h
  ·rename_i a s ht
   exact ⟨a.toList,s.toList,by unfold gI;congr;apply Array.ext';simpa using ht⟩
  ·cases h
 ·cases h
theorem NW (v:Value):∀ (L:List Value) (i:Nat),mB (L++[v]) i=mB L i++[⟨v,.bool true,i+L.length⟩]
 | [],i=>rfl
 | x::l,i=>by
  show (⟨x,.bool true,i⟩:MapEntry)::mB (l++[v]) (i+1)=_
  rw [NW v l (i+1)];simp only [mB,List.cons_append,List.length_cons,Nat.add_assoc,Nat.add_comm 1]
theorem o9:∀ {L:List Value} {i:Nat} {e:MapEntry},e∈mB L i→∃ j,L[j]? = some e.key∧e.born=i+j∧e.val = .bool true
 | v::l,i,e,h=>by
  rcases List.mem_cons.1 h with rfl|h
  ·exact ⟨0,rfl,rfl,rfl⟩
  obtain ⟨j,h1,h2,h3⟩:=o9 h;exact ⟨j+1,h1,by omega,h3⟩
theorem NX {v:Value}:∀ {L:List Value},v∈L→∀ i,∃ e∈mB L i,e.key=v
 | x::l,h,i=>by
  rcases List.mem_cons.1 h with rfl|h
  ·exact ⟨_,List.mem_cons_self,rfl⟩
  obtain ⟨e,he,hk⟩:=NX h (i+1);exact ⟨e,List.mem_cons_of_mem _ he,hk⟩
theorem LA:∀ {L:List Value} {j:Nat},j<L.length→∀ i,∃ e∈mB L i,e.born=i+j
 | x::l,0,_,i=>⟨_,List.mem_cons_self,rfl⟩
 | x::l,j+1,h,i=>by
  obtain ⟨e,he,hb⟩:=LA (Nat.lt_of_succ_lt_succ h) (i+1);exact ⟨e,List.mem_cons_of_mem _ he,by omega⟩
theorem FJ:∀ (L:List Value) (i:Nat),((mB L i).map (·.born)).Nodup
 | [],_=>List.nodup_nil
 | v::l,i=>by
  simp only [mB,List.map_cons,List.nodup_cons];refine ⟨fun h=>?_,FJ l (i+1)⟩;obtain ⟨e,he,hb⟩:=List.mem_map.1 h;obtain ⟨j,_,h2,_⟩:=o9 he;omega
def vG:List Value→List Value→Bool
 | [],[]=>true
 | .int k a::l,.int k' b::m=>decide (k=k')&&decide (a=b)&&vG l m
 | _,_=>false
def zD:Value→Value→Bool
 | .agg a,.agg b=>vG a.toList b.toList
 | _,_=>false
theorem zS:∀ {l m:List Value},vG l m=true→l=m
 | [],[],_=>rfl
 | .int k a::l,.int k' b::m,h=>by
  simp only [vG,Bool.and_eq_true,decide_eq_true_eq] at h;obtain ⟨⟨rfl,rfl⟩,h⟩:=h;rw [zS h]
 | [],_::_,h=>by cases h
 | _::_,[],h=>by unfold vG at h;split at h<;>first|contradiction|cases h
 | .bool _::l,_::m,h=>by unfold vG at h;cases h
 | _::_,_::_,h=>by
  unfold vG at h
  split at h
  ·rename_i e1 e2;cases e1
  ·rename_i e1 e2;cases e1;cases e2
   simp only [Bool.and_eq_true,decide_eq_true_eq] at h;obtain ⟨⟨rfl,rfl⟩,h⟩:=h;rw [zS h]
  ·cases h
theorem WV {x y:Value} (h:zD x y=true):x=y:=by
 unfold zD at h
 split at h
 ·congr;exact Array.ext' (zS h)
 ·cases h
variable {r it:Nat} {L s:List Value} {T k e:TypeId} {x y z:Operand} {d:Option Tmp} {ty:TypeId} {ps:String} {af:Array Edge} {gd:Option (Nat×Bool)}
theorem YO {w:World} (hr:RecAt N.m S w) (hN:N.m = .held [r] hM) (hg:gv S=gM L):w.heap[r]? = some (uC L):=by
 have h:=hr.2;rw [hN,hg] at h;exact (h.2 (r,uC L) (by simp [gM,hM])).2
theorem YN {w:World} (hr:RecAt N.m S w) (hN:N.m = .held [r,it] (hI r)) (hg:gv S=gI L s):w.heap[r]? = some (uC L)∧w.heap[it]? = some (uV r L s):=by
 have h:=hr.2;rw [hN,hg] at h;exact ⟨(h.2 (r,uC L) (by simp [gI,hI])).2,(h.2 (it,uV r L s) (by simp [gI,hI])).2⟩
theorem fO_ {w:World} {n:Nat} (h:w.heap[r]? = some (uC L)) (hg:gv S=gM L):RecAt (.held [r] hM) S w :=
 ⟨fun _ _ e=>(by cases e),by rw [hg];exact ⟨rfl,fun p hp=>by
  have hp:p∈[(r,uC L)]:=by simpa [gM,hM] using hp
  rcases List.mem_cons.1 hp with rfl|hp
  ·exact ⟨rfl,h⟩
  ·cases hp⟩⟩
theorem fN_ {w:World} (h:w.heap[r]? = some (uC L)) (h2:w.heap[it]? = some (uV r L s)) (hg:gv S=gI L s):RecAt (.held [r,it] (hI r)) S w :=
 ⟨fun _ _ e=>(by cases e),by rw [hg];exact ⟨rfl,fun p hp=>by
  have hp:p∈[(r,uC L),(it,uV r L s)]:=by simpa [gI,hI] using hp
  rcases List.mem_cons.1 hp with rfl|hp
  ·exact ⟨rfl,h⟩
  rcases List.mem_cons.1 hp with rfl|hp
  ·exact ⟨rfl,h2⟩
  ·cases hp⟩⟩
theorem e9_ {S2:Fr} {w2:World} (h:RecAt (.held [r,it] (hI r)) S2 w2):RecAt (.held [r] hM) S2 w2:=by
 obtain ⟨L,s,e⟩:=dW_ h.2.1;have h1:=(YN (N:=⟨0,.held [r,it] (hI r)⟩) h O e).1;refine ⟨fun _ _ e=>(by cases e),?_⟩;rw [e]
 exact ⟨rfl,fun p hp=>by
  have hp:p∈[(r,uC L)]:=by simpa [gI,hM] using hp
  rcases List.mem_cons.1 hp with rfl|hp
  ·exact ⟨rfl,h1⟩
  ·cases hp⟩
theorem KH {n:Nat} {m:Mode} (hn:n≤1000000) (v:Value) (D:List Deferred):kJ D ⟨n,m⟩ ((1000000,v)::S)=kJ D ⟨n,m⟩ S:=by
 unfold kJ
 congr 2
 refine List.map_congr_left fun i hi=>?_;rw [oX,if_neg];have h1:i<n:=List.mem_range.1 hi;intro e;omega
theorem a0_ {n id:Nat} {l:List Oper} {c:Code} {Q:kI} {dd:Tmp} (hok:Nat.blt dd 1000000=true) (hwt:Region.wanted ⟨some dd,.makeMap T none,ty,ps,af,gd⟩ (yld (pl n) (⟨some dd,.makeMap T none,ty,ps,af,gd⟩::l) S)=true) (hn:Nat.ble n 1000000=true)
  (h:∀ r,w0.heap.size≤r→WL P w0 X ⟨n,.held [r] hM⟩ (⟨some dd,.makeMap T none,ty,ps,af,gd⟩::l) (Nx P w0 X ⟨n,.held [r] hM⟩ c Q) l ((dd,.map (some r))::(1000000,gM [])::S) M) :
  W P w0 X (pl n) (.seq (.region id (⟨some dd,.makeMap T none,ty,ps,af,gd⟩::l).toArray false) c) Q S M:=by
 refine WN hok hwt fun w hr hw=>?_;unfold opw
 have hrun:(execOp (act (pl n) S).eval ⟨some dd,.makeMap T none,ty,ps,af,gd⟩).run P w = .ok (.value (.map (some w.heap.size))) (w.alloc (.map #[] 0)):=by
  simp only [execOp,Sem.run_bind,Option.map_none,run_makeMap,Result.andThen_ok];rfl
 rw [hrun];have hext:Ext w (w.alloc (.map #[] 0)):=(Below.refl _ _).alloc (Nat.le_refl _) _;refine ⟨⟨n,.held [w.heap.size] hM⟩,(1000000,gM [])::S,M,rfl,rfl,fun D=>KH (m:=.plain) (Nat.le_of_ble_eq_true hn) _ D,Sat.mono _ _ _ _ _ hw hext,KO.of hext.keeps,fO_ (n:=0) (L:=[]) (by show (w.heap.push _)[w.heap.size]? = _;simp [uC,mB]) O,fun k hk hm=>?_,fun S2 w2 _=>⟨fun _ _ e=>(by cases e),trivial⟩,h _ hw.size⟩;rcases List.mem_cons.1 (show k∈[w.heap.size] from hm) with rfl|h
 ·exact absurd hk (Nat.lt_irrefl _)
 ·cases h
def DD (P:Program) (k:TypeId) (L:List Value):Bool:=L.all fun v=>(keyOf P k v).isSome
theorem FX {v:Value} (h:DD P k L=true) (hv:v∈L):∃ l,keyOf P k v=some l:=Option.isSome_iff_exists.1 (List.all_eq_true.1 h v hv)
theorem IQ {n:Nat} (h:DD P k L=true):∀ e∈mB L n,∃ l,keyOf P k e.key=some l:=fun e he=>by
 obtain ⟨j,h1,_⟩:=o9 he;exact FX h (List.mem_of_getElem? h1)
theorem ag_ {e:TypeId} {w:World} (h:P.underlying e=some .bool) (hz:(P.info? e).bind (·.zero)=some (.bool false)):(zeroValue e).run P w = .ok (.bool false) w:=by
 obtain ⟨i,hi,hi2⟩:=Option.bind_eq_some_iff.1 hz
 simp [zeroValue,typeInfo,hi,hi2,Sem.run]
theorem rD {key:Value} {K:Value→Fr→List Blk→Prop} (hN:N.m = .held [r] hM) (hg:gv S=gM L) (Kk:Go.Maps.Keyed P k) (hT:P.underlying T=some (.map k e)) (he:P.underlying e=some .bool) (hz:(P.info? e).bind (·.zero)=some (.bool false))
  (hx:evO N S x=some (.map (some r))) (hy:evO N S y=some key) (hk:DD P k (key::L)=true) (hq:zD key key=true) (h:K (.bool (L.any (zD key))) S M) :
  OpS P w0 X N ⟨d,.lookup T x y false,ty,ps,af,gd⟩ S M K:=by
 intro w hr hw;have hm:=YO hr hN hg;obtain ⟨lk,hlk⟩:=FX hk List.mem_cons_self
 have hL:DD P k L=true:=by simp only [DD,List.all_cons,Bool.and_eq_true] at hk;exact hk.2
 have hf:=Kk.find w hlk (mB L 0) (IQ hL);have hc:=Kk.check w (mB L 0).isEmpty hlk
 have hrun:(execOp (act N S).eval ⟨d,.lookup T x y false,ty,ps,af,gd⟩).run P w = .ok (.value (.bool (L.any (zD key)))) w:=by
  rw [gT];simp only [execOp,aZ hx,aZ hy,Instr.lookup,Sem.run_bind,run_underlying hT,Result.andThen_ok,getObj,Sem.run,hm,uC,Sem.run_pure]
  have he1:(mB L 0).toArray.isEmpty=(mB L 0).isEmpty:=by simp
  simp only [he1,hc,Result.andThen_ok];rcases hf with ⟨h1,h2⟩|⟨j,en,h1,h2,h3⟩
  ·have hb:L.any (zD key)=false:=by
    rw [← Bool.not_eq_true,List.any_eq_true];rintro ⟨v,hv,hvk⟩;have:=WV hvk;subst this;obtain ⟨en,he,hk⟩:=NX hv 0;exact h2 en he hk
   simp only [h1,Result.andThen_ok,ag_ he hz,hb,Sem.run_bind,Sem.run_pure];rfl
  have hb:L.any (zD key)=true:=by
   rw [List.any_eq_true];obtain ⟨i,h4,_⟩:=o9 (List.mem_of_getElem? h2);exact ⟨key,by rw [← h3];exact List.mem_of_getElem? h4,hq⟩
  obtain ⟨_,_,_,h5⟩:=o9 (List.mem_of_getElem? h2);simp only [h1,Result.andThen_ok,hb,h5,Sem.run_bind,Sem.run_pure];rfl
 unfold opw;rw [hrun];exact ⟨.refl _ _,S,M,fun _=>rfl,hr,hw,h⟩
theorem Y1 {m:Mode} {w:World} {b:Nat} {o o':Obj} (hm:m.mine b):KO m w (w.putObj b o') :=
 ⟨by rw [World.putObj_size];exact Nat.le_refl _,fun j ob hj ho _=>(World.putObj_heap_other (fun e=>hj (by rw [e];exact hm))).trans ho⟩
theorem RU {w:World} {o:Obj} (o':Obj) (hr:w.heap[r]? = some o) (ho:RB o=true):(setObj r o').run P w = .ok () (w.putObj r o'):=by
 cases o<;>first|(simp [setObj,Sem.run,hr,World.putObj];done)|cases ho
theorem BM {key:Value} {n:Nat} {K:Value→Fr→List Blk→Prop} (hg:gv S=gM L) (Kk:Go.Maps.Keyed P k) (hT:P.underlying T=some (.map k e))
  (hx:evO ⟨n,.held [r] hM⟩ S x=some (.map (some r))) (hy:evO ⟨n,.held [r] hM⟩ S y=some key) (hz:evO ⟨n,.held [r] hM⟩ S z=some (.bool true)) (hk:DD P k (key::L)=true) (hq:zD key key=true) (hnew:L.any (zD key)=false) (hb:w0.heap.size≤r) (hn:Nat.ble n 1000000=true)
  (h:K undef ((1000000,gM (L++[key]))::S) M):OpS P w0 X ⟨n,.held [r] hM⟩ ⟨d,.mapUpdate T x y z,ty,ps,af,gd⟩ S M K:=by
 intro w hr hw;have hm:=YO hr O hg;obtain ⟨lk,hlk⟩:=FX hk List.mem_cons_self
 have hL:DD P k L=true:=by simp only [DD,List.all_cons,Bool.and_eq_true] at hk;exact hk.2
 have hc:=Kk.check w false hlk
 have hf:(Instr.findKey k key (mB L 0)).run P w = .ok none w:=by
  rcases Kk.find w hlk (mB L 0) (IQ hL) with ⟨h1,_⟩|⟨j,en,_,h2,h3⟩
  ·exact h1
  exfalso
  obtain ⟨i,h4,_⟩:=o9 (List.mem_of_getElem? h2);have:L.any (zD key)=true:=List.any_eq_true.2 ⟨key,by rw [← h3];exact List.mem_of_getElem? h4,hq⟩;rw [hnew] at this;cases this
 have ho:(Obj.map ((mB L 0).toArray.push { key:=key,val:=.bool true,born:=L.length }) (L.length+1))=uC (L++[key]):=by
  unfold uC;rw [NW,List.length_append]
  simp
 have hrun:(execOp (act ⟨n,.held [r] hM⟩ S).eval ⟨d,.mapUpdate T x y z,ty,ps,af,gd⟩).run P w = .ok .skip (w.putObj r (uC (L++[key]))):=by
  rw [gT];simp only [execOp,aZ hx,aZ hy,aZ hz,Instr.mapUpdate,Sem.run_bind,run_underlying hT,Result.andThen_ok,getObj,Sem.run,hm,uC,Sem.run_pure];simp only [hc,Result.andThen_ok,hf];rw [ho,RU _ hm O];rfl
 unfold opw;rw [hrun];have hlt:=cL? hm;have hmm:(Mode.held [r] hM).mine r:=List.mem_cons_self;exact ⟨Y1 (o:=uC L) hmm,(1000000,gM (L++[key]))::S,M,fun D=>KH (Nat.le_of_ble_eq_true hn) _ D,fO_ (n:=0) (World.putObj_heap_same hlt) O,hw.putO hb hm O _,h⟩
theorem WK {n id:Nat} {o0:Oper} {l:List Oper} {c:Code} {Q:kI} {dd:Tmp} {v0:Value} {o1:Oper} (ho:o1=⟨some dd,.range T x,ty,ps,af,gd⟩) (hT:P.underlying T=some (.map k e)) (hok0:okD o0.dst=true) (hwt0:Region.wanted o0 (yld ⟨n,.held [r] hM⟩ (o0::o1::l) S)=true) (hq:OpQ P w0 X ⟨n,.held [r] hM⟩ o0 S M v0)
  (hok:Nat.blt dd 1000000=true) (hwt:Region.wanted o1 (yld ⟨n,.held [r] hM⟩ (o0::o1::l) (lN S o0.dst v0))=true) (hn:Nat.ble n 1000000=true)
  (hg:gv (lN S o0.dst v0)=gM L) (hx:evO ⟨n,.held [r] hM⟩ (lN S o0.dst v0) x=some (.map (some r)))
  (h:∀ it,w0.heap.size≤it→it≠r→WL P w0 X ⟨n,.held [r,it] (hI r)⟩ (o0::o1::l) (Nx P w0 X ⟨n,.held [r,it] (hI r)⟩ c Q) l ((dd,.pointer (some ⟨it,0,none⟩))::(1000000,gI L [])::lN S o0.dst v0) M) :
  W P w0 X ⟨n,.held [r] hM⟩ (.seq (.region id (o0::o1::l).toArray false) c) Q S M:=by
 subst ho;refine UO hok0 hwt0 hq hok hwt fun w hr hw=>?_;have hm:=YO hr O hg;unfold opw
 have hrun:(execOp (act ⟨n,.held [r] hM⟩ (lN S o0.dst v0)).eval ⟨some dd,.range T x,ty,ps,af,gd⟩).run P w = .ok (.value (.pointer (some ⟨w.heap.size,0,none⟩))) (w.alloc (uV r L [])):=by
  rw [gT];simp only [execOp,aZ hx,Instr.range,Sem.run_bind,run_underlying hT,Result.andThen_ok,getObj,Sem.run,hm,uC,Sem.run_pure,newObj,uV];rfl
 rw [hrun];have hext:Ext w (w.alloc (uV r L [])):=(Below.refl _ _).alloc (Nat.le_refl _) _;have hlt:=cL? hm;have hm':(w.alloc (uV r L [])).heap[r]? = some (uC L):=(Below.heap_alloc _ _ _ hlt).trans hm;refine ⟨⟨n,.held [r,w.heap.size] (hI r)⟩,(1000000,gI L [])::lN S o0.dst v0,M,rfl,rfl,fun D=>KH (m:=.held [r] hM) (Nat.le_of_ble_eq_true hn) _ D,Sat.mono _ _ _ _ _ hw hext,KO.of hext.keeps,fN_ hm' (by show (w.heap.push _)[w.heap.size]? = _;simp) O,fun k hk hm=>?_,fun S2 w2 h=>e9_ h,h _ hw.size (fun e=>by omega)⟩;rcases List.mem_cons.1 (show k∈[r,w.heap.size] from hm) with rfl|h
 ·exact List.mem_cons_self
 rcases List.mem_cons.1 h with rfl|h
 ·exact absurd hk (Nat.lt_irrefl _)
 ·cases h
def uW (L s:List Value) (j:Nat):Bool:=decide (j<L.length) && !(s.map wK).contains j
theorem ew_ {n:Nat} {K:Value→Fr→List Blk→Prop} (hg:gv S=gI L s) (hx:evO ⟨n,.held [r,it] (hI r)⟩ S x=some (.pointer (some ⟨it,0,none⟩))) (hb:w0.heap.size≤it) (hne:it≠r) (hn:Nat.ble n 1000000=true)
  (h0:(∀ j,uW L s j=false)→K (.tuple #[.bool false]) S M)
  (h1:∀ j v,uW L s j=true→L[j]? = some v→K (.tuple #[.bool true,v,.bool true]) ((1000000,gI L (s++[.int .i64 j]))::S) M) :
  OpS P w0 X ⟨n,.held [r,it] (hI r)⟩ ⟨d,.next x false,ty,ps,af,gd⟩ S M K:=by
 intro w hr hw;obtain ⟨hm,hi⟩:=YN hr O hg
 have hnx:=run_next_at (P:=P) w ty it r L.length L.length (s.map wK).toArray (mB L 0).toArray L.length hi hm (fun en he=>by
  obtain ⟨j,h2,h3,_⟩:=o9 (by simpa using he);have:=(List.getElem?_eq_some_iff.1 h2).1
  omega) (Nat.le_refl _)
 unfold opw
 have hx2:(execOp (act ⟨n,.held [r,it] (hI r)⟩ S).eval ⟨d,.next x false,ty,ps,af,gd⟩).run P w=((Instr.next (.pointer (some ⟨it,0,none⟩)) false ty).run P w).andThen fun a w'=>.ok (.value a) w':=by
  rw [gT];simp only [execOp,aZ hx,Sem.run_bind];rfl
 rw [hx2];rcases hnx with ⟨h2,h3⟩|⟨en,h2,w1,h3,h4⟩
 ·rw [h3]
  refine ⟨.refl _ _,S,M,fun _=>rfl,hr,hw,h0 fun j=>?_⟩;rw [← Bool.not_eq_true];intro hj;simp only [uW,Bool.and_eq_true,decide_eq_true_eq,Bool.not_eq_true'] at hj;obtain ⟨en,he,hb2⟩:=LA hj.1 0
  have:en∈(leftOf (mB L 0).toArray (s.map wK).toArray).toList:=by
   simp only [leftOf,Array.toList_filter,List.mem_filter];refine ⟨he,?_⟩;rw [hb2,Nat.zero_add]
   simpa using hj.2
  have h5:(leftOf (mB L 0).toArray (s.map wK).toArray).toList=[]:=by
   rw [← List.length_eq_zero_iff];simpa using h2
  rw [h5] at this;cases this
 rw [h4];have h20:=h2;simp only [leftOf,Array.toList_filter,List.mem_filter] at h20;have he:en∈mB L 0:=h20.1;obtain ⟨j,h5,h6,h7⟩:=o9 he;rw [Nat.zero_add] at h6
 have hj:uW L s j=true:=by
  have h8:=h20.2;rw [h6] at h8;simp only [uW,Bool.and_eq_true,decide_eq_true_eq];exact ⟨(List.getElem?_eq_some_iff.1 h5).1,by simpa using h8⟩
 have hs:∀ (o:Nat) (ob:Obj),w.heap[o]? = some ob→w1.heap[o]? = some ob:=fun o ob ho=>by rcases h3 with rfl|rfl<;>exact ho
 have hk1:KeepsOthers w w1:=by rcases h3 with rfl|rfl;exact KeepsOthers.refl _;exact KeepsOthers.drew _
 have hw1:Sat w0 X M w1:=by rcases h3 with rfl|rfl;exact hw;exact Sat.mono _ _ _ _ _ hw (Below.refl _ _).drew
 have hio:(Obj.mapIter (some r) L.length ((s.map wK).toArray.push en.born) L.length)=uV r L (s++[.int .i64 j]):=by
  unfold uV;rw [h6]
  congr 1
  apply Array.ext'
  simp [wK]
 rw [hio,h7];have hi1:=hs _ _ hi;have hmm:(Mode.held [r,it] (hI r)).mine it:=List.mem_cons_of_mem _ List.mem_cons_self
 exact ⟨(KO.of hk1).trans (Y1 (o:=uV r L s) hmm),(1000000,gI L (s++[.int .i64 j]))::S,M,fun D=>KH (Nat.le_of_ble_eq_true hn) _ D,
  fN_ ((World.putObj_heap_other (Ne.symm hne)).trans (hs _ _ hm)) (World.putObj_heap_same (cL? hi1)) O,hw1.putO hb hi1 O _,h1 j en.key hj h5⟩
theorem b8_ {n j:Nat} {v:Value} {K:Value→Fr→List Blk→Prop} (hg:gv S=gI L (s++[.int .i64 j])) (hx:evO ⟨n,.held [r,it] (hI r)⟩ S x=some (.pointer (some ⟨it,0,none⟩))) (hv:L[j]? = some v) (h:K (.tuple #[v,.bool true]) S M) :
  OpS P w0 X ⟨n,.held [r,it] (hI r)⟩ ⟨d,.entry x,ty,ps,af,gd⟩ S M K:=by
 intro w hr hw;obtain ⟨hm,hi⟩:=YN hr O hg;obtain ⟨en,he,hb⟩:=LA (List.getElem?_eq_some_iff.1 hv).1 0;rw [Nat.zero_add] at hb
 have hi':w.heap[it]? = some (.mapIter (some r) L.length ((s.map wK).toArray.push en.born) L.length):=by
  rw [hi,hb];unfold uV
  congr 2
  apply Array.ext'
  simp [wK]
 have hrun:=run_entry_at (P:=P) w it r L.length (s.map wK).toArray (mB L 0).toArray L.length en hi' hm (by simpa using he) (by simpa using FJ L 0);obtain ⟨i,h1,h2,h3⟩:=o9 he
 have hij:i=j:=by omega
 subst hij;rw [hv] at h1;cases h1;unfold opw;rw [gT];simp only [execOp,aZ hx,Sem.run_bind,hrun,Result.andThen_ok,h3];exact ⟨.refl _ _,S,M,fun _=>rfl,hr,hw,h⟩
theorem yY {α:Type} {el:El α} {l':List α} {v:Value} {E:TypeId} {g:FuncId} {xs:List Operand} {tys:Array TypeId} {args:List Value} {L M1:List Blk} {K:Value→List Blk→Prop} (he:iJ P g=true) (ha:evL N S xs=some args)
  (h:∀ w,Sat w0 X (L++M1) w→Calls P g args.toArray w fun e w'=>∃ u M',e = .returned u∧Sat w0 X M' w'∧KeepsOthers w w'∧(u = .tuple #[]∧∃ L',OwnG w0 E el v l' L'∧M'=L'++M1)) (k:∀ L',OwnG w0 E el v l' L'→K (.tuple #[]) (L'++M1)) :
  OpR P w0 X N ⟨d,.call { callee:=.value (.func g),args:=xs.toArray,argTypes:=tys },ty,ps,af,gd⟩ S (L++M1) K :=
 xU he ha fun w hw=>(h w hw).mono fun e w' ⟨u,M',h1,h2,h3,hu,L',h4,h5⟩=>⟨u,M',h1,h2,h3,by subst hu h5;exact k L' h4⟩
theorem gJm {N2:Nm} {Q Q0:kI} {xc yc:Code} (mods:List Nat) (R:(Nat→Value)→List Blk→Prop)
  (hx:∀ K:Fr→List Blk→Prop,(∀ S' M,PutOn mods S S'→(∃ M',M'.Sublist M∧R (look S') M')→K S' M)→W P w0 X N xc (tA K Q) S M)
  (hy:∀ g M,R g M→W P w0 X N2 yc Q0 (uI S g mods) M) (hK:∀ S M,W P w0 X N2 yc Q0 S M→Q .normal S M:=by intro _ _ h;repeat (first|exact gtn h|refine AK ?_|refine BN ?_)):W P w0 X N xc Q S M:=by
 refine BZ (hx (fun S' M'=>PutOn mods S S'∧∃ M2,M2.Sublist M'∧R (look S') M2) (fun S M h1 h2=>⟨h1,h2⟩)) ?_;intro e S' M' h
 cases e with
 | normal =>
  obtain ⟨hp,M2,hs,hr⟩:=h;exact hK S' M' (AI (sW hp) (fQ hs (hy _ _ hr)))
 | exit id=>exact h
 | goto l=>exact h
 | ret=>exact h
 | panic c=>exact h
 | outgrown=>exact h
theorem n4 {n':Nat} {g:FuncId} {fn:Func} {c:Code} {f:Operand} {xs:List Operand} {tys:Array TypeId} {args cap:List Value} {K:Value→List Blk→Prop} (he:iJ P g=true) (hf:evO N S f=some (.func (.func g) #[] cap.toArray)) (hfn:P.funcs[g]? = some fn) (hb:fn.body=some c) (hn:fn.ntmps=n')
  (ha:evL N S xs=some args) (hl:(args++cap).length≤n') (h:W P w0 X (pl n') c (kP P fn w0 X (pl n') K) (nV 0 (args++cap)) M):OpR P w0 X N ⟨d,.call { callee:=.value f,args:=xs.toArray,argTypes:=tys },ty,ps,af,gd⟩ S M K :=
 ER he hf ha (fun w hw=>gU hfn hb hn hl hw h) (fun _ _ h=>h)
end
open Go.RowKit
def cS (s:ByteArray):Part:=⟨1,[.string s],rfl,fun v hv=>by cases hv with|head=>rfl|tail _ h=>cases h⟩
instance {s:ByteArray}:PtO (.string s) [cS s]:=⟨rfl⟩
instance {s:ByteArray}:Pt1 (.string s) (cS s):=⟨rfl⟩
def elS:El ByteArray:=⟨1,fun s=>[cS s],fun _=>rfl⟩
section
variable {P:Program} {w0:World} {X:List Nat} {N:Nm} {S:Fr} {M:List Blk} {d:Option Tmp} {ty:TypeId} {ps:String} {af:Array Edge} {gd:Option (Nat×Bool)}
theorem bX_ {T:TypeId} {x:Operand} {lo hi:Option Operand} {s:ByteArray} {l h:Int} (hT:P.underlying T=some .string) (hx:evO N S x=some (.string s)) (hl:tK N S 0 lo=some l) (hh:tK N S s.size hi=some h)
  (h0:0≤l) (h1:l≤h) (h2:h≤s.size):OpQ P w0 X N ⟨d,.slice T x lo hi none,ty,ps,af,gd⟩ S M (.string (s.extract l.toNat h.toNat)) :=
 kU fun w _=>by
  have hb:=vF (P:=P) (w:=w) (isSl:=false) (cap:=s.size) hl hh h0 h1 h2;simp only [execOp,Instr.sliceAt,Instr.slice,Sem.run_bind,run_underlying hT,aZ hx,Result.andThen_ok]
  simp [hb]
theorem Z3 {T yT:TypeId} {x y:Operand} {s t:ByteArray} (hx:evO N S x=some (.string s)) (hy:evO N S y=some (.string t)) (h:s.size+t.size≤1000):OpQ P w0 X N ⟨d,.binOp .add T x y yT,ty,ps,af,gd⟩ S M (.string (s++t)) :=
 kU fun w _=>by
  simp [execOp,aZ hx,aZ hy,eqGuard,binOp,Op.stringOp]
  omega
theorem ek_ {T yT:TypeId} {x y:Operand} {s t:ByteArray} (hx:evO N S x=some (.string s)) (hy:evO N S y=some (.string t)):OpQ P w0 X N ⟨d,.binOp .eql T x y yT,ty,ps,af,gd⟩ S M (.bool (s.toList==t.toList)) :=
 kU fun w _=>by
  simp [execOp,aZ hx,aZ hy,eqGuard,binOp,Op.stringOp]
end
end Go.Kn
namespace Go.Proofs.YtcjoflcajgaifaaGreatDoor
open Go.Kn Go.Num Tryz
attribute [local irreducible] Go.Kn.W WL PL OpQ OpR OpS
def CU (n:Nat):ByteArray:=⟨#[UInt8.ofNat (48+n)]⟩
theorem CZ (n:Nat) (h:n=1∨n=2):Ret prog 148 [.int .i64 n] (.string (CU n)):=by
 rcases h with rfl|rfl
 all_goals
  refine bG (N:=5) func148 O O zz_ (fun w0=>?_);refine giI ?_;refine go_ ?_;refine sQ (mE O) O ?_
  (repeat refine go_ ?_)
  refine aQ O (rR (by rfl) func184 O O O (Nat.le_of_ble_eq_true O) (go_ ?_));refine sQ (mE O) O ?_
  (repeat refine go_ ?_)
  refine aQ O (rR (by rfl) func217 O O O (Nat.le_of_ble_eq_true O) (go_ ?_));refine sQ (mE O) O ?_
  (repeat refine go_ ?_)
  refine aQ O (rR (by rfl) func236 O O O (Nat.le_of_ble_eq_true O) (go_ ?_));refine sQ (mE O) O ?_
  (repeat refine go_ ?_)
  refine sQ (bX_ O O O O dd_ dd_ dd_) O ?_;refine sQ (mE O) O ?_
  (repeat refine go_ ?_)
  refine rtX O O (go_ ?_)
  (repeat refine go_ ?_)
  refine rtX O O (go_ ?_)
  (repeat refine go_ ?_)
  refine rtX O O (go_ ?_)
  (repeat refine go_ ?_)
  refine rt1 ?_;rfl
def GN (n:Nat):R:=⟨false,false,n::List.replicate 15 0⟩
theorem b3_ {n:Nat} (h:n=1∨n=2):(GN n).Ok:=⟨rfl,fun d hd=>by
 rcases h with rfl|rfl
 ·exact (by decide:∀ d∈(GN 1).w,d<4294967296) d hd
 exact (by decide:∀ d∈(GN 2).w,d<4294967296) d hd⟩
theorem ML:iK prog 177=some 1:=by kernel_rfl
theorem yJ (n:Nat) (h:n=1∨n=2):Ret prog 96 [RV (GN n)] (.string (CU n)):=by
 have ha:=b3_ h;have hI:=CZ n h
 have hS:Ret prog 147 [UV (GN n).w,U32 1000000000] (.tuple #[UV (List.replicate 16 0),U32 n]):=by
  have:=wQ (GN n).w ha.len ha.lim 1000000000 dd_ dd_;rcases h with rfl|rfl
  ·exact this
  exact this
 have hg:[GN n].all R.good=true:=by rcases h with rfl|rfl<;>rfl
 refine bG (N:=49) func96 O O zz_ (fun w0=>?_);refine giI ?_;refine go_ ?_;refine aQ O (gW O O (fun b1 hb1=>?_));refine sQ (mE O) O ?_
 (repeat refine go_ ?_)
 refine sQ (bU tyT O (.head _) (cJ ha)) O ?_;refine aQ O (gQ pX kB oJ O dd_ O (uA ha) (fun b4 hb4=>sQ (aE (v':=.bool true) (eH (by rfl) O (fun w hw=>fP [GN n] (ok1 ha) b4 31 w (hw.mem _ m0) zz_)) (congrArg Value.bool hg)) O ?_))
 (repeat refine go_ ?_)
 refine sQ (fM (vs:=uw (GN n).w) tyT O (.tail _ (.head _)) (iU ha.len) ((e8 _).trans ha.len)) O ?_;refine aQ O (dL lU (fun b5 hb5=>aQ O (bE tyT O O (.head _) ((e8 _).trans ha.len) O (fL _) (.inl eU) ?_)))
 (repeat refine go_ ?_)
 refine i4 2 ?_
 (repeat refine go_ ?_)
 refine sQ (bU tyT O (.head _) ((e8 _).trans ha.len)) O (sQ (aW (by rfl) hS O) O ?_)
 (repeat refine go_ ?_)
 refine aQ O (dL lU (fun b6 hb6=>aQ O (bE (vs:=uw (List.replicate 16 0)) tyT O O (.head _) O O (fL _) (.inl eU) ?_)))
 (repeat refine go_ ?_)
 refine sQ (aE (v':=.int .i64 n) (dD fD y9 O) (by rcases h with rfl|rfl<;>rfl)) O (sQ (aW (by rfl) hI O) O ?_);refine sQ (mE O) O ?_
 (repeat refine go_ ?_)
 refine sQ (bU tyT O (.head _) O) O (sQ (lG lU arT O (.nil _)) O (sQ (nY (r:=true) O O (jP 8 dd_ C8 DH (kA O) (kA zz_) ⟨fun _=>rfl,fun _=>rfl⟩)) O ?_))
 (repeat refine go_ ?_)
 refine aQ O (bZ [[cS (CU n)]] [cS (CU n)] (by rfl) (by rfl) (by rfl) O dd_ O O ⟨rfl,rfl,rfl,trivial⟩ O (fun b7 hb7=>aQ O (dJ (e:=elS) (l:=([]:List ByteArray)) (m:=[CU n]) 16 (by rfl) (by kernel_rfl) dd_ O O OwnG.nil (SLe.lit (e:=elS) (l:=[CU n]) m0 O (Nat.le_of_ble_eq_true O) O) N5 (by simp only [List.length_append,List.length_cons,List.length_nil];omega) dd_ (fun p8 c8 L8 hO8=>?_))))
 (repeat refine go_ ?_)
 refine sQ (cU tyT O mm_ O) O ?_
 (repeat refine go_ ?_)
 refine aQ O (rR (by rfl) func150 O O O (Nat.le_of_ble_eq_true O) (go_ ?_))
 (repeat refine go_ ?_)
 refine sQ (aE (v':=.int .i64 1) (bX (e:=elS) (l:=[CU n]) ML O (rO hO8 lZ)) O) O ?_
 (repeat refine go_ ?_)
 refine i4 2 ?_
 (repeat refine go_ ?_)
 refine zA O (.inl O) ?_
 (repeat refine go_ ?_)
 refine aQ O (rR (by rfl) func151 O O O (Nat.le_of_ble_eq_true O) (go_ ?_));refine sQ (mE O) O ?_
 (repeat refine go_ ?_)
 refine sQ (aE (v':=.int .i64 1) (bX (e:=elS) (l:=[CU n]) ML O (rO hO8 lZ)) O) O ?_
 (repeat refine go_ ?_)
 refine sQ (aJ (e:=elS) (l:=[CU n]) (k:=0) ML O O (rO hO8 lZ) (Nat.le_of_ble_eq_true O)) O ?_;refine sQ (cG (u:=.string (CU n)) (e:=elS) (l:=[CU n]) (k:=0) (o:=0) (s:=1) (by kernel_rfl) O (rO hO8 lZ) O O) O ?_;refine sQ (mE O) O ?_
 (repeat refine go_ ?_)
 refine rt1 ?_
 (repeat refine go_ ?_)
 refine rt1 ?_;rfl
def half:Rt:=⟨E (Z.of 1),E (Z.of 2)⟩
theorem U2:aU half=true:=by kernel_rfl
theorem U4:lX (wl 2) (wl 4)=half:=by kernel_rfl
theorem gA_:(E (Z.of 1)).1=GN 1:=by kernel_rfl
theorem gB_:(E (Z.of 2)).1=GN 2:=by kernel_rfl
theorem e3_:Ret prog 96 [AV [pI (E (Z.of 1))]] (.string (CU 1)):=(show Ret prog 96 [RV (E (Z.of 1)).1] _ from gA_ ▸ yJ 1 (.inl O))
theorem e4_:Ret prog 96 [AV [pI (E (Z.of 2))]] (.string (CU 2)):=(show Ret prog 96 [RV (E (Z.of 2)).1] _ from gB_ ▸ yJ 2 (.inr O))
def TX:ByteArray:=⟨#[49,47,50]⟩
theorem GR:Ret prog 35 [AV [pI half.n,pI half.d]] (.string TX):=by
 refine bG (N:=23) func35 O O zz_ (fun w0=>?_);refine giI ?_;refine go2 ?_;intro b1 hb1;refine sQ (mE O) O ?_
 (repeat refine go_ ?_)
 refine sQ (aE (v':=.bool true) (aW (by rfl) (fO half) O) (congrArg Value.bool U2)) O ?_
 (repeat refine go_ ?_)
 refine lJ s0 5 [] [] ?_
 (repeat refine go_ ?_)
 refine pQ O (aW (by rfl) qZ O) (pQ O (aE (v':=.bool false) (nY (r:=decide (half.d=F_ratio_one)) O O (jP 8 dd_ SK TB (jN oY) (jN oY) (mN zE))) (by kernel_rfl)) ?_)
 (repeat refine go_ ?_)
 refine lJ s0 9 [] [] ?_
 (repeat refine go_ ?_)
 refine pQ O (aW (by rfl) e3_ O) (pQ O (Z3 O O dd_) ?_)
 (repeat refine go_ ?_)
 refine pQ O (aW (by rfl) e4_ O) (pQ O (aE (v':=.string TX) (Z3 O O dd_) (by rfl)) (pQ O (mE O) ?_))
 (repeat refine go_ ?_)
 refine rt1 ?_;rfl
end Go.Proofs.YtcjoflcajgaifaaGreatDoor
namespace Go.Num
open Go Go.Kn
def nJ (a:(A3 W)):(A3 W) :=
 (⟨(W.neg a.x),(W.neg a.y),(W.neg a.z)⟩:(A3 W))
def o5 (a:(A3 W)) (b:(A3 W)):(A3 W) :=
 (⟨(W.add a.x b.x),(W.add a.y b.y),(W.add a.z b.z)⟩:(A3 W))
def kO (a:(A3 W)) (b:(A3 W)):(A3 W) :=
 let r4:(A3 W):=(o5 a (nJ b))
 r4
def jU (a:(A3 W)):(A3 I) :=
 (⟨(E (Z.of a.x.1)),(E (Z.of a.y.1)),(E (Z.of a.z.1))⟩:(A3 I))
def AG (a:(A3 I)) (b:(A3 I)):I :=
 let r5:I:=(E (Z.add (Z.add (Z.of 0) (Z.mul a.x.dec b.x.dec)) (Z.mul a.y.dec b.y.dec)))
 (E (Z.add r5.dec (Z.mul a.z.dec b.z.dec)))
def KB (a:(A3 W)) (b:(A3 W)):I :=
 (AG (jU a) (jU b))
def A30:A3 W:=⟨W.z,W.z,W.z⟩
structure HPl where
 n:A3 W
 d:W
def rH:HPl:=⟨⟨W.z,W.z,W.z⟩,W.z⟩
def elHP:El HPl:=⟨4,fun p=>[ci .i64 p.n.x.1,ci .i64 p.n.y.1,ci .i64 p.n.z.1,ci .i64 p.d.1],fun _=>rfl⟩
def nX:El Bool:=⟨1,fun b=>[cb b],fun _=>rfl⟩
structure FacetL where
 n:A3 W
 d:W
 p:Option Addr
 l:Nat
 c:Nat
def FL0:FacetL:=⟨⟨W.z,W.z,W.z⟩,W.z,none,0,0⟩
def xA:El FacetL:=⟨5,fun f=>[ci .i64 f.n.x.1,ci .i64 f.n.y.1,ci .i64 f.n.z.1,ci .i64 f.d.1,csl f.p f.l f.c],fun _=>rfl⟩
def oQ (a:(A3 W)) (b:(A3 W)):W :=
 (W.add (W.add (W.mul a.x b.x) (W.mul a.y b.y)) (W.mul a.z b.z))
def gO (a:(A3 W)) (b:(A3 W)):(A3 W) :=
 (⟨(W.sub (W.mul a.y b.z) (W.mul a.z b.y)),(W.sub (W.mul a.z b.x) (W.mul a.x b.z)),(W.sub (W.mul a.x b.y) (W.mul a.y b.x))⟩:(A3 W))
def tI (x:W):Bool :=
 (x.1 != x.1)
def aY (x:W) (y:W):W :=
 bif (tI x) then (bif (tI y) then (wl 0) else (wl (-1))) else (bif (tI y) then (wl 1) else (bif decide (x.1<y.1) then (wl (-1)) else (bif decide (y.1<x.1) then (wl 1) else (wl 0))))
def mY (l:(List W)):Nat→Nat→(Nat) ⊕ (W)
 | 0,k=>.inl k
 | k0+1,k=>bif decide ((k:Int)<(l.length:Int)) then (bif ((l.getD k W.z).1 != 0) then (.inr (l.getD k W.z)) else (mY l k0 (k+1))) else (.inl k)
def sD (l:(List W)):W :=
 sm (fun (s:Nat)=>let k:Nat:=s
 (wl 0)) (fun r=>r) (mY l (l.length+1) 0)
def lP (a:W) (b:W):Nat→W→W→W×W
 | 0,p,q=>(p,q)
 | k0+1,p,q=>bif (q.1 != 0) then (lP a b k0 q (W.rem p q)) else (p,q)
def bK (a:W) (b:W):W :=
 ap (fun (s:W×W)=>let p:W:=s.1
 let q:W:=s.2
 (W.max p (W.neg p))) (lP a b (b.1.natAbs+1) a b)
def o3 (a:(A3 W)) (b:(A3 W)) (c:(A3 W)):HPl :=
 let r5:(A3 W):=(gO (kO b a) (kO c a))
 let r8:(A3 W):=(⟨(bif decide (1<(bK (bK r5.x r5.y) r5.z).1) then (W.quo r5.x (bK (bK r5.x r5.y) r5.z)) else r5.x),(bif decide (1<(bK (bK r5.x r5.y) r5.z).1) then (W.quo r5.y (bK (bK r5.x r5.y) r5.z)) else r5.y),(bif decide (1<(bK (bK r5.x r5.y) r5.z).1) then (W.quo r5.z (bK (bK r5.x r5.y) r5.z)) else r5.z)⟩:(A3 W))
 (⟨r8,(oQ r8 a)⟩:HPl)
def iX (l:(List (A3 W))) (p:HPl):Nat→Bool→Nat→(Bool×Nat) ⊕ (Bool)
 | 0,all,k=>.inl (all,k)
 | k0+1,all,k=>bif decide ((k:Int)<(l.length:Int)) then (bif decide (p.d.1<(oQ p.n (l.getD k A30)).1) then (.inr false) else (bif all then (iX l p k0 ((oQ p.n (l.getD k A30)).1==p.d.1) (k+1)) else (iX l p k0 false (k+1)))) else (.inl (all,k))
def gR (l:(List (A3 W))) (p:HPl):Bool :=
 sm (fun (s:Bool×Nat)=>let all:Bool:=s.1
 let k:Nat:=s.2
 (!all)) (fun r=>r) (iX l p (l.length+1) true 0)
def q8 (n:(A3 W)) (a:(A3 W)) (b:(A3 W)):W :=
 bif (n.x.1 != 0) then (W.mul (aY ((gO a b).x) (wl 0)) (aY n.x (wl 0))) else (bif (n.y.1 != 0) then (W.mul (aY ((gO a b).y) (wl 0)) (aY n.y (wl 0))) else (bif (n.z.1 != 0) then (W.mul (aY ((gO a b).z) (wl 0)) (aY n.z (wl 0))) else (wl 0)))
end Go.Num
