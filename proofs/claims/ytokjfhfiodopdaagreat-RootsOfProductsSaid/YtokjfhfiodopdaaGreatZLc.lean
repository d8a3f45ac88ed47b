/- Lemmas: what they ask stands in their statements. -/
import Derived.Test.YtokjfhfiodopdaaGreatZRf
set_option linter.unusedSimpArgs false
set_option linter.unusedVariables false
set_option maxHeartbeats 8000000
set_option maxRecDepth 20000
namespace Go.Proofs.YtokjfhfiodopdaaGreat
open Go.Kn Go.Num Tryz
attribute [local irreducible] Go.Kn.W WL PL OpQ OpR OpS
theorem uP (vl:Value) (l:(List Zero9)) (neg:Bool) (wide:Bool) (w:World) (hl:Slr w lU vl l) :
    Calls prog 29 [vl,.bool neg,.bool wide].toArray w (fun e w'=>∃ v,e = .returned (v)∧Ext w w'∧Slo w.heap.size w' 27 elI v (aP l neg wide)):=by
 obtain ⟨p_l,c_l,rfl⟩:=hl.form;refine eX (n:=45) (fun v=>v) func29 O O zz_ ?_;obtain ⟨w0,rfl⟩:=nm w;have Hl:=hl.old;have hm_l:=hl.max;refine giI ?_;refine go4 ?_;refine aZ O (eK [[cw 1]] [cw 1] lJ z_3 sF O dd_ O O ⟨rfl,rfl,rfl,trivial⟩ O (fun b1 hb1=>aZ O (cK (E:=27) (e:=elI) (l:=(aK [(wl 1)])) (fun v=>v) aM O (fun w hw=>dE _ [(wl 1)] w (SLe.ap hw (SLe.lit (e:=elW) (l:=[(wl 1)]) m0 O (Nat.le_of_ble_eq_true O) O)) o3_) (fun p2 c3 L4 hF5=>?_))));have hb6:=(fQ [(wl 1)]);have hr7:=(fR [(wl 1)]);refine go6 ?_;refine aQ _ O (fun h8=>?_) (fun h8=>?_)
 ·refine go_ ?_;refine aZ O (eK [[cw (-1)]] [cw (-1)] lJ z_3 sF O dd_ O O ⟨rfl,rfl,rfl,trivial⟩ O (fun b9 hb9=>aZ O (cK (E:=27) (e:=elI) (l:=(aK [(wl (-1))])) (fun v=>v) aM O (fun w hw=>dE _ [(wl (-1))] w (SLe.ap hw (SLe.lit (e:=elW) (l:=[(wl (-1))]) m0 O (Nat.le_of_ble_eq_true O) O)) o3_) (fun p10 c11 L12 hF13=>?_))));have hb14:=(fQ [(wl (-1))]);have hr15:=(fR [(wl (-1))]);refine go2 ?_;refine o4 (sA (sd (sR (sd s0)))) ?_;refine go4 ?_;refine aQ _ O (fun h16=>?_) (fun h16=>?_)
  ·refine go_ ?_;refine aZ O (eK [[cw 1],[cw 0],[cw 1]] [cw 1,cw 0,cw 1] lJ z_3 sF O dd_ O O ⟨rfl,rfl,rfl,rfl,rfl,rfl,rfl,rfl,rfl,trivial⟩ O (fun b17 hb17=>aZ O (cK (E:=27) (e:=elI) (l:=(aK [(wl 1),(wl 0),(wl 1)])) (fun v=>v) aM O (fun w hw=>dE _ [(wl 1),(wl 0),(wl 1)] w (SLe.ap hw (SLe.lit (e:=elW) (l:=[(wl 1),(wl 0),(wl 1)]) m0 O (Nat.le_of_ble_eq_true O) O)) o3_) (fun p18 c19 L20 hF21=>?_))));have hb22:=(fQ [(wl 1),(wl 0),(wl 1)]);have hr23:=(fR [(wl 1),(wl 0),(wl 1)]);refine go6 ?_;refine gJ3 (rg [7,8,9] 18 26) (fun g M=>∃ (p:List I) (k:Nat) (p_p:Option Addr) (c_p:Nat) (L_p:List Blk),(bC l neg wide (l.length+1) (aK [(wl 1),(wl 0),(wl 1)]) 0)=(p,k)∧(p.length≤25∧Rgt p)∧(g 7 = .slice p_p p.length c_p∧g 8 = .int .i64 (k:Int)∧OwnG w0 27 elI (.slice p_p p.length c_p) p L_p)∧M=(L_p++(⟨b17,3,aX [cw 1,cw 0,cw 1]⟩::(L12++[])))) (fun K_u24 hK_u24=>?_) ?_
   ·refine go_ ?_;refine bP (rg [7,8,9] 18 26) (fun g nn M=>∃ (p:List I) (k:Nat) (p_p:Option Addr) (c_p:Nat) (L_p:List Blk),(bC l neg wide nn p k)=(bC l neg wide (l.length+1) (aK [(wl 1),(wl 0),(wl 1)]) 0)∧l.length - k<nn∧(k≤l.length∧p.length≤25∧Rgt p)∧(g 7 = .slice p_p p.length c_p∧g 8 = .int .i64 (k:Int)∧OwnG w0 27 elI (.slice p_p p.length c_p) p L_p)∧M=(L_p++(⟨b17,3,aX [cw 1,cw 0,cw 1]⟩::(L12++[])))) (l.length+1) ?start ?round
    case start=>exact ⟨_,s0,(aK [(wl 1),(wl 0),(wl 1)]),0,p18,c19,L20,rfl,oo_,⟨by omega,by omega,by with_reducible assumption⟩,⟨rfl,rfl,hF21⟩,rfl⟩
    case round =>
     rintro nn g M ⟨p,k,p_p,c_p,L_p,hT0,hq0,hinv0,⟨hg7,hg8,hO_p⟩,rfl⟩;obtain ⟨k0,rfl⟩:∃ m,nn=m+1:=⟨nn - 1,by omega⟩;refine gS2 hg7 hg8 ?_;clear hg7 hg8;have hm_p:=OwnG.max hO_p;refine go4 ?_;refine sQ (dJ uG O (SLe.sub Hl sn)) O (go2 ?_);refine aQ _ O (fun h55=>?_) (fun h55=>?_)
     ·have ph55:=of_decide_eq_true h55;refine go4 ?_;have hti:=(bA (l.getD k cO)).2;unfold I64 at hti;refine go2 ?_;refine gJ3 (rg [7,9] 24 20) (fun g M=>∃ (q:List I) (i:Nat) (p_q:Option Addr) (c_q:Nat) (L_q:List Blk),(bL l neg wide p k ((bA (l.getD k cO)).1.toNat+1) p 0)=(q,i)∧(q.length≤25∧Rgt q)∧(g 7 = .slice p_q q.length c_q∧g 9 = .int .i64 (i:Int)∧OwnG w0 27 elI (.slice p_q q.length c_q) q L_q)∧M=(L_q++(⟨b17,3,aX [cw 1,cw 0,cw 1]⟩::(L12++[])))) (fun K_u56 hK_u56=>?_) ?_
      ·refine go_ ?_;refine bP (rg [7,9] 24 20) (fun g nn M=>∃ (q:List I) (i:Nat) (p_q:Option Addr) (c_q:Nat) (L_q:List Blk),(bL l neg wide p k nn q i)=(bL l neg wide p k ((bA (l.getD k cO)).1.toNat+1) p 0)∧((bA (l.getD k cO)).1 - i).toNat<nn∧((i:Int)≤max 0 (bA (l.getD k cO)).1∧q.length≤25∧Rgt q)∧(g 7 = .slice p_q q.length c_q∧g 9 = .int .i64 (i:Int)∧OwnG w0 27 elI (.slice p_q q.length c_q) q L_q)∧M=(L_q++(⟨b17,3,aX [cw 1,cw 0,cw 1]⟩::(L12++[])))) ((bA (l.getD k cO)).1.toNat+1) ?start ?round
       case start=>exact ⟨_,s0,p,0,p_p,c_p,L_p,rfl,oo_,⟨by omega,hinv0.2⟩,⟨rfl,rfl,hO_p⟩,rfl⟩
       case round =>
        rintro nn g M ⟨q,i,p_q,c_q,L_q,hT1,hq1,hinv1,⟨hg7,hg9,hO_q⟩,rfl⟩;obtain ⟨k1,rfl⟩:∃ m,nn=m+1:=⟨nn - 1,by omega⟩;refine gS2 hg7 hg9 ?_;clear hg7 hg9;have hm_q:=OwnG.max hO_q;refine go5 ?_;refine sQ (aW (v':=.pointer (some (slb (.slice p_l l.length c_l) (k*2+0)))) (iT (e:=lU) (l:=l) (k:=k) uG O O (SLe.sub Hl sn) o2_) O) O ?_;refine sQ (jC (e:=lU) (l:=l) (k:=k) (o:=0) tyT O (SLe.sub Hl sn) (cP cO o2_) O) O ?_;refine sQ (bR aM (lB (l.getD k cO)) O) O (go2 ?_);refine aQ _ O (fun h71=>?_) (fun h71=>?_)
        ·have ph71:=of_decide_eq_true h71;refine go7 ?_;refine sQ (aW (v':=.pointer (some (slb (.slice p_l l.length c_l) (k*2+0)))) (iT (e:=lU) (l:=l) (k:=k) uG O O (SLe.sub Hl sn) o2_) O) O ?_;refine sQ (aW (v':=.pointer (some (slb (.slice p_l l.length c_l) (k*2+0)))) (z9 fdT O O) O) O (sQ (sM (u:=.int .i8 ((l.getD k cO).n)) (e:=lU) (l:=l) (k:=k) (o:=0) tyT O (SLe.sub Hl sn) (cP cO o2_) O) O ?_);refine sQ (aW (v':=.int .i64 ((W.cv ((l.getD k cO).n)).1)) (dA w9 sL O) O) O (sV (.int .i64 ((W.neg (W.cv ((l.getD k cO).n))).1)) O O (aZ O (eK [[cw ((W.neg (W.cv ((l.getD k cO).n))).1)],[cw 8]] [cw ((W.neg (W.cv ((l.getD k cO).n))).1),cw 8] lJ z_3 sF O dd_ O O ⟨rfl,rfl,rfl,rfl,rfl,rfl,trivial⟩ O (fun b72 hb72=>aZ O (cK (E:=27) (e:=elI) (l:=(aK [(W.neg (W.cv ((l.getD k cO).n))),(wl 8)])) (fun v=>v) aM O (fun w hw=>dE _ [(W.neg (W.cv ((l.getD k cO).n))),(wl 8)] w (SLe.ap hw (SLe.lit (e:=elW) (l:=[(W.neg (W.cv ((l.getD k cO).n))),(wl 8)]) m0 O (Nat.le_of_ble_eq_true O) O)) o3_) (fun p73 c74 L75 hF76=>?_))))));have hb77:=(fQ [(W.neg (W.cv ((l.getD k cO).n))),(wl 8)]);have hr78:=(fR [(W.neg (W.cv ((l.getD k cO).n))),(wl 8)]);refine aZ O (cK (E:=27) (e:=elI) (l:=(cZ q (aK [(W.neg (W.cv ((l.getD k cO).n))),(wl 8)]))) (fun v=>v) aM O (fun w hw=>mB _ q _ (aK [(W.neg (W.cv ((l.getD k cO).n))),(wl 8)]) w (aO hw hO_q (sR (sd lZ))) (aO hw hF76 lZ) o3_) (fun p79 c80 L81 hF82=>?_));have hb83:=(kI q (aK [(W.neg (W.cv ((l.getD k cO).n))),(wl 8)]));have hr84:=(kJ q (aK [(W.neg (W.cv ((l.getD k cO).n))),(wl 8)]));refine go4 ?_;refine sWi (((i+1):Nat):Int) O (go2 ?_);refine ⟨pp_,_,_,(sA (sR (sd (sR s0)))),(Nat.lt_succ_self _),(cZ q (aK [(W.neg (W.cv ((l.getD k cO).n))),(wl 8)])),(i+1),p79,c80,L81,(by exact (hT1.symm.trans (Eq.symm (aY h71 O))).symm),(Nat.lt_of_lt_of_le oo_ (Nat.le_of_lt_succ hq1)),⟨by omega,by omega,by with_reducible assumption⟩,⟨rfl,rfl,hF82⟩,rfl⟩
        have ph71:=of_decide_eq_false h71;refine go_ ?_;refine hK_u56 _ _ pp_ ⟨_,s0,q,i,p_q,c_q,L_q,(by exact hT1.symm.trans (Eq.symm (aT h71 O))),hinv1.2,⟨rfl,rfl,hO_q⟩,rfl⟩
      rintro g M ⟨q,i,p_q,c_q,L_q,hCu56,hPu56,⟨hg7,hg9,hO_q⟩,rfl⟩;refine gS2 hg7 hg9 ?_;clear hg7 hg9;have hm_q:=OwnG.max hO_q;refine go2 ?_;refine sWi (((k+1):Nat):Int) O (go2 ?_);refine ⟨pp_,_,_,s0,(Nat.lt_succ_self _),q,(k+1),p_q,c_q,L_q,(by exact (hT0.symm.trans (Eq.symm (aY h55 (trs (Eq.symm (apS hCu56)) O)))).symm),(Nat.lt_of_lt_of_le oo_ (Nat.le_of_lt_succ hq0)),⟨by omega,hPu56⟩,⟨rfl,rfl,hO_q⟩,rfl⟩
     have ph55:=of_decide_eq_false h55;refine go_ ?_;refine hK_u24 _ _ pp_ ⟨_,s0,p,k,p_p,c_p,L_p,(by exact hT0.symm.trans (Eq.symm (aT h55 O))),hinv0.2,⟨rfl,rfl,hO_p⟩,rfl⟩
   rintro g M ⟨p,k,p_p,c_p,L_p,hCu24,hPu24,⟨hg7,hg8,hO_p⟩,rfl⟩;refine gS2 hg7 hg8 ?_;clear hg7 hg8;have hm_p:=OwnG.max hO_p;refine go5 ?_;refine rt1 ?_
   have hE:(p:(List I))=(aP l neg wide):=by exact aY h8 (aY h16 (trs (Eq.symm (apS hCu24)) O))
   rw [← hE];exact ⟨_,rfl,⟨L_p,lZ,hO_p⟩⟩
  refine go5 ?_;refine gJ3 (rg [7,8,9] 18 26) (fun g M=>∃ (p:List I) (k:Nat) (p_p:Option Addr) (c_p:Nat) (L_p:List Blk),(bC l neg wide (l.length+1) (aK [(wl (-1))]) 0)=(p,k)∧(p.length≤25∧Rgt p)∧(g 7 = .slice p_p p.length c_p∧g 8 = .int .i64 (k:Int)∧OwnG w0 27 elI (.slice p_p p.length c_p) p L_p)∧M=(L_p++[])) (fun K_u85 hK_u85=>?_) ?_
  ·refine go_ ?_;refine bP (rg [7,8,9] 18 26) (fun g nn M=>∃ (p:List I) (k:Nat) (p_p:Option Addr) (c_p:Nat) (L_p:List Blk),(bC l neg wide nn p k)=(bC l neg wide (l.length+1) (aK [(wl (-1))]) 0)∧l.length - k<nn∧(k≤l.length∧p.length≤25∧Rgt p)∧(g 7 = .slice p_p p.length c_p∧g 8 = .int .i64 (k:Int)∧OwnG w0 27 elI (.slice p_p p.length c_p) p L_p)∧M=(L_p++[])) (l.length+1) ?start ?round
   case start=>exact ⟨_,s0,(aK [(wl (-1))]),0,p10,c11,L12,rfl,oo_,⟨by omega,by omega,by with_reducible assumption⟩,⟨rfl,rfl,hF13⟩,rfl⟩
   case round =>
    rintro nn g M ⟨p,k,p_p,c_p,L_p,hT0,hq0,hinv0,⟨hg7,hg8,hO_p⟩,rfl⟩;obtain ⟨k0,rfl⟩:∃ m,nn=m+1:=⟨nn - 1,by omega⟩;refine gS2 hg7 hg8 ?_;clear hg7 hg8;have hm_p:=OwnG.max hO_p;refine go4 ?_;refine sQ (dJ uG O (SLe.sub Hl sn)) O (go2 ?_);refine aQ _ O (fun h116=>?_) (fun h116=>?_)
    ·have ph116:=of_decide_eq_true h116;refine go4 ?_;have hti:=(bA (l.getD k cO)).2;unfold I64 at hti;refine go2 ?_;refine gJ3 (rg [7,9] 24 20) (fun g M=>∃ (q:List I) (i:Nat) (p_q:Option Addr) (c_q:Nat) (L_q:List Blk),(bL l neg wide p k ((bA (l.getD k cO)).1.toNat+1) p 0)=(q,i)∧(q.length≤25∧Rgt q)∧(g 7 = .slice p_q q.length c_q∧g 9 = .int .i64 (i:Int)∧OwnG w0 27 elI (.slice p_q q.length c_q) q L_q)∧M=(L_q++[])) (fun K_u117 hK_u117=>?_) ?_
     ·refine go_ ?_;refine bP (rg [7,9] 24 20) (fun g nn M=>∃ (q:List I) (i:Nat) (p_q:Option Addr) (c_q:Nat) (L_q:List Blk),(bL l neg wide p k nn q i)=(bL l neg wide p k ((bA (l.getD k cO)).1.toNat+1) p 0)∧((bA (l.getD k cO)).1 - i).toNat<nn∧((i:Int)≤max 0 (bA (l.getD k cO)).1∧q.length≤25∧Rgt q)∧(g 7 = .slice p_q q.length c_q∧g 9 = .int .i64 (i:Int)∧OwnG w0 27 elI (.slice p_q q.length c_q) q L_q)∧M=(L_q++[])) ((bA (l.getD k cO)).1.toNat+1) ?start ?round
      case start=>exact ⟨_,s0,p,0,p_p,c_p,L_p,rfl,oo_,⟨by omega,hinv0.2⟩,⟨rfl,rfl,hO_p⟩,rfl⟩
      case round =>
       rintro nn g M ⟨q,i,p_q,c_q,L_q,hT1,hq1,hinv1,⟨hg7,hg9,hO_q⟩,rfl⟩;obtain ⟨k1,rfl⟩:∃ m,nn=m+1:=⟨nn - 1,by omega⟩;refine gS2 hg7 hg9 ?_;clear hg7 hg9;have hm_q:=OwnG.max hO_q;refine go5 ?_;refine sQ (aW (v':=.pointer (some (slb (.slice p_l l.length c_l) (k*2+0)))) (iT (e:=lU) (l:=l) (k:=k) uG O O (SLe.sub Hl sn) o2_) O) O ?_;refine sQ (jC (e:=lU) (l:=l) (k:=k) (o:=0) tyT O (SLe.sub Hl sn) (cP cO o2_) O) O ?_;refine sQ (bR aM (lB (l.getD k cO)) O) O (go2 ?_);refine aQ _ O (fun h132=>?_) (fun h132=>?_)
       ·have ph132:=of_decide_eq_true h132;refine go7 ?_;refine sQ (aW (v':=.pointer (some (slb (.slice p_l l.length c_l) (k*2+0)))) (iT (e:=lU) (l:=l) (k:=k) uG O O (SLe.sub Hl sn) o2_) O) O ?_;refine sQ (aW (v':=.pointer (some (slb (.slice p_l l.length c_l) (k*2+0)))) (z9 fdT O O) O) O (sQ (sM (u:=.int .i8 ((l.getD k cO).n)) (e:=lU) (l:=l) (k:=k) (o:=0) tyT O (SLe.sub Hl sn) (cP cO o2_) O) O ?_);refine sQ (aW (v':=.int .i64 ((W.cv ((l.getD k cO).n)).1)) (dA w9 sL O) O) O (sV (.int .i64 ((W.neg (W.cv ((l.getD k cO).n))).1)) O O (aZ O (eK [[cw ((W.neg (W.cv ((l.getD k cO).n))).1)],[cw 8]] [cw ((W.neg (W.cv ((l.getD k cO).n))).1),cw 8] lJ z_3 sF O dd_ O O ⟨rfl,rfl,rfl,rfl,rfl,rfl,trivial⟩ O (fun b133 hb133=>aZ O (cK (E:=27) (e:=elI) (l:=(aK [(W.neg (W.cv ((l.getD k cO).n))),(wl 8)])) (fun v=>v) aM O (fun w hw=>dE _ [(W.neg (W.cv ((l.getD k cO).n))),(wl 8)] w (SLe.ap hw (SLe.lit (e:=elW) (l:=[(W.neg (W.cv ((l.getD k cO).n))),(wl 8)]) m0 O (Nat.le_of_ble_eq_true O) O)) o3_) (fun p134 c135 L136 hF137=>?_))))));have hb138:=(fQ [(W.neg (W.cv ((l.getD k cO).n))),(wl 8)]);have hr139:=(fR [(W.neg (W.cv ((l.getD k cO).n))),(wl 8)]);refine aZ O (cK (E:=27) (e:=elI) (l:=(cZ q (aK [(W.neg (W.cv ((l.getD k cO).n))),(wl 8)]))) (fun v=>v) aM O (fun w hw=>mB _ q _ (aK [(W.neg (W.cv ((l.getD k cO).n))),(wl 8)]) w (aO hw hO_q (sR (sd lZ))) (aO hw hF137 lZ) o3_) (fun p140 c141 L142 hF143=>?_));have hb144:=(kI q (aK [(W.neg (W.cv ((l.getD k cO).n))),(wl 8)]));have hr145:=(kJ q (aK [(W.neg (W.cv ((l.getD k cO).n))),(wl 8)]));refine go4 ?_;refine sWi (((i+1):Nat):Int) O (go2 ?_);refine ⟨pp_,_,_,(sA (sR (sd (sR s0)))),(Nat.lt_succ_self _),(cZ q (aK [(W.neg (W.cv ((l.getD k cO).n))),(wl 8)])),(i+1),p140,c141,L142,(by exact (hT1.symm.trans (Eq.symm (aY h132 O))).symm),(Nat.lt_of_lt_of_le oo_ (Nat.le_of_lt_succ hq1)),⟨by omega,by omega,by with_reducible assumption⟩,⟨rfl,rfl,hF143⟩,rfl⟩
       have ph132:=of_decide_eq_false h132;refine go_ ?_;refine hK_u117 _ _ pp_ ⟨_,s0,q,i,p_q,c_q,L_q,(by exact hT1.symm.trans (Eq.symm (aT h132 O))),hinv1.2,⟨rfl,rfl,hO_q⟩,rfl⟩
     rintro g M ⟨q,i,p_q,c_q,L_q,hCu117,hPu117,⟨hg7,hg9,hO_q⟩,rfl⟩;refine gS2 hg7 hg9 ?_;clear hg7 hg9;have hm_q:=OwnG.max hO_q;refine go2 ?_;refine sWi (((k+1):Nat):Int) O (go2 ?_);refine ⟨pp_,_,_,s0,(Nat.lt_succ_self _),q,(k+1),p_q,c_q,L_q,(by exact (hT0.symm.trans (Eq.symm (aY h116 (trs (Eq.symm (apS hCu117)) O)))).symm),(Nat.lt_of_lt_of_le oo_ (Nat.le_of_lt_succ hq0)),⟨by omega,hPu117⟩,⟨rfl,rfl,hO_q⟩,rfl⟩
    have ph116:=of_decide_eq_false h116;refine go_ ?_;refine hK_u85 _ _ pp_ ⟨_,s0,p,k,p_p,c_p,L_p,(by exact hT0.symm.trans (Eq.symm (aT h116 O))),hinv0.2,⟨rfl,rfl,hO_p⟩,rfl⟩
  rintro g M ⟨p,k,p_p,c_p,L_p,hCu85,hPu85,⟨hg7,hg8,hO_p⟩,rfl⟩;refine gS2 hg7 hg8 ?_;clear hg7 hg8;have hm_p:=OwnG.max hO_p;refine go5 ?_;refine rt1 ?_
  have hE:(p:(List I))=(aP l neg wide):=by exact aY h8 (aT h16 (trs (Eq.symm (apS hCu85)) O))
  rw [← hE];exact ⟨_,rfl,⟨L_p,lZ,hO_p⟩⟩
 refine go5 ?_;refine aQ _ O (fun h146=>?_) (fun h146=>?_)
 ·refine go_ ?_;refine aZ O (eK [[cw 1],[cw 0],[cw 1]] [cw 1,cw 0,cw 1] lJ z_3 sF O dd_ O O ⟨rfl,rfl,rfl,rfl,rfl,rfl,rfl,rfl,rfl,trivial⟩ O (fun b147 hb147=>aZ O (cK (E:=27) (e:=elI) (l:=(aK [(wl 1),(wl 0),(wl 1)])) (fun v=>v) aM O (fun w hw=>dE _ [(wl 1),(wl 0),(wl 1)] w (SLe.ap hw (SLe.lit (e:=elW) (l:=[(wl 1),(wl 0),(wl 1)]) m0 O (Nat.le_of_ble_eq_true O) O)) o3_) (fun p148 c149 L150 hF151=>?_))));have hb152:=(fQ [(wl 1),(wl 0),(wl 1)]);have hr153:=(fR [(wl 1),(wl 0),(wl 1)]);refine go2 ?_;refine o4 (sA (sd (sR (sd s0)))) ?_;refine go4 ?_;refine gJ3 (rg [7,8,9] 18 26) (fun g M=>∃ (p:List I) (k:Nat) (p_p:Option Addr) (c_p:Nat) (L_p:List Blk),(bC l neg wide (l.length+1) (aK [(wl 1),(wl 0),(wl 1)]) 0)=(p,k)∧(p.length≤25∧Rgt p)∧(g 7 = .slice p_p p.length c_p∧g 8 = .int .i64 (k:Int)∧OwnG w0 27 elI (.slice p_p p.length c_p) p L_p)∧M=(L_p++[])) (fun K_u154 hK_u154=>?_) ?_
  ·refine go_ ?_;refine bP (rg [7,8,9] 18 26) (fun g nn M=>∃ (p:List I) (k:Nat) (p_p:Option Addr) (c_p:Nat) (L_p:List Blk),(bC l neg wide nn p k)=(bC l neg wide (l.length+1) (aK [(wl 1),(wl 0),(wl 1)]) 0)∧l.length - k<nn∧(k≤l.length∧p.length≤25∧Rgt p)∧(g 7 = .slice p_p p.length c_p∧g 8 = .int .i64 (k:Int)∧OwnG w0 27 elI (.slice p_p p.length c_p) p L_p)∧M=(L_p++[])) (l.length+1) ?start ?round
   case start=>exact ⟨_,s0,(aK [(wl 1),(wl 0),(wl 1)]),0,p148,c149,L150,rfl,oo_,⟨by omega,by omega,by with_reducible assumption⟩,⟨rfl,rfl,hF151⟩,rfl⟩
   case round =>
    rintro nn g M ⟨p,k,p_p,c_p,L_p,hT0,hq0,hinv0,⟨hg7,hg8,hO_p⟩,rfl⟩;obtain ⟨k0,rfl⟩:∃ m,nn=m+1:=⟨nn - 1,by omega⟩;refine gS2 hg7 hg8 ?_;clear hg7 hg8;have hm_p:=OwnG.max hO_p;refine go4 ?_;refine sQ (dJ uG O (SLe.sub Hl sn)) O (go2 ?_);refine aQ _ O (fun h185=>?_) (fun h185=>?_)
    ·have ph185:=of_decide_eq_true h185;refine go4 ?_;have hti:=(bA (l.getD k cO)).2;unfold I64 at hti;refine go2 ?_;refine gJ3 (rg [7,9] 24 20) (fun g M=>∃ (q:List I) (i:Nat) (p_q:Option Addr) (c_q:Nat) (L_q:List Blk),(bL l neg wide p k ((bA (l.getD k cO)).1.toNat+1) p 0)=(q,i)∧(q.length≤25∧Rgt q)∧(g 7 = .slice p_q q.length c_q∧g 9 = .int .i64 (i:Int)∧OwnG w0 27 elI (.slice p_q q.length c_q) q L_q)∧M=(L_q++[])) (fun K_u186 hK_u186=>?_) ?_
     ·refine go_ ?_;refine bP (rg [7,9] 24 20) (fun g nn M=>∃ (q:List I) (i:Nat) (p_q:Option Addr) (c_q:Nat) (L_q:List Blk),(bL l neg wide p k nn q i)=(bL l neg wide p k ((bA (l.getD k cO)).1.toNat+1) p 0)∧((bA (l.getD k cO)).1 - i).toNat<nn∧((i:Int)≤max 0 (bA (l.getD k cO)).1∧q.length≤25∧Rgt q)∧(g 7 = .slice p_q q.length c_q∧g 9 = .int .i64 (i:Int)∧OwnG w0 27 elI (.slice p_q q.length c_q) q L_q)∧M=(L_q++[])) ((bA (l.getD k cO)).1.toNat+1) ?start ?round
      case start=>exact ⟨_,s0,p,0,p_p,c_p,L_p,rfl,oo_,⟨by omega,hinv0.2⟩,⟨rfl,rfl,hO_p⟩,rfl⟩
      case round =>
       rintro nn g M ⟨q,i,p_q,c_q,L_q,hT1,hq1,hinv1,⟨hg7,hg9,hO_q⟩,rfl⟩;obtain ⟨k1,rfl⟩:∃ m,nn=m+1:=⟨nn - 1,by omega⟩;refine gS2 hg7 hg9 ?_;clear hg7 hg9;have hm_q:=OwnG.max hO_q;refine go5 ?_;refine sQ (aW (v':=.pointer (some (slb (.slice p_l l.length c_l) (k*2+0)))) (iT (e:=lU) (l:=l) (k:=k) uG O O (SLe.sub Hl sn) o2_) O) O ?_;refine sQ (jC (e:=lU) (l:=l) (k:=k) (o:=0) tyT O (SLe.sub Hl sn) (cP cO o2_) O) O ?_;refine sQ (bR aM (lB (l.getD k cO)) O) O (go2 ?_);refine aQ _ O (fun h201=>?_) (fun h201=>?_)
       ·have ph201:=of_decide_eq_true h201;refine go7 ?_;refine sQ (aW (v':=.pointer (some (slb (.slice p_l l.length c_l) (k*2+0)))) (iT (e:=lU) (l:=l) (k:=k) uG O O (SLe.sub Hl sn) o2_) O) O ?_;refine sQ (aW (v':=.pointer (some (slb (.slice p_l l.length c_l) (k*2+0)))) (z9 fdT O O) O) O (sQ (sM (u:=.int .i8 ((l.getD k cO).n)) (e:=lU) (l:=l) (k:=k) (o:=0) tyT O (SLe.sub Hl sn) (cP cO o2_) O) O ?_);refine sQ (aW (v':=.int .i64 ((W.cv ((l.getD k cO).n)).1)) (dA w9 sL O) O) O (sV (.int .i64 ((W.neg (W.cv ((l.getD k cO).n))).1)) O O (aZ O (eK [[cw ((W.neg (W.cv ((l.getD k cO).n))).1)],[cw 8]] [cw ((W.neg (W.cv ((l.getD k cO).n))).1),cw 8] lJ z_3 sF O dd_ O O ⟨rfl,rfl,rfl,rfl,rfl,rfl,trivial⟩ O (fun b202 hb202=>aZ O (cK (E:=27) (e:=elI) (l:=(aK [(W.neg (W.cv ((l.getD k cO).n))),(wl 8)])) (fun v=>v) aM O (fun w hw=>dE _ [(W.neg (W.cv ((l.getD k cO).n))),(wl 8)] w (SLe.ap hw (SLe.lit (e:=elW) (l:=[(W.neg (W.cv ((l.getD k cO).n))),(wl 8)]) m0 O (Nat.le_of_ble_eq_true O) O)) o3_) (fun p203 c204 L205 hF206=>?_))))));have hb207:=(fQ [(W.neg (W.cv ((l.getD k cO).n))),(wl 8)]);have hr208:=(fR [(W.neg (W.cv ((l.getD k cO).n))),(wl 8)]);refine aZ O (cK (E:=27) (e:=elI) (l:=(cZ q (aK [(W.neg (W.cv ((l.getD k cO).n))),(wl 8)]))) (fun v=>v) aM O (fun w hw=>mB _ q _ (aK [(W.neg (W.cv ((l.getD k cO).n))),(wl 8)]) w (aO hw hO_q (sR (sd lZ))) (aO hw hF206 lZ) o3_) (fun p209 c210 L211 hF212=>?_));have hb213:=(kI q (aK [(W.neg (W.cv ((l.getD k cO).n))),(wl 8)]));have hr214:=(kJ q (aK [(W.neg (W.cv ((l.getD k cO).n))),(wl 8)]));refine go4 ?_;refine sWi (((i+1):Nat):Int) O (go2 ?_);refine ⟨pp_,_,_,(sA (sR (sd (sR s0)))),(Nat.lt_succ_self _),(cZ q (aK [(W.neg (W.cv ((l.getD k cO).n))),(wl 8)])),(i+1),p209,c210,L211,(by exact (hT1.symm.trans (Eq.symm (aY h201 O))).symm),(Nat.lt_of_lt_of_le oo_ (Nat.le_of_lt_succ hq1)),⟨by omega,by omega,by with_reducible assumption⟩,⟨rfl,rfl,hF212⟩,rfl⟩
       have ph201:=of_decide_eq_false h201;refine go_ ?_;refine hK_u186 _ _ pp_ ⟨_,s0,q,i,p_q,c_q,L_q,(by exact hT1.symm.trans (Eq.symm (aT h201 O))),hinv1.2,⟨rfl,rfl,hO_q⟩,rfl⟩
     rintro g M ⟨q,i,p_q,c_q,L_q,hCu186,hPu186,⟨hg7,hg9,hO_q⟩,rfl⟩;refine gS2 hg7 hg9 ?_;clear hg7 hg9;have hm_q:=OwnG.max hO_q;refine go2 ?_;refine sWi (((k+1):Nat):Int) O (go2 ?_);refine ⟨pp_,_,_,s0,(Nat.lt_succ_self _),q,(k+1),p_q,c_q,L_q,(by exact (hT0.symm.trans (Eq.symm (aY h185 (trs (Eq.symm (apS hCu186)) O)))).symm),(Nat.lt_of_lt_of_le oo_ (Nat.le_of_lt_succ hq0)),⟨by omega,hPu186⟩,⟨rfl,rfl,hO_q⟩,rfl⟩
    have ph185:=of_decide_eq_false h185;refine go_ ?_;refine hK_u154 _ _ pp_ ⟨_,s0,p,k,p_p,c_p,L_p,(by exact hT0.symm.trans (Eq.symm (aT h185 O))),hinv0.2,⟨rfl,rfl,hO_p⟩,rfl⟩
  rintro g M ⟨p,k,p_p,c_p,L_p,hCu154,hPu154,⟨hg7,hg8,hO_p⟩,rfl⟩;refine gS2 hg7 hg8 ?_;clear hg7 hg8;have hm_p:=OwnG.max hO_p;refine go5 ?_;refine rt1 ?_
  have hE:(p:(List I))=(aP l neg wide):=by exact aT h8 (aY h146 (trs (Eq.symm (apS hCu154)) O))
  rw [← hE];exact ⟨_,rfl,⟨L_p,lZ,hO_p⟩⟩
 refine go5 ?_;refine gJ3 (rg [7,8,9] 18 26) (fun g M=>∃ (p:List I) (k:Nat) (p_p:Option Addr) (c_p:Nat) (L_p:List Blk),(bC l neg wide (l.length+1) (aK [(wl 1)]) 0)=(p,k)∧(p.length≤25∧Rgt p)∧(g 7 = .slice p_p p.length c_p∧g 8 = .int .i64 (k:Int)∧OwnG w0 27 elI (.slice p_p p.length c_p) p L_p)∧M=(L_p++(⟨b1,3,aX [cw 1]⟩::[]))) (fun K_u215 hK_u215=>?_) ?_
 ·refine go_ ?_;refine bP (rg [7,8,9] 18 26) (fun g nn M=>∃ (p:List I) (k:Nat) (p_p:Option Addr) (c_p:Nat) (L_p:List Blk),(bC l neg wide nn p k)=(bC l neg wide (l.length+1) (aK [(wl 1)]) 0)∧l.length - k<nn∧(k≤l.length∧p.length≤25∧Rgt p)∧(g 7 = .slice p_p p.length c_p∧g 8 = .int .i64 (k:Int)∧OwnG w0 27 elI (.slice p_p p.length c_p) p L_p)∧M=(L_p++(⟨b1,3,aX [cw 1]⟩::[]))) (l.length+1) ?start ?round
  case start=>exact ⟨_,s0,(aK [(wl 1)]),0,p2,c3,L4,rfl,oo_,⟨by omega,by omega,by with_reducible assumption⟩,⟨rfl,rfl,hF5⟩,rfl⟩
  case round =>
   rintro nn g M ⟨p,k,p_p,c_p,L_p,hT0,hq0,hinv0,⟨hg7,hg8,hO_p⟩,rfl⟩;obtain ⟨k0,rfl⟩:∃ m,nn=m+1:=⟨nn - 1,by omega⟩;refine gS2 hg7 hg8 ?_;clear hg7 hg8;have hm_p:=OwnG.max hO_p;refine go4 ?_;refine sQ (dJ uG O (SLe.sub Hl sn)) O (go2 ?_);refine aQ _ O (fun h246=>?_) (fun h246=>?_)
   ·have ph246:=of_decide_eq_true h246;refine go4 ?_;have hti:=(bA (l.getD k cO)).2;unfold I64 at hti;refine go2 ?_;refine gJ3 (rg [7,9] 24 20) (fun g M=>∃ (q:List I) (i:Nat) (p_q:Option Addr) (c_q:Nat) (L_q:List Blk),(bL l neg wide p k ((bA (l.getD k cO)).1.toNat+1) p 0)=(q,i)∧(q.length≤25∧Rgt q)∧(g 7 = .slice p_q q.length c_q∧g 9 = .int .i64 (i:Int)∧OwnG w0 27 elI (.slice p_q q.length c_q) q L_q)∧M=(L_q++(⟨b1,3,aX [cw 1]⟩::[]))) (fun K_u247 hK_u247=>?_) ?_
    ·refine go_ ?_;refine bP (rg [7,9] 24 20) (fun g nn M=>∃ (q:List I) (i:Nat) (p_q:Option Addr) (c_q:Nat) (L_q:List Blk),(bL l neg wide p k nn q i)=(bL l neg wide p k ((bA (l.getD k cO)).1.toNat+1) p 0)∧((bA (l.getD k cO)).1 - i).toNat<nn∧((i:Int)≤max 0 (bA (l.getD k cO)).1∧q.length≤25∧Rgt q)∧(g 7 = .slice p_q q.length c_q∧g 9 = .int .i64 (i:Int)∧OwnG w0 27 elI (.slice p_q q.length c_q) q L_q)∧M=(L_q++(⟨b1,3,aX [cw 1]⟩::[]))) ((bA (l.getD k cO)).1.toNat+1) ?start ?round
     case start=>exact ⟨_,s0,p,0,p_p,c_p,L_p,rfl,oo_,⟨by omega,hinv0.2⟩,⟨rfl,rfl,hO_p⟩,rfl⟩
     case round =>
      rintro nn g M ⟨q,i,p_q,c_q,L_q,hT1,hq1,hinv1,⟨hg7,hg9,hO_q⟩,rfl⟩;obtain ⟨k1,rfl⟩:∃ m,nn=m+1:=⟨nn - 1,by omega⟩;refine gS2 hg7 hg9 ?_;clear hg7 hg9;have hm_q:=OwnG.max hO_q;refine go5 ?_;refine sQ (aW (v':=.pointer (some (slb (.slice p_l l.length c_l) (k*2+0)))) (iT (e:=lU) (l:=l) (k:=k) uG O O (SLe.sub Hl sn) o2_) O) O ?_;refine sQ (jC (e:=lU) (l:=l) (k:=k) (o:=0) tyT O (SLe.sub Hl sn) (cP cO o2_) O) O ?_;refine sQ (bR aM (lB (l.getD k cO)) O) O (go2 ?_);refine aQ _ O (fun h262=>?_) (fun h262=>?_)
      ·have ph262:=of_decide_eq_true h262;refine go7 ?_;refine sQ (aW (v':=.pointer (some (slb (.slice p_l l.length c_l) (k*2+0)))) (iT (e:=lU) (l:=l) (k:=k) uG O O (SLe.sub Hl sn) o2_) O) O ?_;refine sQ (aW (v':=.pointer (some (slb (.slice p_l l.length c_l) (k*2+0)))) (z9 fdT O O) O) O (sQ (sM (u:=.int .i8 ((l.getD k cO).n)) (e:=lU) (l:=l) (k:=k) (o:=0) tyT O (SLe.sub Hl sn) (cP cO o2_) O) O ?_);refine sQ (aW (v':=.int .i64 ((W.cv ((l.getD k cO).n)).1)) (dA w9 sL O) O) O (sV (.int .i64 ((W.neg (W.cv ((l.getD k cO).n))).1)) O O (aZ O (eK [[cw ((W.neg (W.cv ((l.getD k cO).n))).1)],[cw 8]] [cw ((W.neg (W.cv ((l.getD k cO).n))).1),cw 8] lJ z_3 sF O dd_ O O ⟨rfl,rfl,rfl,rfl,rfl,rfl,trivial⟩ O (fun b263 hb263=>aZ O (cK (E:=27) (e:=elI) (l:=(aK [(W.neg (W.cv ((l.getD k cO).n))),(wl 8)])) (fun v=>v) aM O (fun w hw=>dE _ [(W.neg (W.cv ((l.getD k cO).n))),(wl 8)] w (SLe.ap hw (SLe.lit (e:=elW) (l:=[(W.neg (W.cv ((l.getD k cO).n))),(wl 8)]) m0 O (Nat.le_of_ble_eq_true O) O)) o3_) (fun p264 c265 L266 hF267=>?_))))));have hb268:=(fQ [(W.neg (W.cv ((l.getD k cO).n))),(wl 8)]);have hr269:=(fR [(W.neg (W.cv ((l.getD k cO).n))),(wl 8)]);refine aZ O (cK (E:=27) (e:=elI) (l:=(cZ q (aK [(W.neg (W.cv ((l.getD k cO).n))),(wl 8)]))) (fun v=>v) aM O (fun w hw=>mB _ q _ (aK [(W.neg (W.cv ((l.getD k cO).n))),(wl 8)]) w (aO hw hO_q (sR (sd lZ))) (aO hw hF267 lZ) o3_) (fun p270 c271 L272 hF273=>?_));have hb274:=(kI q (aK [(W.neg (W.cv ((l.getD k cO).n))),(wl 8)]));have hr275:=(kJ q (aK [(W.neg (W.cv ((l.getD k cO).n))),(wl 8)]));refine go4 ?_;refine sWi (((i+1):Nat):Int) O (go2 ?_);refine ⟨pp_,_,_,(sA (sR (sd (sR s0)))),(Nat.lt_succ_self _),(cZ q (aK [(W.neg (W.cv ((l.getD k cO).n))),(wl 8)])),(i+1),p270,c271,L272,(by exact (hT1.symm.trans (Eq.symm (aY h262 O))).symm),(Nat.lt_of_lt_of_le oo_ (Nat.le_of_lt_succ hq1)),⟨by omega,by omega,by with_reducible assumption⟩,⟨rfl,rfl,hF273⟩,rfl⟩
      have ph262:=of_decide_eq_false h262;refine go_ ?_;refine hK_u247 _ _ pp_ ⟨_,s0,q,i,p_q,c_q,L_q,(by exact hT1.symm.trans (Eq.symm (aT h262 O))),hinv1.2,⟨rfl,rfl,hO_q⟩,rfl⟩
    rintro g M ⟨q,i,p_q,c_q,L_q,hCu247,hPu247,⟨hg7,hg9,hO_q⟩,rfl⟩;refine gS2 hg7 hg9 ?_;clear hg7 hg9;have hm_q:=OwnG.max hO_q;refine go2 ?_;refine sWi (((k+1):Nat):Int) O (go2 ?_);refine ⟨pp_,_,_,s0,(Nat.lt_succ_self _),q,(k+1),p_q,c_q,L_q,(by exact (hT0.symm.trans (Eq.symm (aY h246 (trs (Eq.symm (apS hCu247)) O)))).symm),(Nat.lt_of_lt_of_le oo_ (Nat.le_of_lt_succ hq0)),⟨by omega,hPu247⟩,⟨rfl,rfl,hO_q⟩,rfl⟩
   have ph246:=of_decide_eq_false h246;refine go_ ?_;refine hK_u215 _ _ pp_ ⟨_,s0,p,k,p_p,c_p,L_p,(by exact hT0.symm.trans (Eq.symm (aT h246 O))),hinv0.2,⟨rfl,rfl,hO_p⟩,rfl⟩
 rintro g M ⟨p,k,p_p,c_p,L_p,hCu215,hPu215,⟨hg7,hg8,hO_p⟩,rfl⟩;refine gS2 hg7 hg8 ?_;clear hg7 hg8;have hm_p:=OwnG.max hO_p;refine go5 ?_;refine rt1 ?_
 have hE:(p:(List I))=(aP l neg wide):=by exact aT h8 (aT h146 (trs (Eq.symm (apS hCu215)) O))
 rw [← hE];exact ⟨_,rfl,⟨L_p,lZ,hO_p⟩⟩
theorem AI (vl:Value) (l:(List Zero9)) (neg:Bool) (wide:Bool) (a:Int) (b:Int) (w:World) (hl:Slr w lU vl l) (hpre:(-128≤a∧a≤127)∧(-128≤b∧b≤127)) :
    Calls prog 7 [vl,.bool neg,.bool wide,.int .i8 a,.int .i8 b].toArray w (fun e w'=>e = .returned (.bool (eG l neg wide a b))∧Ext w w'):=by
 obtain ⟨p_l,c_l,rfl⟩:=hl.form;refine cQ (N:=138) func7 O O zz_ ?_;obtain ⟨w0,rfl⟩:=nm w;have Hl:=hl.old;have hm_l:=hl.max;refine giI ?_;refine go4 ?_;refine gJv (rg [] 25 8) [(32,.bool (decide (3<(l.length:Int))||decide (b<a)))] (fun K2 J2=>?_) ?_
 ·refine go2 ?_;refine sQ (dJ uG O (SLe.sub Hl sn)) O (go_ ?_);refine sBB O (fun h2=>?_) (fun h2=>?_)
  ·have ph2:=of_decide_eq_true h2;refine go5 ?_;refine J2 _ _ pp_ s0 (bH (oI h2))
  have ph2:=of_decide_eq_false h2;refine go5 ?_;refine J2 _ _ pp_ s0 (bH (nS h2 O))
 intro g3;refine aQ _ O (fun h4=>?_) (fun h4=>?_)
 ·refine go_ ?_;refine sQ (bR aM kQ  rfl) O (go3 ?_);refine rt1 ?_;exact congrArg vS0 (show _=(eG l neg wide a b) from aY h4 O)
 have ph5:=of_decide_eq_false (Bool.or_eq_false_iff.1 h4).1;have ph6:=of_decide_eq_false (Bool.or_eq_false_iff.1 h4).2;refine go5 ?_;refine aZ O (cK (E:=27) (e:=elI) (l:=(aP l neg wide)) (fun v=>v) aM O (c1_ (uP _ l neg wide) Hl sn) (fun p7 c8 L9 hF10=>?_));have hb11:=(BA l neg wide);have hr12:=(BB l neg wide);refine go4 ?_;refine sQ (aW (v':=.int .i64 ((W.cv a).1)) (dA w9 sL O) O) O ?_;obtain ⟨r13,hr13⟩:=nm ((bB (W.cv a) (wl 8)):Rt);refine sC (AV [pI r13.n,pI r13.d]) aM (jB (W.cv a) (wl 8)) O O (by rw [hr13]) ?_;refine go_ ?_;intro b14 hb14;refine go4 ?_;refine sQ (aW (v':=.int .i64 ((W.cv b).1)) (dA w9 sL O) O) O ?_;obtain ⟨r15,hr15⟩:=nm ((bB (W.cv b) (wl 8)):Rt);refine sC (AV [pI r15.n,pI r15.d]) aM (jB (W.cv b) (wl 8)) O O (by rw [hr15]) ?_;refine go_ ?_;intro b16 hb16;refine go8 ?_;refine sQ (aW (v':=.int .i64 ((W.cv a).1)) (dA w9 sL O) O) O (sV (.int .i64 ((W.add (W.cv a) (wl 1)).1)) O O ?_);refine go2 ?_;refine gJ3 (rg [14,15,16] 47 22) (fun g M=>∃ (want:W) (n:W),(dK l neg wide a b r13 r15 (400) (wl 0) (W.add (W.cv a) (wl 1)))=(want,n)∧(g 14 = .int .i64 want.1∧g 15 = .int .i64 n.1)∧M=(⟨b16,29,aX [pI r15.n,pI r15.d]⟩::(⟨b14,29,aX [pI r13.n,pI r13.d]⟩::(L9++[])))) (fun K_u17 hK_u17=>?_) ?_
 ·refine go_ ?_;refine bP (rg [14,15,16] 47 22) (fun g nn M=>∃ (want:W) (n:W),(dK l neg wide a b r13 r15 nn want n)=(dK l neg wide a b r13 r15 (400) (wl 0) (W.add (W.cv a) (wl 1)))∧((W.cv b).1+1 - n.1).toNat<nn∧(True)∧(g 14 = .int .i64 want.1∧g 15 = .int .i64 n.1)∧M=(⟨b16,29,aX [pI r15.n,pI r15.d]⟩::(⟨b14,29,aX [pI r13.n,pI r13.d]⟩::(L9++[])))) (400) ?start ?round
  case start=>exact ⟨_,s0,(wl 0),(W.add (W.cv a) (wl 1)),rfl,(QJ hpre),trivial,⟨rfl,rfl⟩,rfl⟩
  case round =>
   rintro nn g M ⟨want,n,hT0,hq0,hinv0,⟨hg14,hg15⟩,rfl⟩;obtain ⟨k0,rfl⟩:∃ m,nn=m+1:=⟨nn - 1,by omega⟩;refine gS2 hg14 hg15 ?_;clear hg14 hg15;refine go4 ?_;refine sQ (aW (v':=.int .i64 ((W.cv b).1)) (dA w9 sL O) O) O (go2 ?_);refine aQ _ O (fun h24=>?_) (fun h24=>?_)
   ·have ph24:=of_decide_eq_true h24;refine go6 ?_;refine gJ3 (rg [14,16] 53 16) (fun g M=>∃ (wn:W) (k:Nat),(dL l neg wide a b r13 r15 want n r13 r15 (l.length+1) want 0)=(wn,k)∧(g 14 = .int .i64 wn.1∧g 16 = .int .i64 (k:Int))∧M=(⟨b16,29,aX [pI r15.n,pI r15.d]⟩::(⟨b14,29,aX [pI r13.n,pI r13.d]⟩::(L9++[])))) (fun K_u25 hK_u25=>?_) ?_
    ·refine go_ ?_;refine bP (rg [14,16] 53 16) (fun g nn M=>∃ (wn:W) (k:Nat),(dL l neg wide a b r13 r15 want n r13 r15 nn wn k)=(dL l neg wide a b r13 r15 want n r13 r15 (l.length+1) want 0)∧l.length - k<nn∧(k≤l.length)∧(g 14 = .int .i64 wn.1∧g 16 = .int .i64 (k:Int))∧M=(⟨b16,29,aX [pI r15.n,pI r15.d]⟩::(⟨b14,29,aX [pI r13.n,pI r13.d]⟩::(L9++[])))) (l.length+1) ?start ?round
     case start=>exact ⟨_,s0,want,0,rfl,oo_,oo_,⟨rfl,rfl⟩,rfl⟩
     case round =>
      rintro nn g M ⟨wn,k,hT1,hq1,hinv1,⟨hg14,hg16⟩,rfl⟩;obtain ⟨k1,rfl⟩:∃ m,nn=m+1:=⟨nn - 1,by omega⟩;refine gS2 hg14 hg16 ?_;clear hg14 hg16;refine go4 ?_;refine sQ (dJ uG O (SLe.sub Hl sn)) O (go2 ?_);refine aQ _ O (fun h28=>?_) (fun h28=>?_)
      ·have ph28:=of_decide_eq_true h28;refine go6 ?_;refine sQ (aW (v':=.pointer (some (slb (.slice p_l l.length c_l) (k*2+0)))) (iT (e:=lU) (l:=l) (k:=k) uG O O (SLe.sub Hl sn) o2_) O) O ?_;refine sQ (aW (v':=.pointer (some (slb (.slice p_l l.length c_l) (k*2+0)))) (z9 fdT O O) O) O (sQ (sM (u:=.int .i8 ((l.getD k cO).n)) (e:=lU) (l:=l) (k:=k) (o:=0) tyT O (SLe.sub Hl sn) (cP cO o2_) O) O ?_);refine sQ (aW (v':=.int .i64 ((W.cv ((l.getD k cO).n)).1)) (dA w9 sL O) O) O (go3 ?_);refine aQ _ O (fun h29=>?_) (fun h29=>?_)
       ·refine go2 ?_;refine sV (.int .i64 ((W.add wn (wl 1)).1)) O O ?_;refine go3 ?_;refine hK_u25 _ _ pp_ ⟨_,s0,(W.add wn (wl 1)),k,(by exact hT1.symm.trans (Eq.symm (aY h28 (aY h29 O)))),⟨rfl,rfl⟩,rfl⟩
       refine go3 ?_;refine sWi (((k+1):Nat):Int) O (go2 ?_);refine ⟨pp_,_,_,s0,(Nat.lt_succ_self _),wn,(k+1),(by exact (hT1.symm.trans (Eq.symm (aY h28 (aT h29 O)))).symm),(Nat.lt_of_lt_of_le oo_ (Nat.le_of_lt_succ hq1)),oo_,⟨rfl,rfl⟩,rfl⟩
      have ph28:=of_decide_eq_false h28;refine go_ ?_;refine hK_u25 _ _ pp_ ⟨_,s0,wn,k,(by exact hT1.symm.trans (Eq.symm (aT h28 O))),⟨rfl,rfl⟩,rfl⟩
    rintro g M ⟨wn,k,hCu25,⟨hg14,hg16⟩,rfl⟩;refine gS2 hg14 hg16 ?_;clear hg14 hg16;refine go2 ?_;refine sV (.int .i64 ((W.add n (wl 1)).1)) O O ?_;refine go2 ?_;refine ⟨pp_,_,_,s0,(Nat.lt_succ_self _),wn,(W.add n (wl 1)),(by exact (hT0.symm.trans (Eq.symm (aY h24 (trs (Eq.symm (apS hCu25)) O)))).symm),(Nat.lt_of_lt_of_le (Z4 h24 (bm_ hpre)) (Nat.le_of_lt_succ hq0)),trivial,⟨rfl,rfl⟩,rfl⟩
   have ph24:=of_decide_eq_false h24;refine go_ ?_;refine hK_u17 _ _ pp_ ⟨_,s0,want,n,(by exact hT0.symm.trans (Eq.symm (aT h24 O))),⟨rfl,rfl⟩,rfl⟩
 rintro g M ⟨want,n,hCu17,⟨hg14,hg15⟩,rfl⟩;refine gS2 hg14 hg15 ?_;clear hg14 hg15;refine go4 ?_;refine sFc (.tuple #[.int .i64 (((bI (aP l neg wide) r13 r15).1).1),.int .i64 (((bI (aP l neg wide) r13 r15).2).1)]) O (fun w hw=>mF _ (aP l neg wide) r13 r15 w (aO hw hF10 (sd (sd lZ))) rI) O O (o2 ?_);refine sFc (.bool (eC (aP l neg wide) r13 r15 (wl 0))) O (fun w hw=>vW _ (aP l neg wide) r13 r15 (wl 0) w (aO hw hF10 (sd (sd lZ)))) O O ?_;refine go7 ?_;refine aQ _ O (fun h30=>?_) (fun h30=>?_)
 ·refine gJv [10,82,83,84,85,86] [(10,.bool (fM&&(!(eC (aP l neg wide) r13 r15 (wl 0)))))] (fun K17 J17=>?_) ?_
  ·refine go_ ?_;refine sQ (bR aM kQ  rfl) O ?_;refine sBB O (fun h32=>?_) (fun h32=>?_)
   ·refine go5 ?_;refine J17 _ _ pp_ s0 (bH (cG h32 O))
   refine go5 ?_;refine J17 _ _ pp_ s0 (bH (hJ h32))
  intro g33;refine go_ ?_;refine rt1 ?_
  subst_vars;exact congrArg vS0 (show _=(eG l neg wide a b) from aT h4 (trs (Eq.symm (apS hCu17)) (aY h30 O)))
 refine go2 ?_;refine gJv [87,88,89,90,91,92,93] [(93,.bool ((((bI (aP l neg wide) r13 r15).1).1 != want.1)||(((bI (aP l neg wide) r13 r15).2).1 != 0)))] (fun K19 J19=>?_) ?_
 ·refine go4 ?_;refine sBB O (fun h35=>?_) (fun h35=>?_)
  ·refine go4 ?_;refine J19 _ _ pp_ s0 (bH (oI h35))
  refine go4 ?_;refine J19 _ _ pp_ s0 (bH (nS h35 O))
 intro g36;refine aQ _ O (fun h37=>?_) (fun h37=>?_)
 ·refine go4 ?_;refine rt1 ?_
  subst_vars;exact congrArg vS0 (show _=(eG l neg wide a b) from aT h4 (trs (Eq.symm (apS hCu17)) (aT h30 (aY h37 O))))
 refine go7 ?_;refine sQ (aW (v':=.int .i64 ((W.cv a).1)) (dA w9 sL O) O) O (sV (.int .i64 ((W.mul (wl 2) (W.cv a)).1)) O O ?_);refine go2 ?_;refine gJ3 (rg [20,21,22] 97 17) (fun g M=>∃ (never:Bool) (m:W),(dM l neg wide a b r13 r15 want n r13 r15 (800) true (W.mul (wl 2) (W.cv a)))=(never,m)∧(g 20 = .bool never∧g 21 = .int .i64 m.1)∧M=(⟨b16,29,aX [pI r15.n,pI r15.d]⟩::(⟨b14,29,aX [pI r13.n,pI r13.d]⟩::(L9++[])))) (fun K_u38 hK_u38=>?_) ?_
 ·refine go_ ?_;refine bP (rg [20,21,22] 97 17) (fun g nn M=>∃ (never:Bool) (m:W),(dM l neg wide a b r13 r15 want n r13 r15 nn never m)=(dM l neg wide a b r13 r15 want n r13 r15 (800) true (W.mul (wl 2) (W.cv a)))∧((W.mul (wl 2) (W.cv b)).1+1 - m.1).toNat<nn∧(True)∧(g 20 = .bool never∧g 21 = .int .i64 m.1)∧M=(⟨b16,29,aX [pI r15.n,pI r15.d]⟩::(⟨b14,29,aX [pI r13.n,pI r13.d]⟩::(L9++[])))) (800) ?start ?round
  case start=>exact ⟨_,s0,true,(W.mul (wl 2) (W.cv a)),rfl,(OA hpre),trivial,⟨rfl,rfl⟩,rfl⟩
  case round =>
   rintro nn g M ⟨never,m,hT2,hq2,hinv2,⟨hg20,hg21⟩,rfl⟩;obtain ⟨k2,rfl⟩:∃ m,nn=m+1:=⟨nn - 1,by omega⟩;refine gS2 hg20 hg21 ?_;clear hg20 hg21;refine go4 ?_;refine sQ (aW (v':=.int .i64 ((W.cv b).1)) (dA w9 sL O) O) O (sV (.int .i64 ((W.mul (wl 2) (W.cv b)).1)) O O ?_);refine go2 ?_;refine aQ _ O (fun h47=>?_) (fun h47=>?_)
   ·have ph47:=of_decide_eq_true h47;refine go_ ?_;refine gJv (rg [20,22] 104 10) [(20,.bool (never&&decide (0≤((eA (aP l neg wide) (bB m (wl 16))).s).1)))] (fun K26 J26=>?_) ?_
    ·refine go4 ?_;refine sQ (bR aM (jB m (wl 16)) O) O ?_;refine sFc (AV [cw (((eA (aP l neg wide) (bB m (wl 16))).s).1),cb ((eA (aP l neg wide) (bB m (wl 16))).ok)]) O (fun w hw=>wU _ (aP l neg wide) (bB m (wl 16)) w (aO hw hF10 (sd (sd lZ))) oo_) O O ?_;refine go_ ?_;intro b52 hb52;refine go4 ?_;refine sBB O (fun h53=>?_) (fun h53=>?_)
     ·refine go6 ?_;refine J26 _ _ pp_ (sd s0) (bH (cG h53 O))
     refine go6 ?_;refine J26 _ _ pp_ (sd s0) (bH (hJ h53))
    intro g54;refine go2 ?_;refine sV (.int .i64 ((W.add m (wl 1)).1)) O O ?_;refine go2 ?_;refine ⟨pp_,_,_,s0,(Nat.lt_succ_self _),(never&&decide (0≤((eA (aP l neg wide) (bB m (wl 16))).s).1)),(W.add m (wl 1)),(by exact (hT2.symm.trans (Eq.symm (aY h47 O))).symm),(Nat.lt_of_lt_of_le (Z4 h47 (YY hpre)) (Nat.le_of_lt_succ hq2)),trivial,⟨rfl,rfl⟩,rfl⟩
   have ph47:=of_decide_eq_false h47;refine go_ ?_;refine hK_u38 _ _ pp_ ⟨_,s0,never,m,(by exact hT2.symm.trans (Eq.symm (aT h47 O))),⟨rfl,rfl⟩,rfl⟩
 rintro g M ⟨never,m,hCu38,⟨hg20,hg21⟩,rfl⟩;refine gS2 hg20 hg21 ?_;clear hg20 hg21;refine go4 ?_;refine sFc (.tuple #[.bool ((aN (aP l neg wide) r13 r15).1),.int .i64 (((aN (aP l neg wide) r13 r15).2).1)]) O (fun w hw=>jJ _ (aP l neg wide) r13 r15 w (aO hw hF10 (sd (sd lZ))) rI) O O (vL ?_);refine aQ _ O (fun h55=>?_) (fun h55=>?_)
 ·refine gJv [10,123,124,125,126,127] [(10,.bool (fM&&(!(eC (aP l neg wide) r13 r15 (wl 0)))))] (fun K28 J28=>?_) ?_
  ·refine go_ ?_;refine sQ (bR aM kQ  rfl) O ?_;refine sBB O (fun h57=>?_) (fun h57=>?_)
   ·refine go5 ?_;refine J28 _ _ pp_ s0 (bH (cG h57 O))
   refine go5 ?_;refine J28 _ _ pp_ s0 (bH (hJ h57))
  intro g58;refine go_ ?_;refine rt1 ?_
  subst_vars;exact congrArg vS0 (show _=(eG l neg wide a b) from aT h4 (trs (Eq.symm (apS hCu17)) (aT h30 (aT h37 (trs (Eq.symm (apS hCu38)) (aY h55 O))))))
 refine go_ ?_;refine gJv (rg [10] 128 10) [(10,.bool (fM&&(((aN (aP l neg wide) r13 r15).1==never)&&(((aN (aP l neg wide) r13 r15).2).1==0))))] (fun K29 J29=>?_) ?_
 ·refine go_ ?_;refine sQ (bR aM kQ  rfl) O ?_;refine sBB O (fun h61=>?_) (fun h61=>?_)
  ·refine go2 ?_;refine sQ (aW (v':=.bool ((aN (aP l neg wide) r13 r15).1==never)) (QM AM O O) O) O (go_ ?_);refine sBB O (fun h62=>?_) (fun h62=>?_)
   ·refine go5 ?_;refine J29 _ _ pp_ s0 (bH (cG h61 (cG h62 O)))
   refine go5 ?_;refine J29 _ _ pp_ s0 (bH (cG h61 (hJ h62)))
  refine o2 ?_;refine J29 _ _ pp_ s0 (bH (hJ h61))
 intro g63;refine go_ ?_;refine rt1 ?_
 subst_vars;exact congrArg vS0 (show _=(eG l neg wide a b) from aT h4 (trs (Eq.symm (apS hCu17)) (aT h30 (aT h37 (trs (Eq.symm (apS hCu38)) (aT h55 O))))))
end Go.Proofs.YtokjfhfiodopdaaGreat
namespace Go.Num
namespace QP
theorem ED {f:QP} {z:Rat} (hz:f.ev z≠0):∃ δ,0<δ∧∀ c d,c≤z→z≤d→d - c≤δ→Rb c d f:=by
 obtain ⟨M,hM,hm⟩:=Ab.self z
 obtain ⟨ε,hε,he⟩:∃ ε:Rat,0<ε∧¬ Ab (f.ev z) ε:=by
  rcases Rat.le_total (a:=0) (b:=f.ev z) with k|k
  ·exact ⟨f.ev z*(1 / 2),by grind,fun h=>by unfold Ab at h;grind⟩
  exact ⟨-f.ev z*(1 / 2),by grind,fun h=>by unfold Ab at h;grind⟩
 obtain ⟨δ,hδ,h⟩:=be_ (M+1) f hε;obtain ⟨e,he0,he1,he2⟩:=yI hδ (show (0:Rat)<1 by decide);refine ⟨e,he0,fun c d h1 h2 h3=>?_⟩;rcases h c d (by unfold Ab at hm ⊢;grind) (by unfold Ab at hm ⊢;grind) (by grind) (by grind) with k|k
 ·exact k
 exact absurd (k z h1 h2) he
section
variable {f g:QP} {l:List QP} {κ u v:Rat}
theorem cnt (hc:Chain (f::g::l)) (hκ:0<κ) (hD:∀ x,g.ev x=κ*(D f).ev x) (hz:∀ x,¬ (f.ev x=0∧(D f).ev x=0)) (huv:u<v) (hin:∀ c d,u<c→c≤d→d<v→Rb c d f) :
  V (f::g::l) u=V (f::g::l) v+(if f.ev v=0 then 1 else 0):=by
 -- to the right of u
 have hr:∃ δ,0<δ∧∀ x,u<x→x<v→x - u≤δ→V (f::g::l) u=V (f::g::l) x:=by
  by_cases h0:f.ev u=0
  ·obtain ⟨δ,hδ,hb⟩:=ED (f:=D f) (z:=u) fun e=>hz u ⟨h0,e⟩
   refine ⟨δ,hδ,fun x h1 h2 h3=>?_⟩;have hx:f.ev x≠0:=(hin x x h1 Rat.le_refl h2).ne Rat.le_refl Rat.le_refl;have rb:=hb u x Rat.le_refl (by grind) h3;have k:=QU hc hκ hD rb h1;obtain ⟨η,hη,rb|rb⟩:=rb
   ·have:=PY hη rb h1
    rw [h0] at this k;rcases k with k|k
    ·rw [if_neg (by grind),if_neg (by grind)] at k;omega
    rw [if_pos this,if_neg (by grind)] at k;have:=(IW hc hκ hD h1).1;omega
   have:=WS hη rb h1;rw [h0] at this k;rcases k with k|k
   ·rw [if_pos this,if_neg (by grind)] at k
    have:=(IW hc hκ hD h1).1;omega
   rw [if_neg (by grind),if_neg (by grind)] at k;omega
  obtain ⟨δ,hδ,hb⟩:=ED (f:=f) (z:=u) h0;exact ⟨δ,hδ,fun x h1 h2 h3=>st_rb hc hκ hD h1 (hb u x Rat.le_refl (by grind) h3)⟩
 have hl:∃ δ,0<δ∧∀ x,u<x→x<v→v - x≤δ→V (f::g::l) x=V (f::g::l) v+(if f.ev v=0 then 1 else 0):=by
  by_cases h0:f.ev v=0
  ·obtain ⟨δ,hδ,hb⟩:=ED (f:=D f) (z:=v) fun e=>hz v ⟨h0,e⟩
   refine ⟨δ,hδ,fun x h1 h2 h3=>?_⟩;rw [if_pos h0];have hx:f.ev x≠0:=(hin x x h1 Rat.le_refl h2).ne Rat.le_refl Rat.le_refl;have rb:=hb x v (by grind) Rat.le_refl h3;have k:=QU hc hκ hD rb h2;have hne:V (f::g::l) x≠V (f::g::l) v:=fun e=>((IW hc hκ hD h2).2 e).1 h0;have hle:=(IW hc hκ hD h2).1;rw [h0] at k;rcases k with k|k
   ·rw [if_neg (show ¬ (0:Rat)<0 by grind)] at k
    split at k<;>omega
   rw [if_neg (show ¬ (0:Rat)<0 by grind)] at k
   split at k<;>omega
  obtain ⟨δ,hδ,hb⟩:=ED (f:=f) (z:=v) h0;refine ⟨δ,hδ,fun x h1 h2 h3=>?_⟩;rw [if_neg h0];exact st_rb hc hκ hD h2 (hb x v (by grind) Rat.le_refl h3)
 obtain ⟨δ1,p1,q1⟩:=hr;obtain ⟨δ2,p2,q2⟩:=hl;obtain ⟨e,e0,e1,e2⟩:=yI p1 p2;obtain ⟨e',e0',e1',e2'⟩:=yI e0 (show (0:Rat)<(v - u)*(1 / 4) by grind);have a1:=q1 (u+e') (by grind) (by grind) (by grind);have a2:=q2 (v - e') (by grind) (by grind) (by grind);have a3:=st_rb hc hκ hD (show u+e'<v - e' by grind) (hin (u+e') (v - e') (by grind) (by grind) (by grind));omega
end
def lf (n:Int):QP:=C ((-n:Int):Rat)+C 8*X
theorem X2 (n:Int) (x:Rat):(lf n).ev x=8*x - (n:Rat):=by
 unfold lf;rw [ev_add,ev_mul,ev_C,ev_C,aU_,Rat.intCast_neg];grind
inductive Fp:List Int→QP→Prop
 | one (t:Rat) (ht:t≠0):Fp [] (C t)
 | wide:Fp [] (C 1+X*X)
 | step {l:List Int} {f:QP} (n:Int) (h:Fp l f):Fp (n::l) (f*lf n)
theorem d9_ (x:Rat):0≤x*x:=by
 rcases Rat.le_total (a:=0) (b:=x) with k|k
 ·exact Rat.mul_nonneg k k
 have:=Rat.mul_nonneg (show 0 ≤ -x by grind) (show 0 ≤ -x by grind);grind
theorem Fp.aw {l:List Int} {f:QP} (h:Fp l f) {c d:Rat} (hcd:c≤d) (hn:∀ n∈l,(n:Rat)<8*c∨8*d<(n:Rat)):Aw c d f:=by
 induction h with
 | one t ht =>
  rcases Rat.le_total (a:=0) (b:=t) with k|k
  ·exact ⟨t,by grind,fun x _ _=>.inl (by rw [ev_C];exact Rat.le_refl)⟩
  exact ⟨-t,by grind,fun x _ _=>.inr (by rw [ev_C];grind)⟩
 | wide=>exact ⟨1,by decide,fun x _ _=>.inl (by rw [ev_add,ev_C,ev_mul,aU_];have:=d9_ x;grind)⟩
 | step n h ih =>
  refine (ih fun m hm=>hn m (List.mem_cons_of_mem _ hm)).mul ?_;rcases hn n (List.mem_cons_self) with k|k
  ·exact ⟨8*c - (n:Rat),by grind,fun x h1 h2=>.inl (by rw [X2];grind)⟩
  exact ⟨(n:Rat) - 8*d,by grind,fun x h1 h2=>.inr (by rw [X2];grind)⟩
theorem Fp.zero {l:List Int} {f:QP} (h:Fp l f) {n:Int} (hn:n∈l) {x:Rat} (hx:8*x=(n:Rat)):f.ev x=0:=by
 induction h with
 | one t ht=>cases hn
 | wide=>cases hn
 | step m h ih =>
  rw [ev_mul];rcases List.mem_cons.1 hn with e|e
  ·subst e;rw [X2,show 8*x - (n:Rat)=0 by grind,Rat.mul_zero]
  rw [ih e,Rat.zero_mul]
theorem Fp.rb {l:List Int} {f:QP} (h:Fp l f) {c d:Rat} (hcd:c≤d) (hn:∀ n∈l,(n:Rat)<8*c∨8*d<(n:Rat)):Rb c d f:=(h.aw hcd hn).rb hcd
theorem int_gap {k n:Int} {c d:Rat} (h1:(k:Rat)<8*c) (h2:8*d<((k+1:Int):Rat)):(n:Rat)<8*c∨8*d<(n:Rat):=by
 rcases (show n<k+1∨k+1≤n by omega) with a|a
 ·left
  have:(n:Rat)≤(k:Rat):=Rat.intCast_le_intCast.2 (by omega)
  grind
 right
 have:((k+1:Int):Rat)≤(n:Rat):=Rat.intCast_le_intCast.2 a
 grind
theorem Fp.nn {l:List Int} {f:QP} (h:Fp l f) {a b:Int} (hs:∀ m:Int,2*a≤m→m≤2*b→∀ x:Rat,16*x=(m:Rat)→0≤f.ev x) {A B:Rat} (hA:8*A=(a:Rat)) (hB:8*B=(b:Rat)):NN f A B:=fun x x1 x2=>by
 obtain ⟨k,hk1,hk2⟩:∃ k:Int,(k:Rat)≤8*x∧8*x<((k+1:Int):Rat):=⟨(8*x).floor,Rat.floor_le _,Rat.lt_floor_add_one _⟩
 have ak:a≤k:=by
  have:(a:Rat)<((k+1:Int):Rat):=by grind
  have:=Rat.intCast_lt_intCast.1 this;omega
 by_cases e:8*x=(k:Rat)
 ·have kb:k≤b:=by
   have:(k:Rat)≤(b:Rat):=by grind
   exact Rat.intCast_le_intCast.1 this
  exact hs (2*k) (by omega) (by omega) x (by rw [Rat.intCast_mul];have:((2:Int):Rat)=2:=rfl;rw [this];grind)
 have kb:k<b:=by
  have:(k:Rat)<(b:Rat):=by grind
  exact Rat.intCast_lt_intCast.1 this
 have e1:((k+1:Int):Rat)=(k:Rat)+1:=by rw [Rat.intCast_add];rfl
 rw [e1] at hk2;obtain ⟨y,hy⟩:∃ y:Rat,16*y=2*(k:Rat)+1:=⟨(2*(k:Rat)+1)*(1 / 16),by grind⟩
 have py:=hs (2*k+1) (by omega) (by omega) y (by
  rw [Rat.intCast_add,Rat.intCast_mul];have:((2:Int):Rat)=2:=rfl;have:((1:Int):Rat)=1:=rfl
  grind)
 rcases Rat.le_total (a:=x) (b:=y) with k1|k1
 ·have hr:=h.rb k1 fun n _=>int_gap (k:=k) (by grind) (by rw [e1];grind)
  have hy0:=hr.ne k1 Rat.le_refl;exact Rat.le_of_lt (hr.pos k1 Rat.le_refl Rat.le_refl k1 (by grind))
 have hr:=h.rb k1 fun n _=>int_gap (k:=k) (by grind) (by rw [e1];grind);have hy0:=hr.ne Rat.le_refl k1;exact Rat.le_of_lt (hr.pos Rat.le_refl k1 k1 Rat.le_refl (by grind))
end QP
end Go.Num
