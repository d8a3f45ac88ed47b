/- Lemmas: what they ask stands in their statements. -/
import Derived.Test.YtokjfhfiodopdaaGreatUKx
set_option linter.unusedSimpArgs false
set_option linter.unusedVariables false
set_option maxHeartbeats 8000000
set_option maxRecDepth 20000
namespace Go.Proofs.YtokjfhfiodopdaaGreat
open Go.Kn Go.Num Tryz
attribute [local irreducible] Go.Kn.W WL PL OpQ OpR OpS
theorem o7 (va vb:Value) (la lb:List Nat) (hDa:DL la) (hDb:DL lb) (hna:la.length≤200) (hnb:lb.length≤200) (w:World) (hva:Sl w va la) (hvb:Sl w vb lb) :
    Calls prog 129 [va,vb].toArray w (fun e w'=>∃ v,e = .returned v∧Ext w w'∧Slf w.heap.size w' v (dl (dv la+dv lb))):=by
 refine vH (N:=37) func129 rfl rfl (by simp) ?_;obtain ⟨w0,rfl⟩:∃ w0,w0=w:=⟨_,rfl⟩;simp only [bS,Nat.reduceAdd];refine HW ?_;refine cO [5,6,7,8,9,10,11,12,13,14,15,16,17,18,19,20,21,22,23,24,25,26,27,28,29,30,31,32,33,34] (fun g nn M=>∃ (k:Nat) (v:Value) (l:List Nat) (L:List Blk),(g 5=v∧g 6 = .int .i64 ((cD (dv la) (dv lb) k:Nat):Int)∧g 7 = .int .i64 (k:Int))∧M=L ++ []∧nn=max la.length lb.length+1 - k∧(k≤max la.length lb.length+1∧OwnL w0 3 v l L∧DL l∧l.length=k∧dv l=(dv la+dv lb) % 65536 ^ k)) (max la.length lb.length+1 - 0) ?start ?round
 case start =>
  refine ⟨_,(List.Sublist.refl _),0,_,[],[],⟨?a5,?a6,?a7⟩,?mem0,rfl,⟨Nat.zero_le _,.nil,DL.nil,rfl,by simp [dv,Nat.mod_one]⟩⟩
  case mem0=>rfl
  case a5=>rfl
  case a6=>rw [by_];rfl
  case a7=>rfl
 case round =>
  rintro nn g M ⟨k,v,l,L,⟨hg5,hg6,hg7⟩,rfl,hmeas,⟨hk,hO,hD,hlen,hdv⟩⟩;subst nn;simp only [eO,hg5,hg6,hg7];clear hg5 hg6 hg7;refine go4 ?_;refine sQ (m8 kR rfl hva.old) rfl (go_ ?_);refine sQ (m8 kR rfl hvb.old) rfl (sQ (aq_ rfl rfl) rfl (sQ (aV (jE rfl rfl) (congrArg (Value.int .i64) (j9 oo_))) rfl (go2 ?_)));refine aT _ rfl (fun hc=>?_) (fun hc=>?_)
  ·replace hc:=cB_ hc
   have hc:k<max la.length lb.length+1:=by omega
   refine go6 ?_;refine sQ (bN aJ rfl (fun w hw=>gR va la k w (SL.sl (M:=_) hva.old hw))) rfl (go2 ?_);refine sQ (bN aJ rfl (fun w hw=>gR vb lb k w (SL.sl (M:=_) hvb.old hw))) rfl (go2 ?_);refine sQ (aV (jE rfl rfl) (congrArg (Value.int .i64) ((show _=((cD (dv la) (dv lb) k+dg (dv la) k+dg (dv lb) k:Nat):Int) by rw [o3 la k hDa,o3 lb k hDb];exact gG_ (nU _ _) (nU _ _) (cM_ _ _ _))))) rfl (go5 ?_);refine sQ (aV (t7 rfl rfl dd_) (QQ _)) rfl (bJ rfl (jS pF z_3 z8 rfl dd_ rfl (CG _) (fun b31 hb31=>bJ rfl (AR pF SI rfl rfl hO (SL.mine (l:=[(cD (dv la) (dv lb) k+dg (dv la) k+dg (dv lb) k) % 65536]) (.head _) (Nat.le_refl _)) (List.sublist_cons_self _ _) (by simp;omega) (fun v' L' hO'=>?_)))));refine go4 ?_;refine sQ (aV (tL rfl rfl dd_) (congrArg (Value.int .i64) (fZ_ (by have:=cM_ (dv la) (dv lb) k;have:=nU (dv la) k;have:=nU (dv lb) k;omega)))) rfl (go4 ?_);refine sQ (aV (jE rfl rfl) (congrArg (Value.int .i64) (j9 oo_))) rfl (go2 ?_);refine ⟨pp_,_,_,(List.Sublist.refl _),oo_,k+1,_,_,_,⟨?s5,?s6,?s7⟩,?mem,rfl,⟨by omega,hO',hD.append (DL.one (Nat.mod_lt _ dd_)),by simp [hlen],SM hlen hdv⟩⟩
   case mem=>rfl
   case s5=>rfl
   case s6=>rw [← QA];rfl
   case s7=>rfl
  replace hc:=cB_ hc
  obtain rfl:k=max la.length lb.length+1:=by omega
  refine go3 ?_;refine sQ (bN aJ rfl (fun w hw=>jM v l hD oo_ w (SL.sl (hO.sl lZ) hw))) rfl (go3 ?_);refine bP rfl (.inr rfl) rfl ?_;exact vX hD (by rw [hdv,WN hDa hDb]) (hO.slf lZ)
theorem lF (va vb:Value) (la lb:List Nat) (hDa:DL la) (hDb:DL lb) (hna:la.length≤200) (hnb:lb.length≤200) (hle:dv lb≤dv la) (w:World) (hva:Sl w va la) (hvb:Sl w vb lb) :
    Calls prog 131 [va,vb].toArray w (fun e w'=>∃ v,e = .returned v∧Ext w w'∧Slf w.heap.size w' v (dl (dv la - dv lb))):=by
 refine vH (N:=35) func131 rfl rfl (by simp) ?_;obtain ⟨w0,rfl⟩:∃ w0,w0=w:=⟨_,rfl⟩;simp only [bS,Nat.reduceAdd];refine HW ?_;refine cO [5,6,7,8,9,10,11,12,13,14,15,16,17,18,19,20,21,22,23,24,25,26,27,28,29,30,31,32] (fun g nn M=>∃ (k:Nat) (v:Value) (l:List Nat) (L:List Blk) (c:Nat),(g 5=v∧g 6 = .int .i64 (c:Int)∧g 7 = .int .i64 (k:Int))∧M=L ++ []∧nn=la.length - k∧(k≤la.length∧OwnL w0 3 v l L∧DL l∧l.length=k∧c≤1∧dv l+dv lb % 65536 ^ k=dv la % 65536 ^ k+c * 65536 ^ k)) (la.length - 0) ?start ?round
 case start =>
  refine ⟨_,(List.Sublist.refl _),0,_,[],[],0,⟨?a5,?a6,?a7⟩,?mem0,rfl,⟨Nat.zero_le _,.nil,DL.nil,rfl,by decide,by simp [dv,Nat.mod_one]⟩⟩
  case mem0=>rfl
  case a5=>rfl
  case a6=>rfl
  case a7=>rfl
 case round =>
  rintro nn g M ⟨k,v,l,L,c,⟨hg5,hg6,hg7⟩,rfl,hmeas,⟨hk,hO,hD,hlen,hcb,hdv⟩⟩;subst nn;simp only [eO,hg5,hg6,hg7];clear hg5 hg6 hg7;refine go4 ?_;refine sQ (m8 kR rfl hva.old) rfl (go2 ?_);refine aT _ rfl (fun hc=>?_) (fun hc=>?_)
  ·replace hc:=cB_ hc
   have hc:k<la.length:=by omega
   refine go4 ?_;refine rE sn 11 [] [] (go2 ?_);refine pQ rfl (y3 kR rfl rfl hva.old oo_) (pQ rfl (vM tyT rfl hva.old oo_) (go2 ?_));refine pQ rfl (bN aJ rfl (fun w hw=>gR vb lb k w (SL.sl (M:=_) hvb.old hw))) (go2 ?_);refine pQ rfl (aV (oD rfl rfl) (congrArg (Value.int .i64) ((show _=((dg (dv la) k:Nat):Int) - ((dg (dv lb) k:Nat):Int) - (c:Int) by rw [o3 la k hDa,o3 lb k hDb];exact g2_ (nU _ _) (nU _ _) hcb)))) (oS ?_);refine aT _ rfl (fun h26=>?_) (fun h26=>?_)
   ·replace h26:=cB_ h26
    refine oS ?_;refine sQ (aV (kE rfl) (show _=IV (md (dg (dv la) k) (dg (dv lb) k) c) by first | exact Z8 (nU _ _) (nU _ _) hcb h26 | exact Z9 h26)) rfl ?_;refine bJ rfl (jS pF z_3 z8 rfl dd_ rfl (CG _) (fun b31 hb31=>bJ rfl (AR pF SI rfl rfl hO (SL.mine (l:=[md (dg (dv la) k) (dg (dv lb) k) c]) (.head _) (Nat.le_refl _)) (List.sublist_cons_self _ _) (by simp;omega) (fun v' L' hO'=>?_))));refine go4 ?_;refine sQ (aV (jE rfl rfl) (congrArg (Value.int .i64) (j9 oo_))) rfl (go2 ?_);refine ⟨pp_,_,_,(List.Sublist.refl _),oo_,k+1,_,_,_,mb (dg (dv la) k) (dg (dv lb) k) c,⟨?s5,?s6,?s7⟩,?mem,rfl,⟨by omega,hO',hD.append (DL.one (c0_ (nU _ _) (nU _ _) hcb)),by simp [hlen],cY_ _ _ _,FT hlen hcb hdv⟩⟩
    case mem=>rfl
    case s5=>rfl
    case s6=>first | exact Z4 h26 | exact Z5 h26
    case s7=>rfl
   replace h26:=cB_ h26
   refine go3 ?_;refine sQ (aV (kE rfl) (show _=IV (md (dg (dv la) k) (dg (dv lb) k) c) by first | exact Z8 (nU _ _) (nU _ _) hcb h26 | exact Z9 h26)) rfl ?_;refine bJ rfl (jS pF z_3 z8 rfl dd_ rfl (CG _) (fun b31 hb31=>bJ rfl (AR pF SI rfl rfl hO (SL.mine (l:=[md (dg (dv la) k) (dg (dv lb) k) c]) (.head _) (Nat.le_refl _)) (List.sublist_cons_self _ _) (by simp;omega) (fun v' L' hO'=>?_))));refine go4 ?_;refine sQ (aV (jE rfl rfl) (congrArg (Value.int .i64) (j9 oo_))) rfl (go2 ?_);refine ⟨pp_,_,_,(List.Sublist.refl _),oo_,k+1,_,_,_,mb (dg (dv la) k) (dg (dv lb) k) c,⟨?s5,?s6,?s7⟩,?mem,rfl,⟨by omega,hO',hD.append (DL.one (c0_ (nU _ _) (nU _ _) hcb)),by simp [hlen],cY_ _ _ _,FT hlen hcb hdv⟩⟩
   case mem=>rfl
   case s5=>rfl
   case s6=>first | exact Z4 h26 | exact Z5 h26
   case s7=>rfl
  replace hc:=cB_ hc
  obtain rfl:k=la.length:=by omega
  refine go3 ?_;refine sQ (bN aJ rfl (fun w hw=>jM v l hD oo_ w (SL.sl (hO.sl lZ) hw))) rfl (go3 ?_);refine bP rfl (.inr rfl) rfl ?_;exact vX hD (SE hDa hD hlen hle hdv hcb) (hO.slf lZ)
theorem kF (va vb:Value) (la lb:List Nat) (hDa:DL la) (hDb:DL lb) (hna:la.length≤200) (hnb:lb.length≤200) (w:World) (hva:Sl w va la) (hvb:Sl w vb lb) :
    Calls prog 124 [va,vb].toArray w (fun e w'=>e = .returned (.bool (decide (dv la<dv lb)))∧Ext w w'):=by
 refine cT (N:=30) func124 rfl rfl (by simp) ?_;obtain ⟨w0,rfl⟩:∃ w0,w0=w:=⟨_,rfl⟩;simp only [bS,Nat.reduceAdd];refine go6 ?_;refine sQ (m8 kR rfl hva.old) rfl (go_ ?_);refine sQ (m8 kR rfl hvb.old) rfl (sQ (aq_ rfl rfl) rfl (go4 ?_));refine cO [4,5,12,13,14,15,16,17,18,19,20,21,22,23,24,25,26,27,28,29] (fun g nn M=>∃ (k:Nat),(g 5 = .int .i64 ((k:Int) - 1))∧M=[]∧nn=k+0∧(k≤max la.length lb.length∧dv la / 65536 ^ k=dv lb / 65536 ^ k)) (max la.length lb.length) ?start ?round
 case start =>
  refine ⟨_,(List.Sublist.refl _),max la.length lb.length,?a5,?mem0,rfl,⟨Nat.le_refl _,SC hDa hDb⟩⟩
  case mem0=>rfl
  case a5=>exact congrArg (Value.int .i64) (cJ (by unfold I64;omega))
 case round =>
  rintro nn g M ⟨k,hg5,rfl,hmeas,⟨hk,hd⟩⟩;subst nn;simp only [eO,hg5];clear hg5;refine go5 ?_;refine aT _ rfl (fun hc=>?_) (fun hc=>?_)
  ·replace hc:=cB_ hc
   obtain ⟨m,rfl⟩:∃ m,k=m+1:=⟨k - 1,by omega⟩;refine go5 ?_;refine sQ (aV (kE rfl) (congrArg (Value.int .i64) (show (((m+1:Nat):Int) - 1)=(m:Int) by omega))) rfl (sQ (bN aJ rfl (fun w hw=>gR va la m w (SL.sl (M:=_) hva.old hw))) rfl (go_ ?_));refine sQ (aV (kE rfl) (congrArg (Value.int .i64) (show (((m+1:Nat):Int) - 1)=(m:Int) by omega))) rfl (sQ (bN aJ rfl (fun w hw=>gR vb lb m w (SL.sl (M:=_) hvb.old hw))) rfl (go2 ?_));refine aT _ rfl (fun hne=>?_) (fun hne=>?_)
   ·replace hne:=cB_ hne
    have hne':dg (dv la) m≠dg (dv lb) m:=by rw [← o3 la m hDa,← o3 lb m hDb];omega
    refine go2 ?_;refine sQ (aV (kE rfl) (congrArg (Value.int .i64) (show (((m+1:Nat):Int) - 1)=(m:Int) by omega))) rfl (sQ (bN aJ rfl (fun w hw=>gR va la m w (SL.sl (M:=_) hva.old hw))) rfl (go_ ?_));refine sQ (aV (kE rfl) (congrArg (Value.int .i64) (show (((m+1:Nat):Int) - 1)=(m:Int) by omega))) rfl (sQ (bN aJ rfl (fun w hw=>gR vb lb m w (SL.sl (M:=_) hvb.old hw))) rfl (go4 ?_));refine bP rfl (.inr rfl) rfl ?_
    (rw [o3 la m hDa,o3 lb m hDb];exact congrArg Value.bool (WF hd hne'))
   replace hne:=cB_ hne
   have heq':dg (dv la) m=dg (dv lb) m:=by rw [← o3 la m hDa,← o3 lb m hDb];omega
   refine go2 ?_;refine sQ (aV (kE rfl) (congrArg (Value.int .i64) (show (((m+1:Nat):Int) - 1)=(m:Int) by omega))) rfl (go3 ?_);refine ⟨pp_,_,_,(List.Sublist.refl _),oo_,m,?s5,?mem,rfl,⟨by omega,WE hd heq'⟩⟩
   case mem=>rfl
   case s5=>exact congrArg (Value.int .i64) (cJ (n:=(m:Int) - 1) (by unfold I64;omega))
  replace hc:=cB_ hc
  obtain rfl:k=0:=by omega
  refine go5 ?_;refine bP rfl (.inr rfl) rfl ?_
  (simp only [Nat.pow_zero,Nat.div_one] at hd;rw [hd];exact congrArg Value.bool (decide_eq_false (Nat.lt_irrefl _)).symm)
theorem sK (va vb:Value) (la lb:List Nat) (hDa:DL la) (hDb:DL lb) (hna:la.length≤200) (hnb:lb.length≤200) (w:World) (hva:Sl w va la) (hvb:Sl w vb lb) :
    Calls prog 136 [va,vb].toArray w (fun e w'=>∃ v,e = .returned v∧Ext w w'∧Slf w.heap.size w' v (dl (dv la * dv lb))):=by
 refine vH (N:=72) func136 rfl rfl (by simp) ?_;obtain ⟨w0,rfl⟩:∃ w0,w0=w:=⟨_,rfl⟩;simp only [bS,Nat.reduceAdd];refine go5 ?_;refine sQ (m8 kR rfl hva.old) rfl (go_ ?_);refine sQ (m8 kR rfl hvb.old) rfl (sQ (aV (jE rfl rfl) (congrArg (Value.int .i64) (n9 oo_))) rfl (sQ (aV (jE rfl rfl) (congrArg (Value.int .i64) (j9 oo_))) rfl (bJ rfl (aA_ pF SI z_3 rfl rfl oo_ (fun b17 hb17=>go7 ?_)))));refine cO [6,7,8,9,10,18,19,20,21,22,23,24,25,26,27,28,29,30,31,32,33,34,35,36,37,38,39,40,41,42,43,44,45,46,47,48,49,50,51,52,53,54,55,56,57,58,59,60,61,62,63,64,65,66,67,68,69] (fun g nn M=>∃ (i:Nat) (o:List Nat),(g 6 = .int .i64 (i:Int))∧M=[⟨b17,3,iw o⟩]∧nn=la.length - i∧(i≤la.length∧DL o∧o.length=(la.length+lb.length+1)∧dv o=dv la % 65536 ^ i * dv lb)) (la.length - 0) ?start ?round
 case start =>
  refine ⟨_,(List.Sublist.refl _),0,List.replicate (la.length+lb.length+1) 0,?a6,?mem0,rfl,⟨Nat.zero_le _,fun d hd=>by rw [List.eq_of_mem_replicate hd];decide,by simp,by rw [DC,Nat.pow_zero,Nat.mod_one,Nat.zero_mul]⟩⟩
  case mem0=>rfl
  case a6=>rfl
 case round =>
  rintro nn g M ⟨i,o,hg6,rfl,hmeas,⟨hi,hDo,hlo,hdv⟩⟩;subst nn;simp only [eO,hg6];clear hg6;refine go4 ?_;refine sQ (m8 kR rfl hva.old) rfl (go2 ?_);refine aT _ rfl (fun hc=>?_) (fun hc=>?_)
  ·replace hc:=cB_ hc
   have hc:i<la.length:=by omega
   refine go8 ?_;refine cO [7,24,25,26,27,28,29,30,31,32,33,34,35,36,37,38,39,40,41,42,43,44,45,46,47,48,49,50] (fun g nn M=>∃ (k:Nat) (l:List Nat),(g 7 = .int .i64 (k:Int))∧M=[⟨b17,3,iw l⟩]∧nn=lb.length - k∧(k≤lb.length∧RowIn (la.length+lb.length+1) (dv lb) i (dg (dv la) i) o k l)) (lb.length - 0) ?start ?round
   case start =>
    refine ⟨_,(List.Sublist.refl _),0,o,?a7,?mem0,rfl,⟨Nat.zero_le _,RowIn.start _ _ _ hDo hlo⟩⟩
    case mem0=>rfl
    case a7=>rfl
   case round =>
    rintro nn g M ⟨k,l,hg7,rfl,hmeas,⟨hkl,hR⟩⟩;subst nn;simp only [eO,hg7];clear hg7;refine go4 ?_;refine sQ (m8 kR rfl hvb.old) rfl (go2 ?_);refine aT _ rfl (fun hk2=>?_) (fun hk2=>?_)
    ·replace hk2:=cB_ hk2
     have hk2:k<lb.length:=by omega
     refine go3 ?_;refine gdr sn [0,4,8,12,16,20,24,28,32,36,40,44,48,52,56,60,64,68,72,76,80,85] [21] mix (by kernel_rfl) (go3 ?_);refine pQ rfl (aV (jE rfl rfl) (congrArg (Value.int .i64) (n9 oo_))) (go3 ?_);refine pQ rfl (aV (jE rfl rfl) (congrArg (Value.int .i64) (n9 oo_))) (pQ rfl (CN kR rfl rfl oo_ oo_) (pQ rfl (d8 tyT rfl mm_ (fC_ (by rw [hR.len];omega))) ?_));refine go2 ?_;refine pQ rfl (y3 kR rfl rfl hva.old oo_) (pQ rfl (vM tyT rfl hva.old oo_) (go2 ?_));refine pQ rfl (y3 kR rfl rfl hvb.old oo_) (pQ rfl (vM tyT rfl hvb.old oo_) (go_ ?_));refine pQ rfl (aV (jE rfl rfl) (show _=IV (l.getD (i+k) 0+dg (dv la) i * dg (dv lb) k) by rw [o3 la i hDa,o3 lb k hDb];exact bT_ (hR.high _ (Nat.le_refl _)) (nU _ _) (nU _ _))) (pQ rfl (CN kR rfl rfl oo_ oo_) ?_);refine fT rfl rfl (IO tyT rfl rfl uu_ (by rw [hR.len];omega) (.inl (by assumption)) ⟨nf,ss_,?_⟩);refine go3 ?_;refine sQ (aV (jE rfl rfl) (congrArg (Value.int .i64) (j9 oo_))) rfl (go2 ?_);refine ⟨pp_,_,_,(List.Sublist.refl _),oo_,k+1,_,?s7,?mem,rfl,⟨by omega,hR.step oo_ (nU _ _)⟩⟩
     case mem=>rfl
     case s7=>rfl
    replace hk2:=cB_ hk2
    obtain rfl:k=lb.length:=by omega
    refine go8 ?_;refine cO [8,9,10,51,52,53,54,55,56,57,58,59,60,61,62,63,64,65,66,67,68,69] (fun g nn M=>∃ (m:Nat) (l:List Nat) (c:Nat),(g 8 = .int .i64 (c:Int)∧g 9 = .int .i64 (m:Int))∧M=[⟨b17,3,iw l⟩]∧nn=(la.length+lb.length+1) - m∧(m≤(la.length+lb.length+1)∧CarryIn (la.length+lb.length+1) (dv o+65536 ^ i * (dg (dv la) i * (dv lb % 65536 ^ lb.length))) m l c)) ((la.length+lb.length+1) - 0) ?start ?round
    case start =>
     refine ⟨_,(List.Sublist.refl _),0,l,0,⟨?a8,?a9⟩,?mem0,rfl,⟨Nat.zero_le _,hR.done⟩⟩
     case mem0=>rfl
     case a8=>rfl
     case a9=>rfl
    case round =>
     rintro nn g M ⟨m,l,c,⟨hg8,hg9⟩,rfl,hmeas,⟨hml,hC⟩⟩;subst nn;simp only [eO,hg8,hg9];clear hg8 hg9;refine go4 ?_;refine sQ (UT kR rfl) rfl (go2 ?_);refine aT _ rfl (fun hm2=>?_) (fun hm2=>?_)
     ·replace hm2:=cB_ hm2
      have hm2:m<(la.length+lb.length+1):=by omega
      refine go6 ?_;refine sQ (CN kR rfl rfl oo_ oo_) rfl (sQ (d8 tyT rfl mm_ (fC_ (by rw [hC.len];omega))) rfl ?_);refine go_ ?_;refine sQ (aV (jE rfl rfl) (congrArg (Value.int .i64) (gH_ (by have:=hC.low m;have:=hC.clt;omega)))) rfl (go6 ?_);refine sQ (aV (t7 rfl rfl dd_) (QQ _)) rfl (sQ (CN kR rfl rfl oo_ oo_) rfl (bJ rfl (IO tyT rfl rfl uu_ (by rw [hC.len];omega) (.inl (by assumption)) ?_)));refine go3 ?_;refine sQ (aV (tL rfl rfl dd_) (congrArg (Value.int .i64) (fZ_ (by have:=hC.low m;have:=hC.clt;omega)))) rfl (go4 ?_);refine sQ (aV (jE rfl rfl) (congrArg (Value.int .i64) (j9 oo_))) rfl (go2 ?_);refine ⟨pp_,_,_,(List.Sublist.refl _),oo_,m+1,_,_,⟨?s8,?s9⟩,?mem,rfl,⟨by omega,hC.step oo_⟩⟩
      case mem=>rfl
      case s8=>rfl
      case s9=>rfl
     replace hm2:=cB_ hm2
     obtain rfl:m=(la.length+lb.length+1):=by omega
     have hT:(dv o+65536 ^ i * (dg (dv la) i * (dv lb % 65536 ^ lb.length)))=dv la % 65536 ^ (i+1) * dv lb:=by rw [hdv];exact XA (xS lb hDb)
     have hF:=hC.fin (by rw [hT];exact aW_ oo_ (xS lb hDb));rw [hT] at hF;refine go3 ?_;refine sQ (aV (jE rfl rfl) (congrArg (Value.int .i64) (j9 oo_))) rfl (go2 ?_);refine ⟨pp_,_,_,(List.Sublist.refl _),oo_,i+1,_,?s6,?mem,rfl,⟨by omega,hF⟩⟩
     case mem=>rfl
     case s6=>rfl
  replace hc:=cB_ hc
  obtain rfl:i=la.length:=by omega
  refine go3 ?_;refine sQ (bN aJ rfl (fun w hw=>jM _ o hDo oo_ w (SL.sl (SL.mine' (.head _) hlo (Nat.le_refl _)) hw))) rfl (go3 ?_);refine bP rfl (.inr rfl) rfl ?_;exact vX hDo (by rw [hdv,Nat.mod_eq_of_lt (xS la hDa)]) (SLf.mine hb17 (.head _) hlo (Nat.le_refl _))
theorem oG (va:Value) (la:List Nat) (k:Int) (w:World) (hva:Sl w va la) :
    Calls prog 173 [va,.int .i64 k].toArray w (fun e w'=>e = .returned (.int .i64 ((atD la k:Nat):Int))∧Ext w w'):=by
 refine cT (N:=10) func173 rfl rfl (by simp) ?_;obtain ⟨w0,rfl⟩:∃ w0,w0=w:=⟨_,rfl⟩;simp only [bS,Nat.reduceAdd];refine go8 ?_;refine aT _ rfl (fun h0=>?_) (fun h0=>?_)
 ·replace h0:=cB_ h0
  refine go4 ?_;refine bP rfl (.inr rfl) rfl ?_
  (rw [bs_ h0];rfl)
 replace h0:=cB_ h0
 refine go3 ?_;refine sQ (aV (kE rfl) (show _=Value.int .i64 ((k.toNat:Nat):Int) from congrArg (Value.int .i64) oo_)) rfl (sQ (bN aJ rfl (fun w hw=>gR va la k.toNat w (SL.sl (M:=_) hva.old hw))) rfl (go3 ?_));refine bP rfl (.inr rfl) rfl ?_;rw [bt_ h0]
theorem sJ (n m:Int) (hn:I64 n) (hnm:n ≠ -9223372036854775808) (hm:m≠0) :
    Ret prog 127 [.int .i64 n,.int .i64 m] (.int .i64 (n.fdiv m)):=by
 refine cL (N:=23) func127 rfl rfl (by simp) (fun w0=>?_);simp only [bS,Nat.reduceAdd];refine go6 ?_;refine sQ (aV (tL rfl rfl hm) (congrArg (Value.int .i64) (cJ (SR hn hnm)))) rfl (go6 ?_);refine sQ (t7 rfl rfl hm) rfl (go2 ?_)
 cases h0:(n.tmod m != 0)
 ·refine HW ?_;refine bP rfl (.inr rfl) rfl ?_;exact congrArg (Value.int .i64) (DF hm (.inl (by simpa using h0))).1.symm
 refine go4 ?_;refine sQ (uM CD rfl rfl) rfl (go2 ?_);refine aT _ rfl (fun hs=>?_) (fun hs=>?_)
 ·replace hs:=cB_ hs
  refine go2 ?_;refine sQ (aV (oD rfl rfl) (congrArg (Value.int .i64) (cJ (av_ hn hnm)))) rfl (go7 ?_);refine bP rfl (.inr rfl) rfl ?_;exact congrArg (Value.int .i64) (R4 hm (by simpa using h0) (bne_iff_ne.2 (by rw [MB (by simpa using h0)];exact hs))).1.symm
 replace hs:=cB_ hs
 refine go6 ?_;refine bP rfl (.inr rfl) rfl ?_;exact congrArg (Value.int .i64) (DF hm (.inr (by rw [MB (by simpa using h0)];simpa using hs))).1.symm
theorem gJ (a:R) (ha:a.Ok) :
    Ret prog 126 [RV a] (.tuple #[.int .i64 (jV a),.bool (iR a)]):=by
 refine cL (N:=41) func126 rfl rfl (by simp) (fun w0=>?_);simp only [bS,Nat.reduceAdd];refine go_ ?_;refine bJ rfl (kC rfl rfl (fun b1 hb1=>go4 ?_));refine sQ (dF tyT rfl mm_ (dQ ha)) rfl ?_;refine sQ (bZ aJ (cF a ha) rfl) rfl (go7 ?_)
 cases hg:a.good
 ·refine R8 ?_;refine i7 rfl (.inr rfl) rfl rfl ?_;exact XD hg
 refine sQ (dA fdT dd_ rfl) rfl (sQ (fI arT rfl rfl dd_ dd_) rfl (sQ (d8 tyT rfl mm_ (nQ (r:=a) (k:=1) (by rw [ha.len];decide))) rfl ?_));refine go3 ?_;refine aT _ rfl (fun h16=>?_) (fun h16=>?_)
 ·replace h16:=cB_ h16
  refine go5 ?_;refine i7 rfl (.inr rfl) rfl rfl ?_;exact RJ (ba_ ha h16)
 replace h16:=cB_ h16
 refine go6 ?_;refine cO [2,3,5,17,18,19,20,21,22,23,24,25] (fun g nn M=>∃ (k:Nat),(g 5 = .int .i64 (k:Int))∧M=[⟨b1,27,a.cells⟩]∧nn=16 - k∧(2≤k∧k≤16∧∀ j,2≤j→j<k→a.w.getD j 0=0)) (14) ?start ?round
 case start =>
  refine ⟨_,(List.Sublist.refl _),2,?a5,?mem0,rfl,⟨Nat.le_refl _,by decide,fun j h1 h2=>by omega⟩⟩
  case mem0=>rfl
  case a5=>rfl
 case round =>
  rintro nn g M ⟨k,hg5,rfl,hmeas,⟨hk2,hk,hz⟩⟩;subst nn;simp only [eO,hg5];clear hg5;refine go5 ?_;refine aT _ rfl (fun hc=>?_) (fun hc=>?_)
  ·replace hc:=cB_ hc
   have hc:k<16:=by omega
   refine go5 ?_;refine sQ (dA fdT dd_ rfl) rfl (sQ (fI arT rfl rfl oo_ oo_) rfl (sQ (d8 tyT rfl mm_ (nQ (r:=a) (k:=k) (by rw [ha.len];omega))) rfl ?_));refine go2 ?_;refine aT _ rfl (fun hz2=>?_) (fun hz2=>?_)
   ·replace hz2:=cB_ hz2
    refine go5 ?_;refine i7 rfl (.inr rfl) rfl rfl ?_;exact RJ (XE ha hk2 oo_)
   replace hz2:=cB_ hz2
   refine go3 ?_;refine sQ (aV (jE rfl rfl) (congrArg (Value.int .i64) (j9 oo_))) rfl (go2 ?_);refine ⟨pp_,_,_,(List.Sublist.refl _),oo_,k+1,?s5,?mem,rfl,⟨by omega,by omega,fun j h1 h2=>by rcases Nat.eq_or_lt_of_le (Nat.le_of_lt_succ h2) with rfl | h3;omega;exact hz j h1 h3⟩⟩
   case mem=>rfl
   case s5=>rfl
  replace hc:=cB_ hc
  obtain rfl:k=16:=by omega
  have hws:=RK ha oo_ hz;refine go2 ?_;refine sQ (dA fdT dd_ rfl) rfl (sQ (fI arT rfl rfl dd_ dd_) rfl (sQ (d8 tyT rfl mm_ (nQ (r:=a) (k:=1) (by rw [ha.len];decide))) rfl ?_));refine sQ (eX iF ET rfl) rfl (go_ ?_);refine sQ (dA fdT dd_ rfl) rfl (sQ (fI arT rfl rfl dd_ dd_) rfl (sQ (d8 tyT rfl mm_ (nQ (r:=a) (k:=0) (by rw [ha.len];decide))) rfl ?_));refine sQ (eX iF ET rfl) rfl (sQ (aV (jE rfl rfl) (congrArg (Value.int .i64) ((RK ha oo_ hz).1))) rfl (go4 ?_));refine sQ (dA fdT dd_ rfl) rfl (sQ (d8 tyT rfl mm_ rfl) rfl ?_);refine go_ ?_;refine aT _ rfl (fun hn=>?_) (fun hn=>?_)
  ·replace hn:=cB_ hn
   refine go7 ?_;refine i7 rfl (.inr rfl) rfl rfl ?_;exact a8_ hg hws.2 hn
  replace hn:=cB_ hn
  refine go7 ?_;refine i7 rfl (.inr rfl) rfl rfl ?_;exact a9_ hg hws.2 hn
theorem dY (n:Int) (hn:I64 n) :
    Ret prog 72 [.int .i64 n] (RV (Z.of n).enc):=by
 refine cL (N:=35) func72 rfl rfl (by simp) (fun w0=>?_);simp only [bS,Nat.reduceAdd];unfold I64 at hn;refine go_ ?_;refine bJ rfl (fB lH (fun b2 hb2=>go6 ?_));refine aT _ rfl (fun h0=>?_) (fun h0=>?_)
 ·replace h0:=cB_ h0
  obtain ⟨m,rfl⟩:∃ m:Nat,n=m:=⟨n.toNat,by omega⟩;refine go2 ?_;refine sQ (aV (t7 rfl rfl dd_) (show _=IV (m % 65536) from QQ _)) rfl (go_ ?_);refine sQ (aV (tL rfl rfl dd_) (LJ 65536 oo_)) rfl (sQ (aV (t7 rfl rfl dd_) (show _=IV (m / 65536 % 65536) from QQ _)) rfl (go_ ?_));refine sQ (aV (tL rfl rfl dd_) (LJ 4294967296 oo_)) rfl (sQ (aV (t7 rfl rfl dd_) (show _=IV (m / 4294967296 % 65536) from QQ _)) rfl (go_ ?_));refine sQ (aV (tL rfl rfl dd_) (LJ 281474976710656 oo_)) rfl (bJ rfl (jS pF z_3 z8 rfl dd_ rfl (Y8 _ _ _ _) (fun b16 hb16=>sQ (bN aJ rfl (fun w hw=>d5 false _ (dl4 m) (YX oo_) (by simp [dl4]) w (SL.sl (SL.mine (l:=dl4 m) (.head _) (Nat.le_refl _)) hw))) rfl ?_)));refine bJ rfl (cG tyT rfl rfl uu_ (aS _) rfl (bW _) (.inl (by assumption)) ?_);refine go2 ?_;refine bP rfl (.inr rfl) ⟨_,_,_,_,_,_,rfl,mm_,tyT,_,(eH (aS _)),(aS _),rfl⟩ ?_
  (rw [R0,sH];rfl)
 replace h0:=cB_ h0
 obtain ⟨m,rfl⟩:∃ m:Nat,n = -((m:Int)+1):=⟨(-n - 1).toNat,by omega⟩;refine go4 ?_;refine sQ (aV (ar_ rfl) (congrArg (Value.int .i64) (b4_ oo_))) rfl (go4 ?_);refine sQ (aV (t7 rfl rfl dd_) (show _=IV (m % 65536) from QQ _)) rfl (go_ ?_);refine sQ (aV (tL rfl rfl dd_) (LJ 65536 oo_)) rfl (sQ (aV (t7 rfl rfl dd_) (show _=IV (m / 65536 % 65536) from QQ _)) rfl (go_ ?_));refine sQ (aV (tL rfl rfl dd_) (LJ 4294967296 oo_)) rfl (sQ (aV (t7 rfl rfl dd_) (show _=IV (m / 4294967296 % 65536) from QQ _)) rfl (go_ ?_));refine sQ (aV (tL rfl rfl dd_) (LJ 281474976710656 oo_)) rfl (bJ rfl (jS pF z_3 z8 rfl dd_ rfl (Y8 _ _ _ _) (fun b31 hb31=>bJ rfl (jS pF z_3 z8 rfl dd_ rfl (CG 1) (fun b32 hb32=>bJ rfl (fS aJ rfl (fun w hw=>o7 _ _ (dl4 m) [1] (YX oo_) (DL.one dd_) (by simp [dl4]) (by simp) w (SL.sl (SL.mine (l:=dl4 m) (.tail _ (.head _)) (Nat.le_refl _)) hw) (SL.sl (SL.mine (l:=[1]) (.head _) (Nat.le_refl _)) hw)) (fun v9 L9 h9=>?_)))))));refine sQ (bN aJ rfl (fun w hw=>d5 true _ _ (kL _) (Nat.le_trans (iV (k:=64) (by rw [R0];simp only [dv];omega)) dd_) w (SL.sl (h9.sl.sub lZ) hw))) rfl (bJ rfl (cG tyT rfl rfl uu_ (aS _) rfl (bW _) (.inl (by assumption)) ?_));refine go2 ?_;refine bP rfl (.inr rfl) ⟨_,_,_,_,_,_,rfl,mm_,tyT,_,(eH (aS _)),(aS _),rfl⟩ ?_
 (rw [gP,R0];simp only [dv,Nat.mul_zero,Nat.add_zero];rw [f6_];rfl)
end Go.Proofs.YtokjfhfiodopdaaGreat
namespace Go.Num
open Go Go.Kn
theorem yK (a:I):nB a=E (Z.neg a.dec):=by
  unfold nB
  show _=E (Z.neg a.1.dec)
  cases h:a.1.good
  · rw [cond_false,Z.neg,qV (F6 h)]
  rw [cond_true,eo_ a.2 h]
theorem yG (a:I):nA a=E (Z.abs a.dec):=by
  unfold nA
  show _=E (Z.abs a.1.dec)
  cases h:a.1.good
  · rw [cond_false,Z.abs,qV (F6 h)]
  rw [cond_true,dD_ a.2 h]
theorem ei_ (n:Nat):((((dl n).length:Nat):Int)==0)=(n==0):=by
  rw [Bool.eq_iff_iff,beq_iff_eq,beq_iff_eq]
  constructor
  · intro h;exact MZ.1 oo_
  intro h;rw [MZ.2 h];rfl
theorem xN (a:I):lD a=Z.signW a.dec:=by
  unfold lD;rw [ei_]
  apply Subtype.ext
  show _=a.1.dec.sign
  cases hg:a.1.good
  · simp only [Bool.not_false,Bool.true_or,cond_true];exact BU a.2 (.inl hg)
  · cases hz:(val a.1.w==0)
    · simp only [Bool.not_true,Bool.false_or,cond_false]
      rw [cm_ a.2 hg (by simpa using hz)]
      cases a.1.neg <;> rfl
    simp only [Bool.or_true,cond_true];exact BU a.2 (.inr hz)
theorem yI (a b:I):fL a b=Z.cmpW a.dec b.dec:=by
  unfold fL
  apply Subtype.ext
  show _=Z.cmp a.1.dec b.1.dec
  cases ga:a.1.good
  · cases gb:b.1.good
    · simp only [Bool.not_false,Bool.and_self,cond_true];exact RR ga gb
    simp only [Bool.not_true,Bool.and_false,cond_false];exact RS ga b.2 gb
  · cases gb:b.1.good
    · simp only [Bool.not_true,Bool.not_false,Bool.false_and,cond_false,cond_true];exact RT a.2 ga gb
    simp only [Bool.not_true,Bool.false_and,cond_false,cond_true]
    cases hn:(a.1.neg != b.1.neg)
    · have hn':a.1.neg=b.1.neg:=by simpa using hn
      rw [cond_false]
      cases h1:a.1.neg
      · rw [cond_false,← TL a.2 b.2 ga gb hn' (val a.1.w) (val b.1.w) (by rw [h1];exact ⟨rfl,rfl⟩)]
        by_cases h2:val a.1.w<val b.1.w
        · simp [h2]
        by_cases h3:val b.1.w<val a.1.w <;> simp [h2,h3]
      rw [cond_true,← TL a.2 b.2 ga gb hn' (val b.1.w) (val a.1.w) (by rw [h1];exact ⟨rfl,rfl⟩)]
      by_cases h2:val b.1.w<val a.1.w
      · simp [h2]
      by_cases h3:val a.1.w<val b.1.w <;> simp [h2,h3]
    rw [cond_true,← dR_ a.2 b.2 ga gb (by simpa using hn)]
    cases a.1.neg <;> rfl
theorem yL (a b:I):kM a b=E (Z.quo a.dec b.dec):=by
  unfold kM;rw [ei_]
  show _=E (Z.quo a.1.dec b.1.dec)
  cases hw:(iR a.1&&(iR b.1&&((eE b).1 != 0)))
  · rw [cond_false]
    cases hg:(!a.1.good||(!b.1.good||(val b.1.w==0)))
    · rw [cond_false]
      simp only [Bool.or_eq_false_iff,Bool.not_eq_false',beq_eq_false_iff_ne] at hg;obtain ⟨ga,gb,h0⟩:=hg
      cases hc:((a.1.neg != b.1.neg)&&decide ((0:Int)<(((dl (val a.1.w % val b.1.w)).length:Nat):Int)))
      · rw [cond_false,eC_ a.2 b.2 ga gb h0]
        rw [Bool.and_eq_false_iff] at hc;rcases hc with hc | hc
        · exact .inl (by simpa using hc)
        right
        have:=of_decide_eq_false hc;exact MZ.1 oo_
      rw [cond_true,cf_ a.2 b.2 ga gb h0]
      · rw [Bool.and_eq_true] at hc;simpa using hc.1
      rw [Bool.and_eq_true] at hc;have:=of_decide_eq_true hc.2;intro h;rw [h,pT] at this;exact absurd this dd_
    rw [cond_true]
    cases ga:a.1.good
    · rw [c6_ (.inl ga)]
    · cases gb:b.1.good
      · rw [c6_ (.inr gb)]
      rw [ga,gb] at hg;rw [f0_ a.2 b.2 ga gb (by simpa using hg)]
  rw [cond_true];have hf:=NJ hw;rw [Bool.and_eq_true,Bool.and_eq_true] at hw;rw [← hf.2.2];exact congrArg E (WQ a.2 b.2 hw.1 hw.2.1 hf.2.1)
end Go.Num
namespace Go.Proofs.YtokjfhfiodopdaaGreat
open Go.Kn Go.Num Tryz
attribute [local irreducible] Go.Kn.W WL PL OpQ OpR OpS
theorem mM (va vb:Value) (A B:Nat) (hB:0<B) (hna:(dl A).length≤190) (hnb:(dl B).length≤190) (w:World) (hva:Sl w va (dl A)) (hvb:Sl w vb (dl B)) :
    Calls prog 128 [va,vb].toArray w (fun e w'=>∃ v1 v2,e = .returned (.tuple #[v1,v2])∧Ext w w'∧Slf w.heap.size w' v1 (dl (A / B))∧Slf w.heap.size w' v2 (dl (A % B))):=by
 refine JQ (N:=84) func128 rfl rfl (by simp) ?_;obtain ⟨w0,rfl⟩:∃ w0,w0=w:=⟨_,rfl⟩;simp only [bS,Nat.reduceAdd];have hn0:1≤(dl B).length:=Nat.pos_of_ne_zero (fun hc=>by rw [MZ] at hc;omega);obtain ⟨tp,htp⟩:∃ tp,tp=(dg B ((dl B).length - 1) * 65536+atD (dl B) (((dl B).length:Int) - 2)):=⟨_,rfl⟩;refine go6 ?_;refine sQ (m8 kR rfl hva.old) rfl (bJ rfl (aA_ pF SI z_3 rfl rfl oo_ (fun b15 hb15=>go4 ?_)));refine sQ (m8 kR rfl hvb.old) rfl (go3 ?_);refine rE sn 12 [] [] (go2 ?_);refine pQ rfl (aV (oD rfl rfl) (congrArg (Value.int .i64) (tW (b:=1) rfl oo_ oo_))) (pQ rfl (y3 kR rfl rfl hvb.old oo_) (pQ rfl (aV (vM tyT rfl hvb.old oo_) (congrArg IV (BH B _))) (go3 ?_)));refine pQ rfl (aV (oD rfl rfl) (congrArg (Value.int .i64) (U8 oo_ dd_ dd_))) (pQ rfl (bN aJ rfl (fun w hw=>oG vb (dl B) _ w (SL.sl (M:=_) hvb.old hw))) (pQ rfl (aV (jE rfl rfl) (show _=Value.int .i64 (tp:Int) from congrArg (Value.int .i64) (by rw [htp];exact cs_ (nU _ _) (CC _ _)))) (go8 ?_)));refine sQ (m8 kR rfl hva.old) rfl (go4 ?_);refine cO [9,10,11,12,32,33,34,35,36,37,38,39,40,41,42,43,44,45,46,47,48,49,50,51,52,53,54,55,56,57,58,59,60,61,62,63,64,65,66,67,68,69,70,71,72,73,74,75,76,77,78,79,80] (fun g nn M=>∃ (k R:Nat) (qs:List Nat) (vr:Value) (L:List Blk),(g 9=vr∧g 10 = .int .i64 ((k:Int) - 1))∧M=L ++ [⟨b15,3,iw qs⟩]∧nn=k+0∧(k≤(dl A).length∧DivIn A B (dl A).length k R qs∧SLf w0 L vr (dl R))) ((dl A).length) ?start ?round
 case start =>
  refine ⟨_,(List.Sublist.refl _),(dl A).length,0,_,_,[],⟨?a9,?a10⟩,?mem0,rfl,⟨Nat.le_refl _,DivIn.start (KS A),by rw [pT];exact SLf.none⟩⟩
  case mem0=>rfl
  case a9=>rfl
  case a10=>exact congrArg (Value.int .i64) (U8 oo_ dd_ dd_)
 case round =>
  rintro nn g M ⟨k,R,qs,vr,L,⟨hg9,hg10⟩,rfl,hmeas,⟨hk,hI,hr⟩⟩;subst nn;simp only [eO,hg9,hg10];clear hg9 hg10;refine go5 ?_;refine aT _ rfl (fun hc=>?_) (fun hc=>?_)
  ·replace hc:=cB_ hc
   obtain ⟨m,rfl⟩:∃ m,k=m+1:=⟨k - 1,by omega⟩
   have hRB:R<B:=by rw [hI.rest];exact Nat.mod_lt _ hB
   have hRl:(dl R).length≤190:=Nat.le_trans (ft_ (Nat.le_of_lt hRB)) hnb;refine go5 ?_;refine sQ (aV (kE rfl) (congrArg (Value.int .i64) (show (((m+1:Nat):Int) - 1)=(m:Int) by omega))) rfl (sQ (y3 kR rfl rfl hva.old oo_) rfl (sQ (aV (vM tyT rfl hva.old oo_) (congrArg IV (BH A m))) rfl (bJ rfl (jS pF z_3 z8 rfl dd_ rfl (CG _) (fun b40 hb40=>go_ ?_)))));have hC8:=TN (R:=R) (nU A m);refine bJ rfl (AR pF SI rfl rfl (OwnL.of_mine (l:=[dg A m]) hb40 (show 1≤maxLen by decide)) (hr.sl.sub (.cons _ lZ)) (List.Sublist.refl _) (by simp only [List.length_singleton];omega) (fun v8 L8 hO8=>?_));refine sQ (bN aJ rfl (fun w hw=>jM v8 ([dg A m] ++ dl R) hC8.1 (by simp only [List.length_append,List.length_singleton];omega) w (SL.sl (hO8.sl lZ) hw))) rfl ?_;refine go2 ?_;have hC8:=TN (R:=R) (nU A m);have hr8:=vX hC8.1 hC8.2 (hO8.slf (List.Sublist.refl _));generalize sls v8 (dl (dv ([dg A m] ++ dl R))).length=vr8 at hr8 ⊢
   have hR8:(R * 65536+dg A m)<65536 * B:=by have:=nU A m;omega
   obtain ⟨nm,hnm⟩:∃ nm,nm=(atD (dl (R * 65536+dg A m)) ((dl B).length:Int) * 4294967296+atD (dl (R * 65536+dg A m)) (((dl B).length:Int) - 1) * 65536+atD (dl (R * 65536+dg A m)) (((dl B).length:Int) - 2)):=⟨_,rfl⟩;obtain ⟨d0,hd0⟩:∃ d0,d0=min 65535 (nm / tp):=⟨_,rfl⟩
   have G8:0<tp∧(R * 65536+dg A m) / B≤d0∧d0≤65535:=by rw [hd0,hnm,htp];have hg:=ZI hB hR8 rfl hn0;exact ⟨hg.1,hg.2,Nat.min_le_left _ _⟩
   have hl8:(dl (R * 65536+dg A m)).length≤192:=Nat.le_trans (iV (k:=(dl B).length+1) (by have:=KS B;rw [Nat.pow_succ];omega)) oo_;refine go3 ?_;refine sQ (bN aJ rfl (fun w hw=>oG _ (dl (R * 65536+dg A m)) _ w (SL.sl (M:=_) (hr8.sl.sub lZ) hw))) rfl (go3 ?_);refine sQ (aV (oD rfl rfl) (congrArg (Value.int .i64) (U8 oo_ dd_ dd_))) rfl (sQ (bN aJ rfl (fun w hw=>oG _ (dl (R * 65536+dg A m)) _ w (SL.sl (M:=_) (hr8.sl.sub lZ) hw))) rfl (go4 ?_));refine sQ (aV (oD rfl rfl) (congrArg (Value.int .i64) (U8 oo_ dd_ dd_))) rfl (sQ (bN aJ rfl (fun w hw=>oG _ (dl (R * 65536+dg A m)) _ w (SL.sl (M:=_) (hr8.sl.sub lZ) hw))) rfl (sQ (aV (jE rfl rfl) (show _=Value.int .i64 (nm:Int) from congrArg (Value.int .i64) (by rw [hnm];exact b2_ (CC _ _) (CC _ _) (CC _ _)))) rfl (go_ ?_)));refine sQ (aV (tL rfl rfl (fun hc=>Nat.lt_irrefl 0 (Nat.lt_of_lt_of_eq G8.1 (Int.natCast_eq_zero.1 hc)))) (congrArg (Value.int .i64) (QM (by rw [hnm];exact eq_ _ _ _ _)))) rfl (sQ (aV (eA_ (a:=65535) rfl rfl) (congrArg (fun n:Nat=>Value.int .i64 (n:Int)) hd0.symm)) rfl (go5 ?_));refine bJ rfl (jS pF z_3 z8 rfl dd_ rfl (CG _) (fun b64 hb64=>bJ rfl (fS aJ rfl (fun w hw=>sK vb _ (dl B) [d0] (kL B) (DL.one oo_) oo_ (by simp) w (SL.sl (M:=_) hvb.old hw) (SL.sl (SL.mine (l:=[d0]) (.head _) (Nat.le_refl _)) hw)) (fun vp0 Lp0 hp0=>?_))));refine go4 ?_;refine cO [11,12,66,67,68,69,70,71,72,73] (fun g nn M=>∃ (d:Nat) (vp:Value) (Lp:List Blk),(g 11 = .int .i64 (d:Int)∧g 12=vp)∧M=Lp ++ (L8 ++ (L ++ [⟨b15,3,iw qs⟩]))∧nn=d∧(((R * 65536+dg A m) / B≤d∧d≤65535)∧SLf w0 Lp vp (dl (B * d)))) (d0) ?start ?round
   case start =>
    refine ⟨_,(List.Sublist.append (List.Sublist.refl _) (List.Sublist.cons _ (List.Sublist.refl _))),d0,vp0,Lp0,⟨?a11,?a12⟩,?mem0,rfl,⟨⟨G8.2.1,G8.2.2⟩,by have:=hp0;rw [gP] at this;simpa [dv] using this⟩⟩
    case mem0=>rfl
    case a11=>rfl
    case a12=>rfl
   case round =>
    rintro nn g M ⟨d,vp,Lp,⟨hg11,hg12⟩,rfl,hmeas,⟨hd,hp⟩⟩;subst nn;simp only [eO,hg11,hg12];clear hg11 hg12;have hpl:(dl (B * d)).length≤195:=Nat.le_trans (iV (k:=(dl B).length+1) (by have:=KS B;have h1:=Nat.mul_le_mul_left B hd.2;rw [Nat.pow_succ];omega)) oo_;refine go4 ?_;refine sQ (bN aJ rfl (fun w hw=>kF _ vp (dl (R * 65536+dg A m)) (dl (B * d)) (kL _) (kL _) oo_ oo_ w (SL.sl (hr8.sl.sub (.trans lZ (List.sublist_append_right _ _))) hw) (SL.sl (hp.sl.sub lZ) hw))) rfl (go_ ?_);refine aT _ rfl (fun h68=>?_) (fun h68=>?_)
    ·replace h68:=cB_ h68
     rw [gP,gP] at h68;have hless:=YV hB hd.1 h68;refine go4 ?_;refine sQ (aV (oD rfl rfl) (congrArg (Value.int .i64) (tW (b:=1) rfl hless.1 oo_))) rfl (go5 ?_);refine bJ rfl (fS aJ rfl (fun w hw=>lF vp vb (dl (B * d)) (dl B) (kL _) (kL _) oo_ oo_ (by rw [gP,gP];exact hless.2.2.1) w (SL.sl (hp.sl.sub lZ) hw) (SL.sl (M:=_) hvb.old hw)) (fun vp2 Lp2 hp2=>go2 ?_));refine ⟨pp_,_,_,(List.Sublist.append (List.Sublist.refl _) (List.sublist_append_right _ _)),(by have:=hless.1;omega),d - 1,vp2,Lp2,⟨?s11,?s12⟩,?mem,rfl,⟨⟨hless.2.1,by omega⟩,by rw [gP,gP,hless.2.2.2] at hp2;exact hp2⟩⟩
     case mem=>rfl
     case s11=>rfl
     case s12=>rfl
    replace h68:=cB_ h68
    rw [gP,gP] at h68;have hdone:=YT hB hd.1 h68;refine go3 ?_;refine sQ (aV (kE rfl) (congrArg (Value.int .i64) (show (((m+1:Nat):Int) - 1)=(m:Int) by omega))) rfl (go_ ?_);refine sQ (CN kR rfl rfl oo_ oo_) rfl (bJ rfl (IO tyT rfl rfl (uL (uL (uL uH))) (by rw [hI.len];omega) (.inl (by assumption)) (go4 ?_)));refine bJ rfl (fS aJ rfl (fun w hw=>lF _ vp (dl (R * 65536+dg A m)) (dl (B * d)) (kL _) (kL _) oo_ oo_ (by rw [gP,gP];exact hdone.2.2) w (SL.sl (hr8.sl.sub (.trans lZ (List.sublist_append_right _ _))) hw) (SL.sl (hp.sl.sub lZ) hw)) (fun vr2 Lr2 hr2=>go3 ?_));refine sQ (aV (kE rfl) (congrArg (Value.int .i64) (show (((m+1:Nat):Int) - 1)=(m:Int) by omega))) rfl (go3 ?_);refine ⟨pp_,_,_,(List.Sublist.append (List.Sublist.refl _) (.trans (List.sublist_append_right _ _) (.trans (List.sublist_append_right _ _) (List.sublist_append_right _ _)))),oo_,m,((R * 65536+dg A m) % B),qs.set m d,vr2,Lr2,⟨?s9,?s10⟩,?mem,rfl,⟨by omega,by rw [hdone.1];exact hI.step hB oo_,by rw [gP,gP,hdone.2.1] at hr2;exact hr2⟩⟩
    case mem=>rfl
    case s9=>rfl
    case s10=>exact congrArg (Value.int .i64) (cJ (n:=(m:Int) - 1) (by unfold I64;omega))
  replace hc:=cB_ hc
  obtain rfl:k=0:=by omega
  refine go3 ?_;refine sQ (bN aJ rfl (fun w hw=>jM _ qs hI.ok (by rw [hI.len];omega) w (SL.sl (SL.mine' (mA (.head _)) hI.len (Nat.le_refl _)) hw))) rfl (go5 ?_);refine i7 rfl (.inr rfl) rfl rfl ?_;exact ⟨_,_,rfl,vX hI.ok hI.fin.1 (SLf.mine hb15 (mA (.head _)) hI.len (Nat.le_refl _)),by rw [hI.fin.2] at hr;exact hr.sub lZ⟩
end Go.Proofs.YtokjfhfiodopdaaGreat
