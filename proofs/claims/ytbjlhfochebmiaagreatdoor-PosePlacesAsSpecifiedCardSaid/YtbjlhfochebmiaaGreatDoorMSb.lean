/- Lemmas: what they ask stands in their statements. -/
import Derived.Test.YtbjlhfochebmiaaGreatDoorMFQr
set_option linter.unusedSimpArgs false
set_option linter.unusedVariables false
set_option maxHeartbeats 8000000
set_option maxRecDepth 20000
namespace Go.Proofs.YtbjlhfochebmiaaGreatDoor
open Go.Kn Go.Num Tryz
attribute [local irreducible] Go.Kn.W WL PL OpQ OpR OpS
theorem pK (va vb:Value) (la lb:List Nat) (hDa:DL la) (hDb:DL lb) (hna:la.length≤200) (hnb:lb.length≤200) (w:World) (hva:Sl w va la) (hvb:Sl w vb lb) :
    Calls prog 150 [va,vb].toArray w (fun e w'=>∃ v,e = .returned v∧Ext w w'∧Slf w.heap.size w' v (dl (dv la+dv lb))):=by
 refine wC (N:=37) func150 O O zz_ ?_;obtain ⟨w0,rfl⟩:=nm w;refine giI ?_;refine GO ?_;refine cE (rg [] 5 30) (fun g nn M=>∃ (k:Nat) (v:Value) (l:List Nat) (L:List Blk),(g 5=v∧g 6 = .int .i64 ((cD (dv la) (dv lb) k:Nat):Int)∧g 7 = .int .i64 (k:Int))∧M=L++[]∧nn=max la.length lb.length+1 - k∧(k≤max la.length lb.length+1∧OwnL w0 3 v l L∧DL l∧l.length=k∧dv l=(dv la+dv lb) % 65536 ^ k)) (max la.length lb.length+1 - 0) ?start ?round
 case start =>
  refine ⟨_,(List.Sublist.refl _),0,_,[],[],⟨?a5,?a6,?a7⟩,?mem0,rfl,⟨Nat.zero_le _,.nil,DL.nil,rfl,by simp [dv,Nat.mod_one]⟩⟩
  case mem0=>rfl
  case a5=>rfl
  case a6=>rw [a4_];rfl
  case a7=>rfl
 case round =>
  rintro nn g M ⟨k,v,l,L,⟨hg5,hg6,hg7⟩,rfl,hmeas,⟨hk,hO,hD,hlen,hdv⟩⟩;subst nn;refine gS3 hg5 hg6 hg7 ?_;clear hg5 hg6 hg7;refine go4 ?_;refine sQ (oT j7 O hva.old) O (go_ ?_);refine sQ (oT j7 O hvb.old) O (sQ (Z1 O O) O (sQ (aM (j3 O O) (congrArg (Value.int .i64) (lJ oo_))) O (go2 ?_)));refine aL _ O (fun hc=>?_) (fun hc=>?_)
  ·replace hc:=cB_ hc
   have hc:k<max la.length lb.length+1:=by omega
   refine go6 ?_;refine sQ (dF aE O (fun w hw=>iF va la k w (SL.sl (M:=_) hva.old hw))) O (go2 ?_);refine sQ (dF aE O (fun w hw=>iF vb lb k w (SL.sl (M:=_) hvb.old hw))) O (go2 ?_);refine sQ (aM (j3 O O) (congrArg (Value.int .i64) (show _=((cD (dv la) (dv lb) k+dg (dv la) k+dg (dv lb) k:Nat):Int) by rw [sZ la k hDa,sZ lb k hDb];exact f2_ (qU _ _) (qU _ _) (cf_ _ _ _)))) O (go5 ?_);refine sQ (aM (tQ O O dd_) (Q9 _)) O (aY O (kH jN z_3 oX O dd_ O (DD _) (fun b31 hb31=>aY O (DT jN QT O O hO (SL.mine (l:=[(cD (dv la) (dv lb) k+dg (dv la) k+dg (dv lb) k) % 65536]) (.head _) (Nat.le_refl _)) (List.sublist_cons_self _ _) (by simp;omega) (fun v' L' hO'=>?_)))));refine go4 ?_;refine sQ (aM (lI O O dd_) (congrArg (Value.int .i64) (fb_ (by have:=cf_ (dv la) (dv lb) k;have:=qU (dv la) k;have:=qU (dv lb) k;omega)))) O (go4 ?_);refine sQ (aM (j3 O O) (congrArg (Value.int .i64) (lJ oo_))) O (go2 ?_);refine ⟨pp_,_,_,(List.Sublist.refl _),oo_,k+1,_,_,_,⟨?s5,?s6,?s7⟩,?mem,rfl,⟨by omega,hO',hD.append (DL.one (Nat.mod_lt _ dd_)),by simp [hlen],S5 hlen hdv⟩⟩
   case mem=>rfl
   case s5=>rfl
   case s6=>rw [← QY];rfl
   case s7=>rfl
  replace hc:=cB_ hc
  obtain rfl:k=max la.length lb.length+1:=by omega
  refine go3 ?_;refine sQ (dF aE O (fun w hw=>kU v l hD oo_ w (SL.sl (hO.sl lZ) hw))) O (go3 ?_);refine rt1 ?_;exact y4 hD (by rw [hdv,WO hDa hDb]) (hO.slf lZ)
theorem nD (va vb:Value) (la lb:List Nat) (hDa:DL la) (hDb:DL lb) (hna:la.length≤200) (hnb:lb.length≤200) (hle:dv lb≤dv la) (w:World) (hva:Sl w va la) (hvb:Sl w vb lb) :
    Calls prog 180 [va,vb].toArray w (fun e w'=>∃ v,e = .returned v∧Ext w w'∧Slf w.heap.size w' v (dl (dv la - dv lb))):=by
 refine wC (N:=35) func180 O O zz_ ?_;obtain ⟨w0,rfl⟩:=nm w;refine giI ?_;refine GO ?_;refine cE (rg [] 5 28) (fun g nn M=>∃ (k:Nat) (v:Value) (l:List Nat) (L:List Blk) (c:Nat),(g 5=v∧g 6 = .int .i64 (c:Int)∧g 7 = .int .i64 (k:Int))∧M=L++[]∧nn=la.length - k∧(k≤la.length∧OwnL w0 3 v l L∧DL l∧l.length=k∧c≤1∧dv l+dv lb % 65536 ^ k=dv la % 65536 ^ k+c*65536 ^ k)) (la.length - 0) ?start ?round
 case start =>
  refine ⟨_,(List.Sublist.refl _),0,_,[],[],0,⟨?a5,?a6,?a7⟩,?mem0,rfl,⟨Nat.zero_le _,.nil,DL.nil,rfl,by decide,by simp [dv,Nat.mod_one]⟩⟩
  case mem0=>rfl
  case a5=>rfl
  case a6=>rfl
  case a7=>rfl
 case round =>
  rintro nn g M ⟨k,v,l,L,c,⟨hg5,hg6,hg7⟩,rfl,hmeas,⟨hk,hO,hD,hlen,hcb,hdv⟩⟩;subst nn;refine gS3 hg5 hg6 hg7 ?_;clear hg5 hg6 hg7;refine go4 ?_;refine sQ (oT j7 O hva.old) O (go2 ?_);refine aL _ O (fun hc=>?_) (fun hc=>?_)
  ·replace hc:=cB_ hc
   have hc:k<la.length:=by omega
   refine go4 ?_;refine kY sn 11 [] [] (go2 ?_);refine pQ O (BY j7 O O hva.old oo_) (pQ O (yP tyT O hva.old oo_) (go2 ?_));refine pQ O (dF aE O (fun w hw=>iF vb lb k w (SL.sl (M:=_) hvb.old hw))) (go2 ?_);refine pQ O (aM (rD O O) (congrArg (Value.int .i64) (show _=((dg (dv la) k:Nat):Int) - ((dg (dv lb) k:Nat):Int) - (c:Int) by rw [sZ la k hDa,sZ lb k hDb];exact gw_ (qU _ _) (qU _ _) hcb))) (jE ?_);refine aL _ O (fun h26=>?_) (fun h26=>?_)
   ·replace h26:=cB_ h26
    refine jE ?_;refine sQ (aM (lU O) (show _=IV (md (dg (dv la) k) (dg (dv lb) k) c) by first|exact ZG (qU _ _) (qU _ _) hcb h26|exact ZH h26)) O ?_;refine aY O (kH jN z_3 oX O dd_ O (DD _) (fun b31 hb31=>aY O (DT jN QT O O hO (SL.mine (l:=[md (dg (dv la) k) (dg (dv lb) k) c]) (.head _) (Nat.le_refl _)) (List.sublist_cons_self _ _) (by simp;omega) (fun v' L' hO'=>?_))));refine go4 ?_;refine sQ (aM (j3 O O) (congrArg (Value.int .i64) (lJ oo_))) O (go2 ?_);refine ⟨pp_,_,_,(List.Sublist.refl _),oo_,k+1,_,_,_,mb (dg (dv la) k) (dg (dv lb) k) c,⟨?s5,?s6,?s7⟩,?mem,rfl,⟨by omega,hO',hD.append (DL.one (cs_ (qU _ _) (qU _ _) hcb)),by simp [hlen],cq_ _ _ _,HB hlen hcb hdv⟩⟩
    case mem=>rfl
    case s5=>rfl
    case s6=>first|exact ZC h26|exact ZD h26
    case s7=>rfl
   replace h26:=cB_ h26
   refine go3 ?_;refine sQ (aM (lU O) (show _=IV (md (dg (dv la) k) (dg (dv lb) k) c) by first|exact ZG (qU _ _) (qU _ _) hcb h26|exact ZH h26)) O ?_;refine aY O (kH jN z_3 oX O dd_ O (DD _) (fun b31 hb31=>aY O (DT jN QT O O hO (SL.mine (l:=[md (dg (dv la) k) (dg (dv lb) k) c]) (.head _) (Nat.le_refl _)) (List.sublist_cons_self _ _) (by simp;omega) (fun v' L' hO'=>?_))));refine go4 ?_;refine sQ (aM (j3 O O) (congrArg (Value.int .i64) (lJ oo_))) O (go2 ?_);refine ⟨pp_,_,_,(List.Sublist.refl _),oo_,k+1,_,_,_,mb (dg (dv la) k) (dg (dv lb) k) c,⟨?s5,?s6,?s7⟩,?mem,rfl,⟨by omega,hO',hD.append (DL.one (cs_ (qU _ _) (qU _ _) hcb)),by simp [hlen],cq_ _ _ _,HB hlen hcb hdv⟩⟩
   case mem=>rfl
   case s5=>rfl
   case s6=>first|exact ZC h26|exact ZD h26
   case s7=>rfl
  replace hc:=cB_ hc
  obtain rfl:k=la.length:=by omega
  refine go3 ?_;refine sQ (dF aE O (fun w hw=>kU v l hD oo_ w (SL.sl (hO.sl lZ) hw))) O (go3 ?_);refine rt1 ?_;exact y4 hD (ST hDa hD hlen hle hdv hcb) (hO.slf lZ)
theorem kT (va vb:Value) (la lb:List Nat) (hDa:DL la) (hDb:DL lb) (hna:la.length≤200) (hnb:lb.length≤200) (w:World) (hva:Sl w va la) (hvb:Sl w vb lb) :
    Calls prog 164 [va,vb].toArray w (fun e w'=>e = .returned (.bool (decide (dv la<dv lb)))∧Ext w w'):=by
 refine dL (N:=30) func164 O O zz_ ?_;obtain ⟨w0,rfl⟩:=nm w;refine giI ?_;refine go6 ?_;refine sQ (oT j7 O hva.old) O (go_ ?_);refine sQ (oT j7 O hvb.old) O (sQ (Z1 O O) O (go4 ?_));refine cE (rg [4,5] 12 18) (fun g nn M=>∃ (k:Nat),(g 5 = .int .i64 ((k:Int) - 1))∧M=[]∧nn=k+0∧(k≤max la.length lb.length∧dv la / 65536 ^ k=dv lb / 65536 ^ k)) (max la.length lb.length) ?start ?round
 case start =>
  refine ⟨_,(List.Sublist.refl _),max la.length lb.length,?a5,?mem0,rfl,⟨Nat.le_refl _,SR hDa hDb⟩⟩
  case mem0=>rfl
  case a5=>exact congrArg (Value.int .i64) (cL (by unfold I64;omega))
 case round =>
  rintro nn g M ⟨k,hg5,rfl,hmeas,⟨hk,hd⟩⟩;subst nn;refine gS1 hg5 ?_;clear hg5;refine go5 ?_;refine aL _ O (fun hc=>?_) (fun hc=>?_)
  ·replace hc:=cB_ hc
   obtain ⟨m,rfl⟩:∃ m,k=m+1:=⟨k - 1,by omega⟩;refine go5 ?_;refine sQ (aM (lU O) (congrArg (Value.int .i64) (show (((m+1:Nat):Int) - 1)=(m:Int) by omega))) O (sQ (dF aE O (fun w hw=>iF va la m w (SL.sl (M:=_) hva.old hw))) O (go_ ?_));refine sQ (aM (lU O) (congrArg (Value.int .i64) (show (((m+1:Nat):Int) - 1)=(m:Int) by omega))) O (sQ (dF aE O (fun w hw=>iF vb lb m w (SL.sl (M:=_) hvb.old hw))) O (go2 ?_));refine aL _ O (fun hne=>?_) (fun hne=>?_)
   ·replace hne:=cB_ hne
    have hne':dg (dv la) m≠dg (dv lb) m:=by rw [← sZ la m hDa,← sZ lb m hDb];omega
    refine go2 ?_;refine sQ (aM (lU O) (congrArg (Value.int .i64) (show (((m+1:Nat):Int) - 1)=(m:Int) by omega))) O (sQ (dF aE O (fun w hw=>iF va la m w (SL.sl (M:=_) hva.old hw))) O (go_ ?_));refine sQ (aM (lU O) (congrArg (Value.int .i64) (show (((m+1:Nat):Int) - 1)=(m:Int) by omega))) O (sQ (dF aE O (fun w hw=>iF vb lb m w (SL.sl (M:=_) hvb.old hw))) O (go4 ?_));refine rt1 ?_
    (rw [sZ la m hDa,sZ lb m hDb];exact congrArg Value.bool (WE hd hne'))
   replace hne:=cB_ hne
   have heq':dg (dv la) m=dg (dv lb) m:=by rw [← sZ la m hDa,← sZ lb m hDb];omega
   refine go2 ?_;refine sQ (aM (lU O) (congrArg (Value.int .i64) (show (((m+1:Nat):Int) - 1)=(m:Int) by omega))) O (go3 ?_);refine ⟨pp_,_,_,(List.Sublist.refl _),oo_,m,?s5,?mem,rfl,⟨by omega,WD hd heq'⟩⟩
   case mem=>rfl
   case s5=>exact congrArg (Value.int .i64) (cL (n:=(m:Int) - 1) (by unfold I64;omega))
  replace hc:=cB_ hc
  obtain rfl:k=0:=by omega
  refine go5 ?_;refine rt1 ?_
  (simp only [Nat.pow_zero,Nat.div_one] at hd;rw [hd];exact congrArg Value.bool (decide_eq_false (Nat.lt_irrefl _)).symm)
theorem sH (va vb:Value) (la lb:List Nat) (hDa:DL la) (hDb:DL lb) (hna:la.length≤200) (hnb:lb.length≤200) (w:World) (hva:Sl w va la) (hvb:Sl w vb lb) :
    Calls prog 165 [va,vb].toArray w (fun e w'=>∃ v,e = .returned v∧Ext w w'∧Slf w.heap.size w' v (dl (dv la*dv lb))):=by
 refine wC (N:=72) func165 O O zz_ ?_;obtain ⟨w0,rfl⟩:=nm w;refine giI ?_;refine go5 ?_;refine sQ (oT j7 O hva.old) O (go_ ?_);refine sQ (oT j7 O hvb.old) O (sQ (aM (j3 O O) (congrArg (Value.int .i64) (rC oo_))) O (sQ (aM (j3 O O) (congrArg (Value.int .i64) (lJ oo_))) O (aY O (TC jN QT z_3 O O oo_ (fun b17 hb17=>go7 ?_)))));refine cE (rg [6,7,8,9,10] 18 52) (fun g nn M=>∃ (i:Nat) (o:List Nat),(g 6 = .int .i64 (i:Int))∧M=[⟨b17,3,iw o⟩]∧nn=la.length - i∧(i≤la.length∧DL o∧o.length=(la.length+lb.length+1)∧dv o=dv la % 65536 ^ i*dv lb)) (la.length - 0) ?start ?round
 case start =>
  refine ⟨_,(List.Sublist.refl _),0,List.replicate (la.length+lb.length+1) 0,?a6,?mem0,rfl,⟨Nat.zero_le _,fun d hd=>by rw [List.eq_of_mem_replicate hd];decide,by simp,by rw [FN,Nat.pow_zero,Nat.mod_one,Nat.zero_mul]⟩⟩
  case mem0=>rfl
  case a6=>rfl
 case round =>
  rintro nn g M ⟨i,o,hg6,rfl,hmeas,⟨hi,hDo,hlo,hdv⟩⟩;subst nn;refine gS1 hg6 ?_;clear hg6;refine go4 ?_;refine sQ (oT j7 O hva.old) O (go2 ?_);refine aL _ O (fun hc=>?_) (fun hc=>?_)
  ·replace hc:=cB_ hc
   have hc:i<la.length:=by omega
   refine go8 ?_;refine cE (rg [7] 24 27) (fun g nn M=>∃ (k:Nat) (l:List Nat),(g 7 = .int .i64 (k:Int))∧M=[⟨b17,3,iw l⟩]∧nn=lb.length - k∧(k≤lb.length∧RowIn (la.length+lb.length+1) (dv lb) i (dg (dv la) i) o k l)) (lb.length - 0) ?start ?round
   case start =>
    refine ⟨_,(List.Sublist.refl _),0,o,?a7,?mem0,rfl,⟨Nat.zero_le _,RowIn.start _ _ _ hDo hlo⟩⟩
    case mem0=>rfl
    case a7=>rfl
   case round =>
    rintro nn g M ⟨k,l,hg7,rfl,hmeas,⟨hkl,hR⟩⟩;subst nn;refine gS1 hg7 ?_;clear hg7;refine go4 ?_;refine sQ (oT j7 O hvb.old) O (go2 ?_);refine aL _ O (fun hk2=>?_) (fun hk2=>?_)
    ·replace hk2:=cB_ hk2
     have hk2:k<lb.length:=by omega
     refine go3 ?_;refine gdr sn [0,4,8,12,16,20,24,28,32,36,40,44,48,52,56,60,64,68,72,76,80,85] [21] mix (by kernel_rfl) (go3 ?_);refine pQ O (aM (j3 O O) (congrArg (Value.int .i64) (rC oo_))) (go3 ?_);refine pQ O (aM (j3 O O) (congrArg (Value.int .i64) (rC oo_))) (pQ O (sF j7 O O oo_ oo_) (pQ O (dX tyT O mm_ (eO_ (by rw [hR.len];omega))) ?_));refine go2 ?_;refine pQ O (BY j7 O O hva.old oo_) (pQ O (yP tyT O hva.old oo_) (go2 ?_));refine pQ O (BY j7 O O hvb.old oo_) (pQ O (yP tyT O hvb.old oo_) (go_ ?_));refine pQ O (aM (j3 O O) (show _=IV (l.getD (i+k) 0+dg (dv la) i*dg (dv lb) k) by rw [sZ la i hDa,sZ lb k hDb];exact bp_ (hR.high _ (Nat.le_refl _)) (qU _ _) (qU _ _))) (pQ O (sF j7 O O oo_ oo_) ?_);refine cJ O O (F0 tyT O O uu_ (by rw [hR.len];omega) (.inl fP) ⟨nf,ss_,?_⟩);refine go3 ?_;refine sQ (aM (j3 O O) (congrArg (Value.int .i64) (lJ oo_))) O (go2 ?_);refine ⟨pp_,_,_,(List.Sublist.refl _),oo_,k+1,_,?s7,?mem,rfl,⟨by omega,hR.step oo_ (qU _ _)⟩⟩
     case mem=>rfl
     case s7=>rfl
    replace hk2:=cB_ hk2
    obtain rfl:k=lb.length:=by omega
    refine go8 ?_;refine cE (rg [8,9,10] 51 19) (fun g nn M=>∃ (m:Nat) (l:List Nat) (c:Nat),(g 8 = .int .i64 (c:Int)∧g 9 = .int .i64 (m:Int))∧M=[⟨b17,3,iw l⟩]∧nn=(la.length+lb.length+1) - m∧(m≤(la.length+lb.length+1)∧CarryIn (la.length+lb.length+1) (dv o+65536 ^ i*(dg (dv la) i*(dv lb % 65536 ^ lb.length))) m l c)) ((la.length+lb.length+1) - 0) ?start ?round
    case start =>
     refine ⟨_,(List.Sublist.refl _),0,l,0,⟨?a8,?a9⟩,?mem0,rfl,⟨Nat.zero_le _,hR.done⟩⟩
     case mem0=>rfl
     case a8=>rfl
     case a9=>rfl
    case round =>
     rintro nn g M ⟨m,l,c,⟨hg8,hg9⟩,rfl,hmeas,⟨hml,hC⟩⟩;subst nn;refine gS2 hg8 hg9 ?_;clear hg8 hg9;refine go4 ?_;refine sQ (CO j7 O) O (go2 ?_);refine aL _ O (fun hm2=>?_) (fun hm2=>?_)
     ·replace hm2:=cB_ hm2
      have hm2:m<(la.length+lb.length+1):=by omega
      refine go6 ?_;refine sQ (sF j7 O O oo_ oo_) O (sQ (dX tyT O mm_ (eO_ (by rw [hC.len];omega))) O ?_);refine go_ ?_;refine sQ (aM (j3 O O) (congrArg (Value.int .i64) (f3_ (by have:=hC.low m;have:=hC.clt;omega)))) O (go6 ?_);refine sQ (aM (tQ O O dd_) (Q9 _)) O (sQ (sF j7 O O oo_ oo_) O (aY O (F0 tyT O O uu_ (by rw [hC.len];omega) (.inl fP) ?_)));refine go3 ?_;refine sQ (aM (lI O O dd_) (congrArg (Value.int .i64) (fb_ (by have:=hC.low m;have:=hC.clt;omega)))) O (go4 ?_);refine sQ (aM (j3 O O) (congrArg (Value.int .i64) (lJ oo_))) O (go2 ?_);refine ⟨pp_,_,_,(List.Sublist.refl _),oo_,m+1,_,_,⟨?s8,?s9⟩,?mem,rfl,⟨by omega,hC.step oo_⟩⟩
      case mem=>rfl
      case s8=>rfl
      case s9=>rfl
     replace hm2:=cB_ hm2
     obtain rfl:m=(la.length+lb.length+1):=by omega
     have hT:(dv o+65536 ^ i*(dg (dv la) i*(dv lb % 65536 ^ lb.length)))=dv la % 65536 ^ (i+1)*dv lb:=by rw [hdv];exact XC (AW lb hDb)
     have hF:=hC.fin (by rw [hT];exact av_ oo_ (AW lb hDb));rw [hT] at hF;refine go3 ?_;refine sQ (aM (j3 O O) (congrArg (Value.int .i64) (lJ oo_))) O (go2 ?_);refine ⟨pp_,_,_,(List.Sublist.refl _),oo_,i+1,_,?s6,?mem,rfl,⟨by omega,hF⟩⟩
     case mem=>rfl
     case s6=>rfl
  replace hc:=cB_ hc
  obtain rfl:i=la.length:=by omega
  refine go3 ?_;refine sQ (dF aE O (fun w hw=>kU _ o hDo oo_ w (SL.sl (SL.mine' (.head _) hlo (Nat.le_refl _)) hw))) O (go3 ?_);refine rt1 ?_;exact y4 hDo (by rw [hdv,Nat.mod_eq_of_lt (AW la hDa)]) (SLf.mine hb17 (.head _) hlo (Nat.le_refl _))
theorem rF (va:Value) (la:List Nat) (k:Int) (w:World) (hva:Sl w va la) :
   Calls prog 210 [va,.int .i64 k].toArray w (fun e w'=>e = .returned (.int .i64 ((atD la k:Nat):Int))∧Ext w w'):=by
 refine dL (N:=10) func210 O O zz_ ?_;obtain ⟨w0,rfl⟩:=nm w;refine giI ?_;refine go8 ?_;refine aL _ O (fun h0=>?_) (fun h0=>?_)
 ·replace h0:=cB_ h0
  refine go4 ?_;refine rt1 ?_
  (rw [aY_ h0];rfl)
 replace h0:=cB_ h0
 refine go3 ?_;refine sQ (aM (lU O) (show _=Value.int .i64 (k.toNat:Int) from congrArg (Value.int .i64) oo_)) O (sQ (dF aE O (fun w hw=>iF va la k.toNat w (SL.sl (M:=_) hva.old hw))) O (go3 ?_));refine rt1 ?_;rw [aZ_ h0]
theorem wR (n:Int) :
   Ret prog 201 [.int .i64 n] (.bool (decide (n<2147483648)&&decide (-2147483648<n))):=by
 refine bA (N:=9) func201 O O zz_ (fun w0=>?_);refine giI ?_;refine go7 ?_
 cases h1:decide (n<2147483648)
 ·refine go6 ?_;refine rt1 ?_
  simp [*]
 refine go6 ?_;refine rt1 ?_
 simp [*]
theorem vQ (n m:Int) (hn:I64 n) (hnm:n ≠ -9223372036854775808) (hm:m≠0) :
   Ret prog 179 [.int .i64 n,.int .i64 m] (.int .i64 (n.fdiv m)):=by
 refine bA (N:=23) func179 O O zz_ (fun w0=>?_);refine giI ?_;refine go6 ?_;refine sQ (aM (lI O O hm) (congrArg (Value.int .i64) (cL (TA hn hnm)))) O (go6 ?_);refine sQ (tQ O O hm) O (go2 ?_)
 cases h0:(n.tmod m != 0)
 ·refine GO ?_;refine rt1 ?_;exact congrArg (Value.int .i64) (FQ hm (.inl (by simpa using h0))).1.symm
 refine go4 ?_;refine sQ (xF E0 O O) O (go2 ?_);refine aL _ O (fun hs=>?_) (fun hs=>?_)
 ·replace hs:=cB_ hs
  refine go2 ?_;refine sQ (aM (rD O O) (congrArg (Value.int .i64) (cL (Z7 hn hnm)))) O (go7 ?_);refine rt1 ?_;exact congrArg (Value.int .i64) (SI hm (by simpa using h0) (bne_iff_ne.2 (by rw [NF (by simpa using h0)];exact hs))).1.symm
 replace hs:=cB_ hs
 refine go6 ?_;refine rt1 ?_;exact congrArg (Value.int .i64) (FQ hm (.inr (by rw [NF (by simpa using h0)];simpa using hs))).1.symm
theorem hJ (a:R) (ha:a.Ok) :
    Ret prog 176 [RV a] (.tuple #[.int .i64 (lM a),.bool (jQ a)]):=by
 refine bA (N:=41) func176 O O zz_ (fun w0=>?_);refine giI ?_;refine go_ ?_;refine aY O (lC O O (fun b1 hb1=>go4 ?_));refine sQ (cI tyT O mm_ (cO ha)) O ?_;refine sQ (aX aE (cB a ha) O) O (go7 ?_)
 cases hg:a.good
 ·refine uP ?_;refine rt2 ?_;exact XF hg
 refine sQ (cH fdT dd_ O) O (sQ (eZ arT O O dd_ dd_) O (sQ (dX tyT O mm_ (oZ (r:=a) (k:=1) (by rw [ha.len];decide))) O ?_));refine go3 ?_;refine aL _ O (fun h16=>?_) (fun h16=>?_)
 ·replace h16:=cB_ h16
  refine go5 ?_;refine rt2 ?_;exact RW (aG_ ha h16)
 replace h16:=cB_ h16
 refine go6 ?_;refine cE (rg [2,3,5] 17 9) (fun g nn M=>∃ (k:Nat),(g 5 = .int .i64 (k:Int))∧M=[⟨b1,33,a.cells⟩]∧nn=16 - k∧(2≤k∧k≤16∧∀ j,2≤j→j<k→a.w.getD j 0=0)) (14) ?start ?round
 case start =>
  refine ⟨_,(List.Sublist.refl _),2,?a5,?mem0,rfl,⟨Nat.le_refl _,by decide,fun j h1 h2=>by omega⟩⟩
  case mem0=>rfl
  case a5=>rfl
 case round =>
  rintro nn g M ⟨k,hg5,rfl,hmeas,⟨hk2,hk,hz⟩⟩;subst nn;refine gS1 hg5 ?_;clear hg5;refine go5 ?_;refine aL _ O (fun hc=>?_) (fun hc=>?_)
  ·replace hc:=cB_ hc
   have hc:k<16:=by omega
   refine go5 ?_;refine sQ (cH fdT dd_ O) O (sQ (eZ arT O O oo_ oo_) O (sQ (dX tyT O mm_ (oZ (r:=a) (k:=k) (by rw [ha.len];omega))) O ?_));refine go2 ?_;refine aL _ O (fun hz2=>?_) (fun hz2=>?_)
   ·replace hz2:=cB_ hz2
    refine go5 ?_;refine rt2 ?_;exact RW (XG ha hk2 oo_)
   replace hz2:=cB_ hz2
   refine go3 ?_;refine sQ (aM (j3 O O) (congrArg (Value.int .i64) (lJ oo_))) O (go2 ?_);refine ⟨pp_,_,_,(List.Sublist.refl _),oo_,k+1,?s5,?mem,rfl,⟨by omega,by omega,fun j h1 h2=>by rcases Nat.eq_or_lt_of_le (Nat.le_of_lt_succ h2) with rfl|h3;omega;exact hz j h1 h3⟩⟩
   case mem=>rfl
   case s5=>rfl
  replace hc:=cB_ hc
  obtain rfl:k=16:=by omega
  have hws:=RX ha oo_ hz;refine go2 ?_;refine sQ (cH fdT dd_ O) O (sQ (eZ arT O O dd_ dd_) O (sQ (dX tyT O mm_ (oZ (r:=a) (k:=1) (by rw [ha.len];decide))) O ?_));refine sQ (eX i4 FS O) O (go_ ?_);refine sQ (cH fdT dd_ O) O (sQ (eZ arT O O dd_ dd_) O (sQ (dX tyT O mm_ (oZ (r:=a) (k:=0) (by rw [ha.len];decide))) O ?_));refine sQ (eX i4 FS O) O (sQ (aM (j3 O O) (congrArg (Value.int .i64) ((RX ha oo_ hz).1))) O (go4 ?_));refine sQ (cH fdT dd_ O) O (sQ (dX tyT O mm_ O) O ?_);refine go_ ?_;refine aL _ O (fun hn=>?_) (fun hn=>?_)
  ·replace hn:=cB_ hn
   refine go7 ?_;refine rt2 ?_;exact aE_ hg hws.2 hn
  replace hn:=cB_ hn
  refine go7 ?_;refine rt2 ?_;exact aF_ hg hws.2 hn
theorem bW (n:Int) (hn:I64 n) :
   Ret prog 75 [.int .i64 n] (RV (Z.of n).enc):=by
 refine bA (N:=35) func75 O O zz_ (fun w0=>?_);refine giI ?_;unfold I64 at hn;refine go_ ?_;refine aY O (eS mX (fun b2 hb2=>go6 ?_));refine aL _ O (fun h0=>?_) (fun h0=>?_)
 ·replace h0:=cB_ h0
  obtain ⟨m,rfl⟩:∃ m:Nat,n=m:=⟨n.toNat,by omega⟩;refine go2 ?_;refine sQ (aM (tQ O O dd_) (show _=IV (m % 65536) from Q9 _)) O (go_ ?_);refine sQ (aM (lI O O dd_) (MV 65536 oo_)) O (sQ (aM (tQ O O dd_) (show _=IV (m / 65536 % 65536) from Q9 _)) O (go_ ?_));refine sQ (aM (lI O O dd_) (MV 4294967296 oo_)) O (sQ (aM (tQ O O dd_) (show _=IV (m / 4294967296 % 65536) from Q9 _)) O (go_ ?_));refine sQ (aM (lI O O dd_) (MV 281474976710656 oo_)) O (aY O (kH jN z_3 oX O dd_ O (YN _ _ _ _) (fun b16 hb16=>sQ (dF aE O (fun w hw=>eA false _ (dl4 m) (YF oo_) (by simp [dl4]) w (SL.sl (SL.mine (l:=dl4 m) (.head _) (Nat.le_refl _)) hw))) O ?_)));refine aY O (bV tyT O O uu_ (aI _) O (bN _) (.inl fP) ?_);refine go2 ?_;refine rtX O ⟨_,_,_,_,_,_,rfl,mm_,tyT,_,(dQ (aI _)),(aI _),rfl⟩ ?_
  (rw [SF,uU];rfl)
 replace h0:=cB_ h0
 obtain ⟨m,rfl⟩:∃ m:Nat,n = -((m:Int)+1):=⟨(-n - 1).toNat,by omega⟩;refine go4 ?_;refine sQ (aM (Z2 O) (congrArg (Value.int .i64) (bx_ oo_))) O (go4 ?_);refine sQ (aM (tQ O O dd_) (show _=IV (m % 65536) from Q9 _)) O (go_ ?_);refine sQ (aM (lI O O dd_) (MV 65536 oo_)) O (sQ (aM (tQ O O dd_) (show _=IV (m / 65536 % 65536) from Q9 _)) O (go_ ?_));refine sQ (aM (lI O O dd_) (MV 4294967296 oo_)) O (sQ (aM (tQ O O dd_) (show _=IV (m / 4294967296 % 65536) from Q9 _)) O (go_ ?_));refine sQ (aM (lI O O dd_) (MV 281474976710656 oo_)) O (aY O (kH jN z_3 oX O dd_ O (YN _ _ _ _) (fun b31 hb31=>aY O (kH jN z_3 oX O dd_ O (DD 1) (fun b32 hb32=>aY O (fL aE O (fun w hw=>pK _ _ (dl4 m) [1] (YF oo_) (DL.one dd_) (by simp [dl4]) zz_ w (SL.sl (SL.mine (l:=dl4 m) (.tail _ (.head _)) (Nat.le_refl _)) hw) (SL.sl (SL.mine (l:=[1]) (.head _) (Nat.le_refl _)) hw)) (fun v9 L9 h9=>?_)))))));refine sQ (dF aE O (fun w hw=>eA true _ _ (kV _) (Nat.le_trans (iC (k:=64) (by rw [SF];simp only [dv];omega)) dd_) w (SL.sl (h9.sl.sub lZ) hw))) O (aY O (bV tyT O O uu_ (aI _) O (bN _) (.inl fP) ?_));refine go2 ?_;refine rtX O ⟨_,_,_,_,_,_,rfl,mm_,tyT,_,(dQ (aI _)),(aI _),rfl⟩ ?_
 (rw [gB,SF];simp only [dv,Nat.mul_zero,Nat.add_zero];rw [fk_];rfl)
end Go.Proofs.YtbjlhfochebmiaaGreatDoor
namespace Go.Num
open Go Go.Kn
theorem eA_ {a b:I} (h:(!a.1.good||(!b.1.good))=true):a.1.dec.o=none∨b.1.dec.o=none:=by
 cases ha:a.1.good
 ·exact .inl (HU ha)
 ·cases hb:b.1.good
  ·exact .inr (HU hb)
  rw [ha,hb] at h;cases h
theorem YW {a b:I} (h:(!a.1.good||(!b.1.good))=false):a.1.good=true∧b.1.good=true:=by
 cases ha:a.1.good<;>cases hb:b.1.good<;>rw [ha,hb] at h<;>first|exact ⟨rfl,rfl⟩|cases h
theorem BP (a:I):o8 a=E (Z.neg a.dec):=by
 unfold o8
 show _=E (Z.neg a.1.dec)
 cases h:a.1.good
 ·rw [cond_false,Z.neg,AY (HU h)]
 rw [cond_true,dB_ a.2 h]
theorem BL (a:I):o7 a=E (Z.abs a.dec):=by
 unfold o7
 show _=E (Z.abs a.1.dec)
 cases h:a.1.good
 ·rw [cond_false,Z.abs,AY (HU h)]
 rw [cond_true,c2_ a.2 h]
theorem BM (a b:I):lB a b=E (Z.add a.dec b.dec):=by
 unfold lB
 show _=E (Z.add a.1.dec b.1.dec)
 cases hw:(jQ a.1&&jQ b.1)
 ·rw [cond_false]
  cases hg:(!a.1.good||(!b.1.good))
  ·obtain ⟨ga,gb⟩:=YW hg
   rw [cond_false]
   cases hn:(a.1.neg==b.1.neg)
   ·rw [cond_false]
    have hn':a.1.neg≠b.1.neg:=by simpa using hn
    cases hl:decide (val a.1.w<val b.1.w)
    ·rw [cond_false,c4_ a.2 b.2 ga gb hn' (of_decide_eq_false hl)]
    rw [cond_true,c5_ a.2 b.2 ga gb hn' (of_decide_eq_true hl)]
   rw [cond_true,aV_ a.2 b.2 ga gb (by simpa using hn)]
  rw [cond_true,Z.add,o0 (eA_ hg)]
 rw [cond_true];rw [Bool.and_eq_true] at hw
 show E (Z.of (IntKind.i64.wrap (lM a.1+lM b.1)))=_
 rw [(gz_ (nW a.2 hw.1).2.2.2 (nW b.2 hw.2).2.2.2).1,VR a.2 b.2 hw.1 hw.2]
theorem BS (a b:I):yH a b=E (Z.sub a.dec b.dec):=rfl
theorem BO (a b:I):nY a b=E (Z.mul a.dec b.dec):=by
 unfold nY
 show _=E (Z.mul a.1.dec b.1.dec)
 cases hw:(jQ a.1&&(jQ b.1&&((decide ((eK a).1<2147483648)&&decide (-2147483648<(eK a).1))&&(decide ((eK b).1<2147483648)&&decide (-2147483648<(eK b).1)))))
 ·rw [cond_false]
  cases hg:(!a.1.good||(!b.1.good))
  ·obtain ⟨ga,gb⟩:=YW hg
   rw [cond_false,dA_ a.2 b.2 ga gb]
  rw [cond_true,Z.mul,o0 (eA_ hg)]
 rw [cond_true];rw [Bool.and_eq_true,Bool.and_eq_true,Bool.and_eq_true] at hw;obtain ⟨h1,h2,h3,h4⟩:=hw
 show E (Z.of (IntKind.i64.wrap (lM a.1*lM b.1)))=_
 rw [(gA_ (x:=lM a.1) (y:=lM b.1) (UC h3) (UC h4)).1,WJ a.2 b.2 h1 h2]
theorem dv_ (n:Nat):(((dl n).length:Int)==0)=(n==0):=by
 rw [Bool.eq_iff_iff,beq_iff_eq,beq_iff_eq]
 constructor
 ·intro h;exact N6.1 oo_
 intro h;rw [N6.2 h];rfl
theorem AP (a:I):mY a=Z.signW a.dec:=by
 unfold mY;rw [dv_]
 apply Subtype.ext
 show _=a.1.dec.sign
 cases hg:a.1.good
 ·simp only [Bool.not_false,Bool.true_or,cond_true];exact EJ a.2 (.inl hg)
 ·cases hz:(val a.1.w==0)
  ·simp only [Bool.not_true,Bool.false_or,cond_false]
   rw [bX_ a.2 hg (by simpa using hz)]
   cases a.1.neg<;>rfl
  simp only [Bool.or_true,cond_true];exact EJ a.2 (.inr hz)
theorem BN (a b:I):fR a b=Z.cmpW a.dec b.dec:=by
 unfold fR
 apply Subtype.ext
 show _=Z.cmp a.1.dec b.1.dec
 cases ga:a.1.good
 ·cases gb:b.1.good
  ·simp only [Bool.not_false,Bool.and_self,cond_true];exact SB ga gb
  simp only [Bool.not_true,Bool.and_false,cond_false];exact SC ga b.2 gb
 ·cases gb:b.1.good
  ·simp only [Bool.not_true,Bool.not_false,Bool.false_and,cond_false,cond_true];exact SD a.2 ga gb
  simp only [Bool.not_true,Bool.false_and,cond_false,cond_true]
  cases hn:(a.1.neg != b.1.neg)
  ·have hn':a.1.neg=b.1.neg:=by simpa using hn
   rw [cond_false]
   cases h1:a.1.neg
   ·rw [cond_false,← T5 a.2 b.2 ga gb hn' (val a.1.w) (val b.1.w) (by rw [h1];exact ⟨rfl,rfl⟩)]
    by_cases h2:val a.1.w<val b.1.w
    ·simp [h2]
    by_cases h3:val b.1.w<val a.1.w<;>simp [h2,h3]
   rw [cond_true,← T5 a.2 b.2 ga gb hn' (val b.1.w) (val a.1.w) (by rw [h1];exact ⟨rfl,rfl⟩)]
   by_cases h2:val b.1.w<val a.1.w
   ·simp [h2]
   by_cases h3:val a.1.w<val b.1.w<;>simp [h2,h3]
  rw [cond_true,← df_ a.2 b.2 ga gb (by simpa using hn)]
  cases a.1.neg<;>rfl
theorem BQ (a b:I):mB a b=E (Z.quo a.dec b.dec):=by
 unfold mB;rw [dv_]
 show _=E (Z.quo a.1.dec b.1.dec)
 cases hw:(jQ a.1&&(jQ b.1&&((eK b).1 != 0)))
 ·rw [cond_false]
  cases hg:(!a.1.good||(!b.1.good||(val b.1.w==0)))
  ·rw [cond_false]
   simp only [Bool.or_eq_false_iff,Bool.not_eq_false',beq_eq_false_iff_ne] at hg;obtain ⟨ga,gb,h0⟩:=hg
   cases hc:((a.1.neg != b.1.neg)&&decide ((0:Int)<((dl (val a.1.w % val b.1.w)).length:Int)))
   ·rw [cond_false,dO_ a.2 b.2 ga gb h0]
    rw [Bool.and_eq_false_iff] at hc;rcases hc with hc|hc
    ·exact .inl (by simpa using hc)
    right
    have:=of_decide_eq_false hc;exact N6.1 oo_
   rw [cond_true,bG_ a.2 b.2 ga gb h0]
   ·rw [Bool.and_eq_true] at hc;simpa using hc.1
   rw [Bool.and_eq_true] at hc;have:=of_decide_eq_true hc.2;intro h;rw [h,rQ] at this;exact absurd this dd_
  rw [cond_true]
  cases ga:a.1.good
  ·rw [cy_ (.inl ga)]
  ·cases gb:b.1.good
   ·rw [cy_ (.inr gb)]
   rw [ga,gb] at hg;rw [fc_ a.2 b.2 ga gb (by simpa using hg)]
 rw [cond_true];have hf:=OH hw;rw [Bool.and_eq_true,Bool.and_eq_true] at hw;rw [← hf.2.2];exact congrArg E (WR a.2 b.2 hw.1 hw.2.1 hf.2.1)
end Go.Num
namespace Go.Proofs.YtbjlhfochebmiaaGreatDoor
open Go.Kn Go.Num Tryz
attribute [local irreducible] Go.Kn.W WL PL OpQ OpR OpS
theorem oJ (va vb:Value) (A B:Nat) (hB:0<B) (hna:(dl A).length≤190) (hnb:(dl B).length≤190) (w:World) (hva:Sl w va (dl A)) (hvb:Sl w vb (dl B)) :
    Calls prog 178 [va,vb].toArray w (fun e w'=>∃ v1 v2,e = .returned (.tuple #[v1,v2])∧Ext w w'∧Slf w.heap.size w' v1 (dl (A / B))∧Slf w.heap.size w' v2 (dl (A % B))):=by
 refine LJ (N:=84) func178 O O zz_ ?_;obtain ⟨w0,rfl⟩:=nm w;refine giI ?_;have hn0:1≤(dl B).length:=Nat.pos_of_ne_zero (fun hc=>by rw [N6] at hc;omega);obtain ⟨tp,htp⟩:∃ tp,tp=(dg B ((dl B).length - 1)*65536+atD (dl B) (((dl B).length:Int) - 2)):=⟨_,rfl⟩;refine go6 ?_;refine sQ (oT j7 O hva.old) O (aY O (TC jN QT z_3 O O oo_ (fun b15 hb15=>go4 ?_)));refine sQ (oT j7 O hvb.old) O (go3 ?_);refine kY sn 12 [] [] (go2 ?_);refine pQ O (aM (rD O O) (congrArg (Value.int .i64) (wV (b:=1) O oo_ oo_))) (pQ O (BY j7 O O hvb.old oo_) (pQ O (aM (yP tyT O hvb.old oo_) (congrArg IV (EA B _))) (go3 ?_)));refine pQ O (aM (rD O O) (congrArg (Value.int .i64) (U6 oo_ dd_ dd_))) (pQ O (dF aE O (fun w hw=>rF vb (dl B) _ w (SL.sl (M:=_) hvb.old hw))) (pQ O (aM (j3 O O) (show _=Value.int .i64 (tp:Int) from congrArg (Value.int .i64) (by rw [htp];exact b6_ (qU _ _) (EY _ _)))) (go8 ?_)));refine sQ (oT j7 O hva.old) O (go4 ?_);refine cE (rg [9,10,11,12] 32 49) (fun g nn M=>∃ (k R:Nat) (qs:List Nat) (vr:Value) (L:List Blk),(g 9=vr∧g 10 = .int .i64 ((k:Int) - 1))∧M=L++[⟨b15,3,iw qs⟩]∧nn=k+0∧(k≤(dl A).length∧DivIn A B (dl A).length k R qs∧SLf w0 L vr (dl R))) ((dl A).length) ?start ?round
 case start =>
  refine ⟨_,(List.Sublist.refl _),(dl A).length,0,_,_,[],⟨?a9,?a10⟩,?mem0,rfl,⟨Nat.le_refl _,DivIn.start (I7 A),by rw [rQ];exact SLf.none⟩⟩
  case mem0=>rfl
  case a9=>rfl
  case a10=>exact congrArg (Value.int .i64) (U6 oo_ dd_ dd_)
 case round =>
  rintro nn g M ⟨k,R,qs,vr,L,⟨hg9,hg10⟩,rfl,hmeas,⟨hk,hI,hr⟩⟩;subst nn;refine gS2 hg9 hg10 ?_;clear hg9 hg10;refine go5 ?_;refine aL _ O (fun hc=>?_) (fun hc=>?_)
  ·replace hc:=cB_ hc
   obtain ⟨m,rfl⟩:∃ m,k=m+1:=⟨k - 1,by omega⟩
   have hRB:R<B:=by rw [hI.rest];exact Nat.mod_lt _ hB
   have hRl:(dl R).length≤190:=Nat.le_trans (eG_ (Nat.le_of_lt hRB)) hnb;refine go5 ?_;refine sQ (aM (lU O) (congrArg (Value.int .i64) (show (((m+1:Nat):Int) - 1)=(m:Int) by omega))) O (sQ (BY j7 O O hva.old oo_) O (sQ (aM (yP tyT O hva.old oo_) (congrArg IV (EA A m))) O (aY O (kH jN z_3 oX O dd_ O (DD _) (fun b40 hb40=>go_ ?_)))));have hC8:=T6 (R:=R) (qU A m);refine aY O (DT jN QT O O (OwnL.of_mine (l:=[dg A m]) hb40 (show 1≤maxLen by decide)) (hr.sl.sub (.cons _ lZ)) (List.Sublist.refl _) (by simp only [List.length_singleton];omega) (fun v8 L8 hO8=>?_));refine sQ (dF aE O (fun w hw=>kU v8 ([dg A m]++dl R) hC8.1 (by simp only [List.length_append,List.length_singleton];omega) w (SL.sl (hO8.sl lZ) hw))) O ?_;refine go2 ?_;have hC8:=T6 (R:=R) (qU A m);have hr8:=y4 hC8.1 hC8.2 (hO8.slf (List.Sublist.refl _));generalize sls v8 (dl (dv ([dg A m]++dl R))).length=vr8 at hr8 ⊢
   have hR8:(R*65536+dg A m)<65536*B:=by have:=qU A m;omega
   obtain ⟨nm,hnm⟩:∃ nm,nm=(atD (dl (R*65536+dg A m)) ((dl B).length:Int)*4294967296+atD (dl (R*65536+dg A m)) (((dl B).length:Int) - 1)*65536+atD (dl (R*65536+dg A m)) (((dl B).length:Int) - 2)):=⟨_,rfl⟩;obtain ⟨d0,hd0⟩:∃ d0,d0=min 65535 (nm / tp):=⟨_,rfl⟩
   have G8:0<tp∧(R*65536+dg A m) / B≤d0∧d0≤65535:=by rw [hd0,hnm,htp];have hg:=YY hB hR8 O hn0;exact ⟨hg.1,hg.2,Nat.min_le_left _ _⟩
   have hl8:(dl (R*65536+dg A m)).length≤192:=Nat.le_trans (iC (k:=(dl B).length+1) (by have:=I7 B;rw [Nat.pow_succ];omega)) oo_;refine go3 ?_;refine sQ (dF aE O (fun w hw=>rF _ (dl (R*65536+dg A m)) _ w (SL.sl (M:=_) (hr8.sl.sub lZ) hw))) O (go3 ?_);refine sQ (aM (rD O O) (congrArg (Value.int .i64) (U6 oo_ dd_ dd_))) O (sQ (dF aE O (fun w hw=>rF _ (dl (R*65536+dg A m)) _ w (SL.sl (M:=_) (hr8.sl.sub lZ) hw))) O (go4 ?_));refine sQ (aM (rD O O) (congrArg (Value.int .i64) (U6 oo_ dd_ dd_))) O (sQ (dF aE O (fun w hw=>rF _ (dl (R*65536+dg A m)) _ w (SL.sl (M:=_) (hr8.sl.sub lZ) hw))) O (sQ (aM (j3 O O) (show _=Value.int .i64 (nm:Int) from congrArg (Value.int .i64) (by rw [hnm];exact bw_ (EY _ _) (EY _ _) (EY _ _)))) O (go_ ?_)));refine sQ (aM (lI O O (fun hc=>Nat.lt_irrefl 0 (Nat.lt_of_lt_of_eq G8.1 (Int.natCast_eq_zero.1 hc)))) (congrArg (Value.int .i64) (Q6 (by rw [hnm];exact dE_ _ _ _ _)))) O (sQ (aM (dM_ (a:=65535) O O) (congrArg (fun n:Nat=>Value.int .i64 (n:Int)) hd0.symm)) O (go5 ?_));refine aY O (kH jN z_3 oX O dd_ O (DD _) (fun b64 hb64=>aY O (fL aE O (fun w hw=>sH vb _ (dl B) [d0] (kV B) (DL.one oo_) oo_ zz_ w (SL.sl (M:=_) hvb.old hw) (SL.sl (SL.mine (l:=[d0]) (.head _) (Nat.le_refl _)) hw)) (fun vp0 Lp0 hp0=>?_))));refine go4 ?_;refine cE (rg [11,12] 66 8) (fun g nn M=>∃ (d:Nat) (vp:Value) (Lp:List Blk),(g 11 = .int .i64 (d:Int)∧g 12=vp)∧M=Lp++(L8++(L++[⟨b15,3,iw qs⟩]))∧nn=d∧(((R*65536+dg A m) / B≤d∧d≤65535)∧SLf w0 Lp vp (dl (B*d)))) d0 ?start ?round
   case start =>
    refine ⟨_,(List.Sublist.append (List.Sublist.refl _) (List.Sublist.cons _ (List.Sublist.refl _))),d0,vp0,Lp0,⟨?a11,?a12⟩,?mem0,rfl,⟨⟨G8.2.1,G8.2.2⟩,by have:=hp0;rw [gB] at this;simpa [dv] using this⟩⟩
    case mem0=>rfl
    case a11=>rfl
    case a12=>rfl
   case round =>
    rintro nn g M ⟨d,vp,Lp,⟨hg11,hg12⟩,rfl,hmeas,⟨hd,hp⟩⟩;subst nn;refine gS2 hg11 hg12 ?_;clear hg11 hg12;have hpl:(dl (B*d)).length≤195:=Nat.le_trans (iC (k:=(dl B).length+1) (by have:=I7 B;have h1:=Nat.mul_le_mul_left B hd.2;rw [Nat.pow_succ];omega)) oo_;refine go4 ?_;refine sQ (dF aE O (fun w hw=>kT _ vp (dl (R*65536+dg A m)) (dl (B*d)) (kV _) (kV _) oo_ oo_ w (SL.sl (hr8.sl.sub (.trans lZ (List.sublist_append_right _ _))) hw) (SL.sl (hp.sl.sub lZ) hw))) O (go_ ?_);refine aL _ O (fun h68=>?_) (fun h68=>?_)
    ·replace h68:=cB_ h68
     rw [gB,gB] at h68;have hless:=YD hB hd.1 h68;refine go4 ?_;refine sQ (aM (rD O O) (congrArg (Value.int .i64) (wV (b:=1) O hless.1 oo_))) O (go5 ?_);refine aY O (fL aE O (fun w hw=>nD vp vb (dl (B*d)) (dl B) (kV _) (kV _) oo_ oo_ (by rw [gB,gB];exact hless.2.2.1) w (SL.sl (hp.sl.sub lZ) hw) (SL.sl (M:=_) hvb.old hw)) (fun vp2 Lp2 hp2=>go2 ?_));refine ⟨pp_,_,_,(List.Sublist.append (List.Sublist.refl _) (List.sublist_append_right _ _)),(by have:=hless.1;omega),d - 1,vp2,Lp2,⟨?s11,?s12⟩,?mem,rfl,⟨⟨hless.2.1,by omega⟩,by rw [gB,gB,hless.2.2.2] at hp2;exact hp2⟩⟩
     case mem=>rfl
     case s11=>rfl
     case s12=>rfl
    replace h68:=cB_ h68
    rw [gB,gB] at h68;have hdone:=YC hB hd.1 h68;refine go3 ?_;refine sQ (aM (lU O) (congrArg (Value.int .i64) (show (((m+1:Nat):Int) - 1)=(m:Int) by omega))) O (go_ ?_);refine sQ (sF j7 O O oo_ oo_) O (aY O (F0 tyT O O (uL (uL (uL uH))) (by rw [hI.len];omega) (.inl fP) (go4 ?_)));refine aY O (fL aE O (fun w hw=>nD _ vp (dl (R*65536+dg A m)) (dl (B*d)) (kV _) (kV _) oo_ oo_ (by rw [gB,gB];exact hdone.2.2) w (SL.sl (hr8.sl.sub (.trans lZ (List.sublist_append_right _ _))) hw) (SL.sl (hp.sl.sub lZ) hw)) (fun vr2 Lr2 hr2=>go3 ?_));refine sQ (aM (lU O) (congrArg (Value.int .i64) (show (((m+1:Nat):Int) - 1)=(m:Int) by omega))) O (go3 ?_);refine ⟨pp_,_,_,(List.Sublist.append (List.Sublist.refl _) (.trans (List.sublist_append_right _ _) (.trans (List.sublist_append_right _ _) (List.sublist_append_right _ _)))),oo_,m,((R*65536+dg A m) % B),qs.set m d,vr2,Lr2,⟨?s9,?s10⟩,?mem,rfl,⟨by omega,by rw [hdone.1];exact hI.step hB oo_,by rw [gB,gB,hdone.2.1] at hr2;exact hr2⟩⟩
    case mem=>rfl
    case s9=>rfl
    case s10=>exact congrArg (Value.int .i64) (cL (n:=(m:Int) - 1) (by unfold I64;omega))
  replace hc:=cB_ hc
  obtain rfl:k=0:=by omega
  refine go3 ?_;refine sQ (dF aE O (fun w hw=>kU _ qs hI.ok (by rw [hI.len];omega) w (SL.sl (SL.mine' (mA (.head _)) hI.len (Nat.le_refl _)) hw))) O (go5 ?_);refine rt2 ?_;exact ⟨_,_,rfl,y4 hI.ok hI.fin.1 (SLf.mine hb15 (mA (.head _)) hI.len (Nat.le_refl _)),by rw [hI.fin.2] at hr;exact hr.sub lZ⟩
end Go.Proofs.YtbjlhfochebmiaaGreatDoor
