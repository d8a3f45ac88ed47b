/- Lemmas: what they ask stands in their statements. -/
import Derived.Test.YtokjfhfiodopdaaGreatZAo
set_option linter.unusedSimpArgs false
set_option linter.unusedVariables false
set_option maxHeartbeats 8000000
set_option maxRecDepth 20000
namespace Go.Proofs.YtokjfhfiodopdaaGreat
open Go.Kn Go.Num Tryz
attribute [local irreducible] Go.Kn.W WL PL OpQ OpR OpS
theorem nN (va vb:Value) (la lb:List Nat) (hDa:DL la) (hDb:DL lb) (hna:la.length≤200) (hnb:lb.length≤200) (w:World) (hva:Sl w va la) (hvb:Sl w vb lb) :
    Calls prog 129 [va,vb].toArray w (fun e w'=>∃ v,e = .returned v∧Ext w w'∧Slf w.heap.size w' v (dl (dv la+dv lb))):=by
 refine sZ (N:=37) func129 O O zz_ ?_;obtain ⟨w0,rfl⟩:=nm w;refine giI ?_;refine PV ?_;refine bP (rg [] 5 30) (fun g nn M=>∃ (k:Nat) (v:Value) (l:List Nat) (L:List Blk),(g 5=v∧g 6 = .int .i64 ((cD (dv la) (dv lb) k:Nat):Int)∧g 7 = .int .i64 (k:Int))∧M=L++[]∧nn=max la.length lb.length+1 - k∧(k≤max la.length lb.length+1∧OwnL w0 3 v l L∧DL l∧l.length=k∧dv l=(dv la+dv lb) % 65536 ^ k)) (max la.length lb.length+1 - 0) ?start ?round
 case start =>
  refine ⟨_,(List.Sublist.refl _),0,_,[],[],⟨?a5,?a6,?a7⟩,?mem0,rfl,⟨Nat.zero_le _,.nil,DL.nil,rfl,by simp [dv,Nat.mod_one]⟩⟩
  case mem0=>rfl
  case a5=>rfl
  case a6=>rw [aH_];rfl
  case a7=>rfl
 case round =>
  rintro nn g M ⟨k,v,l,L,⟨hg5,hg6,hg7⟩,rfl,hmeas,⟨hk,hO,hD,hlen,hdv⟩⟩;subst nn;refine gS3 hg5 hg6 hg7 ?_;clear hg5 hg6 hg7;refine go4 ?_;refine sQ (lW jQ O hva.old) O (go_ ?_);refine sQ (lW jQ O hvb.old) O (sQ (Y3 O O) O (sQ (aW (hZ O O) (congrArg (Value.int .i64) (i4 oo_))) O (go2 ?_)));refine aQ _ O (fun hc=>?_) (fun hc=>?_)
  ·replace hc:=cB_ hc
   have hc:k<max la.length lb.length+1:=by omega
   refine go6 ?_;refine sQ (eH aM O (fun w hw=>fC va la k w (SL.sl (M:=_) hva.old hw))) O (go2 ?_);refine sQ (eH aM O (fun w hw=>fC vb lb k w (SL.sl (M:=_) hvb.old hw))) O (go2 ?_);refine sQ (aW (hZ O O) (congrArg (Value.int .i64) (show _=((cD (dv la) (dv lb) k+dg (dv la) k+dg (dv lb) k:Nat):Int) by rw [nK la k hDa,nK lb k hDb];exact f3_ (mD _ _) (mD _ _) (bZ_ _ _ _)))) O (go5 ?_);refine sQ (aW (pT O O dd_) (OI _)) O (aZ O (iS lJ z_3 sF O dd_ O (zW _) (fun b31 hb31=>aZ O (yC lJ QB O O hO (SL.mine (l:=[(cD (dv la) (dv lb) k+dg (dv la) k+dg (dv lb) k) % 65536]) (.head _) (Nat.le_refl _)) (List.sublist_cons_self _ _) (by simp;omega) (fun v' L' hO'=>?_)))));refine go4 ?_;refine sQ (aW (qR O O dd_) (congrArg (Value.int .i64) (fm_ (by have:=bZ_ (dv la) (dv lb) k;have:=mD (dv la) k;have:=mD (dv lb) k;omega)))) O (go4 ?_);refine sQ (aW (hZ O O) (congrArg (Value.int .i64) (i4 oo_))) O (go2 ?_);refine ⟨pp_,_,_,(List.Sublist.refl _),oo_,k+1,_,_,_,⟨?s5,?s6,?s7⟩,?mem,rfl,⟨by omega,hO',hD.append (DL.one (Nat.mod_lt _ dd_)),by simp [hlen],QE hlen hdv⟩⟩
   case mem=>rfl
   case s5=>rfl
   case s6=>rw [← N4];rfl
   case s7=>rfl
  replace hc:=cB_ hc
  obtain rfl:k=max la.length lb.length+1:=by omega
  refine go3 ?_;refine sQ (eH aM O (fun w hw=>iF v l hD oo_ w (SL.sl (hO.sl lZ) hw))) O (go3 ?_);refine rt1 ?_;exact tN hD (by rw [hdv,UJ hDa hDb]) (hO.slf lZ)
theorem lC (va vb:Value) (la lb:List Nat) (hDa:DL la) (hDb:DL lb) (hna:la.length≤200) (hnb:lb.length≤200) (hle:dv lb≤dv la) (w:World) (hva:Sl w va la) (hvb:Sl w vb lb) :
    Calls prog 131 [va,vb].toArray w (fun e w'=>∃ v,e = .returned v∧Ext w w'∧Slf w.heap.size w' v (dl (dv la - dv lb))):=by
 refine sZ (N:=35) func131 O O zz_ ?_;obtain ⟨w0,rfl⟩:=nm w;refine giI ?_;refine PV ?_;refine bP (rg [] 5 28) (fun g nn M=>∃ (k:Nat) (v:Value) (l:List Nat) (L:List Blk) (c:Nat),(g 5=v∧g 6 = .int .i64 (c:Int)∧g 7 = .int .i64 (k:Int))∧M=L++[]∧nn=la.length - k∧(k≤la.length∧OwnL w0 3 v l L∧DL l∧l.length=k∧c≤1∧dv l+dv lb % 65536 ^ k=dv la % 65536 ^ k+c*65536 ^ k)) (la.length - 0) ?start ?round
 case start =>
  refine ⟨_,(List.Sublist.refl _),0,_,[],[],0,⟨?a5,?a6,?a7⟩,?mem0,rfl,⟨Nat.zero_le _,.nil,DL.nil,rfl,by decide,by simp [dv,Nat.mod_one]⟩⟩
  case mem0=>rfl
  case a5=>rfl
  case a6=>rfl
  case a7=>rfl
 case round =>
  rintro nn g M ⟨k,v,l,L,c,⟨hg5,hg6,hg7⟩,rfl,hmeas,⟨hk,hO,hD,hlen,hcb,hdv⟩⟩;subst nn;refine gS3 hg5 hg6 hg7 ?_;clear hg5 hg6 hg7;refine go4 ?_;refine sQ (lW jQ O hva.old) O (go2 ?_);refine aQ _ O (fun hc=>?_) (fun hc=>?_)
  ·replace hc:=cB_ hc
   have hc:k<la.length:=by omega
   refine go4 ?_;refine qH sn 11 [] [] (go2 ?_);refine pQ O (wQ jQ O O hva.old oo_) (pQ O (tC tyT O hva.old oo_) (go2 ?_));refine pQ O (eH aM O (fun w hw=>fC vb lb k w (SL.sl (M:=_) hvb.old hw))) (go2 ?_);refine pQ O (aW (mM O O) (congrArg (Value.int .i64) (show _=((dg (dv la) k:Nat):Int) - ((dg (dv lb) k:Nat):Int) - (c:Int) by rw [nK la k hDa,nK lb k hDb];exact gw_ (mD _ _) (mD _ _) hcb))) (o2 ?_);refine aQ _ O (fun h26=>?_) (fun h26=>?_)
   ·replace h26:=cB_ h26
    refine o2 ?_;refine sQ (aW (jA O) (show _=IV (md (dg (dv la) k) (dg (dv lb) k) c) by first|exact YF (mD _ _) (mD _ _) hcb h26|exact YG h26)) O ?_;refine aZ O (iS lJ z_3 sF O dd_ O (zW _) (fun b31 hb31=>aZ O (yC lJ QB O O hO (SL.mine (l:=[md (dg (dv la) k) (dg (dv lb) k) c]) (.head _) (Nat.le_refl _)) (List.sublist_cons_self _ _) (by simp;omega) (fun v' L' hO'=>?_))));refine go4 ?_;refine sQ (aW (hZ O O) (congrArg (Value.int .i64) (i4 oo_))) O (go2 ?_);refine ⟨pp_,_,_,(List.Sublist.refl _),oo_,k+1,_,_,_,mb (dg (dv la) k) (dg (dv lb) k) c,⟨?s5,?s6,?s7⟩,?mem,rfl,⟨by omega,hO',hD.append (DL.one (cb_ (mD _ _) (mD _ _) hcb)),by simp [hlen],b9_ _ _ _,DF hlen hcb hdv⟩⟩
    case mem=>rfl
    case s5=>rfl
    case s6=>first|exact YB h26|exact YC h26
    case s7=>rfl
   replace h26:=cB_ h26
   refine go3 ?_;refine sQ (aW (jA O) (show _=IV (md (dg (dv la) k) (dg (dv lb) k) c) by first|exact YF (mD _ _) (mD _ _) hcb h26|exact YG h26)) O ?_;refine aZ O (iS lJ z_3 sF O dd_ O (zW _) (fun b31 hb31=>aZ O (yC lJ QB O O hO (SL.mine (l:=[md (dg (dv la) k) (dg (dv lb) k) c]) (.head _) (Nat.le_refl _)) (List.sublist_cons_self _ _) (by simp;omega) (fun v' L' hO'=>?_))));refine go4 ?_;refine sQ (aW (hZ O O) (congrArg (Value.int .i64) (i4 oo_))) O (go2 ?_);refine ⟨pp_,_,_,(List.Sublist.refl _),oo_,k+1,_,_,_,mb (dg (dv la) k) (dg (dv lb) k) c,⟨?s5,?s6,?s7⟩,?mem,rfl,⟨by omega,hO',hD.append (DL.one (cb_ (mD _ _) (mD _ _) hcb)),by simp [hlen],b9_ _ _ _,DF hlen hcb hdv⟩⟩
   case mem=>rfl
   case s5=>rfl
   case s6=>first|exact YB h26|exact YC h26
   case s7=>rfl
  replace hc:=cB_ hc
  obtain rfl:k=la.length:=by omega
  refine go3 ?_;refine sQ (eH aM O (fun w hw=>iF v l hD oo_ w (SL.sl (hO.sl lZ) hw))) O (go3 ?_);refine rt1 ?_;exact tN hD (P4 hDa hD hlen hle hdv hcb) (hO.slf lZ)
theorem qU (va vb:Value) (la lb:List Nat) (hDa:DL la) (hDb:DL lb) (hna:la.length≤200) (hnb:lb.length≤200) (w:World) (hva:Sl w va la) (hvb:Sl w vb lb) :
    Calls prog 124 [va,vb].toArray w (fun e w'=>e = .returned (.bool (decide (dv la<dv lb)))∧Ext w w'):=by
 refine cQ (N:=30) func124 O O zz_ ?_;obtain ⟨w0,rfl⟩:=nm w;refine giI ?_;refine go6 ?_;refine sQ (lW jQ O hva.old) O (go_ ?_);refine sQ (lW jQ O hvb.old) O (sQ (Y3 O O) O (go4 ?_));refine bP (rg [4,5] 12 18) (fun g nn M=>∃ (k:Nat),(g 5 = .int .i64 ((k:Int) - 1))∧M=[]∧nn=k+0∧(k≤max la.length lb.length∧dv la / 65536 ^ k=dv lb / 65536 ^ k)) (max la.length lb.length) ?start ?round
 case start =>
  refine ⟨_,(List.Sublist.refl _),max la.length lb.length,?a5,?mem0,rfl,⟨Nat.le_refl _,P2 hDa hDb⟩⟩
  case mem0=>rfl
  case a5=>exact congrArg (Value.int .i64) (bQ (by unfold I64;omega))
 case round =>
  rintro nn g M ⟨k,hg5,rfl,hmeas,⟨hk,hd⟩⟩;subst nn;refine gS1 hg5 ?_;clear hg5;refine go5 ?_;refine aQ _ O (fun hc=>?_) (fun hc=>?_)
  ·replace hc:=cB_ hc
   obtain ⟨m,rfl⟩:∃ m,k=m+1:=⟨k - 1,by omega⟩;refine go5 ?_;refine sQ (aW (jA O) (congrArg (Value.int .i64) (show (((m+1:Nat):Int) - 1)=(m:Int) by omega))) O (sQ (eH aM O (fun w hw=>fC va la m w (SL.sl (M:=_) hva.old hw))) O (go_ ?_));refine sQ (aW (jA O) (congrArg (Value.int .i64) (show (((m+1:Nat):Int) - 1)=(m:Int) by omega))) O (sQ (eH aM O (fun w hw=>fC vb lb m w (SL.sl (M:=_) hvb.old hw))) O (go2 ?_));refine aQ _ O (fun hne=>?_) (fun hne=>?_)
   ·replace hne:=cB_ hne
    have hne':dg (dv la) m≠dg (dv lb) m:=by rw [← nK la m hDa,← nK lb m hDb];omega
    refine go2 ?_;refine sQ (aW (jA O) (congrArg (Value.int .i64) (show (((m+1:Nat):Int) - 1)=(m:Int) by omega))) O (sQ (eH aM O (fun w hw=>fC va la m w (SL.sl (M:=_) hva.old hw))) O (go_ ?_));refine sQ (aW (jA O) (congrArg (Value.int .i64) (show (((m+1:Nat):Int) - 1)=(m:Int) by omega))) O (sQ (eH aM O (fun w hw=>fC vb lb m w (SL.sl (M:=_) hvb.old hw))) O (go4 ?_));refine rt1 ?_
    (rw [nK la m hDa,nK lb m hDb];exact congrArg Value.bool (UB hd hne'))
   replace hne:=cB_ hne
   have heq':dg (dv la) m=dg (dv lb) m:=by rw [← nK la m hDa,← nK lb m hDb];omega
   refine go2 ?_;refine sQ (aW (jA O) (congrArg (Value.int .i64) (show (((m+1:Nat):Int) - 1)=(m:Int) by omega))) O (go3 ?_);refine ⟨pp_,_,_,(List.Sublist.refl _),oo_,m,?s5,?mem,rfl,⟨by omega,UA hd heq'⟩⟩
   case mem=>rfl
   case s5=>exact congrArg (Value.int .i64) (bQ (n:=(m:Int) - 1) (by unfold I64;omega))
  replace hc:=cB_ hc
  obtain rfl:k=0:=by omega
  refine go5 ?_;refine rt1 ?_
  (simp only [Nat.pow_zero,Nat.div_one] at hd;rw [hd];exact congrArg Value.bool (decide_eq_false (Nat.lt_irrefl _)).symm)
theorem pX (va vb:Value) (la lb:List Nat) (hDa:DL la) (hDb:DL lb) (hna:la.length≤200) (hnb:lb.length≤200) (w:World) (hva:Sl w va la) (hvb:Sl w vb lb) :
    Calls prog 136 [va,vb].toArray w (fun e w'=>∃ v,e = .returned v∧Ext w w'∧Slf w.heap.size w' v (dl (dv la*dv lb))):=by
 refine sZ (N:=72) func136 O O zz_ ?_;obtain ⟨w0,rfl⟩:=nm w;refine giI ?_;refine go5 ?_;refine sQ (lW jQ O hva.old) O (go_ ?_);refine sQ (lW jQ O hvb.old) O (sQ (aW (hZ O O) (congrArg (Value.int .i64) (mJ oo_))) O (sQ (aW (hZ O O) (congrArg (Value.int .i64) (i4 oo_))) O (aZ O (ZC lJ QB z_3 O O oo_ (fun b17 hb17=>go7 ?_)))));refine bP (rg [6,7,8,9,10] 18 52) (fun g nn M=>∃ (i:Nat) (o:List Nat),(g 6 = .int .i64 (i:Int))∧M=[⟨b17,3,iw o⟩]∧nn=la.length - i∧(i≤la.length∧DL o∧o.length=(la.length+lb.length+1)∧dv o=dv la % 65536 ^ i*dv lb)) (la.length - 0) ?start ?round
 case start =>
  refine ⟨_,(List.Sublist.refl _),0,List.replicate (la.length+lb.length+1) 0,?a6,?mem0,rfl,⟨Nat.zero_le _,fun d hd=>by rw [List.eq_of_mem_replicate hd];decide,by simp,by rw [AX,Nat.pow_zero,Nat.mod_one,Nat.zero_mul]⟩⟩
  case mem0=>rfl
  case a6=>rfl
 case round =>
  rintro nn g M ⟨i,o,hg6,rfl,hmeas,⟨hi,hDo,hlo,hdv⟩⟩;subst nn;refine gS1 hg6 ?_;clear hg6;refine go4 ?_;refine sQ (lW jQ O hva.old) O (go2 ?_);refine aQ _ O (fun hc=>?_) (fun hc=>?_)
  ·replace hc:=cB_ hc
   have hc:i<la.length:=by omega
   refine go8 ?_;refine bP (rg [7] 24 27) (fun g nn M=>∃ (k:Nat) (l:List Nat),(g 7 = .int .i64 (k:Int))∧M=[⟨b17,3,iw l⟩]∧nn=lb.length - k∧(k≤lb.length∧RowIn (la.length+lb.length+1) (dv lb) i (dg (dv la) i) o k l)) (lb.length - 0) ?start ?round
   case start =>
    refine ⟨_,(List.Sublist.refl _),0,o,?a7,?mem0,rfl,⟨Nat.zero_le _,RowIn.start _ _ _ hDo hlo⟩⟩
    case mem0=>rfl
    case a7=>rfl
   case round =>
    rintro nn g M ⟨k,l,hg7,rfl,hmeas,⟨hkl,hR⟩⟩;subst nn;refine gS1 hg7 ?_;clear hg7;refine go4 ?_;refine sQ (lW jQ O hvb.old) O (go2 ?_);refine aQ _ O (fun hk2=>?_) (fun hk2=>?_)
    ·replace hk2:=cB_ hk2
     have hk2:k<lb.length:=by omega
     refine go3 ?_;refine gdr sn [0,4,8,12,16,20,24,28,32,36,40,44,48,52,56,60,64,68,72,76,80,85] [21] mix (by kernel_rfl) (go3 ?_);refine pQ O (aW (hZ O O) (congrArg (Value.int .i64) (mJ oo_))) (go3 ?_);refine pQ O (aW (hZ O O) (congrArg (Value.int .i64) (mJ oo_))) (pQ O (AA jQ O O oo_ oo_) (pQ O (dD tyT O mm_ (eY_ (by rw [hR.len];omega))) ?_));refine go2 ?_;refine pQ O (wQ jQ O O hva.old oo_) (pQ O (tC tyT O hva.old oo_) (go2 ?_));refine pQ O (wQ jQ O O hvb.old oo_) (pQ O (tC tyT O hvb.old oo_) (go_ ?_));refine pQ O (aW (hZ O O) (show _=IV (l.getD (i+k) 0+dg (dv la) i*dg (dv lb) k) by rw [nK la i hDa,nK lb k hDb];exact a7_ (hR.high _ (Nat.le_refl _)) (mD _ _) (mD _ _))) (pQ O (AA jQ O O oo_ oo_) ?_);refine fP O O (F8 tyT O O uu_ (by rw [hR.len];omega) (.inl e6) ⟨nf,ss_,?_⟩);refine go3 ?_;refine sQ (aW (hZ O O) (congrArg (Value.int .i64) (i4 oo_))) O (go2 ?_);refine ⟨pp_,_,_,(List.Sublist.refl _),oo_,k+1,_,?s7,?mem,rfl,⟨by omega,hR.step oo_ (mD _ _)⟩⟩
     case mem=>rfl
     case s7=>rfl
    replace hk2:=cB_ hk2
    obtain rfl:k=lb.length:=by omega
    refine go8 ?_;refine bP (rg [8,9,10] 51 19) (fun g nn M=>∃ (m:Nat) (l:List Nat) (c:Nat),(g 8 = .int .i64 (c:Int)∧g 9 = .int .i64 (m:Int))∧M=[⟨b17,3,iw l⟩]∧nn=(la.length+lb.length+1) - m∧(m≤(la.length+lb.length+1)∧CarryIn (la.length+lb.length+1) (dv o+65536 ^ i*(dg (dv la) i*(dv lb % 65536 ^ lb.length))) m l c)) ((la.length+lb.length+1) - 0) ?start ?round
    case start =>
     refine ⟨_,(List.Sublist.refl _),0,l,0,⟨?a8,?a9⟩,?mem0,rfl,⟨Nat.zero_le _,hR.done⟩⟩
     case mem0=>rfl
     case a8=>rfl
     case a9=>rfl
    case round =>
     rintro nn g M ⟨m,l,c,⟨hg8,hg9⟩,rfl,hmeas,⟨hml,hC⟩⟩;subst nn;refine gS2 hg8 hg9 ?_;clear hg8 hg9;refine go4 ?_;refine sQ (SI jQ O) O (go2 ?_);refine aQ _ O (fun hm2=>?_) (fun hm2=>?_)
     ·replace hm2:=cB_ hm2
      have hm2:m<(la.length+lb.length+1):=by omega
      refine go6 ?_;refine sQ (AA jQ O O oo_ oo_) O (sQ (dD tyT O mm_ (eY_ (by rw [hC.len];omega))) O ?_);refine go_ ?_;refine sQ (aW (hZ O O) (congrArg (Value.int .i64) (f4_ (by have:=hC.low m;have:=hC.clt;omega)))) O (go6 ?_);refine sQ (aW (pT O O dd_) (OI _)) O (sQ (AA jQ O O oo_ oo_) O (aZ O (F8 tyT O O uu_ (by rw [hC.len];omega) (.inl e6) ?_)));refine go3 ?_;refine sQ (aW (qR O O dd_) (congrArg (Value.int .i64) (fm_ (by have:=hC.low m;have:=hC.clt;omega)))) O (go4 ?_);refine sQ (aW (hZ O O) (congrArg (Value.int .i64) (i4 oo_))) O (go2 ?_);refine ⟨pp_,_,_,(List.Sublist.refl _),oo_,m+1,_,_,⟨?s8,?s9⟩,?mem,rfl,⟨by omega,hC.step oo_⟩⟩
      case mem=>rfl
      case s8=>rfl
      case s9=>rfl
     replace hm2:=cB_ hm2
     obtain rfl:m=(la.length+lb.length+1):=by omega
     have hT:(dv o+65536 ^ i*(dg (dv la) i*(dv lb % 65536 ^ lb.length)))=dv la % 65536 ^ (i+1)*dv lb:=by rw [hdv];exact U5 (vJ lb hDb)
     have hF:=hC.fin (by rw [hT];exact ZY oo_ (vJ lb hDb));rw [hT] at hF;refine go3 ?_;refine sQ (aW (hZ O O) (congrArg (Value.int .i64) (i4 oo_))) O (go2 ?_);refine ⟨pp_,_,_,(List.Sublist.refl _),oo_,i+1,_,?s6,?mem,rfl,⟨by omega,hF⟩⟩
     case mem=>rfl
     case s6=>rfl
  replace hc:=cB_ hc
  obtain rfl:i=la.length:=by omega
  refine go3 ?_;refine sQ (eH aM O (fun w hw=>iF _ o hDo oo_ w (SL.sl (SL.mine' (.head _) hlo (Nat.le_refl _)) hw))) O (go3 ?_);refine rt1 ?_;exact tN hDo (by rw [hdv,Nat.mod_eq_of_lt (vJ la hDa)]) (SLf.mine hb17 (.head _) hlo (Nat.le_refl _))
theorem mN (va:Value) (la:List Nat) (k:Int) (w:World) (hva:Sl w va la) :
   Calls prog 173 [va,.int .i64 k].toArray w (fun e w'=>e = .returned (.int .i64 ((atD la k:Nat):Int))∧Ext w w'):=by
 refine cQ (N:=10) func173 O O zz_ ?_;obtain ⟨w0,rfl⟩:=nm w;refine giI ?_;refine go8 ?_;refine aQ _ O (fun h0=>?_) (fun h0=>?_)
 ·replace h0:=cB_ h0
  refine go4 ?_;refine rt1 ?_
  (rw [az_ h0];rfl)
 replace h0:=cB_ h0
 refine go3 ?_;refine sQ (aW (jA O) (show _=Value.int .i64 (k.toNat:Int) from congrArg (Value.int .i64) oo_)) O (sQ (eH aM O (fun w hw=>fC va la k.toNat w (SL.sl (M:=_) hva.old hw))) O (go3 ?_));refine rt1 ?_;rw [aA_ h0]
theorem qT (n:Int) :
   Ret prog 135 [.int .i64 n] (.bool (decide (n<2147483648)&&decide (-2147483648<n))):=by
 refine bU (N:=9) func135 O O zz_ (fun w0=>?_);refine giI ?_;refine go7 ?_
 cases h1:decide (n<2147483648)
 ·refine go6 ?_;refine rt1 ?_
  simp [*]
 refine go6 ?_;refine rt1 ?_
 simp [*]
theorem vS (n m:Int) (hn:I64 n) (hnm:n ≠ -9223372036854775808) (hm:m≠0) :
   Ret prog 127 [.int .i64 n,.int .i64 m] (.int .i64 (n.fdiv m)):=by
 refine bU (N:=23) func127 O O zz_ (fun w0=>?_);refine giI ?_;refine go6 ?_;refine sQ (aW (qR O O hm) (congrArg (Value.int .i64) (bQ (QO hn hnm)))) O (go6 ?_);refine sQ (pT O O hm) O (go2 ?_)
 cases h0:(n.tmod m != 0)
 ·refine PV ?_;refine rt1 ?_;exact congrArg (Value.int .i64) (A5 hm (.inl (by simpa using h0))).1.symm
 refine go4 ?_;refine sQ (uA AM O O) O (go2 ?_);refine aQ _ O (fun hs=>?_) (fun hs=>?_)
 ·replace hs:=cB_ hs
  refine go2 ?_;refine sQ (aW (mM O O) (congrArg (Value.int .i64) (bQ (Y8 hn hnm)))) O (go7 ?_);refine rt1 ?_;exact congrArg (Value.int .i64) (PS hm (by simpa using h0) (bne_iff_ne.2 (by rw [I1 (by simpa using h0)];exact hs))).1.symm
 replace hs:=cB_ hs
 refine go6 ?_;refine rt1 ?_;exact congrArg (Value.int .i64) (A5 hm (.inr (by rw [I1 (by simpa using h0)];simpa using hs))).1.symm
theorem gQ (a:R) (ha:a.Ok) :
    Ret prog 126 [RV a] (.tuple #[.int .i64 (jD a),.bool (iK a)]):=by
 refine bU (N:=41) func126 O O zz_ (fun w0=>?_);refine giI ?_;refine go_ ?_;refine aZ O (i7 O O (fun b1 hb1=>go4 ?_));refine sQ (cC tyT O mm_ (cU ha)) O ?_;refine sQ (bR aM (cI a ha) O) O (go7 ?_)
 cases hg:a.good
 ·refine T5 ?_;refine rt2 ?_;exact U8 hg
 refine sQ (bV fdT dd_ O) O (sQ (eJ arT O O dd_ dd_) O (sQ (dD tyT O mm_ (l6 (r:=a) (k:=1) (by rw [ha.len];decide))) O ?_));refine go3 ?_;refine aQ _ O (fun h16=>?_) (fun h16=>?_)
 ·replace h16:=cB_ h16
  refine go5 ?_;refine rt2 ?_;exact PA (ag_ ha h16)
 replace h16:=cB_ h16
 refine go6 ?_;refine bP (rg [2,3,5] 17 9) (fun g nn M=>∃ (k:Nat),(g 5 = .int .i64 (k:Int))∧M=[⟨b1,27,a.cells⟩]∧nn=16 - k∧(2≤k∧k≤16∧∀ j,2≤j→j<k→a.w.getD j 0=0)) (14) ?start ?round
 case start =>
  refine ⟨_,(List.Sublist.refl _),2,?a5,?mem0,rfl,⟨Nat.le_refl _,by decide,fun j h1 h2=>by omega⟩⟩
  case mem0=>rfl
  case a5=>rfl
 case round =>
  rintro nn g M ⟨k,hg5,rfl,hmeas,⟨hk2,hk,hz⟩⟩;subst nn;refine gS1 hg5 ?_;clear hg5;refine go5 ?_;refine aQ _ O (fun hc=>?_) (fun hc=>?_)
  ·replace hc:=cB_ hc
   have hc:k<16:=by omega
   refine go5 ?_;refine sQ (bV fdT dd_ O) O (sQ (eJ arT O O oo_ oo_) O (sQ (dD tyT O mm_ (l6 (r:=a) (k:=k) (by rw [ha.len];omega))) O ?_));refine go2 ?_;refine aQ _ O (fun hz2=>?_) (fun hz2=>?_)
   ·replace hz2:=cB_ hz2
    refine go5 ?_;refine rt2 ?_;exact PA (U9 ha hk2 oo_)
   replace hz2:=cB_ hz2
   refine go3 ?_;refine sQ (aW (hZ O O) (congrArg (Value.int .i64) (i4 oo_))) O (go2 ?_);refine ⟨pp_,_,_,(List.Sublist.refl _),oo_,k+1,?s5,?mem,rfl,⟨by omega,by omega,fun j h1 h2=>by rcases Nat.eq_or_lt_of_le (Nat.le_of_lt_succ h2) with rfl|h3;omega;exact hz j h1 h3⟩⟩
   case mem=>rfl
   case s5=>rfl
  replace hc:=cB_ hc
  obtain rfl:k=16:=by omega
  have hws:=PB ha oo_ hz;refine go2 ?_;refine sQ (bV fdT dd_ O) O (sQ (eJ arT O O dd_ dd_) O (sQ (dD tyT O mm_ (l6 (r:=a) (k:=1) (by rw [ha.len];decide))) O ?_));refine sQ (dA fX sL O) O (go_ ?_);refine sQ (bV fdT dd_ O) O (sQ (eJ arT O O dd_ dd_) O (sQ (dD tyT O mm_ (l6 (r:=a) (k:=0) (by rw [ha.len];decide))) O ?_));refine sQ (dA fX sL O) O (sQ (aW (hZ O O) (congrArg (Value.int .i64) ((PB ha oo_ hz).1))) O (go4 ?_));refine sQ (bV fdT dd_ O) O (sQ (dD tyT O mm_ O) O ?_);refine go_ ?_;refine aQ _ O (fun hn=>?_) (fun hn=>?_)
  ·replace hn:=cB_ hn
   refine go7 ?_;refine rt2 ?_;exact ae_ hg hws.2 hn
  replace hn:=cB_ hn
  refine go7 ?_;refine rt2 ?_;exact af_ hg hws.2 hn
theorem e9 (n:Int) (hn:I64 n) :
   Ret prog 72 [.int .i64 n] (RV (Z.of n).enc):=by
 refine bU (N:=35) func72 O O zz_ (fun w0=>?_);refine giI ?_;unfold I64 at hn;refine go_ ?_;refine aZ O (eB kF (fun b2 hb2=>go6 ?_));refine aQ _ O (fun h0=>?_) (fun h0=>?_)
 ·replace h0:=cB_ h0
  obtain ⟨m,rfl⟩:∃ m:Nat,n=m:=⟨n.toNat,by omega⟩;refine go2 ?_;refine sQ (aW (pT O O dd_) (show _=IV (m % 65536) from OI _)) O (go_ ?_);refine sQ (aW (qR O O dd_) (IK 65536 oo_)) O (sQ (aW (pT O O dd_) (show _=IV (m / 65536 % 65536) from OI _)) O (go_ ?_));refine sQ (aW (qR O O dd_) (IK 4294967296 oo_)) O (sQ (aW (pT O O dd_) (show _=IV (m / 4294967296 % 65536) from OI _)) O (go_ ?_));refine sQ (aW (qR O O dd_) (IK 281474976710656 oo_)) O (aZ O (iS lJ z_3 sF O dd_ O (XD _ _ _ _) (fun b16 hb16=>sQ (eH aM O (fun w hw=>dS false _ (dl4 m) (WY oo_) (by simp [dl4]) w (SL.sl (SL.mine (l:=dl4 m) (.head _) (Nat.le_refl _)) hw))) O ?_)));refine aZ O (bN tyT O O uu_ (aJ _) O (bJ _) (.inl e6) ?_);refine go2 ?_;refine rtX O ⟨_,_,_,_,_,_,rfl,mm_,tyT,_,(dO (aJ _)),(aJ _),rfl⟩ ?_
  (rw [PP,uE];rfl)
 replace h0:=cB_ h0
 obtain ⟨m,rfl⟩:∃ m:Nat,n = -((m:Int)+1):=⟨(-n - 1).toNat,by omega⟩;refine go4 ?_;refine sQ (aW (Y4 O) (congrArg (Value.int .i64) (bi_ oo_))) O (go4 ?_);refine sQ (aW (pT O O dd_) (show _=IV (m % 65536) from OI _)) O (go_ ?_);refine sQ (aW (qR O O dd_) (IK 65536 oo_)) O (sQ (aW (pT O O dd_) (show _=IV (m / 65536 % 65536) from OI _)) O (go_ ?_));refine sQ (aW (qR O O dd_) (IK 4294967296 oo_)) O (sQ (aW (pT O O dd_) (show _=IV (m / 4294967296 % 65536) from OI _)) O (go_ ?_));refine sQ (aW (qR O O dd_) (IK 281474976710656 oo_)) O (aZ O (iS lJ z_3 sF O dd_ O (XD _ _ _ _) (fun b31 hb31=>aZ O (iS lJ z_3 sF O dd_ O (zW 1) (fun b32 hb32=>aZ O (gS aM O (fun w hw=>nN _ _ (dl4 m) [1] (WY oo_) (DL.one dd_) (by simp [dl4]) zz_ w (SL.sl (SL.mine (l:=dl4 m) (.tail _ (.head _)) (Nat.le_refl _)) hw) (SL.sl (SL.mine (l:=[1]) (.head _) (Nat.le_refl _)) hw)) (fun v9 L9 h9=>?_)))))));refine sQ (eH aM O (fun w hw=>dS true _ _ (lI _) (Nat.le_trans (jU (k:=64) (by rw [PP];simp only [dv];omega)) dd_) w (SL.sl (h9.sl.sub lZ) hw))) O (aZ O (bN tyT O O uu_ (aJ _) O (bJ _) (.inl e6) ?_));refine go2 ?_;refine rtX O ⟨_,_,_,_,_,_,rfl,mm_,tyT,_,(dO (aJ _)),(aJ _),rfl⟩ ?_
 (rw [iR,PP];simp only [dv,Nat.mul_zero,Nat.add_zero];rw [fu_];rfl)
end Go.Proofs.YtokjfhfiodopdaaGreat
namespace Go.Num
open Go Go.Kn
theorem eB_ {a b:I} (h:(!a.1.good||(!b.1.good))=true):a.1.dec.o=none∨b.1.dec.o=none:=by
 cases ha:a.1.good
 ·exact .inl (HC ha)
 ·cases hb:b.1.good
  ·exact .inr (HC hb)
  rw [ha,hb] at h;cases h
theorem XM {a b:I} (h:(!a.1.good||(!b.1.good))=false):a.1.good=true∧b.1.good=true:=by
 cases ha:a.1.good<;>cases hb:b.1.good<;>rw [ha,hb] at h<;>first|exact ⟨rfl,rfl⟩|cases h
theorem wA (a:I):lH a=E (Z.neg a.dec):=by
 unfold lH
 show _=E (Z.neg a.1.dec)
 cases h:a.1.good
 ·rw [cond_false,Z.neg,pR (HC h)]
 rw [cond_true,dB_ a.2 h]
theorem vY (a:I):lG a=E (Z.abs a.dec):=by
 unfold lG
 show _=E (Z.abs a.1.dec)
 cases h:a.1.good
 ·rw [cond_false,Z.abs,pR (HC h)]
 rw [cond_true,cZ_ a.2 h]
theorem vZ (a b:I):iO a b=E (Z.add a.dec b.dec):=by
 unfold iO
 show _=E (Z.add a.1.dec b.1.dec)
 cases hw:(iK a.1&&iK b.1)
 ·rw [cond_false]
  cases hg:(!a.1.good||(!b.1.good))
  ·obtain ⟨ga,gb⟩:=XM hg
   rw [cond_false]
   cases hn:(a.1.neg==b.1.neg)
   ·rw [cond_false]
    have hn':a.1.neg≠b.1.neg:=by simpa using hn
    cases hl:decide (val a.1.w<val b.1.w)
    ·rw [cond_false,c2_ a.2 b.2 ga gb hn' (of_decide_eq_false hl)]
    rw [cond_true,c3_ a.2 b.2 ga gb hn' (of_decide_eq_true hl)]
   rw [cond_true,av_ a.2 b.2 ga gb (by simpa using hn)]
  rw [cond_true,Z.add,i9 (eB_ hg)]
 rw [cond_true];rw [Bool.and_eq_true] at hw
 show E (Z.of (IntKind.i64.wrap (jD a.1+jD b.1)))=_
 rw [(gz_ (l5 a.2 hw.1).2.2.2 (l5 b.2 hw.2).2.2.2).1,TR a.2 b.2 hw.1 hw.2]
theorem v7 (a b:I):j9 a b=E (Z.mul a.dec b.dec):=by
 unfold j9
 show _=E (Z.mul a.1.dec b.1.dec)
 cases hw:(iK a.1&&(iK b.1&&((decide ((fJ a).1<2147483648)&&decide (-2147483648<(fJ a).1))&&(decide ((fJ b).1<2147483648)&&decide (-2147483648<(fJ b).1)))))
 ·rw [cond_false]
  cases hg:(!a.1.good||(!b.1.good))
  ·obtain ⟨ga,gb⟩:=XM hg
   rw [cond_false,dA_ a.2 b.2 ga gb]
  rw [cond_true,Z.mul,i9 (eB_ hg)]
 rw [cond_true];rw [Bool.and_eq_true,Bool.and_eq_true,Bool.and_eq_true] at hw;obtain ⟨h1,h2,h3,h4⟩:=hw
 show E (Z.of (IntKind.i64.wrap (jD a.1*jD b.1)))=_
 rw [(gA_ (x:=jD a.1) (y:=jD b.1) (RX h3) (RX h4)).1,UG a.2 b.2 h1 h2]
theorem eZ_ (n:Nat):(((dl n).length:Int)==0)=(n==0):=by
 rw [Bool.eq_iff_iff,beq_iff_eq,beq_iff_eq]
 constructor
 ·intro h;exact JS.1 oo_
 intro h;rw [JS.2 h];rfl
theorem vD (a:I):jX a=Z.signW a.dec:=by
 unfold jX;rw [eZ_]
 apply Subtype.ext
 show _=a.1.dec.sign
 cases hg:a.1.good
 ·simp only [Bool.not_false,Bool.true_or,cond_true];exact zB a.2 (.inl hg)
 ·cases hz:(val a.1.w==0)
  ·simp only [Bool.not_true,Bool.false_or,cond_false]
   rw [bA_ a.2 hg (by simpa using hz)]
   cases a.1.neg<;>rfl
  simp only [Bool.or_true,cond_true];exact zB a.2 (.inr hz)
theorem wB (a b:I):jE a b=E (Z.quo a.dec b.dec):=by
 unfold jE;rw [eZ_]
 show _=E (Z.quo a.1.dec b.1.dec)
 cases hw:(iK a.1&&(iK b.1&&((fJ b).1 != 0)))
 ·rw [cond_false]
  cases hg:(!a.1.good||(!b.1.good||(val b.1.w==0)))
  ·rw [cond_false]
   simp only [Bool.or_eq_false_iff,Bool.not_eq_false',beq_eq_false_iff_ne] at hg;obtain ⟨ga,gb,h0⟩:=hg
   cases hc:((a.1.neg != b.1.neg)&&decide ((0:Int)<((dl (val a.1.w % val b.1.w)).length:Int)))
   ·rw [cond_false,dR_ a.2 b.2 ga gb h0]
    rw [Bool.and_eq_false_iff] at hc;rcases hc with hc|hc
    ·exact .inl (by simpa using hc)
    right
    have:=of_decide_eq_false hc;exact JS.1 oo_
   rw [cond_true,bs_ a.2 b.2 ga gb h0]
   ·rw [Bool.and_eq_true] at hc;simpa using hc.1
   rw [Bool.and_eq_true] at hc;have:=of_decide_eq_true hc.2;intro h;rw [h,oQ] at this;exact absurd this dd_
  rw [cond_true]
  cases ga:a.1.good
  ·rw [cj_ (.inl ga)]
  ·cases gb:b.1.good
   ·rw [cj_ (.inr gb)]
   rw [ga,gb] at hg;rw [fn_ a.2 b.2 ga gb (by simpa using hg)]
 rw [cond_true];have hf:=XP hw;rw [Bool.and_eq_true,Bool.and_eq_true] at hw;rw [← hf.2.2];exact congrArg E (UO a.2 b.2 hw.1 hw.2.1 hf.2.1)
end Go.Num
namespace Go.Proofs.YtokjfhfiodopdaaGreat
open Go.Kn Go.Num Tryz
attribute [local irreducible] Go.Kn.W WL PL OpQ OpR OpS
theorem mS (va vb:Value) (A B:Nat) (hB:0<B) (hna:(dl A).length≤190) (hnb:(dl B).length≤190) (w:World) (hva:Sl w va (dl A)) (hvb:Sl w vb (dl B)) :
    Calls prog 128 [va,vb].toArray w (fun e w'=>∃ v1 v2,e = .returned (.tuple #[v1,v2])∧Ext w w'∧Slf w.heap.size w' v1 (dl (A / B))∧Slf w.heap.size w' v2 (dl (A % B))):=by
 refine HD (N:=84) func128 O O zz_ ?_;obtain ⟨w0,rfl⟩:=nm w;refine giI ?_;have hn0:1≤(dl B).length:=Nat.pos_of_ne_zero (fun hc=>by rw [JS] at hc;omega);obtain ⟨tp,htp⟩:∃ tp,tp=(dg B ((dl B).length - 1)*65536+atD (dl B) (((dl B).length:Int) - 2)):=⟨_,rfl⟩;refine go6 ?_;refine sQ (lW jQ O hva.old) O (aZ O (ZC lJ QB z_3 O O oo_ (fun b15 hb15=>go4 ?_)));refine sQ (lW jQ O hvb.old) O (go3 ?_);refine qH sn 12 [] [] (go2 ?_);refine pQ O (aW (mM O O) (congrArg (Value.int .i64) (rA (b:=1) O oo_ oo_))) (pQ O (wQ jQ O O hvb.old oo_) (pQ O (aW (tC tyT O hvb.old oo_) (congrArg IV (yV B _))) (go3 ?_)));refine pQ O (aW (mM O O) (congrArg (Value.int .i64) (SZ oo_ dd_ dd_))) (pQ O (eH aM O (fun w hw=>mN vb (dl B) _ w (SL.sl (M:=_) hvb.old hw))) (pQ O (aW (hZ O O) (show _=Value.int .i64 (tp:Int) from congrArg (Value.int .i64) (by rw [htp];exact bG_ (mD _ _) (zS _ _)))) (go8 ?_)));refine sQ (lW jQ O hva.old) O (go4 ?_);refine bP (rg [9,10,11,12] 32 49) (fun g nn M=>∃ (k R:Nat) (qs:List Nat) (vr:Value) (L:List Blk),(g 9=vr∧g 10 = .int .i64 ((k:Int) - 1))∧M=L++[⟨b15,3,iw qs⟩]∧nn=k+0∧(k≤(dl A).length∧DivIn A B (dl A).length k R qs∧SLf w0 L vr (dl R))) ((dl A).length) ?start ?round
 case start =>
  refine ⟨_,(List.Sublist.refl _),(dl A).length,0,_,_,[],⟨?a9,?a10⟩,?mem0,rfl,⟨Nat.le_refl _,DivIn.start (H4 A),by rw [oQ];exact SLf.none⟩⟩
  case mem0=>rfl
  case a9=>rfl
  case a10=>exact congrArg (Value.int .i64) (SZ oo_ dd_ dd_)
 case round =>
  rintro nn g M ⟨k,R,qs,vr,L,⟨hg9,hg10⟩,rfl,hmeas,⟨hk,hI,hr⟩⟩;subst nn;refine gS2 hg9 hg10 ?_;clear hg9 hg10;refine go5 ?_;refine aQ _ O (fun hc=>?_) (fun hc=>?_)
  ·replace hc:=cB_ hc
   obtain ⟨m,rfl⟩:∃ m,k=m+1:=⟨k - 1,by omega⟩
   have hRB:R<B:=by rw [hI.rest];exact Nat.mod_lt _ hB
   have hRl:(dl R).length≤190:=Nat.le_trans (eK_ (Nat.le_of_lt hRB)) hnb;refine go5 ?_;refine sQ (aW (jA O) (congrArg (Value.int .i64) (show (((m+1:Nat):Int) - 1)=(m:Int) by omega))) O (sQ (wQ jQ O O hva.old oo_) O (sQ (aW (tC tyT O hva.old oo_) (congrArg IV (yV A m))) O (aZ O (iS lJ z_3 sF O dd_ O (zW _) (fun b40 hb40=>go_ ?_)))));have hC8:=RD (R:=R) (mD A m);refine aZ O (yC lJ QB O O (OwnL.of_mine (l:=[dg A m]) hb40 (show 1≤maxLen by decide)) (hr.sl.sub (.cons _ lZ)) (List.Sublist.refl _) (by simp only [List.length_singleton];omega) (fun v8 L8 hO8=>?_));refine sQ (eH aM O (fun w hw=>iF v8 ([dg A m]++dl R) hC8.1 (by simp only [List.length_append,List.length_singleton];omega) w (SL.sl (hO8.sl lZ) hw))) O ?_;refine go2 ?_;have hC8:=RD (R:=R) (mD A m);have hr8:=tN hC8.1 hC8.2 (hO8.slf (List.Sublist.refl _));generalize sls v8 (dl (dv ([dg A m]++dl R))).length=vr8 at hr8 ⊢
   have hR8:(R*65536+dg A m)<65536*B:=by have:=mD A m;omega
   obtain ⟨nm,hnm⟩:∃ nm,nm=(atD (dl (R*65536+dg A m)) ((dl B).length:Int)*4294967296+atD (dl (R*65536+dg A m)) (((dl B).length:Int) - 1)*65536+atD (dl (R*65536+dg A m)) (((dl B).length:Int) - 2)):=⟨_,rfl⟩;obtain ⟨d0,hd0⟩:∃ d0,d0=min 65535 (nm / tp):=⟨_,rfl⟩
   have G8:0<tp∧(R*65536+dg A m) / B≤d0∧d0≤65535:=by rw [hd0,hnm,htp];have hg:=XO hB hR8 O hn0;exact ⟨hg.1,hg.2,Nat.min_le_left _ _⟩
   have hl8:(dl (R*65536+dg A m)).length≤192:=Nat.le_trans (jU (k:=(dl B).length+1) (by have:=H4 B;rw [Nat.pow_succ];omega)) oo_;refine go3 ?_;refine sQ (eH aM O (fun w hw=>mN _ (dl (R*65536+dg A m)) _ w (SL.sl (M:=_) (hr8.sl.sub lZ) hw))) O (go3 ?_);refine sQ (aW (mM O O) (congrArg (Value.int .i64) (SZ oo_ dd_ dd_))) O (sQ (eH aM O (fun w hw=>mN _ (dl (R*65536+dg A m)) _ w (SL.sl (M:=_) (hr8.sl.sub lZ) hw))) O (go4 ?_));refine sQ (aW (mM O O) (congrArg (Value.int .i64) (SZ oo_ dd_ dd_))) O (sQ (eH aM O (fun w hw=>mN _ (dl (R*65536+dg A m)) _ w (SL.sl (M:=_) (hr8.sl.sub lZ) hw))) O (sQ (aW (hZ O O) (show _=Value.int .i64 (nm:Int) from congrArg (Value.int .i64) (by rw [hnm];exact bh_ (zS _ _) (zS _ _) (zS _ _)))) O (go_ ?_)));refine sQ (aW (qR O O (fun hc=>Nat.lt_irrefl 0 (Nat.lt_of_lt_of_eq G8.1 (Int.natCast_eq_zero.1 hc)))) (congrArg (Value.int .i64) (OF (by rw [hnm];exact dD_ _ _ _ _)))) O (sQ (aW (dO_ (a:=65535) O O) (congrArg (fun n:Nat=>Value.int .i64 (n:Int)) hd0.symm)) O (go5 ?_));refine aZ O (iS lJ z_3 sF O dd_ O (zW _) (fun b64 hb64=>aZ O (gS aM O (fun w hw=>pX vb _ (dl B) [d0] (lI B) (DL.one oo_) oo_ zz_ w (SL.sl (M:=_) hvb.old hw) (SL.sl (SL.mine (l:=[d0]) (.head _) (Nat.le_refl _)) hw)) (fun vp0 Lp0 hp0=>?_))));refine go4 ?_;refine bP (rg [11,12] 66 8) (fun g nn M=>∃ (d:Nat) (vp:Value) (Lp:List Blk),(g 11 = .int .i64 (d:Int)∧g 12=vp)∧M=Lp++(L8++(L++[⟨b15,3,iw qs⟩]))∧nn=d∧(((R*65536+dg A m) / B≤d∧d≤65535)∧SLf w0 Lp vp (dl (B*d)))) d0 ?start ?round
   case start =>
    refine ⟨_,(List.Sublist.append (List.Sublist.refl _) (List.Sublist.cons _ (List.Sublist.refl _))),d0,vp0,Lp0,⟨?a11,?a12⟩,?mem0,rfl,⟨⟨G8.2.1,G8.2.2⟩,by have:=hp0;rw [iR] at this;simpa [dv] using this⟩⟩
    case mem0=>rfl
    case a11=>rfl
    case a12=>rfl
   case round =>
    rintro nn g M ⟨d,vp,Lp,⟨hg11,hg12⟩,rfl,hmeas,⟨hd,hp⟩⟩;subst nn;refine gS2 hg11 hg12 ?_;clear hg11 hg12;have hpl:(dl (B*d)).length≤195:=Nat.le_trans (jU (k:=(dl B).length+1) (by have:=H4 B;have h1:=Nat.mul_le_mul_left B hd.2;rw [Nat.pow_succ];omega)) oo_;refine go4 ?_;refine sQ (eH aM O (fun w hw=>qU _ vp (dl (R*65536+dg A m)) (dl (B*d)) (lI _) (lI _) oo_ oo_ w (SL.sl (hr8.sl.sub (.trans lZ (List.sublist_append_right _ _))) hw) (SL.sl (hp.sl.sub lZ) hw))) O (go_ ?_);refine aQ _ O (fun h68=>?_) (fun h68=>?_)
    ·replace h68:=cB_ h68
     rw [iR,iR] at h68;have hless:=WW hB hd.1 h68;refine go4 ?_;refine sQ (aW (mM O O) (congrArg (Value.int .i64) (rA (b:=1) O hless.1 oo_))) O (go5 ?_);refine aZ O (gS aM O (fun w hw=>lC vp vb (dl (B*d)) (dl B) (lI _) (lI _) oo_ oo_ (by rw [iR,iR];exact hless.2.2.1) w (SL.sl (hp.sl.sub lZ) hw) (SL.sl (M:=_) hvb.old hw)) (fun vp2 Lp2 hp2=>go2 ?_));refine ⟨pp_,_,_,(List.Sublist.append (List.Sublist.refl _) (List.sublist_append_right _ _)),(by have:=hless.1;omega),d - 1,vp2,Lp2,⟨?s11,?s12⟩,?mem,rfl,⟨⟨hless.2.1,by omega⟩,by rw [iR,iR,hless.2.2.2] at hp2;exact hp2⟩⟩
     case mem=>rfl
     case s11=>rfl
     case s12=>rfl
    replace h68:=cB_ h68
    rw [iR,iR] at h68;have hdone:=WU hB hd.1 h68;refine go3 ?_;refine sQ (aW (jA O) (congrArg (Value.int .i64) (show (((m+1:Nat):Int) - 1)=(m:Int) by omega))) O (go_ ?_);refine sQ (AA jQ O O oo_ oo_) O (aZ O (F8 tyT O O (uL (uL (uL uH))) (by rw [hI.len];omega) (.inl e6) (go4 ?_)));refine aZ O (gS aM O (fun w hw=>lC _ vp (dl (R*65536+dg A m)) (dl (B*d)) (lI _) (lI _) oo_ oo_ (by rw [iR,iR];exact hdone.2.2) w (SL.sl (hr8.sl.sub (.trans lZ (List.sublist_append_right _ _))) hw) (SL.sl (hp.sl.sub lZ) hw)) (fun vr2 Lr2 hr2=>go3 ?_));refine sQ (aW (jA O) (congrArg (Value.int .i64) (show (((m+1:Nat):Int) - 1)=(m:Int) by omega))) O (go3 ?_);refine ⟨pp_,_,_,(List.Sublist.append (List.Sublist.refl _) (.trans (List.sublist_append_right _ _) (.trans (List.sublist_append_right _ _) (List.sublist_append_right _ _)))),oo_,m,((R*65536+dg A m) % B),qs.set m d,vr2,Lr2,⟨?s9,?s10⟩,?mem,rfl,⟨by omega,by rw [hdone.1];exact hI.step hB oo_,by rw [iR,iR,hdone.2.1] at hr2;exact hr2⟩⟩
    case mem=>rfl
    case s9=>rfl
    case s10=>exact congrArg (Value.int .i64) (bQ (n:=(m:Int) - 1) (by unfold I64;omega))
  replace hc:=cB_ hc
  obtain rfl:k=0:=by omega
  refine go3 ?_;refine sQ (eH aM O (fun w hw=>iF _ qs hI.ok (by rw [hI.len];omega) w (SL.sl (SL.mine' (mA (.head _)) hI.len (Nat.le_refl _)) hw))) O (go5 ?_);refine rt2 ?_;exact ⟨_,_,rfl,tN hI.ok hI.fin.1 (SLf.mine hb15 (mA (.head _)) hI.len (Nat.le_refl _)),by rw [hI.fin.2] at hr;exact hr.sub lZ⟩
theorem xJ (a:I) :
   Ret prog 132 [AV [pI a]] (AV [pI (lH a)]):=by
 refine bU (N:=13) func132 O O zz_ (fun w0=>?_);refine giI ?_;refine go2 ?_;intro b1 hb1;refine go_ ?_;intro b2 hb2;refine go4 ?_;refine sC (.bool a.1.good) aM (cI a.1 a.2) O O O (go2 ?_);rcases bt a.1.good with h3|h3
 ·refine W_f (iI h3) O (go_ ?_);refine sK sn 7 [4,6] [6] (go4 ?_);refine fP O O (gS aM O (fun w hw=>cV a.1 a.2 w) (fun vl4 Ll4 kl4=>⟨(fun _=>sR s0),sn,?_⟩))
  try simp only [iR,n5] at kl4
  refine pQ O (aW (v':=AV [pI (E (Z.of (sgn (!a.1.neg) (val a.1.w))))]) (eH aM O (fun w hw=>dS (!a.1.neg) vl4 (dl (val a.1.w)) (lI _) (Nat.le_trans (jU (k:=32) (tS a.2)) dd_) w (SL.sl (SL.sub kl4.sl lZ) hw))) (by rw [(iR _)];rfl)) (go3 ?_);refine rtX O (iJ O (mA mZ) tyT O) ?_;exact congrArg vS2 (show _=(lH a) from aY h3 O)
 refine W_t (iG h3) O (go_ ?_);refine sC (AV [pI (E Z.bad)]) aM dV O O O (go3 ?_);refine rtX O (iJ O m0 tyT O) ?_;exact congrArg vS2 (show _=(lH a) from aT h3 O)
theorem xK (a:R) (ha:a.Ok):Ret prog 132 [RV a] (RV (Z.neg a.dec).enc):=by
 have h:=xJ ⟨a,ha⟩;rw [wA] at h;exact h
theorem xF (a:I) :
   Ret prog 157 [AV [pI a]] (AV [pI (lG a)]):=by
 refine bU (N:=10) func157 O O zz_ (fun w0=>?_);refine giI ?_;refine go2 ?_;intro b1 hb1;refine go_ ?_;intro b2 hb2;refine go4 ?_;refine sC (.bool a.1.good) aM (cI a.1 a.2) O O O (go2 ?_);rcases bt a.1.good with h3|h3
 ·refine W_f (iI h3) O (go3 ?_);refine aZ O (gS aM O (fun w hw=>cV a.1 a.2 w) (fun vl4 Ll4 kl4=>?_))
  try simp only [iR,n5] at kl4
  refine sQ (aW (v':=AV [pI (E (Z.of (sgn false (val a.1.w))))]) (eH aM O (fun w hw=>dS false vl4 (dl (val a.1.w)) (lI _) (Nat.le_trans (jU (k:=32) (tS a.2)) dd_) w (SL.sl (SL.sub kl4.sl lZ) hw))) (by rw [(iR _)];rfl)) O (go3 ?_);refine rtX O (iJ O (mA mZ) tyT O) ?_;exact congrArg vS2 (show _=(lG a) from aY h3 O)
 refine W_t (iG h3) O (go_ ?_);refine sC (AV [pI (E Z.bad)]) aM dV O O O (go3 ?_);refine rtX O (iJ O m0 tyT O) ?_;exact congrArg vS2 (show _=(lG a) from aT h3 O)
theorem xG (a:R) (ha:a.Ok):Ret prog 157 [RV a] (RV (Z.abs a.dec).enc):=by
 have h:=xF ⟨a,ha⟩;rw [vY] at h;exact h
theorem xH (a:I) (b:I) :
    Ret prog 76 [AV [pI a],AV [pI b]] (AV [pI (iO a b)]):=by
 refine bU (N:=70) func76 O O zz_ (fun w0=>?_);refine giI ?_;refine go2 ?_;intro b1 hb1;refine go_ ?_;intro b2 hb2;refine go_ ?_;intro b3 hb3;refine go3 ?_;refine sC (.tuple #[.int .i64 ((fJ a).1),.bool (iK a.1)]) aM (gQ a.1 a.2) O O O (go8 ?_);refine sC (.tuple #[.int .i64 ((fJ b).1),.bool (iK b.1)]) aM (gQ b.1 b.2) O O O (go7 ?_);refine gJv [22,23,24,25] [(25,.bool ((iK a.1)&&(iK b.1)))] (fun K2 J2=>?_) ?_
 ·refine go2 ?_;refine sBB O (fun h5=>?_) (fun h5=>?_)
  ·refine go3 ?_;refine J2 _ _ pp_ s0 (bH (cG h5 O))
  refine go3 ?_;refine J2 _ _ pp_ s0 (bH (hJ h5))
 intro g6;refine aQ _ O (fun h7=>?_) (fun h7=>?_)
 ·refine go3 ?_;refine sV (.int .i64 ((W.add (fJ a) (fJ b)).1)) O O (sC (AV [pI (E (Z.of (W.add (fJ a) (fJ b)).1))]) aM (e9 (W.add (fJ a) (fJ b)).1 (W.add (fJ a) (fJ b)).2) O O O (go3 ?_));refine rtX O (iJ O m0 tyT O) ?_;exact congrArg vS2 (show _=(iO a b) from aY h7 O)
 refine go2 ?_;refine gJv (rg [] 30 8) [(37,.bool (!a.1.good||(!b.1.good)))] (fun K4 J4=>?_) ?_
 ·refine go2 ?_;refine sC (.bool a.1.good) aM (cI a.1 a.2) O O O (go_ ?_);rcases bt a.1.good with h9|h9
  ·refine sB (iI h9) O (go_ ?_);refine sC (.bool b.1.good) aM (cI b.1 b.2) O O O (go3 ?_);refine J4 _ _ pp_ s0 (bH (oB h9 O))
  refine sB (iG h9) O (go5 ?_);refine J4 _ _ pp_ s0 (bH (pS h9))
 intro g10;refine aQ _ O (fun h11=>?_) (fun h11=>?_)
 ·refine go_ ?_;refine sC (AV [pI (E Z.bad)]) aM dV O O O (go3 ?_);refine rtX O (iJ O m0 tyT O) ?_;exact congrArg vS2 (show _=(iO a b) from aT h7 (aY h11 O))
 refine go3 ?_;refine aZ O (gS aM O (fun w hw=>cV a.1 a.2 w) (fun vl12 Ll12 kl12=>?_))
 try simp only [iR,n5] at kl12
 refine go4 ?_;refine aZ O (gS aM O (fun w hw=>cV b.1 b.2 w) (fun vl13 Ll13 kl13=>?_))
 try simp only [iR,n5] at kl13
 refine go8 ?_;refine sQ (aW (v':=.bool (a.1.neg==b.1.neg)) (QM AM O O) O) O (go_ ?_);refine aQ _ O (fun h14=>?_) (fun h14=>?_)
 ·refine sK sn 7 [4,6] [6] (go4 ?_);refine fP O O (gS aM O (fun w hw=>nN vl12 vl13 (dl (val a.1.w)) (dl (val b.1.w)) (lI _) (lI _) (Nat.le_trans (jU (k:=32) (tS a.2)) dd_) (Nat.le_trans (jU (k:=32) (tS b.2)) dd_) w (SL.sl (SL.sub kl12.sl (sR lZ)) hw) (SL.sl (SL.sub kl13.sl lZ) hw)) (fun vl15 Ll15 kl15=>⟨(fun _=>sR s0),sn,?_⟩))
  try simp only [iR,n5] at kl15
  refine pQ O (aW (v':=AV [pI (E (Z.of (sgn a.1.neg ((val a.1.w)+(val b.1.w)))))]) (eH aM O (fun w hw=>dS a.1.neg vl15 (dl ((val a.1.w)+(val b.1.w))) (lI _) (Nat.le_trans (jU (k:=33) (eH_ (k:=32) (tS a.2) (tS b.2))) dd_) w (SL.sl (SL.sub kl15.sl lZ) hw))) (by rw [(iR _)];rfl)) (go3 ?_);refine rtX O (iJ O (mA (mA (mA mZ))) tyT O) ?_;exact congrArg vS2 (show _=(iO a b) from aT h7 (aT h11 (aY h14 O)))
 refine go4 ?_;refine sQ (aW (v':=.bool (decide ((val a.1.w)<(val b.1.w)))) (eH aM O (fun w hw=>qU vl12 vl13 (dl (val a.1.w)) (dl (val b.1.w)) (lI _) (lI _) (Nat.le_trans (jU (k:=32) (tS a.2)) dd_) (Nat.le_trans (jU (k:=32) (tS b.2)) dd_) w (SL.sl (SL.sub kl12.sl (sR lZ)) hw) (SL.sl (SL.sub kl13.sl lZ) hw))) (by rw [(iR _),(iR _)])) O (go6 ?_);refine aQ _ O (fun h16=>?_) (fun h16=>?_)
 ·refine sK sn 7 [4,6] [6] (go4 ?_);refine fP O O (gS aM O (fun w hw=>lC vl13 vl12 (dl (val b.1.w)) (dl (val a.1.w)) (lI _) (lI _) (Nat.le_trans (jU (k:=32) (tS b.2)) dd_) (Nat.le_trans (jU (k:=32) (tS a.2)) dd_) (by simp only [iR,n5];exact (Nat.le_of_lt (of_decide_eq_true h16))) w (SL.sl (SL.sub kl13.sl lZ) hw) (SL.sl (SL.sub kl12.sl (sR lZ)) hw)) (fun vl17 Ll17 kl17=>⟨(fun _=>sR s0),sn,?_⟩))
  try simp only [iR,n5] at kl17
  refine pQ O (aW (v':=AV [pI (E (Z.of (sgn b.1.neg ((val b.1.w) - (val a.1.w)))))]) (eH aM O (fun w hw=>dS b.1.neg vl17 (dl ((val b.1.w) - (val a.1.w))) (lI _) (Nat.le_trans (jU (k:=32) (eL_ (tS b.2))) dd_) w (SL.sl (SL.sub kl17.sl lZ) hw))) (by rw [(iR _)];rfl)) (go3 ?_);refine rtX O (iJ O (mA (mA (mA mZ))) tyT O) ?_;exact congrArg vS2 (show _=(iO a b) from aT h7 (aT h11 (aT h14 (aY h16 O))))
 refine go_ ?_;refine sK sn 7 [4,6] [6] (go4 ?_);refine fP O O (gS aM O (fun w hw=>lC vl12 vl13 (dl (val a.1.w)) (dl (val b.1.w)) (lI _) (lI _) (Nat.le_trans (jU (k:=32) (tS a.2)) dd_) (Nat.le_trans (jU (k:=32) (tS b.2)) dd_) (by simp only [iR,n5];exact (Nat.le_of_not_lt (of_decide_eq_false h16))) w (SL.sl (SL.sub kl12.sl (sR lZ)) hw) (SL.sl (SL.sub kl13.sl lZ) hw)) (fun vl18 Ll18 kl18=>⟨(fun _=>sR s0),sn,?_⟩))
 try simp only [iR,n5] at kl18
 refine pQ O (aW (v':=AV [pI (E (Z.of (sgn a.1.neg ((val a.1.w) - (val b.1.w)))))]) (eH aM O (fun w hw=>dS a.1.neg vl18 (dl ((val a.1.w) - (val b.1.w))) (lI _) (Nat.le_trans (jU (k:=32) (eL_ (tS a.2))) dd_) w (SL.sl (SL.sub kl18.sl lZ) hw))) (by rw [(iR _)];rfl)) (go3 ?_);refine rtX O (iJ O (mA (mA (mA mZ))) tyT O) ?_;exact congrArg vS2 (show _=(iO a b) from aT h7 (aT h11 (aT h14 (aT h16 O))))
theorem rG (a b:R) (ha:a.Ok) (hb:b.Ok):Ret prog 76 [RV a,RV b] (RV (Z.add a.dec b.dec).enc):=by
 have h:=xH ⟨a,ha⟩ ⟨b,hb⟩;rw [vZ] at h;exact h
theorem xI (a:I) (b:I) :
    Ret prog 79 [AV [pI a],AV [pI b]] (AV [pI (j9 a b)]):=by
 refine bU (N:=55) func79 O O zz_ (fun w0=>?_);refine giI ?_;refine go2 ?_;intro b1 hb1;refine go_ ?_;intro b2 hb2;refine go_ ?_;intro b3 hb3;refine go3 ?_;refine sC (.tuple #[.int .i64 ((fJ a).1),.bool (iK a.1)]) aM (gQ a.1 a.2) O O O (go8 ?_);refine sC (.tuple #[.int .i64 ((fJ b).1),.bool (iK b.1)]) aM (gQ b.1 b.2) O O O (go7 ?_);refine gJv (rg [] 19 12) [(30,.bool ((iK a.1)&&((iK b.1)&&((decide ((fJ a).1<2147483648)&&decide (-2147483648<(fJ a).1))&&(decide ((fJ b).1<2147483648)&&decide (-2147483648<(fJ b).1))))))] (fun K2 J2=>?_) ?_
 ·refine go2 ?_;refine sBB O (fun h7=>?_) (fun h7=>?_)
  ·refine go2 ?_;refine sBB O (fun h8=>?_) (fun h8=>?_)
   ·refine go_ ?_;refine sC (.bool (decide ((fJ a).1<2147483648)&&decide (-2147483648<(fJ a).1))) aM (qT (fJ a).1) O O O (go_ ?_);refine sBB O (fun h9=>?_) (fun h9=>?_)
    ·refine go_ ?_;refine sC (.bool (decide ((fJ b).1<2147483648)&&decide (-2147483648<(fJ b).1))) aM (qT (fJ b).1) O O O (go2 ?_);refine J2 _ _ pp_ s0 (bH (cG h7 (cG h8 (cG h9 O))))
    refine go4 ?_;refine J2 _ _ pp_ s0 (bH (cG h7 (cG h8 (hJ h9))))
   refine go8 ?_;refine J2 _ _ pp_ s0 (bH (cG h7 (hJ h8)))
  refine vL ?_;refine J2 _ _ pp_ s0 (bH (hJ h7))
 intro g10;refine aQ _ O (fun h11=>?_) (fun h11=>?_)
 ·refine go3 ?_;refine sV (.int .i64 ((W.mul (fJ a) (fJ b)).1)) O O (sC (AV [pI (E (Z.of (W.mul (fJ a) (fJ b)).1))]) aM (e9 (W.mul (fJ a) (fJ b)).1 (W.mul (fJ a) (fJ b)).2) O O O (go3 ?_));refine rtX O (iJ O m0 tyT O) ?_;exact congrArg vS2 (show _=(j9 a b) from aY h11 O)
 refine go2 ?_;refine gJv (rg [] 35 8) [(42,.bool (!a.1.good||(!b.1.good)))] (fun K4 J4=>?_) ?_
 ·refine go2 ?_;refine sC (.bool a.1.good) aM (cI a.1 a.2) O O O (go_ ?_);rcases bt a.1.good with h13|h13
  ·refine sB (iI h13) O (go_ ?_);refine sC (.bool b.1.good) aM (cI b.1 b.2) O O O (go3 ?_);refine J4 _ _ pp_ s0 (bH (oB h13 O))
  refine sB (iG h13) O (go5 ?_);refine J4 _ _ pp_ s0 (bH (pS h13))
 intro g14;refine aQ _ O (fun h15=>?_) (fun h15=>?_)
 ·refine go_ ?_;refine sC (AV [pI (E Z.bad)]) aM dV O O O (go3 ?_);refine rtX O (iJ O m0 tyT O) ?_;exact congrArg vS2 (show _=(j9 a b) from aT h11 (aY h15 O))
 refine go_ ?_;refine gds sn [0,4,8,12,16,20,28,25,33,37,40,45] [11] mix (by kernel_rfl) (go4 ?_);refine pQ O (aW (v':=.bool (a.1.neg != b.1.neg)) (uA AM O O) O) (go2 ?_);refine fP O O (gS aM O (fun w hw=>cV a.1 a.2 w) (fun vl16 Ll16 kl16=>⟨(fun _=>sR s0),sn,?_⟩))
 try simp only [iR,n5] at kl16
 refine fP O O (gS aM O (fun w hw=>cV b.1 b.2 w) (fun vl17 Ll17 kl17=>⟨(fun _=>sR s0),sn,?_⟩))
 try simp only [iR,n5] at kl17
 refine fP O O (gS aM O (fun w hw=>pX vl16 vl17 (dl (val a.1.w)) (dl (val b.1.w)) (lI _) (lI _) (Nat.le_trans (jU (k:=32) (tS a.2)) dd_) (Nat.le_trans (jU (k:=32) (tS b.2)) dd_) w (SL.sl (SL.sub kl16.sl (sR lZ)) hw) (SL.sl (SL.sub kl17.sl lZ) hw)) (fun vl18 Ll18 kl18=>⟨(fun _=>sR s0),sn,?_⟩))
 try simp only [iR,n5] at kl18
 refine pQ O (aW (v':=AV [pI (E (Z.of (sgn (a.1.neg != b.1.neg) ((val a.1.w)*(val b.1.w)))))]) (eH aM O (fun w hw=>dS (a.1.neg != b.1.neg) vl18 (dl ((val a.1.w)*(val b.1.w))) (lI _) (Nat.le_trans (jU (k:=64) (f7_ (i:=32) (k:=32) (tS a.2) (tS b.2))) dd_) w (SL.sl (SL.sub kl18.sl lZ) hw))) (by rw [(iR _)];rfl)) (go3 ?_);refine rtX O (iJ O (mA (mA (mA mZ))) tyT O) ?_;exact congrArg vS2 (show _=(j9 a b) from aT h11 (aT h15 O))
theorem l8 (a b:R) (ha:a.Ok) (hb:b.Ok):Ret prog 79 [RV a,RV b] (RV (Z.mul a.dec b.dec).enc):=by
 have h:=xI ⟨a,ha⟩ ⟨b,hb⟩;rw [v7] at h;exact h
theorem wS (a:I) :
    Ret prog 69 [AV [pI a]] (.int .i64 ((jX a).1)):=by
 refine bU (N:=14) func69 O O zz_ (fun w0=>?_);refine giI ?_;refine go2 ?_;intro b1 hb1;refine go3 ?_;refine gJv (rg [] 3 9) [(11,.bool (!a.1.good||(((dl (val a.1.w)).length:Int)==0)))] (fun K2 J2=>?_) ?_
 ·refine go2 ?_;refine sC (.bool a.1.good) aM (cI a.1 a.2) O O O (go_ ?_);rcases bt a.1.good with h4|h4
  ·refine sB (iI h4) O (go_ ?_);refine aZ O (gS aM O (fun w hw=>cV a.1 a.2 w) (fun vl5 Ll5 kl5=>?_))
   try simp only [iR,n5] at kl5
   refine sQ (aW (v':=.int .i64 ((dl (val a.1.w)).length:Int)) (lW jQ O (SL.sub kl5.sl lZ)) O) O (go3 ?_);refine J2 _ _ pp_ (sR s0) (bH (oB h4 O))
  refine sB (iG h4) O (go6 ?_);refine J2 _ _ pp_ s0 (bH (pS h4))
 intro g6;refine aQ _ O (fun h7=>?_) (fun h7=>?_)
 ·refine go4 ?_;refine rt1 ?_;exact congrArg vS8 (show _=(jX a) from aY h7 O)
 refine go6 ?_;refine aQ _ O (fun h8=>?_) (fun h8=>?_)
 ·refine go4 ?_;refine rt1 ?_;exact congrArg vS8 (show _=(jX a) from aT h7 (aY h8 O))
 refine go5 ?_;refine rt1 ?_;exact congrArg vS8 (show _=(jX a) from aT h7 (aT h8 O))
theorem iE (a:R) (ha:a.Ok):Ret prog 69 [RV a] (.int .i64 a.dec.sign):=by
 have h:=wS ⟨a,ha⟩;rw [vD] at h;exact h
theorem xL (a:I) (b:I) :
    Ret prog 67 [AV [pI a],AV [pI b]] (AV [pI (jE a b)]):=by
 refine bU (N:=76) func67 O O zz_ (fun w0=>?_);refine giI ?_;refine go2 ?_;intro b1 hb1;refine go_ ?_;intro b2 hb2;refine go_ ?_;intro b3 hb3;refine go3 ?_;refine sC (.tuple #[.int .i64 ((fJ a).1),.bool (iK a.1)]) aM (gQ a.1 a.2) O O O (go8 ?_);refine sC (.tuple #[.int .i64 ((fJ b).1),.bool (iK b.1)]) aM (gQ b.1 b.2) O O O (go7 ?_);refine gJv (rg [] 21 8) [(28,.bool ((iK a.1)&&((iK b.1)&&((fJ b).1 != 0))))] (fun K2 J2=>?_) ?_
 ·refine go2 ?_;refine sBB O (fun h6=>?_) (fun h6=>?_)
  ·refine go2 ?_;refine sBB O (fun h7=>?_) (fun h7=>?_)
   ·refine go4 ?_;refine J2 _ _ pp_ s0 (bH (cG h6 (cG h7 O)))
   refine go4 ?_;refine J2 _ _ pp_ s0 (bH (cG h6 (hJ h7)))
  refine go7 ?_;refine J2 _ _ pp_ s0 (bH (hJ h6))
 intro g8;refine aQ _ O (fun h9=>?_) (fun h9=>?_)
 ·refine go3 ?_;have hfl:=XP h9;refine sC (.int .i64 ((W.fdiv (fJ a) (fJ b)).1)) aM (vS (fJ a).1 (fJ b).1 (fJ a).2 hfl.1 hfl.2.1) O O (congrArg (Value.int .i64) hfl.2.2) (sC (AV [pI (E (Z.of (W.fdiv (fJ a) (fJ b)).1))]) aM (e9 (W.fdiv (fJ a) (fJ b)).1 (W.fdiv (fJ a) (fJ b)).2) O O O (go3 ?_));refine rtX O (iJ O m0 tyT O) ?_;exact congrArg vS2 (show _=(jE a b) from aY h9 O)
 refine go2 ?_;refine gJv (rg [] 33 14) [(46,.bool (!a.1.good||(!b.1.good||(((dl (val b.1.w)).length:Int)==0))))] (fun K4 J4=>?_) ?_
 ·refine go2 ?_;refine sC (.bool a.1.good) aM (cI a.1 a.2) O O O (go_ ?_);rcases bt a.1.good with h13|h13
  ·refine sB (iI h13) O (go_ ?_);refine sC (.bool b.1.good) aM (cI b.1 b.2) O O O (go2 ?_);rcases bt b.1.good with h14|h14
   ·refine sB (iI h14) O (go_ ?_);refine aZ O (gS aM O (fun w hw=>cV b.1 b.2 w) (fun vl15 Ll15 kl15=>?_))
    try simp only [iR,n5] at kl15
    refine sQ (aW (v':=.int .i64 ((dl (val b.1.w)).length:Int)) (lW jQ O (SL.sub kl15.sl lZ)) O) O (go3 ?_);refine J4 _ _ pp_ (sR s0) (bH (oB h13 (oB h14 O)))
   refine sB (iG h14) O (go6 ?_);refine J4 _ _ pp_ s0 (bH (oB h13 (pS h14)))
  refine sB (iG h13) O (vL ?_);refine J4 _ _ pp_ s0 (bH (pS h13))
 intro g16;refine aQ _ O (fun h17=>?_) (fun h17=>?_)
 ·refine go_ ?_;refine sC (AV [pI (E Z.bad)]) aM dV O O O (go3 ?_);refine rtX O (iJ O m0 tyT O) ?_;exact congrArg vS2 (show _=(jE a b) from aT h9 (aY h17 O))
 refine go_ ?_;refine gds sn [0,8,5,13,17,20,24,28,32,36] [] mix (by kernel_rfl) (go2 ?_);refine fP O O (gS aM O (fun w hw=>cV a.1 a.2 w) (fun vl18 Ll18 kl18=>⟨(fun _=>sR s0),sn,?_⟩))
 try simp only [iR,n5] at kl18
 refine fP O O (gS aM O (fun w hw=>cV b.1 b.2 w) (fun vl19 Ll19 kl19=>⟨(fun _=>sR s0),sn,?_⟩))
 try simp only [iR,n5] at kl19
 have hB:=eW_ h17;refine fP O O (CS aM O (fun w hw=>mS vl18 vl19 (val a.1.w) (val b.1.w) hB (Nat.le_trans (jU (k:=32) (tS a.2)) dd_) (Nat.le_trans (jU (k:=32) (tS b.2)) dd_) w (SL.sl (SL.sub kl18.sl (sR lZ)) hw) (SL.sl (SL.sub kl19.sl lZ) hw)) (fun vl20_0 vl20_1 Ll20 kl20_0 kl20_1=>⟨(fun _=>sR s0),sn,?_⟩))
 try simp only [iR,n5] at kl20_0 kl20_1
 refine go7 ?_;refine gJv (rg [] 56 10) [(65,.bool ((a.1.neg != b.1.neg)&&decide (0<((dl ((val a.1.w) % (val b.1.w))).length:Int))))] (fun K6 J6=>?_) ?_
 ·refine go5 ?_;refine sQ (aW (v':=.bool (a.1.neg != b.1.neg)) (uA AM O O) O) O ?_;refine sBB O (fun h22=>?_) (fun h22=>?_)
  ·refine go_ ?_;refine sQ (aW (v':=.int .i64 ((dl ((val a.1.w) % (val b.1.w))).length:Int)) (lW jQ O (SL.sub kl20_1 lZ)) O) O (go3 ?_);refine J6 _ _ pp_ s0 (bH (cG h22 O))
  refine go5 ?_;refine J6 _ _ pp_ s0 (bH (hJ h22))
 intro g23;refine aQ _ O (fun h24=>?_) (fun h24=>?_)
 ·refine go2 ?_;refine aZ O (iS lJ z_3 sF O dd_ O (zW 1) (fun b25 hb25=>aZ O (gS aM O (fun w hw=>nN vl20_0 _ (dl ((val a.1.w) / (val b.1.w))) [1] (lI _) (DL.one dd_) (Nat.le_trans (jU (k:=32) (de_ (tS a.2))) dd_) zz_ w (SL.sl (SL.sub kl20_0 (sd lZ)) hw) (SL.sl (SL.sub (SL.mine (l:=[1]) List.mem_cons_self (Nat.le_refl _)) (sk sn)) hw)) (fun vl26 Ll26 kl26=>?_))))
  try simp only [iR,n5] at kl26
  refine go7 ?_;refine sQ (aW (v':=.bool (a.1.neg != b.1.neg)) (uA AM O O) O) O (go_ ?_);refine sQ (aW (v':=AV [pI (E (Z.of (sgn (a.1.neg != b.1.neg) (((val a.1.w) / (val b.1.w))+1))))]) (eH aM O (fun w hw=>dS (a.1.neg != b.1.neg) vl26 (dl (((val a.1.w) / (val b.1.w))+1)) (lI _) (Nat.le_trans (jU (k:=33) (eH_ (k:=32) (de_ (tS a.2)) (Nat.lt_of_lt_of_le (show 1<65536 ^ 1 by decide) (Nat.pow_le_pow_right (show 0<65536 by decide) (show 1≤32 by decide))))) dd_) w (SL.sl (SL.sub kl26.sl lZ) hw))) (by rw [(iR _)];rfl)) O (go3 ?_);refine rtX O (iJ O (mA (mC (mA (mA (mA mZ))))) tyT O) ?_;exact congrArg vS2 (show _=(jE a b) from aT h9 (aT h17 (aY h24 O)))
 refine go6 ?_;refine sQ (aW (v':=.bool (a.1.neg != b.1.neg)) (uA AM O O) O) O (go_ ?_);refine sQ (aW (v':=AV [pI (E (Z.of (sgn (a.1.neg != b.1.neg) ((val a.1.w) / (val b.1.w)))))]) (eH aM O (fun w hw=>dS (a.1.neg != b.1.neg) vl20_0 (dl ((val a.1.w) / (val b.1.w))) (lI _) (Nat.le_trans (jU (k:=32) (de_ (tS a.2))) dd_) w (SL.sl (SL.sub kl20_0 lZ) hw))) (by rw [(iR _)];rfl)) O (go3 ?_);refine rtX O (iJ O (mA (mA (mA mZ))) tyT O) ?_;exact congrArg vS2 (show _=(jE a b) from aT h9 (aT h17 (aT h24 O)))
theorem l9 (a b:R) (ha:a.Ok) (hb:b.Ok):Ret prog 67 [RV a,RV b] (RV (Z.quo a.dec b.dec).enc):=by
 have h:=xL ⟨a,ha⟩ ⟨b,hb⟩;rw [wB] at h;exact h
theorem n7 (a b:R) (ha:a.Ok) (hb:b.Ok) :
    Ret prog 123 [RV a,RV b] (RV (Z.gcd a.dec b.dec).enc):=by
 refine bU (N:=64) func123 O O zz_ (fun w0=>?_);refine giI ?_;have hla:=b8_ ha;have hlb:=b8_ hb;refine go_ ?_;refine aZ O (i7 O O (fun b2 hb2=>aZ O (i7 O O (fun b3 hb3=>aZ O (eB kF (fun b4 hb4=>go2 ?_))))));refine sQ (cC tyT O mm_ (cU ha)) O ?_;refine sQ (bR aM (gQ a ha) O) O (go7 ?_);refine sQ (cC tyT O mm_ (cU hb)) O ?_;refine sQ (bR aM (gQ b hb) O) O (o2 ?_)
 cases w1:iK a
 ·refine go7 ?_;refine sQ (cC tyT O mm_ (cU ha)) O ?_;refine sQ (bR aM (cI a ha) O) O (go2 ?_)
  cases ga:a.good
  ·refine go7 ?_;refine sQ (bR aM dV O) O (aZ O (bN tyT O O uu_ (aJ _) O (bJ _) (.inl e6) ?_));refine go2 ?_;refine rtX O ⟨_,_,_,_,_,_,rfl,mm_,tyT,_,(dO (aJ _)),(aJ _),rfl⟩ ?_
   (rw [Z.gcd,i9 (.inl (HC ga))];rfl)
  refine sQ (cC tyT O mm_ (cU hb)) O ?_;refine sQ (bR aM (cI b hb) O) O (go3 ?_);refine aQ _ O (fun gb=>?_) (fun gb=>?_)
  ·replace gb:=cB_ gb
   refine go_ ?_;refine sQ (bR aM dV O) O (aZ O (bN tyT O O uu_ (aJ _) O (bJ _) (.inl e6) ?_));refine go2 ?_;refine rtX O ⟨_,_,_,_,_,_,rfl,mm_,tyT,_,(dO (aJ _)),(aJ _),rfl⟩ ?_
   (rw [Z.gcd,i9 (.inr (HC gb))];rfl)
  replace gb:=cB_ gb
  refine go2 ?_;refine sQ (cC tyT O mm_ (cU ha)) O ?_;refine aZ O (gS aM O (fun w hw=>cV a ha w) (fun v5 L5 h5=>go3 ?_));refine sQ (cC tyT O mm_ (cU hb)) O ?_;refine aZ O (gS aM O (fun w hw=>cV b hb w) (fun v6 L6 h6=>go4 ?_));refine bP (rg [10,11,12,13] 51 11) (fun g nn M=>∃ (X Y:Nat) (vx vy:Value) (Lx Ly:List Blk),(g 10=vx∧g 11=vy)∧M=Ly++(Lx++[⟨b4,27,zR⟩,⟨b3,27,b.cells⟩,⟨b2,27,a.cells⟩])∧nn=Y∧((X<65536 ^ 32∧Y<65536 ^ 32)∧Nat.gcd X Y=Nat.gcd (val a.w) (val b.w)∧SL w0 [] Lx vx (dl X)∧SL w0 [] Ly vy (dl Y))) (val b.w) ?start ?round
  case start =>
   refine ⟨_,(List.Sublist.refl _),val a.w,val b.w,v5,v6,L5,L6,⟨?a10,?a11⟩,?mem0,rfl,⟨⟨R4 ha,R4 hb⟩,rfl,h5.sl,h6.sl⟩⟩
   case mem0=>rfl
   case a10=>rfl
   case a11=>rfl
  case round =>
   rintro nn g M ⟨X,Y,vx,vy,Lx,Ly,⟨hg10,hg11⟩,rfl,hmeas,⟨hb3,hgc,hX,hY⟩⟩;subst nn;refine gS2 hg10 hg11 ?_;clear hg10 hg11;refine go3 ?_;refine sQ (lW jQ O (hY.sub lZ)) O (go2 ?_);refine aQ _ O (fun h53=>?_) (fun h53=>?_)
   ·replace h53:=cB_ h53
    have hYp:0<Y:=R3 h53;refine go5 ?_;refine aZ O (CS aM O (fun w hw=>mS vx vy X Y hYp (CH hb3.1) (CH hb3.2) w (SL.sl (hX.sub (.trans lZ (List.sublist_append_right _ _))) hw) (SL.sl (hY.sub lZ) hw)) (fun vq vr Lr hq hr=>PV ?_));refine ⟨pp_,_,_,(List.Sublist.append (List.Sublist.refl _) (List.Sublist.append (List.Sublist.refl _) (List.sublist_append_right _ _))),(Nat.mod_lt _ hYp),Y,X % Y,vy,vr,Ly,Lr,⟨?s10,?s11⟩,?mem,rfl,⟨⟨hb3.2,Nat.lt_of_le_of_lt (Nat.mod_le _ _) hb3.1⟩,by rw [← hgc];exact KC X Y,hY,hr⟩⟩
    case mem=>rfl
    case s10=>rfl
    case s11=>rfl
   replace h53:=cB_ h53
   have hY0:Y=0:=NT h53;refine go3 ?_;refine sQ (eH aM O (fun w hw=>dS false _ _ (lI _) (Nat.le_trans (CH hb3.1) dd_) w (SL.sl (hX.sub (.trans lZ (List.sublist_append_right _ _))) hw))) O (aZ O (bN tyT O O uu_ (aJ _) O (bJ _) (.inl e6) ?_));refine go2 ?_;refine rtX O ⟨_,_,_,_,_,_,rfl,mm_,tyT,_,(dO (aJ _)),(aJ _),rfl⟩ ?_
   (rw [XI ha hb ga gb (by rw [← hgc,hY0,Nat.gcd_zero_right]),iR];rfl)
 refine go3 ?_;refine aQ _ O (fun w2=>?_) (fun w2=>?_)
 ·replace w2:=cB_ w2
  refine go2 ?_;refine bP (rg [5,7,9] 28 7) (fun g nn M=>∃ (x y:Int),(g 5 = .int .i64 x∧g 7 = .int .i64 y)∧M=[⟨b4,27,zR⟩,⟨b3,27,b.cells⟩,⟨b2,27,a.cells⟩]∧nn=y.natAbs∧((-4611686018427387904<x∧x<4611686018427387904)∧(-4611686018427387904<y∧y<4611686018427387904)∧Int.gcd x y=Int.gcd (jD a) (jD b))) ((jD b).natAbs) ?start ?round
  case start =>
   refine ⟨_,(List.Sublist.refl _),jD a,jD b,⟨?a5,?a7⟩,?mem0,rfl,⟨(l5 ha w1).2.2.2,(l5 hb w2).2.2.2,rfl⟩⟩
   case mem0=>rfl
   case a5=>rfl
   case a7=>rfl
  case round =>
   rintro nn g M ⟨x,y,⟨hg5,hg7⟩,rfl,hmeas,⟨hx,hy,hgc⟩⟩;subst nn;refine gS2 hg5 hg7 ?_;clear hg5 hg7;refine go5 ?_;refine aQ _ O (fun h29=>?_) (fun h29=>?_)
   ·replace h29:=cB_ h29
    refine go5 ?_;refine sQ (pT O O h29) O (o2 ?_);refine ⟨pp_,_,_,(List.Sublist.refl _),(rN (by simpa using h29)).1,y,x.tmod y,⟨?s5,?s7⟩,?mem,rfl,⟨hy,dq_ hx,by rw [← hgc];exact XT x y⟩⟩
    case mem=>rfl
    case s5=>rfl
    case s7=>rfl
   replace h29:=cB_ h29
   have hy0:y=0:=by simpa using h29
   refine go3 ?_;refine sQ (bR aM (e9 x (dp_ hx)) O) O (sQ (bR aM (xG (Z.of x).enc (Z.enc_ok _)) O) O (aZ O (bN tyT O O uu_ (aJ _) O (bJ _) (.inl e6) ?_)));refine go2 ?_;refine rtX O ⟨_,_,_,_,_,_,rfl,mm_,tyT,_,(dO (aJ _)),(aJ _),rfl⟩ ?_
   (rw [wG,T4 ha hb w1 w2 hgc hy0];rfl)
 replace w2:=cB_ w2
 refine go3 ?_;refine sQ (cC tyT O mm_ (cU ha)) O ?_;refine sQ (bR aM (cI a ha) O) O (go2 ?_)
 cases ga:a.good
 ·refine go7 ?_;refine sQ (bR aM dV O) O (aZ O (bN tyT O O uu_ (aJ _) O (bJ _) (.inl e6) ?_));refine go2 ?_;refine rtX O ⟨_,_,_,_,_,_,rfl,mm_,tyT,_,(dO (aJ _)),(aJ _),rfl⟩ ?_
  (rw [Z.gcd,i9 (.inl (HC ga))];rfl)
 refine sQ (cC tyT O mm_ (cU hb)) O ?_;refine sQ (bR aM (cI b hb) O) O (go3 ?_);refine aQ _ O (fun gb=>?_) (fun gb=>?_)
 ·replace gb:=cB_ gb
  refine go_ ?_;refine sQ (bR aM dV O) O (aZ O (bN tyT O O uu_ (aJ _) O (bJ _) (.inl e6) ?_));refine go2 ?_;refine rtX O ⟨_,_,_,_,_,_,rfl,mm_,tyT,_,(dO (aJ _)),(aJ _),rfl⟩ ?_
  (rw [Z.gcd,i9 (.inr (HC gb))];rfl)
 replace gb:=cB_ gb
 refine go2 ?_;refine sQ (cC tyT O mm_ (cU ha)) O ?_;refine aZ O (gS aM O (fun w hw=>cV a ha w) (fun v5 L5 h5=>go3 ?_));refine sQ (cC tyT O mm_ (cU hb)) O ?_;refine aZ O (gS aM O (fun w hw=>cV b hb w) (fun v6 L6 h6=>go4 ?_));refine bP (rg [10,11,12,13] 51 11) (fun g nn M=>∃ (X Y:Nat) (vx vy:Value) (Lx Ly:List Blk),(g 10=vx∧g 11=vy)∧M=Ly++(Lx++[⟨b4,27,zR⟩,⟨b3,27,b.cells⟩,⟨b2,27,a.cells⟩])∧nn=Y∧((X<65536 ^ 32∧Y<65536 ^ 32)∧Nat.gcd X Y=Nat.gcd (val a.w) (val b.w)∧SL w0 [] Lx vx (dl X)∧SL w0 [] Ly vy (dl Y))) (val b.w) ?start ?round
 case start =>
  refine ⟨_,(List.Sublist.refl _),val a.w,val b.w,v5,v6,L5,L6,⟨?a10,?a11⟩,?mem0,rfl,⟨⟨R4 ha,R4 hb⟩,rfl,h5.sl,h6.sl⟩⟩
  case mem0=>rfl
  case a10=>rfl
  case a11=>rfl
 case round =>
  rintro nn g M ⟨X,Y,vx,vy,Lx,Ly,⟨hg10,hg11⟩,rfl,hmeas,⟨hb3,hgc,hX,hY⟩⟩;subst nn;refine gS2 hg10 hg11 ?_;clear hg10 hg11;refine go3 ?_;refine sQ (lW jQ O (hY.sub lZ)) O (go2 ?_);refine aQ _ O (fun h53=>?_) (fun h53=>?_)
  ·replace h53:=cB_ h53
   have hYp:0<Y:=R3 h53;refine go5 ?_;refine aZ O (CS aM O (fun w hw=>mS vx vy X Y hYp (CH hb3.1) (CH hb3.2) w (SL.sl (hX.sub (.trans lZ (List.sublist_append_right _ _))) hw) (SL.sl (hY.sub lZ) hw)) (fun vq vr Lr hq hr=>PV ?_));refine ⟨pp_,_,_,(List.Sublist.append (List.Sublist.refl _) (List.Sublist.append (List.Sublist.refl _) (List.sublist_append_right _ _))),(Nat.mod_lt _ hYp),Y,X % Y,vy,vr,Ly,Lr,⟨?s10,?s11⟩,?mem,rfl,⟨⟨hb3.2,Nat.lt_of_le_of_lt (Nat.mod_le _ _) hb3.1⟩,by rw [← hgc];exact KC X Y,hY,hr⟩⟩
   case mem=>rfl
   case s10=>rfl
   case s11=>rfl
  replace h53:=cB_ h53
  have hY0:Y=0:=NT h53;refine go3 ?_;refine sQ (eH aM O (fun w hw=>dS false _ _ (lI _) (Nat.le_trans (CH hb3.1) dd_) w (SL.sl (hX.sub (.trans lZ (List.sublist_append_right _ _))) hw))) O (aZ O (bN tyT O O uu_ (aJ _) O (bJ _) (.inl e6) ?_));refine go2 ?_;refine rtX O ⟨_,_,_,_,_,_,rfl,mm_,tyT,_,(dO (aJ _)),(aJ _),rfl⟩ ?_
  (rw [XI ha hb ga gb (by rw [← hgc,hY0,Nat.gcd_zero_right]),iR];rfl)
end Go.Proofs.YtokjfhfiodopdaaGreat
