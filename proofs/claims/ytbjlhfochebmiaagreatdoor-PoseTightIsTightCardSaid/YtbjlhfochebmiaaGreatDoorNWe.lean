/- Lemmas: what they ask stands in their statements. -/
import Derived.Test.YtbjlhfochebmiaaGreatDoorNSg
set_option linter.unusedSimpArgs false
set_option linter.unusedVariables false
set_option maxHeartbeats 8000000
set_option maxRecDepth 20000
namespace Go.Proofs.YtbjlhfochebmiaaGreatDoor
open Go.Kn Go.Num Tryz
attribute [local irreducible] Go.Kn.W WL PL OpQ OpR OpS
theorem iX (a b:R) (ha:a.Ok) (hb:b.Ok) :
    Ret prog 123 [RV a,RV b] (RV (Z.mul a.dec b.dec).enc):=by
 refine bJ (N:=82) func123 O O zz_ (fun w0=>?_);refine giI ?_;refine go_ ?_;refine bI O (jS O O (fun b2 hb2=>bI O (jS O O (fun b3 hb3=>bI O (dU lU (fun b4 hb4=>go3 ?_))))));refine sQ (bZ tyT O mm_ (cE ha)) O ?_;refine sQ (bZ tyT O mm_ (cE hb)) O ?_;refine bI O (jB tJ lU rL O dd_ O (MQ ha hb) (fun b13 hb13=>sQ (dJ aE O (fun w hw=>gZ [a,b] (ok2 ha hb) b13 33 w (hw.mem _ m0) zz_)) O ?_));refine go2 ?_;refine aN _ O (fun hg=>?_) (fun hg=>?_)
 ·replace hg:=cB_ hg
  refine go_ ?_;refine sQ (aX aE fS O) O (bI O (bT tyT O O uu_ (aI _) O (bO _) (.inl eL) ?_));refine go2 ?_;refine rtX O ⟨_,_,_,_,_,_,rfl,mm_,tyT,_,(dE (aI _)),(aI _),rfl⟩ ?_
  (rw [Z.mul,nS (ES hg)];rfl)
 replace hg:=cB_ hg
 have hg:=all2.1 hg;refine go2 ?_;refine bI O (dU fs_ (fun b5 hb5=>go2 ?_));have hsa:=wR a.w;have hsb:=wR b.w;rw [ha.len] at hsa;rw [hb.len] at hsb;refine mB (sk (sk (sk (sk (sk s0))))) 8 [] [] (pQ O (cA fdT dd_ O) (pQ O (iN (vs:=uw a.w) tyT O mm_ (lT ha.len) ((gV _).trans ha.len)) ?_));refine pQ O (aX aE (oM a.w ha.len) O) (pQ O (cA fdT dd_ O) (pQ O (iN (vs:=uw b.w) tyT O mm_ (lT hb.len) ((gV _).trans hb.len)) ?_));refine pQ O (aX aE (oM b.w hb.len) O) (go9 ?_);refine cI (rg [8,9,10] 24 43) (fun g nn M=>∃ (i:Nat) (l:List Nat),(g 24 = .int .i64 (i:Int))∧M=[⟨b5,179,uw l⟩,⟨b4,33,zR⟩,⟨b3,33,b.cells⟩,⟨b2,33,a.cells⟩]∧nn=szL a.w - i∧(i≤szL a.w∧MulOut (val a.w) (val b.w) (szL b.w) i l)) (szL a.w - 0) ?start ?round
 case start =>
  refine ⟨_,(List.Sublist.cons_cons _ (List.Sublist.cons _ (List.Sublist.refl _))),0,_,?a24,?mem0,rfl,⟨Nat.zero_le _,MulOut.start _ _ _⟩⟩
  case mem0=>rfl
  case a24=>rfl
 case round =>
  rintro nn g M ⟨i,l,hg24,rfl,hmeas,⟨hile,hM⟩⟩;subst nn;refine gS1 hg24 ?_;clear hg24;refine go4 ?_;refine aN _ O (fun hi=>?_) (fun hi=>?_)
  ·replace hi:=cB_ hi
   have hia:i<a.w.length:=by rw [ha.len];omega
   refine UW ?_;refine cI (rg [9,10] 28 32) (fun g nn M=>∃ (k:Nat) (l:List Nat) (c:Nat),(g 9 = .int .u64 (c:Int)∧g 28 = .int .i64 (k:Int))∧M=[⟨b5,179,uw l⟩,⟨b4,33,zR⟩,⟨b3,33,b.cells⟩,⟨b2,33,a.cells⟩]∧nn=szL b.w - k∧(k≤szL b.w∧MulIn (val a.w) (val b.w) (szL b.w) i k l c)) (szL b.w - 0) ?start ?round
   case start =>
    refine ⟨_,(List.Sublist.refl _),0,l,0,⟨?a9,?a28⟩,?mem0,rfl,⟨Nat.zero_le _,hM.row⟩⟩
    case mem0=>rfl
    case a9=>rfl
    case a28=>rfl
   case round =>
    rintro nn g M ⟨k,l,c,⟨hg9,hg28⟩,rfl,hmeas,⟨hkle,hM⟩⟩;subst nn;refine gS2 hg9 hg28 ?_;clear hg9 hg28;refine go4 ?_;refine aN _ O (fun hk=>?_) (fun hk=>?_)
    ·replace hk:=cB_ hk
     have hkb:k<b.w.length:=by rw [hb.len];omega
     refine go8 ?_;refine gdr (sk (sk (sk (sk s0)))) [0,4,8,12,16,20,24,28,32,36,40,44,48,52,56,60,64,68,72,76,80] [] mix (by kernel_rfl) (go2 ?_);refine pQ O (cA fdT dd_ O) (pQ O (eF arT O O oo_ oo_) (pQ O (dI tyT O mm_ (nR hia)) ?_));refine pQ O (eC gS fE O) (go_ ?_);refine pQ O (cA fdT dd_ O) (pQ O (eF arT O O oo_ oo_) (pQ O (dI tyT O mm_ (nR hkb)) ?_));refine pQ O (eC gS fE O) (go3 ?_);refine pQ O (aS (i4 O O) (congrArg (Value.int .i64) (o6 oo_))) (pQ O (eF arT O O oo_ oo_) (pQ O (dI tyT O mm_ (vF (by rw [hM.len];omega))) ?_));refine pQ O (eC gS fE O) (go_ ?_);refine pQ O (aS (i4 O O) (congrArg (Value.int .u64) (ex_ (dS ha.lim i) (dS hb.lim k) (dS hM.lim (i+k)) hM.clt))) (go5 ?_);refine sQ (aS (i4 O O) (congrArg (Value.int .i64) (o6 oo_))) O (go_ ?_);refine sQ (aS (eC fE gS O) (pU _)) O (sQ (eF arT O O oo_ oo_) O (bI O (oJ tyT O O uu_ (by rw [hM.len];omega) (.inl eL) ?_)));refine go3 ?_;refine sQ (aS (wK O O dd_) (congrArg (Value.int .u64) (sS _ 32))) O (go3 ?_);refine sQ (aS (i4 O O) (congrArg (Value.int .i64) (kL oo_))) O (go2 ?_);refine ⟨pp_,_,_,(List.Sublist.refl _),oo_,k+1,_,_,⟨?s9,?s28⟩,?mem,rfl,⟨by omega,VC hM ha.lim hb.lim oo_ oo_⟩⟩
     case mem=>rfl
     case s9=>rfl
     case s28=>rfl
    replace hk:=cB_ hk
    obtain rfl:k=szL b.w:=by omega
    refine go4 ?_;refine sQ (aS (i4 O O) (congrArg (Value.int .i64) (o6 oo_))) O (go_ ?_);refine sQ (aS (eC fE gS O) (dU_ hM.clt)) O (sQ (eF arT O O oo_ oo_) O (bI O (oJ tyT O O uu_ (by rw [hM.len];omega) (.inl eL) ?_)));refine go2 ?_;refine sQ (aS (i4 O O) (congrArg (Value.int .i64) (kL oo_))) O (go2 ?_);refine ⟨pp_,_,_,(List.Sublist.refl _),oo_,i+1,_,?s24,?mem,rfl,⟨by omega,hM.done oo_ (vU hb.lim)⟩⟩
    case mem=>rfl
    case s24=>rfl
  replace hi:=cB_ hi
  obtain rfl:i=szL a.w:=by omega
  refine go3 ?_;refine sQ (wP arT O O O dd_ dd_ dd_ dd_) O (sQ (Y1 arT O dd_) O (sQ (iN (vs:=uw (l.drop 16)) tyT O mm_ (fp_ hM.len) (by simp [uw,hM.len])) O ?_));refine sQ (qG qQ arT O (.nil _)) O ?_;refine sQ (yW (r:=decide (l.drop 16=List.replicate 16 0)) O O (dR 8 dd_ HT IA (oL (by simp [hM.len])) (oL zz_) (cS_ _ _))) O ?_;refine go_ ?_;refine aN _ O (fun h71=>?_) (fun h71=>?_)
  ·replace h71:=cB_ h71
   refine go_ ?_;refine sQ (aX aE fS O) O (bI O (bT tyT O O uu_ (aI _) O (bO _) (.inl eL) ?_));refine go2 ?_;refine rtX O ⟨_,_,_,_,_,_,rfl,mm_,tyT,_,(dE (aI _)),(aI _),rfl⟩ ?_;exact congrArg RV (a4_ ha hb hg.1 hg.2 hM.len hM.lim (ID hM ha) (by simpa using h71))
  replace h71:=cB_ h71
  refine go2 ?_;refine mB (sk (sd (sk (sk s0)))) 10 [9] [9] (pQ O (cA fdT dd_ O) (pQ O (dI tyT O mm_ O) ?_));refine pQ O (cA fdT dd_ O) (pQ O (dI tyT O mm_ O) ?_);refine pQ O (vQ DU O O) (pQ O (wP arT O O O dd_ dd_ dd_ dd_) (pQ O (Y1 arT O dd_) (pQ O (iN (vs:=uw (l.take 16)) tyT O mm_ (fq_ hM.len) (by simp [uw,hM.len])) ?_)));refine pQ O (aX aE (eP (a.neg != b.neg) (l.take 16) (by simp [hM.len]) (hM.lim.take 16)) O) ?_;refine dF O O (bT tyT O O uu_ (iQ (by simp [hM.len])) O (bO _) (.inl eL) ⟨nf,ss_,?_⟩);refine go2 ?_;refine rtX O ⟨_,_,_,_,_,_,rfl,mm_,tyT,_,(dE (iQ (by simp [hM.len]))),(iQ (by simp [hM.len])),rfl⟩ ?_;exact congrArg RV (a5_ ha hb hg.1 hg.2 hM.len hM.lim (ID hM ha) (by simpa using h71))
theorem GU (us vs:List Nat) (n j:Nat) (H:QH us vs n j) (bu T:Nat) (w:World) (hbu:w.heap[bu]? = some (.cells (uw us).toArray T (0,0))) :
    Calls prog 217 [.pointer (some ⟨bu,0,none⟩),UV vs,.int .i64 (n:Int),.int .i64 (j:Int)].toArray w (fun e w'=>∃ x:Nat,e = .returned (.int .u64 (x:Int))∧Ext w w'∧NZ us vs j x):=by
 refine OD (N:=77) (g:=fun x:Nat=>.int .u64 (x:Int)) (Q:=fun x:Nat=>NZ us vs j x) func217 O O zz_ ?_;obtain ⟨w0,rfl⟩:=nm w;refine giI ?_;have G:=H.gh;have hn2:=H.n2;have hjn:=H.jn;have hul:=H.ulen;have hvl:=H.vlen;refine go_ ?_;refine bI O (jS O O (fun b5 hb5=>go3 ?_));refine gdr (sk s0) [0,4,8,12,16,20,24,28,32,36,40,44,48,52,56,60,64,68,72,76] [] mix (by kernel_rfl) (go3 ?_);refine pQ O (aS (i4 O O) (congrArg (Value.int .i64) (o6 oo_))) (go_ ?_);refine pQ O (eF arT O O oo_ oo_) (pQ O (G7 tyT O hbu zz_ (vF oo_)) ?_);refine pQ O (aS (eC gS fE O) (xU (dS H.ulim _))) (pQ O (aS (EU O O dd_) (congrArg (Value.int .u64) (yI (dS H.ulim _)))) (go3 ?_));refine pQ O (aS (i4 O O) (congrArg (Value.int .i64) (o6 oo_))) (pQ O (aS (o9 O O) (congrArg (Value.int .i64) (vC (b:=1) O oo_ oo_))) (go_ ?_));refine pQ O (eF arT O O oo_ oo_) (pQ O (G7 tyT O hbu zz_ (vF oo_)) ?_);refine pQ O (aS (eC gS fE O) (xU (dS H.ulim _))) (pQ O (aS (NB O O) (congrArg (Value.int .u64) (PE (dS H.ulim _) (dS H.ulim _)))) (go4 ?_));refine sQ (aS (o9 O O) (congrArg (Value.int .i64) (vC (b:=1) O oo_ oo_))) O (sQ (eF arT O O oo_ oo_) O (sQ (dI tyT O mm_ (vF oo_)) O ?_));refine sQ (aS (eC gS fE O) (xU (dS H.vlim _))) O (go3 ?_);refine mB (sk s0) 8 [] [] (go2 ?_);refine pQ O (aS (kJ O O (by have:=G.f0;omega)) (congrArg (Value.int .u64) (bi_ (by have:=G.topLt;have:=G.f1;omega)))) (go2 ?_);refine pQ O (aS (sF O O (by have:=G.f0;omega)) (congrArg (Value.int .u64) (C6 _ _))) (go5 ?_);refine cI (rg [11,12] 43 33) (fun g nn M=>∃ (d rest:Nat),(g 11 = .int .u64 (d:Int)∧g 12 = .int .u64 (rest:Int))∧M=[⟨b5,31,uw vs⟩]∧nn=d∧(GI (vs.getD (n - 1) 0) (us.getD (j+n) 0*4294967296+us.getD (j+n - 1) 0) (val us / (val vs*4294967296 ^ j)) d rest)) ((us.getD (j+n) 0*4294967296+us.getD (j+n - 1) 0) / vs.getD (n - 1) 0) ?start ?round
 case start =>
  refine ⟨_,(List.Sublist.refl _),_,_,⟨?a11,?a12⟩,?mem0,rfl,GI.start G⟩
  case mem0=>rfl
  case a11=>rfl
  case a12=>rfl
 case round =>
  rintro nn g M ⟨d,rest,⟨hg11,hg12⟩,rfl,hmeas,hG⟩;subst nn;refine gS2 hg11 hg12 ?_;clear hg11 hg12;refine go2 ?_;refine gdr (sk s0) [0,4,8,12,16,20,24,28,32,36,40,44,48,52,56,60,64,68,72,76,80,84,88,92,96,100,104,108] [] mix (by kernel_rfl) (go3 ?_)
  cases h2:decide ((rest:Int)<4294967296)
  ·refine fJ_ ?_;refine rt1 ?_;exact ⟨d,rfl,KS H hG (.inl (by have:=of_decide_eq_false h2;omega))⟩
  refine go3 ?_
  cases h5:decide ((4294967296:Int)≤(d:Int))
  ·refine go2 ?_;refine pQ O (aS (o9 O O) (congrArg (Value.int .i64) (vC (b:=2) O oo_ oo_))) (pQ O (eF arT O O oo_ oo_) (pQ O (dI tyT O mm_ (vF oo_)) ?_));refine pQ O (aS (eC gS fE O) (xU (dS H.vlim _))) (pQ O (aS (TJ O O) (congrArg (Value.int .u64) (TD (S5 (by have:=of_decide_eq_false h5;omega) (dS H.vlim _))))) (go_ ?_));refine pQ O (aS (EU O O dd_) (congrArg (Value.int .u64) (yI (by have:=of_decide_eq_true h2;omega)))) (go3 ?_);refine pQ O (aS (i4 O O) (congrArg (Value.int .i64) (o6 oo_))) (pQ O (aS (o9 O O) (congrArg (Value.int .i64) (vC (b:=2) O oo_ oo_))) (go_ ?_));refine pQ O (eF arT O O oo_ oo_) (pQ O (G7 tyT O hbu zz_ (vF oo_)) ?_);refine pQ O (aS (eC gS fE O) (xU (dS H.ulim _))) (pQ O (aS (NB O O) (congrArg (Value.int .u64) (PE (by have:=of_decide_eq_true h2;omega) (dS H.ulim _)))) (go4 ?_));refine aN _ O (fun h68=>?_) (fun h68=>?_)
   ·replace h68:=cB_ h68
    refine go3 ?_;have hmore:=GI.more G hG (by have:=of_decide_eq_true h2;omega) (by first|exact .inl (by have:=of_decide_eq_true h5;omega)|exact .inr (by exact_mod_cast h68));refine go_ ?_;refine sQ (aS (o9 O O) (congrArg (Value.int .u64) (JA O hmore.1 (by have:=GI.dlt G hG;omega)))) O (go5 ?_);refine sQ (aS (i4 O O) (congrArg (Value.int .u64) (MC (by have:=hG.rlt;have:=G.f1;omega)))) O (go2 ?_);refine ⟨pp_,_,_,(List.Sublist.refl _),(by have:=hmore.1;omega),d - 1,rest+vs.getD (n - 1) 0,⟨?s11,?s12⟩,?mem,rfl,hmore.2⟩
    case mem=>rfl
    case s11=>rfl
    case s12=>rfl
   replace h68:=cB_ h68
   refine go6 ?_;refine rt1 ?_;exact ⟨d,rfl,KS H hG (.inr ⟨by have:=of_decide_eq_false h5;omega,by have h69:=Int.not_lt.1 h68;exact_mod_cast h69⟩)⟩
  refine UX ?_;have hmore:=GI.more G hG (by have:=of_decide_eq_true h2;omega) (by first|exact .inl (by have:=of_decide_eq_true h5;omega)|exact .inr (by exact_mod_cast h68));refine go_ ?_;refine sQ (aS (o9 O O) (congrArg (Value.int .u64) (JA O hmore.1 (by have:=GI.dlt G hG;omega)))) O (go5 ?_);refine sQ (aS (i4 O O) (congrArg (Value.int .u64) (MC (by have:=hG.rlt;have:=G.f1;omega)))) O (go2 ?_);refine ⟨pp_,_,_,(List.Sublist.refl _),(by have:=hmore.1;omega),d - 1,rest+vs.getD (n - 1) 0,⟨?s11,?s12⟩,?mem,rfl,hmore.2⟩
  case mem=>rfl
  case s11=>rfl
  case s12=>rfl
theorem JQ (us vs:List Nat) (n j d:Nat) (hu:us.length=17) (lu:Lim us) (hv:vs.length=16) (lv:Lim vs) (hV:val vs<4294967296 ^ n) (hjn:j+n≤16) (hsm:val us<4294967296 ^ (j+n+1)) (hd:d<4294967296) (bu T:Nat) (w:World) (hbu:w.heap[bu]? = some (.cells (uw us).toArray T (0,0))) :
    Calls prog 218 [.pointer (some ⟨bu,0,none⟩),UV vs,.int .i64 (n:Int),.int .i64 (j:Int),.int .u64 (d:Int)].toArray w (fun e w'=>∃ x:List Nat×Nat,e = .returned (.bool (((x.2:Nat):Int)==1))∧ExtX [bu] w w'∧w'.heap[bu]? = some (.cells (uw x.1).toArray T (0,0))∧Took us (val vs) d j n x):=by
 refine OC (N:=78) (g:=fun x:List Nat×Nat=>.bool (((x.2:Nat):Int)==1)) (cs':=fun x:List Nat×Nat=>uw x.1) (Q:=fun x:List Nat×Nat=>Took us (val vs) d j n x) func218 O O zz_ hbu ?_;obtain ⟨w0,rfl⟩:=nm w;refine giI ?_;refine go_ ?_;refine bI O (jS O O (fun b6 hb6=>yP ?_));refine cI (rg [11,12,13,14] 17 38) (fun g nn M=>∃ (i:Nat) (l:List Nat) (c bo:Nat),(g 11 = .int .u64 (c:Int)∧g 12 = .int .u64 (bo:Int)∧g 17 = .int .i64 (i:Int))∧M=[⟨b6,31,uw vs⟩,⟨bu,T,uw l⟩]∧nn=n - i∧(i≤n∧TakeIn us (val vs) d j i l c bo)) (n - 0) ?start ?round
 case start =>
  refine ⟨_,(List.Sublist.refl _),0,us,0,0,⟨?a11,?a12,?a17⟩,?mem0,rfl,⟨Nat.zero_le _,TakeIn.start hu lu _ _ _⟩⟩
  case mem0=>rfl
  case a11=>rfl
  case a12=>rfl
  case a17=>rfl
 case round =>
  rintro nn g M ⟨i,l,c,bo,⟨hg11,hg12,hg17⟩,rfl,hmeas,⟨hi,hT⟩⟩;subst nn;refine gS3 hg11 hg12 hg17 ?_;clear hg11 hg12 hg17;refine go4 ?_;refine aN _ O (fun hc=>?_) (fun hc=>?_)
  ·replace hc:=cB_ hc
   have hc:i<n:=by omega
   refine wN ?_;refine sQ (eF arT O O oo_ oo_) O (sQ (dI tyT O mm_ (vF oo_)) O ?_);refine sQ (eC gS fE O) O (go_ ?_);refine sQ (aS (i4 O O) (congrArg (Value.int .u64) (dK_ hT.clt hd (dS lv i)))) O (go6 ?_);refine sQ (aS (i4 O O) (congrArg (Value.int .i64) (o6 oo_))) O (go_ ?_);refine sQ (eF arT O O oo_ oo_) O (sQ (dI tyT O mm_ (vF (by rw [hT.len];omega))) O ?_);refine sQ (eC gS fE O) O (go_ ?_);refine sQ (aS (eC fE gS O) (pU _)) O (sQ (eC gS fE O) O (go2 ?_));refine sQ (aS (o9 O O) (congrArg (Value.int .u64) (cd_ hT.ble (dS hT.lim _) (Nat.mod_lt _ dd_)))) O (go6 ?_);refine sQ (aS (i4 O O) (congrArg (Value.int .i64) (o6 oo_))) O (go_ ?_);refine sQ (aS (eC fE gS O) (pU _)) O (go_ ?_);refine sQ (eF arT O O oo_ oo_) O (bI O (oJ tyT O O uu_ (by rw [hT.len];omega) (by first|exact .inl eL|exact .inr (List.mem_singleton.2 O)) ?_));refine go3 ?_;refine sQ (aS (wK O O dd_) (congrArg (Value.int .u64) (sS _ 63))) O (go4 ?_);refine sQ (aS (wK O O dd_) (congrArg (Value.int .u64) (sS _ 32))) O (go3 ?_);refine sQ (aS (i4 O O) (congrArg (Value.int .i64) (kL oo_))) O (go2 ?_);refine ⟨pp_,_,_,(List.Sublist.refl _),oo_,i+1,_,_,_,⟨?s11,?s12,?s17⟩,?mem,rfl,⟨by omega,SE hT lv oo_ hd⟩⟩
   case mem=>rfl
   case s11=>rfl
   case s12=>rfl
   case s17=>rfl
  replace hc:=cB_ hc
  obtain rfl:n=i:=by omega
  refine go5 ?_;refine sQ (aS (i4 O O) (congrArg (Value.int .i64) (o6 oo_))) O (go_ ?_);refine sQ (eF arT O O oo_ oo_) O (sQ (dI tyT O mm_ (vF (by rw [hT.len];omega))) O ?_);refine sQ (eC gS fE O) O (go3 ?_);refine sQ (aS (o9 O O) (congrArg (Value.int .u64) (dI_ hT.ble (dS hT.lim _) hT.clt))) O (go6 ?_);refine sQ (aS (i4 O O) (congrArg (Value.int .i64) (o6 oo_))) O (go_ ?_);refine sQ (aS (eC fE gS O) (pU _)) O (go_ ?_);refine sQ (eF arT O O oo_ oo_) O (bI O (oJ tyT O O uu_ (by rw [hT.len];omega) (by first|exact .inl eL|exact .inr (List.mem_singleton.2 O)) ?_));refine go3 ?_;refine sQ (aS (wK O O dd_) (congrArg (Value.int .u64) (sS _ 63))) O (go4 ?_);refine rt1 ?_;exact ⟨(_,_),rfl,by first|exact .tail _ (.head _)|exact .head _,TakeIn.took hT oo_ hV lu hsm⟩
theorem JN (us vs:List Nat) (n j:Nat) (hu:us.length=17) (lu:Lim us) (hv:vs.length=16) (lv:Lim vs) (hV:val vs<4294967296 ^ n) (hjn:j+n≤16) (hsm:val us<4294967296 ^ (j+n+1)) (bu T:Nat) (w:World) (hbu:w.heap[bu]? = some (.cells (uw us).toArray T (0,0))) :
    Calls prog 219 [.pointer (some ⟨bu,0,none⟩),UV vs,.int .i64 (n:Int),.int .i64 (j:Int)].toArray w (fun e w'=>∃ x:List Nat,e = .returned (.tuple #[])∧ExtX [bu] w w'∧w'.heap[bu]? = some (.cells (uw x).toArray T (0,0))∧Gave us (val vs) j n x):=by
 refine OC (N:=52) (g:=fun x:List Nat=>.tuple #[]) (cs':=fun x:List Nat=>uw x) (Q:=fun x:List Nat=>Gave us (val vs) j n x) func219 O O zz_ hbu ?_;obtain ⟨w0,rfl⟩:=nm w;refine giI ?_;refine go_ ?_;refine bI O (jS O O (fun b5 hb5=>iK ?_));refine cI (rg [8,9] 11 29) (fun g nn M=>∃ (i:Nat) (l:List Nat) (c:Nat),(g 8 = .int .u64 (c:Int)∧g 11 = .int .i64 (i:Int))∧M=[⟨b5,31,uw vs⟩,⟨bu,T,uw l⟩]∧nn=n - i∧(i≤n∧GiveIn us (val vs) j i l c)) (n - 0) ?start ?round
 case start =>
  refine ⟨_,(List.Sublist.refl _),0,us,0,⟨?a8,?a11⟩,?mem0,rfl,⟨Nat.zero_le _,GiveIn.start hu lu _ _⟩⟩
  case mem0=>rfl
  case a8=>rfl
  case a11=>rfl
 case round =>
  rintro nn g M ⟨i,l,c,⟨hg8,hg11⟩,rfl,hmeas,⟨hi,hT⟩⟩;subst nn;refine gS2 hg8 hg11 ?_;clear hg8 hg11;refine go4 ?_;refine aN _ O (fun hc=>?_) (fun hc=>?_)
  ·replace hc:=cB_ hc
   have hc:i<n:=by omega
   refine go8 ?_;refine mB (sk (sk s0)) 16 [] [] (go4 ?_);refine pQ O (aS (i4 O O) (congrArg (Value.int .i64) (o6 oo_))) (go_ ?_);refine pQ O (eF arT O O oo_ oo_) (pQ O (dI tyT O mm_ (vF (by rw [hT.len];omega))) ?_);refine pQ O (eC gS fE O) (go_ ?_);refine pQ O (eF arT O O oo_ oo_) (pQ O (dI tyT O mm_ (vF oo_)) ?_);refine pQ O (eC gS fE O) (go_ ?_);refine pQ O (aS (i4 O O) (congrArg (Value.int .u64) (c0_ hT.cle (dS hT.lim _) (dS lv i)))) (go6 ?_);refine sQ (aS (i4 O O) (congrArg (Value.int .i64) (o6 oo_))) O (go_ ?_);refine sQ (aS (eC fE gS O) (pU _)) O (go_ ?_);refine sQ (eF arT O O oo_ oo_) O (bI O (oJ tyT O O uu_ (by rw [hT.len];omega) (by first|exact .inl eL|exact .inr (List.mem_singleton.2 O)) ?_));refine go3 ?_;refine sQ (aS (wK O O dd_) (congrArg (Value.int .u64) (sS _ 32))) O (go3 ?_);refine sQ (aS (i4 O O) (congrArg (Value.int .i64) (kL oo_))) O (go2 ?_);refine ⟨pp_,_,_,(List.Sublist.refl _),oo_,i+1,_,_,⟨?s8,?s11⟩,?mem,rfl,⟨by omega,Q3 hT lv oo_⟩⟩
   case mem=>rfl
   case s8=>rfl
   case s11=>rfl
  replace hc:=cB_ hc
  obtain rfl:n=i:=by omega
  refine go_ ?_;refine mB (sk (sd s0)) 13 [12] [12] (go3 ?_);refine pQ O (aS (i4 O O) (congrArg (Value.int .i64) (o6 oo_))) (go_ ?_);refine pQ O (eF arT O O oo_ oo_) (pQ O (dI tyT O mm_ (vF (by rw [hT.len];omega))) ?_);refine go_ ?_;refine pQ O (eC fE gS O) (pQ O (aS (i4 O O) (cZ_ (dS hT.lim _) hT.cle)) (go_ ?_));refine pQ O (eF arT O O oo_ oo_) ?_;refine dF O O (oJ tyT O O uu_ (by rw [hT.len];omega) (by first|exact .inl eL|exact .inr (List.mem_singleton.2 O)) ⟨nf,ss_,?_⟩);refine go_ ?_;refine fQ_ O (.inl O) ?_;exact ⟨_,rfl,by first|exact .tail _ (.head _)|exact .head _,GiveIn.gave hT oo_ hV lu hsm⟩
theorem KV (x:Nat) (hx:x<4294967296) :
    Ret prog 203 [U32 x] (.int .i64 ((bl x:Nat):Int)):=by
 refine bJ (N:=19) func203 O O zz_ (fun w0=>?_);refine giI ?_;refine go8 ?_;refine aN _ O (fun h1=>?_) (fun h1=>?_)
 ·replace h1:=cB_ h1
  refine go2 ?_;refine sQ (aS (wK O O dd_) (NN x 16)) O (iK ?_);refine aN _ O (fun h2=>?_) (fun h2=>?_)
  ·replace h2:=cB_ h2
   refine go2 ?_;refine sQ (aS (wK O O dd_) (NN _ 8)) O (iK ?_);refine sQ (aS (eC gS O2 O) (T8 oo_)) O (sQ (NA (n:=256) bl by_ O O oo_ (by decide +kernel)) O (sQ (aS (eC O2 EO O) (GZ oo_)) O (go4 ?_)));refine rt1 ?_;exact G5 (c:=24) O dd_ oo_ (by rw [B6 (k:=16) oo_,B6 (n:=x / 2 ^ 16) (k:=8) oo_];omega)
  replace h2:=cB_ h2
  refine go4 ?_;refine sQ (aS (eC gS O2 O) (T8 oo_)) O (sQ (NA (n:=256) bl by_ O O oo_ (by decide +kernel)) O (sQ (aS (eC O2 EO O) (GZ oo_)) O (go4 ?_)));refine rt1 ?_;exact G5 (c:=16) O dd_ oo_ (by rw [B6 (k:=16) oo_])
 replace h1:=cB_ h1
 refine go6 ?_;refine aN _ O (fun h2=>?_) (fun h2=>?_)
 ·replace h2:=cB_ h2
  refine go2 ?_;refine sQ (aS (wK O O dd_) (NN _ 8)) O (iK ?_);refine sQ (aS (eC gS O2 O) (T8 oo_)) O (sQ (NA (n:=256) bl by_ O O oo_ (by decide +kernel)) O (sQ (aS (eC O2 EO O) (GZ oo_)) O (go4 ?_)));refine rt1 ?_;exact G5 (c:=8) O dd_ oo_ (by rw [B6 (k:=8) oo_])
 replace h2:=cB_ h2
 refine go4 ?_;refine sQ (aS (eC gS O2 O) (T8 oo_)) O (sQ (NA (n:=256) bl by_ O O oo_ (by decide +kernel)) O (sQ (aS (eC O2 EO O) (GZ oo_)) O (go4 ?_)));refine rt1 ?_;exact G5 (c:=0) O dd_ oo_ oo_
theorem YB (x:Nat) (hx:x<4294967296) :
  Ret prog 216 [U32 x] (.int .i64 ((32 - bl x:Nat):Int)):=by
 refine bJ (N:=6) func216 O O zz_ (fun w0=>?_);refine giI ?_;refine go5 ?_;refine sQ (aX aE (KV x hx) O) O (go4 ?_);refine rt1 ?_;exact congrArg (Value.int .i64) (c8_ hx)
theorem xA (xs:List Nat) (hx:xs.length=16) (lx:Lim xs) (n:Nat) (hn:n<32) :
    Ret prog 205 [UV xs,.int .i64 (n:Int)] (.tuple #[UV (toL 16 (val xs*2 ^ n)),U32 (val xs*2 ^ n / 4294967296 ^ 16)]):=by
 refine bJ (N:=30) func205 O O zz_ (fun w0=>?_);refine giI ?_;refine go_ ?_;refine bI O (jS O O (fun b2 hb2=>bI O (dU qQ (fun b4 hb4=>go3 ?_))));refine bI O (dU qQ (fun b6 hb6=>go9 ?_));refine cI (rg [] 7 20) (fun g nn M=>∃ (k:Nat),(g 7 = .int .u64 ((mc (val xs) (2 ^ n) k:Nat):Int)∧g 9 = .int .i64 (k:Int))∧M=[⟨b6,31,uw (zD k (val xs*2 ^ n) 16)⟩,⟨b4,31,uw (List.replicate 16 0)⟩,⟨b2,31,uw xs⟩]∧nn=16 - k∧(k≤16)) (16) ?start ?round
 case start =>
  refine ⟨_,(List.Sublist.refl _),0,⟨?a7,?a9⟩,?mem0,rfl,Nat.zero_le _⟩
  case mem0=>rw [AG]
  case a7=>rw [a3_];rfl
  case a9=>rfl
 case round =>
  rintro nn g M ⟨k,⟨hg7,hg9⟩,rfl,hmeas,hk⟩;subst nn;refine gS2 hg7 hg9 ?_;clear hg7 hg9;refine go4 ?_;refine aN _ O (fun hc=>?_) (fun hc=>?_)
  ·replace hc:=cB_ hc
   have hc:k<16:=by omega
   refine iK ?_;refine sQ (eF arT O O oo_ oo_) O (sQ (dI tyT O mm_ (vF oo_)) O ?_);refine sQ (eC gS fE O) O (go_ ?_);refine sQ (aS (EU O O oo_) (congrArg (Value.int .u64) (bu_ (dS lx k) oo_))) O (sQ (aS (NB O O) (congrArg (Value.int .u64) (fo_ (bZ_ (m:=2 ^ n) _ k (Nat.pow_pos dd_)) (dS lx k) hn))) O (go5 ?_));refine sQ (aS (eC fE gS O) (pU _)) O (sQ (eF arT O O oo_ oo_) O (bI O (oJ tyT O O uu_ (by rw [jT _ hk];exact hc) (.inl eL) ?_)));refine go3 ?_;refine sQ (aS (wK O O dd_) (congrArg (Value.int .u64) (sS _ 32))) O (go6 ?_);refine ⟨pp_,_,_,(List.Sublist.refl _),oo_,k+1,⟨?s7,?s9⟩,?mem,rfl,oo_⟩
   case mem=>rw [eX xs k lx,YG,zE _ hc]
   case s7=>exact congrArg (fun m:Nat=>Value.int .u64 (m:Int)) (by rw [eX xs k lx];exact YF _ _ _)
   case s9=>exact congrArg (Value.int .i64) (kL oo_)
  replace hc:=cB_ hc
  obtain rfl:k=16:=by omega
  refine go2 ?_;refine sQ (bZ tyT O mm_ (by simp [uw,jT])) O ?_;refine go_ ?_;refine sQ (aS (eC fE gS O) (pU _)) O (bI O (bT tyT O O uu_ (by simp [uw,jT]) O (iD _) (.inl eL) ?_));refine go3 ?_;refine vE O (.inr O) ⟨_,_,_,_,_,_,rfl,mm_,tyT,_,(dE (by simp [uw,jT])),(by simp [uw,jT]),rfl⟩ O ?_
  (rw [CY,et_ hx lx,Nat.mod_eq_of_lt (T9 hx lx hn)];rfl)
theorem CT (xs:List Nat) (hx:xs.length=16) (lx:Lim xs) (n:Nat) (hn:n<32) :
    Ret prog 206 [UV xs,.int .i64 (n:Int)] (UV (toL 16 (val xs / 2 ^ n))):=by
 refine bJ (N:=33) func206 O O zz_ (fun w0=>?_);refine giI ?_;refine go_ ?_;refine bI O (jS O O (fun b2 hb2=>bI O (dU qQ (fun b4 hb4=>go2 ?_))));refine bI O (dU qQ (fun b5 hb5=>go6 ?_));refine cI (rg [] 6 26) (fun g nn M=>∃ (k:Nat),(g 8 = .int .i64 (k:Int))∧M=[⟨b5,31,uw (zD k (val xs / 2 ^ n) 16)⟩,⟨b4,31,uw (List.replicate 16 0)⟩,⟨b2,31,uw xs⟩]∧nn=16 - k∧(k≤16)) (16) ?start ?round
 case start =>
  refine ⟨_,(List.Sublist.refl _),0,?a8,?mem0,rfl,Nat.zero_le _⟩
  case mem0=>rw [AG]
  case a8=>rfl
 case round =>
  rintro nn g M ⟨k,hg8,rfl,hmeas,hk⟩;subst nn;refine gS1 hg8 ?_;clear hg8;refine go4 ?_;refine aN _ O (fun hc=>?_) (fun hc=>?_)
  ·replace hc:=cB_ hc
   have hc:k<16:=by omega
   refine H1 ?_;refine sQ (aS (i4 O O) (congrArg (Value.int .i64) (kL oo_))) O (go2 ?_);refine aN _ O (fun h13=>?_) (fun h13=>?_)
   ·replace h13:=cB_ h13
    refine go2 ?_;refine sQ (aS (i4 O O) (congrArg (Value.int .i64) (kL oo_))) O (sQ (eF arT O O oo_ oo_) O (sQ (dI tyT O mm_ (vF oo_)) O ?_));refine sQ (aS (eC gS fE O) (congrArg (Value.int .u64) (lG (dS lx _)))) O (go4 ?_);refine sQ (aS (kN O) (show _=Value.int .u64 ((dig (val xs) (k+1):Nat):Int) from by first|exact congrArg (fun m:Nat=>Value.int .u64 (m:Int)) (eX xs (k+1) lx)|exact congrArg (fun m:Nat=>Value.int .u64 (m:Int)) (OK hx lx oo_).symm)) O ?_;refine sQ (aS (EU O O dd_) (congrArg (Value.int .u64) (yI (rU _ _)))) O (go_ ?_);refine sQ (eF arT O O oo_ oo_) O (sQ (dI tyT O mm_ (vF oo_)) O ?_);refine sQ (aS (eC gS fE O) (congrArg (Value.int .u64) ((lG (dS lx _)).trans (by rw [eX xs k lx])))) O (sQ (aS (NB O O) (congrArg (Value.int .u64) (G0 (rU _ _) (rU _ _)))) O (go_ ?_));refine sQ (aS (wK O O oo_) (congrArg (Value.int .u64) (cb_ hn))) O (sQ (aS (eC fE gS O) (pU _)) O (sQ (eF arT O O oo_ oo_) O (bI O (oJ tyT O O uu_ (by rw [jT _ hk];exact hc) (.inl eL) ?_))));refine go5 ?_;refine ⟨pp_,_,_,(List.Sublist.refl _),oo_,k+1,?s8,?mem,rfl,oo_⟩
    case mem=>rw [HR k oo_,zE _ hc]
    case s8=>exact congrArg (Value.int .i64) (kL oo_)
   replace h13:=cB_ h13
   refine go3 ?_;refine sQ (aS (kN O) (show _=Value.int .u64 ((dig (val xs) (k+1):Nat):Int) from by first|exact congrArg (fun m:Nat=>Value.int .u64 (m:Int)) (eX xs (k+1) lx)|exact congrArg (fun m:Nat=>Value.int .u64 (m:Int)) (OK hx lx oo_).symm)) O ?_;refine sQ (aS (EU O O dd_) (congrArg (Value.int .u64) (yI (rU _ _)))) O (go_ ?_);refine sQ (eF arT O O oo_ oo_) O (sQ (dI tyT O mm_ (vF oo_)) O ?_);refine sQ (aS (eC gS fE O) (congrArg (Value.int .u64) ((lG (dS lx _)).trans (by rw [eX xs k lx])))) O (sQ (aS (NB O O) (congrArg (Value.int .u64) (G0 (rU _ _) (rU _ _)))) O (go_ ?_));refine sQ (aS (wK O O oo_) (congrArg (Value.int .u64) (cb_ hn))) O (sQ (aS (eC fE gS O) (pU _)) O (sQ (eF arT O O oo_ oo_) O (bI O (oJ tyT O O uu_ (by rw [jT _ hk];exact hc) (.inl eL) ?_))));refine go5 ?_;refine ⟨pp_,_,_,(List.Sublist.refl _),oo_,k+1,?s8,?mem,rfl,oo_⟩
   case mem=>rw [HR k oo_,zE _ hc]
   case s8=>exact congrArg (Value.int .i64) (kL oo_)
  replace hc:=cB_ hc
  obtain rfl:k=16:=by omega
  refine go2 ?_;refine sQ (bZ tyT O mm_ (by simp [uw,jT])) O ?_;refine bI O (bT tyT O O uu_ (by simp [uw,jT]) O (iD _) (.inl eL) ?_);refine go2 ?_;refine rtX O ⟨_,_,_,_,_,_,rfl,mm_,tyT,_,(dE (by simp [uw,jT])),(by simp [uw,jT]),rfl⟩ ?_
  (rw [CY];rfl)
theorem GV (xs:List Nat) (hx:xs.length=16) (lx:Lim xs) (d:Nat) (hd:d<4294967296) (h0:0<d) :
    Ret prog 215 [UV xs,U32 d] (.tuple #[UV (toL 16 (val xs / d)),U32 (val xs % d)]):=by
 refine bJ (N:=33) func215 O O zz_ (fun w0=>?_);refine giI ?_;refine go_ ?_;refine bI O (jS O O (fun b2 hb2=>bI O (dU qQ (fun b4 hb4=>iK ?_))));refine cI (rg [] 6 24) (fun g nn M=>∃ (k:Nat),(g 6 = .int .u64 ((val xs / 4294967296 ^ k % d:Nat):Int)∧g 7 = .int .i64 ((k:Int) - 1))∧M=[⟨b4,31,uw (yE k (val xs / d))⟩,⟨b2,31,uw xs⟩]∧nn=k+0∧(k≤16)) (16) ?start ?round
 case start =>
  refine ⟨_,(List.Sublist.refl _),16,⟨?a6,?a7⟩,?mem0,rfl,Nat.le_refl _⟩
  case mem0=>rw [U2]
  case a6=>rw [eh_ hx lx];rfl
  case a7=>rfl
 case round =>
  rintro nn g M ⟨k,⟨hg6,hg7⟩,rfl,hmeas,hk⟩;subst nn;refine gS2 hg6 hg7 ?_;clear hg6 hg7;refine go5 ?_;refine aN _ O (fun hc=>?_) (fun hc=>?_)
  ·replace hc:=cB_ hc
   obtain ⟨m,rfl⟩:∃ m,k=m+1:=⟨k - 1,by omega⟩;have hr:val xs / 4294967296 ^ (m+1) % d<4294967296:=Nat.lt_trans (Nat.mod_lt _ h0) hd;refine go4 ?_;refine sQ (aS (kN O) O) O (sQ (aS (EU O O dd_) (congrArg (Value.int .u64) (yI hr))) O (sQ (aS (kN O) (congrArg (Value.int .i64) (show (((m+1:Nat):Int) - 1)=(m:Int) by omega))) O (sQ (eF arT O O oo_ oo_) O (sQ (dI tyT O mm_ (vF oo_)) O ?_))));refine sQ (aS (eC gS fE O) (congrArg (Value.int .u64) ((lG (dS lx _)).trans (by rw [eX xs m lx])))) O (sQ (aS (NB O O) (congrArg (Value.int .u64) (G0 hr (rU _ _)))) O (go3 ?_));refine sQ (aS (kN O) (congrArg (Value.int .i64) (show (((m+1:Nat):Int) - 1)=(m:Int) by omega))) O (go2 ?_);refine sQ (aS (eC gS fE O) (congrArg (Value.int .u64) (lG hd))) O (sQ (aS (kJ O O oo_) (congrArg (Value.int .u64) (TL _ _))) O (sQ (aS (eC fE gS O) (pU _)) O (sQ (eF arT O O oo_ oo_) O (bI O (oJ tyT O O uu_ (by rw [oG _ oo_];omega) (.inl eL) ?_)))));refine go4 ?_;refine sQ (aS (eC gS fE O) (congrArg (Value.int .u64) (lG hd))) O (sQ (aS (sF O O oo_) (congrArg (Value.int .u64) (C6 _ _))) O (go3 ?_));refine sQ (aS (kN O) (congrArg (Value.int .i64) (show (((m+1:Nat):Int) - 1)=(m:Int) by omega))) O (go3 ?_);refine ⟨pp_,_,_,(List.Sublist.refl _),oo_,m,⟨?s6,?s7⟩,?mem,rfl,oo_⟩
   case mem=>rw [R7 m h0,FD oo_]
   case s6=>exact congrArg (fun m:Nat=>Value.int .u64 (m:Int)) (F6 m h0).2
   case s7=>exact congrArg (Value.int .i64) (cB (n:=(m:Int) - 1) (by unfold I64;omega))
  replace hc:=cB_ hc
  obtain rfl:k=0:=by omega
  refine go2 ?_;refine sQ (bZ tyT O mm_ (by simp [uw,oG])) O ?_;refine go_ ?_;refine sQ (aS (eC fE gS O) (pU _)) O (bI O (bT tyT O O uu_ (by simp [uw,oG]) (by simp [uw,oG]) (iD _) (.inl eL) ?_));refine go3 ?_;refine vE O (.inr O) ⟨_,_,_,_,_,_,rfl,mm_,tyT,_,(dE (by simp [uw,oG])),(by simp [uw,oG]),rfl⟩ O ?_
  (rw [KT,Nat.pow_zero,Nat.div_one,Nat.mod_eq_of_lt (Nat.lt_trans (Nat.mod_lt _ h0) hd)];rfl)
theorem tR (xs ys:List Nat) (hx:xs.length=16) (hy:ys.length=16) (lx:Lim xs) (ly:Lim ys) (h0:0<val ys) :
    Ret prog 189 [UV xs,UV ys] (.tuple #[UV (toL 16 (val xs / val ys)),UV (toL 16 (val xs % val ys))]):=by
 refine bJ (N:=94) func189 O O zz_ (fun w0=>?_);refine giI ?_;refine go_ ?_;refine bI O (jS O O (fun b2 hb2=>bI O (jS O O (fun b3 hb3=>bI O (dU qQ (fun b4 hb4=>bI O (dU qQ (fun b5 hb5=>go2 ?_))))))));refine mB (sk (sk (sk (sk s0)))) 6 [] [] (pQ O (bZ tyT O mm_ (by simp [uw,hy])) ?_);refine pQ O (aX aE (oM ys hy) O) (pQ O (bZ tyT O mm_ (by simp [uw,hx])) ?_);refine pQ O (aX aE (oM xs hx) O) (go5 ?_);refine sQ (bZ tyT O mm_ (by simp [uw,hx])) O ?_;refine sQ (bZ tyT O mm_ (by simp [uw,hy])) O ?_;refine sQ (aX aE (oZ xs ys hx hy lx ly) O) O (go2 ?_);refine aN _ O (fun ho=>?_) (fun ho=>?_)
 ·replace ho:=cB_ ho
  have hlt:=W4 ho;refine go_ ?_;refine gdr (sd (sd (sk (sk s0)))) [0,6,9,13] [2,3] mix (by kernel_rfl) (pQ O (qG qQ arT O (.nil _)) (tC O O (bZ tyT O mm_ (by simp [uw,hx])) ?_));refine dF O O (bT tyT O O uu_ (by simp [uw,List.length_replicate]) (by simp [uw]) (iD _) (.inl eL) ⟨nf,ss_,?_⟩);refine dF O O (bT tyT O O uu_ (by simp [uw,hx]) (by simp [uw]) (iD _) (.inl eL) ⟨nf,ss_,?_⟩);refine go2 ?_;refine vE O (.inr O) ⟨_,_,_,_,_,_,rfl,mm_,tyT,_,(dE (by simp [uw])),(by simp [uw]),rfl⟩ ⟨_,_,_,_,_,_,rfl,mm_,tyT,_,(dE (by simp [uw,hx])),(by simp [uw,hx]),rfl⟩ ?_;exact Y5 hx lx hlt
 replace ho:=cB_ ho
 have hle:=SO (Int.not_lt.1 ho);have hsp:=dJ_ h0;have hsz:=wR ys;rw [hy] at hsz;refine go6 ?_;refine aN _ O (fun h29=>?_) (fun h29=>?_)
 ·replace h29:=cB_ h29
  have hsz1:szL ys=1:=by omega
  refine go_ ?_;refine sQ (bZ tyT O mm_ (by simp [uw,hx])) O ?_;refine sQ (eF arT O O dd_ dd_) O (sQ (dI tyT O mm_ (vF (k:=0) oo_)) O ?_);refine sQ (aX aE (GV xs hx lx _ (dS ly 0) (TG hsz1)) O) O (go3 ?_);refine bI O (dU qQ (fun b8 hb8=>bI O (bT tyT O O uu_ (by simp [uw,cP]) (by simp [uw]) (iD _) (.inl eL) ?_)));refine go3 ?_;refine sQ (bZ tyT O mm_ (by simp [uw,cP])) O ?_;refine go_ ?_;refine sQ (qG qQ arT O (em_ _)) O (bI O (bT tyT O O uu_ (by simp [uw,cP]) (by simp [uw]) (iD _) (.inl eL) ?_));refine bI O (bT tyT O O uu_ (by simp [uw,List.length_replicate]) (by simp [uw]) (iD _) (.inl eL) ?_);refine go2 ?_;refine vE O (.inr O) ⟨_,_,_,_,_,_,rfl,mm_,tyT,_,(dE (by simp [uw,cP])),(by simp [uw,cP]),rfl⟩ ⟨_,_,_,_,_,_,rfl,mm_,tyT,_,(dE (by simp [uw])),(by simp [uw]),rfl⟩ ?_;exact bh_ ly hsz1
 replace h29:=cB_ h29
 have h2:2≤szL ys:=by omega
 have D:DV xs ys (szL ys) (32 - bl (ys.getD (szL ys - 1) 0)):=⟨hx,hy,lx,ly,rfl,h2,rfl,hle⟩;refine go3 ?_;refine sQ (aS (o9 O O) (congrArg (Value.int .i64) (vC (b:=1) O oo_ oo_))) O (sQ (eF arT O O oo_ oo_) O (sQ (dI tyT O mm_ (vF oo_)) O ?_));refine sQ (aX aE (YB _ (dS ly _)) O) O (go3 ?_);refine sQ (bZ tyT O mm_ (by simp [uw,hy])) O ?_;refine go_ ?_;refine sQ (aX aE (xA ys hy ly _ D.s32) O) O (go3 ?_);refine bI O (dU qQ (fun b11 hb11=>bI O (bT tyT O O uu_ (by simp [uw,cP]) (by simp [uw]) (iD _) (.inl eL) ?_)));refine go3 ?_;refine sQ (bZ tyT O mm_ (by simp [uw,hx])) O ?_;refine go_ ?_;refine sQ (aX aE (xA xs hx lx _ D.s32) O) O (go3 ?_);refine bI O (dU qQ (fun b13 hb13=>bI O (bT tyT O O uu_ (by simp [uw,cP]) (by simp [uw]) (iD _) (.inl eL) ?_)));refine go3 ?_;refine bI O (dU ft_ (fun b15 hb15=>go2 ?_));refine gdr (sd (sk (sk (sk (sk (sk (sk s0))))))) [0,4,9] [2] mix (by kernel_rfl) (pQ O (wP arT O O O dd_ dd_ dd_ dd_) (pQ O (wP arT O O O dd_ dd_ dd_ dd_) ?_));refine dF O O (NF NP O O mm_ uu_ (fun v hv=>iD _ v (List.mem_of_mem_drop (List.mem_of_mem_take hv))) (by simp [uw,cP]) (by simp [uw]) (aI_ (cP _ _)) (.inl eL) ⟨nf,ss_,?_⟩);refine go3 ?_;refine sQ (eF arT O O dd_ dd_) O (bI O (oJ (k:=16) tyT O O uu_ (by simp [cP]) (.inl eL) ?_));refine go5 ?_;refine sQ (aS (o9 O O) (congrArg (Value.int .i64) (TX D.nm (by have:=D.m16;omega)))) O (go3 ?_);refine cI (rg [16,17] 65 23) (fun g nn M=>∃ (k:Nat) (l:List Nat),(g 16 = .int .i64 ((k:Int) - 1))∧M=[⟨b15,198,uw l⟩,⟨b13,31,uw (toL 16 (val xs*2 ^ (32 - bl (ys.getD (szL ys - 1) 0))))⟩,⟨b11,31,uw (toL 16 (val ys*2 ^ (32 - bl (ys.getD (szL ys - 1) 0))))⟩,⟨b5,31,uw (List.replicate 16 0)⟩,⟨b4,31,uw (yE k (val xs / val ys))⟩,⟨b3,31,uw ys⟩,⟨b2,31,uw xs⟩]∧nn=k+0∧(k+szL ys≤17∧QI xs ys (32 - bl (ys.getD (szL ys - 1) 0)) k l)) (szL xs - szL ys+1) ?start ?round
 case start =>
  refine ⟨_,(List.Sublist.refl _),szL xs - szL ys+1,((toL 16 (val xs*2 ^ (32 - bl (ys.getD (szL ys - 1) 0)))++[0]).set 16 (val xs*2 ^ (32 - bl (ys.getD (szL ys - 1) 0)) / 4294967296 ^ 16)),?a16,?mem0,rfl,⟨by have:=D.nm;have:=D.m16;omega,QI.start D⟩⟩
  case mem0=>rw [← DV.qstart D]
  case a16=>exact congrArg (Value.int .i64) oo_
 case round =>
  rintro nn g M ⟨k,l,hg16,rfl,hmeas,⟨hkn,hq⟩⟩;subst nn;refine gS1 hg16 ?_;clear hg16;refine go5 ?_;refine aN _ O (fun hc=>?_) (fun hc=>?_)
  ·replace hc:=cB_ hc
   obtain ⟨m,rfl⟩:∃ m,k=m+1:=⟨k - 1,by omega⟩;refine go4 ?_;refine sQ (bZ tyT O mm_ (by simp [uw,cP])) O ?_;refine go_ ?_;refine sQ (aS (kN O) (congrArg (Value.int .i64) (show (((m+1:Nat):Int) - 1)=(m:Int) by omega))) O (bI O (bl_ aE O (fun w hw=>GU l _ (szL ys) m (hq.qh D oo_) b15 198 w (hw.mem _ m0)) (fun d hd=>go4 ?_)));refine sQ (bZ tyT O mm_ (by simp [uw,cP])) O ?_;refine go_ ?_;refine sQ (aS (kN O) (congrArg (Value.int .i64) (show (((m+1:Nat):Int) - 1)=(m:Int) by omega))) O (go_ ?_);refine bI O (TM aE O (fun w hw=>JQ l _ (szL ys) m d hq.len hq.lim (cP _ _) (mG _ _) (by rw [D.v16];exact D.vlt) oo_ (hq.small D) hd.1 b15 198 w (hw.mem _ m0)) (fun x=>uu_) (.inl eL) (fun x ht=>?_));refine go_ ?_;refine aN _ O (fun h77=>?_) (fun h77=>?_)
   ·replace h77:=cB_ h77
    refine go2 ?_;refine sQ (aS (o9 O O) (congrArg (Value.int .u64) (JA O (ht.pos oo_) (by have:=hd.1;omega)))) O (go3 ?_);refine sQ (bZ tyT O mm_ (by simp [uw,cP])) O ?_;refine go_ ?_;refine sQ (aS (kN O) (congrArg (Value.int .i64) (show (((m+1:Nat):Int) - 1)=(m:Int) by omega))) O (bI O (TM aE O (fun w hw=>JN x.1 _ (szL ys) m ht.len ht.lim (cP _ _) (mG _ _) (by rw [D.v16];exact D.vlt) oo_ ht.small b15 198 w (hw.mem _ m0)) (fun y=>uu_) (.inl eL) (fun y hgv=>?_)));refine go_ ?_;obtain ⟨hz,hdz,_⟩:=hq.took1 D hd ht oo_ hgv;refine go_ ?_;refine sQ (aS (kN O) (congrArg (Value.int .i64) (show (((m+1:Nat):Int) - 1)=(m:Int) by omega))) O (go_ ?_);refine sQ (aS (eC fE gS O) (pU _)) O (sQ (eF arT O O oo_ oo_) O (bI O (oJ tyT O O uu_ (by rw [oG _ oo_];omega) (.inl eL) ?_)));refine go2 ?_;refine sQ (aS (kN O) (congrArg (Value.int .i64) (show (((m+1:Nat):Int) - 1)=(m:Int) by omega))) O (go3 ?_);refine ⟨pp_,_,_,(List.Sublist.refl _),oo_,m,_,?s16,?mem,rfl,⟨by omega,hz⟩⟩
    case mem=>rw [hdz,FD oo_]
    case s16=>exact congrArg (Value.int .i64) (cB (n:=(m:Int) - 1) (by unfold I64;omega))
   replace h77:=cB_ h77
   obtain ⟨hz,hdz⟩:=hq.took0 D hd ht oo_;refine go2 ?_;refine sQ (aS (kN O) (congrArg (Value.int .i64) (show (((m+1:Nat):Int) - 1)=(m:Int) by omega))) O (go_ ?_);refine sQ (aS (eC fE gS O) (pU _)) O (sQ (eF arT O O oo_ oo_) O (bI O (oJ tyT O O uu_ (by rw [oG _ oo_];omega) (.inl eL) ?_)));refine go2 ?_;refine sQ (aS (kN O) (congrArg (Value.int .i64) (show (((m+1:Nat):Int) - 1)=(m:Int) by omega))) O (go3 ?_);refine ⟨pp_,_,_,(List.Sublist.refl _),oo_,m,_,?s16,?mem,rfl,⟨by omega,hz⟩⟩
   case mem=>rw [hdz,FD oo_]
   case s16=>exact congrArg (Value.int .i64) (cB (n:=(m:Int) - 1) (by unfold I64;omega))
  replace hc:=cB_ hc
  obtain rfl:k=0:=by omega
  refine go2 ?_;refine gdr (sk (sk (sk (sd (sd (sk (sk s0))))))) [0,4,8,12,16,20,25,29] [6,7] mix (by kernel_rfl) (pQ O (bZ tyT O mm_ (by rw [gV,oG _ oo_])) ?_);refine pQ O (wP arT O O O dd_ dd_ dd_ dd_) (pQ O (Y1 arT O dd_) (pQ O (iN (vs:=uw (l.take 16)) tyT O mm_ bE_ (by simp [uw,hq.len])) ?_));refine go_ ?_;refine pQ O (aX aE (CT (l.take 16) (by simp [hq.len]) (hq.lim.take 16) _ D.s32) O) ?_;refine dF O O (bT tyT O O uu_ (by rw [gV,oG _ oo_]) (by rw [gV,oG _ oo_]) (iD _) (.inl eL) ⟨nf,ss_,?_⟩);refine dF O O (bT tyT O O uu_ (by simp [uw,cP]) (by simp [uw]) (iD _) (.inl eL) ⟨nf,ss_,?_⟩);refine go2 ?_;refine vE O (.inr O) ⟨_,_,_,_,_,_,rfl,mm_,tyT,_,(dE (by rw [gV,oG _ oo_])),(by rw [gV,oG _ oo_]),rfl⟩ ⟨_,_,_,_,_,_,rfl,mm_,tyT,_,(dE (by simp [uw,cP])),(by simp [uw,cP]),rfl⟩ ?_
  (rw [KT,hq.fin D];rfl)
end Go.Proofs.YtbjlhfochebmiaaGreatDoor
