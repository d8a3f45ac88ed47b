/- Lemmas: what they ask stands in their statements. -/
import Derived.Test.YtokjfhfiodopdaaGreatJSg
set_option linter.unusedSimpArgs false
set_option linter.unusedVariables false
set_option maxHeartbeats 8000000
set_option maxRecDepth 20000
namespace Go.Proofs.YtokjfhfiodopdaaGreat
open Go.Kn Go.Num Tryz
attribute [local irreducible] Go.Kn.W WL PL OpQ OpR OpS
theorem eM (a b:R) (ha:a.Ok) (hb:b.Ok) :
    Ret prog 117 [RV a,RV b] (RV (Z.mul a.dec b.dec).enc):=by
 refine cJ (N:=82) func117 O O zz_ (fun w0=>?_);refine giI ?_;refine go_ ?_;refine bL O (kK O O (fun b2 hb2=>bL O (kK O O (fun b3 hb3=>bL O (fF lO (fun b4 hb4=>go3 ?_))))));refine sQ (dD tyT O mm_ (dO ha)) O ?_;refine sQ (dD tyT O mm_ (dO hb)) O ?_;refine bL O (j8 l4 lO nW O dd_ O (N5 ha hb) (fun b13 hb13=>sQ (dZ aS O (fun w hw=>jI [a,b] (ok2 ha hb) b13 27 w (hw.mem _ m0) zz_)) O ?_));refine go2 ?_;refine aZ _ O (fun hg=>?_) (fun hg=>?_)
 ·replace hg:=cB_ hg
  refine go_ ?_;refine sQ (bW aS jL O) O (bL O (cC tyT O O uu_ (aV _) O (bS _) (.inl gH) ?_));refine go2 ?_;refine rtX O ⟨_,_,_,_,_,_,rfl,mm_,tyT,_,(eJ (aV _)),(aV _),rfl⟩ ?_
  (rw [Z.mul,jO (EE hg)];rfl)
 replace hg:=cB_ hg
 have hg:=all2.1 hg;refine go2 ?_;refine bL O (fF h0_ (fun b5 hb5=>go2 ?_));have hsa:=vN a.w;have hsb:=vN b.w;rw [ha.len] at hsa;rw [hb.len] at hsb;refine rP (sk (sk (sk (sk (sk s0))))) 8 [] [] (pQ O (cW fdT dd_ O) (pQ O (i7 (vs:=uw a.w) tyT O mm_ (lP ha.len) ((iF _).trans ha.len)) ?_));refine pQ O (bW aS (nY a.w ha.len) O) (pQ O (cW fdT dd_ O) (pQ O (i7 (vs:=uw b.w) tyT O mm_ (lP hb.len) ((iF _).trans hb.len)) ?_));refine pQ O (bW aS (nY b.w hb.len) O) (go9 ?_);refine cH (rg [8,9,10] 24 43) (fun g nn M=>∃ (i:Nat) (l:List Nat),(g 24 = .int .i64 (i:Int))∧M=[⟨b5,168,uw l⟩,⟨b4,27,zR⟩,⟨b3,27,b.cells⟩,⟨b2,27,a.cells⟩]∧nn=szL a.w - i∧(i≤szL a.w∧MulOut (val a.w) (val b.w) (szL b.w) i l)) (szL a.w - 0) ?start ?round
 case start =>
  refine ⟨_,(List.Sublist.cons_cons _ (List.Sublist.cons _ (List.Sublist.refl _))),0,_,?a24,?mem0,rfl,⟨Nat.zero_le _,MulOut.start _ _ _⟩⟩
  case mem0=>rfl
  case a24=>rfl
 case round =>
  rintro nn g M ⟨i,l,hg24,rfl,hmeas,⟨hile,hM⟩⟩;subst nn;refine gS1 hg24 ?_;clear hg24;refine go4 ?_;refine aZ _ O (fun hi=>?_) (fun hi=>?_)
  ·replace hi:=cB_ hi
   have hia:i<a.w.length:=by rw [ha.len];omega
   refine fp_ ?_;refine cH (rg [9,10] 28 32) (fun g nn M=>∃ (k:Nat) (l:List Nat) (c:Nat),(g 9 = .int .u64 (c:Int)∧g 28 = .int .i64 (k:Int))∧M=[⟨b5,168,uw l⟩,⟨b4,27,zR⟩,⟨b3,27,b.cells⟩,⟨b2,27,a.cells⟩]∧nn=szL b.w - k∧(k≤szL b.w∧MulIn (val a.w) (val b.w) (szL b.w) i k l c)) (szL b.w - 0) ?start ?round
   case start =>
    refine ⟨_,(List.Sublist.refl _),0,l,0,⟨?a9,?a28⟩,?mem0,rfl,⟨Nat.zero_le _,hM.row⟩⟩
    case mem0=>rfl
    case a9=>rfl
    case a28=>rfl
   case round =>
    rintro nn g M ⟨k,l,c,⟨hg9,hg28⟩,rfl,hmeas,⟨hkle,hM⟩⟩;subst nn;refine gS2 hg9 hg28 ?_;clear hg9 hg28;refine go4 ?_;refine aZ _ O (fun hk=>?_) (fun hk=>?_)
    ·replace hk:=cB_ hk
     have hkb:k<b.w.length:=by rw [hb.len];omega
     refine go8 ?_;refine gdr (sk (sk (sk (sk s0)))) [0,4,8,12,16,20,24,28,32,36,40,44,48,52,56,60,64,68,72,76,80] [] mix (by kernel_rfl) (go2 ?_);refine pQ O (cW fdT dd_ O) (pQ O (fK arT O O oo_ oo_) (pQ O (eA tyT O mm_ (n4 hia)) ?_));refine pQ O (eY iG fZ O) (go_ ?_);refine pQ O (cW fdT dd_ O) (pQ O (fK arT O O oo_ oo_) (pQ O (eA tyT O mm_ (n4 hkb)) ?_));refine pQ O (eY iG fZ O) (go3 ?_);refine pQ O (bJ (jJ O O) (congrArg (Value.int .i64) (oK oo_))) (pQ O (fK arT O O oo_ oo_) (pQ O (eA tyT O mm_ (uG (by rw [hM.len];omega))) ?_));refine pQ O (eY iG fZ O) (go_ ?_);refine pQ O (bJ (jJ O O) (congrArg (Value.int .u64) (ha_ (eH ha.lim i) (eH hb.lim k) (eH hM.lim (i+k)) hM.clt))) (go5 ?_);refine sQ (bJ (jJ O O) (congrArg (Value.int .i64) (oK oo_))) O (go_ ?_);refine sQ (bJ (eY fZ iG O) (oV _)) O (sQ (fK arT O O oo_ oo_) O (bL O (nV tyT O O uu_ (by rw [hM.len];omega) (.inl gH) ?_)));refine go3 ?_;refine sQ (bJ (vE O O dd_) (congrArg (Value.int .u64) (rG _ 32))) O (go3 ?_);refine sQ (bJ (jJ O O) (congrArg (Value.int .i64) (kH oo_))) O (go2 ?_);refine ⟨pp_,_,_,(List.Sublist.refl _),oo_,k+1,_,_,⟨?s9,?s28⟩,?mem,rfl,⟨by omega,X9 hM ha.lim hb.lim oo_ oo_⟩⟩
     case mem=>rfl
     case s9=>rfl
     case s28=>rfl
    replace hk:=cB_ hk
    obtain rfl:k=szL b.w:=by omega
    refine go4 ?_;refine sQ (bJ (jJ O O) (congrArg (Value.int .i64) (oK oo_))) O (go_ ?_);refine sQ (bJ (eY fZ iG O) (gm_ hM.clt)) O (sQ (fK arT O O oo_ oo_) O (bL O (nV tyT O O uu_ (by rw [hM.len];omega) (.inl gH) ?_)));refine go2 ?_;refine sQ (bJ (jJ O O) (congrArg (Value.int .i64) (kH oo_))) O (go2 ?_);refine ⟨pp_,_,_,(List.Sublist.refl _),oo_,i+1,_,?s24,?mem,rfl,⟨by omega,hM.done oo_ (uZ hb.lim)⟩⟩
    case mem=>rfl
    case s24=>rfl
  replace hi:=cB_ hi
  obtain rfl:i=szL a.w:=by omega
  refine go3 ?_;refine sQ (JI arT O O O dd_ dd_ dd_ dd_) O (sQ (by_ arT O dd_) O (sQ (i7 (vs:=uw (l.drop 16)) tyT O mm_ (hW_ hM.len) (by simp [uw,hM.len])) O ?_));refine sQ (oY qD arT O (.nil _)) O ?_;refine sQ (FU (r:=decide (l.drop 16=List.replicate 16 0)) O O (n5 8 dd_ ID I2 (nX (by simp [hM.len])) (nX zz_) (fc_ _ _))) O ?_;refine go_ ?_;refine aZ _ O (fun h71=>?_) (fun h71=>?_)
  ·replace h71:=cB_ h71
   refine go_ ?_;refine sQ (bW aS jL O) O (bL O (cC tyT O O uu_ (aV _) O (bS _) (.inl gH) ?_));refine go2 ?_;refine rtX O ⟨_,_,_,_,_,_,rfl,mm_,tyT,_,(eJ (aV _)),(aV _),rfl⟩ ?_;exact congrArg RV (da_ ha hb hg.1 hg.2 hM.len hM.lim (I7 hM ha) (by simpa using h71))
  replace h71:=cB_ h71
  refine go2 ?_;refine rP (sk (sd (sk (sk s0)))) 10 [9] [9] (pQ O (cW fdT dd_ O) (pQ O (eA tyT O mm_ O) ?_));refine pQ O (cW fdT dd_ O) (pQ O (eA tyT O mm_ O) ?_);refine pQ O (tR AU O O) (pQ O (JI arT O O O dd_ dd_ dd_ dd_) (pQ O (by_ arT O dd_) (pQ O (i7 (vs:=uw (l.take 16)) tyT O mm_ (hX_ hM.len) (by simp [uw,hM.len])) ?_)));refine pQ O (bW aS (gF (a.neg != b.neg) (l.take 16) (by simp [hM.len]) (hM.lim.take 16)) O) ?_;refine gA O O (cC tyT O O uu_ (lQ (by simp [hM.len])) O (bS _) (.inl gH) ⟨nf,ss_,?_⟩);refine go2 ?_;refine rtX O ⟨_,_,_,_,_,_,rfl,mm_,tyT,_,(eJ (lQ (by simp [hM.len]))),(lQ (by simp [hM.len])),rfl⟩ ?_;exact congrArg RV (db_ ha hb hg.1 hg.2 hM.len hM.lim (I7 hM ha) (by simpa using h71))
theorem G6 (us vs:List Nat) (n j:Nat) (H:QH us vs n j) (bu T:Nat) (w:World) (hbu:w.heap[bu]? = some (.cells (uw us).toArray T (0,0))) :
    Calls prog 190 [.pointer (some ⟨bu,0,none⟩),UV vs,.int .i64 (n:Int),.int .i64 (j:Int)].toArray w (fun e w'=>∃ x:Nat,e = .returned (.int .u64 (x:Int))∧Ext w w'∧PT us vs j x):=by
 refine QB (N:=77) (g:=fun x:Nat=>.int .u64 (x:Int)) (Q:=fun x:Nat=>PT us vs j x) func190 O O zz_ ?_;obtain ⟨w0,rfl⟩:=nm w;refine giI ?_;have G:=H.gh;have hn2:=H.n2;have hjn:=H.jn;have hul:=H.ulen;have hvl:=H.vlen;refine go_ ?_;refine bL O (kK O O (fun b5 hb5=>go3 ?_));refine gdr (sk s0) [0,4,8,12,16,20,24,28,32,36,40,44,48,52,56,60,64,68,72,76] [] mix (by kernel_rfl) (go3 ?_);refine pQ O (bJ (jJ O O) (congrArg (Value.int .i64) (oK oo_))) (go_ ?_);refine pQ O (fK arT O O oo_ oo_) (pQ O (HM tyT O hbu zz_ (uG oo_)) ?_);refine pQ O (bJ (eY iG fZ O) (w5 (eH H.ulim _))) (pQ O (bJ (EK O O dd_) (congrArg (Value.int .u64) (xO (eH H.ulim _)))) (go3 ?_));refine pQ O (bJ (jJ O O) (congrArg (Value.int .i64) (oK oo_))) (pQ O (bJ (oO O O) (congrArg (Value.int .i64) (uC (b:=1) O oo_ oo_))) (go_ ?_));refine pQ O (fK arT O O oo_ oo_) (pQ O (HM tyT O hbu zz_ (uG oo_)) ?_);refine pQ O (bJ (eY iG fZ O) (w5 (eH H.ulim _))) (pQ O (bJ (OZ O O) (congrArg (Value.int .u64) (RJ (eH H.ulim _) (eH H.ulim _)))) (go4 ?_));refine sQ (bJ (oO O O) (congrArg (Value.int .i64) (uC (b:=1) O oo_ oo_))) O (sQ (fK arT O O oo_ oo_) O (sQ (eA tyT O mm_ (uG oo_)) O ?_));refine sQ (bJ (eY iG fZ O) (w5 (eH H.vlim _))) O (go3 ?_);refine rP (sk s0) 8 [] [] (go2 ?_);refine pQ O (bJ (tS O O (by have:=G.f0;omega)) (congrArg (Value.int .u64) (dz_ (by have:=G.topLt;have:=G.f1;omega)))) (go2 ?_);refine pQ O (bJ (uI O O (by have:=G.f0;omega)) (congrArg (Value.int .u64) (CB _ _))) (go5 ?_);refine cH (rg [11,12] 43 33) (fun g nn M=>∃ (d rest:Nat),(g 11 = .int .u64 (d:Int)∧g 12 = .int .u64 (rest:Int))∧M=[⟨b5,25,uw vs⟩]∧nn=d∧(GI (vs.getD (n - 1) 0) (us.getD (j+n) 0*4294967296+us.getD (j+n - 1) 0) (val us / (val vs*4294967296 ^ j)) d rest)) ((us.getD (j+n) 0*4294967296+us.getD (j+n - 1) 0) / vs.getD (n - 1) 0) ?start ?round
 case start =>
  refine ⟨_,(List.Sublist.refl _),_,_,⟨?a11,?a12⟩,?mem0,rfl,GI.start G⟩
  case mem0=>rfl
  case a11=>rfl
  case a12=>rfl
 case round =>
  rintro nn g M ⟨d,rest,⟨hg11,hg12⟩,rfl,hmeas,hG⟩;subst nn;refine gS2 hg11 hg12 ?_;clear hg11 hg12;refine go2 ?_;refine gdr (sk s0) [0,4,8,12,16,20,24,28,32,36,40,44,48,52,56,60,64,68,72,76,80,84,88,92,96,100,104,108] [] mix (by kernel_rfl) (go3 ?_)
  cases h2:decide ((rest:Int)<4294967296)
  ·refine in_ ?_;refine rt1 ?_;exact ⟨d,rfl,MH H hG (.inl (by have:=of_decide_eq_false h2;omega))⟩
  refine go3 ?_
  cases h5:decide ((4294967296:Int)≤(d:Int))
  ·refine go2 ?_;refine pQ O (bJ (oO O O) (congrArg (Value.int .i64) (uC (b:=2) O oo_ oo_))) (pQ O (fK arT O O oo_ oo_) (pQ O (eA tyT O mm_ (uG oo_)) ?_));refine pQ O (bJ (eY iG fZ O) (w5 (eH H.vlim _))) (pQ O (bJ (WD O O) (congrArg (Value.int .u64) (V2 (VX (by have:=of_decide_eq_false h5;omega) (eH H.vlim _))))) (go_ ?_));refine pQ O (bJ (EK O O dd_) (congrArg (Value.int .u64) (xO (by have:=of_decide_eq_true h2;omega)))) (go3 ?_);refine pQ O (bJ (jJ O O) (congrArg (Value.int .i64) (oK oo_))) (pQ O (bJ (oO O O) (congrArg (Value.int .i64) (uC (b:=2) O oo_ oo_))) (go_ ?_));refine pQ O (fK arT O O oo_ oo_) (pQ O (HM tyT O hbu zz_ (uG oo_)) ?_);refine pQ O (bJ (eY iG fZ O) (w5 (eH H.ulim _))) (pQ O (bJ (OZ O O) (congrArg (Value.int .u64) (RJ (by have:=of_decide_eq_true h2;omega) (eH H.ulim _)))) (go4 ?_));refine aZ _ O (fun h68=>?_) (fun h68=>?_)
   ·replace h68:=cB_ h68
    refine go3 ?_;have hmore:=GI.more G hG (by have:=of_decide_eq_true h2;omega) (by first|exact .inl (by have:=of_decide_eq_true h5;omega)|exact .inr (by exact_mod_cast h68));refine go_ ?_;refine sQ (bJ (oO O O) (congrArg (Value.int .u64) (KA O hmore.1 (by have:=GI.dlt G hG;omega)))) O (go5 ?_);refine sQ (bJ (jJ O O) (congrArg (Value.int .u64) (NQ (by have:=hG.rlt;have:=G.f1;omega)))) O (go2 ?_);refine ⟨pp_,_,_,(List.Sublist.refl _),(by have:=hmore.1;omega),d - 1,rest+vs.getD (n - 1) 0,⟨?s11,?s12⟩,?mem,rfl,hmore.2⟩
    case mem=>rfl
    case s11=>rfl
    case s12=>rfl
   replace h68:=cB_ h68
   refine go6 ?_;refine rt1 ?_;exact ⟨d,rfl,MH H hG (.inr ⟨by have:=of_decide_eq_false h5;omega,by have h69:=Int.not_lt.1 h68;exact_mod_cast h69⟩)⟩
  refine fs_ ?_;have hmore:=GI.more G hG (by have:=of_decide_eq_true h2;omega) (by first|exact .inl (by have:=of_decide_eq_true h5;omega)|exact .inr (by exact_mod_cast h68));refine go_ ?_;refine sQ (bJ (oO O O) (congrArg (Value.int .u64) (KA O hmore.1 (by have:=GI.dlt G hG;omega)))) O (go5 ?_);refine sQ (bJ (jJ O O) (congrArg (Value.int .u64) (NQ (by have:=hG.rlt;have:=G.f1;omega)))) O (go2 ?_);refine ⟨pp_,_,_,(List.Sublist.refl _),(by have:=hmore.1;omega),d - 1,rest+vs.getD (n - 1) 0,⟨?s11,?s12⟩,?mem,rfl,hmore.2⟩
  case mem=>rfl
  case s11=>rfl
  case s12=>rfl
theorem KT (us vs:List Nat) (n j d:Nat) (hu:us.length=17) (lu:Lim us) (hv:vs.length=16) (lv:Lim vs) (hV:val vs<4294967296 ^ n) (hjn:j+n≤16) (hsm:val us<4294967296 ^ (j+n+1)) (hd:d<4294967296) (bu T:Nat) (w:World) (hbu:w.heap[bu]? = some (.cells (uw us).toArray T (0,0))) :
    Calls prog 191 [.pointer (some ⟨bu,0,none⟩),UV vs,.int .i64 (n:Int),.int .i64 (j:Int),.int .u64 (d:Int)].toArray w (fun e w'=>∃ x:List Nat×Nat,e = .returned (.bool (((x.2:Nat):Int)==1))∧ExtX [bu] w w'∧w'.heap[bu]? = some (.cells (uw x.1).toArray T (0,0))∧Took us (val vs) d j n x):=by
 refine QA (N:=78) (g:=fun x:List Nat×Nat=>.bool (((x.2:Nat):Int)==1)) (cs':=fun x:List Nat×Nat=>uw x.1) (Q:=fun x:List Nat×Nat=>Took us (val vs) d j n x) func191 O O zz_ hbu ?_;obtain ⟨w0,rfl⟩:=nm w;refine giI ?_;refine go_ ?_;refine bL O (kK O O (fun b6 hb6=>Q2 ?_));refine cH (rg [11,12,13,14] 17 38) (fun g nn M=>∃ (i:Nat) (l:List Nat) (c bo:Nat),(g 11 = .int .u64 (c:Int)∧g 12 = .int .u64 (bo:Int)∧g 17 = .int .i64 (i:Int))∧M=[⟨b6,25,uw vs⟩,⟨bu,T,uw l⟩]∧nn=n - i∧(i≤n∧TakeIn us (val vs) d j i l c bo)) (n - 0) ?start ?round
 case start =>
  refine ⟨_,(List.Sublist.refl _),0,us,0,0,⟨?a11,?a12,?a17⟩,?mem0,rfl,⟨Nat.zero_le _,TakeIn.start hu lu _ _ _⟩⟩
  case mem0=>rfl
  case a11=>rfl
  case a12=>rfl
  case a17=>rfl
 case round =>
  rintro nn g M ⟨i,l,c,bo,⟨hg11,hg12,hg17⟩,rfl,hmeas,⟨hi,hT⟩⟩;subst nn;refine gS3 hg11 hg12 hg17 ?_;clear hg11 hg12 hg17;refine go4 ?_;refine aZ _ O (fun hc=>?_) (fun hc=>?_)
  ·replace hc:=cB_ hc
   have hc:i<n:=by omega
   refine vT ?_;refine sQ (fK arT O O oo_ oo_) O (sQ (eA tyT O mm_ (uG oo_)) O ?_);refine sQ (eY iG fZ O) O (go_ ?_);refine sQ (bJ (jJ O O) (congrArg (Value.int .u64) (gi_ hT.clt hd (eH lv i)))) O (go6 ?_);refine sQ (bJ (jJ O O) (congrArg (Value.int .i64) (oK oo_))) O (go_ ?_);refine sQ (fK arT O O oo_ oo_) O (sQ (eA tyT O mm_ (uG (by rw [hT.len];omega))) O ?_);refine sQ (eY iG fZ O) O (go_ ?_);refine sQ (bJ (eY fZ iG O) (oV _)) O (sQ (eY iG fZ O) O (go2 ?_));refine sQ (bJ (oO O O) (congrArg (Value.int .u64) (ev_ hT.ble (eH hT.lim _) (Nat.mod_lt _ dd_)))) O (go6 ?_);refine sQ (bJ (jJ O O) (congrArg (Value.int .i64) (oK oo_))) O (go_ ?_);refine sQ (bJ (eY fZ iG O) (oV _)) O (go_ ?_);refine sQ (fK arT O O oo_ oo_) O (bL O (nV tyT O O uu_ (by rw [hT.len];omega) (by first|exact .inl gH|exact .inr (List.mem_singleton.2 O)) ?_));refine go3 ?_;refine sQ (bJ (vE O O dd_) (congrArg (Value.int .u64) (rG _ 63))) O (go4 ?_);refine sQ (bJ (vE O O dd_) (congrArg (Value.int .u64) (rG _ 32))) O (go3 ?_);refine sQ (bJ (jJ O O) (congrArg (Value.int .i64) (kH oo_))) O (go2 ?_);refine ⟨pp_,_,_,(List.Sublist.refl _),oo_,i+1,_,_,_,⟨?s11,?s12,?s17⟩,?mem,rfl,⟨by omega,UJ hT lv oo_ hd⟩⟩
   case mem=>rfl
   case s11=>rfl
   case s12=>rfl
   case s17=>rfl
  replace hc:=cB_ hc
  obtain rfl:n=i:=by omega
  refine go5 ?_;refine sQ (bJ (jJ O O) (congrArg (Value.int .i64) (oK oo_))) O (go_ ?_);refine sQ (fK arT O O oo_ oo_) O (sQ (eA tyT O mm_ (uG (by rw [hT.len];omega))) O ?_);refine sQ (eY iG fZ O) O (go3 ?_);refine sQ (bJ (oO O O) (congrArg (Value.int .u64) (gg_ hT.ble (eH hT.lim _) hT.clt))) O (go6 ?_);refine sQ (bJ (jJ O O) (congrArg (Value.int .i64) (oK oo_))) O (go_ ?_);refine sQ (bJ (eY fZ iG O) (oV _)) O (go_ ?_);refine sQ (fK arT O O oo_ oo_) O (bL O (nV tyT O O uu_ (by rw [hT.len];omega) (by first|exact .inl gH|exact .inr (List.mem_singleton.2 O)) ?_));refine go3 ?_;refine sQ (bJ (vE O O dd_) (congrArg (Value.int .u64) (rG _ 63))) O (go4 ?_);refine rt1 ?_;exact ⟨(_,_),rfl,by first|exact .tail _ (.head _)|exact .head _,TakeIn.took hT oo_ hV lu hsm⟩
theorem KR (us vs:List Nat) (n j:Nat) (hu:us.length=17) (lu:Lim us) (hv:vs.length=16) (lv:Lim vs) (hV:val vs<4294967296 ^ n) (hjn:j+n≤16) (hsm:val us<4294967296 ^ (j+n+1)) (bu T:Nat) (w:World) (hbu:w.heap[bu]? = some (.cells (uw us).toArray T (0,0))) :
    Calls prog 192 [.pointer (some ⟨bu,0,none⟩),UV vs,.int .i64 (n:Int),.int .i64 (j:Int)].toArray w (fun e w'=>∃ x:List Nat,e = .returned (.tuple #[])∧ExtX [bu] w w'∧w'.heap[bu]? = some (.cells (uw x).toArray T (0,0))∧Gave us (val vs) j n x):=by
 refine QA (N:=52) (g:=fun x:List Nat=>.tuple #[]) (cs':=fun x:List Nat=>uw x) (Q:=fun x:List Nat=>Gave us (val vs) j n x) func192 O O zz_ hbu ?_;obtain ⟨w0,rfl⟩:=nm w;refine giI ?_;refine go_ ?_;refine bL O (kK O O (fun b5 hb5=>pU ?_));refine cH (rg [8,9] 11 29) (fun g nn M=>∃ (i:Nat) (l:List Nat) (c:Nat),(g 8 = .int .u64 (c:Int)∧g 11 = .int .i64 (i:Int))∧M=[⟨b5,25,uw vs⟩,⟨bu,T,uw l⟩]∧nn=n - i∧(i≤n∧GiveIn us (val vs) j i l c)) (n - 0) ?start ?round
 case start =>
  refine ⟨_,(List.Sublist.refl _),0,us,0,⟨?a8,?a11⟩,?mem0,rfl,⟨Nat.zero_le _,GiveIn.start hu lu _ _⟩⟩
  case mem0=>rfl
  case a8=>rfl
  case a11=>rfl
 case round =>
  rintro nn g M ⟨i,l,c,⟨hg8,hg11⟩,rfl,hmeas,⟨hi,hT⟩⟩;subst nn;refine gS2 hg8 hg11 ?_;clear hg8 hg11;refine go4 ?_;refine aZ _ O (fun hc=>?_) (fun hc=>?_)
  ·replace hc:=cB_ hc
   have hc:i<n:=by omega
   refine go8 ?_;refine rP (sk (sk s0)) 16 [] [] (go4 ?_);refine pQ O (bJ (jJ O O) (congrArg (Value.int .i64) (oK oo_))) (go_ ?_);refine pQ O (fK arT O O oo_ oo_) (pQ O (eA tyT O mm_ (uG (by rw [hT.len];omega))) ?_);refine pQ O (eY iG fZ O) (go_ ?_);refine pQ O (fK arT O O oo_ oo_) (pQ O (eA tyT O mm_ (uG oo_)) ?_);refine pQ O (eY iG fZ O) (go_ ?_);refine pQ O (bJ (jJ O O) (congrArg (Value.int .u64) (fo_ hT.cle (eH hT.lim _) (eH lv i)))) (go6 ?_);refine sQ (bJ (jJ O O) (congrArg (Value.int .i64) (oK oo_))) O (go_ ?_);refine sQ (bJ (eY fZ iG O) (oV _)) O (go_ ?_);refine sQ (fK arT O O oo_ oo_) O (bL O (nV tyT O O uu_ (by rw [hT.len];omega) (by first|exact .inl gH|exact .inr (List.mem_singleton.2 O)) ?_));refine go3 ?_;refine sQ (bJ (vE O O dd_) (congrArg (Value.int .u64) (rG _ 32))) O (go3 ?_);refine sQ (bJ (jJ O O) (congrArg (Value.int .i64) (kH oo_))) O (go2 ?_);refine ⟨pp_,_,_,(List.Sublist.refl _),oo_,i+1,_,_,⟨?s8,?s11⟩,?mem,rfl,⟨by omega,TL hT lv oo_⟩⟩
   case mem=>rfl
   case s8=>rfl
   case s11=>rfl
  replace hc:=cB_ hc
  obtain rfl:n=i:=by omega
  refine go_ ?_;refine rP (sk (sd s0)) 13 [12] [12] (go3 ?_);refine pQ O (bJ (jJ O O) (congrArg (Value.int .i64) (oK oo_))) (go_ ?_);refine pQ O (fK arT O O oo_ oo_) (pQ O (eA tyT O mm_ (uG (by rw [hT.len];omega))) ?_);refine go_ ?_;refine pQ O (eY fZ iG O) (pQ O (bJ (jJ O O) (fn_ (eH hT.lim _) hT.cle)) (go_ ?_));refine pQ O (fK arT O O oo_ oo_) ?_;refine gA O O (nV tyT O O uu_ (by rw [hT.len];omega) (by first|exact .inl gH|exact .inr (List.mem_singleton.2 O)) ⟨nf,ss_,?_⟩);refine go_ ?_;refine G4 O (.inl O) ?_;exact ⟨_,rfl,by first|exact .tail _ (.head _)|exact .head _,GiveIn.gave hT oo_ hV lu hsm⟩
theorem MK (x:Nat) (hx:x<4294967296) :
    Ret prog 197 [U32 x] (.int .i64 ((bl x:Nat):Int)):=by
 refine cJ (N:=19) func197 O O zz_ (fun w0=>?_);refine giI ?_;refine go8 ?_;refine aZ _ O (fun h1=>?_) (fun h1=>?_)
 ·replace h1:=cB_ h1
  refine go2 ?_;refine sQ (bJ (vE O O dd_) (PC x 16)) O (pU ?_);refine aZ _ O (fun h2=>?_) (fun h2=>?_)
  ·replace h2:=cB_ h2
   refine go2 ?_;refine sQ (bJ (vE O O dd_) (PC _ 8)) O (pU ?_);refine sQ (bJ (eY iG Q6 O) (W6 oo_)) O (sQ (OX (n:=256) bl dF_ O O oo_ (by decide +kernel)) O (sQ (bJ (eY Q6 FJ O) (HC oo_)) O (go4 ?_)));refine rt1 ?_;exact HK (c:=24) O dd_ oo_ (by rw [AT (k:=16) oo_,AT (n:=x / 2 ^ 16) (k:=8) oo_];omega)
  replace h2:=cB_ h2
  refine go4 ?_;refine sQ (bJ (eY iG Q6 O) (W6 oo_)) O (sQ (OX (n:=256) bl dF_ O O oo_ (by decide +kernel)) O (sQ (bJ (eY Q6 FJ O) (HC oo_)) O (go4 ?_)));refine rt1 ?_;exact HK (c:=16) O dd_ oo_ (by rw [AT (k:=16) oo_])
 replace h1:=cB_ h1
 refine go6 ?_;refine aZ _ O (fun h2=>?_) (fun h2=>?_)
 ·replace h2:=cB_ h2
  refine go2 ?_;refine sQ (bJ (vE O O dd_) (PC _ 8)) O (pU ?_);refine sQ (bJ (eY iG Q6 O) (W6 oo_)) O (sQ (OX (n:=256) bl dF_ O O oo_ (by decide +kernel)) O (sQ (bJ (eY Q6 FJ O) (HC oo_)) O (go4 ?_)));refine rt1 ?_;exact HK (c:=8) O dd_ oo_ (by rw [AT (k:=8) oo_])
 replace h2:=cB_ h2
 refine go4 ?_;refine sQ (bJ (eY iG Q6 O) (W6 oo_)) O (sQ (OX (n:=256) bl dF_ O O oo_ (by decide +kernel)) O (sQ (bJ (eY Q6 FJ O) (HC oo_)) O (go4 ?_)));refine rt1 ?_;exact HK (c:=0) O dd_ oo_ oo_
theorem a8_ (x:Nat) (hx:x<4294967296) :
  Ret prog 188 [U32 x] (.int .i64 ((32 - bl x:Nat):Int)):=by
 refine cJ (N:=6) func188 O O zz_ (fun w0=>?_);refine giI ?_;refine go5 ?_;refine sQ (bW aS (MK x hx) O) O (go4 ?_);refine rt1 ?_;exact congrArg (Value.int .i64) (fC_ hx)
theorem EZ (xs:List Nat) (hx:xs.length=16) (lx:Lim xs) (n:Nat) (hn:n<32) :
    Ret prog 189 [UV xs,.int .i64 (n:Int)] (.tuple #[UV (toL 16 (val xs*2 ^ n)),U32 (val xs*2 ^ n / 4294967296 ^ 16)]):=by
 refine cJ (N:=30) func189 O O zz_ (fun w0=>?_);refine giI ?_;refine go_ ?_;refine bL O (kK O O (fun b2 hb2=>bL O (fF qD (fun b4 hb4=>go3 ?_))));refine bL O (fF qD (fun b6 hb6=>go9 ?_));refine cH (rg [] 7 20) (fun g nn M=>∃ (k:Nat),(g 7 = .int .u64 ((mc (val xs) (2 ^ n) k:Nat):Int)∧g 9 = .int .i64 (k:Int))∧M=[⟨b6,25,uw (yA k (val xs*2 ^ n) 16)⟩,⟨b4,25,uw (List.replicate 16 0)⟩,⟨b2,25,uw xs⟩]∧nn=16 - k∧(k≤16)) (16) ?start ?round
 case start =>
  refine ⟨_,(List.Sublist.refl _),0,⟨?a7,?a9⟩,?mem0,rfl,Nat.zero_le _⟩
  case mem0=>rw [zA]
  case a7=>rw [c9_];rfl
  case a9=>rfl
 case round =>
  rintro nn g M ⟨k,⟨hg7,hg9⟩,rfl,hmeas,hk⟩;subst nn;refine gS2 hg7 hg9 ?_;clear hg7 hg9;refine go4 ?_;refine aZ _ O (fun hc=>?_) (fun hc=>?_)
  ·replace hc:=cB_ hc
   have hc:k<16:=by omega
   refine pU ?_;refine sQ (fK arT O O oo_ oo_) O (sQ (eA tyT O mm_ (uG oo_)) O ?_);refine sQ (eY iG fZ O) O (go_ ?_);refine sQ (bJ (EK O O oo_) (congrArg (Value.int .u64) (dC_ (eH lx k) oo_))) O (sQ (bJ (OZ O O) (congrArg (Value.int .u64) (hV_ (ed_ (m:=2 ^ n) _ k (Nat.pow_pos dd_)) (eH lx k) hn))) O (go5 ?_));refine sQ (bJ (eY fZ iG O) (oV _)) O (sQ (fK arT O O oo_ oo_) O (bL O (nV tyT O O uu_ (by rw [jY _ hk];exact hc) (.inl gH) ?_)));refine go3 ?_;refine sQ (bJ (vE O O dd_) (congrArg (Value.int .u64) (rG _ 32))) O (go6 ?_);refine ⟨pp_,_,_,(List.Sublist.refl _),oo_,k+1,⟨?s7,?s9⟩,?mem,rfl,oo_⟩
   case mem=>rw [fM xs k lx,bd_,yB _ hc]
   case s7=>exact congrArg (fun m:Nat=>Value.int .u64 (m:Int)) (by rw [fM xs k lx];exact bc_ _ _ _)
   case s9=>exact congrArg (Value.int .i64) (kH oo_)
  replace hc:=cB_ hc
  obtain rfl:k=16:=by omega
  refine go2 ?_;refine sQ (dD tyT O mm_ (by simp [uw,jY])) O ?_;refine go_ ?_;refine sQ (bJ (eY fZ iG O) (oV _)) O (bL O (cC tyT O O uu_ (by simp [uw,jY]) O (jC _) (.inl gH) ?_));refine go3 ?_;refine uX O (.inr O) ⟨_,_,_,_,_,_,rfl,mm_,tyT,_,(eJ (by simp [uw,jY])),(by simp [uw,jY]),rfl⟩ O ?_
  (rw [B2,g6_ hx lx,Nat.mod_eq_of_lt (W7 hx lx hn)];rfl)
theorem KQ (xs:List Nat) (hx:xs.length=16) (lx:Lim xs) (n:Nat) (hn:n<32) :
    Ret prog 193 [UV xs,.int .i64 (n:Int)] (UV (toL 16 (val xs / 2 ^ n))):=by
 refine cJ (N:=33) func193 O O zz_ (fun w0=>?_);refine giI ?_;refine go_ ?_;refine bL O (kK O O (fun b2 hb2=>bL O (fF qD (fun b4 hb4=>go2 ?_))));refine bL O (fF qD (fun b5 hb5=>go6 ?_));refine cH (rg [] 6 26) (fun g nn M=>∃ (k:Nat),(g 8 = .int .i64 (k:Int))∧M=[⟨b5,25,uw (yA k (val xs / 2 ^ n) 16)⟩,⟨b4,25,uw (List.replicate 16 0)⟩,⟨b2,25,uw xs⟩]∧nn=16 - k∧(k≤16)) (16) ?start ?round
 case start =>
  refine ⟨_,(List.Sublist.refl _),0,?a8,?mem0,rfl,Nat.zero_le _⟩
  case mem0=>rw [zA]
  case a8=>rfl
 case round =>
  rintro nn g M ⟨k,hg8,rfl,hmeas,hk⟩;subst nn;refine gS1 hg8 ?_;clear hg8;refine go4 ?_;refine aZ _ O (fun hc=>?_) (fun hc=>?_)
  ·replace hc:=cB_ hc
   have hc:k<16:=by omega
   refine IP ?_;refine sQ (bJ (jJ O O) (congrArg (Value.int .i64) (kH oo_))) O (go2 ?_);refine aZ _ O (fun h13=>?_) (fun h13=>?_)
   ·replace h13:=cB_ h13
    refine go2 ?_;refine sQ (bJ (jJ O O) (congrArg (Value.int .i64) (kH oo_))) O (sQ (fK arT O O oo_ oo_) O (sQ (eA tyT O mm_ (uG oo_)) O ?_));refine sQ (bJ (eY iG fZ O) (congrArg (Value.int .u64) (lE (eH lx _)))) O (go4 ?_);refine sQ (bJ (kL O) (show _=Value.int .u64 ((dig (val xs) (k+1):Nat):Int) from by first|exact congrArg (fun m:Nat=>Value.int .u64 (m:Int)) (fM xs (k+1) lx)|exact congrArg (fun m:Nat=>Value.int .u64 (m:Int)) (QG hx lx oo_).symm)) O ?_;refine sQ (bJ (EK O O dd_) (congrArg (Value.int .u64) (xO (qO _ _)))) O (go_ ?_);refine sQ (fK arT O O oo_ oo_) O (sQ (eA tyT O mm_ (uG oo_)) O ?_);refine sQ (bJ (eY iG fZ O) (congrArg (Value.int .u64) ((lE (eH lx _)).trans (by rw [fM xs k lx])))) O (sQ (bJ (OZ O O) (congrArg (Value.int .u64) (HF (qO _ _) (qO _ _)))) O (go_ ?_));refine sQ (bJ (vE O O oo_) (congrArg (Value.int .u64) (es_ hn))) O (sQ (bJ (eY fZ iG O) (oV _)) O (sQ (fK arT O O oo_ oo_) O (bL O (nV tyT O O uu_ (by rw [jY _ hk];exact hc) (.inl gH) ?_))));refine go5 ?_;refine ⟨pp_,_,_,(List.Sublist.refl _),oo_,k+1,?s8,?mem,rfl,oo_⟩
    case mem=>rw [IC k oo_,yB _ hc]
    case s8=>exact congrArg (Value.int .i64) (kH oo_)
   replace h13:=cB_ h13
   refine go3 ?_;refine sQ (bJ (kL O) (show _=Value.int .u64 ((dig (val xs) (k+1):Nat):Int) from by first|exact congrArg (fun m:Nat=>Value.int .u64 (m:Int)) (fM xs (k+1) lx)|exact congrArg (fun m:Nat=>Value.int .u64 (m:Int)) (QG hx lx oo_).symm)) O ?_;refine sQ (bJ (EK O O dd_) (congrArg (Value.int .u64) (xO (qO _ _)))) O (go_ ?_);refine sQ (fK arT O O oo_ oo_) O (sQ (eA tyT O mm_ (uG oo_)) O ?_);refine sQ (bJ (eY iG fZ O) (congrArg (Value.int .u64) ((lE (eH lx _)).trans (by rw [fM xs k lx])))) O (sQ (bJ (OZ O O) (congrArg (Value.int .u64) (HF (qO _ _) (qO _ _)))) O (go_ ?_));refine sQ (bJ (vE O O oo_) (congrArg (Value.int .u64) (es_ hn))) O (sQ (bJ (eY fZ iG O) (oV _)) O (sQ (fK arT O O oo_ oo_) O (bL O (nV tyT O O uu_ (by rw [jY _ hk];exact hc) (.inl gH) ?_))));refine go5 ?_;refine ⟨pp_,_,_,(List.Sublist.refl _),oo_,k+1,?s8,?mem,rfl,oo_⟩
   case mem=>rw [IC k oo_,yB _ hc]
   case s8=>exact congrArg (Value.int .i64) (kH oo_)
  replace hc:=cB_ hc
  obtain rfl:k=16:=by omega
  refine go2 ?_;refine sQ (dD tyT O mm_ (by simp [uw,jY])) O ?_;refine bL O (cC tyT O O uu_ (by simp [uw,jY]) O (jC _) (.inl gH) ?_);refine go2 ?_;refine rtX O ⟨_,_,_,_,_,_,rfl,mm_,tyT,_,(eJ (by simp [uw,jY])),(by simp [uw,jY]),rfl⟩ ?_
  (rw [B2];rfl)
theorem G7 (xs:List Nat) (hx:xs.length=16) (lx:Lim xs) (d:Nat) (hd:d<4294967296) (h0:0<d) :
    Ret prog 187 [UV xs,U32 d] (.tuple #[UV (toL 16 (val xs / d)),U32 (val xs % d)]):=by
 refine cJ (N:=33) func187 O O zz_ (fun w0=>?_);refine giI ?_;refine go_ ?_;refine bL O (kK O O (fun b2 hb2=>bL O (fF qD (fun b4 hb4=>pU ?_))));refine cH (rg [] 6 24) (fun g nn M=>∃ (k:Nat),(g 6 = .int .u64 ((val xs / 4294967296 ^ k % d:Nat):Int)∧g 7 = .int .i64 ((k:Int) - 1))∧M=[⟨b4,25,uw (xH k (val xs / d))⟩,⟨b2,25,uw xs⟩]∧nn=k+0∧(k≤16)) (16) ?start ?round
 case start =>
  refine ⟨_,(List.Sublist.refl _),16,⟨?a6,?a7⟩,?mem0,rfl,Nat.le_refl _⟩
  case mem0=>rw [XZ]
  case a6=>rw [gP_ hx lx];rfl
  case a7=>rfl
 case round =>
  rintro nn g M ⟨k,⟨hg6,hg7⟩,rfl,hmeas,hk⟩;subst nn;refine gS2 hg6 hg7 ?_;clear hg6 hg7;refine go5 ?_;refine aZ _ O (fun hc=>?_) (fun hc=>?_)
  ·replace hc:=cB_ hc
   obtain ⟨m,rfl⟩:∃ m,k=m+1:=⟨k - 1,by omega⟩;have hr:val xs / 4294967296 ^ (m+1) % d<4294967296:=Nat.lt_trans (Nat.mod_lt _ h0) hd;refine go4 ?_;refine sQ (bJ (kL O) O) O (sQ (bJ (EK O O dd_) (congrArg (Value.int .u64) (xO hr))) O (sQ (bJ (kL O) (congrArg (Value.int .i64) (show (((m+1:Nat):Int) - 1)=(m:Int) by omega))) O (sQ (fK arT O O oo_ oo_) O (sQ (eA tyT O mm_ (uG oo_)) O ?_))));refine sQ (bJ (eY iG fZ O) (congrArg (Value.int .u64) ((lE (eH lx _)).trans (by rw [fM xs m lx])))) O (sQ (bJ (OZ O O) (congrArg (Value.int .u64) (HF hr (qO _ _)))) O (go3 ?_));refine sQ (bJ (kL O) (congrArg (Value.int .i64) (show (((m+1:Nat):Int) - 1)=(m:Int) by omega))) O (go2 ?_);refine sQ (bJ (eY iG fZ O) (congrArg (Value.int .u64) (lE hd))) O (sQ (bJ (tS O O oo_) (congrArg (Value.int .u64) (WE _ _))) O (sQ (bJ (eY fZ iG O) (oV _)) O (sQ (fK arT O O oo_ oo_) O (bL O (nV tyT O O uu_ (by rw [nQ _ oo_];omega) (.inl gH) ?_)))));refine go4 ?_;refine sQ (bJ (eY iG fZ O) (congrArg (Value.int .u64) (lE hd))) O (sQ (bJ (uI O O oo_) (congrArg (Value.int .u64) (CB _ _))) O (go3 ?_));refine sQ (bJ (kL O) (congrArg (Value.int .i64) (show (((m+1:Nat):Int) - 1)=(m:Int) by omega))) O (go3 ?_);refine ⟨pp_,_,_,(List.Sublist.refl _),oo_,m,⟨?s6,?s7⟩,?mem,rfl,oo_⟩
   case mem=>rw [UF m h0,FI oo_]
   case s6=>exact congrArg (fun m:Nat=>Value.int .u64 (m:Int)) (GT m h0).2
   case s7=>exact congrArg (Value.int .i64) (cG (n:=(m:Int) - 1) (by unfold I64;omega))
  replace hc:=cB_ hc
  obtain rfl:k=0:=by omega
  refine go2 ?_;refine sQ (dD tyT O mm_ (by simp [uw,nQ])) O ?_;refine go_ ?_;refine sQ (bJ (eY fZ iG O) (oV _)) O (bL O (cC tyT O O uu_ (by simp [uw,nQ]) (by simp [uw,nQ]) (jC _) (.inl gH) ?_));refine go3 ?_;refine uX O (.inr O) ⟨_,_,_,_,_,_,rfl,mm_,tyT,_,(eJ (by simp [uw,nQ])),(by simp [uw,nQ]),rfl⟩ O ?_
  (rw [MI,Nat.pow_zero,Nat.div_one,Nat.mod_eq_of_lt (Nat.lt_trans (Nat.mod_lt _ h0) hd)];rfl)
theorem sG (xs ys:List Nat) (hx:xs.length=16) (hy:ys.length=16) (lx:Lim xs) (ly:Lim ys) (h0:0<val ys) :
    Ret prog 180 [UV xs,UV ys] (.tuple #[UV (toL 16 (val xs / val ys)),UV (toL 16 (val xs % val ys))]):=by
 refine cJ (N:=94) func180 O O zz_ (fun w0=>?_);refine giI ?_;refine go_ ?_;refine bL O (kK O O (fun b2 hb2=>bL O (kK O O (fun b3 hb3=>bL O (fF qD (fun b4 hb4=>bL O (fF qD (fun b5 hb5=>go2 ?_))))))));refine rP (sk (sk (sk (sk s0)))) 6 [] [] (pQ O (dD tyT O mm_ (by simp [uw,hy])) ?_);refine pQ O (bW aS (nY ys hy) O) (pQ O (dD tyT O mm_ (by simp [uw,hx])) ?_);refine pQ O (bW aS (nY xs hx) O) (go5 ?_);refine sQ (dD tyT O mm_ (by simp [uw,hx])) O ?_;refine sQ (dD tyT O mm_ (by simp [uw,hy])) O ?_;refine sQ (bW aS (oG xs ys hx hy lx ly) O) O (go2 ?_);refine aZ _ O (fun ho=>?_) (fun ho=>?_)
 ·replace ho:=cB_ ho
  have hlt:=Z5 ho;refine go_ ?_;refine gdr (sd (sd (sk (sk s0)))) [0,6,9,13] [2,3] mix (by kernel_rfl) (pQ O (oY qD arT O (.nil _)) (HW O O (dD tyT O mm_ (by simp [uw,hx])) ?_));refine gA O O (cC tyT O O uu_ (by simp [uw,List.length_replicate]) (by simp [uw]) (jC _) (.inl gH) ⟨nf,ss_,?_⟩);refine gA O O (cC tyT O O uu_ (by simp [uw,hx]) (by simp [uw]) (jC _) (.inl gH) ⟨nf,ss_,?_⟩);refine go2 ?_;refine uX O (.inr O) ⟨_,_,_,_,_,_,rfl,mm_,tyT,_,(eJ (by simp [uw])),(by simp [uw]),rfl⟩ ⟨_,_,_,_,_,_,rfl,mm_,tyT,_,(eJ (by simp [uw,hx])),(by simp [uw,hx]),rfl⟩ ?_;exact bC_ hx lx hlt
 replace ho:=cB_ ho
 have hle:=U4 (Int.not_lt.1 ho);have hsp:=gh_ h0;have hsz:=vN ys;rw [hy] at hsz;refine go6 ?_;refine aZ _ O (fun h29=>?_) (fun h29=>?_)
 ·replace h29:=cB_ h29
  have hsz1:szL ys=1:=by omega
  refine go_ ?_;refine sQ (dD tyT O mm_ (by simp [uw,hx])) O ?_;refine sQ (fK arT O O dd_ dd_) O (sQ (eA tyT O mm_ (uG (k:=0) oo_)) O ?_);refine sQ (bW aS (G7 xs hx lx _ (eH ly 0) (V7 hsz1)) O) O (go3 ?_);refine bL O (fF qD (fun b8 hb8=>bL O (cC tyT O O uu_ (by simp [uw,dU]) (by simp [uw]) (jC _) (.inl gH) ?_)));refine go3 ?_;refine sQ (dD tyT O mm_ (by simp [uw,dU])) O ?_;refine go_ ?_;refine sQ (oY qD arT O (gW_ _)) O (bL O (cC tyT O O uu_ (by simp [uw,dU]) (by simp [uw]) (jC _) (.inl gH) ?_));refine bL O (cC tyT O O uu_ (by simp [uw,List.length_replicate]) (by simp [uw]) (jC _) (.inl gH) ?_);refine go2 ?_;refine uX O (.inr O) ⟨_,_,_,_,_,_,rfl,mm_,tyT,_,(eJ (by simp [uw,dU])),(by simp [uw,dU]),rfl⟩ ⟨_,_,_,_,_,_,rfl,mm_,tyT,_,(eJ (by simp [uw])),(by simp [uw]),rfl⟩ ?_;exact dy_ ly hsz1
 replace h29:=cB_ h29
 have h2:2≤szL ys:=by omega
 have D:DV xs ys (szL ys) (32 - bl (ys.getD (szL ys - 1) 0)):=⟨hx,hy,lx,ly,rfl,h2,rfl,hle⟩;refine go3 ?_;refine sQ (bJ (oO O O) (congrArg (Value.int .i64) (uC (b:=1) O oo_ oo_))) O (sQ (fK arT O O oo_ oo_) O (sQ (eA tyT O mm_ (uG oo_)) O ?_));refine sQ (bW aS (a8_ _ (eH ly _)) O) O (go3 ?_);refine sQ (dD tyT O mm_ (by simp [uw,hy])) O ?_;refine go_ ?_;refine sQ (bW aS (EZ ys hy ly _ D.s32) O) O (go3 ?_);refine bL O (fF qD (fun b11 hb11=>bL O (cC tyT O O uu_ (by simp [uw,dU]) (by simp [uw]) (jC _) (.inl gH) ?_)));refine go3 ?_;refine sQ (dD tyT O mm_ (by simp [uw,hx])) O ?_;refine go_ ?_;refine sQ (bW aS (EZ xs hx lx _ D.s32) O) O (go3 ?_);refine bL O (fF qD (fun b13 hb13=>bL O (cC tyT O O uu_ (by simp [uw,dU]) (by simp [uw]) (jC _) (.inl gH) ?_)));refine go3 ?_;refine bL O (fF h1_ (fun b15 hb15=>go2 ?_));refine gdr (sd (sk (sk (sk (sk (sk (sk s0))))))) [0,4,9] [2] mix (by kernel_rfl) (pQ O (JI arT O O O dd_ dd_ dd_ dd_) (pQ O (JI arT O O O dd_ dd_ dd_ dd_) ?_));refine gA O O (fY_ gd_ O O mm_ uu_ (fun v hv=>jC _ v (List.mem_of_mem_drop (List.mem_of_mem_take hv))) (by simp [uw,dU]) (by simp [uw]) (cM_ (dU _ _)) (.inl gH) ⟨nf,ss_,?_⟩);refine go3 ?_;refine sQ (fK arT O O dd_ dd_) O (bL O (nV (k:=16) tyT O O uu_ (by simp [dU]) (.inl gH) ?_));refine go5 ?_;refine sQ (bJ (oO O O) (congrArg (Value.int .i64) (WS D.nm (by have:=D.m16;omega)))) O (go3 ?_);refine cH (rg [16,17] 65 23) (fun g nn M=>∃ (k:Nat) (l:List Nat),(g 16 = .int .i64 ((k:Int) - 1))∧M=[⟨b15,181,uw l⟩,⟨b13,25,uw (toL 16 (val xs*2 ^ (32 - bl (ys.getD (szL ys - 1) 0))))⟩,⟨b11,25,uw (toL 16 (val ys*2 ^ (32 - bl (ys.getD (szL ys - 1) 0))))⟩,⟨b5,25,uw (List.replicate 16 0)⟩,⟨b4,25,uw (xH k (val xs / val ys))⟩,⟨b3,25,uw ys⟩,⟨b2,25,uw xs⟩]∧nn=k+0∧(k+szL ys≤17∧QI xs ys (32 - bl (ys.getD (szL ys - 1) 0)) k l)) (szL xs - szL ys+1) ?start ?round
 case start =>
  refine ⟨_,(List.Sublist.refl _),szL xs - szL ys+1,((toL 16 (val xs*2 ^ (32 - bl (ys.getD (szL ys - 1) 0)))++[0]).set 16 (val xs*2 ^ (32 - bl (ys.getD (szL ys - 1) 0)) / 4294967296 ^ 16)),?a16,?mem0,rfl,⟨by have:=D.nm;have:=D.m16;omega,QI.start D⟩⟩
  case mem0=>rw [← DV.qstart D]
  case a16=>exact congrArg (Value.int .i64) oo_
 case round =>
  rintro nn g M ⟨k,l,hg16,rfl,hmeas,⟨hkn,hq⟩⟩;subst nn;refine gS1 hg16 ?_;clear hg16;refine go5 ?_;refine aZ _ O (fun hc=>?_) (fun hc=>?_)
  ·replace hc:=cB_ hc
   obtain ⟨m,rfl⟩:∃ m,k=m+1:=⟨k - 1,by omega⟩;refine go4 ?_;refine sQ (dD tyT O mm_ (by simp [uw,dU])) O ?_;refine go_ ?_;refine sQ (bJ (kL O) (congrArg (Value.int .i64) (show (((m+1:Nat):Int) - 1)=(m:Int) by omega))) O (bL O (dA_ aS O (fun w hw=>G6 l _ (szL ys) m (hq.qh D oo_) b15 181 w (hw.mem _ m0)) (fun d hd=>go4 ?_)));refine sQ (dD tyT O mm_ (by simp [uw,dU])) O ?_;refine go_ ?_;refine sQ (bJ (kL O) (congrArg (Value.int .i64) (show (((m+1:Nat):Int) - 1)=(m:Int) by omega))) O (go_ ?_);refine bL O (WF aS O (fun w hw=>KT l _ (szL ys) m d hq.len hq.lim (dU _ _) (nB _ _) (by rw [D.v16];exact D.vlt) oo_ (hq.small D) hd.1 b15 181 w (hw.mem _ m0)) (fun x=>uu_) (.inl gH) (fun x ht=>?_));refine go_ ?_;refine aZ _ O (fun h77=>?_) (fun h77=>?_)
   ·replace h77:=cB_ h77
    refine go2 ?_;refine sQ (bJ (oO O O) (congrArg (Value.int .u64) (KA O (ht.pos oo_) (by have:=hd.1;omega)))) O (go3 ?_);refine sQ (dD tyT O mm_ (by simp [uw,dU])) O ?_;refine go_ ?_;refine sQ (bJ (kL O) (congrArg (Value.int .i64) (show (((m+1:Nat):Int) - 1)=(m:Int) by omega))) O (bL O (WF aS O (fun w hw=>KR x.1 _ (szL ys) m ht.len ht.lim (dU _ _) (nB _ _) (by rw [D.v16];exact D.vlt) oo_ ht.small b15 181 w (hw.mem _ m0)) (fun y=>uu_) (.inl gH) (fun y hgv=>?_)));refine go_ ?_;obtain ⟨hz,hdz,_⟩:=hq.took1 D hd ht oo_ hgv;refine go_ ?_;refine sQ (bJ (kL O) (congrArg (Value.int .i64) (show (((m+1:Nat):Int) - 1)=(m:Int) by omega))) O (go_ ?_);refine sQ (bJ (eY fZ iG O) (oV _)) O (sQ (fK arT O O oo_ oo_) O (bL O (nV tyT O O uu_ (by rw [nQ _ oo_];omega) (.inl gH) ?_)));refine go2 ?_;refine sQ (bJ (kL O) (congrArg (Value.int .i64) (show (((m+1:Nat):Int) - 1)=(m:Int) by omega))) O (go3 ?_);refine ⟨pp_,_,_,(List.Sublist.refl _),oo_,m,_,?s16,?mem,rfl,⟨by omega,hz⟩⟩
    case mem=>rw [hdz,FI oo_]
    case s16=>exact congrArg (Value.int .i64) (cG (n:=(m:Int) - 1) (by unfold I64;omega))
   replace h77:=cB_ h77
   obtain ⟨hz,hdz⟩:=hq.took0 D hd ht oo_;refine go2 ?_;refine sQ (bJ (kL O) (congrArg (Value.int .i64) (show (((m+1:Nat):Int) - 1)=(m:Int) by omega))) O (go_ ?_);refine sQ (bJ (eY fZ iG O) (oV _)) O (sQ (fK arT O O oo_ oo_) O (bL O (nV tyT O O uu_ (by rw [nQ _ oo_];omega) (.inl gH) ?_)));refine go2 ?_;refine sQ (bJ (kL O) (congrArg (Value.int .i64) (show (((m+1:Nat):Int) - 1)=(m:Int) by omega))) O (go3 ?_);refine ⟨pp_,_,_,(List.Sublist.refl _),oo_,m,_,?s16,?mem,rfl,⟨by omega,hz⟩⟩
   case mem=>rw [hdz,FI oo_]
   case s16=>exact congrArg (Value.int .i64) (cG (n:=(m:Int) - 1) (by unfold I64;omega))
  replace hc:=cB_ hc
  obtain rfl:k=0:=by omega
  refine go2 ?_;refine gdr (sk (sk (sk (sd (sd (sk (sk s0))))))) [0,4,8,12,16,20,25,29] [6,7] mix (by kernel_rfl) (pQ O (dD tyT O mm_ (by rw [iF,nQ _ oo_])) ?_);refine pQ O (JI arT O O O dd_ dd_ dd_ dd_) (pQ O (by_ arT O dd_) (pQ O (i7 (vs:=uw (l.take 16)) tyT O mm_ dM_ (by simp [uw,hq.len])) ?_));refine go_ ?_;refine pQ O (bW aS (KQ (l.take 16) (by simp [hq.len]) (hq.lim.take 16) _ D.s32) O) ?_;refine gA O O (cC tyT O O uu_ (by rw [iF,nQ _ oo_]) (by rw [iF,nQ _ oo_]) (jC _) (.inl gH) ⟨nf,ss_,?_⟩);refine gA O O (cC tyT O O uu_ (by simp [uw,dU]) (by simp [uw]) (jC _) (.inl gH) ⟨nf,ss_,?_⟩);refine go2 ?_;refine uX O (.inr O) ⟨_,_,_,_,_,_,rfl,mm_,tyT,_,(eJ (by rw [iF,nQ _ oo_])),(by rw [iF,nQ _ oo_]),rfl⟩ ⟨_,_,_,_,_,_,rfl,mm_,tyT,_,(eJ (by simp [uw,dU])),(by simp [uw,dU]),rfl⟩ ?_
  (rw [MI,hq.fin D];rfl)
theorem KN (a:R) (ha:a.Ok) :
   Ret prog 196 [RV a] (.int .i64 (a.dec.bits:Int)):=by
 refine cJ (N:=25) func196 O O zz_ (fun w0=>?_);refine giI ?_;refine go_ ?_;refine bL O (kK O O (fun b1 hb1=>go3 ?_));refine sQ (cW fdT dd_ O) O (sQ (i7 (vs:=uw a.w) tyT O mm_ (lP ha.len) ((iF _).trans ha.len)) O ?_);refine sQ (bW aS (nY a.w ha.len) O) O (go4 ?_);refine sQ (dD tyT O mm_ (dO ha)) O ?_;refine bL O (j8 l4 lO nW O dd_ O (zD ha) (fun b8 hb8=>sQ (dZ aS O (fun w hw=>jI [a] (ok1 ha) b8 27 w (hw.mem _ m0) zz_)) O ?_));refine go2 ?_
 cases hg:[a].all R.good
 ·refine go9 ?_;refine rt1 ?_;exact congrArg (fun n:Nat=>Value.int .i64 (n:Int)) (ZZ (by simpa using hg))
 refine go4 ?_;refine aZ _ O (fun hz=>?_) (fun hz=>?_)
 ·replace hz:=cB_ hz
  refine go4 ?_;refine rt1 ?_;exact congrArg (fun n:Nat=>Value.int .i64 (n:Int)) (XM ha (by simpa using hg) oo_)
 replace hz:=cB_ hz
 refine go2 ?_
 have hs1:1≤szL a.w:=by omega
 have hs16:szL a.w≤16:=by have:=vN a.w;rw [ha.len] at this;exact this
 refine go_ ?_;refine sQ (bJ (oO O O) (congrArg (Value.int .i64) (uC (b:=1) O oo_ oo_))) O (sQ (bJ (WD O O) (congrArg (Value.int .i64) (g9_ O oo_))) O (go_ ?_));refine sQ (bJ (oO O O) (congrArg (Value.int .i64) (uC (b:=1) O oo_ oo_))) O (sQ (cW fdT dd_ O) O (sQ (fK arT O O oo_ oo_) O (sQ (eA tyT O mm_ (n4 (r:=a) (k:=szL a.w - 1) (by rw [ha.len];omega))) O ?_)));refine sQ (bW aS (MK _ (eH ha.lim _)) O) O (sQ (bJ (jJ O O) (congrArg (Value.int .i64) (oK (by have:=wK (k:=32) (eH ha.lim (szL a.w - 1));omega)))) O (go3 ?_));refine rt1 ?_;exact congrArg (fun n:Nat=>Value.int .i64 (n:Int)) (Z1 ha (by simpa using hg) hs1)
theorem AA (a:R) (ha:a.Ok) :
    Ret prog 186 [RV a] (.tuple #[.int .i64 a.dec.small.1,.bool a.dec.small.2]):=by
 refine cJ (N:=44) func186 O O zz_ (fun w0=>?_);refine giI ?_;refine go_ ?_;refine bL O (kK O O (fun b1 hb1=>go5 ?_));refine sQ (dD tyT O mm_ (dO ha)) O ?_;refine bL O (j8 l4 lO nW O dd_ O (zD ha) (fun b6 hb6=>sQ (dZ aS O (fun w hw=>jI [a] (ok1 ha) b6 27 w (hw.mem _ m0) zz_)) O ?_));refine go2 ?_
 cases hg:[a].all R.good
 ·refine vT ?_;refine rt2 ?_;exact YT (by simpa using hg)
 refine sQ (dD tyT O mm_ (dO ha)) O ?_;refine sQ (bW aS (KN a ha) O) O (go3 ?_);refine aZ _ O (fun hb=>?_) (fun hb=>?_)
 ·replace hb:=cB_ hb
  refine go5 ?_;refine rt2 ?_;exact UG ha (by simpa using hg) hb
 replace hb:=cB_ hb
 have h64:=e3_ ha (by simpa using hg) hb;refine go2 ?_;refine sQ (cW fdT dd_ O) O (sQ (fK arT O O dd_ dd_) O (sQ (eA tyT O mm_ (n4 (r:=a) (k:=1) (by rw [ha.len];omega))) O ?_));refine sQ (bJ (eY iG fZ O) (w5 (eH ha.lim _))) O (sQ (bJ (EK O O dd_) (congrArg (Value.int .u64) (xO (eH ha.lim _)))) O (sQ (cW fdT dd_ O) O (sQ (fK arT O O dd_ dd_) O (sQ (eA tyT O mm_ (n4 (r:=a) (k:=0) (by rw [ha.len];omega))) O ?_))));refine sQ (bJ (eY iG fZ O) (w5 (eH ha.lim _))) O (sQ (bJ (OZ O O) (congrArg (Value.int .u64) ((RJ (eH ha.lim _) (eH ha.lim _)).trans (congrArg (fun m:Nat=>(m:Int)) (DJ ha h64))))) O (go5 ?_));refine sQ (cW fdT dd_ O) O (sQ (eA tyT O mm_ O) O ?_);refine go_ ?_
 cases hn:a.neg
 ·refine go7 ?_;refine sQ (cW fdT dd_ O) O (sQ (eA tyT O mm_ O) O ?_);refine go_ ?_;rw [hn];refine go6 ?_;refine aZ _ O (fun hlt=>?_) (fun hlt=>?_)
  ·replace hlt:=cB_ hlt
   refine go2 ?_;refine sQ (bJ (eY fZ FJ O) (congrArg (Value.int .i64) (YV oo_))) O (go4 ?_);refine rt2 ?_;exact SF ha (by simpa using hg) (by rw [hn];rfl) (by rw [hn,sM];omega)
  replace hlt:=cB_ hlt
  refine go6 ?_;refine rt2 ?_;exact F8 ha (by simpa using hg) (by rw [hn,sM];omega)
 refine go5 ?_;refine aZ _ O (fun hle=>?_) (fun hle=>?_)
 ·replace hle:=cB_ hle
  refine go3 ?_;refine sQ (bJ (eY fZ FJ O) (congrArg (Value.int .i64) (YU oo_))) O (go4 ?_);refine rt2 ?_;exact SF ha (by simpa using hg) (by rw [hn];rfl) (by rw [hn,tW];omega)
 replace hle:=cB_ hle
 refine go_ ?_;refine sQ (cW fdT dd_ O) O (sQ (eA tyT O mm_ O) O ?_);refine go_ ?_;rw [hn];refine IP ?_;refine rt2 ?_;exact F8 ha (by simpa using hg) (by rw [hn,tW];omega)
theorem xQ (a b:R) (ha:a.Ok) (hb:b.Ok) :
    Ret prog 172 [RV a,RV b] (.tuple #[RV (Z.quo a.dec b.dec).enc,RV (Z.rem a.dec b.dec).enc]):=by
 refine cJ (N:=108) func172 O O zz_ (fun w0=>?_);refine giI ?_;refine go_ ?_;refine bL O (kK O O (fun b2 hb2=>bL O (kK O O (fun b3 hb3=>bL O (fF lO (fun b4 hb4=>bL O (fF lO (fun b5 hb5=>go3 ?_))))))));refine sQ (dD tyT O mm_ (dO ha)) O ?_;refine sQ (dD tyT O mm_ (dO hb)) O ?_;refine bL O (j8 l4 lO nW O dd_ O (N5 ha hb) (fun b17 hb17=>sQ (dZ aS O (fun w hw=>jI [a,b] (ok2 ha hb) b17 27 w (hw.mem _ m0) zz_)) O ?_));refine go2 ?_
 cases hg:[a,b].all R.good
 ·refine go7 ?_;refine sQ (bW aS jL O) O (sQ (bW aS jL O) O (bL O (cC tyT O O uu_ (aV _) O (bS _) (.inl gH) ?_)));refine bL O (cC tyT O O uu_ (aV _) O (bS _) (.inl gH) ?_);refine go2 ?_;refine uX O (.inr O) ⟨_,_,_,_,_,_,rfl,mm_,tyT,_,(eJ (aV _)),(aV _),rfl⟩ ⟨_,_,_,_,_,_,rfl,mm_,tyT,_,(eJ (aV _)),(aV _),rfl⟩ ?_;exact dw_ (EE hg)
 have hg:=all2.1 hg;refine sQ (dD tyT O mm_ (dO hb)) O ?_;refine sQ (bW aS (iM b hb) O) O (go3 ?_);refine aZ _ O (fun hs0=>?_) (fun hs0=>?_)
 ·replace hs0:=cB_ hs0
  refine go_ ?_;refine sQ (bW aS jL O) O (sQ (bW aS jL O) O (bL O (cC tyT O O uu_ (aV _) O (bS _) (.inl gH) ?_)));refine bL O (cC tyT O O uu_ (aV _) O (bS _) (.inl gH) ?_);refine go2 ?_;refine uX O (.inr O) ⟨_,_,_,_,_,_,rfl,mm_,tyT,_,(eJ (aV _)),(aV _),rfl⟩ ⟨_,_,_,_,_,_,rfl,mm_,tyT,_,(eJ (aV _)),(aV _),rfl⟩ ?_;exact bE_ ha hb hg.1 hg.2 hs0
 replace hs0:=cB_ hs0
 have hs0:b.dec.sign≠0:=hs0;have hp:=G5 hb hg.2 hs0;refine go_ ?_;refine sF (rg [6,7,8,9,10,11] 27 44) (fun g M=>(True)∧M=[⟨b5,27,zR⟩,⟨b4,27,zR⟩,⟨b3,27,b.cells⟩,⟨b2,27,a.cells⟩]∧(True)) (fun K6 J6=>?_) ?_
 ·refine go_ ?_;refine sQ (dD tyT O mm_ (dO ha)) O ?_;refine sQ (bW aS (AA a ha) O) O (go9 ?_)
  cases hsa:a.dec.small.2
  ·refine go6 ?_;refine J6 _ _ pp_ ⟨_,(List.Sublist.cons _ (List.Sublist.refl _)),trivial,?mem,trivial⟩
   case mem=>rfl
  refine go4 ?_;refine aZ _ O (fun hma=>?_) (fun hma=>?_)
  ·replace hma:=cB_ hma
   have ea:=JU hsa;refine go_ ?_;refine sQ (dD tyT O mm_ (dO hb)) O ?_;refine sQ (bW aS (AA b hb) O) O (go9 ?_)
   cases hsb:b.dec.small.2
   ·refine go6 ?_;refine J6 _ _ pp_ ⟨_,(List.Sublist.cons _ (List.Sublist.refl _)),trivial,?mem,trivial⟩
    case mem=>rfl
   refine go4 ?_;refine aZ _ O (fun hmb=>?_) (fun hmb=>?_)
   ·replace hmb:=cB_ hmb
    have eb:=JU hsb;have hy0:=PD eb.1 hs0;have hq64:I64 (a.dec.small.1.tdiv b.dec.small.1):=UA ea.2 hma;have hr64:=f2_ (x:=a.dec.small.1) hy0 eb.2;refine go_ ?_;refine rP (sk (sk (sk (sk (sk s0))))) 8 [] [] (go2 ?_);refine pQ O (bJ (tS O O hy0) (congrArg (Value.int .i64) (cG (UA ea.2 hma)))) (go2 ?_);refine pQ O (uI O O hy0) (go8 ?_)
    cases hr0:(a.dec.small.1.tmod b.dec.small.1 != 0)
    ·refine vT ?_;refine sQ (bW aS (iE _ (by first|exact hI1|exact hq64)) O) O ?_;refine go_ ?_;refine sQ (bW aS (iE _ (by first|exact hI2|exact hr64)) O) O ?_;refine bL O (cC tyT O O uu_ (aV _) O (bS _) (.inl gH) ?_);refine bL O (cC tyT O O uu_ (aV _) O (bS _) (.inl gH) ?_);refine go2 ?_;refine uX O (.inr O) ⟨_,_,_,_,_,_,rfl,mm_,tyT,_,(eJ (aV _)),(aV _),rfl⟩ ⟨_,_,_,_,_,_,rfl,mm_,tyT,_,(eJ (aV _)),(aV _),rfl⟩ ?_;exact F7 ea.1 eb.1 hs0 (D6 hy0 (.inl (by simpa using hr0)))
    refine go4 ?_;refine sQ (tR AU O O) O (go2 ?_);refine aZ _ O (fun hsg=>?_) (fun hsg=>?_)
    ·replace hsg:=cB_ hsg
     have hI1:I64 (a.dec.small.1.tdiv b.dec.small.1 - 1):=bB_ ea.2 hma;have hI2:=f3_ hy0 eb.2 (bne_iff_ne.2 hsg);refine go2 ?_;refine sQ (bJ (oO O O) (congrArg (Value.int .i64) (cG hI1))) O (go2 ?_);refine sQ (bJ (jJ O O) (congrArg (Value.int .i64) (cG hI2))) O (go5 ?_);refine sQ (bW aS (iE _ (by first|exact hI1|exact hq64)) O) O ?_;refine go_ ?_;refine sQ (bW aS (iE _ (by first|exact hI2|exact hr64)) O) O ?_;refine bL O (cC tyT O O uu_ (aV _) O (bS _) (.inl gH) ?_);refine bL O (cC tyT O O uu_ (aV _) O (bS _) (.inl gH) ?_);refine go2 ?_;refine uX O (.inr O) ⟨_,_,_,_,_,_,rfl,mm_,tyT,_,(eJ (aV _)),(aV _),rfl⟩ ⟨_,_,_,_,_,_,rfl,mm_,tyT,_,(eJ (aV _)),(aV _),rfl⟩ ?_;exact F7 ea.1 eb.1 hs0 (TJ hy0 (by simpa using hr0) (bne_iff_ne.2 hsg))
    replace hsg:=cB_ hsg
    refine go3 ?_;refine sQ (bW aS (iE _ (by first|exact hI1|exact hq64)) O) O ?_;refine go_ ?_;refine sQ (bW aS (iE _ (by first|exact hI2|exact hr64)) O) O ?_;refine bL O (cC tyT O O uu_ (aV _) O (bS _) (.inl gH) ?_);refine bL O (cC tyT O O uu_ (aV _) O (bS _) (.inl gH) ?_);refine go2 ?_;refine uX O (.inr O) ⟨_,_,_,_,_,_,rfl,mm_,tyT,_,(eJ (aV _)),(aV _),rfl⟩ ⟨_,_,_,_,_,_,rfl,mm_,tyT,_,(eJ (aV _)),(aV _),rfl⟩ ?_;exact F7 ea.1 eb.1 hs0 (D6 hy0 (.inr (by simpa using hsg)))
   replace hmb:=cB_ hmb
   refine go_ ?_;refine J6 _ _ pp_ ⟨_,(List.Sublist.cons _ (List.Sublist.refl _)),trivial,?mem,trivial⟩
   case mem=>rfl
  replace hma:=cB_ hma
  refine go_ ?_;refine J6 _ _ pp_ ⟨_,(List.Sublist.cons _ (List.Sublist.refl _)),trivial,?mem,trivial⟩
  case mem=>rfl
 rintro g M ⟨-,rfl,-⟩;refine gS0 ?_;refine go_ ?_;refine sQ (cW fdT dd_ O) O (sQ (i7 (vs:=uw a.w) tyT O mm_ (lP ha.len) ((iF _).trans ha.len)) O ?_);refine sQ (cW fdT dd_ O) O (sQ (i7 (vs:=uw b.w) tyT O mm_ (lP hb.len) ((iF _).trans hb.len)) O ?_);refine sQ (bW aS (sG a.w b.w ha.len hb.len ha.lim hb.lim hp) O) O (go3 ?_);refine bL O (fF qD (fun b12 hb12=>bL O (fF qD (fun b13 hb13=>bL O (cC tyT O O uu_ (by simp [uw,dU]) (by simp [uw]) (jC _) (.inl gH) ?_)))));refine bL O (cC tyT O O uu_ (by simp [uw,dU]) (by simp [uw]) (jC _) (.inl gH) ?_);refine go2 ?_;refine sQ (cW fdT dd_ O) O (sQ (eA tyT O mm_ O) O ?_);refine sQ (cW fdT dd_ O) O (sQ (eA tyT O mm_ O) O ?_);refine sQ (tR AU O O) O (sQ (dD tyT O mm_ (by simp [uw,dU])) O ?_);refine sQ (bJ (bW aS (gF (a.neg != b.neg) _ (dU _ _) (nB _ _)) O) (congrArg RV (pA _ (bD_ ha)))) O (bL O (fF lO (fun b14 hb14=>bL O (cC tyT O O uu_ (aV _) O (bS _) (.inl gH) ?_))));refine go_ ?_;refine sF (rg [] 86 17) (fun g M=>∃ (z:Z) (l:List Nat),(True)∧M=[⟨b14,27,z.enc.cells⟩,⟨b13,25,uw l⟩,⟨b12,25,uw (toL 16 (val a.w / val b.w))⟩,⟨b5,27,zR⟩,⟨b4,27,zR⟩,⟨b3,27,b.cells⟩,⟨b2,27,a.cells⟩]∧(l.length=16∧Lim l∧z=Z.quo a.dec b.dec∧R.mk false (b.neg && !(val l==0)) l=(Z.rem a.dec b.dec).enc)) (fun K19 J19=>?_) ?_
 ·refine go_ ?_;refine sQ (dD tyT O mm_ (by simp [uw,dU])) O ?_;refine sQ (oY qD arT O (.nil _)) O ?_;refine sQ (FU (r:=(val a.w % val b.w==0)) O O (n5 8 dd_ ID I2 (nX (dU _ _)) (nX zz_) (bK_ ha))) O ?_;refine go_ ?_
  cases hr1:(val a.w % val b.w==0)
  ·refine sQ (cW fdT dd_ O) O (sQ (eA tyT O mm_ O) O ?_);refine sQ (cW fdT dd_ O) O (sQ (eA tyT O mm_ O) O ?_);refine sQ (tR AU O O) O (go2 ?_);refine aZ _ O (fun hne=>?_) (fun hne=>?_)
   ·replace hne:=cB_ hne
    refine gdr (sd (sd (sk (sk (sk (sk (sk s0))))))) [0,4,8,12,16,20,24,29,33] [7,8] mix (by kernel_rfl) (pQ O (dD tyT O mm_ (aV _)) ?_);refine pQ O (bW aS (iE 1 (by unfold I64;decide)) O) (pQ O (bW aS (r8 (Z.of (sgn (a.neg != b.neg) (val a.w / val b.w))).enc (Z.of 1).enc (Z.enc_ok _) (Z.enc_ok _)) O) (pQ O (cW fdT dd_ O) (pQ O (i7 (vs:=uw b.w) tyT O mm_ (lP hb.len) ((iF _).trans hb.len)) ?_)));refine pQ O (dD tyT O mm_ (by simp [uw,dU])) ?_;refine pQ O (bW aS (vP b.w _ hb.len (dU _ _) hb.lim (nB _ _) (f5_ ha hp)) O) ?_;refine gA O O (cC tyT O O uu_ (aV _) (aV _) (bS _) (.inl gH) ⟨nf,ss_,?_⟩);refine gA O O (cC tyT O O uu_ (by simp [uw,dU]) (by simp [uw,dU]) (jC _) (.inl gH) ⟨nf,ss_,?_⟩);refine go_ ?_;refine J19 _ _ pp_ ⟨_,(List.Sublist.refl _),_,_,trivial,?mem,cQ_ ha hb hg.1 hg.2 hp (by simpa using hr1) hne⟩
    case mem=>rfl
   replace hne:=cB_ hne
   refine go_ ?_;refine J19 _ _ pp_ ⟨_,(List.Sublist.refl _),_,_,trivial,?mem,QK ha hb hg.1 hg.2 hp (.inr (by simpa using hne))⟩
   case mem=>rfl
  refine go9 ?_;refine J19 _ _ pp_ ⟨_,(List.Sublist.refl _),_,_,trivial,?mem,QK ha hb hg.1 hg.2 hp (.inl (by simpa using hr1))⟩
  case mem=>rfl
 rintro g M ⟨z,l,-,rfl,⟨hl16,hlim,hzq,hzr⟩⟩;refine gS0 ?_;refine go_ ?_;refine gdr (sk (sk (sk (sd (sd (sk (sk s0))))))) [0,4,8,12,16,21,25] [5,6] mix (by kernel_rfl) (pQ O (dD tyT O mm_ (aV _)) ?_);refine pQ O (cW fdT dd_ O) (pQ O (eA tyT O mm_ O) ?_);refine pQ O (dD tyT O mm_ (by rw [iF,hl16])) ?_;refine pQ O (bW aS (gF b.neg l hl16 hlim) O) ?_;refine gA O O (cC tyT O O uu_ (aV _) O (bS _) (.inl gH) ⟨nf,ss_,?_⟩);refine gA O O (cC tyT O O uu_ (lQ hl16) O (bS _) (.inl gH) ⟨nf,ss_,?_⟩);refine go2 ?_;refine uX O (.inr O) ⟨_,_,_,_,_,_,rfl,mm_,tyT,_,(eJ (aV _)),(aV _),rfl⟩ ⟨_,_,_,_,_,_,rfl,mm_,tyT,_,(eJ (lQ hl16)),(lQ hl16),rfl⟩ ?_
 (subst hzq;exact congrArg (fun r:R=>Value.tuple #[RV (Z.quo a.dec b.dec).enc,RV r]) hzr)
theorem kI (a b:R) (ha:a.Ok) (hb:b.Ok) :
  Ret prog 120 [RV a,RV b] (RV (Z.quo a.dec b.dec).enc):=by
 refine cJ (N:=14) func120 O O zz_ (fun w0=>?_);refine giI ?_;refine go_ ?_;refine bL O (kK O O (fun b2 hb2=>bL O (kK O O (fun b3 hb3=>bL O (fF lO (fun b4 hb4=>go2 ?_))))));refine sQ (dD tyT O mm_ (dO ha)) O ?_;refine sQ (dD tyT O mm_ (dO hb)) O ?_;refine sQ (bW aS (xQ a b ha hb) O) O (go3 ?_);refine bL O (fF lO (fun b5 hb5=>bL O (fF lO (fun b6 hb6=>bL O (cC tyT O O uu_ (aV _) O (bS _) (.inl gH) ?_)))));refine bL O (cC tyT O O uu_ (aV _) O (bS _) (.inl gH) ?_);refine go2 ?_;refine sQ (dD tyT O mm_ (aV _)) O ?_;refine bL O (cC tyT O O uu_ (aV _) O (bS _) (.inl gH) ?_);refine go2 ?_;refine rtX O ⟨_,_,_,_,_,_,rfl,mm_,tyT,_,(eJ (aV _)),(aV _),rfl⟩ ?_;exact rfl
theorem CS (a b:R) (ha:a.Ok) (hb:b.Ok) :
  Ret prog 143 [RV a,RV b] (RV (Z.rem a.dec b.dec).enc):=by
 refine cJ (N:=14) func143 O O zz_ (fun w0=>?_);refine giI ?_;refine go_ ?_;refine bL O (kK O O (fun b2 hb2=>bL O (kK O O (fun b3 hb3=>bL O (fF lO (fun b4 hb4=>go2 ?_))))));refine sQ (dD tyT O mm_ (dO ha)) O ?_;refine sQ (dD tyT O mm_ (dO hb)) O ?_;refine sQ (bW aS (xQ a b ha hb) O) O (go3 ?_);refine bL O (fF lO (fun b5 hb5=>bL O (fF lO (fun b6 hb6=>bL O (cC tyT O O uu_ (aV _) O (bS _) (.inl gH) ?_)))));refine bL O (cC tyT O O uu_ (aV _) O (bS _) (.inl gH) ?_);refine go2 ?_;refine sQ (dD tyT O mm_ (aV _)) O ?_;refine bL O (cC tyT O O uu_ (aV _) O (bS _) (.inl gH) ?_);refine go2 ?_;refine rtX O ⟨_,_,_,_,_,_,rfl,mm_,tyT,_,(eJ (aV _)),(aV _),rfl⟩ ?_;exact rfl
theorem LJ (a b:R) (ha:a.Ok) (hb:b.Ok) :
    Ret prog 142 [RV a,RV b] (.int .i64 (Z.cmp a.dec b.dec)):=by
 refine cJ (N:=47) func142 O O zz_ (fun w0=>?_);refine giI ?_;refine go_ ?_;refine bL O (kK O O (fun b2 hb2=>bL O (kK O O (fun b3 hb3=>go3 ?_))));refine gDk (sk (sk s0)) (.quiet 0 [1,2,5,6,7] (.quiet 3 [4,5,6,7] (.both 1 (.quiet 2 [5,6,7] (.only 4 (.quiet 5 [6,7] (.quiet 6 [7] (.quiet 7 [] (.fin)))))) 4 (.only 1 (.quiet 2 [5,6,7] (.quiet 5 [6,7] (.quiet 6 [7] (.quiet 7 [] (.fin))))))))) (rg [] 0 8) mix (by kernel_rfl) (by kernel_rfl) (pQ O (dD tyT O mm_ (dO ha)) ?_);refine pQ O (dD tyT O mm_ (dO hb)) ?_;refine KW ?_ ?_
 ·refine gA O O (j8 l4 lO nW O dd_ O (zD ha) (fun b8 hb8=>⟨(fun _=>by first|exact sd s0|exact s0),ss_,?_⟩));refine pQ O (dZ aS O (fun w hw=>jI [a] (ok1 ha) b8 27 w (hw.mem ⟨b8,27,_⟩ (by first|exact m0|exact m1)) zz_)) ?_;refine gA O O (j8 l4 lO nW O dd_ O (zD hb) (fun b11 hb11=>⟨(fun _=>by first|exact sd s0|exact s0),ss_,?_⟩));refine pQ O (dZ aS O (fun w hw=>jI [b] (ok1 hb) b11 27 w (hw.mem ⟨b11,27,_⟩ (by first|exact m0|exact m1)) zz_)) ?_;refine go9 ?_
  cases hga:[a].all R.good
  ·refine go5 ?_;refine aZ _ O (fun hgb=>?_) (fun hgb=>?_)
   ·replace hgb:=cB_ hgb
    refine go4 ?_;refine rt1 ?_;exact congrArg _ (S8 (by simpa using hga) (by simpa using hgb))
   replace hgb:=cB_ hgb
   refine pU ?_;refine rt1 ?_;exact congrArg _ (S9 (by simpa using hga) hb (by simpa using hgb))
  refine XX ?_;refine aZ _ O (fun hgb=>?_) (fun hgb=>?_)
  ·replace hgb:=cB_ hgb
   refine go4 ?_;refine rt1 ?_;exact congrArg _ (TA ha (by simpa using hga) (by simpa using hgb))
  replace hgb:=cB_ hgb
  refine go_ ?_;refine sQ (cW fdT dd_ O) O (sQ (eA tyT O mm_ O) O ?_);refine sQ (cW fdT dd_ O) O (sQ (eA tyT O mm_ O) O ?_);refine sQ (tR AU O O) O (go2 ?_);refine aZ _ O (fun hn=>?_) (fun hn=>?_)
  ·replace hn:=cB_ hn
   refine go2 ?_;refine sQ (cW fdT dd_ O) O (sQ (eA tyT O mm_ O) O ?_);refine go_ ?_;refine aZ _ O (fun hs=>?_) (fun hs=>?_)
   ·replace hs:=cB_ hs
    refine go4 ?_;refine rt1 ?_;exact congrArg _ (Z9 ha hb (by simpa using hga) (by simpa using hgb) hn hs)
   replace hs:=cB_ hs
   refine go5 ?_;refine rt1 ?_;exact congrArg _ (Z8 ha hb (by simpa using hga) (by simpa using hgb) hn (by simpa using hs))
  replace hn:=cB_ hn
  refine go_ ?_;refine sQ (cW fdT dd_ O) O (sQ (eA tyT O mm_ O) O ?_);refine go2 ?_;refine aZ _ O (fun hs=>?_) (fun hs=>?_)
  ·replace hs:=cB_ hs
   refine go_ ?_;refine sQ (cW fdT dd_ O) O (sQ (i7 (vs:=uw b.w) tyT O mm_ (lP hb.len) ((iF _).trans hb.len)) O ?_);refine sQ (cW fdT dd_ O) O (sQ (i7 (vs:=uw a.w) tyT O mm_ (lP ha.len) ((iF _).trans ha.len)) O ?_);refine sQ (bW aS (oG b.w a.w hb.len ha.len hb.lim ha.lim) O) O (go3 ?_);refine rt1 ?_;exact congrArg _ (aa_ ha hb (by simpa using hga) (by simpa using hgb) hn hs)
  replace hs:=cB_ hs
  refine go2 ?_;refine sQ (cW fdT dd_ O) O (sQ (i7 (vs:=uw a.w) tyT O mm_ (lP ha.len) ((iF _).trans ha.len)) O ?_);refine sQ (cW fdT dd_ O) O (sQ (i7 (vs:=uw b.w) tyT O mm_ (lP hb.len) ((iF _).trans hb.len)) O ?_);refine sQ (bW aS (oG a.w b.w ha.len hb.len ha.lim hb.lim) O) O (go3 ?_);refine rt1 ?_;exact congrArg _ (ab_ ha hb (by simpa using hga) (by simpa using hgb) hn (by simpa using hs))
 refine gA O O (j8 l4 lO nW O dd_ O (zD hb) (fun b11 hb11=>⟨(fun _=>by first|exact sd s0|exact s0),ss_,?_⟩));refine gA O O (j8 l4 lO nW O dd_ O (zD ha) (fun b8 hb8=>⟨(fun _=>by first|exact sd s0|exact s0),ss_,?_⟩));refine pQ O (dZ aS O (fun w hw=>jI [a] (ok1 ha) b8 27 w (hw.mem ⟨b8,27,_⟩ (by first|exact m0|exact m1)) zz_)) ?_;refine pQ O (dZ aS O (fun w hw=>jI [b] (ok1 hb) b11 27 w (hw.mem ⟨b11,27,_⟩ (by first|exact m0|exact m1)) zz_)) ?_;refine go9 ?_
 cases hga:[a].all R.good
 ·refine go5 ?_;refine aZ _ O (fun hgb=>?_) (fun hgb=>?_)
  ·replace hgb:=cB_ hgb
   refine go4 ?_;refine rt1 ?_;exact congrArg _ (S8 (by simpa using hga) (by simpa using hgb))
  replace hgb:=cB_ hgb
  refine pU ?_;refine rt1 ?_;exact congrArg _ (S9 (by simpa using hga) hb (by simpa using hgb))
 refine XX ?_;refine aZ _ O (fun hgb=>?_) (fun hgb=>?_)
 ·replace hgb:=cB_ hgb
  refine go4 ?_;refine rt1 ?_;exact congrArg _ (TA ha (by simpa using hga) (by simpa using hgb))
 replace hgb:=cB_ hgb
 refine go_ ?_;refine sQ (cW fdT dd_ O) O (sQ (eA tyT O mm_ O) O ?_);refine sQ (cW fdT dd_ O) O (sQ (eA tyT O mm_ O) O ?_);refine sQ (tR AU O O) O (go2 ?_);refine aZ _ O (fun hn=>?_) (fun hn=>?_)
 ·replace hn:=cB_ hn
  refine go2 ?_;refine sQ (cW fdT dd_ O) O (sQ (eA tyT O mm_ O) O ?_);refine go_ ?_;refine aZ _ O (fun hs=>?_) (fun hs=>?_)
  ·replace hs:=cB_ hs
   refine go4 ?_;refine rt1 ?_;exact congrArg _ (Z9 ha hb (by simpa using hga) (by simpa using hgb) hn hs)
  replace hs:=cB_ hs
  refine go5 ?_;refine rt1 ?_;exact congrArg _ (Z8 ha hb (by simpa using hga) (by simpa using hgb) hn (by simpa using hs))
 replace hn:=cB_ hn
 refine go_ ?_;refine sQ (cW fdT dd_ O) O (sQ (eA tyT O mm_ O) O ?_);refine go2 ?_;refine aZ _ O (fun hs=>?_) (fun hs=>?_)
 ·replace hs:=cB_ hs
  refine go_ ?_;refine sQ (cW fdT dd_ O) O (sQ (i7 (vs:=uw b.w) tyT O mm_ (lP hb.len) ((iF _).trans hb.len)) O ?_);refine sQ (cW fdT dd_ O) O (sQ (i7 (vs:=uw a.w) tyT O mm_ (lP ha.len) ((iF _).trans ha.len)) O ?_);refine sQ (bW aS (oG b.w a.w hb.len ha.len hb.lim ha.lim) O) O (go3 ?_);refine rt1 ?_;exact congrArg _ (aa_ ha hb (by simpa using hga) (by simpa using hgb) hn hs)
 replace hs:=cB_ hs
 refine go2 ?_;refine sQ (cW fdT dd_ O) O (sQ (i7 (vs:=uw a.w) tyT O mm_ (lP ha.len) ((iF _).trans ha.len)) O ?_);refine sQ (cW fdT dd_ O) O (sQ (i7 (vs:=uw b.w) tyT O mm_ (lP hb.len) ((iF _).trans hb.len)) O ?_);refine sQ (bW aS (oG a.w b.w ha.len hb.len ha.lim hb.lim) O) O (go3 ?_);refine rt1 ?_;exact congrArg _ (ab_ ha hb (by simpa using hga) (by simpa using hgb) hn (by simpa using hs))
end Go.Proofs.YtokjfhfiodopdaaGreat
