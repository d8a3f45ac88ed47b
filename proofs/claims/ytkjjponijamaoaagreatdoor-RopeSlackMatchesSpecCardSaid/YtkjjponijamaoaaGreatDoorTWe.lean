/- Lemmas: what they ask stands in their statements. -/
import Derived.Test.YtkjjponijamaoaaGreatDoorTWa
set_option linter.unusedSimpArgs false
set_option linter.unusedVariables false
set_option maxHeartbeats 8000000
set_option maxRecDepth 20000
namespace Go.Proofs.YtkjjponijamaoaaGreatDoor
open Go.Kn Go.Num Tryz
attribute [local irreducible] Go.Kn.W WL PL OpQ OpR OpS
theorem fL (a b:R) (ha:a.Ok) (hb:b.Ok) :
    Ret prog 36 [RV a,RV b] (RV (Z.mul a.dec b.dec).enc):=by
 refine bL (N:=82) func36 rfl rfl (by simp) (fun w0=>?_);simp only [bO,Nat.reduceAdd];refine go_ ?_;refine bD rfl (mB rfl rfl (fun b2 hb2=>bD rfl (mB rfl rfl (fun b3 hb3=>bD rfl (fP kN (fun b4 hb4=>go3 ?_))))));refine sQ (cP tyT rfl mm_ (cT ha)) rfl ?_;refine sQ (cP tyT rfl mm_ (cT hb)) rfl ?_;refine bD rfl (lF kL kN lG rfl dd_ rfl (QD ha hb) (fun b13 hb13=>sQ (bT aB rfl (fun w hw=>kB [a,b] (ok2 ha hb) b13 31 w (hw.mem _ m0) (by simp))) rfl ?_));refine go2 ?_;refine aH _ rfl (fun hg=>?_) (fun hg=>?_)
 ·replace hg:=cB_ hg
  refine go_ ?_;refine sQ (bI aB gX rfl) rfl (bD rfl (cC tyT rfl rfl uu_ (aF _) rfl (bV _) (.inl (by assumption)) ?_));refine go2 ?_;refine bA rfl (.inr rfl) ⟨_,_,_,_,_,_,rfl,mm_,tyT,_,(eC (aF _)),(aF _),rfl⟩ ?_
  (rw [Z.mul,oU (HJ hg)];rfl)
 replace hg:=cB_ hg
 have hg:=all2.1 hg;refine go2 ?_;refine bD rfl (fP h0_ (fun b5 hb5=>go2 ?_));have hsa:=y8 a.w;have hsb:=y8 b.w;rw [ha.len] at hsa;rw [hb.len] at hsb;refine jQ (sk (sk (sk (sk (sk (s0)))))) 8 [] [] (pQ rfl (cU fdT dd_ rfl) (pQ rfl (kS (vs:=uw a.w) tyT rfl mm_ (oD ha.len) ((j1 _).trans ha.len)) ?_));refine pQ rfl (bI aB (rJ a.w ha.len) rfl) (pQ rfl (cU fdT dd_ rfl) (pQ rfl (kS (vs:=uw b.w) tyT rfl mm_ (oD hb.len) ((j1 _).trans hb.len)) ?_));refine pQ rfl (bI aB (rJ b.w hb.len) rfl) (go9 ?_);refine cK [8,9,10,24,25,26,27,28,29,30,31,32,33,34,35,36,37,38,39,40,41,42,43,44,45,46,47,48,49,50,51,52,53,54,55,56,57,58,59,60,61,62,63,64,65,66] (fun g nn M=>∃ (i:Nat) (l:List Nat),(g 24 = .int .i64 (i:Int))∧M=[⟨b5,162,uw l⟩,⟨b4,31,zR⟩,⟨b3,31,b.cells⟩,⟨b2,31,a.cells⟩]∧nn=szL a.w - i∧(i≤szL a.w∧MulOut (val a.w) (val b.w) (szL b.w) i l)) (szL a.w - 0) ?start ?round
 case start =>
  refine ⟨_,(List.Sublist.cons_cons _ (List.Sublist.cons _ (List.Sublist.refl _))),0,_,?a24,?mem0,rfl,⟨Nat.zero_le _,MulOut.start _ _ _⟩⟩
  case mem0=>rfl
  case a24=>rfl
 case round =>
  rintro nn g M ⟨i,l,hg24,rfl,hmeas,⟨hile,hM⟩⟩;subst nn;simp only [fF,hg24];clear hg24;refine go4 ?_;refine aH _ rfl (fun hi=>?_) (fun hi=>?_)
  ·replace hi:=cB_ hi
   have hia:i<a.w.length:=by rw [ha.len];omega
   refine SV ?_;refine cK [9,10,28,29,30,31,32,33,34,35,36,37,38,39,40,41,42,43,44,45,46,47,48,49,50,51,52,53,54,55,56,57,58,59] (fun g nn M=>∃ (k:Nat) (l:List Nat) (c:Nat),(g 9 = .int .u64 (c:Int)∧g 28 = .int .i64 (k:Int))∧M=[⟨b5,162,uw l⟩,⟨b4,31,zR⟩,⟨b3,31,b.cells⟩,⟨b2,31,a.cells⟩]∧nn=szL b.w - k∧(k≤szL b.w∧MulIn (val a.w) (val b.w) (szL b.w) i k l c)) (szL b.w - 0) ?start ?round
   case start =>
    refine ⟨_,(List.Sublist.refl _),0,l,0,⟨?a9,?a28⟩,?mem0,rfl,⟨Nat.zero_le _,hM.row⟩⟩
    case mem0=>rfl
    case a9=>rfl
    case a28=>rfl
   case round =>
    rintro nn g M ⟨k,l,c,⟨hg9,hg28⟩,rfl,hmeas,⟨hkle,hM⟩⟩;subst nn;simp only [fF,hg9,hg28];clear hg9 hg28;refine go4 ?_;refine aH _ rfl (fun hk=>?_) (fun hk=>?_)
    ·replace hk:=cB_ hk
     have hkb:k<b.w.length:=by rw [hb.len];omega
     refine go8 ?_;refine gdr (sk (sk (sk (sk (s0))))) [0,4,8,12,16,20,24,28,32,36,40,44,48,52,56,60,64,68,72,76,80] [] mix (by kernel_rfl) (go2 ?_);refine pQ rfl (cU fdT dd_ rfl) (pQ rfl (gQ arT rfl rfl oo_ oo_) (pQ rfl (eM tyT rfl mm_ (rK hia)) ?_));refine pQ rfl (fW j6 iQ rfl) (go_ ?_);refine pQ rfl (cU fdT dd_ rfl) (pQ rfl (gQ arT rfl rfl oo_ oo_) (pQ rfl (eM tyT rfl mm_ (rK hkb)) ?_));refine pQ rfl (fW j6 iQ rfl) (go3 ?_);refine pQ rfl (aL (lE rfl rfl) (congrArg (Value.int .i64) (sF oo_))) (pQ rfl (gQ arT rfl rfl oo_ oo_) (pQ rfl (eM tyT rfl mm_ (xU (by rw [hM.len];omega))) ?_));refine pQ rfl (fW j6 iQ rfl) (go_ ?_);refine pQ rfl (aL (lE rfl rfl) (congrArg (Value.int .u64) (hq_ (fJ ha.lim i) (fJ hb.lim k) (fJ hM.lim (i+k)) hM.clt))) (go5 ?_);refine sQ (aL (lE rfl rfl) (congrArg (Value.int .i64) (sF oo_))) rfl (go_ ?_);refine sQ (aL (fW iQ j6 rfl) (tB _)) rfl (sQ (gQ arT rfl rfl oo_ oo_) rfl (bD rfl (rE tyT rfl rfl uu_ (by rw [hM.len];omega) (.inl (by assumption)) ?_)));refine go3 ?_;refine sQ (aL (yZ rfl rfl dd_) (congrArg (Value.int .u64) (vK _ 32))) rfl (go3 ?_);refine sQ (aL (lE rfl rfl) (congrArg (Value.int .i64) (mS oo_))) rfl (go2 ?_);refine ⟨pp_,_,_,(List.Sublist.refl _),oo_,k+1,_,_,⟨?s9,?s28⟩,?mem,rfl,⟨by omega,ZL hM ha.lim hb.lim oo_ oo_⟩⟩
     case mem=>rfl
     case s9=>rfl
     case s28=>rfl
    replace hk:=cB_ hk
    obtain rfl:k=szL b.w:=by omega
    refine go4 ?_;refine sQ (aL (lE rfl rfl) (congrArg (Value.int .i64) (sF oo_))) rfl (go_ ?_);refine sQ (aL (fW iQ j6 rfl) (gG_ hM.clt)) rfl (sQ (gQ arT rfl rfl oo_ oo_) rfl (bD rfl (rE tyT rfl rfl uu_ (by rw [hM.len];omega) (.inl (by assumption)) ?_)));refine go2 ?_;refine sQ (aL (lE rfl rfl) (congrArg (Value.int .i64) (mS oo_))) rfl (go2 ?_);refine ⟨pp_,_,_,(List.Sublist.refl _),oo_,i+1,_,?s24,?mem,rfl,⟨by omega,hM.done oo_ (yN hb.lim)⟩⟩
    case mem=>rfl
    case s24=>rfl
  replace hi:=cB_ hi
  obtain rfl:i=szL a.w:=by omega
  refine go3 ?_;refine sQ (yJ arT rfl rfl rfl dd_ dd_ dd_ dd_) rfl (sQ (b7_ arT rfl dd_) rfl (sQ (kS (vs:=uw (l.drop 16)) tyT rfl mm_ (hW_ hM.len) (by simp [uw,hM.len])) rfl ?_));refine sQ (tF tK arT rfl (.nil _)) rfl ?_;refine sQ (DC (r:=decide (l.drop 16=List.replicate 16 0)) rfl rfl (oB 8 dd_ LP MJ (rI (by simp [hM.len])) (rI (by simp)) (fF_ _ _))) rfl ?_;refine go_ ?_;refine aH _ rfl (fun h71=>?_) (fun h71=>?_)
  ·replace h71:=cB_ h71
   refine go_ ?_;refine sQ (bI aB gX rfl) rfl (bD rfl (cC tyT rfl rfl uu_ (aF _) rfl (bV _) (.inl (by assumption)) ?_));refine go2 ?_;refine bA rfl (.inr rfl) ⟨_,_,_,_,_,_,rfl,mm_,tyT,_,(eC (aF _)),(aF _),rfl⟩ ?_;exact congrArg RV (dK_ ha hb hg.1 hg.2 hM.len hM.lim (MM hM ha) (by simpa using h71))
  replace h71:=cB_ h71
  refine go2 ?_;refine jQ (sk (sd (sk (sk (s0))))) 10 [9] [9] (pQ rfl (cU fdT dd_ rfl) (pQ rfl (eM tyT rfl mm_ rfl) ?_));refine pQ rfl (cU fdT dd_ rfl) (pQ rfl (eM tyT rfl mm_ rfl) ?_);refine pQ rfl (yI F2 rfl rfl) (pQ rfl (yJ arT rfl rfl rfl dd_ dd_ dd_ dd_) (pQ rfl (b7_ arT rfl dd_) (pQ rfl (kS (vs:=uw (l.take 16)) tyT rfl mm_ (hX_ hM.len) (by simp [uw,hM.len])) ?_)));refine pQ rfl (bI aB (gL (a.neg != b.neg) (l.take 16) (by simp [hM.len]) (hM.lim.take 16)) rfl) ?_;refine cF rfl rfl (cC tyT rfl rfl uu_ (kV (by simp [hM.len])) rfl (bV _) (.inl (by assumption)) ⟨nf,ss_,?_⟩);refine go2 ?_;refine bA rfl (.inr rfl) ⟨_,_,_,_,_,_,rfl,mm_,tyT,_,(eC (kV (by simp [hM.len]))),(kV (by simp [hM.len])),rfl⟩ ?_;exact congrArg RV (dL_ ha hb hg.1 hg.2 hM.len hM.lim (MM hM ha) (by simpa using h71))
theorem KB (us vs:List Nat) (n j:Nat) (H:QH us vs n j) (bu T:Nat) (w:World) (hbu:w.heap[bu]? = some (.cells (uw us).toArray T (0,0))) :
    Calls prog 253 [.pointer (some ⟨bu,0,none⟩),UV vs,.int .i64 (n:Int),.int .i64 (j:Int)].toArray w (fun e w'=>∃ x:Nat,e = .returned (.int .u64 (x:Int))∧Ext w w'∧RQ us vs j x):=by
 refine SB (N:=77) (g:=fun x:Nat=>.int .u64 (x:Int)) (Q:=fun x:Nat=>RQ us vs j x) func253 rfl rfl (by simp) ?_;obtain ⟨w0,rfl⟩:∃ w0,w0=w:=⟨_,rfl⟩;simp only [bO,Nat.reduceAdd];have G:=H.gh;have hn2:=H.n2;have hjn:=H.jn;have hul:=H.ulen;have hvl:=H.vlen;refine go_ ?_;refine bD rfl (mB rfl rfl (fun b5 hb5=>go3 ?_));refine gdr (sk (s0)) [0,4,8,12,16,20,24,28,32,36,40,44,48,52,56,60,64,68,72,76] [] mix (by kernel_rfl) (go3 ?_);refine pQ rfl (aL (lE rfl rfl) (congrArg (Value.int .i64) (sF oo_))) (go_ ?_);refine pQ rfl (gQ arT rfl rfl oo_ oo_) (pQ rfl (KR tyT rfl hbu (by simp) (xU oo_)) ?_);refine pQ rfl (aL (fW j6 iQ rfl) (AA (fJ H.ulim _))) (pQ rfl (aL (E2 rfl rfl dd_) (congrArg (Value.int .u64) (A7 (fJ H.ulim _)))) (go3 ?_));refine pQ rfl (aL (lE rfl rfl) (congrArg (Value.int .i64) (sF oo_))) (pQ rfl (aL (sK rfl rfl) (congrArg (Value.int .i64) (xS (b:=1) rfl oo_ oo_))) (go_ ?_));refine pQ rfl (gQ arT rfl rfl oo_ oo_) (pQ rfl (KR tyT rfl hbu (by simp) (xU oo_)) ?_);refine pQ rfl (aL (fW j6 iQ rfl) (AA (fJ H.ulim _))) (pQ rfl (aL (QZ rfl rfl) (congrArg (Value.int .u64) (TH (fJ H.ulim _) (fJ H.ulim _)))) (go4 ?_));refine sQ (aL (sK rfl rfl) (congrArg (Value.int .i64) (xS (b:=1) rfl oo_ oo_))) rfl (sQ (gQ arT rfl rfl oo_ oo_) rfl (sQ (eM tyT rfl mm_ (xU oo_)) rfl ?_));refine sQ (aL (fW j6 iQ rfl) (AA (fJ H.vlim _))) rfl (go3 ?_);refine jQ (sk (s0)) 8 [] [] (go2 ?_);refine pQ rfl (aL (mG rfl rfl (by have:=G.f0;omega)) (congrArg (Value.int .u64) (dY_ (by have:=G.topLt;have:=G.f1;omega)))) (go2 ?_);refine pQ rfl (aL (rR rfl rfl (by have:=G.f0;omega)) (congrArg (Value.int .u64) (FU _ _))) (go5 ?_);refine cK [11,12,43,44,45,46,47,48,49,50,51,52,53,54,55,56,57,58,59,60,61,62,63,64,65,66,67,68,69,70,71,72,73,74,75] (fun g nn M=>∃ (d rest:Nat),(g 11 = .int .u64 (d:Int)∧g 12 = .int .u64 (rest:Int))∧M=[⟨b5,29,uw vs⟩]∧nn=d∧(GI (vs.getD (n - 1) 0) (us.getD (j+n) 0 * 4294967296+us.getD (j+n - 1) 0) (val us / (val vs * 4294967296 ^ j)) d rest)) ((us.getD (j+n) 0 * 4294967296+us.getD (j+n - 1) 0) / vs.getD (n - 1) 0) ?start ?round
 case start =>
  refine ⟨_,(List.Sublist.refl _),_,_,⟨?a11,?a12⟩,?mem0,rfl,GI.start G⟩
  case mem0=>rfl
  case a11=>rfl
  case a12=>rfl
 case round =>
  rintro nn g M ⟨d,rest,⟨hg11,hg12⟩,rfl,hmeas,hG⟩;subst nn;simp only [fF,hg11,hg12];clear hg11 hg12;refine go2 ?_;refine gdr (sk (s0)) [0,4,8,12,16,20,24,28,32,36,40,44,48,52,56,60,64,68,72,76,80,84,88,92,96,100,104,108] [] mix (by kernel_rfl) (go3 ?_)
  cases h2:decide ((rest:Int)<4294967296)
  ·refine il_ ?_;refine bA rfl (.inr rfl) rfl ?_;exact ⟨d,rfl,OV H hG (.inl (by have:=of_decide_eq_false h2;omega))⟩
  refine go3 ?_
  cases h5:decide ((4294967296:Int)≤(d:Int))
  ·refine go2 ?_;refine pQ rfl (aL (sK rfl rfl) (congrArg (Value.int .i64) (xS (b:=2) rfl oo_ oo_))) (pQ rfl (gQ arT rfl rfl oo_ oo_) (pQ rfl (eM tyT rfl mm_ (xU oo_)) ?_));refine pQ rfl (aL (fW j6 iQ rfl) (AA (fJ H.vlim _))) (pQ rfl (aL (XU rfl rfl) (congrArg (Value.int .u64) (XM (XI (by have:=of_decide_eq_false h5;omega) (fJ H.vlim _))))) (go_ ?_));refine pQ rfl (aL (E2 rfl rfl dd_) (congrArg (Value.int .u64) (A7 (by have:=of_decide_eq_true h2;omega)))) (go3 ?_);refine pQ rfl (aL (lE rfl rfl) (congrArg (Value.int .i64) (sF oo_))) (pQ rfl (aL (sK rfl rfl) (congrArg (Value.int .i64) (xS (b:=2) rfl oo_ oo_))) (go_ ?_));refine pQ rfl (gQ arT rfl rfl oo_ oo_) (pQ rfl (KR tyT rfl hbu (by simp) (xU oo_)) ?_);refine pQ rfl (aL (fW j6 iQ rfl) (AA (fJ H.ulim _))) (pQ rfl (aL (QZ rfl rfl) (congrArg (Value.int .u64) (TH (by have:=of_decide_eq_true h2;omega) (fJ H.ulim _)))) (go4 ?_));refine aH _ rfl (fun h68=>?_) (fun h68=>?_)
   ·replace h68:=cB_ h68
    refine go3 ?_;have hmore:=GI.more G hG (by have:=of_decide_eq_true h2;omega) (by first | exact .inl (by have:=of_decide_eq_true h5;omega) | exact .inr (by exact_mod_cast h68));refine go_ ?_;refine sQ (aL (sK rfl rfl) (congrArg (Value.int .u64) (NH rfl hmore.1 (by have:=GI.dlt G hG;omega)))) rfl (go5 ?_);refine sQ (aL (lE rfl rfl) (congrArg (Value.int .u64) (P2 (by have:=hG.rlt;have:=G.f1;omega)))) rfl (go2 ?_);refine ⟨pp_,_,_,(List.Sublist.refl _),(by have:=hmore.1;omega),d - 1,rest+vs.getD (n - 1) 0,⟨?s11,?s12⟩,?mem,rfl,hmore.2⟩
    case mem=>rfl
    case s11=>rfl
    case s12=>rfl
   replace h68:=cB_ h68
   refine go6 ?_;refine bA rfl (.inr rfl) rfl ?_;exact ⟨d,rfl,OV H hG (.inr ⟨by have:=of_decide_eq_false h5;omega,by have h69:=Int.not_lt.1 h68;exact_mod_cast h69⟩)⟩
  refine hi_ ?_;have hmore:=GI.more G hG (by have:=of_decide_eq_true h2;omega) (by first | exact .inl (by have:=of_decide_eq_true h5;omega) | exact .inr (by exact_mod_cast h68));refine go_ ?_;refine sQ (aL (sK rfl rfl) (congrArg (Value.int .u64) (NH rfl hmore.1 (by have:=GI.dlt G hG;omega)))) rfl (go5 ?_);refine sQ (aL (lE rfl rfl) (congrArg (Value.int .u64) (P2 (by have:=hG.rlt;have:=G.f1;omega)))) rfl (go2 ?_);refine ⟨pp_,_,_,(List.Sublist.refl _),(by have:=hmore.1;omega),d - 1,rest+vs.getD (n - 1) 0,⟨?s11,?s12⟩,?mem,rfl,hmore.2⟩
  case mem=>rfl
  case s11=>rfl
  case s12=>rfl
theorem NY (us vs:List Nat) (n j d:Nat) (hu:us.length=17) (lu:Lim us) (hv:vs.length=16) (lv:Lim vs) (hV:val vs<4294967296 ^ n) (hjn:j+n≤16) (hsm:val us<4294967296 ^ (j+n+1)) (hd:d<4294967296) (bu T:Nat) (w:World) (hbu:w.heap[bu]? = some (.cells (uw us).toArray T (0,0))) :
    Calls prog 254 [.pointer (some ⟨bu,0,none⟩),UV vs,.int .i64 (n:Int),.int .i64 (j:Int),.int .u64 (d:Int)].toArray w (fun e w'=>∃ x:List Nat×Nat,e = .returned (.bool (((x.2:Nat):Int)==1))∧ExtX [bu] w w'∧w'.heap[bu]? = some (.cells (uw x.1).toArray T (0,0))∧Took us (val vs) d j n x):=by
 refine SA (N:=78) (g:=fun x:List Nat×Nat=>.bool (((x.2:Nat):Int)==1)) (cs':=fun x:List Nat×Nat=>uw x.1) (Q:=fun x:List Nat×Nat=>Took us (val vs) d j n x) func254 rfl rfl (by simp) hbu ?_;obtain ⟨w0,rfl⟩:∃ w0,w0=w:=⟨_,rfl⟩;simp only [bO,Nat.reduceAdd];refine go_ ?_;refine bD rfl (mB rfl rfl (fun b6 hb6=>vH ?_));refine cK [11,12,13,14,17,18,19,20,21,22,23,24,25,26,27,28,29,30,31,32,33,34,35,36,37,38,39,40,41,42,43,44,45,46,47,48,49,50,51,52,53,54] (fun g nn M=>∃ (i:Nat) (l:List Nat) (c bo:Nat),(g 11 = .int .u64 (c:Int)∧g 12 = .int .u64 (bo:Int)∧g 17 = .int .i64 (i:Int))∧M=[⟨b6,29,uw vs⟩,⟨bu,T,uw l⟩]∧nn=n - i∧(i≤n∧TakeIn us (val vs) d j i l c bo)) (n - 0) ?start ?round
 case start =>
  refine ⟨_,(List.Sublist.refl _),0,us,0,0,⟨?a11,?a12,?a17⟩,?mem0,rfl,⟨Nat.zero_le _,TakeIn.start hu lu _ _ _⟩⟩
  case mem0=>rfl
  case a11=>rfl
  case a12=>rfl
  case a17=>rfl
 case round =>
  rintro nn g M ⟨i,l,c,bo,⟨hg11,hg12,hg17⟩,rfl,hmeas,⟨hi,hT⟩⟩;subst nn;simp only [fF,hg11,hg12,hg17];clear hg11 hg12 hg17;refine go4 ?_;refine aH _ rfl (fun hc=>?_) (fun hc=>?_)
  ·replace hc:=cB_ hc
   have hc:i<n:=by omega
   refine AG ?_;refine sQ (gQ arT rfl rfl oo_ oo_) rfl (sQ (eM tyT rfl mm_ (xU oo_)) rfl ?_);refine sQ (fW j6 iQ rfl) rfl (go_ ?_);refine sQ (aL (lE rfl rfl) (congrArg (Value.int .u64) (gD_ hT.clt hd (fJ lv i)))) rfl (go6 ?_);refine sQ (aL (lE rfl rfl) (congrArg (Value.int .i64) (sF oo_))) rfl (go_ ?_);refine sQ (gQ arT rfl rfl oo_ oo_) rfl (sQ (eM tyT rfl mm_ (xU (by rw [hT.len];omega))) rfl ?_);refine sQ (fW j6 iQ rfl) rfl (go_ ?_);refine sQ (aL (fW iQ j6 rfl) (tB _)) rfl (sQ (fW j6 iQ rfl) rfl (go2 ?_));refine sQ (aL (sK rfl rfl) (congrArg (Value.int .u64) (eY_ hT.ble (fJ hT.lim _) (Nat.mod_lt _ dd_)))) rfl (go6 ?_);refine sQ (aL (lE rfl rfl) (congrArg (Value.int .i64) (sF oo_))) rfl (go_ ?_);refine sQ (aL (fW iQ j6 rfl) (tB _)) rfl (go_ ?_);refine sQ (gQ arT rfl rfl oo_ oo_) rfl (bD rfl (rE tyT rfl rfl uu_ (by rw [hT.len];omega) (by first | exact .inl (by assumption) | exact .inr (List.mem_singleton.2 rfl)) ?_));refine go3 ?_;refine sQ (aL (yZ rfl rfl dd_) (congrArg (Value.int .u64) (vK _ 63))) rfl (go4 ?_);refine sQ (aL (yZ rfl rfl dd_) (congrArg (Value.int .u64) (vK _ 32))) rfl (go3 ?_);refine sQ (aL (lE rfl rfl) (congrArg (Value.int .i64) (mS oo_))) rfl (go2 ?_);refine ⟨pp_,_,_,(List.Sublist.refl _),oo_,i+1,_,_,_,⟨?s11,?s12,?s17⟩,?mem,rfl,⟨by omega,WG hT lv oo_ hd⟩⟩
   case mem=>rfl
   case s11=>rfl
   case s12=>rfl
   case s17=>rfl
  replace hc:=cB_ hc
  obtain rfl:n=i:=by omega
  refine go5 ?_;refine sQ (aL (lE rfl rfl) (congrArg (Value.int .i64) (sF oo_))) rfl (go_ ?_);refine sQ (gQ arT rfl rfl oo_ oo_) rfl (sQ (eM tyT rfl mm_ (xU (by rw [hT.len];omega))) rfl ?_);refine sQ (fW j6 iQ rfl) rfl (go3 ?_);refine sQ (aL (sK rfl rfl) (congrArg (Value.int .u64) (gB_ hT.ble (fJ hT.lim _) hT.clt))) rfl (go6 ?_);refine sQ (aL (lE rfl rfl) (congrArg (Value.int .i64) (sF oo_))) rfl (go_ ?_);refine sQ (aL (fW iQ j6 rfl) (tB _)) rfl (go_ ?_);refine sQ (gQ arT rfl rfl oo_ oo_) rfl (bD rfl (rE tyT rfl rfl uu_ (by rw [hT.len];omega) (by first | exact .inl (by assumption) | exact .inr (List.mem_singleton.2 rfl)) ?_));refine go3 ?_;refine sQ (aL (yZ rfl rfl dd_) (congrArg (Value.int .u64) (vK _ 63))) rfl (go4 ?_);refine bA rfl (.inr rfl) rfl ?_;exact ⟨(_,_),rfl,by first | exact .tail _ (.head _) | exact .head _,TakeIn.took hT oo_ hV lu hsm⟩
theorem NV (us vs:List Nat) (n j:Nat) (hu:us.length=17) (lu:Lim us) (hv:vs.length=16) (lv:Lim vs) (hV:val vs<4294967296 ^ n) (hjn:j+n≤16) (hsm:val us<4294967296 ^ (j+n+1)) (bu T:Nat) (w:World) (hbu:w.heap[bu]? = some (.cells (uw us).toArray T (0,0))) :
    Calls prog 255 [.pointer (some ⟨bu,0,none⟩),UV vs,.int .i64 (n:Int),.int .i64 (j:Int)].toArray w (fun e w'=>∃ x:List Nat,e = .returned (.tuple #[])∧ExtX [bu] w w'∧w'.heap[bu]? = some (.cells (uw x).toArray T (0,0))∧Gave us (val vs) j n x):=by
 refine SA (N:=52) (g:=fun x:List Nat=>.tuple #[]) (cs':=fun x:List Nat=>uw x) (Q:=fun x:List Nat=>Gave us (val vs) j n x) func255 rfl rfl (by simp) hbu ?_;obtain ⟨w0,rfl⟩:∃ w0,w0=w:=⟨_,rfl⟩;simp only [bO,Nat.reduceAdd];refine go_ ?_;refine bD rfl (mB rfl rfl (fun b5 hb5=>jT ?_));refine cK [8,9,11,12,13,14,15,16,17,18,19,20,21,22,23,24,25,26,27,28,29,30,31,32,33,34,35,36,37,38,39] (fun g nn M=>∃ (i:Nat) (l:List Nat) (c:Nat),(g 8 = .int .u64 (c:Int)∧g 11 = .int .i64 (i:Int))∧M=[⟨b5,29,uw vs⟩,⟨bu,T,uw l⟩]∧nn=n - i∧(i≤n∧GiveIn us (val vs) j i l c)) (n - 0) ?start ?round
 case start =>
  refine ⟨_,(List.Sublist.refl _),0,us,0,⟨?a8,?a11⟩,?mem0,rfl,⟨Nat.zero_le _,GiveIn.start hu lu _ _⟩⟩
  case mem0=>rfl
  case a8=>rfl
  case a11=>rfl
 case round =>
  rintro nn g M ⟨i,l,c,⟨hg8,hg11⟩,rfl,hmeas,⟨hi,hT⟩⟩;subst nn;simp only [fF,hg8,hg11];clear hg8 hg11;refine go4 ?_;refine aH _ rfl (fun hc=>?_) (fun hc=>?_)
  ·replace hc:=cB_ hc
   have hc:i<n:=by omega
   refine go8 ?_;refine jQ (sk (sk (s0))) 16 [] [] (go4 ?_);refine pQ rfl (aL (lE rfl rfl) (congrArg (Value.int .i64) (sF oo_))) (go_ ?_);refine pQ rfl (gQ arT rfl rfl oo_ oo_) (pQ rfl (eM tyT rfl mm_ (xU (by rw [hT.len];omega))) ?_);refine pQ rfl (fW j6 iQ rfl) (go_ ?_);refine pQ rfl (gQ arT rfl rfl oo_ oo_) (pQ rfl (eM tyT rfl mm_ (xU oo_)) ?_);refine pQ rfl (fW j6 iQ rfl) (go_ ?_);refine pQ rfl (aL (lE rfl rfl) (congrArg (Value.int .u64) (fP_ hT.cle (fJ hT.lim _) (fJ lv i)))) (go6 ?_);refine sQ (aL (lE rfl rfl) (congrArg (Value.int .i64) (sF oo_))) rfl (go_ ?_);refine sQ (aL (fW iQ j6 rfl) (tB _)) rfl (go_ ?_);refine sQ (gQ arT rfl rfl oo_ oo_) rfl (bD rfl (rE tyT rfl rfl uu_ (by rw [hT.len];omega) (by first | exact .inl (by assumption) | exact .inr (List.mem_singleton.2 rfl)) ?_));refine go3 ?_;refine sQ (aL (yZ rfl rfl dd_) (congrArg (Value.int .u64) (vK _ 32))) rfl (go3 ?_);refine sQ (aL (lE rfl rfl) (congrArg (Value.int .i64) (mS oo_))) rfl (go2 ?_);refine ⟨pp_,_,_,(List.Sublist.refl _),oo_,i+1,_,_,⟨?s8,?s11⟩,?mem,rfl,⟨by omega,VE hT lv oo_⟩⟩
   case mem=>rfl
   case s8=>rfl
   case s11=>rfl
  replace hc:=cB_ hc
  obtain rfl:n=i:=by omega
  refine go_ ?_;refine jQ (sk (sd (s0))) 13 [12] [12] (go3 ?_);refine pQ rfl (aL (lE rfl rfl) (congrArg (Value.int .i64) (sF oo_))) (go_ ?_);refine pQ rfl (gQ arT rfl rfl oo_ oo_) (pQ rfl (eM tyT rfl mm_ (xU (by rw [hT.len];omega))) ?_);refine go_ ?_;refine pQ rfl (fW iQ j6 rfl) (pQ rfl (aL (lE rfl rfl) (fO_ (fJ hT.lim _) hT.cle)) (go_ ?_));refine pQ rfl (gQ arT rfl rfl oo_ oo_) ?_;refine cF rfl rfl (rE tyT rfl rfl uu_ (by rw [hT.len];omega) (by first | exact .inl (by assumption) | exact .inr (List.mem_singleton.2 rfl)) ⟨nf,ss_,?_⟩);refine go_ ?_;refine iu_ rfl (.inl rfl) ?_;exact ⟨_,rfl,by first | exact .tail _ (.head _) | exact .head _,GiveIn.gave hT oo_ hV lu hsm⟩
theorem OZ (x:Nat) (hx:x<4294967296) :
    Ret prog 232 [U32 x] (.int .i64 ((bl x:Nat):Int)):=by
 refine bL (N:=19) func232 rfl rfl (by simp) (fun w0=>?_);simp only [bO,Nat.reduceAdd];refine go8 ?_;refine aH _ rfl (fun h1=>?_) (fun h1=>?_)
 ·replace h1:=cB_ h1
  refine go2 ?_;refine sQ (aL (yZ rfl rfl dd_) (RC x 16)) rfl (jT ?_);refine aH _ rfl (fun h2=>?_) (fun h2=>?_)
  ·replace h2:=cB_ h2
   refine go2 ?_;refine sQ (aL (yZ rfl rfl dd_) (RC _ 8)) rfl (jT ?_);refine sQ (aL (fW j6 QM rfl) (YN oo_)) rfl (sQ (QX (n:=256) bl ee_ rfl rfl oo_ (by decide +kernel)) rfl (sQ (aL (fW QM HH rfl) (KH oo_)) rfl (go4 ?_)));refine bA rfl (.inr rfl) rfl ?_;exact KP (c:=24) rfl dd_ oo_ (by rw [ER (k:=16) oo_,ER (n:=x / 2 ^ 16) (k:=8) oo_];omega)
  replace h2:=cB_ h2
  refine go4 ?_;refine sQ (aL (fW j6 QM rfl) (YN oo_)) rfl (sQ (QX (n:=256) bl ee_ rfl rfl oo_ (by decide +kernel)) rfl (sQ (aL (fW QM HH rfl) (KH oo_)) rfl (go4 ?_)));refine bA rfl (.inr rfl) rfl ?_;exact KP (c:=16) rfl dd_ oo_ (by rw [ER (k:=16) oo_])
 replace h1:=cB_ h1
 refine go6 ?_;refine aH _ rfl (fun h2=>?_) (fun h2=>?_)
 ·replace h2:=cB_ h2
  refine go2 ?_;refine sQ (aL (yZ rfl rfl dd_) (RC _ 8)) rfl (jT ?_);refine sQ (aL (fW j6 QM rfl) (YN oo_)) rfl (sQ (QX (n:=256) bl ee_ rfl rfl oo_ (by decide +kernel)) rfl (sQ (aL (fW QM HH rfl) (KH oo_)) rfl (go4 ?_)));refine bA rfl (.inr rfl) rfl ?_;exact KP (c:=8) rfl dd_ oo_ (by rw [ER (k:=8) oo_])
 replace h2:=cB_ h2
 refine go4 ?_;refine sQ (aL (fW j6 QM rfl) (YN oo_)) rfl (sQ (QX (n:=256) bl ee_ rfl rfl oo_ (by decide +kernel)) rfl (sQ (aL (fW QM HH rfl) (KH oo_)) rfl (go4 ?_)));refine bA rfl (.inr rfl) rfl ?_;exact KP (c:=0) rfl dd_ oo_ oo_
theorem bB_ (x:Nat) (hx:x<4294967296) :
    Ret prog 252 [U32 x] (.int .i64 ((32 - bl x:Nat):Int)):=by
 refine bL (N:=6) func252 rfl rfl (by simp) (fun w0=>?_);simp only [bO,Nat.reduceAdd];refine go5 ?_;refine sQ (bI aB (OZ x hx) rfl) rfl (go4 ?_);refine bA rfl (.inr rfl) rfl ?_;exact congrArg (Value.int .i64) (fZ_ hx)
theorem zL (xs:List Nat) (hx:xs.length=16) (lx:Lim xs) (n:Nat) (hn:n<32) :
    Ret prog 230 [UV xs,.int .i64 (n:Int)] (.tuple #[UV (toL 16 (val xs * 2 ^ n)),U32 (val xs * 2 ^ n / 4294967296 ^ 16)]):=by
 refine bL (N:=30) func230 rfl rfl (by simp) (fun w0=>?_);simp only [bO,Nat.reduceAdd];refine go_ ?_;refine bD rfl (mB rfl rfl (fun b2 hb2=>bD rfl (fP tK (fun b4 hb4=>go3 ?_))));refine bD rfl (fP tK (fun b6 hb6=>go9 ?_));refine cK [7,8,9,10,11,12,13,14,15,16,17,18,19,20,21,22,23,24,25,26] (fun g nn M=>∃ (k:Nat),(g 7 = .int .u64 ((mc (val xs) (2 ^ n) k:Nat):Int)∧g 9 = .int .i64 (k:Int))∧M=[⟨b6,29,uw (B2 k (val xs * 2 ^ n) 16)⟩,⟨b4,29,uw (List.replicate 16 0)⟩,⟨b2,29,uw xs⟩]∧nn=16 - k∧(k≤16)) (16) ?start ?round
 case start =>
  refine ⟨_,(List.Sublist.refl _),0,⟨?a7,?a9⟩,?mem0,rfl,Nat.zero_le _⟩
  case mem0=>rw [C5]
  case a7=>rw [dJ_];rfl
  case a9=>rfl
 case round =>
  rintro nn g M ⟨k,⟨hg7,hg9⟩,rfl,hmeas,hk⟩;subst nn;simp only [fF,hg7,hg9];clear hg7 hg9;refine go4 ?_;refine aH _ rfl (fun hc=>?_) (fun hc=>?_)
  ·replace hc:=cB_ hc
   have hc:k<16:=by omega
   refine jT ?_;refine sQ (gQ arT rfl rfl oo_ oo_) rfl (sQ (eM tyT rfl mm_ (xU oo_)) rfl ?_);refine sQ (fW j6 iQ rfl) rfl (go_ ?_);refine sQ (aL (E2 rfl rfl oo_) (congrArg (Value.int .u64) (d6_ (fJ lx k) oo_))) rfl (sQ (aL (QZ rfl rfl) (congrArg (Value.int .u64) (hV_ (eK_ (m:=2 ^ n) _ k (Nat.pow_pos dd_)) (fJ lx k) hn))) rfl (go5 ?_));refine sQ (aL (fW iQ j6 rfl) (tB _)) rfl (sQ (gQ arT rfl rfl oo_ oo_) rfl (bD rfl (rE tyT rfl rfl uu_ (by rw [lY _ hk];exact hc) (.inl (by assumption)) ?_)));refine go3 ?_;refine sQ (aL (yZ rfl rfl dd_) (congrArg (Value.int .u64) (vK _ 32))) rfl (go6 ?_);refine ⟨pp_,_,_,(List.Sublist.refl _),oo_,k+1,⟨?s7,?s9⟩,?mem,rfl,oo_⟩
   case mem=>rw [gS xs k lx,bH_,B3 _ hc]
   case s7=>exact congrArg (fun m:Nat=>Value.int .u64 (m:Int)) (by rw [gS xs k lx];exact bG_ _ _ _)
   case s9=>exact congrArg (Value.int .i64) (mS oo_)
  replace hc:=cB_ hc
  obtain rfl:k=16:=by omega
  refine go2 ?_;refine sQ (cP tyT rfl mm_ (by simp [uw,lY])) rfl ?_;refine go_ ?_;refine sQ (aL (fW iQ j6 rfl) (tB _)) rfl (bD rfl (cC tyT rfl rfl uu_ (by simp [uw,lY]) rfl (kH _) (.inl (by assumption)) ?_));refine go3 ?_;refine l8 rfl (.inr rfl) ⟨_,_,_,_,_,_,rfl,mm_,tyT,_,(eC (by simp [uw,lY])),(by simp [uw,lY]),rfl⟩ rfl ?_
  (rw [FN,hm_ hx lx,Nat.mod_eq_of_lt (YO hx lx hn)];rfl)
theorem FG (xs:List Nat) (hx:xs.length=16) (lx:Lim xs) (n:Nat) (hn:n<32) :
    Ret prog 231 [UV xs,.int .i64 (n:Int)] (UV (toL 16 (val xs / 2 ^ n))):=by
 refine bL (N:=33) func231 rfl rfl (by simp) (fun w0=>?_);simp only [bO,Nat.reduceAdd];refine go_ ?_;refine bD rfl (mB rfl rfl (fun b2 hb2=>bD rfl (fP tK (fun b4 hb4=>go2 ?_))));refine bD rfl (fP tK (fun b5 hb5=>go6 ?_));refine cK [6,7,8,9,10,11,12,13,14,15,16,17,18,19,20,21,22,23,24,25,26,27,28,29,30,31] (fun g nn M=>∃ (k:Nat),(g 8 = .int .i64 (k:Int))∧M=[⟨b5,29,uw (B2 k (val xs / 2 ^ n) 16)⟩,⟨b4,29,uw (List.replicate 16 0)⟩,⟨b2,29,uw xs⟩]∧nn=16 - k∧(k≤16)) (16) ?start ?round
 case start =>
  refine ⟨_,(List.Sublist.refl _),0,?a8,?mem0,rfl,Nat.zero_le _⟩
  case mem0=>rw [C5]
  case a8=>rfl
 case round =>
  rintro nn g M ⟨k,hg8,rfl,hmeas,hk⟩;subst nn;simp only [fF,hg8];clear hg8;refine go4 ?_;refine aH _ rfl (fun hc=>?_) (fun hc=>?_)
  ·replace hc:=cB_ hc
   have hc:k<16:=by omega
   refine dy_ ?_;refine sQ (aL (lE rfl rfl) (congrArg (Value.int .i64) (mS oo_))) rfl (go2 ?_);refine aH _ rfl (fun h13=>?_) (fun h13=>?_)
   ·replace h13:=cB_ h13
    refine go2 ?_;refine sQ (aL (lE rfl rfl) (congrArg (Value.int .i64) (mS oo_))) rfl (sQ (gQ arT rfl rfl oo_ oo_) rfl (sQ (eM tyT rfl mm_ (xU oo_)) rfl ?_));refine sQ (aL (fW j6 iQ rfl) (congrArg (Value.int .u64) (nT (fJ lx _)))) rfl (go4 ?_);refine sQ (aL (mV rfl) (show _=Value.int .u64 ((dig (val xs) (k+1):Nat):Int) from by first | exact congrArg (fun m:Nat=>Value.int .u64 (m:Int)) (gS xs (k+1) lx) | exact congrArg (fun m:Nat=>Value.int .u64 (m:Int)) (SF hx lx oo_).symm)) rfl ?_;refine sQ (aL (E2 rfl rfl dd_) (congrArg (Value.int .u64) (A7 (uZ _ _)))) rfl (go_ ?_);refine sQ (gQ arT rfl rfl oo_ oo_) rfl (sQ (eM tyT rfl mm_ (xU oo_)) rfl ?_);refine sQ (aL (fW j6 iQ rfl) (congrArg (Value.int .u64) ((nT (fJ lx _)).trans (by rw [gS xs k lx])))) rfl (sQ (aL (QZ rfl rfl) (congrArg (Value.int .u64) (KI (uZ _ _) (uZ _ _)))) rfl (go_ ?_));refine sQ (aL (yZ rfl rfl oo_) (congrArg (Value.int .u64) (eW_ hn))) rfl (sQ (aL (fW iQ j6 rfl) (tB _)) rfl (sQ (gQ arT rfl rfl oo_ oo_) rfl (bD rfl (rE tyT rfl rfl uu_ (by rw [lY _ hk];exact hc) (.inl (by assumption)) ?_))));refine go5 ?_;refine ⟨pp_,_,_,(List.Sublist.refl _),oo_,k+1,?s8,?mem,rfl,oo_⟩
    case mem=>rw [LN k oo_,B3 _ hc]
    case s8=>exact congrArg (Value.int .i64) (mS oo_)
   replace h13:=cB_ h13
   refine go3 ?_;refine sQ (aL (mV rfl) (show _=Value.int .u64 ((dig (val xs) (k+1):Nat):Int) from by first | exact congrArg (fun m:Nat=>Value.int .u64 (m:Int)) (gS xs (k+1) lx) | exact congrArg (fun m:Nat=>Value.int .u64 (m:Int)) (SF hx lx oo_).symm)) rfl ?_;refine sQ (aL (E2 rfl rfl dd_) (congrArg (Value.int .u64) (A7 (uZ _ _)))) rfl (go_ ?_);refine sQ (gQ arT rfl rfl oo_ oo_) rfl (sQ (eM tyT rfl mm_ (xU oo_)) rfl ?_);refine sQ (aL (fW j6 iQ rfl) (congrArg (Value.int .u64) ((nT (fJ lx _)).trans (by rw [gS xs k lx])))) rfl (sQ (aL (QZ rfl rfl) (congrArg (Value.int .u64) (KI (uZ _ _) (uZ _ _)))) rfl (go_ ?_));refine sQ (aL (yZ rfl rfl oo_) (congrArg (Value.int .u64) (eW_ hn))) rfl (sQ (aL (fW iQ j6 rfl) (tB _)) rfl (sQ (gQ arT rfl rfl oo_ oo_) rfl (bD rfl (rE tyT rfl rfl uu_ (by rw [lY _ hk];exact hc) (.inl (by assumption)) ?_))));refine go5 ?_;refine ⟨pp_,_,_,(List.Sublist.refl _),oo_,k+1,?s8,?mem,rfl,oo_⟩
   case mem=>rw [LN k oo_,B3 _ hc]
   case s8=>exact congrArg (Value.int .i64) (mS oo_)
  replace hc:=cB_ hc
  obtain rfl:k=16:=by omega
  refine go2 ?_;refine sQ (cP tyT rfl mm_ (by simp [uw,lY])) rfl ?_;refine bD rfl (cC tyT rfl rfl uu_ (by simp [uw,lY]) rfl (kH _) (.inl (by assumption)) ?_);refine go2 ?_;refine bA rfl (.inr rfl) ⟨_,_,_,_,_,_,rfl,mm_,tyT,_,(eC (by simp [uw,lY])),(by simp [uw,lY]),rfl⟩ ?_
  (rw [FN];rfl)
theorem KC (xs:List Nat) (hx:xs.length=16) (lx:Lim xs) (d:Nat) (hd:d<4294967296) (h0:0<d) :
    Ret prog 251 [UV xs,U32 d] (.tuple #[UV (toL 16 (val xs / d)),U32 (val xs % d)]):=by
 refine bL (N:=33) func251 rfl rfl (by simp) (fun w0=>?_);simp only [bO,Nat.reduceAdd];refine go_ ?_;refine bD rfl (mB rfl rfl (fun b2 hb2=>bD rfl (fP tK (fun b4 hb4=>jT ?_))));refine cK [6,7,8,9,10,11,12,13,14,15,16,17,18,19,20,21,22,23,24,25,26,27,28,29] (fun g nn M=>∃ (k:Nat),(g 6 = .int .u64 ((val xs / 4294967296 ^ k % d:Nat):Int)∧g 7 = .int .i64 ((k:Int) - 1))∧M=[⟨b4,29,uw (AX k (val xs / d))⟩,⟨b2,29,uw xs⟩]∧nn=k+0∧(k≤16)) (16) ?start ?round
 case start =>
  refine ⟨_,(List.Sublist.refl _),16,⟨?a6,?a7⟩,?mem0,rfl,Nat.le_refl _⟩
  case mem0=>rw [ZA]
  case a6=>rw [g2_ hx lx];rfl
  case a7=>rfl
 case round =>
  rintro nn g M ⟨k,⟨hg6,hg7⟩,rfl,hmeas,hk⟩;subst nn;simp only [fF,hg6,hg7];clear hg6 hg7;refine go5 ?_;refine aH _ rfl (fun hc=>?_) (fun hc=>?_)
  ·replace hc:=cB_ hc
   obtain ⟨m,rfl⟩:∃ m,k=m+1:=⟨k - 1,by omega⟩;have hr:val xs / 4294967296 ^ (m+1) % d<4294967296:=Nat.lt_trans (Nat.mod_lt _ h0) hd;refine go4 ?_;refine sQ (aL (mV rfl) rfl) rfl (sQ (aL (E2 rfl rfl dd_) (congrArg (Value.int .u64) (A7 hr))) rfl (sQ (aL (mV rfl) (congrArg (Value.int .i64) (show (((m+1:Nat):Int) - 1)=(m:Int) by omega))) rfl (sQ (gQ arT rfl rfl oo_ oo_) rfl (sQ (eM tyT rfl mm_ (xU oo_)) rfl ?_))));refine sQ (aL (fW j6 iQ rfl) (congrArg (Value.int .u64) ((nT (fJ lx _)).trans (by rw [gS xs m lx])))) rfl (sQ (aL (QZ rfl rfl) (congrArg (Value.int .u64) (KI hr (uZ _ _)))) rfl (go3 ?_));refine sQ (aL (mV rfl) (congrArg (Value.int .i64) (show (((m+1:Nat):Int) - 1)=(m:Int) by omega))) rfl (go2 ?_);refine sQ (aL (fW j6 iQ rfl) (congrArg (Value.int .u64) (nT hd))) rfl (sQ (aL (mG rfl rfl oo_) (congrArg (Value.int .u64) (XX _ _))) rfl (sQ (aL (fW iQ j6 rfl) (tB _)) rfl (sQ (gQ arT rfl rfl oo_ oo_) rfl (bD rfl (rE tyT rfl rfl uu_ (by rw [rB _ oo_];omega) (.inl (by assumption)) ?_)))));refine go4 ?_;refine sQ (aL (fW j6 iQ rfl) (congrArg (Value.int .u64) (nT hd))) rfl (sQ (aL (rR rfl rfl oo_) (congrArg (Value.int .u64) (FU _ _))) rfl (go3 ?_));refine sQ (aL (mV rfl) (congrArg (Value.int .i64) (show (((m+1:Nat):Int) - 1)=(m:Int) by omega))) rfl (go3 ?_);refine ⟨pp_,_,_,(List.Sublist.refl _),oo_,m,⟨?s6,?s7⟩,?mem,rfl,oo_⟩
   case mem=>rw [WC m h0,IJ oo_]
   case s6=>exact congrArg (fun m:Nat=>Value.int .u64 (m:Int)) (JI m h0).2
   case s7=>exact congrArg (Value.int .i64) (cO (n:=(m:Int) - 1) (by unfold I64;omega))
  replace hc:=cB_ hc
  obtain rfl:k=0:=by omega
  refine go2 ?_;refine sQ (cP tyT rfl mm_ (by simp [uw,rB])) rfl ?_;refine go_ ?_;refine sQ (aL (fW iQ j6 rfl) (tB _)) rfl (bD rfl (cC tyT rfl rfl uu_ (by simp [uw,rB]) (by simp [uw,rB]) (kH _) (.inl (by assumption)) ?_));refine go3 ?_;refine l8 rfl (.inr rfl) ⟨_,_,_,_,_,_,rfl,mm_,tyT,_,(eC (by simp [uw,rB])),(by simp [uw,rB]),rfl⟩ rfl ?_
  (rw [OW,Nat.pow_zero,Nat.div_one,Nat.mod_eq_of_lt (Nat.lt_trans (Nat.mod_lt _ h0) hd)];rfl)
theorem vY (xs ys:List Nat) (hx:xs.length=16) (hy:ys.length=16) (lx:Lim xs) (ly:Lim ys) (h0:0<val ys) :
    Ret prog 206 [UV xs,UV ys] (.tuple #[UV (toL 16 (val xs / val ys)),UV (toL 16 (val xs % val ys))]):=by
 refine bL (N:=94) func206 rfl rfl (by simp) (fun w0=>?_);simp only [bO,Nat.reduceAdd];refine go_ ?_;refine bD rfl (mB rfl rfl (fun b2 hb2=>bD rfl (mB rfl rfl (fun b3 hb3=>bD rfl (fP tK (fun b4 hb4=>bD rfl (fP tK (fun b5 hb5=>go2 ?_))))))));refine jQ (sk (sk (sk (sk (s0))))) 6 [] [] (pQ rfl (cP tyT rfl mm_ (by simp [uw,hy])) ?_);refine pQ rfl (bI aB (rJ ys hy) rfl) (pQ rfl (cP tyT rfl mm_ (by simp [uw,hx])) ?_);refine pQ rfl (bI aB (rJ xs hx) rfl) (go5 ?_);refine sQ (cP tyT rfl mm_ (by simp [uw,hx])) rfl ?_;refine sQ (cP tyT rfl mm_ (by simp [uw,hy])) rfl ?_;refine sQ (bI aB (rX xs ys hx hy lx ly) rfl) rfl (go2 ?_);refine aH _ rfl (fun ho=>?_) (fun ho=>?_)
 ·replace ho:=cB_ ho
  have hlt:=aS_ ho;refine go_ ?_;refine gdr (sd (sd (sk (sk (s0))))) [0,6,9,13] [2,3] mix (by kernel_rfl) (pQ rfl (tF tK arT rfl (.nil _)) (H9 rfl rfl (cP tyT rfl mm_ (by simp [uw,hx])) ?_));refine cF rfl rfl (cC tyT rfl rfl uu_ (by simp [uw,List.length_replicate]) (by simp [uw]) (kH _) (.inl (by assumption)) ⟨nf,ss_,?_⟩);refine cF rfl rfl (cC tyT rfl rfl uu_ (by simp [uw,hx]) (by simp [uw]) (kH _) (.inl (by assumption)) ⟨nf,ss_,?_⟩);refine go2 ?_;refine l8 rfl (.inr rfl) ⟨_,_,_,_,_,_,rfl,mm_,tyT,_,(eC (by simp [uw])),(by simp [uw]),rfl⟩ ⟨_,_,_,_,_,_,rfl,mm_,tyT,_,(eC (by simp [uw,hx])),(by simp [uw,hx]),rfl⟩ ?_;exact cb_ hx lx hlt
 replace ho:=cB_ ho
 have hle:=WZ (Int.not_lt.1 ho);have hsp:=gC_ h0;have hsz:=y8 ys;rw [hy] at hsz;refine go6 ?_;refine aH _ rfl (fun h29=>?_) (fun h29=>?_)
 ·replace h29:=cB_ h29
  have hsz1:szL ys=1:=by omega
  refine go_ ?_;refine sQ (cP tyT rfl mm_ (by simp [uw,hx])) rfl ?_;refine sQ (gQ arT rfl rfl dd_ dd_) rfl (sQ (eM tyT rfl mm_ (xU (k:=0) oo_)) rfl ?_);refine sQ (bI aB (KC xs hx lx _ (fJ ly 0) (XQ hsz1)) rfl) rfl (go3 ?_);refine bD rfl (fP tK (fun b8 hb8=>bD rfl (cC tyT rfl rfl uu_ (by simp [uw,dI]) (by simp [uw]) (kH _) (.inl (by assumption)) ?_)));refine go3 ?_;refine sQ (cP tyT rfl mm_ (by simp [uw,dI])) rfl ?_;refine go_ ?_;refine sQ (tF tK arT rfl (hb_ _)) rfl (bD rfl (cC tyT rfl rfl uu_ (by simp [uw,dI]) (by simp [uw]) (kH _) (.inl (by assumption)) ?_));refine bD rfl (cC tyT rfl rfl uu_ (by simp [uw,List.length_replicate]) (by simp [uw]) (kH _) (.inl (by assumption)) ?_);refine go2 ?_;refine l8 rfl (.inr rfl) ⟨_,_,_,_,_,_,rfl,mm_,tyT,_,(eC (by simp [uw,dI])),(by simp [uw,dI]),rfl⟩ ⟨_,_,_,_,_,_,rfl,mm_,tyT,_,(eC (by simp [uw])),(by simp [uw]),rfl⟩ ?_;exact dX_ ly hsz1
 replace h29:=cB_ h29
 have h2:2≤szL ys:=by omega
 have D:DV xs ys (szL ys) (32 - bl (ys.getD (szL ys - 1) 0)):=⟨hx,hy,lx,ly,rfl,h2,rfl,hle⟩;refine go3 ?_;refine sQ (aL (sK rfl rfl) (congrArg (Value.int .i64) (xS (b:=1) rfl oo_ oo_))) rfl (sQ (gQ arT rfl rfl oo_ oo_) rfl (sQ (eM tyT rfl mm_ (xU oo_)) rfl ?_));refine sQ (bI aB (bB_ _ (fJ ly _)) rfl) rfl (go3 ?_);refine sQ (cP tyT rfl mm_ (by simp [uw,hy])) rfl ?_;refine go_ ?_;refine sQ (bI aB (zL ys hy ly _ D.s32) rfl) rfl (go3 ?_);refine bD rfl (fP tK (fun b11 hb11=>bD rfl (cC tyT rfl rfl uu_ (by simp [uw,dI]) (by simp [uw]) (kH _) (.inl (by assumption)) ?_)));refine go3 ?_;refine sQ (cP tyT rfl mm_ (by simp [uw,hx])) rfl ?_;refine go_ ?_;refine sQ (bI aB (zL xs hx lx _ D.s32) rfl) rfl (go3 ?_);refine bD rfl (fP tK (fun b13 hb13=>bD rfl (cC tyT rfl rfl uu_ (by simp [uw,dI]) (by simp [uw]) (kH _) (.inl (by assumption)) ?_)));refine go3 ?_;refine bD rfl (fP h1_ (fun b15 hb15=>go2 ?_));refine gdr (sd (sk (sk (sk (sk (sk (sk (s0)))))))) [0,4,9] [2] mix (by kernel_rfl) (pQ rfl (yJ arT rfl rfl rfl dd_ dd_ dd_ dd_) (pQ rfl (yJ arT rfl rfl rfl dd_ dd_ dd_ dd_) ?_));refine cF rfl rfl (Q3 RE rfl rfl mm_ uu_ (fun v hv=>kH _ v (List.mem_of_mem_drop (List.mem_of_mem_take hv))) (by simp [uw,dI]) (by simp [uw]) (dm_ (dI _ _)) (.inl (by assumption)) ⟨nf,ss_,?_⟩);refine go3 ?_;refine sQ (gQ arT rfl rfl dd_ dd_) rfl (bD rfl (rE (k:=16) tyT rfl rfl uu_ (by simp [dI]) (.inl (by assumption)) ?_));refine go5 ?_;refine sQ (aL (sK rfl rfl) (congrArg (Value.int .i64) (YD D.nm (by have:=D.m16;omega)))) rfl (go3 ?_);refine cK [16,17,65,66,67,68,69,70,71,72,73,74,75,76,77,78,79,80,81,82,83,84,85,86,87] (fun g nn M=>∃ (k:Nat) (l:List Nat),(g 16 = .int .i64 ((k:Int) - 1))∧M=[⟨b15,254,uw l⟩,⟨b13,29,uw (toL 16 (val xs * 2 ^ (32 - bl (ys.getD (szL ys - 1) 0))))⟩,⟨b11,29,uw (toL 16 (val ys * 2 ^ (32 - bl (ys.getD (szL ys - 1) 0))))⟩,⟨b5,29,uw (List.replicate 16 0)⟩,⟨b4,29,uw (AX k (val xs / val ys))⟩,⟨b3,29,uw ys⟩,⟨b2,29,uw xs⟩]∧nn=k+0∧(k+szL ys≤17∧QI xs ys (32 - bl (ys.getD (szL ys - 1) 0)) k l)) (szL xs - szL ys+1) ?start ?round
 case start =>
  refine ⟨_,(List.Sublist.refl _),szL xs - szL ys+1,((toL 16 (val xs * 2 ^ (32 - bl (ys.getD (szL ys - 1) 0))) ++ [0]).set 16 (val xs * 2 ^ (32 - bl (ys.getD (szL ys - 1) 0)) / 4294967296 ^ 16)),?a16,?mem0,rfl,⟨by have:=D.nm;have:=D.m16;omega,QI.start D⟩⟩
  case mem0=>rw [← DV.qstart D]
  case a16=>exact congrArg (Value.int .i64) oo_
 case round =>
  rintro nn g M ⟨k,l,hg16,rfl,hmeas,⟨hkn,hq⟩⟩;subst nn;simp only [fF,hg16];clear hg16;refine go5 ?_;refine aH _ rfl (fun hc=>?_) (fun hc=>?_)
  ·replace hc:=cB_ hc
   obtain ⟨m,rfl⟩:∃ m,k=m+1:=⟨k - 1,by omega⟩;refine go4 ?_;refine sQ (cP tyT rfl mm_ (by simp [uw,dI])) rfl ?_;refine go_ ?_;refine sQ (aL (mV rfl) (congrArg (Value.int .i64) (show (((m+1:Nat):Int) - 1)=(m:Int) by omega))) rfl (bD rfl (dZ_ aB rfl (fun w hw=>KB l _ (szL ys) m (hq.qh D oo_) b15 254 w (hw.mem _ m0)) (fun d hd=>go4 ?_)));refine sQ (cP tyT rfl mm_ (by simp [uw,dI])) rfl ?_;refine go_ ?_;refine sQ (aL (mV rfl) (congrArg (Value.int .i64) (show (((m+1:Nat):Int) - 1)=(m:Int) by omega))) rfl (go_ ?_);refine bD rfl (XY aB rfl (fun w hw=>NY l _ (szL ys) m d hq.len hq.lim (dI _ _) (oQ _ _) (by rw [D.v16];exact D.vlt) oo_ (hq.small D) hd.1 b15 254 w (hw.mem _ m0)) (fun x=>uu_) (.inl (by assumption)) (fun x ht=>?_));refine go_ ?_;refine aH _ rfl (fun h77=>?_) (fun h77=>?_)
   ·replace h77:=cB_ h77
    refine go2 ?_;refine sQ (aL (sK rfl rfl) (congrArg (Value.int .u64) (NH rfl (ht.pos oo_) (by have:=hd.1;omega)))) rfl (go3 ?_);refine sQ (cP tyT rfl mm_ (by simp [uw,dI])) rfl ?_;refine go_ ?_;refine sQ (aL (mV rfl) (congrArg (Value.int .i64) (show (((m+1:Nat):Int) - 1)=(m:Int) by omega))) rfl (bD rfl (XY aB rfl (fun w hw=>NV x.1 _ (szL ys) m ht.len ht.lim (dI _ _) (oQ _ _) (by rw [D.v16];exact D.vlt) oo_ ht.small b15 254 w (hw.mem _ m0)) (fun y=>uu_) (.inl (by assumption)) (fun y hgv=>?_)));refine go_ ?_;obtain ⟨hz,hdz,_⟩:=hq.took1 D hd ht oo_ hgv;refine go_ ?_;refine sQ (aL (mV rfl) (congrArg (Value.int .i64) (show (((m+1:Nat):Int) - 1)=(m:Int) by omega))) rfl (go_ ?_);refine sQ (aL (fW iQ j6 rfl) (tB _)) rfl (sQ (gQ arT rfl rfl oo_ oo_) rfl (bD rfl (rE tyT rfl rfl uu_ (by rw [rB _ oo_];omega) (.inl (by assumption)) ?_)));refine go2 ?_;refine sQ (aL (mV rfl) (congrArg (Value.int .i64) (show (((m+1:Nat):Int) - 1)=(m:Int) by omega))) rfl (go3 ?_);refine ⟨pp_,_,_,(List.Sublist.refl _),oo_,m,_,?s16,?mem,rfl,⟨by omega,hz⟩⟩
    case mem=>rw [hdz,IJ oo_]
    case s16=>exact congrArg (Value.int .i64) (cO (n:=(m:Int) - 1) (by unfold I64;omega))
   replace h77:=cB_ h77
   obtain ⟨hz,hdz⟩:=hq.took0 D hd ht oo_;refine go2 ?_;refine sQ (aL (mV rfl) (congrArg (Value.int .i64) (show (((m+1:Nat):Int) - 1)=(m:Int) by omega))) rfl (go_ ?_);refine sQ (aL (fW iQ j6 rfl) (tB _)) rfl (sQ (gQ arT rfl rfl oo_ oo_) rfl (bD rfl (rE tyT rfl rfl uu_ (by rw [rB _ oo_];omega) (.inl (by assumption)) ?_)));refine go2 ?_;refine sQ (aL (mV rfl) (congrArg (Value.int .i64) (show (((m+1:Nat):Int) - 1)=(m:Int) by omega))) rfl (go3 ?_);refine ⟨pp_,_,_,(List.Sublist.refl _),oo_,m,_,?s16,?mem,rfl,⟨by omega,hz⟩⟩
   case mem=>rw [hdz,IJ oo_]
   case s16=>exact congrArg (Value.int .i64) (cO (n:=(m:Int) - 1) (by unfold I64;omega))
  replace hc:=cB_ hc
  obtain rfl:k=0:=by omega
  refine go2 ?_;refine gdr (sk (sk (sk (sd (sd (sk (sk (s0)))))))) [0,4,8,12,16,20,25,29] [6,7] mix (by kernel_rfl) (pQ rfl (cP tyT rfl mm_ (by rw [j1,rB _ oo_])) ?_);refine pQ rfl (yJ arT rfl rfl rfl dd_ dd_ dd_ dd_) (pQ rfl (b7_ arT rfl dd_) (pQ rfl (kS (vs:=uw (l.take 16)) tyT rfl mm_ ej_ (by simp [uw,hq.len])) ?_));refine go_ ?_;refine pQ rfl (bI aB (FG (l.take 16) (by simp [hq.len]) (hq.lim.take 16) _ D.s32) rfl) ?_;refine cF rfl rfl (cC tyT rfl rfl uu_ (by rw [j1,rB _ oo_]) (by rw [j1,rB _ oo_]) (kH _) (.inl (by assumption)) ⟨nf,ss_,?_⟩);refine cF rfl rfl (cC tyT rfl rfl uu_ (by simp [uw,dI]) (by simp [uw]) (kH _) (.inl (by assumption)) ⟨nf,ss_,?_⟩);refine go2 ?_;refine l8 rfl (.inr rfl) ⟨_,_,_,_,_,_,rfl,mm_,tyT,_,(eC (by rw [j1,rB _ oo_])),(by rw [j1,rB _ oo_]),rfl⟩ ⟨_,_,_,_,_,_,rfl,mm_,tyT,_,(eC (by simp [uw,dI])),(by simp [uw,dI]),rfl⟩ ?_
  (rw [OW,hq.fin D];rfl)
end Go.Proofs.YtkjjponijamaoaaGreatDoor
