/- Lemmas: what they ask stands in their statements. -/
import Derived.Test.YtokjfhfiodopdaaGreatWSh
set_option linter.unusedSimpArgs false
set_option linter.unusedVariables false
set_option maxHeartbeats 8000000
set_option maxRecDepth 20000
namespace Go.Proofs.YtokjfhfiodopdaaGreat
open Go.Kn Go.Num Tryz
attribute [local irreducible] Go.Kn.W WL PL OpQ OpR OpS
theorem dV (a b:R) (ha:a.Ok) (hb:b.Ok) :
    Ret prog 117 [RV a,RV b] (RV (Z.mul a.dec b.dec).enc):=by
 refine bT (N:=82) func117 rfl rfl (by simp) (fun w0=>?_);simp only [bK,Nat.reduceAdd];refine go_ ?_;refine bC rfl (jN rfl rfl (fun b2 hb2=>bC rfl (jN rfl rfl (fun b3 hb3=>bC rfl (eD kR (fun b4 hb4=>go3 ?_))))));refine sQ (cJ tyT rfl mm_ (cX ha)) rfl ?_;refine sQ (cJ tyT rfl mm_ (cX hb)) rfl ?_;refine bC rfl (jA nM kR nU rfl dd_ rfl (KN ha hb) (fun b13 hb13=>sQ (bE aJ rfl (fun w hw=>iN [a,b] (ok2 ha hb) b13 27 w (hw.mem _ m0) (by simp))) rfl ?_));refine go2 ?_;refine aQ _ rfl (fun hg=>?_) (fun hg=>?_)
 ·replace hg:=cB_ hg
  refine go_ ?_;refine sQ (bM aJ iQ rfl) rfl (bC rfl (bO tyT rfl rfl uu_ (aL _) rfl (bI _) (.inl (by assumption)) ?_));refine go2 ?_;refine bG rfl (.inr rfl) ⟨_,_,_,_,_,_,rfl,mm_,tyT,_,(dS (aL _)),(aL _),rfl⟩ ?_
  (rw [Z.mul,jB (BY hg)];rfl)
 replace hg:=cB_ hg
 have hg:=all2.1 hg;refine go2 ?_;refine bC rfl (eD fN_ (fun b5 hb5=>go2 ?_));have hsa:=tS a.w;have hsb:=tS b.w;rw [ha.len] at hsa;rw [hb.len] at hsb;refine rK (sk (sk (sk (sk (sk (s0)))))) 8 [] [] (pQ rfl (cC fdT dd_ rfl) (pQ rfl (hZ (vs:=uw a.w) tyT rfl mm_ (kH ha.len) ((gI _).trans ha.len)) ?_));refine pQ rfl (bM aJ (mL a.w ha.len) rfl) (pQ rfl (cC fdT dd_ rfl) (pQ rfl (hZ (vs:=uw b.w) tyT rfl mm_ (kH hb.len) ((gI _).trans hb.len)) ?_));refine pQ rfl (bM aJ (mL b.w hb.len) rfl) (go9 ?_);refine cF [8,9,10,24,25,26,27,28,29,30,31,32,33,34,35,36,37,38,39,40,41,42,43,44,45,46,47,48,49,50,51,52,53,54,55,56,57,58,59,60,61,62,63,64,65,66] (fun g nn M=>∃ (i:Nat) (l:List Nat),(g 24 = .int .i64 (i:Int))∧M=[⟨b5,168,uw l⟩,⟨b4,27,zR⟩,⟨b3,27,b.cells⟩,⟨b2,27,a.cells⟩]∧nn=szL a.w - i∧(i≤szL a.w∧MulOut (val a.w) (val b.w) (szL b.w) i l)) (szL a.w - 0) ?start ?round
 case start =>
  refine ⟨_,(List.Sublist.cons_cons _ (List.Sublist.cons _ (List.Sublist.refl _))),0,_,?a24,?mem0,rfl,⟨Nat.zero_le _,MulOut.start _ _ _⟩⟩
  case mem0=>rfl
  case a24=>rfl
 case round =>
  rintro nn g M ⟨i,l,hg24,rfl,hmeas,⟨hile,hM⟩⟩;subst nn;simp only [eH,hg24];clear hg24;refine go4 ?_;refine aQ _ rfl (fun hi=>?_) (fun hi=>?_)
  ·replace hi:=cB_ hi
   have hia:i<a.w.length:=by rw [ha.len];omega
   refine a2_ ?_;refine cF [9,10,28,29,30,31,32,33,34,35,36,37,38,39,40,41,42,43,44,45,46,47,48,49,50,51,52,53,54,55,56,57,58,59] (fun g nn M=>∃ (k:Nat) (l:List Nat) (c:Nat),(g 9 = .int .u64 (c:Int)∧g 28 = .int .i64 (k:Int))∧M=[⟨b5,168,uw l⟩,⟨b4,27,zR⟩,⟨b3,27,b.cells⟩,⟨b2,27,a.cells⟩]∧nn=szL b.w - k∧(k≤szL b.w∧MulIn (val a.w) (val b.w) (szL b.w) i k l c)) (szL b.w - 0) ?start ?round
   case start =>
    refine ⟨_,(List.Sublist.refl _),0,l,0,⟨?a9,?a28⟩,?mem0,rfl,⟨Nat.zero_le _,hM.row⟩⟩
    case mem0=>rfl
    case a9=>rfl
    case a28=>rfl
   case round =>
    rintro nn g M ⟨k,l,c,⟨hg9,hg28⟩,rfl,hmeas,⟨hkle,hM⟩⟩;subst nn;simp only [eH,hg9,hg28];clear hg9 hg28;refine go4 ?_;refine aQ _ rfl (fun hk=>?_) (fun hk=>?_)
    ·replace hk:=cB_ hk
     have hkb:k<b.w.length:=by rw [hb.len];omega
     refine go8 ?_;refine gdr (sk (sk (sk (sk (s0))))) [0,4,8,12,16,20,24,28,32,36,40,44,48,52,56,60,64,68,72,76,80] [] mix (by kernel_rfl) (go2 ?_);refine pQ rfl (cC fdT dd_ rfl) (pQ rfl (eK arT rfl rfl oo_ oo_) (pQ rfl (dJ tyT rfl mm_ (mO hia)) ?_));refine pQ rfl (dY gJ fD rfl) (go_ ?_);refine pQ rfl (cC fdT dd_ rfl) (pQ rfl (eK arT rfl rfl oo_ oo_) (pQ rfl (dJ tyT rfl mm_ (mO hkb)) ?_));refine pQ rfl (dY gJ fD rfl) (go3 ?_);refine pQ rfl (aS (iO rfl rfl) (congrArg (Value.int .i64) (nA oo_))) (pQ rfl (eK arT rfl rfl oo_ oo_) (pQ rfl (dJ tyT rfl mm_ (r8 (by rw [hM.len];omega))) ?_));refine pQ rfl (dY gJ fD rfl) (go_ ?_);refine pQ rfl (aS (iO rfl rfl) (congrArg (Value.int .u64) (e0_ (dR ha.lim i) (dR hb.lim k) (dR hM.lim (i+k)) hM.clt))) (go5 ?_);refine sQ (aS (iO rfl rfl) (congrArg (Value.int .i64) (nA oo_))) rfl (go_ ?_);refine sQ (aS (dY fD gJ rfl) (nO _)) rfl (sQ (eK arT rfl rfl oo_ oo_) rfl (bC rfl (mJ tyT rfl rfl uu_ (by rw [hM.len];omega) (.inl (by assumption)) ?_)));refine go3 ?_;refine sQ (aS (tJ rfl rfl dd_) (congrArg (Value.int .u64) (pR _ 32))) rfl (go3 ?_);refine sQ (aS (iO rfl rfl) (congrArg (Value.int .i64) (jK oo_))) rfl (go2 ?_);refine ⟨pp_,_,_,(List.Sublist.refl _),oo_,k+1,_,_,⟨?s9,?s28⟩,?mem,rfl,⟨by omega,UW hM ha.lim hb.lim oo_ oo_⟩⟩
     case mem=>rfl
     case s9=>rfl
     case s28=>rfl
    replace hk:=cB_ hk
    obtain rfl:k=szL b.w:=by omega
    refine go4 ?_;refine sQ (aS (iO rfl rfl) (congrArg (Value.int .i64) (nA oo_))) rfl (go_ ?_);refine sQ (aS (dY fD gJ rfl) (ei_ hM.clt)) rfl (sQ (eK arT rfl rfl oo_ oo_) rfl (bC rfl (mJ tyT rfl rfl uu_ (by rw [hM.len];omega) (.inl (by assumption)) ?_)));refine go2 ?_;refine sQ (aS (iO rfl rfl) (congrArg (Value.int .i64) (jK oo_))) rfl (go2 ?_);refine ⟨pp_,_,_,(List.Sublist.refl _),oo_,i+1,_,?s24,?mem,rfl,⟨by omega,hM.done oo_ (sW hb.lim)⟩⟩
    case mem=>rfl
    case s24=>rfl
  replace hi:=cB_ hi
  obtain rfl:i=szL a.w:=by omega
  refine go3 ?_;refine sQ (GL arT rfl rfl rfl dd_ dd_ dd_ dd_) rfl (sQ (Y6 arT rfl dd_) rfl (sQ (hZ (vs:=uw (l.drop 16)) tyT rfl mm_ (fJ_ hM.len) (by simp [uw,hM.len])) rfl ?_));refine sQ (nR oZ arT rfl (.nil _)) rfl ?_;refine sQ (A5 (r:=decide (l.drop 16=List.replicate 16 0)) rfl rfl (mQ 8 dd_ FK F7 (mK (by simp [hM.len])) (mK (by simp)) (da_ _ _))) rfl ?_;refine go_ ?_;refine aQ _ rfl (fun h71=>?_) (fun h71=>?_)
  ·replace h71:=cB_ h71
   refine go_ ?_;refine sQ (bM aJ iQ rfl) rfl (bC rfl (bO tyT rfl rfl uu_ (aL _) rfl (bI _) (.inl (by assumption)) ?_));refine go2 ?_;refine bG rfl (.inr rfl) ⟨_,_,_,_,_,_,rfl,mm_,tyT,_,(dS (aL _)),(aL _),rfl⟩ ?_;exact congrArg RV (bd_ ha hb hg.1 hg.2 hM.len hM.lim (GB hM ha) (by simpa using h71))
  replace h71:=cB_ h71
  refine go2 ?_;refine rK (sk (sd (sk (sk (s0))))) 10 [9] [9] (pQ rfl (cC fdT dd_ rfl) (pQ rfl (dJ tyT rfl mm_ rfl) ?_));refine pQ rfl (cC fdT dd_ rfl) (pQ rfl (dJ tyT rfl mm_ rfl) ?_);refine pQ rfl (qQ xS rfl rfl) (pQ rfl (GL arT rfl rfl rfl dd_ dd_ dd_ dd_) (pQ rfl (Y6 arT rfl dd_) (pQ rfl (hZ (vs:=uw (l.take 16)) tyT rfl mm_ (fK_ hM.len) (by simp [uw,hM.len])) ?_)));refine pQ rfl (bM aJ (fH (a.neg != b.neg) (l.take 16) (by simp [hM.len]) (hM.lim.take 16)) rfl) ?_;refine fM rfl rfl (bO tyT rfl rfl uu_ (kI (by simp [hM.len])) rfl (bI _) (.inl (by assumption)) ⟨nf,ss_,?_⟩);refine go2 ?_;refine bG rfl (.inr rfl) ⟨_,_,_,_,_,_,rfl,mm_,tyT,_,(dS (kI (by simp [hM.len]))),(kI (by simp [hM.len])),rfl⟩ ?_;exact congrArg RV (be_ ha hb hg.1 hg.2 hM.len hM.lim (GB hM ha) (by simpa using h71))
theorem EE (us vs:List Nat) (n j:Nat) (H:QH us vs n j) (bu T:Nat) (w:World) (hbu:w.heap[bu]? = some (.cells (uw us).toArray T (0,0))) :
    Calls prog 190 [.pointer (some ⟨bu,0,none⟩),UV vs,.int .i64 (n:Int),.int .i64 (j:Int)].toArray w (fun e w'=>∃ x:Nat,e = .returned (.int .u64 (x:Int))∧Ext w w'∧MS us vs j x):=by
 refine NC (N:=77) (g:=fun x:Nat=>.int .u64 (x:Int)) (Q:=fun x:Nat=>MS us vs j x) func190 rfl rfl (by simp) ?_;obtain ⟨w0,rfl⟩:∃ w0,w0=w:=⟨_,rfl⟩;simp only [bK,Nat.reduceAdd];have G:=H.gh;have hn2:=H.n2;have hjn:=H.jn;have hul:=H.ulen;have hvl:=H.vlen;refine go_ ?_;refine bC rfl (jN rfl rfl (fun b5 hb5=>go3 ?_));refine gdr (sk (s0)) [0,4,8,12,16,20,24,28,32,36,40,44,48,52,56,60,64,68,72,76] [] mix (by kernel_rfl) (go3 ?_);refine pQ rfl (aS (iO rfl rfl) (congrArg (Value.int .i64) (nA oo_))) (go_ ?_);refine pQ rfl (eK arT rfl rfl oo_ oo_) (pQ rfl (EV tyT rfl hbu (by simp) (r8 oo_)) ?_);refine pQ rfl (aS (dY gJ fD rfl) (uZ (dR H.ulim _))) (pQ rfl (aS (AD rfl rfl dd_) (congrArg (Value.int .u64) (vE (dR H.ulim _)))) (go3 ?_));refine pQ rfl (aS (iO rfl rfl) (congrArg (Value.int .i64) (nA oo_))) (pQ rfl (aS (nF rfl rfl) (congrArg (Value.int .i64) (rY (b:=1) rfl oo_ oo_))) (go_ ?_));refine pQ rfl (eK arT rfl rfl oo_ oo_) (pQ rfl (EV tyT rfl hbu (by simp) (r8 oo_)) ?_);refine pQ rfl (aS (dY gJ fD rfl) (uZ (dR H.ulim _))) (pQ rfl (aS (LR rfl rfl) (congrArg (Value.int .u64) (OF (dR H.ulim _) (dR H.ulim _)))) (go4 ?_));refine sQ (aS (nF rfl rfl) (congrArg (Value.int .i64) (rY (b:=1) rfl oo_ oo_))) rfl (sQ (eK arT rfl rfl oo_ oo_) rfl (sQ (dJ tyT rfl mm_ (r8 oo_)) rfl ?_));refine sQ (aS (dY gJ fD rfl) (uZ (dR H.vlim _))) rfl (go3 ?_);refine rK (sk (s0)) 8 [] [] (go2 ?_);refine pQ rfl (aS (rS rfl rfl (by have:=G.f0;omega)) (congrArg (Value.int .u64) (bv_ (by have:=G.topLt;have:=G.f1;omega)))) (go2 ?_);refine pQ rfl (aS (rT rfl rfl (by have:=G.f0;omega)) (congrArg (Value.int .u64) (zS _ _))) (go5 ?_);refine cF [11,12,43,44,45,46,47,48,49,50,51,52,53,54,55,56,57,58,59,60,61,62,63,64,65,66,67,68,69,70,71,72,73,74,75] (fun g nn M=>∃ (d rest:Nat),(g 11 = .int .u64 (d:Int)∧g 12 = .int .u64 (rest:Int))∧M=[⟨b5,25,uw vs⟩]∧nn=d∧(GI (vs.getD (n - 1) 0) (us.getD (j+n) 0 * 4294967296+us.getD (j+n - 1) 0) (val us / (val vs * 4294967296 ^ j)) d rest)) ((us.getD (j+n) 0 * 4294967296+us.getD (j+n - 1) 0) / vs.getD (n - 1) 0) ?start ?round
 case start =>
  refine ⟨_,(List.Sublist.refl _),_,_,⟨?a11,?a12⟩,?mem0,rfl,GI.start G⟩
  case mem0=>rfl
  case a11=>rfl
  case a12=>rfl
 case round =>
  rintro nn g M ⟨d,rest,⟨hg11,hg12⟩,rfl,hmeas,hG⟩;subst nn;simp only [eH,hg11,hg12];clear hg11 hg12;refine go2 ?_;refine gdr (sk (s0)) [0,4,8,12,16,20,24,28,32,36,40,44,48,52,56,60,64,68,72,76,80,84,88,92,96,100,104,108] [] mix (by kernel_rfl) (go3 ?_)
  cases h2:decide ((rest:Int)<4294967296)
  ·refine gb_ ?_;refine bG rfl (.inr rfl) rfl ?_;exact ⟨d,rfl,IQ H hG (.inl (by have:=of_decide_eq_false h2;omega))⟩
  refine go3 ?_
  cases h5:decide ((4294967296:Int)≤(d:Int))
  ·refine go2 ?_;refine pQ rfl (aS (nF rfl rfl) (congrArg (Value.int .i64) (rY (b:=2) rfl oo_ oo_))) (pQ rfl (eK arT rfl rfl oo_ oo_) (pQ rfl (dJ tyT rfl mm_ (r8 oo_)) ?_));refine pQ rfl (aS (dY gJ fD rfl) (uZ (dR H.vlim _))) (pQ rfl (aS (S7 rfl rfl) (congrArg (Value.int .u64) (SU (SO (by have:=of_decide_eq_false h5;omega) (dR H.vlim _))))) (go_ ?_));refine pQ rfl (aS (AD rfl rfl dd_) (congrArg (Value.int .u64) (vE (by have:=of_decide_eq_true h2;omega)))) (go3 ?_);refine pQ rfl (aS (iO rfl rfl) (congrArg (Value.int .i64) (nA oo_))) (pQ rfl (aS (nF rfl rfl) (congrArg (Value.int .i64) (rY (b:=2) rfl oo_ oo_))) (go_ ?_));refine pQ rfl (eK arT rfl rfl oo_ oo_) (pQ rfl (EV tyT rfl hbu (by simp) (r8 oo_)) ?_);refine pQ rfl (aS (dY gJ fD rfl) (uZ (dR H.ulim _))) (pQ rfl (aS (LR rfl rfl) (congrArg (Value.int .u64) (OF (by have:=of_decide_eq_true h2;omega) (dR H.ulim _)))) (go4 ?_));refine aQ _ rfl (fun h68=>?_) (fun h68=>?_)
   ·replace h68:=cB_ h68
    refine go3 ?_;have hmore:=GI.more G hG (by have:=of_decide_eq_true h2;omega) (by first | exact .inl (by have:=of_decide_eq_true h5;omega) | exact .inr (by exact_mod_cast h68));refine go_ ?_;refine sQ (aS (nF rfl rfl) (congrArg (Value.int .u64) (G3 rfl hmore.1 (by have:=GI.dlt G hG;omega)))) rfl (go5 ?_);refine sQ (aS (iO rfl rfl) (congrArg (Value.int .u64) (JZ (by have:=hG.rlt;have:=G.f1;omega)))) rfl (go2 ?_);refine ⟨pp_,_,_,(List.Sublist.refl _),(by have:=hmore.1;omega),d - 1,rest+vs.getD (n - 1) 0,⟨?s11,?s12⟩,?mem,rfl,hmore.2⟩
    case mem=>rfl
    case s11=>rfl
    case s12=>rfl
   replace h68:=cB_ h68
   refine go6 ?_;refine bG rfl (.inr rfl) rfl ?_;exact ⟨d,rfl,IQ H hG (.inr ⟨by have:=of_decide_eq_false h5;omega,by have h69:=Int.not_lt.1 h68;exact_mod_cast h69⟩)⟩
  refine eT_ ?_;have hmore:=GI.more G hG (by have:=of_decide_eq_true h2;omega) (by first | exact .inl (by have:=of_decide_eq_true h5;omega) | exact .inr (by exact_mod_cast h68));refine go_ ?_;refine sQ (aS (nF rfl rfl) (congrArg (Value.int .u64) (G3 rfl hmore.1 (by have:=GI.dlt G hG;omega)))) rfl (go5 ?_);refine sQ (aS (iO rfl rfl) (congrArg (Value.int .u64) (JZ (by have:=hG.rlt;have:=G.f1;omega)))) rfl (go2 ?_);refine ⟨pp_,_,_,(List.Sublist.refl _),(by have:=hmore.1;omega),d - 1,rest+vs.getD (n - 1) 0,⟨?s11,?s12⟩,?mem,rfl,hmore.2⟩
  case mem=>rfl
  case s11=>rfl
  case s12=>rfl
theorem HM (us vs:List Nat) (n j d:Nat) (hu:us.length=17) (lu:Lim us) (hv:vs.length=16) (lv:Lim vs) (hV:val vs<4294967296 ^ n) (hjn:j+n≤16) (hsm:val us<4294967296 ^ (j+n+1)) (hd:d<4294967296) (bu T:Nat) (w:World) (hbu:w.heap[bu]? = some (.cells (uw us).toArray T (0,0))) :
    Calls prog 191 [.pointer (some ⟨bu,0,none⟩),UV vs,.int .i64 (n:Int),.int .i64 (j:Int),.int .u64 (d:Int)].toArray w (fun e w'=>∃ x:List Nat×Nat,e = .returned (.bool (((x.2:Nat):Int)==1))∧ExtX [bu] w w'∧w'.heap[bu]? = some (.cells (uw x.1).toArray T (0,0))∧Took us (val vs) d j n x):=by
 refine NB (N:=78) (g:=fun x:List Nat×Nat=>.bool (((x.2:Nat):Int)==1)) (cs':=fun x:List Nat×Nat=>uw x.1) (Q:=fun x:List Nat×Nat=>Took us (val vs) d j n x) func191 rfl rfl (by simp) hbu ?_;obtain ⟨w0,rfl⟩:∃ w0,w0=w:=⟨_,rfl⟩;simp only [bK,Nat.reduceAdd];refine go_ ?_;refine bC rfl (jN rfl rfl (fun b6 hb6=>FU ?_));refine cF [11,12,13,14,17,18,19,20,21,22,23,24,25,26,27,28,29,30,31,32,33,34,35,36,37,38,39,40,41,42,43,44,45,46,47,48,49,50,51,52,53,54] (fun g nn M=>∃ (i:Nat) (l:List Nat) (c bo:Nat),(g 11 = .int .u64 (c:Int)∧g 12 = .int .u64 (bo:Int)∧g 17 = .int .i64 (i:Int))∧M=[⟨b6,25,uw vs⟩,⟨bu,T,uw l⟩]∧nn=n - i∧(i≤n∧TakeIn us (val vs) d j i l c bo)) (n - 0) ?start ?round
 case start =>
  refine ⟨_,(List.Sublist.refl _),0,us,0,0,⟨?a11,?a12,?a17⟩,?mem0,rfl,⟨Nat.zero_le _,TakeIn.start hu lu _ _ _⟩⟩
  case mem0=>rfl
  case a11=>rfl
  case a12=>rfl
  case a17=>rfl
 case round =>
  rintro nn g M ⟨i,l,c,bo,⟨hg11,hg12,hg17⟩,rfl,hmeas,⟨hi,hT⟩⟩;subst nn;simp only [eH,hg11,hg12,hg17];clear hg11 hg12 hg17;refine go4 ?_;refine aQ _ rfl (fun hc=>?_) (fun hc=>?_)
  ·replace hc:=cB_ hc
   have hc:i<n:=by omega
   refine vK ?_;refine sQ (eK arT rfl rfl oo_ oo_) rfl (sQ (dJ tyT rfl mm_ (r8 oo_)) rfl ?_);refine sQ (dY gJ fD rfl) rfl (go_ ?_);refine sQ (aS (iO rfl rfl) (congrArg (Value.int .u64) (ee_ hT.clt hd (dR lv i)))) rfl (go6 ?_);refine sQ (aS (iO rfl rfl) (congrArg (Value.int .i64) (nA oo_))) rfl (go_ ?_);refine sQ (eK arT rfl rfl oo_ oo_) rfl (sQ (dJ tyT rfl mm_ (r8 (by rw [hT.len];omega))) rfl ?_);refine sQ (dY gJ fD rfl) rfl (go_ ?_);refine sQ (aS (dY fD gJ rfl) (nO _)) rfl (sQ (dY gJ fD rfl) rfl (go2 ?_));refine sQ (aS (nF rfl rfl) (congrArg (Value.int .u64) (cs_ hT.ble (dR hT.lim _) (Nat.mod_lt _ dd_)))) rfl (go6 ?_);refine sQ (aS (iO rfl rfl) (congrArg (Value.int .i64) (nA oo_))) rfl (go_ ?_);refine sQ (aS (dY fD gJ rfl) (nO _)) rfl (go_ ?_);refine sQ (eK arT rfl rfl oo_ oo_) rfl (bC rfl (mJ tyT rfl rfl uu_ (by rw [hT.len];omega) (by first | exact .inl (by assumption) | exact .inr (List.mem_singleton.2 rfl)) ?_));refine go3 ?_;refine sQ (aS (tJ rfl rfl dd_) (congrArg (Value.int .u64) (pR _ 63))) rfl (go4 ?_);refine sQ (aS (tJ rfl rfl dd_) (congrArg (Value.int .u64) (pR _ 32))) rfl (go3 ?_);refine sQ (aS (iO rfl rfl) (congrArg (Value.int .i64) (jK oo_))) rfl (go2 ?_);refine ⟨pp_,_,_,(List.Sublist.refl _),oo_,i+1,_,_,_,⟨?s11,?s12,?s17⟩,?mem,rfl,⟨by omega,RB hT lv oo_ hd⟩⟩
   case mem=>rfl
   case s11=>rfl
   case s12=>rfl
   case s17=>rfl
  replace hc:=cB_ hc
  obtain rfl:n=i:=by omega
  refine go5 ?_;refine sQ (aS (iO rfl rfl) (congrArg (Value.int .i64) (nA oo_))) rfl (go_ ?_);refine sQ (eK arT rfl rfl oo_ oo_) rfl (sQ (dJ tyT rfl mm_ (r8 (by rw [hT.len];omega))) rfl ?_);refine sQ (dY gJ fD rfl) rfl (go3 ?_);refine sQ (aS (nF rfl rfl) (congrArg (Value.int .u64) (ec_ hT.ble (dR hT.lim _) hT.clt))) rfl (go6 ?_);refine sQ (aS (iO rfl rfl) (congrArg (Value.int .i64) (nA oo_))) rfl (go_ ?_);refine sQ (aS (dY fD gJ rfl) (nO _)) rfl (go_ ?_);refine sQ (eK arT rfl rfl oo_ oo_) rfl (bC rfl (mJ tyT rfl rfl uu_ (by rw [hT.len];omega) (by first | exact .inl (by assumption) | exact .inr (List.mem_singleton.2 rfl)) ?_));refine go3 ?_;refine sQ (aS (tJ rfl rfl dd_) (congrArg (Value.int .u64) (pR _ 63))) rfl (go4 ?_);refine bG rfl (.inr rfl) rfl ?_;exact ⟨(_,_),rfl,by first | exact .tail _ (.head _) | exact .head _,TakeIn.took hT oo_ hV lu hsm⟩
theorem HK (us vs:List Nat) (n j:Nat) (hu:us.length=17) (lu:Lim us) (hv:vs.length=16) (lv:Lim vs) (hV:val vs<4294967296 ^ n) (hjn:j+n≤16) (hsm:val us<4294967296 ^ (j+n+1)) (bu T:Nat) (w:World) (hbu:w.heap[bu]? = some (.cells (uw us).toArray T (0,0))) :
    Calls prog 192 [.pointer (some ⟨bu,0,none⟩),UV vs,.int .i64 (n:Int),.int .i64 (j:Int)].toArray w (fun e w'=>∃ x:List Nat,e = .returned (.tuple #[])∧ExtX [bu] w w'∧w'.heap[bu]? = some (.cells (uw x).toArray T (0,0))∧Gave us (val vs) j n x):=by
 refine NB (N:=52) (g:=fun x:List Nat=>.tuple #[]) (cs':=fun x:List Nat=>uw x) (Q:=fun x:List Nat=>Gave us (val vs) j n x) func192 rfl rfl (by simp) hbu ?_;obtain ⟨w0,rfl⟩:∃ w0,w0=w:=⟨_,rfl⟩;simp only [bK,Nat.reduceAdd];refine go_ ?_;refine bC rfl (jN rfl rfl (fun b5 hb5=>pO ?_));refine cF [8,9,11,12,13,14,15,16,17,18,19,20,21,22,23,24,25,26,27,28,29,30,31,32,33,34,35,36,37,38,39] (fun g nn M=>∃ (i:Nat) (l:List Nat) (c:Nat),(g 8 = .int .u64 (c:Int)∧g 11 = .int .i64 (i:Int))∧M=[⟨b5,25,uw vs⟩,⟨bu,T,uw l⟩]∧nn=n - i∧(i≤n∧GiveIn us (val vs) j i l c)) (n - 0) ?start ?round
 case start =>
  refine ⟨_,(List.Sublist.refl _),0,us,0,⟨?a8,?a11⟩,?mem0,rfl,⟨Nat.zero_le _,GiveIn.start hu lu _ _⟩⟩
  case mem0=>rfl
  case a8=>rfl
  case a11=>rfl
 case round =>
  rintro nn g M ⟨i,l,c,⟨hg8,hg11⟩,rfl,hmeas,⟨hi,hT⟩⟩;subst nn;simp only [eH,hg8,hg11];clear hg8 hg11;refine go4 ?_;refine aQ _ rfl (fun hc=>?_) (fun hc=>?_)
  ·replace hc:=cB_ hc
   have hc:i<n:=by omega
   refine go8 ?_;refine rK (sk (sk (s0))) 16 [] [] (go4 ?_);refine pQ rfl (aS (iO rfl rfl) (congrArg (Value.int .i64) (nA oo_))) (go_ ?_);refine pQ rfl (eK arT rfl rfl oo_ oo_) (pQ rfl (dJ tyT rfl mm_ (r8 (by rw [hT.len];omega))) ?_);refine pQ rfl (dY gJ fD rfl) (go_ ?_);refine pQ rfl (eK arT rfl rfl oo_ oo_) (pQ rfl (dJ tyT rfl mm_ (r8 oo_)) ?_);refine pQ rfl (dY gJ fD rfl) (go_ ?_);refine pQ rfl (aS (iO rfl rfl) (congrArg (Value.int .u64) (dk_ hT.cle (dR hT.lim _) (dR lv i)))) (go6 ?_);refine sQ (aS (iO rfl rfl) (congrArg (Value.int .i64) (nA oo_))) rfl (go_ ?_);refine sQ (aS (dY fD gJ rfl) (nO _)) rfl (go_ ?_);refine sQ (eK arT rfl rfl oo_ oo_) rfl (bC rfl (mJ tyT rfl rfl uu_ (by rw [hT.len];omega) (by first | exact .inl (by assumption) | exact .inr (List.mem_singleton.2 rfl)) ?_));refine go3 ?_;refine sQ (aS (tJ rfl rfl dd_) (congrArg (Value.int .u64) (pR _ 32))) rfl (go3 ?_);refine sQ (aS (iO rfl rfl) (congrArg (Value.int .i64) (jK oo_))) rfl (go2 ?_);refine ⟨pp_,_,_,(List.Sublist.refl _),oo_,i+1,_,_,⟨?s8,?s11⟩,?mem,rfl,⟨by omega,P9 hT lv oo_⟩⟩
   case mem=>rfl
   case s8=>rfl
   case s11=>rfl
  replace hc:=cB_ hc
  obtain rfl:n=i:=by omega
  refine go_ ?_;refine rK (sk (sd (s0))) 13 [12] [12] (go3 ?_);refine pQ rfl (aS (iO rfl rfl) (congrArg (Value.int .i64) (nA oo_))) (go_ ?_);refine pQ rfl (eK arT rfl rfl oo_ oo_) (pQ rfl (dJ tyT rfl mm_ (r8 (by rw [hT.len];omega))) ?_);refine go_ ?_;refine pQ rfl (dY fD gJ rfl) (pQ rfl (aS (iO rfl rfl) (dj_ (dR hT.lim _) hT.cle)) (go_ ?_));refine pQ rfl (eK arT rfl rfl oo_ oo_) ?_;refine fM rfl rfl (mJ tyT rfl rfl uu_ (by rw [hT.len];omega) (by first | exact .inl (by assumption) | exact .inr (List.mem_singleton.2 rfl)) ⟨nf,ss_,?_⟩);refine go_ ?_;refine EC rfl (.inl rfl) ?_;exact ⟨_,rfl,by first | exact .tail _ (.head _) | exact .head _,GiveIn.gave hT oo_ hV lu hsm⟩
theorem IT (x:Nat) (hx:x<4294967296) :
    Ret prog 197 [U32 x] (.int .i64 ((bl x:Nat):Int)):=by
 refine bT (N:=19) func197 rfl rfl (by simp) (fun w0=>?_);simp only [bK,Nat.reduceAdd];refine go8 ?_;refine aQ _ rfl (fun h1=>?_) (fun h1=>?_)
 ·replace h1:=cB_ h1
  refine go2 ?_;refine sQ (aS (tJ rfl rfl dd_) (MA x 16)) rfl (pO ?_);refine aQ _ rfl (fun h2=>?_) (fun h2=>?_)
  ·replace h2:=cB_ h2
   refine go2 ?_;refine sQ (aS (tJ rfl rfl dd_) (MA _ 8)) rfl (pO ?_);refine sQ (aS (dY gJ KX rfl) (TW oo_)) rfl (sQ (LP (n:=256) bl bE_ rfl rfl oo_ (by decide +kernel)) rfl (sQ (aS (dY KX BS rfl) (EJ oo_)) rfl (go4 ?_)));refine bG rfl (.inr rfl) rfl ?_;exact ET (c:=24) rfl dd_ oo_ (by rw [yJ (k:=16) oo_,yJ (n:=x / 2 ^ 16) (k:=8) oo_];omega)
  replace h2:=cB_ h2
  refine go4 ?_;refine sQ (aS (dY gJ KX rfl) (TW oo_)) rfl (sQ (LP (n:=256) bl bE_ rfl rfl oo_ (by decide +kernel)) rfl (sQ (aS (dY KX BS rfl) (EJ oo_)) rfl (go4 ?_)));refine bG rfl (.inr rfl) rfl ?_;exact ET (c:=16) rfl dd_ oo_ (by rw [yJ (k:=16) oo_])
 replace h1:=cB_ h1
 refine go6 ?_;refine aQ _ rfl (fun h2=>?_) (fun h2=>?_)
 ·replace h2:=cB_ h2
  refine go2 ?_;refine sQ (aS (tJ rfl rfl dd_) (MA _ 8)) rfl (pO ?_);refine sQ (aS (dY gJ KX rfl) (TW oo_)) rfl (sQ (LP (n:=256) bl bE_ rfl rfl oo_ (by decide +kernel)) rfl (sQ (aS (dY KX BS rfl) (EJ oo_)) rfl (go4 ?_)));refine bG rfl (.inr rfl) rfl ?_;exact ET (c:=8) rfl dd_ oo_ (by rw [yJ (k:=8) oo_])
 replace h2:=cB_ h2
 refine go4 ?_;refine sQ (aS (dY gJ KX rfl) (TW oo_)) rfl (sQ (LP (n:=256) bl bE_ rfl rfl oo_ (by decide +kernel)) rfl (sQ (aS (dY KX BS rfl) (EJ oo_)) rfl (go4 ?_)));refine bG rfl (.inr rfl) rfl ?_;exact ET (c:=0) rfl dd_ oo_ oo_
theorem YE (x:Nat) (hx:x<4294967296) :
    Ret prog 188 [U32 x] (.int .i64 ((32 - bl x:Nat):Int)):=by
 refine bT (N:=6) func188 rfl rfl (by simp) (fun w0=>?_);simp only [bK,Nat.reduceAdd];refine go5 ?_;refine sQ (bM aJ (IT x hx) rfl) rfl (go4 ?_);refine bG rfl (.inr rfl) rfl ?_;exact congrArg (Value.int .i64) (dv_ hx)
theorem CK (xs:List Nat) (hx:xs.length=16) (lx:Lim xs) (n:Nat) (hn:n<32) :
    Ret prog 189 [UV xs,.int .i64 (n:Int)] (.tuple #[UV (toL 16 (val xs * 2 ^ n)),U32 (val xs * 2 ^ n / 4294967296 ^ 16)]):=by
 refine bT (N:=30) func189 rfl rfl (by simp) (fun w0=>?_);simp only [bK,Nat.reduceAdd];refine go_ ?_;refine bC rfl (jN rfl rfl (fun b2 hb2=>bC rfl (eD oZ (fun b4 hb4=>go3 ?_))));refine bC rfl (eD oZ (fun b6 hb6=>go9 ?_));refine cF [7,8,9,10,11,12,13,14,15,16,17,18,19,20,21,22,23,24,25,26] (fun g nn M=>∃ (k:Nat),(g 7 = .int .u64 ((mc (val xs) (2 ^ n) k:Nat):Int)∧g 9 = .int .i64 (k:Int))∧M=[⟨b6,25,uw (vU k (val xs * 2 ^ n) 16)⟩,⟨b4,25,uw (List.replicate 16 0)⟩,⟨b2,25,uw xs⟩]∧nn=16 - k∧(k≤16)) (16) ?start ?round
 case start =>
  refine ⟨_,(List.Sublist.refl _),0,⟨?a7,?a9⟩,?mem0,rfl,Nat.zero_le _⟩
  case mem0=>rw [wX]
  case a7=>rw [bc_];rfl
  case a9=>rfl
 case round =>
  rintro nn g M ⟨k,⟨hg7,hg9⟩,rfl,hmeas,hk⟩;subst nn;simp only [eH,hg7,hg9];clear hg7 hg9;refine go4 ?_;refine aQ _ rfl (fun hc=>?_) (fun hc=>?_)
  ·replace hc:=cB_ hc
   have hc:k<16:=by omega
   refine pO ?_;refine sQ (eK arT rfl rfl oo_ oo_) rfl (sQ (dJ tyT rfl mm_ (r8 oo_)) rfl ?_);refine sQ (dY gJ fD rfl) rfl (go_ ?_);refine sQ (aS (AD rfl rfl oo_) (congrArg (Value.int .u64) (bB_ (dR lx k) oo_))) rfl (sQ (aS (LR rfl rfl) (congrArg (Value.int .u64) (fI_ (cc_ (m:=2 ^ n) _ k (Nat.pow_pos dd_)) (dR lx k) hn))) rfl (go5 ?_));refine sQ (aS (dY fD gJ rfl) (nO _)) rfl (sQ (eK arT rfl rfl oo_ oo_) rfl (bC rfl (mJ tyT rfl rfl uu_ (by rw [i4 _ hk];exact hc) (.inl (by assumption)) ?_)));refine go3 ?_;refine sQ (aS (tJ rfl rfl dd_) (congrArg (Value.int .u64) (pR _ 32))) rfl (go6 ?_);refine ⟨pp_,_,_,(List.Sublist.refl _),oo_,k+1,⟨?s7,?s9⟩,?mem,rfl,oo_⟩
   case mem=>rw [eO xs k lx,YJ,vV _ hc]
   case s7=>exact congrArg (fun m:Nat=>Value.int .u64 (m:Int)) (by rw [eO xs k lx];exact YI _ _ _)
   case s9=>exact congrArg (Value.int .i64) (jK oo_)
  replace hc:=cB_ hc
  obtain rfl:k=16:=by omega
  refine go2 ?_;refine sQ (cJ tyT rfl mm_ (by simp [uw,i4])) rfl ?_;refine go_ ?_;refine sQ (aS (dY fD gJ rfl) (nO _)) rfl (bC rfl (bO tyT rfl rfl uu_ (by simp [uw,i4]) rfl (iG _) (.inl (by assumption)) ?_));refine go3 ?_;refine iY rfl (.inr rfl) ⟨_,_,_,_,_,_,rfl,mm_,tyT,_,(dS (by simp [uw,i4])),(by simp [uw,i4]),rfl⟩ rfl ?_
  (rw [zI,eW_ hx lx,Nat.mod_eq_of_lt (TX hx lx hn)];rfl)
theorem HJ (xs:List Nat) (hx:xs.length=16) (lx:Lim xs) (n:Nat) (hn:n<32) :
    Ret prog 193 [UV xs,.int .i64 (n:Int)] (UV (toL 16 (val xs / 2 ^ n))):=by
 refine bT (N:=33) func193 rfl rfl (by simp) (fun w0=>?_);simp only [bK,Nat.reduceAdd];refine go_ ?_;refine bC rfl (jN rfl rfl (fun b2 hb2=>bC rfl (eD oZ (fun b4 hb4=>go2 ?_))));refine bC rfl (eD oZ (fun b5 hb5=>go6 ?_));refine cF [6,7,8,9,10,11,12,13,14,15,16,17,18,19,20,21,22,23,24,25,26,27,28,29,30,31] (fun g nn M=>∃ (k:Nat),(g 8 = .int .i64 (k:Int))∧M=[⟨b5,25,uw (vU k (val xs / 2 ^ n) 16)⟩,⟨b4,25,uw (List.replicate 16 0)⟩,⟨b2,25,uw xs⟩]∧nn=16 - k∧(k≤16)) (16) ?start ?round
 case start =>
  refine ⟨_,(List.Sublist.refl _),0,?a8,?mem0,rfl,Nat.zero_le _⟩
  case mem0=>rw [wX]
  case a8=>rfl
 case round =>
  rintro nn g M ⟨k,hg8,rfl,hmeas,hk⟩;subst nn;simp only [eH,hg8];clear hg8;refine go4 ?_;refine aQ _ rfl (fun hc=>?_) (fun hc=>?_)
  ·replace hc:=cB_ hc
   have hc:k<16:=by omega
   refine FV ?_;refine sQ (aS (iO rfl rfl) (congrArg (Value.int .i64) (jK oo_))) rfl (go2 ?_);refine aQ _ rfl (fun h13=>?_) (fun h13=>?_)
   ·replace h13:=cB_ h13
    refine go2 ?_;refine sQ (aS (iO rfl rfl) (congrArg (Value.int .i64) (jK oo_))) rfl (sQ (eK arT rfl rfl oo_ oo_) rfl (sQ (dJ tyT rfl mm_ (r8 oo_)) rfl ?_));refine sQ (aS (dY gJ fD rfl) (congrArg (Value.int .u64) (j5 (dR lx _)))) rfl (go4 ?_);refine sQ (aS (jO rfl) (show _=Value.int .u64 ((dig (val xs) (k+1):Nat):Int) from by first | exact congrArg (fun m:Nat=>Value.int .u64 (m:Int)) (eO xs (k+1) lx) | exact congrArg (fun m:Nat=>Value.int .u64 (m:Int)) (NH hx lx oo_).symm)) rfl ?_;refine sQ (aS (AD rfl rfl dd_) (congrArg (Value.int .u64) (vE (o7 _ _)))) rfl (go_ ?_);refine sQ (eK arT rfl rfl oo_ oo_) rfl (sQ (dJ tyT rfl mm_ (r8 oo_)) rfl ?_);refine sQ (aS (dY gJ fD rfl) (congrArg (Value.int .u64) ((j5 (dR lx _)).trans (by rw [eO xs k lx])))) rfl (sQ (aS (LR rfl rfl) (congrArg (Value.int .u64) (EN (o7 _ _) (o7 _ _)))) rfl (go_ ?_));refine sQ (aS (tJ rfl rfl oo_) (congrArg (Value.int .u64) (cp_ hn))) rfl (sQ (aS (dY fD gJ rfl) (nO _)) rfl (sQ (eK arT rfl rfl oo_ oo_) rfl (bC rfl (mJ tyT rfl rfl uu_ (by rw [i4 _ hk];exact hc) (.inl (by assumption)) ?_))));refine go5 ?_;refine ⟨pp_,_,_,(List.Sublist.refl _),oo_,k+1,?s8,?mem,rfl,oo_⟩
    case mem=>rw [FJ k oo_,vV _ hc]
    case s8=>exact congrArg (Value.int .i64) (jK oo_)
   replace h13:=cB_ h13
   refine go3 ?_;refine sQ (aS (jO rfl) (show _=Value.int .u64 ((dig (val xs) (k+1):Nat):Int) from by first | exact congrArg (fun m:Nat=>Value.int .u64 (m:Int)) (eO xs (k+1) lx) | exact congrArg (fun m:Nat=>Value.int .u64 (m:Int)) (NH hx lx oo_).symm)) rfl ?_;refine sQ (aS (AD rfl rfl dd_) (congrArg (Value.int .u64) (vE (o7 _ _)))) rfl (go_ ?_);refine sQ (eK arT rfl rfl oo_ oo_) rfl (sQ (dJ tyT rfl mm_ (r8 oo_)) rfl ?_);refine sQ (aS (dY gJ fD rfl) (congrArg (Value.int .u64) ((j5 (dR lx _)).trans (by rw [eO xs k lx])))) rfl (sQ (aS (LR rfl rfl) (congrArg (Value.int .u64) (EN (o7 _ _) (o7 _ _)))) rfl (go_ ?_));refine sQ (aS (tJ rfl rfl oo_) (congrArg (Value.int .u64) (cp_ hn))) rfl (sQ (aS (dY fD gJ rfl) (nO _)) rfl (sQ (eK arT rfl rfl oo_ oo_) rfl (bC rfl (mJ tyT rfl rfl uu_ (by rw [i4 _ hk];exact hc) (.inl (by assumption)) ?_))));refine go5 ?_;refine ⟨pp_,_,_,(List.Sublist.refl _),oo_,k+1,?s8,?mem,rfl,oo_⟩
   case mem=>rw [FJ k oo_,vV _ hc]
   case s8=>exact congrArg (Value.int .i64) (jK oo_)
  replace hc:=cB_ hc
  obtain rfl:k=16:=by omega
  refine go2 ?_;refine sQ (cJ tyT rfl mm_ (by simp [uw,i4])) rfl ?_;refine bC rfl (bO tyT rfl rfl uu_ (by simp [uw,i4]) rfl (iG _) (.inl (by assumption)) ?_);refine go2 ?_;refine bG rfl (.inr rfl) ⟨_,_,_,_,_,_,rfl,mm_,tyT,_,(dS (by simp [uw,i4])),(by simp [uw,i4]),rfl⟩ ?_
  (rw [zI];rfl)
theorem EG (xs:List Nat) (hx:xs.length=16) (lx:Lim xs) (d:Nat) (hd:d<4294967296) (h0:0<d) :
    Ret prog 187 [UV xs,U32 d] (.tuple #[UV (toL 16 (val xs / d)),U32 (val xs % d)]):=by
 refine bT (N:=33) func187 rfl rfl (by simp) (fun w0=>?_);simp only [bK,Nat.reduceAdd];refine go_ ?_;refine bC rfl (jN rfl rfl (fun b2 hb2=>bC rfl (eD oZ (fun b4 hb4=>pO ?_))));refine cF [6,7,8,9,10,11,12,13,14,15,16,17,18,19,20,21,22,23,24,25,26,27,28,29] (fun g nn M=>∃ (k:Nat),(g 6 = .int .u64 ((val xs / 4294967296 ^ k % d:Nat):Int)∧g 7 = .int .i64 ((k:Int) - 1))∧M=[⟨b4,25,uw (u7 k (val xs / d))⟩,⟨b2,25,uw xs⟩]∧nn=k+0∧(k≤16)) (16) ?start ?round
 case start =>
  refine ⟨_,(List.Sublist.refl _),16,⟨?a6,?a7⟩,?mem0,rfl,Nat.le_refl _⟩
  case mem0=>rw [UL]
  case a6=>rw [eI_ hx lx];rfl
  case a7=>rfl
 case round =>
  rintro nn g M ⟨k,⟨hg6,hg7⟩,rfl,hmeas,hk⟩;subst nn;simp only [eH,hg6,hg7];clear hg6 hg7;refine go5 ?_;refine aQ _ rfl (fun hc=>?_) (fun hc=>?_)
  ·replace hc:=cB_ hc
   obtain ⟨m,rfl⟩:∃ m,k=m+1:=⟨k - 1,by omega⟩;have hr:val xs / 4294967296 ^ (m+1) % d<4294967296:=Nat.lt_trans (Nat.mod_lt _ h0) hd;refine go4 ?_;refine sQ (aS (jO rfl) rfl) rfl (sQ (aS (AD rfl rfl dd_) (congrArg (Value.int .u64) (vE hr))) rfl (sQ (aS (jO rfl) (congrArg (Value.int .i64) (show (((m+1:Nat):Int) - 1)=(m:Int) by omega))) rfl (sQ (eK arT rfl rfl oo_ oo_) rfl (sQ (dJ tyT rfl mm_ (r8 oo_)) rfl ?_))));refine sQ (aS (dY gJ fD rfl) (congrArg (Value.int .u64) ((j5 (dR lx _)).trans (by rw [eO xs m lx])))) rfl (sQ (aS (LR rfl rfl) (congrArg (Value.int .u64) (EN hr (o7 _ _)))) rfl (go3 ?_));refine sQ (aS (jO rfl) (congrArg (Value.int .i64) (show (((m+1:Nat):Int) - 1)=(m:Int) by omega))) rfl (go2 ?_);refine sQ (aS (dY gJ fD rfl) (congrArg (Value.int .u64) (j5 hd))) rfl (sQ (aS (rS rfl rfl oo_) (congrArg (Value.int .u64) (S8 _ _))) rfl (sQ (aS (dY fD gJ rfl) (nO _)) rfl (sQ (eK arT rfl rfl oo_ oo_) rfl (bC rfl (mJ tyT rfl rfl uu_ (by rw [mF _ oo_];omega) (.inl (by assumption)) ?_)))));refine go4 ?_;refine sQ (aS (dY gJ fD rfl) (congrArg (Value.int .u64) (j5 hd))) rfl (sQ (aS (rT rfl rfl oo_) (congrArg (Value.int .u64) (zS _ _))) rfl (go3 ?_));refine sQ (aS (jO rfl) (congrArg (Value.int .i64) (show (((m+1:Nat):Int) - 1)=(m:Int) by omega))) rfl (go3 ?_);refine ⟨pp_,_,_,(List.Sublist.refl _),oo_,m,⟨?s6,?s7⟩,?mem,rfl,oo_⟩
   case mem=>rw [Q7 m h0,CW oo_]
   case s6=>exact congrArg (fun m:Nat=>Value.int .u64 (m:Int)) (D0 m h0).2
   case s7=>exact congrArg (Value.int .i64) (bQ (n:=(m:Int) - 1) (by unfold I64;omega))
  replace hc:=cB_ hc
  obtain rfl:k=0:=by omega
  refine go2 ?_;refine sQ (cJ tyT rfl mm_ (by simp [uw,mF])) rfl ?_;refine go_ ?_;refine sQ (aS (dY fD gJ rfl) (nO _)) rfl (bC rfl (bO tyT rfl rfl uu_ (by simp [uw,mF]) (by simp [uw,mF]) (iG _) (.inl (by assumption)) ?_));refine go3 ?_;refine iY rfl (.inr rfl) ⟨_,_,_,_,_,_,rfl,mm_,tyT,_,(dS (by simp [uw,mF])),(by simp [uw,mF]),rfl⟩ rfl ?_
  (rw [IR,Nat.pow_zero,Nat.div_one,Nat.mod_eq_of_lt (Nat.lt_trans (Nat.mod_lt _ h0) hd)];rfl)
theorem qR (xs ys:List Nat) (hx:xs.length=16) (hy:ys.length=16) (lx:Lim xs) (ly:Lim ys) (h0:0<val ys) :
    Ret prog 180 [UV xs,UV ys] (.tuple #[UV (toL 16 (val xs / val ys)),UV (toL 16 (val xs % val ys))]):=by
 refine bT (N:=94) func180 rfl rfl (by simp) (fun w0=>?_);simp only [bK,Nat.reduceAdd];refine go_ ?_;refine bC rfl (jN rfl rfl (fun b2 hb2=>bC rfl (jN rfl rfl (fun b3 hb3=>bC rfl (eD oZ (fun b4 hb4=>bC rfl (eD oZ (fun b5 hb5=>go2 ?_))))))));refine rK (sk (sk (sk (sk (s0))))) 6 [] [] (pQ rfl (cJ tyT rfl mm_ (by simp [uw,hy])) ?_);refine pQ rfl (bM aJ (mL ys hy) rfl) (pQ rfl (cJ tyT rfl mm_ (by simp [uw,hx])) ?_);refine pQ rfl (bM aJ (mL xs hx) rfl) (go5 ?_);refine sQ (cJ tyT rfl mm_ (by simp [uw,hx])) rfl ?_;refine sQ (cJ tyT rfl mm_ (by simp [uw,hy])) rfl ?_;refine sQ (bM aJ (m9 xs ys hx hy lx ly) rfl) rfl (go2 ?_);refine aQ _ rfl (fun ho=>?_) (fun ho=>?_)
 ·replace ho:=cB_ ho
  have hlt:=WO ho;refine go_ ?_;refine gdr (sd (sd (sk (sk (s0))))) [0,6,9,13] [2,3] mix (by kernel_rfl) (pQ rfl (nR oZ arT rfl (.nil _)) (E6 rfl rfl (cJ tyT rfl mm_ (by simp [uw,hx])) ?_));refine fM rfl rfl (bO tyT rfl rfl uu_ (by simp [uw,List.length_replicate]) (by simp [uw]) (iG _) (.inl (by assumption)) ⟨nf,ss_,?_⟩);refine fM rfl rfl (bO tyT rfl rfl uu_ (by simp [uw,hx]) (by simp [uw]) (iG _) (.inl (by assumption)) ⟨nf,ss_,?_⟩);refine go2 ?_;refine iY rfl (.inr rfl) ⟨_,_,_,_,_,_,rfl,mm_,tyT,_,(dS (by simp [uw])),(by simp [uw]),rfl⟩ ⟨_,_,_,_,_,_,rfl,mm_,tyT,_,(dS (by simp [uw,hx])),(by simp [uw,hx]),rfl⟩ ?_;exact ZB hx lx hlt
 replace ho:=cB_ ho
 have hle:=RS (Int.not_lt.1 ho);have hsp:=ed_ h0;have hsz:=tS ys;rw [hy] at hsz;refine go6 ?_;refine aQ _ rfl (fun h29=>?_) (fun h29=>?_)
 ·replace h29:=cB_ h29
  have hsz1:szL ys=1:=by omega
  refine go_ ?_;refine sQ (cJ tyT rfl mm_ (by simp [uw,hx])) rfl ?_;refine sQ (eK arT rfl rfl dd_ dd_) rfl (sQ (dJ tyT rfl mm_ (r8 (k:=0) oo_)) rfl ?_);refine sQ (bM aJ (EG xs hx lx _ (dR ly 0) (SZ hsz1)) rfl) rfl (go3 ?_);refine bC rfl (eD oZ (fun b8 hb8=>bC rfl (bO tyT rfl rfl uu_ (by simp [uw,dB]) (by simp [uw]) (iG _) (.inl (by assumption)) ?_)));refine go3 ?_;refine sQ (cJ tyT rfl mm_ (by simp [uw,dB])) rfl ?_;refine go_ ?_;refine sQ (nR oZ arT rfl (eM_ _)) rfl (bC rfl (bO tyT rfl rfl uu_ (by simp [uw,dB]) (by simp [uw]) (iG _) (.inl (by assumption)) ?_));refine bC rfl (bO tyT rfl rfl uu_ (by simp [uw,List.length_replicate]) (by simp [uw]) (iG _) (.inl (by assumption)) ?_);refine go2 ?_;refine iY rfl (.inr rfl) ⟨_,_,_,_,_,_,rfl,mm_,tyT,_,(dS (by simp [uw,dB])),(by simp [uw,dB]),rfl⟩ ⟨_,_,_,_,_,_,rfl,mm_,tyT,_,(dS (by simp [uw])),(by simp [uw]),rfl⟩ ?_;exact bu_ ly hsz1
 replace h29:=cB_ h29
 have h2:2≤szL ys:=by omega
 have D:DV xs ys (szL ys) (32 - bl (ys.getD (szL ys - 1) 0)):=⟨hx,hy,lx,ly,rfl,h2,rfl,hle⟩;refine go3 ?_;refine sQ (aS (nF rfl rfl) (congrArg (Value.int .i64) (rY (b:=1) rfl oo_ oo_))) rfl (sQ (eK arT rfl rfl oo_ oo_) rfl (sQ (dJ tyT rfl mm_ (r8 oo_)) rfl ?_));refine sQ (bM aJ (YE _ (dR ly _)) rfl) rfl (go3 ?_);refine sQ (cJ tyT rfl mm_ (by simp [uw,hy])) rfl ?_;refine go_ ?_;refine sQ (bM aJ (CK ys hy ly _ D.s32) rfl) rfl (go3 ?_);refine bC rfl (eD oZ (fun b11 hb11=>bC rfl (bO tyT rfl rfl uu_ (by simp [uw,dB]) (by simp [uw]) (iG _) (.inl (by assumption)) ?_)));refine go3 ?_;refine sQ (cJ tyT rfl mm_ (by simp [uw,hx])) rfl ?_;refine go_ ?_;refine sQ (bM aJ (CK xs hx lx _ D.s32) rfl) rfl (go3 ?_);refine bC rfl (eD oZ (fun b13 hb13=>bC rfl (bO tyT rfl rfl uu_ (by simp [uw,dB]) (by simp [uw]) (iG _) (.inl (by assumption)) ?_)));refine go3 ?_;refine bC rfl (eD fO_ (fun b15 hb15=>go2 ?_));refine gdr (sd (sk (sk (sk (sk (sk (sk (s0)))))))) [0,4,9] [2] mix (by kernel_rfl) (pQ rfl (GL arT rfl rfl rfl dd_ dd_ dd_ dd_) (pQ rfl (GL arT rfl rfl rfl dd_ dd_ dd_ dd_) ?_));refine fM rfl rfl (dS_ d8_ rfl rfl mm_ uu_ (fun v hv=>iG _ v (List.mem_of_mem_drop (List.mem_of_mem_take hv))) (by simp [uw,dB]) (by simp [uw]) (aO_ (dB _ _)) (.inl (by assumption)) ⟨nf,ss_,?_⟩);refine go3 ?_;refine sQ (eK arT rfl rfl dd_ dd_) rfl (bC rfl (mJ (k:=16) tyT rfl rfl uu_ (by simp [dB]) (.inl (by assumption)) ?_));refine go5 ?_;refine sQ (aS (nF rfl rfl) (congrArg (Value.int .i64) (TL D.nm (by have:=D.m16;omega)))) rfl (go3 ?_);refine cF [16,17,65,66,67,68,69,70,71,72,73,74,75,76,77,78,79,80,81,82,83,84,85,86,87] (fun g nn M=>∃ (k:Nat) (l:List Nat),(g 16 = .int .i64 ((k:Int) - 1))∧M=[⟨b15,181,uw l⟩,⟨b13,25,uw (toL 16 (val xs * 2 ^ (32 - bl (ys.getD (szL ys - 1) 0))))⟩,⟨b11,25,uw (toL 16 (val ys * 2 ^ (32 - bl (ys.getD (szL ys - 1) 0))))⟩,⟨b5,25,uw (List.replicate 16 0)⟩,⟨b4,25,uw (u7 k (val xs / val ys))⟩,⟨b3,25,uw ys⟩,⟨b2,25,uw xs⟩]∧nn=k+0∧(k+szL ys≤17∧QI xs ys (32 - bl (ys.getD (szL ys - 1) 0)) k l)) (szL xs - szL ys+1) ?start ?round
 case start =>
  refine ⟨_,(List.Sublist.refl _),szL xs - szL ys+1,((toL 16 (val xs * 2 ^ (32 - bl (ys.getD (szL ys - 1) 0))) ++ [0]).set 16 (val xs * 2 ^ (32 - bl (ys.getD (szL ys - 1) 0)) / 4294967296 ^ 16)),?a16,?mem0,rfl,⟨by have:=D.nm;have:=D.m16;omega,QI.start D⟩⟩
  case mem0=>rw [← DV.qstart D]
  case a16=>exact congrArg (Value.int .i64) oo_
 case round =>
  rintro nn g M ⟨k,l,hg16,rfl,hmeas,⟨hkn,hq⟩⟩;subst nn;simp only [eH,hg16];clear hg16;refine go5 ?_;refine aQ _ rfl (fun hc=>?_) (fun hc=>?_)
  ·replace hc:=cB_ hc
   obtain ⟨m,rfl⟩:∃ m,k=m+1:=⟨k - 1,by omega⟩;refine go4 ?_;refine sQ (cJ tyT rfl mm_ (by simp [uw,dB])) rfl ?_;refine go_ ?_;refine sQ (aS (jO rfl) (congrArg (Value.int .i64) (show (((m+1:Nat):Int) - 1)=(m:Int) by omega))) rfl (bC rfl (bw_ aJ rfl (fun w hw=>EE l _ (szL ys) m (hq.qh D oo_) b15 181 w (hw.mem _ m0)) (fun d hd=>go4 ?_)));refine sQ (cJ tyT rfl mm_ (by simp [uw,dB])) rfl ?_;refine go_ ?_;refine sQ (aS (jO rfl) (congrArg (Value.int .i64) (show (((m+1:Nat):Int) - 1)=(m:Int) by omega))) rfl (go_ ?_);refine bC rfl (S9 aJ rfl (fun w hw=>HM l _ (szL ys) m d hq.len hq.lim (dB _ _) (lO _ _) (by rw [D.v16];exact D.vlt) oo_ (hq.small D) hd.1 b15 181 w (hw.mem _ m0)) (fun x=>uu_) (.inl (by assumption)) (fun x ht=>?_));refine go_ ?_;refine aQ _ rfl (fun h77=>?_) (fun h77=>?_)
   ·replace h77:=cB_ h77
    refine go2 ?_;refine sQ (aS (nF rfl rfl) (congrArg (Value.int .u64) (G3 rfl (ht.pos oo_) (by have:=hd.1;omega)))) rfl (go3 ?_);refine sQ (cJ tyT rfl mm_ (by simp [uw,dB])) rfl ?_;refine go_ ?_;refine sQ (aS (jO rfl) (congrArg (Value.int .i64) (show (((m+1:Nat):Int) - 1)=(m:Int) by omega))) rfl (bC rfl (S9 aJ rfl (fun w hw=>HK x.1 _ (szL ys) m ht.len ht.lim (dB _ _) (lO _ _) (by rw [D.v16];exact D.vlt) oo_ ht.small b15 181 w (hw.mem _ m0)) (fun y=>uu_) (.inl (by assumption)) (fun y hgv=>?_)));refine go_ ?_;obtain ⟨hz,hdz,_⟩:=hq.took1 D hd ht oo_ hgv;refine go_ ?_;refine sQ (aS (jO rfl) (congrArg (Value.int .i64) (show (((m+1:Nat):Int) - 1)=(m:Int) by omega))) rfl (go_ ?_);refine sQ (aS (dY fD gJ rfl) (nO _)) rfl (sQ (eK arT rfl rfl oo_ oo_) rfl (bC rfl (mJ tyT rfl rfl uu_ (by rw [mF _ oo_];omega) (.inl (by assumption)) ?_)));refine go2 ?_;refine sQ (aS (jO rfl) (congrArg (Value.int .i64) (show (((m+1:Nat):Int) - 1)=(m:Int) by omega))) rfl (go3 ?_);refine ⟨pp_,_,_,(List.Sublist.refl _),oo_,m,_,?s16,?mem,rfl,⟨by omega,hz⟩⟩
    case mem=>rw [hdz,CW oo_]
    case s16=>exact congrArg (Value.int .i64) (bQ (n:=(m:Int) - 1) (by unfold I64;omega))
   replace h77:=cB_ h77
   obtain ⟨hz,hdz⟩:=hq.took0 D hd ht oo_;refine go2 ?_;refine sQ (aS (jO rfl) (congrArg (Value.int .i64) (show (((m+1:Nat):Int) - 1)=(m:Int) by omega))) rfl (go_ ?_);refine sQ (aS (dY fD gJ rfl) (nO _)) rfl (sQ (eK arT rfl rfl oo_ oo_) rfl (bC rfl (mJ tyT rfl rfl uu_ (by rw [mF _ oo_];omega) (.inl (by assumption)) ?_)));refine go2 ?_;refine sQ (aS (jO rfl) (congrArg (Value.int .i64) (show (((m+1:Nat):Int) - 1)=(m:Int) by omega))) rfl (go3 ?_);refine ⟨pp_,_,_,(List.Sublist.refl _),oo_,m,_,?s16,?mem,rfl,⟨by omega,hz⟩⟩
   case mem=>rw [hdz,CW oo_]
   case s16=>exact congrArg (Value.int .i64) (bQ (n:=(m:Int) - 1) (by unfold I64;omega))
  replace hc:=cB_ hc
  obtain rfl:k=0:=by omega
  refine go2 ?_;refine gdr (sk (sk (sk (sd (sd (sk (sk (s0)))))))) [0,4,8,12,16,20,25,29] [6,7] mix (by kernel_rfl) (pQ rfl (cJ tyT rfl mm_ (by rw [gI,mF _ oo_])) ?_);refine pQ rfl (GL arT rfl rfl rfl dd_ dd_ dd_ dd_) (pQ rfl (Y6 arT rfl dd_) (pQ rfl (hZ (vs:=uw (l.take 16)) tyT rfl mm_ bK_ (by simp [uw,hq.len])) ?_));refine go_ ?_;refine pQ rfl (bM aJ (HJ (l.take 16) (by simp [hq.len]) (hq.lim.take 16) _ D.s32) rfl) ?_;refine fM rfl rfl (bO tyT rfl rfl uu_ (by rw [gI,mF _ oo_]) (by rw [gI,mF _ oo_]) (iG _) (.inl (by assumption)) ⟨nf,ss_,?_⟩);refine fM rfl rfl (bO tyT rfl rfl uu_ (by simp [uw,dB]) (by simp [uw]) (iG _) (.inl (by assumption)) ⟨nf,ss_,?_⟩);refine go2 ?_;refine iY rfl (.inr rfl) ⟨_,_,_,_,_,_,rfl,mm_,tyT,_,(dS (by rw [gI,mF _ oo_])),(by rw [gI,mF _ oo_]),rfl⟩ ⟨_,_,_,_,_,_,rfl,mm_,tyT,_,(dS (by simp [uw,dB])),(by simp [uw,dB]),rfl⟩ ?_
  (rw [IR,hq.fin D];rfl)
end Go.Proofs.YtokjfhfiodopdaaGreat
