/- Lemmas: what they ask stands in their statements. -/
import Derived.Test.YtbjlhfochebmiaaGreatDoorXWa
set_option linter.unusedSimpArgs false
set_option linter.unusedVariables false
set_option maxHeartbeats 8000000
set_option maxRecDepth 20000
namespace Go.Proofs.YtbjlhfochebmiaaGreatDoor
open Go.Kn Go.Num
attribute [local irreducible] Go.Kn.W WL PL OpQ OpR OpS
theorem eY (a b:R) (ha:a.Ok) (hb:b.Ok) :
    Ret Tryz.prog 123 [RV a,RV b] (RV (Z.mul a.dec b.dec).enc):=by
 refine aW (N:=82) Tryz.func123 rfl rfl (by simp) (fun w0=>?_);simp only [bA,Nat.reduceAdd];refine go_ ?_;refine aU rfl (fV rfl rfl (fun b2 hb2=>aU rfl (fV rfl rfl (fun b3 hb3=>aU rfl (cM i2 (fun b4 hb4=>go3 ?_))))));refine sQ (bE tyT rfl mm_ (bG ha)) rfl ?_;refine sQ (bE tyT rfl mm_ (bG hb)) rfl ?_;refine aU rfl (fA nX i2 mM rfl dd_ rfl (G0 ha hb) (fun b13 hb13=>sQ (bR nR rfl (fun w hw=>eB [a,b] (ok2 ha hb) b13 33 w (hw.mem _ m0) (by simp))) rfl ?_));refine go2 ?_;refine aK _ rfl (fun hg=>?_) (fun hg=>?_)
 ·replace hg:=cB_ hg
  refine go_ ?_;refine sQ (aZ lQ dR rfl) rfl (aU rfl (aX tyT rfl rfl uu_ (aC _) rfl (aV _) (.inl (by assumption)) ?_));refine go2 ?_;refine aS rfl (.inr rfl) ⟨_,_,_,_,_,_,rfl,mm_,tyT,_,(bX (aC _)),(aC _),rfl⟩ ?_
  (rw [Z.mul,kE (zP hg)];rfl)
 replace hg:=cB_ hg
 have hg:=all2.1 hg;refine go2 ?_;refine aU rfl (cM cN_ (fun b5 hb5=>go2 ?_));have hsa:=qV a.w;have hsb:=qV b.w;rw [ha.len] at hsa;rw [hb.len] at hsb;refine gdr (sk (sk (sk (sk (sk (s0)))))) [0,4,8,12,16,20,24,28] [] mix (by kernel_rfl) (pQ rfl (bB fdT dd_ rfl) (pQ rfl (eU (vs:=uw a.w) tyT rfl mm_ (iD ha.len) ((d8 _).trans ha.len)) ?_));refine pQ rfl (aZ yR (j7 a.w ha.len) rfl) (pQ rfl (bB fdT dd_ rfl) (pQ rfl (eU (vs:=uw b.w) tyT rfl mm_ (iD hb.len) ((d8 _).trans hb.len)) ?_));refine pQ rfl (aZ yR (j7 b.w hb.len) rfl) (go9 ?_);refine cC [8,9,10,24,25,26,27,28,29,30,31,32,33,34,35,36,37,38,39,40,41,42,43,44,45,46,47,48,49,50,51,52,53,54,55,56,57,58,59,60,61,62,63,64,65,66] (fun g nn M=>∃ (i:Nat) (l:List Nat),(g 24 = .int .i64 (i:Int))∧M=[⟨b5,179,uw l⟩,⟨b4,33,zR⟩,⟨b3,33,b.cells⟩,⟨b2,33,a.cells⟩]∧nn=szL a.w - i∧(i≤szL a.w∧MulOut (val a.w) (val b.w) (szL b.w) i l)) (szL a.w - 0) ?start ?round
 case start =>
  refine ⟨_,(List.Sublist.cons_cons _ (List.Sublist.cons _ (List.Sublist.refl _))),0,_,?a24,?mem0,rfl,⟨Nat.zero_le _,MulOut.start _ _ _⟩⟩
  case mem0=>rfl
  case a24=>rfl
 case round =>
  rintro nn g M ⟨i,l,hg24,rfl,hmeas,⟨hile,hM⟩⟩;subst nn;simp only [eJ,hg24];clear hg24;refine go4 ?_;refine aK _ rfl (fun hi=>?_) (fun hi=>?_)
  ·replace hi:=cB_ hi
   have hia:i<a.w.length:=by rw [ha.len];omega
   refine RY ?_;refine cC [9,10,28,29,30,31,32,33,34,35,36,37,38,39,40,41,42,43,44,45,46,47,48,49,50,51,52,53,54,55,56,57,58,59] (fun g nn M=>∃ (k:Nat) (l:List Nat) (c:Nat),(g 9 = .int .u64 (c:Int)∧g 28 = .int .i64 (k:Int))∧M=[⟨b5,179,uw l⟩,⟨b4,33,zR⟩,⟨b3,33,b.cells⟩,⟨b2,33,a.cells⟩]∧nn=szL b.w - k∧(k≤szL b.w∧MulIn (val a.w) (val b.w) (szL b.w) i k l c)) (szL b.w - 0) ?start ?round
   case start =>
    refine ⟨_,(List.Sublist.refl _),0,l,0,⟨?a9,?a28⟩,?mem0,rfl,⟨Nat.zero_le _,hM.row⟩⟩
    case mem0=>rfl
    case a9=>rfl
    case a28=>rfl
   case round =>
    rintro nn g M ⟨k,l,c,⟨hg9,hg28⟩,rfl,hmeas,⟨hkle,hM⟩⟩;subst nn;simp only [eJ,hg9,hg28];clear hg9 hg28;refine go4 ?_;refine aK _ rfl (fun hk=>?_) (fun hk=>?_)
    ·replace hk:=cB_ hk
     have hkb:k<b.w.length:=by rw [hb.len];omega
     refine go8 ?_;refine gdr (sk (sk (sk (sk (s0))))) [0,4,8,12,16,20,24,28,32,36,40,44,48,52,56,60,64,68,72,76,80] [] mix (by kernel_rfl) (go2 ?_);refine pQ rfl (bB fdT dd_ rfl) (pQ rfl (cU arT rfl rfl oo_ oo_) (pQ rfl (cA tyT rfl mm_ (j8 hia)) ?_));refine pQ rfl (cP d9 dJ rfl) (go_ ?_);refine pQ rfl (bB fdT dd_ rfl) (pQ rfl (cU arT rfl rfl oo_ oo_) (pQ rfl (cA tyT rfl mm_ (j8 hkb)) ?_));refine pQ rfl (cP d9 dJ rfl) (go3 ?_);refine pQ rfl (aI (e9 rfl rfl) (congrArg (Value.int .i64) (kL oo_))) (pQ rfl (cU arT rfl rfl oo_ oo_) (pQ rfl (cA tyT rfl mm_ (pF (by rw [hM.len];omega))) ?_));refine pQ rfl (cP d9 dJ rfl) (go_ ?_);refine pQ rfl (aI (e9 rfl rfl) (congrArg (Value.int .u64) (bU_ (cF ha.lim i) (cF hb.lim k) (cF hM.lim (i+k)) hM.clt))) (go5 ?_);refine sQ (aI (e9 rfl rfl) (congrArg (Value.int .i64) (kL oo_))) rfl (go_ ?_);refine sQ (aI (cP dJ d9 rfl) (k5 _)) rfl (sQ (cU arT rfl rfl oo_ oo_) rfl (aU rfl (j3 tyT rfl rfl uu_ (by rw [hM.len];omega) (.inl (by assumption)) ?_)));refine go3 ?_;refine sQ (aI (qO rfl rfl dd_) (congrArg (Value.int .u64) (nJ _ 32))) rfl (go3 ?_);refine sQ (aI (e9 rfl rfl) (congrArg (Value.int .i64) (gA oo_))) rfl (go2 ?_);refine ⟨pp_,_,_,(List.Sublist.refl _),oo_,k+1,_,_,⟨?s9,?s28⟩,?mem,rfl,⟨by omega,PA hM ha.lim hb.lim oo_ oo_⟩⟩
     case mem=>rfl
     case s9=>rfl
     case s28=>rfl
    replace hk:=cB_ hk
    obtain rfl:k=szL b.w:=by omega
    refine go4 ?_;refine sQ (aI (e9 rfl rfl) (congrArg (Value.int .i64) (kL oo_))) rfl (go_ ?_);refine sQ (aI (cP dJ d9 rfl) (aZ_ hM.clt)) rfl (sQ (cU arT rfl rfl oo_ oo_) rfl (aU rfl (j3 tyT rfl rfl uu_ (by rw [hM.len];omega) (.inl (by assumption)) ?_)));refine go2 ?_;refine sQ (aI (e9 rfl rfl) (congrArg (Value.int .i64) (gA oo_))) rfl (go2 ?_);refine ⟨pp_,_,_,(List.Sublist.refl _),oo_,i+1,_,?s24,?mem,rfl,⟨by omega,hM.done oo_ (pX hb.lim)⟩⟩
    case mem=>rfl
    case s24=>rfl
  replace hi:=cB_ hi
  obtain rfl:i=szL a.w:=by omega
  refine go3 ?_;refine sQ (qU arT rfl rfl rfl dd_ dd_ dd_ dd_) rfl (sQ (S5 arT rfl dd_) rfl (sQ (eU (vs:=uw (l.drop 16)) tyT rfl mm_ (cJ_ hM.len) (by simp [uw,hM.len])) rfl ?_));refine sQ (lB lH arT rfl (.nil _)) rfl ?_;refine sQ (AP (r:=decide (l.drop 16=List.replicate 16 0)) rfl rfl (cL 8 dd_ CR C9 (j6 (by simp [hM.len])) (j6 (by simp)) (YU _ _))) rfl ?_;refine go_ ?_;refine aK _ rfl (fun h71=>?_) (fun h71=>?_)
  ·replace h71:=cB_ h71
   refine go_ ?_;refine sQ (aZ lQ dR rfl) rfl (aU rfl (aX tyT rfl rfl uu_ (aC _) rfl (aV _) (.inl (by assumption)) ?_));refine go2 ?_;refine aS rfl (.inr rfl) ⟨_,_,_,_,_,_,rfl,mm_,tyT,_,(bX (aC _)),(aC _),rfl⟩ ?_;exact congrArg RV (VP ha hb hg.1 hg.2 hM.len hM.lim (DC hM ha) (by simpa using h71))
  replace h71:=cB_ h71
  refine go2 ?_;refine gdr (sk (sd (sk (sk (s0))))) [0,4,8,12,16,20,24,28,32,37] [9] mix (by kernel_rfl) (pQ rfl (bB fdT dd_ rfl) (pQ rfl (cA tyT rfl mm_ rfl) ?_));refine pQ rfl (bB fdT dd_ rfl) (pQ rfl (cA tyT rfl mm_ rfl) ?_);refine pQ rfl (qT AB rfl rfl) (pQ rfl (qU arT rfl rfl rfl dd_ dd_ dd_ dd_) (pQ rfl (S5 arT rfl dd_) (pQ rfl (eU (vs:=uw (l.take 16)) tyT rfl mm_ (cK_ hM.len) (by simp [uw,hM.len])) ?_)));refine pQ rfl (aZ l9 (cW (a.neg != b.neg) (l.take 16) (by simp [hM.len]) (hM.lim.take 16)) rfl) ?_;refine cS rfl rfl (aX tyT rfl rfl uu_ (eX (by simp [hM.len])) rfl (aV _) (.inl (by assumption)) ⟨nf,ss_,?_⟩);refine go2 ?_;refine aS rfl (.inr rfl) ⟨_,_,_,_,_,_,rfl,mm_,tyT,_,(bX (eX (by simp [hM.len]))),(eX (by simp [hM.len])),rfl⟩ ?_;exact congrArg RV (VQ ha hb hg.1 hg.2 hM.len hM.lim (DC hM ha) (by simpa using h71))

theorem BX (us vs:List Nat) (n j:Nat) (H:QH us vs n j) (bu T:Nat) (w:World) (hbu:w.heap[bu]? = some (.cells (uw us).toArray T (0,0))) :
    Calls Tryz.prog 217 [.pointer (some ⟨bu,0,none⟩),UV vs,.int .i64 (n:Int),.int .i64 (j:Int)].toArray w (fun e w'=>∃ x:Nat,e = .returned (.int .u64 (x:Int))∧Ext w w'∧H3 us vs j x):=by
 refine IE (N:=77) (g:=fun x:Nat=>.int .u64 (x:Int)) (Q:=fun x:Nat=>H3 us vs j x) Tryz.func217 rfl rfl (by simp) ?_;obtain ⟨w0,rfl⟩:∃ w0,w0=w:=⟨_,rfl⟩;simp only [bA,Nat.reduceAdd];have G:=H.gh;have hn2:=H.n2;have hjn:=H.jn;have hul:=H.ulen;have hvl:=H.vlen;refine go_ ?_;refine aU rfl (fV rfl rfl (fun b5 hb5=>go3 ?_));refine gdr (sk (s0)) [0,4,8,12,16,20,24,28,32,36,40,44,48,52,56,60,64,68,72,76] [] mix (by kernel_rfl) (go3 ?_);refine pQ rfl (aI (e9 rfl rfl) (congrArg (Value.int .i64) (kL oo_))) (go_ ?_);refine pQ rfl (cU arT rfl rfl oo_ oo_) (pQ rfl (CA tyT rfl hbu (by simp) (pF oo_)) ?_);refine pQ rfl (aI (cP d9 dJ rfl) (sG (cF H.ulim _))) (pQ rfl (aI (zT rfl rfl dd_) (congrArg (Value.int .u64) (sY (cF H.ulim _)))) (go3 ?_));refine pQ rfl (aI (e9 rfl rfl) (congrArg (Value.int .i64) (kL oo_))) (pQ rfl (aI (kM rfl rfl) (congrArg (Value.int .i64) (pD (b:=1) rfl oo_ oo_))) (go_ ?_));refine pQ rfl (cU arT rfl rfl oo_ oo_) (pQ rfl (CA tyT rfl hbu (by simp) (pF oo_)) ?_);refine pQ rfl (aI (cP d9 dJ rfl) (sG (cF H.ulim _))) (pQ rfl (aI (HG rfl rfl) (congrArg (Value.int .u64) (JD (cF H.ulim _) (cF H.ulim _)))) (go4 ?_));refine sQ (aI (kM rfl rfl) (congrArg (Value.int .i64) (pD (b:=1) rfl oo_ oo_))) rfl (sQ (cU arT rfl rfl oo_ oo_) rfl (sQ (cA tyT rfl mm_ (pF oo_)) rfl ?_));refine sQ (aI (cP d9 dJ rfl) (sG (cF H.vlim _))) rfl (go3 ?_);refine gdr (sk (s0)) [0,4,8,12,16,20,24,28] [] mix (by kernel_rfl) (go2 ?_);refine pQ rfl (aI (f8 rfl rfl (by have:=G.f0;omega)) (congrArg (Value.int .u64) (V1 (by have:=G.topLt;have:=G.f1;omega)))) (go2 ?_);refine pQ rfl (aI (nD rfl rfl (by have:=G.f0;omega)) (congrArg (Value.int .u64) (xR _ _))) (go5 ?_);refine cC [11,12,43,44,45,46,47,48,49,50,51,52,53,54,55,56,57,58,59,60,61,62,63,64,65,66,67,68,69,70,71,72,73,74,75] (fun g nn M=>∃ (d rest:Nat),(g 11 = .int .u64 (d:Int)∧g 12 = .int .u64 (rest:Int))∧M=[⟨b5,31,uw vs⟩]∧nn=d∧(GI (vs.getD (n - 1) 0) (us.getD (j+n) 0 * 4294967296+us.getD (j+n - 1) 0) (val us / (val vs * 4294967296 ^ j)) d rest)) ((us.getD (j+n) 0 * 4294967296+us.getD (j+n - 1) 0) / vs.getD (n - 1) 0) ?start ?round
 case start =>
  refine ⟨_,(List.Sublist.refl _),_,_,⟨?a11,?a12⟩,?mem0,rfl,GI.start G⟩
  case mem0=>rfl
  case a11=>rfl
  case a12=>rfl
 case round =>
  rintro nn g M ⟨d,rest,⟨hg11,hg12⟩,rfl,hmeas,hG⟩;subst nn;simp only [eJ,hg11,hg12];clear hg11 hg12;refine go2 ?_;refine gdr (sk (s0)) [0,4,8,12,16,20,24,28,32,36,40,44,48,52,56,60,64,68,72,76,80,84,88,92,96,100,104,108] [] mix (by kernel_rfl) (go3 ?_)
  cases h2:decide ((rest:Int)<4294967296)
  ·refine bM_ ?_;refine aS rfl (.inr rfl) rfl ?_;exact ⟨d,rfl,FN H hG (.inl (by have:=of_decide_eq_false h2;omega))⟩
  refine go3 ?_
  cases h5:decide ((4294967296:Int)≤(d:Int))
  ·refine go2 ?_;refine pQ rfl (aI (kM rfl rfl) (congrArg (Value.int .i64) (pD (b:=2) rfl oo_ oo_))) (pQ rfl (cU arT rfl rfl oo_ oo_) (pQ rfl (cA tyT rfl mm_ (pF oo_)) ?_));refine pQ rfl (aI (cP d9 dJ rfl) (sG (cF H.vlim _))) (pQ rfl (aI (NW rfl rfl) (congrArg (Value.int .u64) (NP (NJ (by have:=of_decide_eq_false h5;omega) (cF H.vlim _))))) (go_ ?_));refine pQ rfl (aI (zT rfl rfl dd_) (congrArg (Value.int .u64) (sY (by have:=of_decide_eq_true h2;omega)))) (go3 ?_);refine pQ rfl (aI (e9 rfl rfl) (congrArg (Value.int .i64) (kL oo_))) (pQ rfl (aI (kM rfl rfl) (congrArg (Value.int .i64) (pD (b:=2) rfl oo_ oo_))) (go_ ?_));refine pQ rfl (cU arT rfl rfl oo_ oo_) (pQ rfl (CA tyT rfl hbu (by simp) (pF oo_)) ?_);refine pQ rfl (aI (cP d9 dJ rfl) (sG (cF H.ulim _))) (pQ rfl (aI (HG rfl rfl) (congrArg (Value.int .u64) (JD (by have:=of_decide_eq_true h2;omega) (cF H.ulim _)))) (go4 ?_));refine aK _ rfl (fun h68=>?_) (fun h68=>?_)
   ·replace h68:=cB_ h68
    refine go3 ?_;have hmore:=GI.more G hG (by have:=of_decide_eq_true h2;omega) (by first | exact .inl (by have:=of_decide_eq_true h5;omega) | exact .inr (by exact_mod_cast h68));refine go_ ?_;refine sQ (aI (kM rfl rfl) (congrArg (Value.int .u64) (D7 rfl hmore.1 (by have:=GI.dlt G hG;omega)))) rfl (go5 ?_);refine sQ (aI (e9 rfl rfl) (congrArg (Value.int .u64) (GE (by have:=hG.rlt;have:=G.f1;omega)))) rfl (go2 ?_);refine ⟨pp_,_,_,(List.Sublist.refl _),(by have:=hmore.1;omega),d - 1,rest+vs.getD (n - 1) 0,⟨?s11,?s12⟩,?mem,rfl,hmore.2⟩
    case mem=>rfl
    case s11=>rfl
    case s12=>rfl
   replace h68:=cB_ h68
   refine go6 ?_;refine aS rfl (.inr rfl) rfl ?_;exact ⟨d,rfl,FN H hG (.inr ⟨by have:=of_decide_eq_false h5;omega,by have h69:=Int.not_lt.1 h68;exact_mod_cast h69⟩)⟩
  refine ae_ ?_;have hmore:=GI.more G hG (by have:=of_decide_eq_true h2;omega) (by first | exact .inl (by have:=of_decide_eq_true h5;omega) | exact .inr (by exact_mod_cast h68));refine go_ ?_;refine sQ (aI (kM rfl rfl) (congrArg (Value.int .u64) (D7 rfl hmore.1 (by have:=GI.dlt G hG;omega)))) rfl (go5 ?_);refine sQ (aI (e9 rfl rfl) (congrArg (Value.int .u64) (GE (by have:=hG.rlt;have:=G.f1;omega)))) rfl (go2 ?_);refine ⟨pp_,_,_,(List.Sublist.refl _),(by have:=hmore.1;omega),d - 1,rest+vs.getD (n - 1) 0,⟨?s11,?s12⟩,?mem,rfl,hmore.2⟩
  case mem=>rfl
  case s11=>rfl
  case s12=>rfl

theorem EL (us vs:List Nat) (n j d:Nat) (hu:us.length=17) (lu:Lim us) (hv:vs.length=16) (lv:Lim vs) (hV:val vs<4294967296 ^ n) (hjn:j+n≤16) (hsm:val us<4294967296 ^ (j+n+1)) (hd:d<4294967296) (bu T:Nat) (w:World) (hbu:w.heap[bu]? = some (.cells (uw us).toArray T (0,0))) :
    Calls Tryz.prog 218 [.pointer (some ⟨bu,0,none⟩),UV vs,.int .i64 (n:Int),.int .i64 (j:Int),.int .u64 (d:Int)].toArray w (fun e w'=>∃ x:List Nat×Nat,e = .returned (.bool (((x.2:Nat):Int)==1))∧ExtX [bu] w w'∧w'.heap[bu]? = some (.cells (uw x.1).toArray T (0,0))∧Took us (val vs) d j n x):=by
 refine ID (N:=78) (g:=fun x:List Nat×Nat=>.bool (((x.2:Nat):Int)==1)) (cs':=fun x:List Nat×Nat=>uw x.1) (Q:=fun x:List Nat×Nat=>Took us (val vs) d j n x) Tryz.func218 rfl rfl (by simp) hbu ?_;obtain ⟨w0,rfl⟩:∃ w0,w0=w:=⟨_,rfl⟩;simp only [bA,Nat.reduceAdd];refine go_ ?_;refine aU rfl (fV rfl rfl (fun b6 hb6=>x9 ?_));refine cC [11,12,13,14,17,18,19,20,21,22,23,24,25,26,27,28,29,30,31,32,33,34,35,36,37,38,39,40,41,42,43,44,45,46,47,48,49,50,51,52,53,54] (fun g nn M=>∃ (i:Nat) (l:List Nat) (c bo:Nat),(g 11 = .int .u64 (c:Int)∧g 12 = .int .u64 (bo:Int)∧g 17 = .int .i64 (i:Int))∧M=[⟨b6,31,uw vs⟩,⟨bu,T,uw l⟩]∧nn=n - i∧(i≤n∧TakeIn us (val vs) d j i l c bo)) (n - 0) ?start ?round
 case start =>
  refine ⟨_,(List.Sublist.refl _),0,us,0,0,⟨?a11,?a12,?a17⟩,?mem0,rfl,⟨Nat.zero_le _,TakeIn.start hu lu _ _ _⟩⟩
  case mem0=>rfl
  case a11=>rfl
  case a12=>rfl
  case a17=>rfl
 case round =>
  rintro nn g M ⟨i,l,c,bo,⟨hg11,hg12,hg17⟩,rfl,hmeas,⟨hi,hT⟩⟩;subst nn;simp only [eJ,hg11,hg12,hg17];clear hg11 hg12 hg17;refine go4 ?_;refine aK _ rfl (fun hc=>?_) (fun hc=>?_)
  ·replace hc:=cB_ hc
   have hc:i<n:=by omega
   refine AI ?_;refine sQ (cU arT rfl rfl oo_ oo_) rfl (sQ (cA tyT rfl mm_ (pF oo_)) rfl ?_);refine sQ (cP d9 dJ rfl) rfl (go_ ?_);refine sQ (aI (e9 rfl rfl) (congrArg (Value.int .u64) (aR_ hT.clt hd (cF lv i)))) rfl (go6 ?_);refine sQ (aI (e9 rfl rfl) (congrArg (Value.int .i64) (kL oo_))) rfl (go_ ?_);refine sQ (cU arT rfl rfl oo_ oo_) rfl (sQ (cA tyT rfl mm_ (pF (by rw [hT.len];omega))) rfl ?_);refine sQ (cP d9 dJ rfl) rfl (go_ ?_);refine sQ (aI (cP dJ d9 rfl) (k5 _)) rfl (sQ (cP d9 dJ rfl) rfl (go2 ?_));refine sQ (aI (kM rfl rfl) (congrArg (Value.int .u64) (XO hT.ble (cF hT.lim _) (Nat.mod_lt _ dd_)))) rfl (go6 ?_);refine sQ (aI (e9 rfl rfl) (congrArg (Value.int .i64) (kL oo_))) rfl (go_ ?_);refine sQ (aI (cP dJ d9 rfl) (k5 _)) rfl (go_ ?_);refine sQ (cU arT rfl rfl oo_ oo_) rfl (aU rfl (j3 tyT rfl rfl uu_ (by rw [hT.len];omega) (by first | exact .inl (by assumption) | exact .inr (List.mem_singleton.2 rfl)) ?_));refine go3 ?_;refine sQ (aI (qO rfl rfl dd_) (congrArg (Value.int .u64) (nJ _ 63))) rfl (go4 ?_);refine sQ (aI (qO rfl rfl dd_) (congrArg (Value.int .u64) (nJ _ 32))) rfl (go3 ?_);refine sQ (aI (e9 rfl rfl) (congrArg (Value.int .i64) (gA oo_))) rfl (go2 ?_);refine ⟨pp_,_,_,(List.Sublist.refl _),oo_,i+1,_,_,_,⟨?s11,?s12,?s17⟩,?mem,rfl,⟨by omega,MT hT lv oo_ hd⟩⟩
   case mem=>rfl
   case s11=>rfl
   case s12=>rfl
   case s17=>rfl
  replace hc:=cB_ hc
  obtain rfl:n=i:=by omega
  refine go5 ?_;refine sQ (aI (e9 rfl rfl) (congrArg (Value.int .i64) (kL oo_))) rfl (go_ ?_);refine sQ (cU arT rfl rfl oo_ oo_) rfl (sQ (cA tyT rfl mm_ (pF (by rw [hT.len];omega))) rfl ?_);refine sQ (cP d9 dJ rfl) rfl (go3 ?_);refine sQ (aI (kM rfl rfl) (congrArg (Value.int .u64) (aP_ hT.ble (cF hT.lim _) hT.clt))) rfl (go6 ?_);refine sQ (aI (e9 rfl rfl) (congrArg (Value.int .i64) (kL oo_))) rfl (go_ ?_);refine sQ (aI (cP dJ d9 rfl) (k5 _)) rfl (go_ ?_);refine sQ (cU arT rfl rfl oo_ oo_) rfl (aU rfl (j3 tyT rfl rfl uu_ (by rw [hT.len];omega) (by first | exact .inl (by assumption) | exact .inr (List.mem_singleton.2 rfl)) ?_));refine go3 ?_;refine sQ (aI (qO rfl rfl dd_) (congrArg (Value.int .u64) (nJ _ 63))) rfl (go4 ?_);refine aS rfl (.inr rfl) rfl ?_;exact ⟨(_,_),rfl,by first | exact .tail _ (.head _) | exact .head _,TakeIn.took hT oo_ hV lu hsm⟩

theorem EI (us vs:List Nat) (n j:Nat) (hu:us.length=17) (lu:Lim us) (hv:vs.length=16) (lv:Lim vs) (hV:val vs<4294967296 ^ n) (hjn:j+n≤16) (hsm:val us<4294967296 ^ (j+n+1)) (bu T:Nat) (w:World) (hbu:w.heap[bu]? = some (.cells (uw us).toArray T (0,0))) :
    Calls Tryz.prog 219 [.pointer (some ⟨bu,0,none⟩),UV vs,.int .i64 (n:Int),.int .i64 (j:Int)].toArray w (fun e w'=>∃ x:List Nat,e = .returned (.tuple #[])∧ExtX [bu] w w'∧w'.heap[bu]? = some (.cells (uw x).toArray T (0,0))∧Gave us (val vs) j n x):=by
 refine ID (N:=52) (g:=fun x:List Nat=>.tuple #[]) (cs':=fun x:List Nat=>uw x) (Q:=fun x:List Nat=>Gave us (val vs) j n x) Tryz.func219 rfl rfl (by simp) hbu ?_;obtain ⟨w0,rfl⟩:∃ w0,w0=w:=⟨_,rfl⟩;simp only [bA,Nat.reduceAdd];refine go_ ?_;refine aU rfl (fV rfl rfl (fun b5 hb5=>iE ?_));refine cC [8,9,11,12,13,14,15,16,17,18,19,20,21,22,23,24,25,26,27,28,29,30,31,32,33,34,35,36,37,38,39] (fun g nn M=>∃ (i:Nat) (l:List Nat) (c:Nat),(g 8 = .int .u64 (c:Int)∧g 11 = .int .i64 (i:Int))∧M=[⟨b5,31,uw vs⟩,⟨bu,T,uw l⟩]∧nn=n - i∧(i≤n∧GiveIn us (val vs) j i l c)) (n - 0) ?start ?round
 case start =>
  refine ⟨_,(List.Sublist.refl _),0,us,0,⟨?a8,?a11⟩,?mem0,rfl,⟨Nat.zero_le _,GiveIn.start hu lu _ _⟩⟩
  case mem0=>rfl
  case a8=>rfl
  case a11=>rfl
 case round =>
  rintro nn g M ⟨i,l,c,⟨hg8,hg11⟩,rfl,hmeas,⟨hi,hT⟩⟩;subst nn;simp only [eJ,hg8,hg11];clear hg8 hg11;refine go4 ?_;refine aK _ rfl (fun hc=>?_) (fun hc=>?_)
  ·replace hc:=cB_ hc
   have hc:i<n:=by omega
   refine go8 ?_;refine gdr (sk (sk (s0))) [0,4,8,12,16,20,24,28,32,36,40,44,48,52,56,60] [] mix (by kernel_rfl) (go4 ?_);refine pQ rfl (aI (e9 rfl rfl) (congrArg (Value.int .i64) (kL oo_))) (go_ ?_);refine pQ rfl (cU arT rfl rfl oo_ oo_) (pQ rfl (cA tyT rfl mm_ (pF (by rw [hT.len];omega))) ?_);refine pQ rfl (cP d9 dJ rfl) (go_ ?_);refine pQ rfl (cU arT rfl rfl oo_ oo_) (pQ rfl (cA tyT rfl mm_ (pF oo_)) ?_);refine pQ rfl (cP d9 dJ rfl) (go_ ?_);refine pQ rfl (aI (e9 rfl rfl) (congrArg (Value.int .u64) (ac_ hT.cle (cF hT.lim _) (cF lv i)))) (go6 ?_);refine sQ (aI (e9 rfl rfl) (congrArg (Value.int .i64) (kL oo_))) rfl (go_ ?_);refine sQ (aI (cP dJ d9 rfl) (k5 _)) rfl (go_ ?_);refine sQ (cU arT rfl rfl oo_ oo_) rfl (aU rfl (j3 tyT rfl rfl uu_ (by rw [hT.len];omega) (by first | exact .inl (by assumption) | exact .inr (List.mem_singleton.2 rfl)) ?_));refine go3 ?_;refine sQ (aI (qO rfl rfl dd_) (congrArg (Value.int .u64) (nJ _ 32))) rfl (go3 ?_);refine sQ (aI (e9 rfl rfl) (congrArg (Value.int .i64) (gA oo_))) rfl (go2 ?_);refine ⟨pp_,_,_,(List.Sublist.refl _),oo_,i+1,_,_,⟨?s8,?s11⟩,?mem,rfl,⟨by omega,LP hT lv oo_⟩⟩
   case mem=>rfl
   case s8=>rfl
   case s11=>rfl
  replace hc:=cB_ hc
  obtain rfl:n=i:=by omega
  refine go_ ?_;refine gdr (sk (sd (s0))) [0,4,8,12,16,20,24,28,32,36,40,44,49] [12] mix (by kernel_rfl) (go3 ?_);refine pQ rfl (aI (e9 rfl rfl) (congrArg (Value.int .i64) (kL oo_))) (go_ ?_);refine pQ rfl (cU arT rfl rfl oo_ oo_) (pQ rfl (cA tyT rfl mm_ (pF (by rw [hT.len];omega))) ?_);refine go_ ?_;refine pQ rfl (cP dJ d9 rfl) (pQ rfl (aI (e9 rfl rfl) (ab_ (cF hT.lim _) hT.cle)) (go_ ?_));refine pQ rfl (cU arT rfl rfl oo_ oo_) ?_;refine cS rfl rfl (j3 tyT rfl rfl uu_ (by rw [hT.len];omega) (by first | exact .inl (by assumption) | exact .inr (List.mem_singleton.2 rfl)) ⟨nf,ss_,?_⟩);refine go_ ?_;refine dh_ rfl (.inl rfl) ?_;exact ⟨_,rfl,by first | exact .tail _ (.head _) | exact .head _,GiveIn.gave hT oo_ hV lu hsm⟩
theorem FQ (x:Nat) (hx:x<4294967296) :
    Ret Tryz.prog 203 [U32 x] (.int .i64 ((bl x:Nat):Int)):=by
 refine aW (N:=19) Tryz.func203 rfl rfl (by simp) (fun w0=>?_);simp only [bA,Nat.reduceAdd];refine go8 ?_;refine aK _ rfl (fun h1=>?_) (fun h1=>?_)
 ·replace h1:=cB_ h1
  refine go2 ?_;refine sQ (aI (qO rfl rfl dd_) (HS x 16)) rfl (iE ?_);refine aK _ rfl (fun h2=>?_) (fun h2=>?_)
  ·replace h2:=cB_ h2
   refine go2 ?_;refine sQ (aI (qO rfl rfl dd_) (HS _ 8)) rfl (iE ?_);refine sQ (aI (cP d9 I2 rfl) (OG oo_)) rfl (sQ (HF (n:=256) bl WI rfl rfl oo_ (by decide +kernel)) rfl (sQ (aI (cP I2 AK rfl) (B4 oo_)) rfl (go4 ?_)));refine aS rfl (.inr rfl) rfl ?_;exact B9 (c:=24) rfl dd_ oo_ (by rw [wO (k:=16) oo_,wO (n:=x / 2 ^ 16) (k:=8) oo_];omega)
  replace h2:=cB_ h2
  refine go4 ?_;refine sQ (aI (cP d9 I2 rfl) (OG oo_)) rfl (sQ (HF (n:=256) bl WI rfl rfl oo_ (by decide +kernel)) rfl (sQ (aI (cP I2 AK rfl) (B4 oo_)) rfl (go4 ?_)));refine aS rfl (.inr rfl) rfl ?_;exact B9 (c:=16) rfl dd_ oo_ (by rw [wO (k:=16) oo_])
 replace h1:=cB_ h1
 refine go6 ?_;refine aK _ rfl (fun h2=>?_) (fun h2=>?_)
 ·replace h2:=cB_ h2
  refine go2 ?_;refine sQ (aI (qO rfl rfl dd_) (HS _ 8)) rfl (iE ?_);refine sQ (aI (cP d9 I2 rfl) (OG oo_)) rfl (sQ (HF (n:=256) bl WI rfl rfl oo_ (by decide +kernel)) rfl (sQ (aI (cP I2 AK rfl) (B4 oo_)) rfl (go4 ?_)));refine aS rfl (.inr rfl) rfl ?_;exact B9 (c:=8) rfl dd_ oo_ (by rw [wO (k:=8) oo_])
 replace h2:=cB_ h2
 refine go4 ?_;refine sQ (aI (cP d9 I2 rfl) (OG oo_)) rfl (sQ (HF (n:=256) bl WI rfl rfl oo_ (by decide +kernel)) rfl (sQ (aI (cP I2 AK rfl) (B4 oo_)) rfl (go4 ?_)));refine aS rfl (.inr rfl) rfl ?_;exact B9 (c:=0) rfl dd_ oo_ oo_

theorem SE (x:Nat) (hx:x<4294967296) :
    Ret Tryz.prog 216 [U32 x] (.int .i64 ((32 - bl x:Nat):Int)):=by
 refine aW (N:=6) Tryz.func216 rfl rfl (by simp) (fun w0=>?_);simp only [bA,Nat.reduceAdd];refine go5 ?_;refine sQ (aZ RJ (FQ x hx) rfl) rfl (go4 ?_);refine aS rfl (.inr rfl) rfl ?_;exact congrArg (Value.int .i64) (an_ hx)

theorem rL (xs:List Nat) (hx:xs.length=16) (lx:Lim xs) (n:Nat) (hn:n<32) :
    Ret Tryz.prog 205 [UV xs,.int .i64 (n:Int)] (.tuple #[UV (toL 16 (val xs * 2 ^ n)),U32 (val xs * 2 ^ n / 4294967296 ^ 16)]):=by
 refine aW (N:=30) Tryz.func205 rfl rfl (by simp) (fun w0=>?_);simp only [bA,Nat.reduceAdd];refine go_ ?_;refine aU rfl (fV rfl rfl (fun b2 hb2=>aU rfl (cM lH (fun b4 hb4=>go3 ?_))));refine aU rfl (cM lH (fun b6 hb6=>go9 ?_));refine cC [7,8,9,10,11,12,13,14,15,16,17,18,19,20,21,22,23,24,25,26] (fun g nn M=>∃ (k:Nat),(g 7 = .int .u64 ((mc (val xs) (2 ^ n) k:Nat):Int)∧g 9 = .int .i64 (k:Int))∧M=[⟨b6,31,uw (tZ k (val xs * 2 ^ n) 16)⟩,⟨b4,31,uw (List.replicate 16 0)⟩,⟨b2,31,uw xs⟩]∧nn=16 - k∧(k≤16)) (16) ?start ?round
 case start =>
  refine ⟨_,(List.Sublist.refl _),0,⟨?a7,?a9⟩,?mem0,rfl,Nat.zero_le _⟩
  case mem0=>rw [u3]
  case a7=>rw [VO];rfl
  case a9=>rfl
 case round =>
  rintro nn g M ⟨k,⟨hg7,hg9⟩,rfl,hmeas,hk⟩;subst nn;simp only [eJ,hg7,hg9];clear hg7 hg9;refine go4 ?_;refine aK _ rfl (fun hc=>?_) (fun hc=>?_)
  ·replace hc:=cB_ hc
   have hc:k<16:=by omega
   refine iE ?_;refine sQ (cU arT rfl rfl oo_ oo_) rfl (sQ (cA tyT rfl mm_ (pF oo_)) rfl ?_);refine sQ (cP d9 dJ rfl) rfl (go_ ?_);refine sQ (aI (zT rfl rfl oo_) (congrArg (Value.int .u64) (WD (cF lx k) oo_))) rfl (sQ (aI (HG rfl rfl) (congrArg (Value.int .u64) (cH_ (XE (m:=2 ^ n) _ k (Nat.pow_pos dd_)) (cF lx k) hn))) rfl (go5 ?_));refine sQ (aI (cP dJ d9 rfl) (k5 _)) rfl (sQ (cU arT rfl rfl oo_ oo_) rfl (aU rfl (j3 tyT rfl rfl uu_ (by rw [fM _ hk];exact hc) (.inl (by assumption)) ?_)));refine go3 ?_;refine sQ (aI (qO rfl rfl dd_) (congrArg (Value.int .u64) (nJ _ 32))) rfl (go6 ?_);refine ⟨pp_,_,_,(List.Sublist.refl _),oo_,k+1,⟨?s7,?s9⟩,?mem,rfl,oo_⟩
   case mem=>rw [cY xs k lx,SJ,t7 _ hc]
   case s7=>exact congrArg (fun m:Nat=>Value.int .u64 (m:Int)) (by rw [cY xs k lx];exact SI _ _ _)
   case s9=>exact congrArg (Value.int .i64) (gA oo_)
  replace hc:=cB_ hc
  obtain rfl:k=16:=by omega
  refine go2 ?_;refine sQ (bE tyT rfl mm_ (by simp [uw,fM])) rfl ?_;refine go_ ?_;refine sQ (aI (cP dJ d9 rfl) (k5 _)) rfl (aU rfl (aX tyT rfl rfl uu_ (by simp [uw,fM]) rfl (eK _) (.inl (by assumption)) ?_));refine go3 ?_;refine mD rfl (.inr rfl) ⟨_,_,_,_,_,_,rfl,mm_,tyT,_,(bX (by simp [uw,fM])),(by simp [uw,fM]),rfl⟩ rfl ?_
  (rw [xI,bQ_ hx lx,Nat.mod_eq_of_lt (OH hx lx hn)];rfl)

theorem xE (xs:List Nat) (hx:xs.length=16) (lx:Lim xs) (n:Nat) (hn:n<32) :
    Ret Tryz.prog 206 [UV xs,.int .i64 (n:Int)] (UV (toL 16 (val xs / 2 ^ n))):=by
 refine aW (N:=33) Tryz.func206 rfl rfl (by simp) (fun w0=>?_);simp only [bA,Nat.reduceAdd];refine go_ ?_;refine aU rfl (fV rfl rfl (fun b2 hb2=>aU rfl (cM lH (fun b4 hb4=>go2 ?_))));refine aU rfl (cM lH (fun b5 hb5=>go6 ?_));refine cC [6,7,8,9,10,11,12,13,14,15,16,17,18,19,20,21,22,23,24,25,26,27,28,29,30,31] (fun g nn M=>∃ (k:Nat),(g 8 = .int .i64 (k:Int))∧M=[⟨b5,31,uw (tZ k (val xs / 2 ^ n) 16)⟩,⟨b4,31,uw (List.replicate 16 0)⟩,⟨b2,31,uw xs⟩]∧nn=16 - k∧(k≤16)) (16) ?start ?round
 case start =>
  refine ⟨_,(List.Sublist.refl _),0,?a8,?mem0,rfl,Nat.zero_le _⟩
  case mem0=>rw [u3]
  case a8=>rfl
 case round =>
  rintro nn g M ⟨k,hg8,rfl,hmeas,hk⟩;subst nn;simp only [eJ,hg8];clear hg8;refine go4 ?_;refine aK _ rfl (fun hc=>?_) (fun hc=>?_)
  ·replace hc:=cB_ hc
   have hc:k<16:=by omega
   refine G3 ?_;refine sQ (aI (e9 rfl rfl) (congrArg (Value.int .i64) (gA oo_))) rfl (go2 ?_);refine aK _ rfl (fun h13=>?_) (fun h13=>?_)
   ·replace h13:=cB_ h13
    refine go2 ?_;refine sQ (aI (e9 rfl rfl) (congrArg (Value.int .i64) (gA oo_))) rfl (sQ (cU arT rfl rfl oo_ oo_) rfl (sQ (cA tyT rfl mm_ (pF oo_)) rfl ?_));refine sQ (aI (cP d9 dJ rfl) (congrArg (Value.int .u64) (gX (cF lx _)))) rfl (go4 ?_);refine sQ (aI (gE rfl) (show _=Value.int .u64 ((dig (val xs) (k+1):Nat):Int) from by first | exact congrArg (fun m:Nat=>Value.int .u64 (m:Int)) (cY xs (k+1) lx) | exact congrArg (fun m:Nat=>Value.int .u64 (m:Int)) (II hx lx oo_).symm)) rfl ?_;refine sQ (aI (zT rfl rfl dd_) (congrArg (Value.int .u64) (sY (mV _ _)))) rfl (go_ ?_);refine sQ (cU arT rfl rfl oo_ oo_) rfl (sQ (cA tyT rfl mm_ (pF oo_)) rfl ?_);refine sQ (aI (cP d9 dJ rfl) (congrArg (Value.int .u64) ((gX (cF lx _)).trans (by rw [cY xs k lx])))) rfl (sQ (aI (HG rfl rfl) (congrArg (Value.int .u64) (B5 (mV _ _) (mV _ _)))) rfl (go_ ?_));refine sQ (aI (qO rfl rfl oo_) (congrArg (Value.int .u64) (XM hn))) rfl (sQ (aI (cP dJ d9 rfl) (k5 _)) rfl (sQ (cU arT rfl rfl oo_ oo_) rfl (aU rfl (j3 tyT rfl rfl uu_ (by rw [fM _ hk];exact hc) (.inl (by assumption)) ?_))));refine go5 ?_;refine ⟨pp_,_,_,(List.Sublist.refl _),oo_,k+1,?s8,?mem,rfl,oo_⟩
    case mem=>rw [CP k oo_,t7 _ hc]
    case s8=>exact congrArg (Value.int .i64) (gA oo_)
   replace h13:=cB_ h13
   refine go3 ?_;refine sQ (aI (gE rfl) (show _=Value.int .u64 ((dig (val xs) (k+1):Nat):Int) from by first | exact congrArg (fun m:Nat=>Value.int .u64 (m:Int)) (cY xs (k+1) lx) | exact congrArg (fun m:Nat=>Value.int .u64 (m:Int)) (II hx lx oo_).symm)) rfl ?_;refine sQ (aI (zT rfl rfl dd_) (congrArg (Value.int .u64) (sY (mV _ _)))) rfl (go_ ?_);refine sQ (cU arT rfl rfl oo_ oo_) rfl (sQ (cA tyT rfl mm_ (pF oo_)) rfl ?_);refine sQ (aI (cP d9 dJ rfl) (congrArg (Value.int .u64) ((gX (cF lx _)).trans (by rw [cY xs k lx])))) rfl (sQ (aI (HG rfl rfl) (congrArg (Value.int .u64) (B5 (mV _ _) (mV _ _)))) rfl (go_ ?_));refine sQ (aI (qO rfl rfl oo_) (congrArg (Value.int .u64) (XM hn))) rfl (sQ (aI (cP dJ d9 rfl) (k5 _)) rfl (sQ (cU arT rfl rfl oo_ oo_) rfl (aU rfl (j3 tyT rfl rfl uu_ (by rw [fM _ hk];exact hc) (.inl (by assumption)) ?_))));refine go5 ?_;refine ⟨pp_,_,_,(List.Sublist.refl _),oo_,k+1,?s8,?mem,rfl,oo_⟩
   case mem=>rw [CP k oo_,t7 _ hc]
   case s8=>exact congrArg (Value.int .i64) (gA oo_)
  replace hc:=cB_ hc
  obtain rfl:k=16:=by omega
  refine go2 ?_;refine sQ (bE tyT rfl mm_ (by simp [uw,fM])) rfl ?_;refine aU rfl (aX tyT rfl rfl uu_ (by simp [uw,fM]) rfl (eK _) (.inl (by assumption)) ?_);refine go2 ?_;refine aS rfl (.inr rfl) ⟨_,_,_,_,_,_,rfl,mm_,tyT,_,(bX (by simp [uw,fM])),(by simp [uw,fM]),rfl⟩ ?_
  (rw [xI];rfl)

theorem BY (xs:List Nat) (hx:xs.length=16) (lx:Lim xs) (d:Nat) (hd:d<4294967296) (h0:0<d) :
    Ret Tryz.prog 215 [UV xs,U32 d] (.tuple #[UV (toL 16 (val xs / d)),U32 (val xs % d)]):=by
 refine aW (N:=33) Tryz.func215 rfl rfl (by simp) (fun w0=>?_);simp only [bA,Nat.reduceAdd];refine go_ ?_;refine aU rfl (fV rfl rfl (fun b2 hb2=>aU rfl (cM lH (fun b4 hb4=>iE ?_))));refine cC [6,7,8,9,10,11,12,13,14,15,16,17,18,19,20,21,22,23,24,25,26,27,28,29] (fun g nn M=>∃ (k:Nat),(g 6 = .int .u64 ((val xs / 4294967296 ^ k % d:Nat):Int)∧g 7 = .int .i64 ((k:Int) - 1))∧M=[⟨b4,31,uw (sW k (val xs / d))⟩,⟨b2,31,uw xs⟩]∧nn=k+0∧(k≤16)) (16) ?start ?round
 case start =>
  refine ⟨_,(List.Sublist.refl _),16,⟨?a6,?a7⟩,?mem0,rfl,Nat.le_refl _⟩
  case mem0=>rw [OZ]
  case a6=>rw [bk_ hx lx];rfl
  case a7=>rfl
 case round =>
  rintro nn g M ⟨k,⟨hg6,hg7⟩,rfl,hmeas,hk⟩;subst nn;simp only [eJ,hg6,hg7];clear hg6 hg7;refine go5 ?_;refine aK _ rfl (fun hc=>?_) (fun hc=>?_)
  ·replace hc:=cB_ hc
   obtain ⟨m,rfl⟩:∃ m,k=m+1:=⟨k - 1,by omega⟩;have hr:val xs / 4294967296 ^ (m+1) % d<4294967296:=Nat.lt_trans (Nat.mod_lt _ h0) hd;refine go4 ?_;refine sQ (aI (gE rfl) rfl) rfl (sQ (aI (zT rfl rfl dd_) (congrArg (Value.int .u64) (sY hr))) rfl (sQ (aI (gE rfl) (congrArg (Value.int .i64) (show (((m+1:Nat):Int) - 1)=(m:Int) by omega))) rfl (sQ (cU arT rfl rfl oo_ oo_) rfl (sQ (cA tyT rfl mm_ (pF oo_)) rfl ?_))));refine sQ (aI (cP d9 dJ rfl) (congrArg (Value.int .u64) ((gX (cF lx _)).trans (by rw [cY xs m lx])))) rfl (sQ (aI (HG rfl rfl) (congrArg (Value.int .u64) (B5 hr (mV _ _)))) rfl (go3 ?_));refine sQ (aI (gE rfl) (congrArg (Value.int .i64) (show (((m+1:Nat):Int) - 1)=(m:Int) by omega))) rfl (go2 ?_);refine sQ (aI (cP d9 dJ rfl) (congrArg (Value.int .u64) (gX hd))) rfl (sQ (aI (f8 rfl rfl oo_) (congrArg (Value.int .u64) (NY _ _))) rfl (sQ (aI (cP dJ d9 rfl) (k5 _)) rfl (sQ (cU arT rfl rfl oo_ oo_) rfl (aU rfl (j3 tyT rfl rfl uu_ (by rw [jY _ oo_];omega) (.inl (by assumption)) ?_)))));refine go4 ?_;refine sQ (aI (cP d9 dJ rfl) (congrArg (Value.int .u64) (gX hd))) rfl (sQ (aI (nD rfl rfl oo_) (congrArg (Value.int .u64) (xR _ _))) rfl (go3 ?_));refine sQ (aI (gE rfl) (congrArg (Value.int .i64) (show (((m+1:Nat):Int) - 1)=(m:Int) by omega))) rfl (go3 ?_);refine ⟨pp_,_,_,(List.Sublist.refl _),oo_,m,⟨?s6,?s7⟩,?mem,rfl,oo_⟩
   case mem=>rw [MQ m h0,AJ oo_]
   case s6=>exact congrArg (fun m:Nat=>Value.int .u64 (m:Int)) (BF m h0).2
   case s7=>exact congrArg (Value.int .i64) (bD (n:=(m:Int) - 1) (by unfold I64;omega))
  replace hc:=cB_ hc
  obtain rfl:k=0:=by omega
  refine go2 ?_;refine sQ (bE tyT rfl mm_ (by simp [uw,jY])) rfl ?_;refine go_ ?_;refine sQ (aI (cP dJ d9 rfl) (k5 _)) rfl (aU rfl (aX tyT rfl rfl uu_ (by simp [uw,jY]) (by simp [uw,jY]) (eK _) (.inl (by assumption)) ?_));refine go3 ?_;refine mD rfl (.inr rfl) ⟨_,_,_,_,_,_,rfl,mm_,tyT,_,(bX (by simp [uw,jY])),(by simp [uw,jY]),rfl⟩ rfl ?_
  (rw [FO,Nat.pow_zero,Nat.div_one,Nat.mod_eq_of_lt (Nat.lt_trans (Nat.mod_lt _ h0) hd)];rfl)
theorem n9 (xs ys:List Nat) (hx:xs.length=16) (hy:ys.length=16) (lx:Lim xs) (ly:Lim ys) (h0:0<val ys) :
    Ret Tryz.prog 189 [UV xs,UV ys] (.tuple #[UV (toL 16 (val xs / val ys)),UV (toL 16 (val xs % val ys))]):=by
 refine aW (N:=94) Tryz.func189 rfl rfl (by simp) (fun w0=>?_);simp only [bA,Nat.reduceAdd];refine go_ ?_;refine aU rfl (fV rfl rfl (fun b2 hb2=>aU rfl (fV rfl rfl (fun b3 hb3=>aU rfl (cM lH (fun b4 hb4=>aU rfl (cM lH (fun b5 hb5=>go2 ?_))))))));refine gdr (sk (sk (sk (sk (s0))))) [0,4,8,12,16,20] [] mix (by kernel_rfl) (pQ rfl (bE tyT rfl mm_ (by simp [uw,hy])) ?_);refine pQ rfl (aZ yR (j7 ys hy) rfl) (pQ rfl (bE tyT rfl mm_ (by simp [uw,hx])) ?_);refine pQ rfl (aZ yR (j7 xs hx) rfl) (go5 ?_);refine sQ (bE tyT rfl mm_ (by simp [uw,hx])) rfl ?_;refine sQ (bE tyT rfl mm_ (by simp [uw,hy])) rfl ?_;refine sQ (aZ AG (kG xs ys hx hy lx ly) rfl) rfl (go2 ?_);refine aK _ rfl (fun ho=>?_) (fun ho=>?_)
 ·replace ho:=cB_ ho
  have hlt:=QM ho;refine go_ ?_;refine gdr (sd (sd (sk (sk (s0))))) [0,6,9,13] [2,3] mix (by kernel_rfl) (pQ rfl (lB lH arT rfl (.nil _)) (qZ rfl rfl (bE tyT rfl mm_ (by simp [uw,hx])) ?_));refine cS rfl rfl (aX tyT rfl rfl uu_ (by simp [uw,List.length_replicate]) (by simp [uw]) (eK _) (.inl (by assumption)) ⟨nf,ss_,?_⟩);refine cS rfl rfl (aX tyT rfl rfl uu_ (by simp [uw,hx]) (by simp [uw]) (eK _) (.inl (by assumption)) ⟨nf,ss_,?_⟩);refine go2 ?_;refine mD rfl (.inr rfl) ⟨_,_,_,_,_,_,rfl,mm_,tyT,_,(bX (by simp [uw])),(by simp [uw]),rfl⟩ ⟨_,_,_,_,_,_,rfl,mm_,tyT,_,(bX (by simp [uw,hx])),(by simp [uw,hx]),rfl⟩ ?_;exact S9 hx lx hlt
 replace ho:=cB_ ho
 have hle:=M6 (Int.not_lt.1 ho);have hsp:=aQ_ h0;have hsz:=qV ys;rw [hy] at hsz;refine go6 ?_;refine aK _ rfl (fun h29=>?_) (fun h29=>?_)
 ·replace h29:=cB_ h29
  have hsz1:szL ys=1:=by omega
  refine go_ ?_;refine sQ (bE tyT rfl mm_ (by simp [uw,hx])) rfl ?_;refine sQ (cU arT rfl rfl dd_ dd_) rfl (sQ (cA tyT rfl mm_ (pF (k:=0) oo_)) rfl ?_);refine sQ (aZ ZW (BY xs hx lx _ (cF ly 0) (NS hsz1)) rfl) rfl (go3 ?_);refine aU rfl (cM lH (fun b8 hb8=>aU rfl (aX tyT rfl rfl uu_ (by simp [uw,bN]) (by simp [uw]) (eK _) (.inl (by assumption)) ?_)));refine go3 ?_;refine sQ (bE tyT rfl mm_ (by simp [uw,bN])) rfl ?_;refine go_ ?_;refine sQ (lB lH arT rfl (bH_ _)) rfl (aU rfl (aX tyT rfl rfl uu_ (by simp [uw,bN]) (by simp [uw]) (eK _) (.inl (by assumption)) ?_));refine aU rfl (aX tyT rfl rfl uu_ (by simp [uw,List.length_replicate]) (by simp [uw]) (eK _) (.inl (by assumption)) ?_);refine go2 ?_;refine mD rfl (.inr rfl) ⟨_,_,_,_,_,_,rfl,mm_,tyT,_,(bX (by simp [uw,bN])),(by simp [uw,bN]),rfl⟩ ⟨_,_,_,_,_,_,rfl,mm_,tyT,_,(bX (by simp [uw])),(by simp [uw]),rfl⟩ ?_;exact V0 ly hsz1
 replace h29:=cB_ h29
 have h2:2≤szL ys:=by omega
 have D:DV xs ys (szL ys) (32 - bl (ys.getD (szL ys - 1) 0)):=⟨hx,hy,lx,ly,rfl,h2,rfl,hle⟩;refine go3 ?_;refine sQ (aI (kM rfl rfl) (congrArg (Value.int .i64) (pD (b:=1) rfl oo_ oo_))) rfl (sQ (cU arT rfl rfl oo_ oo_) rfl (sQ (cA tyT rfl mm_ (pF oo_)) rfl ?_));refine sQ (aZ ZX (SE _ (cF ly _)) rfl) rfl (go3 ?_);refine sQ (bE tyT rfl mm_ (by simp [uw,hy])) rfl ?_;refine go_ ?_;refine sQ (aZ GV (rL ys hy ly _ D.s32) rfl) rfl (go3 ?_);refine aU rfl (cM lH (fun b11 hb11=>aU rfl (aX tyT rfl rfl uu_ (by simp [uw,bN]) (by simp [uw]) (eK _) (.inl (by assumption)) ?_)));refine go3 ?_;refine sQ (bE tyT rfl mm_ (by simp [uw,hx])) rfl ?_;refine go_ ?_;refine sQ (aZ GV (rL xs hx lx _ D.s32) rfl) rfl (go3 ?_);refine aU rfl (cM lH (fun b13 hb13=>aU rfl (aX tyT rfl rfl uu_ (by simp [uw,bN]) (by simp [uw]) (eK _) (.inl (by assumption)) ?_)));refine go3 ?_;refine aU rfl (cM cO_ (fun b15 hb15=>go2 ?_));refine gdr (sd (sk (sk (sk (sk (sk (sk (s0)))))))) [0,4,9] [2] mix (by kernel_rfl) (pQ rfl (qU arT rfl rfl rfl dd_ dd_ dd_ dd_) (pQ rfl (qU arT rfl rfl rfl dd_ dd_ dd_ dd_) ?_));refine cS rfl rfl (HM HU rfl rfl mm_ uu_ (fun v hv=>eK _ v (List.mem_of_mem_drop (List.mem_of_mem_take hv))) (by simp [uw,bN]) (by simp [uw]) (U3 (bN _ _)) (.inl (by assumption)) ⟨nf,ss_,?_⟩);refine go3 ?_;refine sQ (cU arT rfl rfl dd_ dd_) rfl (aU rfl (j3 (k:=16) tyT rfl rfl uu_ (by simp [bN]) (.inl (by assumption)) ?_));refine go5 ?_;refine sQ (aI (kM rfl rfl) (congrArg (Value.int .i64) (N8 D.nm (by have:=D.m16;omega)))) rfl (go3 ?_);refine cC [16,17,65,66,67,68,69,70,71,72,73,74,75,76,77,78,79,80,81,82,83,84,85,86,87] (fun g nn M=>∃ (k:Nat) (l:List Nat),(g 16 = .int .i64 ((k:Int) - 1))∧M=[⟨b15,198,uw l⟩,⟨b13,31,uw (toL 16 (val xs * 2 ^ (32 - bl (ys.getD (szL ys - 1) 0))))⟩,⟨b11,31,uw (toL 16 (val ys * 2 ^ (32 - bl (ys.getD (szL ys - 1) 0))))⟩,⟨b5,31,uw (List.replicate 16 0)⟩,⟨b4,31,uw (sW k (val xs / val ys))⟩,⟨b3,31,uw ys⟩,⟨b2,31,uw xs⟩]∧nn=k+0∧(k+szL ys≤17∧QI xs ys (32 - bl (ys.getD (szL ys - 1) 0)) k l)) (szL xs - szL ys+1) ?start ?round
 case start =>
  refine ⟨_,(List.Sublist.refl _),szL xs - szL ys+1,((toL 16 (val xs * 2 ^ (32 - bl (ys.getD (szL ys - 1) 0))) ++ [0]).set 16 (val xs * 2 ^ (32 - bl (ys.getD (szL ys - 1) 0)) / 4294967296 ^ 16)),?a16,?mem0,rfl,⟨by have:=D.nm;have:=D.m16;omega,QI.start D⟩⟩
  case mem0=>rw [← DV.qstart D]
  case a16=>exact congrArg (Value.int .i64) oo_
 case round =>
  rintro nn g M ⟨k,l,hg16,rfl,hmeas,⟨hkn,hq⟩⟩;subst nn;simp only [eJ,hg16];clear hg16;refine go5 ?_;refine aK _ rfl (fun hc=>?_) (fun hc=>?_)
  ·replace hc:=cB_ hc
   obtain ⟨m,rfl⟩:∃ m,k=m+1:=⟨k - 1,by omega⟩;refine go4 ?_;refine sQ (bE tyT rfl mm_ (by simp [uw,bN])) rfl ?_;refine go_ ?_;refine sQ (aI (gE rfl) (congrArg (Value.int .i64) (show (((m+1:Nat):Int) - 1)=(m:Int) by omega))) rfl (aU rfl (V4 ZY rfl (fun w hw=>BX l _ (szL ys) m (hq.qh D oo_) b15 198 w (hw.mem _ m0)) (fun d hd=>go4 ?_)));refine sQ (bE tyT rfl mm_ (by simp [uw,bN])) rfl ?_;refine go_ ?_;refine sQ (aI (gE rfl) (congrArg (Value.int .i64) (show (((m+1:Nat):Int) - 1)=(m:Int) by omega))) rfl (go_ ?_);refine aU rfl (NZ ZZ rfl (fun w hw=>EL l _ (szL ys) m d hq.len hq.lim (bN _ _) (iO _ _) (by rw [D.v16];exact D.vlt) oo_ (hq.small D) hd.1 b15 198 w (hw.mem _ m0)) (fun x=>uu_) (.inl (by assumption)) (fun x ht=>?_));refine go_ ?_;refine aK _ rfl (fun h77=>?_) (fun h77=>?_)
   ·replace h77:=cB_ h77
    refine go2 ?_;refine sQ (aI (kM rfl rfl) (congrArg (Value.int .u64) (D7 rfl (ht.pos oo_) (by have:=hd.1;omega)))) rfl (go3 ?_);refine sQ (bE tyT rfl mm_ (by simp [uw,bN])) rfl ?_;refine go_ ?_;refine sQ (aI (gE rfl) (congrArg (Value.int .i64) (show (((m+1:Nat):Int) - 1)=(m:Int) by omega))) rfl (aU rfl (NZ Z0 rfl (fun w hw=>EI x.1 _ (szL ys) m ht.len ht.lim (bN _ _) (iO _ _) (by rw [D.v16];exact D.vlt) oo_ ht.small b15 198 w (hw.mem _ m0)) (fun y=>uu_) (.inl (by assumption)) (fun y hgv=>?_)));refine go_ ?_;obtain ⟨hz,hdz,_⟩:=hq.took1 D hd ht oo_ hgv;refine go_ ?_;refine sQ (aI (gE rfl) (congrArg (Value.int .i64) (show (((m+1:Nat):Int) - 1)=(m:Int) by omega))) rfl (go_ ?_);refine sQ (aI (cP dJ d9 rfl) (k5 _)) rfl (sQ (cU arT rfl rfl oo_ oo_) rfl (aU rfl (j3 tyT rfl rfl uu_ (by rw [jY _ oo_];omega) (.inl (by assumption)) ?_)));refine go2 ?_;refine sQ (aI (gE rfl) (congrArg (Value.int .i64) (show (((m+1:Nat):Int) - 1)=(m:Int) by omega))) rfl (go3 ?_);refine ⟨pp_,_,_,(List.Sublist.refl _),oo_,m,_,?s16,?mem,rfl,⟨by omega,hz⟩⟩
    case mem=>rw [hdz,AJ oo_]
    case s16=>exact congrArg (Value.int .i64) (bD (n:=(m:Int) - 1) (by unfold I64;omega))
   replace h77:=cB_ h77
   obtain ⟨hz,hdz⟩:=hq.took0 D hd ht oo_;refine go2 ?_;refine sQ (aI (gE rfl) (congrArg (Value.int .i64) (show (((m+1:Nat):Int) - 1)=(m:Int) by omega))) rfl (go_ ?_);refine sQ (aI (cP dJ d9 rfl) (k5 _)) rfl (sQ (cU arT rfl rfl oo_ oo_) rfl (aU rfl (j3 tyT rfl rfl uu_ (by rw [jY _ oo_];omega) (.inl (by assumption)) ?_)));refine go2 ?_;refine sQ (aI (gE rfl) (congrArg (Value.int .i64) (show (((m+1:Nat):Int) - 1)=(m:Int) by omega))) rfl (go3 ?_);refine ⟨pp_,_,_,(List.Sublist.refl _),oo_,m,_,?s16,?mem,rfl,⟨by omega,hz⟩⟩
   case mem=>rw [hdz,AJ oo_]
   case s16=>exact congrArg (Value.int .i64) (bD (n:=(m:Int) - 1) (by unfold I64;omega))
  replace hc:=cB_ hc
  obtain rfl:k=0:=by omega
  refine go2 ?_;refine gdr (sk (sk (sk (sd (sd (sk (sk (s0)))))))) [0,4,8,12,16,20,25,29] [6,7] mix (by kernel_rfl) (pQ rfl (bE tyT rfl mm_ (by rw [d8,jY _ oo_])) ?_);refine pQ rfl (qU arT rfl rfl rfl dd_ dd_ dd_ dd_) (pQ rfl (S5 arT rfl dd_) (pQ rfl (eU (vs:=uw (l.take 16)) tyT rfl mm_ WP (by simp [uw,hq.len])) ?_));refine go_ ?_;refine pQ rfl (aZ RK (xE (l.take 16) (by simp [hq.len]) (hq.lim.take 16) _ D.s32) rfl) ?_;refine cS rfl rfl (aX tyT rfl rfl uu_ (by rw [d8,jY _ oo_]) (by rw [d8,jY _ oo_]) (eK _) (.inl (by assumption)) ⟨nf,ss_,?_⟩);refine cS rfl rfl (aX tyT rfl rfl uu_ (by simp [uw,bN]) (by simp [uw]) (eK _) (.inl (by assumption)) ⟨nf,ss_,?_⟩);refine go2 ?_;refine mD rfl (.inr rfl) ⟨_,_,_,_,_,_,rfl,mm_,tyT,_,(bX (by rw [d8,jY _ oo_])),(by rw [d8,jY _ oo_]),rfl⟩ ⟨_,_,_,_,_,_,rfl,mm_,tyT,_,(bX (by simp [uw,bN])),(by simp [uw,bN]),rfl⟩ ?_
  (rw [FO,hq.fin D];rfl)
end Go.Proofs.YtbjlhfochebmiaaGreatDoor

