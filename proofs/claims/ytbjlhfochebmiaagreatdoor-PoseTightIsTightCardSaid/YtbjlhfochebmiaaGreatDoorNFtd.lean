/- Lemmas: what they ask stands in their statements. -/
import Derived.Test.YtbjlhfochebmiaaGreatDoorNFSg
set_option linter.unusedSimpArgs false
set_option linter.unusedVariables false
set_option maxHeartbeats 8000000
set_option maxRecDepth 20000
namespace Go.Num
open Go Go.Kn
def iH (a:(List I)) (b:(List I)):Bool :=
 (lM a b)
def aL (q0:(A3 (List I))) (q1:(List I)) (q2:(A3 W)) (q3:(A3 W)) (q4:Rt) (q5:(A3 Rt)) (q6:(List I)) (q7:(List I)) (q8:Bool) (q9:Bool) (q10:(List I)) (q11:Bool) (q12:(List I)) (q13:Bool) (q14:Rt) (q15:Rt) (q16:Rt) (q17:(A3 Rt)) (q18:Rt) (q19:Rt) (q20:W) (q21:W) (q22:Bool) (q23:Path) (q24:Bool):Bool :=
 bif q8 then (bif q9 then (bif q11 then (bif q13 then (bif (decide (q5.x.n=q14.n)&&(decide (q5.x.d=q14.d)&&(decide (q5.y.n=q15.n)&&(decide (q5.y.d=q15.d)&&(decide (q5.z.n=q16.n)&&decide (q5.z.d=q16.d)))))) then (bif (decide (q17.x.n=q18.n)&&(decide (q17.x.d=q18.d)&&(decide (q17.y.n=q19.n)&&(decide (q17.y.d=q19.d)&&(decide (q17.z.n=q16.n)&&decide (q17.z.d=q16.d)))))) then (bif (decide (q2.x.1=(-1))&&(decide (q2.y.1=(-1))&&decide (q2.z.1=(-1)))) then (bif (((q0.z).length:Int)==0) then (bif (decide (q3.x.1=9)&&(decide (q3.y.1=1)&&decide (q3.z.1=1))) then (bif (q20.1==0) then (bif (q21.1==1) then (bif q22 then false else q24) else false) else false) else false) else false) else (bif (((q0.z).length:Int)==0) then false else false)) else (bif (((q0.z).length:Int)==0) then false else false)) else (bif (((q0.z).length:Int)==0) then false else false)) else (bif (decide (q5.x.n=q14.n)&&(decide (q5.x.d=q14.d)&&(decide (q5.y.n=q15.n)&&(decide (q5.y.d=q15.d)&&(decide (q5.z.n=q16.n)&&decide (q5.z.d=q16.d)))))) then (bif (decide (q17.x.n=q18.n)&&(decide (q17.x.d=q18.d)&&(decide (q17.y.n=q19.n)&&(decide (q17.y.d=q19.d)&&(decide (q17.z.n=q16.n)&&decide (q17.z.d=q16.d)))))) then (bif (decide (q2.x.1=(-1))&&(decide (q2.y.1=(-1))&&decide (q2.z.1=(-1)))) then false else false) else false) else false)) else (bif (decide (q5.x.n=q14.n)&&(decide (q5.x.d=q14.d)&&(decide (q5.y.n=q15.n)&&(decide (q5.y.d=q15.d)&&(decide (q5.z.n=q16.n)&&decide (q5.z.d=q16.d)))))) then (bif (decide (q17.x.n=q18.n)&&(decide (q17.x.d=q18.d)&&(decide (q17.y.n=q19.n)&&(decide (q17.y.d=q19.d)&&(decide (q17.z.n=q16.n)&&decide (q17.z.d=q16.d)))))) then (bif (decide (q2.x.1=(-1))&&(decide (q2.y.1=(-1))&&decide (q2.z.1=(-1)))) then false else false) else false) else false)) else (bif (decide (q5.x.n=q14.n)&&(decide (q5.x.d=q14.d)&&(decide (q5.y.n=q15.n)&&(decide (q5.y.d=q15.d)&&(decide (q5.z.n=q16.n)&&decide (q5.z.d=q16.d)))))) then (bif (decide (q17.x.n=q18.n)&&(decide (q17.x.d=q18.d)&&(decide (q17.y.n=q19.n)&&(decide (q17.y.d=q19.d)&&(decide (q17.z.n=q16.n)&&decide (q17.z.d=q16.d)))))) then (bif (decide (q2.x.1=(-1))&&(decide (q2.y.1=(-1))&&decide (q2.z.1=(-1)))) then false else false) else false) else false)) else (bif (decide (q5.x.n=q14.n)&&(decide (q5.x.d=q14.d)&&(decide (q5.y.n=q15.n)&&(decide (q5.y.d=q15.d)&&(decide (q5.z.n=q16.n)&&decide (q5.z.d=q16.d)))))) then (bif (decide (q17.x.n=q18.n)&&(decide (q17.x.d=q18.d)&&(decide (q17.y.n=q19.n)&&(decide (q17.y.d=q19.d)&&(decide (q17.z.n=q16.n)&&decide (q17.z.d=q16.d)))))) then (bif (decide (q2.x.1=(-1))&&(decide (q2.y.1=(-1))&&decide (q2.z.1=(-1)))) then false else false) else false) else false)
def fH:Bool :=
 let q0:(A3 (List I)):=(bL (⟨(⟨(⟨(wl 0),(wl 0),(wl 0)⟩:(A3 W)),(⟨(wl 1),(wl 0),(wl 0),(wl 0)⟩:(A4 W))⟩:Pose),(⟨(⟨(wl 8),(wl 0),(wl 0)⟩:(A3 W)),(⟨(wl 1),(wl 0),(wl 0),(wl 1)⟩:(A4 W))⟩:Pose)⟩:Path) (⟨(wl 1),(wl 0),(wl 0)⟩:(A3 W))).1
 let q1:(List I):=(bL (⟨(⟨(⟨(wl 0),(wl 0),(wl 0)⟩:(A3 W)),(⟨(wl 1),(wl 0),(wl 0),(wl 0)⟩:(A4 W))⟩:Pose),(⟨(⟨(wl 8),(wl 0),(wl 0)⟩:(A3 W)),(⟨(wl 1),(wl 0),(wl 0),(wl 1)⟩:(A4 W))⟩:Pose)⟩:Path) (⟨(wl 1),(wl 0),(wl 0)⟩:(A3 W))).2
 let q2:(A3 W):=(aP (⟨(⟨(⟨(wl 0),(wl 0),(wl 0)⟩:(A3 W)),(⟨(wl 1),(wl 0),(wl 0),(wl 0)⟩:(A4 W))⟩:Pose),(⟨(⟨(wl 8),(wl 0),(wl 0)⟩:(A3 W)),(⟨(wl 1),(wl 0),(wl 0),(wl 1)⟩:(A4 W))⟩:Pose)⟩:Path) [(⟨(wl 0),(wl 0),(wl 0)⟩:(A3 W)),(⟨(wl 0),(wl 0),(wl 1)⟩:(A3 W)),(⟨(wl 0),(wl 1),(wl 0)⟩:(A3 W)),(⟨(wl 1),(wl 0),(wl 0)⟩:(A3 W))]).1
 let q3:(A3 W):=(aP (⟨(⟨(⟨(wl 0),(wl 0),(wl 0)⟩:(A3 W)),(⟨(wl 1),(wl 0),(wl 0),(wl 0)⟩:(A4 W))⟩:Pose),(⟨(⟨(wl 8),(wl 0),(wl 0)⟩:(A3 W)),(⟨(wl 1),(wl 0),(wl 0),(wl 1)⟩:(A4 W))⟩:Pose)⟩:Path) [(⟨(wl 0),(wl 0),(wl 0)⟩:(A3 W)),(⟨(wl 0),(wl 0),(wl 1)⟩:(A3 W)),(⟨(wl 0),(wl 1),(wl 0)⟩:(A3 W)),(⟨(wl 1),(wl 0),(wl 0)⟩:(A3 W))]).2
 let q4:Rt:=(i6 (wl 1) (wl 2))
 let q5:(A3 Rt):=(i8 (⟨(⟨(⟨(wl 0),(wl 0),(wl 0)⟩:(A3 W)),(⟨(wl 1),(wl 0),(wl 0),(wl 0)⟩:(A4 W))⟩:Pose),(⟨(⟨(wl 8),(wl 0),(wl 0)⟩:(A3 W)),(⟨(wl 1),(wl 0),(wl 0),(wl 1)⟩:(A4 W))⟩:Pose)⟩:Path) (⟨(wl 1),(wl 0),(wl 0)⟩:(A3 W)) q4)
 let q6:(List I):=(eT (⟨(⟨(⟨(wl 0),(wl 0),(wl 0)⟩:(A3 W)),(⟨(wl 1),(wl 0),(wl 0),(wl 0)⟩:(A4 W))⟩:Pose),(⟨(⟨(wl 8),(wl 0),(wl 0)⟩:(A3 W)),(⟨(wl 1),(wl 0),(wl 0),(wl 1)⟩:(A4 W))⟩:Pose)⟩:Path))
 let q7:(List I):=(dG [(wl 1),(wl 0),(wl 1)])
 let q8:Bool:=(iH q6 q7)
 let q9:Bool:=(iH q1 q6)
 let q10:(List I):=(dG [(wl 1),(wl 8),(wl (-1)),(wl 8)])
 let q11:Bool:=(iH q0.x q10)
 let q12:(List I):=(dG [(wl 0),(wl 2)])
 let q13:Bool:=(iH q0.y q12)
 let q14:Rt:=(i6 (wl 23) (wl 5))
 let q15:Rt:=(i6 (wl 4) (wl 5))
 let q16:Rt:=(aJ (wl 0))
 let q17:(A3 Rt):=(fA (⟨(⟨(wl 8),(wl 0),(wl 0)⟩:(A3 W)),(⟨(wl 1),(wl 0),(wl 0),(wl 1)⟩:(A4 W))⟩:Pose) (⟨(wl 1),(wl 0),(wl 0)⟩:(A3 W)))
 let q18:Rt:=(aJ (wl 8))
 let q19:Rt:=(aJ (wl 1))
 let q20:W:=(pX (⟨(⟨(⟨(wl 0),(wl 0),(wl 0)⟩:(A3 W)),(⟨(wl 1),(wl 0),(wl 0),(wl 0)⟩:(A4 W))⟩:Pose),(⟨(⟨(wl 8),(wl 0),(wl 0)⟩:(A3 W)),(⟨(wl 1),(wl 0),(wl 0),(wl 1)⟩:(A4 W))⟩:Pose)⟩:Path))
 let q21:W:=(lE (⟨(⟨(wl 0),(wl 0),(wl 0)⟩:(A3 W)),(⟨(wl 0),(wl 0),(wl 0),(wl 0)⟩:(A4 W))⟩:Pose))
 let q22:Bool:=(uK (⟨(⟨(⟨(wl 0),(wl 0),(wl 0)⟩:(A3 W)),(⟨(wl 1),(wl 0),(wl 0),(wl 0)⟩:(A4 W))⟩:Pose),(⟨(⟨(wl 8),(wl 0),(wl 0)⟩:(A3 W)),(⟨(wl 1),(wl 0),(wl 0),(wl 1)⟩:(A4 W))⟩:Pose)⟩:Path))
 let q23:Path:=(aW (⟨(⟨(wl 8),(wl 0),(wl 0)⟩:(A3 W)),(⟨(wl 1),(wl 0),(wl 0),(wl 1)⟩:(A4 W))⟩:Pose))
 let q24:Bool:=(uK q23)
 aL q0 q1 q2 q3 q4 q5 q6 q7 q8 q9 q10 q11 q12 q13 q14 q15 q16 q17 q18 q19 q20 q21 q22 q23 q24
end Go.Num
namespace Go.Proofs.YtbjlhfochebmiaaGreatDoor
open Go.Kn Go.Num Tryz
attribute [local irreducible] Go.Kn.W WL PL OpQ OpR OpS
theorem gL (va:Value) (l:List Nat) (k:Nat) (w:World) (hva:Sl w va l) :
   Calls prog 182 [va,.int .i64 (k:Int)].toArray w (fun e w'=>e = .returned (.int .i64 ((l.getD k 0:Nat):Int))∧Ext w w'):=by
 refine dB (N:=13) func182 O O zz_ ?_;obtain ⟨w0,rfl⟩:=nm w;refine giI ?_;refine go7 ?_;refine sQ (nU jC O hva.old) O (go2 ?_);refine aN _ O (fun hk=>?_) (fun hk=>?_)
 ·replace hk:=cB_ hk
  refine go3 ?_;refine sQ (AM jC O O hva.old oo_) O (sQ (wZ tyT O hva.old oo_) O (go3 ?_));refine rt1 ?_;exact rfl
 replace hk:=cB_ hk
 refine go5 ?_;refine rt1 ?_;exact congrArg (fun n:Nat=>Value.int .i64 (n:Int)) (show 0=l.getD k 0 by simp [List.getD,List.getElem?_eq_none (show l.length≤k by omega)])
theorem jN (va:Value) (l:List Nat) (hD:DL l) (hn:l.length≤1000) (w:World) (hva:Sl w va l) :
    Calls prog 181 [va].toArray w (fun e w'=>e = .returned (sls va (dl (dv l)).length)∧Ext w w'):=by
 refine dB (N:=21) func181 O O zz_ ?_;obtain ⟨w0,rfl⟩:=nm w;refine giI ?_;refine go5 ?_;refine sQ (nU jC O hva.old) O (go4 ?_);refine cI (rg [3] 6 12) (fun g nn M=>∃ (k:Nat),(g 3 = .int .i64 (k:Int))∧M=[]∧nn=k+0∧(k≤l.length∧∀ j,k≤j→l.getD j 0=0)) (l.length) ?start ?round
 case start =>
  refine ⟨_,(List.Sublist.refl _),l.length,?a3,?mem0,rfl,⟨Nat.le_refl _,fun j hj=>by simp [List.getD,List.getElem?_eq_none (show l.length≤j by omega)]⟩⟩
  case mem0=>rfl
  case a3=>rfl
 case round =>
  rintro nn g M ⟨k,hg3,rfl,hmeas,⟨hk,hhi⟩⟩;subst nn;refine gS1 hg3 ?_;clear hg3;refine go5 ?_
  cases hz:decide ((0:Int)<(k:Int))
  ·refine H1 ?_;refine sQ (Y2 jC O O hva.old oo_) O (go3 ?_);refine rt1 ?_;rw [JF hD,NS hhi (.inl (by have:=of_decide_eq_false hz;omega))]
  have hz':=of_decide_eq_true hz;obtain ⟨m,rfl⟩:∃ m,k=m+1:=⟨k - 1,by omega⟩;refine go2 ?_;refine sQ (aS (o9 O O) (congrArg (Value.int .i64) (zP oo_))) O (sQ (AM jC O O hva.old oo_) O (sQ (wZ tyT O hva.old oo_) O (go3 ?_)));refine aN _ O (fun h0=>?_) (fun h0=>?_)
  ·replace h0:=cB_ h0
   refine go4 ?_;refine sQ (aS (o9 O O) (congrArg (Value.int .i64) (zP oo_))) O (go2 ?_);refine ⟨pp_,_,_,(List.Sublist.refl _),oo_,m,?s3,?mem,rfl,⟨by omega,fun j hj=>by rcases Nat.eq_or_lt_of_le hj with rfl|hj;omega;exact hhi j hj⟩⟩
   case mem=>rfl
   case s3=>rfl
  replace h0:=cB_ h0
  refine go4 ?_;refine sQ (Y2 jC O O hva.old oo_) O (go3 ?_);refine rt1 ?_;rw [JF hD,NS hhi (.inr (by simp only [Nat.add_sub_cancel];omega))]
theorem bX (a:R) (ha:a.Ok) (w:World)  :
    Calls prog 114 [RV a].toArray w (fun e w'=>∃ v,e = .returned v∧Ext w w'∧Slf w.heap.size w' v (dl (val a.w))):=by
 refine wU (N:=26) func114 O O zz_ ?_;obtain ⟨w0,rfl⟩:=nm w;refine giI ?_;refine go_ ?_;refine bI O (jS O O (fun b1 hb1=>iK ?_));refine cI (rg [] 3 21) (fun g nn M=>∃ (k:Nat) (v:Value) (l:List Nat) (L:List Blk),(g 3=v∧g 4 = .int .i64 (k:Int))∧M=L++[⟨b1,33,a.cells⟩]∧nn=16 - k∧(k≤16∧OwnL w0 3 v l L∧DL l∧l.length=2*k∧dv l=val a.w % 4294967296 ^ k)) (16) ?start ?round
 case start =>
  refine ⟨_,(List.Sublist.refl _),0,_,[],[],⟨?a3,?a4⟩,?mem0,rfl,⟨Nat.zero_le _,.nil,DL.nil,rfl,by simp [dv,Nat.mod_one]⟩⟩
  case mem0=>rfl
  case a3=>rfl
  case a4=>rfl
 case round =>
  rintro nn g M ⟨k,v,l,L,⟨hg3,hg4⟩,rfl,hmeas,⟨hk,hO,hD,hlen,hdv⟩⟩;subst nn;refine gS2 hg3 hg4 ?_;clear hg3 hg4;refine go5 ?_;refine aN _ O (fun hc=>?_) (fun hc=>?_)
  ·replace hc:=cB_ hc
   have hc:k<16:=by omega
   refine go3 ?_;refine mB sn 16 [13,14] [14] (go2 ?_);refine pQ O (cA fdT dd_ O) (pQ O (eF arT O O oo_ oo_) (pQ O (dI tyT O mm_ (nR (r:=a) (k:=k) (by rw [ha.len];omega))) ?_));refine pQ O (sF O O dd_) (pQ O (aS (eC gS EO O) (eP_ (dS ha.lim k))) (go_ ?_));refine pQ O (cA fdT dd_ O) (pQ O (eF arT O O oo_ oo_) (pQ O (dI tyT O mm_ (nR (r:=a) (k:=k) (by rw [ha.len];omega))) ?_));refine pQ O (kJ O O dd_) (pQ O (aS (eC gS EO O) (eL_ (dS ha.lim k))) ?_);refine dF O O (jB j4 z_3 pR O dd_ O (cW_ _ _) (fun b22 hb22=>⟨(fun _=>by first|exact sd s0|exact s0),ss_,?_⟩));refine dF O O (CK j4 RK O O hO (SL.mine (l:=[a.w.getD k 0 % 65536,a.w.getD k 0 / 65536]) (.head _) (Nat.le_refl _)) (List.sublist_cons_self _ _) (by simp;omega) (fun v' L' hO'=>⟨nf,ss_,?_⟩));refine go4 ?_;refine sQ (aS (i4 O O) (congrArg (Value.int .i64) (kL oo_))) O (go2 ?_);refine ⟨pp_,_,_,(List.Sublist.refl _),oo_,k+1,_,_,_,⟨?s3,?s4⟩,?mem,rfl,⟨by omega,hO',hD.append (DL.two (dS ha.lim k)),by simp [hlen];omega,OL ha.lim hlen hdv⟩⟩
   case mem=>rfl
   case s3=>rfl
   case s4=>rfl
  replace hc:=cB_ hc
  obtain rfl:k=16:=by omega
  refine go3 ?_;refine sQ (dJ aE O (fun w hw=>jN v l hD oo_ w (SL.sl (hO.sl lZ) hw))) O (go3 ?_);refine rt1 ?_;exact xF hD (by rw [hdv,QV ha]) (hO.slf lZ)
theorem eA  :
  Ret prog 162 [] (RV Z.bad.enc):=by
 refine bJ (N:=2) func162 O O zz_ (fun w0=>?_);refine giI ?_;refine go_ ?_;refine bI O (dU lU (fun b0 hb0=>go2 ?_));refine sQ (xN lU plT O (.cons O (vs:=[.bool true]) O O (by simp [zR]) (z':=Z.bad.enc.cells) O (.nil _))) O ?_;refine bI O (bT tyT O O uu_ O O (bO Z.bad.enc) (.inl eL) ?_);refine go2 ?_;refine rtX O ⟨_,_,_,_,_,_,rfl,mm_,tyT,_,(dE O),rfl,rfl⟩ ?_;exact rfl
theorem uB (r:R) (h:r.Ok) :
    Ret prog 175 [RV r] (.bool r.valid):=by
 refine bJ (N:=32) func175 O O zz_ (fun w0=>?_);refine giI ?_;refine go_ ?_;refine bI O (jS O O (fun b1 hb1=>iK ?_));refine cI (rg [] 3 14) (fun g nn M=>∃ (k:Nat) (z:Bool),(g 3 = .bool z∧g 4 = .int .i64 (k:Int))∧M=[⟨b1,33,r.cells⟩]∧nn=16 - k∧(k≤16∧(z=true ↔ ∀ j,j<k→r.w.getD j 0=0))) (16) ?start ?round
 case start =>
  refine ⟨_,(List.Sublist.refl _),0,true,⟨?a3,?a4⟩,?mem0,rfl,⟨Nat.zero_le _,⟨fun _ j hj=>by omega,fun _=>rfl⟩⟩⟩
  case mem0=>rfl
  case a3=>rfl
  case a4=>rfl
 case round =>
  rintro nn g M ⟨k,z,⟨hg3,hg4⟩,rfl,hmeas,⟨hk,hz⟩⟩;subst nn;refine gS2 hg3 hg4 ?_;clear hg3 hg4;refine go5 ?_;refine aN _ O (fun hc=>?_) (fun hc=>?_)
  ·replace hc:=cB_ hc
   have hc:k<16:=by omega
   refine go6 ?_
   cases z
   ·refine iK ?_;refine sQ (aS (i4 O O) (congrArg (Value.int .i64) (kL oo_))) O (go2 ?_);refine ⟨pp_,_,_,(List.Sublist.refl _),oo_,k+1,?zz_1,⟨?s3,?s4⟩,?mem,rfl,⟨by omega,?inv_1⟩⟩
    case mem=>rfl
    case s3=>rfl
    case s4=>rfl
    first|exact QB hz|exact UB hz
   refine go_ ?_;refine sQ (cA fdT dd_ O) O (sQ (eF arT O O oo_ oo_) O (sQ (dI tyT O mm_ (nR (r:=r) (k:=k) (by rw [h.len];omega))) O ?_));refine go6 ?_;refine sQ (aS (i4 O O) (congrArg (Value.int .i64) (kL oo_))) O (go2 ?_);refine ⟨pp_,_,_,(List.Sublist.refl _),oo_,k+1,?zz_2,⟨?s3,?s4⟩,?mem,rfl,⟨by omega,?inv_2⟩⟩
   case mem=>rfl
   case s3=>rfl
   case s4=>rfl
   first|exact QB hz|exact UB hz
  replace hc:=cB_ hc
  obtain rfl:k=16:=by omega
  obtain rfl:z=r.zero:=bG_ h hz;refine go3 ?_;refine sQ (cA fdT dd_ O) O (sQ (dI tyT O mm_ O) O ?_);refine go_ ?_;refine aN _ O (fun hb=>?_) (fun hb=>?_)
  ·replace hb:=cB_ hb
   refine go3 ?_
   cases hz0:r.zero
   ·refine go7 ?_;refine rt1 ?_
    simp [R.valid, *]
   refine sQ (cA fdT dd_ O) O (sQ (dI tyT O mm_ O) O ?_);refine go5 ?_;refine rt1 ?_
   simp [R.valid, *]
  replace hb:=cB_ hb
  refine go5 ?_
  cases hz0:r.zero
  ·refine go7 ?_;refine rt1 ?_
   simp [R.valid, *]
  refine sQ (cA fdT dd_ O) O (sQ (dI tyT O mm_ O) O ?_);refine go5 ?_;refine rt1 ?_
  simp [R.valid, *]
theorem bW (r:R) (h:r.Ok) :
   Ret prog 105 [RV r] (.bool r.good):=by
 refine bJ (N:=12) func105 O O zz_ (fun w0=>?_);refine giI ?_;refine go_ ?_;refine bI O (jS O O (fun b1 hb1=>go3 ?_));refine sQ (bZ tyT O mm_ (cE h)) O ?_;refine sQ (aX aE (uB r h) O) O (go5 ?_)
 cases hv:r.valid
 ·refine go7 ?_;refine rt1 ?_
  simp [R.good, *]
 refine sQ (cA fdT dd_ O) O (sQ (dI tyT O mm_ O) O ?_);refine go5 ?_;refine rt1 ?_
 simp [R.good, *]
theorem dM (neg:Bool) (va:Value) (l:List Nat) (hD:DL l) (hn:l.length≤1000) (w:World) (hva:Sl w va l) :
    Calls prog 149 [.bool neg,va].toArray w (fun e w'=>e = .returned (RV (Z.of (sgn neg (dv l))).enc)∧Ext w w'):=by
 refine dB (N:=62) func149 O O zz_ ?_;obtain ⟨w0,rfl⟩:=nm w;refine giI ?_;have hu0:∀ M,SL w0 [] M (sls va (dl (dv l)).length) (dl (dv l)):=fun M=>Z1 hD hva.old;refine go_ ?_;refine bI O (dU lU (fun b4 hb4=>go3 ?_));refine sQ (dJ aE O (fun w hw=>jN va l hD hn w (SL.sl (M:=_) hva.old hw))) O (go5 ?_);refine sQ (nU jC O (hu0 _)) O (go2 ?_);refine aN _ O (fun hbig=>?_) (fun hbig=>?_)
 ·replace hbig:=cB_ hbig
  refine go_ ?_;refine sQ (aX aE eA O) O (bI O (bT tyT O O uu_ (aI _) O (bO _) (.inl eL) ?_));refine go2 ?_;refine rtX O ⟨_,_,_,_,_,_,rfl,mm_,tyT,_,(dE (aI _)),(aI _),rfl⟩ ?_;exact RH oo_
 replace hbig:=cB_ hbig
 have hlen:(dl (dv l)).length≤32:=by omega
 refine go_ ?_;refine pH (rg [6] 14 7) (fun g M=>∃ (b6:Nat),(g 6 = .pointer (some ⟨b6,0,none⟩))∧M=⟨b6,33,R.cells (R.mk false (neg&&decide ((0:Int)<((dl (dv l)).length:Int))) (List.replicate 16 0))⟩::[⟨b4,33,zR⟩]∧(w0.heap.size≤b6)) (fun K6 J6=>?_) ?_
 ·refine go3 ?_
  cases neg
  ·refine go4 ?_;refine sQ (xN lU plT O (XO _)) O (bI O (dU lU (fun b6 hb6=>bI O (bT tyT O O uu_ (by simp [R.cells,gV]) O (bO _) (.inl eL) ?_))));refine go_ ?_;refine J6 _ _ pp_ ⟨_,(List.Sublist.refl _),_,?s6,?mem,hb6⟩
   case mem=>rfl
   case s6=>rfl
  refine go_ ?_;refine sQ (nU jC O (hu0 _)) O (go2 ?_);refine sQ (xN lU plT O (XO _)) O (bI O (dU lU (fun b6 hb6=>bI O (bT tyT O O uu_ (by simp [R.cells,gV]) O (bO _) (.inl eL) ?_))));refine go_ ?_;refine J6 _ _ pp_ ⟨_,(List.Sublist.refl _),_,?s6,?mem,hb6⟩
  case mem=>rfl
  case s6=>rfl
 rintro g M ⟨b6,hg6,rfl,hb6⟩;refine gS1 hg6 ?_;clear hg6;refine go5 ?_;refine cI (rg [7] 21 40) (fun g nn M=>∃ (k:Nat) (ws:List Nat),(g 7 = .int .i64 (k:Int))∧M=⟨b6,33,R.cells (R.mk false (neg&&decide ((0:Int)<((dl (dv l)).length:Int))) ws)⟩::[⟨b4,33,zR⟩]∧nn=(dl (dv l)).length - k∧(k≤(dl (dv l)).length∧NumIn (dv l) k ws)) ((dl (dv l)).length - 0) ?start ?round
 case start =>
  refine ⟨_,(List.Sublist.refl _),0,_,?a7,?mem0,rfl,⟨Nat.zero_le _,NumIn.start _⟩⟩
  case mem0=>rfl
  case a7=>rfl
 case round =>
  rintro nn g M ⟨k,ws,hg7,rfl,hmeas,⟨hk,hI⟩⟩;subst nn;refine gS1 hg7 ?_;clear hg7;refine go4 ?_;refine sQ (nU jC O (hu0 _)) O (go2 ?_);refine aN _ O (fun hc=>?_) (fun hc=>?_)
  ·replace hc:=cB_ hc
   have hk32:k<32:=by omega
   refine go5 ?_;refine sQ (aS (sF O O dd_) (congrArg (Value.int .i64) (fP_ k))) O (go2 ?_);refine aN _ O (fun hpar=>?_) (fun hpar=>?_)
   ·replace hpar:=cB_ hpar
    have hpar:k % 2=0:=by omega
    have hz:=(hI.even hpar hk32).2;refine mB (sd (sk s0)) 16 [15] [15] (go_ ?_);refine pQ O (aS (kJ O O dd_) (congrArg (Value.int .i64) (be_ k oo_))) (go_ ?_);refine pQ O (aS (kJ O O dd_) (congrArg (Value.int .i64) (be_ k oo_))) (pQ O (cA fdT dd_ O) (pQ O (eF arT O O oo_ oo_) (pQ O (dI tyT O mm_ (nR (r:=R.mk false (neg&&decide ((0:Int)<((dl (dv l)).length:Int))) ws) (k:=k / 2) (by simp only [hI.len];omega))) ?_)));refine go2 ?_;refine pQ O (AM jC O O (hu0 _) oo_) (pQ O (wZ tyT O (hu0 _) oo_) (pQ O (eC EO gS O) (pQ O (aS (i4 O O) (show _=U32 (dg (dv l) k) by rw [(hI.even hpar hk32).1,CX];exact WR (oS _ _))) (pQ O (cA fdT dd_ O) (pQ O (eF arT O O oo_ oo_) ?_)))));refine dF O O (PP (k:=k / 2) tyT O O uu_ (by rw [hI.len];omega) (.inl eL) ⟨nf,ss_,?_⟩);refine go3 ?_;refine sQ (aS (i4 O O) (congrArg (Value.int .i64) (kL oo_))) O (go2 ?_);refine ⟨pp_,_,_,(List.Sublist.refl _),oo_,k+1,_,?s7,?mem,rfl,⟨by omega,hz⟩⟩
    case mem=>rfl
    case s7=>rfl
   replace hpar:=cB_ hpar
   have hpar:¬ k % 2=0:=by omega
   have hz:=(hI.odd hpar hk32).2;refine gdr (sd (sk s0)) [0,4,8,12,16,20,24,28,32,36,40,44,48,52,56,60,65] [16] mix (by kernel_rfl) (go_ ?_);refine pQ O (aS (kJ O O dd_) (congrArg (Value.int .i64) (be_ k oo_))) (go_ ?_);refine pQ O (aS (kJ O O dd_) (congrArg (Value.int .i64) (be_ k oo_))) (pQ O (cA fdT dd_ O) (pQ O (eF arT O O oo_ oo_) (pQ O (dI tyT O mm_ (nR (r:=R.mk false (neg&&decide ((0:Int)<((dl (dv l)).length:Int))) ws) (k:=k / 2) (by simp only [hI.len];omega))) ?_)));refine go2 ?_;refine pQ O (AM jC O O (hu0 _) oo_) (pQ O (wZ tyT O (hu0 _) oo_) (pQ O (eC EO gS O) (go_ ?_)));refine pQ O (aS (i4 O O) (show _=U32 (ws.getD (k / 2) 0+dg (dv l) k*65536) by rw [CX];exact au_ (hI.odd hpar hk32).1 (oS _ _))) (pQ O (cA fdT dd_ O) (pQ O (eF arT O O oo_ oo_) ?_));refine dF O O (PP (k:=k / 2) tyT O O uu_ (by rw [hI.len];omega) (.inl eL) ⟨nf,ss_,?_⟩);refine go3 ?_;refine sQ (aS (i4 O O) (congrArg (Value.int .i64) (kL oo_))) O (go2 ?_);refine ⟨pp_,_,_,(List.Sublist.refl _),oo_,k+1,_,?s7,?mem,rfl,⟨by omega,hz⟩⟩
   case mem=>rfl
   case s7=>rfl
  replace hc:=cB_ hc
  obtain rfl:k=(dl (dv l)).length:=by omega
  refine go2 ?_;refine sQ (bZ tyT O mm_ (by simp [R.cells,gV,hI.len])) O ?_;refine bI O (bT tyT O O uu_ (by simp [R.cells,gV,hI.len]) O (bO _) (.inl eL) ?_);refine go2 ?_;refine rtX O ⟨_,_,_,_,_,_,rfl,mm_,tyT,_,(dE (by simp [R.cells,gV,hI.len])),(by simp [R.cells,gV,hI.len]),rfl⟩ ?_;exact RI hI
theorem qY (va vb:Value) (la lb:List Nat) (hDa:DL la) (hDb:DL lb) (hna:la.length≤200) (hnb:lb.length≤200) (w:World) (hva:Sl w va la) (hvb:Sl w vb lb) :
    Calls prog 150 [va,vb].toArray w (fun e w'=>∃ v,e = .returned v∧Ext w w'∧Slf w.heap.size w' v (dl (dv la+dv lb))):=by
 refine wU (N:=37) func150 O O zz_ ?_;obtain ⟨w0,rfl⟩:=nm w;refine giI ?_;refine BN ?_;refine cI (rg [] 5 30) (fun g nn M=>∃ (k:Nat) (v:Value) (l:List Nat) (L:List Blk),(g 5=v∧g 6 = .int .i64 ((cD (dv la) (dv lb) k:Nat):Int)∧g 7 = .int .i64 (k:Int))∧M=L++[]∧nn=max la.length lb.length+1 - k∧(k≤max la.length lb.length+1∧OwnL w0 3 v l L∧DL l∧l.length=k∧dv l=(dv la+dv lb) % 65536 ^ k)) (max la.length lb.length+1 - 0) ?start ?round
 case start =>
  refine ⟨_,(List.Sublist.refl _),0,_,[],[],⟨?a5,?a6,?a7⟩,?mem0,rfl,⟨Nat.zero_le _,.nil,DL.nil,rfl,by simp [dv,Nat.mod_one]⟩⟩
  case mem0=>rfl
  case a5=>rfl
  case a6=>rw [aD_];rfl
  case a7=>rfl
 case round =>
  rintro nn g M ⟨k,v,l,L,⟨hg5,hg6,hg7⟩,rfl,hmeas,⟨hk,hO,hD,hlen,hdv⟩⟩;subst nn;refine gS3 hg5 hg6 hg7 ?_;clear hg5 hg6 hg7;refine go4 ?_;refine sQ (nU jC O hva.old) O (go_ ?_);refine sQ (nU jC O hvb.old) O (sQ (YZ O O) O (sQ (aS (i4 O O) (congrArg (Value.int .i64) (kL oo_))) O (go2 ?_)));refine aN _ O (fun hc=>?_) (fun hc=>?_)
  ·replace hc:=cB_ hc
   have hc:k<max la.length lb.length+1:=by omega
   refine go6 ?_;refine sQ (dJ aE O (fun w hw=>gL va la k w (SL.sl (M:=_) hva.old hw))) O (go2 ?_);refine sQ (dJ aE O (fun w hw=>gL vb lb k w (SL.sl (M:=_) hvb.old hw))) O (go2 ?_);refine sQ (aS (i4 O O) (congrArg (Value.int .i64) (show _=((cD (dv la) (dv lb) k+dg (dv la) k+dg (dv lb) k:Nat):Int) by rw [qU la k hDa,qU lb k hDb];exact fD_ (oS _ _) (oS _ _) (bP_ _ _ _)))) O (go5 ?_);refine sQ (aS (sF O O dd_) (PS _)) O (bI O (jB j4 z_3 pR O dd_ O (B8 _) (fun b31 hb31=>bI O (CK j4 RK O O hO (SL.mine (l:=[(cD (dv la) (dv lb) k+dg (dv la) k+dg (dv lb) k) % 65536]) (.head _) (Nat.le_refl _)) (List.sublist_cons_self _ _) (by simp;omega) (fun v' L' hO'=>?_)))));refine go4 ?_;refine sQ (aS (kJ O O dd_) (congrArg (Value.int .i64) (eM_ (by have:=bP_ (dv la) (dv lb) k;have:=oS (dv la) k;have:=oS (dv lb) k;omega)))) O (go4 ?_);refine sQ (aS (i4 O O) (congrArg (Value.int .i64) (kL oo_))) O (go2 ?_);refine ⟨pp_,_,_,(List.Sublist.refl _),oo_,k+1,_,_,_,⟨?s5,?s6,?s7⟩,?mem,rfl,⟨by omega,hO',hD.append (DL.one (Nat.mod_lt _ dd_)),by simp [hlen],RO hlen hdv⟩⟩
   case mem=>rfl
   case s5=>rfl
   case s6=>rw [← PG];rfl
   case s7=>rfl
  replace hc:=cB_ hc
  obtain rfl:k=max la.length lb.length+1:=by omega
  refine go3 ?_;refine sQ (dJ aE O (fun w hw=>jN v l hD oo_ w (SL.sl (hO.sl lZ) hw))) O (go3 ?_);refine rt1 ?_;exact xF hD (by rw [hdv,VE hDa hDb]) (hO.slf lZ)
theorem lO (va vb:Value) (la lb:List Nat) (hDa:DL la) (hDb:DL lb) (hna:la.length≤200) (hnb:lb.length≤200) (hle:dv lb≤dv la) (w:World) (hva:Sl w va la) (hvb:Sl w vb lb) :
    Calls prog 180 [va,vb].toArray w (fun e w'=>∃ v,e = .returned v∧Ext w w'∧Slf w.heap.size w' v (dl (dv la - dv lb))):=by
 refine wU (N:=35) func180 O O zz_ ?_;obtain ⟨w0,rfl⟩:=nm w;refine giI ?_;refine BN ?_;refine cI (rg [] 5 28) (fun g nn M=>∃ (k:Nat) (v:Value) (l:List Nat) (L:List Blk) (c:Nat),(g 5=v∧g 6 = .int .i64 (c:Int)∧g 7 = .int .i64 (k:Int))∧M=L++[]∧nn=la.length - k∧(k≤la.length∧OwnL w0 3 v l L∧DL l∧l.length=k∧c≤1∧dv l+dv lb % 65536 ^ k=dv la % 65536 ^ k+c*65536 ^ k)) (la.length - 0) ?start ?round
 case start =>
  refine ⟨_,(List.Sublist.refl _),0,_,[],[],0,⟨?a5,?a6,?a7⟩,?mem0,rfl,⟨Nat.zero_le _,.nil,DL.nil,rfl,by decide,by simp [dv,Nat.mod_one]⟩⟩
  case mem0=>rfl
  case a5=>rfl
  case a6=>rfl
  case a7=>rfl
 case round =>
  rintro nn g M ⟨k,v,l,L,c,⟨hg5,hg6,hg7⟩,rfl,hmeas,⟨hk,hO,hD,hlen,hcb,hdv⟩⟩;subst nn;refine gS3 hg5 hg6 hg7 ?_;clear hg5 hg6 hg7;refine go4 ?_;refine sQ (nU jC O hva.old) O (go2 ?_);refine aN _ O (fun hc=>?_) (fun hc=>?_)
  ·replace hc:=cB_ hc
   have hc:k<la.length:=by omega
   refine go4 ?_;refine mB sn 11 [] [] (go2 ?_);refine pQ O (AM jC O O hva.old oo_) (pQ O (wZ tyT O hva.old oo_) (go2 ?_));refine pQ O (dJ aE O (fun w hw=>gL vb lb k w (SL.sl (M:=_) hvb.old hw))) (go2 ?_);refine pQ O (aS (o9 O O) (congrArg (Value.int .i64) (show _=((dg (dv la) k:Nat):Int) - ((dg (dv lb) k:Nat):Int) - (c:Int) by rw [qU la k hDa,qU lb k hDb];exact fT_ (oS _ _) (oS _ _) hcb))) (iK ?_);refine aN _ O (fun h26=>?_) (fun h26=>?_)
   ·replace h26:=cB_ h26
    refine iK ?_;refine sQ (aS (kN O) (show _=IV (md (dg (dv la) k) (dg (dv lb) k) c) by first|exact YH (oS _ _) (oS _ _) hcb h26|exact YI h26)) O ?_;refine bI O (jB j4 z_3 pR O dd_ O (B8 _) (fun b31 hb31=>bI O (CK j4 RK O O hO (SL.mine (l:=[md (dg (dv la) k) (dg (dv lb) k) c]) (.head _) (Nat.le_refl _)) (List.sublist_cons_self _ _) (by simp;omega) (fun v' L' hO'=>?_))));refine go4 ?_;refine sQ (aS (i4 O O) (congrArg (Value.int .i64) (kL oo_))) O (go2 ?_);refine ⟨pp_,_,_,(List.Sublist.refl _),oo_,k+1,_,_,_,mb (dg (dv la) k) (dg (dv lb) k) c,⟨?s5,?s6,?s7⟩,?mem,rfl,⟨by omega,hO',hD.append (DL.one (b0_ (oS _ _) (oS _ _) hcb)),by simp [hlen],bY_ _ _ _,F0 hlen hcb hdv⟩⟩
    case mem=>rfl
    case s5=>rfl
    case s6=>first|exact YD h26|exact YE h26
    case s7=>rfl
   replace h26:=cB_ h26
   refine go3 ?_;refine sQ (aS (kN O) (show _=IV (md (dg (dv la) k) (dg (dv lb) k) c) by first|exact YH (oS _ _) (oS _ _) hcb h26|exact YI h26)) O ?_;refine bI O (jB j4 z_3 pR O dd_ O (B8 _) (fun b31 hb31=>bI O (CK j4 RK O O hO (SL.mine (l:=[md (dg (dv la) k) (dg (dv lb) k) c]) (.head _) (Nat.le_refl _)) (List.sublist_cons_self _ _) (by simp;omega) (fun v' L' hO'=>?_))));refine go4 ?_;refine sQ (aS (i4 O O) (congrArg (Value.int .i64) (kL oo_))) O (go2 ?_);refine ⟨pp_,_,_,(List.Sublist.refl _),oo_,k+1,_,_,_,mb (dg (dv la) k) (dg (dv lb) k) c,⟨?s5,?s6,?s7⟩,?mem,rfl,⟨by omega,hO',hD.append (DL.one (b0_ (oS _ _) (oS _ _) hcb)),by simp [hlen],bY_ _ _ _,F0 hlen hcb hdv⟩⟩
   case mem=>rfl
   case s5=>rfl
   case s6=>first|exact YD h26|exact YE h26
   case s7=>rfl
  replace hc:=cB_ hc
  obtain rfl:k=la.length:=by omega
  refine go3 ?_;refine sQ (dJ aE O (fun w hw=>jN v l hD oo_ w (SL.sl (hO.sl lZ) hw))) O (go3 ?_);refine rt1 ?_;exact xF hD (RC hDa hD hlen hle hdv hcb) (hO.slf lZ)
theorem kP (va vb:Value) (la lb:List Nat) (hDa:DL la) (hDb:DL lb) (hna:la.length≤200) (hnb:lb.length≤200) (w:World) (hva:Sl w va la) (hvb:Sl w vb lb) :
    Calls prog 164 [va,vb].toArray w (fun e w'=>e = .returned (.bool (decide (dv la<dv lb)))∧Ext w w'):=by
 refine dB (N:=30) func164 O O zz_ ?_;obtain ⟨w0,rfl⟩:=nm w;refine giI ?_;refine go6 ?_;refine sQ (nU jC O hva.old) O (go_ ?_);refine sQ (nU jC O hvb.old) O (sQ (YZ O O) O (go4 ?_));refine cI (rg [4,5] 12 18) (fun g nn M=>∃ (k:Nat),(g 5 = .int .i64 ((k:Int) - 1))∧M=[]∧nn=k+0∧(k≤max la.length lb.length∧dv la / 65536 ^ k=dv lb / 65536 ^ k)) (max la.length lb.length) ?start ?round
 case start =>
  refine ⟨_,(List.Sublist.refl _),max la.length lb.length,?a5,?mem0,rfl,⟨Nat.le_refl _,RA hDa hDb⟩⟩
  case mem0=>rfl
  case a5=>exact congrArg (Value.int .i64) (cB (by unfold I64;omega))
 case round =>
  rintro nn g M ⟨k,hg5,rfl,hmeas,⟨hk,hd⟩⟩;subst nn;refine gS1 hg5 ?_;clear hg5;refine go5 ?_;refine aN _ O (fun hc=>?_) (fun hc=>?_)
  ·replace hc:=cB_ hc
   obtain ⟨m,rfl⟩:∃ m,k=m+1:=⟨k - 1,by omega⟩;refine go5 ?_;refine sQ (aS (kN O) (congrArg (Value.int .i64) (show (((m+1:Nat):Int) - 1)=(m:Int) by omega))) O (sQ (dJ aE O (fun w hw=>gL va la m w (SL.sl (M:=_) hva.old hw))) O (go_ ?_));refine sQ (aS (kN O) (congrArg (Value.int .i64) (show (((m+1:Nat):Int) - 1)=(m:Int) by omega))) O (sQ (dJ aE O (fun w hw=>gL vb lb m w (SL.sl (M:=_) hvb.old hw))) O (go2 ?_));refine aN _ O (fun hne=>?_) (fun hne=>?_)
   ·replace hne:=cB_ hne
    have hne':dg (dv la) m≠dg (dv lb) m:=by rw [← qU la m hDa,← qU lb m hDb];omega
    refine go2 ?_;refine sQ (aS (kN O) (congrArg (Value.int .i64) (show (((m+1:Nat):Int) - 1)=(m:Int) by omega))) O (sQ (dJ aE O (fun w hw=>gL va la m w (SL.sl (M:=_) hva.old hw))) O (go_ ?_));refine sQ (aS (kN O) (congrArg (Value.int .i64) (show (((m+1:Nat):Int) - 1)=(m:Int) by omega))) O (sQ (dJ aE O (fun w hw=>gL vb lb m w (SL.sl (M:=_) hvb.old hw))) O (go4 ?_));refine rt1 ?_
    (rw [qU la m hDa,qU lb m hDb];exact congrArg Value.bool (U7 hd hne'))
   replace hne:=cB_ hne
   have heq':dg (dv la) m=dg (dv lb) m:=by rw [← qU la m hDa,← qU lb m hDb];omega
   refine go2 ?_;refine sQ (aS (kN O) (congrArg (Value.int .i64) (show (((m+1:Nat):Int) - 1)=(m:Int) by omega))) O (go3 ?_);refine ⟨pp_,_,_,(List.Sublist.refl _),oo_,m,?s5,?mem,rfl,⟨by omega,U6 hd heq'⟩⟩
   case mem=>rfl
   case s5=>exact congrArg (Value.int .i64) (cB (n:=(m:Int) - 1) (by unfold I64;omega))
  replace hc:=cB_ hc
  obtain rfl:k=0:=by omega
  refine go5 ?_;refine rt1 ?_
  (simp only [Nat.pow_zero,Nat.div_one] at hd;rw [hd];exact congrArg Value.bool (decide_eq_false (Nat.lt_irrefl _)).symm)
theorem uD (va vb:Value) (la lb:List Nat) (hDa:DL la) (hDb:DL lb) (hna:la.length≤200) (hnb:lb.length≤200) (w:World) (hva:Sl w va la) (hvb:Sl w vb lb) :
    Calls prog 165 [va,vb].toArray w (fun e w'=>∃ v,e = .returned v∧Ext w w'∧Slf w.heap.size w' v (dl (dv la*dv lb))):=by
 refine wU (N:=72) func165 O O zz_ ?_;obtain ⟨w0,rfl⟩:=nm w;refine giI ?_;refine go5 ?_;refine sQ (nU jC O hva.old) O (go_ ?_);refine sQ (nU jC O hvb.old) O (sQ (aS (i4 O O) (congrArg (Value.int .i64) (o6 oo_))) O (sQ (aS (i4 O O) (congrArg (Value.int .i64) (kL oo_))) O (bI O (Y8 j4 RK z_3 O O oo_ (fun b17 hb17=>go7 ?_)))));refine cI (rg [6,7,8,9,10] 18 52) (fun g nn M=>∃ (i:Nat) (o:List Nat),(g 6 = .int .i64 (i:Int))∧M=[⟨b17,3,iw o⟩]∧nn=la.length - i∧(i≤la.length∧DL o∧o.length=(la.length+lb.length+1)∧dv o=dv la % 65536 ^ i*dv lb)) (la.length - 0) ?start ?round
 case start =>
  refine ⟨_,(List.Sublist.refl _),0,List.replicate (la.length+lb.length+1) 0,?a6,?mem0,rfl,⟨Nat.zero_le _,fun d hd=>by rw [List.eq_of_mem_replicate hd];decide,by simp,by rw [EI,Nat.pow_zero,Nat.mod_one,Nat.zero_mul]⟩⟩
  case mem0=>rfl
  case a6=>rfl
 case round =>
  rintro nn g M ⟨i,o,hg6,rfl,hmeas,⟨hi,hDo,hlo,hdv⟩⟩;subst nn;refine gS1 hg6 ?_;clear hg6;refine go4 ?_;refine sQ (nU jC O hva.old) O (go2 ?_);refine aN _ O (fun hc=>?_) (fun hc=>?_)
  ·replace hc:=cB_ hc
   have hc:i<la.length:=by omega
   refine go8 ?_;refine cI (rg [7] 24 27) (fun g nn M=>∃ (k:Nat) (l:List Nat),(g 7 = .int .i64 (k:Int))∧M=[⟨b17,3,iw l⟩]∧nn=lb.length - k∧(k≤lb.length∧RowIn (la.length+lb.length+1) (dv lb) i (dg (dv la) i) o k l)) (lb.length - 0) ?start ?round
   case start =>
    refine ⟨_,(List.Sublist.refl _),0,o,?a7,?mem0,rfl,⟨Nat.zero_le _,RowIn.start _ _ _ hDo hlo⟩⟩
    case mem0=>rfl
    case a7=>rfl
   case round =>
    rintro nn g M ⟨k,l,hg7,rfl,hmeas,⟨hkl,hR⟩⟩;subst nn;refine gS1 hg7 ?_;clear hg7;refine go4 ?_;refine sQ (nU jC O hvb.old) O (go2 ?_);refine aN _ O (fun hk2=>?_) (fun hk2=>?_)
    ·replace hk2:=cB_ hk2
     have hk2:k<lb.length:=by omega
     refine go3 ?_;refine gdr sn [0,4,8,12,16,20,24,28,32,36,40,44,48,52,56,60,64,68,72,76,80,85] [21] mix (by kernel_rfl) (go3 ?_);refine pQ O (aS (i4 O O) (congrArg (Value.int .i64) (o6 oo_))) (go3 ?_);refine pQ O (aS (i4 O O) (congrArg (Value.int .i64) (o6 oo_))) (pQ O (qX jC O O oo_ oo_) (pQ O (dI tyT O mm_ (eq_ (by rw [hR.len];omega))) ?_));refine go2 ?_;refine pQ O (AM jC O O hva.old oo_) (pQ O (wZ tyT O hva.old oo_) (go2 ?_));refine pQ O (AM jC O O hvb.old oo_) (pQ O (wZ tyT O hvb.old oo_) (go_ ?_));refine pQ O (aS (i4 O O) (show _=IV (l.getD (i+k) 0+dg (dv la) i*dg (dv lb) k) by rw [qU la i hDa,qU lb k hDb];exact a1_ (hR.high _ (Nat.le_refl _)) (oS _ _) (oS _ _))) (pQ O (qX jC O O oo_ oo_) ?_);refine dF O O (IT tyT O O uu_ (by rw [hR.len];omega) (.inl eL) ⟨nf,ss_,?_⟩);refine go3 ?_;refine sQ (aS (i4 O O) (congrArg (Value.int .i64) (kL oo_))) O (go2 ?_);refine ⟨pp_,_,_,(List.Sublist.refl _),oo_,k+1,_,?s7,?mem,rfl,⟨by omega,hR.step oo_ (oS _ _)⟩⟩
     case mem=>rfl
     case s7=>rfl
    replace hk2:=cB_ hk2
    obtain rfl:k=lb.length:=by omega
    refine go8 ?_;refine cI (rg [8,9,10] 51 19) (fun g nn M=>∃ (m:Nat) (l:List Nat) (c:Nat),(g 8 = .int .i64 (c:Int)∧g 9 = .int .i64 (m:Int))∧M=[⟨b17,3,iw l⟩]∧nn=(la.length+lb.length+1) - m∧(m≤(la.length+lb.length+1)∧CarryIn (la.length+lb.length+1) (dv o+65536 ^ i*(dg (dv la) i*(dv lb % 65536 ^ lb.length))) m l c)) ((la.length+lb.length+1) - 0) ?start ?round
    case start =>
     refine ⟨_,(List.Sublist.refl _),0,l,0,⟨?a8,?a9⟩,?mem0,rfl,⟨Nat.zero_le _,hR.done⟩⟩
     case mem0=>rfl
     case a8=>rfl
     case a9=>rfl
    case round =>
     rintro nn g M ⟨m,l,c,⟨hg8,hg9⟩,rfl,hmeas,⟨hml,hC⟩⟩;subst nn;refine gS2 hg8 hg9 ?_;clear hg8 hg9;refine go4 ?_;refine sQ (BI jC O) O (go2 ?_);refine aN _ O (fun hm2=>?_) (fun hm2=>?_)
     ·replace hm2:=cB_ hm2
      have hm2:m<(la.length+lb.length+1):=by omega
      refine go6 ?_;refine sQ (qX jC O O oo_ oo_) O (sQ (dI tyT O mm_ (eq_ (by rw [hC.len];omega))) O ?_);refine go_ ?_;refine sQ (aS (i4 O O) (congrArg (Value.int .i64) (fE_ (by have:=hC.low m;have:=hC.clt;omega)))) O (go6 ?_);refine sQ (aS (sF O O dd_) (PS _)) O (sQ (qX jC O O oo_ oo_) O (bI O (IT tyT O O uu_ (by rw [hC.len];omega) (.inl eL) ?_)));refine go3 ?_;refine sQ (aS (kJ O O dd_) (congrArg (Value.int .i64) (eM_ (by have:=hC.low m;have:=hC.clt;omega)))) O (go4 ?_);refine sQ (aS (i4 O O) (congrArg (Value.int .i64) (kL oo_))) O (go2 ?_);refine ⟨pp_,_,_,(List.Sublist.refl _),oo_,m+1,_,_,⟨?s8,?s9⟩,?mem,rfl,⟨by omega,hC.step oo_⟩⟩
      case mem=>rfl
      case s8=>rfl
      case s9=>rfl
     replace hm2:=cB_ hm2
     obtain rfl:m=(la.length+lb.length+1):=by omega
     have hT:(dv o+65536 ^ i*(dg (dv la) i*(dv lb % 65536 ^ lb.length)))=dv la % 65536 ^ (i+1)*dv lb:=by rw [hdv];exact V2 (zG lb hDb)
     have hF:=hC.fin (by rw [hT];exact ZW oo_ (zG lb hDb));rw [hT] at hF;refine go3 ?_;refine sQ (aS (i4 O O) (congrArg (Value.int .i64) (kL oo_))) O (go2 ?_);refine ⟨pp_,_,_,(List.Sublist.refl _),oo_,i+1,_,?s6,?mem,rfl,⟨by omega,hF⟩⟩
     case mem=>rfl
     case s6=>rfl
  replace hc:=cB_ hc
  obtain rfl:i=la.length:=by omega
  refine go3 ?_;refine sQ (dJ aE O (fun w hw=>jN _ o hDo oo_ w (SL.sl (SL.mine' (.head _) hlo (Nat.le_refl _)) hw))) O (go3 ?_);refine rt1 ?_;exact xF hDo (by rw [hdv,Nat.mod_eq_of_lt (zG la hDa)]) (SLf.mine hb17 (.head _) hlo (Nat.le_refl _))
theorem pD (va:Value) (la:List Nat) (k:Int) (w:World) (hva:Sl w va la) :
   Calls prog 210 [va,.int .i64 k].toArray w (fun e w'=>e = .returned (.int .i64 ((atD la k:Nat):Int))∧Ext w w'):=by
 refine dB (N:=10) func210 O O zz_ ?_;obtain ⟨w0,rfl⟩:=nm w;refine giI ?_;refine go8 ?_;refine aN _ O (fun h0=>?_) (fun h0=>?_)
 ·replace h0:=cB_ h0
  refine go4 ?_;refine rt1 ?_
  (rw [aw_ h0];rfl)
 replace h0:=cB_ h0
 refine go3 ?_;refine sQ (aS (kN O) (show _=Value.int .i64 (k.toNat:Int) from congrArg (Value.int .i64) oo_)) O (sQ (dJ aE O (fun w hw=>gL va la k.toNat w (SL.sl (M:=_) hva.old hw))) O (go3 ?_));refine rt1 ?_;rw [ax_ h0]
theorem uC (n m:Int) (hn:I64 n) (hnm:n ≠ -9223372036854775808) (hm:m≠0) :
   Ret prog 179 [.int .i64 n,.int .i64 m] (.int .i64 (n.fdiv m)):=by
 refine bJ (N:=23) func179 O O zz_ (fun w0=>?_);refine giI ?_;refine go6 ?_;refine sQ (aS (kJ O O hm) (congrArg (Value.int .i64) (cB (RX hn hnm)))) O (go6 ?_);refine sQ (sF O O hm) O (go2 ?_)
 cases h0:(n.tmod m != 0)
 ·refine BN ?_;refine rt1 ?_;exact congrArg (Value.int .i64) (EM hm (.inl (by simpa using h0))).1.symm
 refine go4 ?_;refine sQ (vQ DU O O) O (go2 ?_);refine aN _ O (fun hs=>?_) (fun hs=>?_)
 ·replace hs:=cB_ hs
  refine go2 ?_;refine sQ (aS (o9 O O) (congrArg (Value.int .i64) (cB (Y4 hn hnm)))) O (go7 ?_);refine rt1 ?_;exact congrArg (Value.int .i64) (Q1 hm (by simpa using h0) (bne_iff_ne.2 (by rw [LN (by simpa using h0)];exact hs))).1.symm
 replace hs:=cB_ hs
 refine go6 ?_;refine rt1 ?_;exact congrArg (Value.int .i64) (EM hm (.inr (by rw [LN (by simpa using h0)];simpa using hs))).1.symm
theorem gC (a:R) (ha:a.Ok) :
    Ret prog 176 [RV a] (.tuple #[.int .i64 (j8 a),.bool (iE a)]):=by
 refine bJ (N:=41) func176 O O zz_ (fun w0=>?_);refine giI ?_;refine go_ ?_;refine bI O (jS O O (fun b1 hb1=>go4 ?_));refine sQ (bZ tyT O mm_ (cE ha)) O ?_;refine sQ (aX aE (bW a ha) O) O (go7 ?_)
 cases hg:a.good
 ·refine yP ?_;refine rt2 ?_;exact V7 hg
 refine sQ (cA fdT dd_ O) O (sQ (eF arT O O dd_ dd_) O (sQ (dI tyT O mm_ (nR (r:=a) (k:=1) (by rw [ha.len];decide))) O ?_));refine go3 ?_;refine aN _ O (fun h16=>?_) (fun h16=>?_)
 ·replace h16:=cB_ h16
  refine go5 ?_;refine rt2 ?_;exact QF (af_ ha h16)
 replace h16:=cB_ h16
 refine go6 ?_;refine cI (rg [2,3,5] 17 9) (fun g nn M=>∃ (k:Nat),(g 5 = .int .i64 (k:Int))∧M=[⟨b1,33,a.cells⟩]∧nn=16 - k∧(2≤k∧k≤16∧∀ j,2≤j→j<k→a.w.getD j 0=0)) (14) ?start ?round
 case start =>
  refine ⟨_,(List.Sublist.refl _),2,?a5,?mem0,rfl,⟨Nat.le_refl _,by decide,fun j h1 h2=>by omega⟩⟩
  case mem0=>rfl
  case a5=>rfl
 case round =>
  rintro nn g M ⟨k,hg5,rfl,hmeas,⟨hk2,hk,hz⟩⟩;subst nn;refine gS1 hg5 ?_;clear hg5;refine go5 ?_;refine aN _ O (fun hc=>?_) (fun hc=>?_)
  ·replace hc:=cB_ hc
   have hc:k<16:=by omega
   refine go5 ?_;refine sQ (cA fdT dd_ O) O (sQ (eF arT O O oo_ oo_) O (sQ (dI tyT O mm_ (nR (r:=a) (k:=k) (by rw [ha.len];omega))) O ?_));refine go2 ?_;refine aN _ O (fun hz2=>?_) (fun hz2=>?_)
   ·replace hz2:=cB_ hz2
    refine go5 ?_;refine rt2 ?_;exact QF (V8 ha hk2 oo_)
   replace hz2:=cB_ hz2
   refine go3 ?_;refine sQ (aS (i4 O O) (congrArg (Value.int .i64) (kL oo_))) O (go2 ?_);refine ⟨pp_,_,_,(List.Sublist.refl _),oo_,k+1,?s5,?mem,rfl,⟨by omega,by omega,fun j h1 h2=>by rcases Nat.eq_or_lt_of_le (Nat.le_of_lt_succ h2) with rfl|h3;omega;exact hz j h1 h3⟩⟩
   case mem=>rfl
   case s5=>rfl
  replace hc:=cB_ hc
  obtain rfl:k=16:=by omega
  have hws:=QG ha oo_ hz;refine go2 ?_;refine sQ (cA fdT dd_ O) O (sQ (eF arT O O dd_ dd_) O (sQ (dI tyT O mm_ (nR (r:=a) (k:=1) (by rw [ha.len];decide))) O ?_));refine sQ (eC gS EO O) O (go_ ?_);refine sQ (cA fdT dd_ O) O (sQ (eF arT O O dd_ dd_) O (sQ (dI tyT O mm_ (nR (r:=a) (k:=0) (by rw [ha.len];decide))) O ?_));refine sQ (eC gS EO O) O (sQ (aS (i4 O O) (congrArg (Value.int .i64) ((QG ha oo_ hz).1))) O (go4 ?_));refine sQ (cA fdT dd_ O) O (sQ (dI tyT O mm_ O) O ?_);refine go_ ?_;refine aN _ O (fun hn=>?_) (fun hn=>?_)
  ·replace hn:=cB_ hn
   refine go7 ?_;refine rt2 ?_;exact ad_ hg hws.2 hn
  replace hn:=cB_ hn
  refine go7 ?_;refine rt2 ?_;exact ae_ hg hws.2 hn
theorem dO (n:Int) (hn:I64 n) :
   Ret prog 75 [.int .i64 n] (RV (Z.of n).enc):=by
 refine bJ (N:=35) func75 O O zz_ (fun w0=>?_);refine giI ?_;unfold I64 at hn;refine go_ ?_;refine bI O (dU lU (fun b2 hb2=>go6 ?_));refine aN _ O (fun h0=>?_) (fun h0=>?_)
 ·replace h0:=cB_ h0
  obtain ⟨m,rfl⟩:∃ m:Nat,n=m:=⟨n.toNat,by omega⟩;refine go2 ?_;refine sQ (aS (sF O O dd_) (show _=IV (m % 65536) from PS _)) O (go_ ?_);refine sQ (aS (kJ O O dd_) (KZ 65536 oo_)) O (sQ (aS (sF O O dd_) (show _=IV (m / 65536 % 65536) from PS _)) O (go_ ?_));refine sQ (aS (kJ O O dd_) (KZ 4294967296 oo_)) O (sQ (aS (sF O O dd_) (show _=IV (m / 4294967296 % 65536) from PS _)) O (go_ ?_));refine sQ (aS (kJ O O dd_) (KZ 281474976710656 oo_)) O (bI O (jB j4 z_3 pR O dd_ O (XN _ _ _ _) (fun b16 hb16=>sQ (dJ aE O (fun w hw=>dM false _ (dl4 m) (XF oo_) (by simp [dl4]) w (SL.sl (SL.mine (l:=dl4 m) (.head _) (Nat.le_refl _)) hw))) O ?_)));refine bI O (bT tyT O O uu_ (aI _) O (bO _) (.inl eL) ?_);refine go2 ?_;refine rtX O ⟨_,_,_,_,_,_,rfl,mm_,tyT,_,(dE (aI _)),(aI _),rfl⟩ ?_
  (rw [QX,tA];rfl)
 replace h0:=cB_ h0
 obtain ⟨m,rfl⟩:∃ m:Nat,n = -((m:Int)+1):=⟨(-n - 1).toNat,by omega⟩;refine go4 ?_;refine sQ (aS (Y0 O) (congrArg (Value.int .i64) (a8_ oo_))) O (go4 ?_);refine sQ (aS (sF O O dd_) (show _=IV (m % 65536) from PS _)) O (go_ ?_);refine sQ (aS (kJ O O dd_) (KZ 65536 oo_)) O (sQ (aS (sF O O dd_) (show _=IV (m / 65536 % 65536) from PS _)) O (go_ ?_));refine sQ (aS (kJ O O dd_) (KZ 4294967296 oo_)) O (sQ (aS (sF O O dd_) (show _=IV (m / 4294967296 % 65536) from PS _)) O (go_ ?_));refine sQ (aS (kJ O O dd_) (KZ 281474976710656 oo_)) O (bI O (jB j4 z_3 pR O dd_ O (XN _ _ _ _) (fun b31 hb31=>bI O (jB j4 z_3 pR O dd_ O (B8 1) (fun b32 hb32=>bI O (fM aE O (fun w hw=>qY _ _ (dl4 m) [1] (XF oo_) (DL.one dd_) (by simp [dl4]) zz_ w (SL.sl (SL.mine (l:=dl4 m) (.tail _ (.head _)) (Nat.le_refl _)) hw) (SL.sl (SL.mine (l:=[1]) (.head _) (Nat.le_refl _)) hw)) (fun v9 L9 h9=>?_)))))));refine sQ (dJ aE O (fun w hw=>dM true _ _ (kS _) (Nat.le_trans (iF (k:=64) (by rw [QX];simp only [dv];omega)) dd_) w (SL.sl (h9.sl.sub lZ) hw))) O (bI O (bT tyT O O uu_ (aI _) O (bO _) (.inl eL) ?_));refine go2 ?_;refine rtX O ⟨_,_,_,_,_,_,rfl,mm_,tyT,_,(dE (aI _)),(aI _),rfl⟩ ?_
 (rw [gJ,QX];simp only [dv,Nat.mul_zero,Nat.add_zero];rw [eV_];rfl)
end Go.Proofs.YtbjlhfochebmiaaGreatDoor
namespace Go.Num
open Go Go.Kn
theorem z7 (a:I):nW a=E (Z.abs a.dec):=by
 unfold nW
 show _=E (Z.abs a.1.dec)
 cases h:a.1.good
 ·rw [cond_false,Z.abs,zK (GD h)]
 rw [cond_true,cA_ a.2 h]
theorem c6_ (n:Nat):(((dl n).length:Int)==0)=(n==0):=by
 rw [Bool.eq_iff_iff,beq_iff_eq,beq_iff_eq]
 constructor
 ·intro h;exact MK.1 oo_
 intro h;rw [MK.2 h];rfl
theorem y9 (a:I):lL a=Z.signW a.dec:=by
 unfold lL;rw [c6_]
 apply Subtype.ext
 show _=a.1.dec.sign
 cases hg:a.1.good
 ·simp only [Bool.not_false,Bool.true_or,cond_true];exact C8 a.2 (.inl hg)
 ·cases hz:(val a.1.w==0)
  ·simp only [Bool.not_true,Bool.false_or,cond_false]
   rw [bw_ a.2 hg (by simpa using hz)]
   cases a.1.neg<;>rfl
  simp only [Bool.or_true,cond_true];exact C8 a.2 (.inr hz)
theorem z9 (a b:I):eZ a b=Z.cmpW a.dec b.dec:=by
 unfold eZ
 apply Subtype.ext
 show _=Z.cmp a.1.dec b.1.dec
 cases ga:a.1.good
 ·cases gb:b.1.good
  ·simp only [Bool.not_false,Bool.and_self,cond_true];exact QR ga gb
  simp only [Bool.not_true,Bool.and_false,cond_false];exact QS ga b.2 gb
 ·cases gb:b.1.good
  ·simp only [Bool.not_true,Bool.not_false,Bool.false_and,cond_false,cond_true];exact QT a.2 ga gb
  simp only [Bool.not_true,Bool.false_and,cond_false,cond_true]
  cases hn:(a.1.neg != b.1.neg)
  ·have hn':a.1.neg=b.1.neg:=by simpa using hn
   rw [cond_false]
   cases h1:a.1.neg
   ·rw [cond_false,← SP a.2 b.2 ga gb hn' (val a.1.w) (val b.1.w) (by rw [h1];exact ⟨rfl,rfl⟩)]
    by_cases h2:val a.1.w<val b.1.w
    ·simp [h2]
    by_cases h3:val b.1.w<val a.1.w<;>simp [h2,h3]
   rw [cond_true,← SP a.2 b.2 ga gb hn' (val b.1.w) (val a.1.w) (by rw [h1];exact ⟨rfl,rfl⟩)]
   by_cases h2:val b.1.w<val a.1.w
   ·simp [h2]
   by_cases h3:val a.1.w<val b.1.w<;>simp [h2,h3]
  rw [cond_true,← cQ_ a.2 b.2 ga gb (by simpa using hn)]
  cases a.1.neg<;>rfl
theorem AC (a b:I):kV a b=E (Z.quo a.dec b.dec):=by
 unfold kV;rw [c6_]
 show _=E (Z.quo a.1.dec b.1.dec)
 cases hw:(iE a.1&&(iE b.1&&((dV b).1 != 0)))
 ·rw [cond_false]
  cases hg:(!a.1.good||(!b.1.good||(val b.1.w==0)))
  ·rw [cond_false]
   simp only [Bool.or_eq_false_iff,Bool.not_eq_false',beq_eq_false_iff_ne] at hg;obtain ⟨ga,gb,h0⟩:=hg
   cases hc:((a.1.neg != b.1.neg)&&decide ((0:Int)<((dl (val a.1.w % val b.1.w)).length:Int)))
   ·rw [cond_false,dp_ a.2 b.2 ga gb h0]
    rw [Bool.and_eq_false_iff] at hc;rcases hc with hc|hc
    ·exact .inl (by simpa using hc)
    right
    have:=of_decide_eq_false hc;exact MK.1 oo_
   rw [cond_true,bg_ a.2 b.2 ga gb h0]
   ·rw [Bool.and_eq_true] at hc;simpa using hc.1
   rw [Bool.and_eq_true] at hc;have:=of_decide_eq_true hc.2;intro h;rw [h,rJ] at this;exact absurd this dd_
  rw [cond_true]
  cases ga:a.1.good
  ·rw [b7_ (.inl ga)]
  ·cases gb:b.1.good
   ·rw [b7_ (.inr gb)]
   rw [ga,gb] at hg;rw [eN_ a.2 b.2 ga gb (by simpa using hg)]
 rw [cond_true];have hf:=MU hw;rw [Bool.and_eq_true,Bool.and_eq_true] at hw;rw [← hf.2.2];exact congrArg E (VH a.2 b.2 hw.1 hw.2.1 hf.2.1)
end Go.Num
namespace Go.Proofs.YtbjlhfochebmiaaGreatDoor
open Go.Kn Go.Num Tryz
attribute [local irreducible] Go.Kn.W WL PL OpQ OpR OpS
theorem nF (va vb:Value) (A B:Nat) (hB:0<B) (hna:(dl A).length≤190) (hnb:(dl B).length≤190) (w:World) (hva:Sl w va (dl A)) (hvb:Sl w vb (dl B)) :
    Calls prog 178 [va,vb].toArray w (fun e w'=>∃ v1 v2,e = .returned (.tuple #[v1,v2])∧Ext w w'∧Slf w.heap.size w' v1 (dl (A / B))∧Slf w.heap.size w' v2 (dl (A % B))):=by
 refine JS (N:=84) func178 O O zz_ ?_;obtain ⟨w0,rfl⟩:=nm w;refine giI ?_;have hn0:1≤(dl B).length:=Nat.pos_of_ne_zero (fun hc=>by rw [MK] at hc;omega);obtain ⟨tp,htp⟩:∃ tp,tp=(dg B ((dl B).length - 1)*65536+atD (dl B) (((dl B).length:Int) - 2)):=⟨_,rfl⟩;refine go6 ?_;refine sQ (nU jC O hva.old) O (bI O (Y8 j4 RK z_3 O O oo_ (fun b15 hb15=>go4 ?_)));refine sQ (nU jC O hvb.old) O (go3 ?_);refine mB sn 12 [] [] (go2 ?_);refine pQ O (aS (o9 O O) (congrArg (Value.int .i64) (vC (b:=1) O oo_ oo_))) (pQ O (AM jC O O hvb.old oo_) (pQ O (aS (wZ tyT O hvb.old oo_) (congrArg IV (CX B _))) (go3 ?_)));refine pQ O (aS (o9 O O) (congrArg (Value.int .i64) (TW oo_ dd_ dd_))) (pQ O (dJ aE O (fun w hw=>pD vb (dl B) _ w (SL.sl (M:=_) hvb.old hw))) (pQ O (aS (i4 O O) (show _=Value.int .i64 (tp:Int) from congrArg (Value.int .i64) (by rw [htp];exact bC_ (oS _ _) (DT _ _)))) (go8 ?_)));refine sQ (nU jC O hva.old) O (go4 ?_);refine cI (rg [9,10,11,12] 32 49) (fun g nn M=>∃ (k R:Nat) (qs:List Nat) (vr:Value) (L:List Blk),(g 9=vr∧g 10 = .int .i64 ((k:Int) - 1))∧M=L++[⟨b15,3,iw qs⟩]∧nn=k+0∧(k≤(dl A).length∧DivIn A B (dl A).length k R qs∧SLf w0 L vr (dl R))) ((dl A).length) ?start ?round
 case start =>
  refine ⟨_,(List.Sublist.refl _),(dl A).length,0,_,_,[],⟨?a9,?a10⟩,?mem0,rfl,⟨Nat.le_refl _,DivIn.start (KM A),by rw [rJ];exact SLf.none⟩⟩
  case mem0=>rfl
  case a9=>rfl
  case a10=>exact congrArg (Value.int .i64) (TW oo_ dd_ dd_)
 case round =>
  rintro nn g M ⟨k,R,qs,vr,L,⟨hg9,hg10⟩,rfl,hmeas,⟨hk,hI,hr⟩⟩;subst nn;refine gS2 hg9 hg10 ?_;clear hg9 hg10;refine go5 ?_;refine aN _ O (fun hc=>?_) (fun hc=>?_)
  ·replace hc:=cB_ hc
   obtain ⟨m,rfl⟩:∃ m,k=m+1:=⟨k - 1,by omega⟩
   have hRB:R<B:=by rw [hI.rest];exact Nat.mod_lt _ hB
   have hRl:(dl R).length≤190:=Nat.le_trans (ei_ (Nat.le_of_lt hRB)) hnb;refine go5 ?_;refine sQ (aS (kN O) (congrArg (Value.int .i64) (show (((m+1:Nat):Int) - 1)=(m:Int) by omega))) O (sQ (AM jC O O hva.old oo_) O (sQ (aS (wZ tyT O hva.old oo_) (congrArg IV (CX A m))) O (bI O (jB j4 z_3 pR O dd_ O (B8 _) (fun b40 hb40=>go_ ?_)))));have hC8:=SQ (R:=R) (oS A m);refine bI O (CK j4 RK O O (OwnL.of_mine (l:=[dg A m]) hb40 (show 1≤maxLen by decide)) (hr.sl.sub (.cons _ lZ)) (List.Sublist.refl _) (by simp only [List.length_singleton];omega) (fun v8 L8 hO8=>?_));refine sQ (dJ aE O (fun w hw=>jN v8 ([dg A m]++dl R) hC8.1 (by simp only [List.length_append,List.length_singleton];omega) w (SL.sl (hO8.sl lZ) hw))) O ?_;refine go2 ?_;have hC8:=SQ (R:=R) (oS A m);have hr8:=xF hC8.1 hC8.2 (hO8.slf (List.Sublist.refl _));generalize sls v8 (dl (dv ([dg A m]++dl R))).length=vr8 at hr8 ⊢
   have hR8:(R*65536+dg A m)<65536*B:=by have:=oS A m;omega
   obtain ⟨nm,hnm⟩:∃ nm,nm=(atD (dl (R*65536+dg A m)) ((dl B).length:Int)*4294967296+atD (dl (R*65536+dg A m)) (((dl B).length:Int) - 1)*65536+atD (dl (R*65536+dg A m)) (((dl B).length:Int) - 2)):=⟨_,rfl⟩;obtain ⟨d0,hd0⟩:∃ d0,d0=min 65535 (nm / tp):=⟨_,rfl⟩
   have G8:0<tp∧(R*65536+dg A m) / B≤d0∧d0≤65535:=by rw [hd0,hnm,htp];have hg:=XY hB hR8 O hn0;exact ⟨hg.1,hg.2,Nat.min_le_left _ _⟩
   have hl8:(dl (R*65536+dg A m)).length≤192:=Nat.le_trans (iF (k:=(dl B).length+1) (by have:=KM B;rw [Nat.pow_succ];omega)) oo_;refine go3 ?_;refine sQ (dJ aE O (fun w hw=>pD _ (dl (R*65536+dg A m)) _ w (SL.sl (M:=_) (hr8.sl.sub lZ) hw))) O (go3 ?_);refine sQ (aS (o9 O O) (congrArg (Value.int .i64) (TW oo_ dd_ dd_))) O (sQ (dJ aE O (fun w hw=>pD _ (dl (R*65536+dg A m)) _ w (SL.sl (M:=_) (hr8.sl.sub lZ) hw))) O (go4 ?_));refine sQ (aS (o9 O O) (congrArg (Value.int .i64) (TW oo_ dd_ dd_))) O (sQ (dJ aE O (fun w hw=>pD _ (dl (R*65536+dg A m)) _ w (SL.sl (M:=_) (hr8.sl.sub lZ) hw))) O (sQ (aS (i4 O O) (show _=Value.int .i64 (nm:Int) from congrArg (Value.int .i64) (by rw [hnm];exact a7_ (DT _ _) (DT _ _) (DT _ _)))) O (go_ ?_)));refine sQ (aS (kJ O O (fun hc=>Nat.lt_irrefl 0 (Nat.lt_of_lt_of_eq G8.1 (Int.natCast_eq_zero.1 hc)))) (congrArg (Value.int .i64) (PO (by rw [hnm];exact df_ _ _ _ _)))) O (sQ (aS (dn_ (a:=65535) O O) (congrArg (fun n:Nat=>Value.int .i64 (n:Int)) hd0.symm)) O (go5 ?_));refine bI O (jB j4 z_3 pR O dd_ O (B8 _) (fun b64 hb64=>bI O (fM aE O (fun w hw=>uD vb _ (dl B) [d0] (kS B) (DL.one oo_) oo_ zz_ w (SL.sl (M:=_) hvb.old hw) (SL.sl (SL.mine (l:=[d0]) (.head _) (Nat.le_refl _)) hw)) (fun vp0 Lp0 hp0=>?_))));refine go4 ?_;refine cI (rg [11,12] 66 8) (fun g nn M=>∃ (d:Nat) (vp:Value) (Lp:List Blk),(g 11 = .int .i64 (d:Int)∧g 12=vp)∧M=Lp++(L8++(L++[⟨b15,3,iw qs⟩]))∧nn=d∧(((R*65536+dg A m) / B≤d∧d≤65535)∧SLf w0 Lp vp (dl (B*d)))) d0 ?start ?round
   case start =>
    refine ⟨_,(List.Sublist.append (List.Sublist.refl _) (List.Sublist.cons _ (List.Sublist.refl _))),d0,vp0,Lp0,⟨?a11,?a12⟩,?mem0,rfl,⟨⟨G8.2.1,G8.2.2⟩,by have:=hp0;rw [gJ] at this;simpa [dv] using this⟩⟩
    case mem0=>rfl
    case a11=>rfl
    case a12=>rfl
   case round =>
    rintro nn g M ⟨d,vp,Lp,⟨hg11,hg12⟩,rfl,hmeas,⟨hd,hp⟩⟩;subst nn;refine gS2 hg11 hg12 ?_;clear hg11 hg12;have hpl:(dl (B*d)).length≤195:=Nat.le_trans (iF (k:=(dl B).length+1) (by have:=KM B;have h1:=Nat.mul_le_mul_left B hd.2;rw [Nat.pow_succ];omega)) oo_;refine go4 ?_;refine sQ (dJ aE O (fun w hw=>kP _ vp (dl (R*65536+dg A m)) (dl (B*d)) (kS _) (kS _) oo_ oo_ w (SL.sl (hr8.sl.sub (.trans lZ (List.sublist_append_right _ _))) hw) (SL.sl (hp.sl.sub lZ) hw))) O (go_ ?_);refine aN _ O (fun h68=>?_) (fun h68=>?_)
    ·replace h68:=cB_ h68
     rw [gJ,gJ] at h68;have hless:=XD hB hd.1 h68;refine go4 ?_;refine sQ (aS (o9 O O) (congrArg (Value.int .i64) (vC (b:=1) O hless.1 oo_))) O (go5 ?_);refine bI O (fM aE O (fun w hw=>lO vp vb (dl (B*d)) (dl B) (kS _) (kS _) oo_ oo_ (by rw [gJ,gJ];exact hless.2.2.1) w (SL.sl (hp.sl.sub lZ) hw) (SL.sl (M:=_) hvb.old hw)) (fun vp2 Lp2 hp2=>go2 ?_));refine ⟨pp_,_,_,(List.Sublist.append (List.Sublist.refl _) (List.sublist_append_right _ _)),(by have:=hless.1;omega),d - 1,vp2,Lp2,⟨?s11,?s12⟩,?mem,rfl,⟨⟨hless.2.1,by omega⟩,by rw [gJ,gJ,hless.2.2.2] at hp2;exact hp2⟩⟩
     case mem=>rfl
     case s11=>rfl
     case s12=>rfl
    replace h68:=cB_ h68
    rw [gJ,gJ] at h68;have hdone:=XC hB hd.1 h68;refine go3 ?_;refine sQ (aS (kN O) (congrArg (Value.int .i64) (show (((m+1:Nat):Int) - 1)=(m:Int) by omega))) O (go_ ?_);refine sQ (qX jC O O oo_ oo_) O (bI O (IT tyT O O (uL (uL (uL uH))) (by rw [hI.len];omega) (.inl eL) (go4 ?_)));refine bI O (fM aE O (fun w hw=>lO _ vp (dl (R*65536+dg A m)) (dl (B*d)) (kS _) (kS _) oo_ oo_ (by rw [gJ,gJ];exact hdone.2.2) w (SL.sl (hr8.sl.sub (.trans lZ (List.sublist_append_right _ _))) hw) (SL.sl (hp.sl.sub lZ) hw)) (fun vr2 Lr2 hr2=>go3 ?_));refine sQ (aS (kN O) (congrArg (Value.int .i64) (show (((m+1:Nat):Int) - 1)=(m:Int) by omega))) O (go3 ?_);refine ⟨pp_,_,_,(List.Sublist.append (List.Sublist.refl _) (.trans (List.sublist_append_right _ _) (.trans (List.sublist_append_right _ _) (List.sublist_append_right _ _)))),oo_,m,((R*65536+dg A m) % B),qs.set m d,vr2,Lr2,⟨?s9,?s10⟩,?mem,rfl,⟨by omega,by rw [hdone.1];exact hI.step hB oo_,by rw [gJ,gJ,hdone.2.1] at hr2;exact hr2⟩⟩
    case mem=>rfl
    case s9=>rfl
    case s10=>exact congrArg (Value.int .i64) (cB (n:=(m:Int) - 1) (by unfold I64;omega))
  replace hc:=cB_ hc
  obtain rfl:k=0:=by omega
  refine go3 ?_;refine sQ (dJ aE O (fun w hw=>jN _ qs hI.ok (by rw [hI.len];omega) w (SL.sl (SL.mine' (mA (.head _)) hI.len (Nat.le_refl _)) hw))) O (go5 ?_);refine rt2 ?_;exact ⟨_,_,rfl,xF hI.ok hI.fin.1 (SLf.mine hb15 (mA (.head _)) hI.len (Nat.le_refl _)),by rw [hI.fin.2] at hr;exact hr.sub lZ⟩
end Go.Proofs.YtbjlhfochebmiaaGreatDoor
