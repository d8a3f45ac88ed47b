/- Lemmas: what they ask stands in their statements. -/
import Derived.Test.YtcjoflcajgaifaaGreatDoorORe
set_option linter.unusedSimpArgs false
set_option linter.unusedVariables false
set_option maxHeartbeats 8000000
set_option maxRecDepth 20000
namespace Go.Num
open Go Go.Kn
def wE (a:HPl) (b:HPl):W :=
 let r4:W:=(sD [(aY a.n.x b.n.x),(aY a.n.y b.n.y),(aY a.n.z b.n.z)])
 r4
def wF (a:(A3 W)) (b:(A3 W)):W :=
 let r4:W:=(sD [(aY a.x b.x),(aY a.y b.y),(aY a.z b.z)])
 r4
def mV (d:(List HPl)) (i:Nat) (o:List HPl):Nat→Nat→(List HPl)→Nat×List HPl
 | 0,j,u=>(j,u)
 | k1+1,j,u=>bif decide (0<(j:Int)) then (bif decide ((wE (u.getD j rH) (u.getD (j - 1) rH)).1<0) then (mV d i o k1 (j - 1) ((u.set j (u.getD (j - 1) rH)).set (j - 1) (u.getD j rH))) else (j,u)) else (j,u)
def mU (d:(List HPl)):Nat→Nat→(List HPl)→Nat×List HPl
 | 0,i,o=>(i,o)
 | k0+1,i,o=>bif decide ((i:Int)<(d.length:Int)) then (ap (fun (s:Nat×List HPl)=>let j:Nat:=s.1
 let u:List HPl:=s.2
 (mU d k0 (i+1) u)) (mV d i o (i+1) i o)) else (i,o)
def mT (d:List HPl):List HPl :=
 ap (fun (s:Nat×List HPl)=>let i:Nat:=s.1
 let o:List HPl:=s.2
 o) (mU d (d.length+1) 1 d)
def mX (d:(List (A3 W))) (i:Nat) (o:List (A3 W)):Nat→Nat→(List (A3 W))→Nat×List (A3 W)
 | 0,j,u=>(j,u)
 | k1+1,j,u=>bif decide (0<(j:Int)) then (bif decide ((wF (u.getD j A30) (u.getD (j - 1) A30)).1<0) then (mX d i o k1 (j - 1) ((u.set j (u.getD (j - 1) A30)).set (j - 1) (u.getD j A30))) else (j,u)) else (j,u)
def mW (d:(List (A3 W))):Nat→Nat→(List (A3 W))→Nat×List (A3 W)
 | 0,i,o=>(i,o)
 | k0+1,i,o=>bif decide ((i:Int)<(d.length:Int)) then (ap (fun (s:Nat×List (A3 W))=>let j:Nat:=s.1
 let u:List (A3 W):=s.2
 (mW d k0 (i+1) u)) (mX d i o (i+1) i o)) else (i,o)
def n6 (d:List (A3 W)):List (A3 W) :=
 ap (fun (s:Nat×List (A3 W))=>let i:Nat:=s.1
 let o:List (A3 W):=s.2
 o) (mW d (d.length+1) 1 d)
def P4:List (A3 W):=[⟨wl 0,wl 0,wl 0⟩,⟨wl 0,wl 0,wl 6⟩,⟨wl 0,wl 6,wl 0⟩,⟨wl 6,wl 0,wl 0⟩]
def PIN:List (A3 W):=[⟨wl 0,wl 0,wl 0⟩,⟨wl 6,wl 0,wl 0⟩,⟨wl 0,wl 6,wl 0⟩,⟨wl 0,wl 0,wl 6⟩]
def PG0:List W:=[wl 0,wl 1,wl 2]
def PG1:List W:=[wl 0,wl 3,wl 1]
def PG2:List W:=[wl 0,wl 2,wl 3]
def PG3:List W:=[wl 1,wl 3,wl 2]
def KS4:List HPl:=[⟨⟨wl (-1),wl 0,wl 0⟩,wl 0⟩,⟨⟨wl 0,wl (-1),wl 0⟩,wl 0⟩,⟨⟨wl 0,wl 0,wl (-1)⟩,wl 0⟩,⟨⟨wl 1,wl 1,wl 1⟩,wl 6⟩]
def PL4:List HPl:=[⟨⟨wl (-1),wl 0,wl 0⟩,wl 0⟩,⟨⟨wl 0,wl (-1),wl 0⟩,wl 0⟩,⟨⟨wl 0,wl 0,wl (-1)⟩,wl 0⟩,⟨⟨wl 1,wl 1,wl 1⟩,wl 6⟩]
def pvP (p:HPl):Value:=AV (elHP.ps p)
def KSV:List Value:=KS4.map pvP
def pZ (j:Nat):HPl:=KS4.getD j rH
def DW (j:Nat):Value:=.int .i64 (j:Int)
def Seen4 (s:List Nat):Prop:=s.Nodup∧∀ j∈s,j<4
theorem F8 (s:List Nat):(s.map DW).map wK=s:=by
 rw [List.map_map]
 conv=>rhs;rw [← List.map_id s]
 exact List.map_congr_left fun j _=>by simp [DW,wK]
theorem fr_ {s:List Nat} {j:Nat} (h:uW KSV (s.map DW) j=true):j<4∧j ∉ s:=by
 unfold uW at h;rw [F8] at h;simp only [Bool.and_eq_true,decide_eq_true_eq,Bool.not_eq_true'] at h;exact ⟨h.1,by simpa using h.2⟩
theorem fq_ {s:List Nat} {j:Nat} (h:uW KSV (s.map DW) j=false) (hj:j<4):j∈s:=by
 unfold uW at h;rw [F8] at h;have h4:decide (j<KSV.length)=true:=decide_eq_true hj;rw [h4,Bool.true_and] at h
 simpa using h
theorem cu_ {j:Nat} (h:j<4):KSV[j]? = some (pvP (pZ j)):=by
 match j,h with
 | 0,_=>rfl
 | 1,_=>rfl
 | 2,_=>rfl
 | 3,_=>rfl
theorem KSv {j:Nat} {v:Value} (h:j<4) (hv:KSV[j]? = some v):v=pvP (pZ j):=by
 rw [cu_ h] at hv;exact (Option.some.inj hv).symm
theorem fQ_:Seen4 []:=⟨List.nodup_nil,fun _ h=>by cases h⟩
theorem Seen4.add {s:List Nat} {j:Nat} (h:Seen4 s) (hj:j<4) (hs:j ∉ s):Seen4 (s++[j]):=by
 refine ⟨?_,fun k hk=>?_⟩
 ·rw [List.nodup_append]
  refine ⟨h.1,by simp,fun a ha b hb=>?_⟩;rw [List.mem_singleton.1 hb];exact fun e=>hs (e ▸ ha)
 rcases List.mem_append.1 hk with hk|hk
 ·exact h.2 k hk
 rw [List.mem_singleton.1 hk];exact hj
theorem GA:∀ {l m:List Nat},l.Nodup→(∀ x∈l,x∈m)→l.length≤m.length
 | [],m,_,_=>Nat.zero_le _
 | a::l,m,hn,hs=>by
  rw [List.nodup_cons] at hn;have ha:=hs a List.mem_cons_self;have h1:=GA (l:=l) (m:=m.erase a) hn.2 (fun x hx=>(List.mem_erase_of_ne (fun (e:x=a)=>hn.1 (by rw [← e];exact hx))).2 (hs x (List.mem_cons_of_mem _ hx)));rw [List.length_erase_of_mem ha] at h1;have:=List.length_pos_of_mem ha;simp only [List.length_cons];omega
theorem Seen4.le {s:List Nat} (h:Seen4 s):s.length≤4:=by
 have:=GA (m:=List.range 4) h.1 (fun j hj=>List.mem_range.2 (h.2 j hj))
 simpa using this
theorem b9_ {s:List Nat} (h:Seen4 s):(s.map pZ).length≤4:=by rw [List.length_map];exact h.le
theorem VT {s:List Nat} {j k:Nat} (h:Seen4 s) (hj:j<4) (hs:j ∉ s) (hq:4 - s.length<k+1):4 - (s++[j]).length<k:=by
 have:=(h.add hj hs).le;simp only [List.length_append,List.length_cons,List.length_nil] at *;omega
theorem JF {s:List Nat} (h:Seen4 s) (hl:∀ j,uW KSV (s.map DW) j=false):s.length=4:=by
 have h1:=GA (l:=List.range 4) (m:=s) List.nodup_range (fun j hj=>fq_ (hl j) (List.mem_range.1 hj));have:=h.le;rw [List.length_range] at h1;omega
theorem ah_ {s:List Nat} (h:Seen4 s) (hl:∀ j,uW KSV (s.map DW) j=false):(s.map pZ).length=4:=by rw [List.length_map];exact JF h hl
def dI_ (p q:HPl):Bool:=p.n.x.1==q.n.x.1&&(p.n.y.1==q.n.y.1&&(p.n.z.1==q.n.z.1&&p.d.1==q.d.1))
def SN:List HPl→List HPl→Bool
 | [],[]=>true
 | p::l,q::m=>dI_ p q&&SN l m
 | _,_=>false
theorem bt_ {p q:HPl} (h:dI_ p q=true):p=q:=by
 obtain ⟨⟨x,y,z⟩,d⟩:=p;obtain ⟨⟨x',y',z'⟩,d'⟩:=q;simp only [dI_,Bool.and_eq_true,beq_iff_eq] at h;obtain ⟨h1,h2,h3,h4⟩:=h;have e1:=Subtype.ext h1;have e2:=Subtype.ext h2;have e3:=Subtype.ext h3;have e4:=Subtype.ext h4;subst e1 e2 e3 e4;rfl
theorem NY:∀ {l m:List HPl},SN l m=true→l=m
 | [],[],_=>rfl
 | p::l,q::m,h=>by
  simp only [SN,Bool.and_eq_true] at h;rw [bt_ h.1,NY h.2]
 | [],_::_,h=>by cases h
 | _::_,[],h=>by cases h
def XR (a b c d:Nat):Bool:=!(a==b)&&(!(a==c)&&(!(a==d)&&(!(b==c)&&(!(b==d) && !(c==d)))))
theorem gx_:((List.range 4).all fun a=>(List.range 4).all fun b=>(List.range 4).all fun c=>(List.range 4).all fun d=>!XR a b c d||SN (mT ([a,b,c,d].map pZ)) PL4)=true:=by kernel_rfl
theorem VU {s:List Nat} (h:Seen4 s) (hl:∀ j,uW KSV (s.map DW) j=false):mT (s.map pZ)=PL4:=by
 have h4:=JF h hl
 match s,h4 with
 | [a,b,c,d],_ =>
  have ha:=h.2 a (by simp);have hb:=h.2 b (by simp);have hc:=h.2 c (by simp);have hd:=h.2 d (by simp);have hn:=h.1;have e:=List.all_eq_true.1 (List.all_eq_true.1 (List.all_eq_true.1 (List.all_eq_true.1 gx_ a (List.mem_range.2 ha)) b (List.mem_range.2 hb)) c (List.mem_range.2 hc)) d (List.mem_range.2 hd)
  have hdd:XR a b c d=true:=by
   simp only [List.nodup_cons,List.mem_cons,List.not_mem_nil,or_false,not_or] at hn;simp only [XR,Bool.and_eq_true,Bool.not_eq_true',beq_eq_false_iff_ne];exact ⟨hn.1.1,hn.1.2.1,hn.1.2.2,hn.2.1.1,hn.2.1.2,hn.2.2.1⟩
  rw [hdd] at e;exact NY e
structure Convex where
 v:List (A3 W)
end Go.Num
namespace Go.Proofs.YtcjoflcajgaifaaGreatDoor
open Go.Kn Go.Num Tryz
attribute [local irreducible] Go.Kn.W WL PL OpQ OpR OpS
theorem nH (a:(A3 W)) :
  Ret prog 136 [AV [cw a.x.1,cw a.y.1,cw a.z.1]] (AV [cw (((nJ a).x).1),cw (((nJ a).y).1),cw (((nJ a).z).1)]):=by
 refine bG (N:=13) func136 O O zz_ (fun w0=>?_);refine giI ?_;refine go2 ?_;intro b1 hb1;refine go_ ?_;intro b2 hb2;refine go4 ?_;refine sV (.int .i64 ((W.neg a.x).1)) O O (go2 ?_);refine sV (.int .i64 ((W.neg a.y).1)) O O (go2 ?_);refine sV (.int .i64 ((W.neg a.z).1)) O O (go4 ?_);refine rtX O (iC O m0 tyT O) ?_;exact (by rfl)
theorem HI (a:(A3 W)) (b:(A3 W)) :
  Ret prog 181 [AV [cw a.x.1,cw a.y.1,cw a.z.1],AV [cw b.x.1,cw b.y.1,cw b.z.1]] (AV [cw (((o5 a b).x).1),cw (((o5 a b).y).1),cw (((o5 a b).z).1)]):=by
 refine bG (N:=19) func181 O O zz_ (fun w0=>?_);refine giI ?_;refine go2 ?_;intro b1 hb1;refine go_ ?_;intro b2 hb2;refine go_ ?_;intro b3 hb3;refine go6 ?_;refine i4 5 (go2 ?_);refine sV (.bool true) O O (mQ ?_);refine lJ (sk (sk (sd s0))) 9 [8] [8] (go6 ?_);refine pV (.int .i64 ((W.add a.x b.x).1)) O O (go4 ?_);refine sV (.int .i64 1) O O (go4 ?_);refine sV (.bool true) O O (mQ ?_);refine lJ (sk (sk (sd s0))) 9 [8] [8] (go6 ?_);refine pV (.int .i64 ((W.add a.y b.y).1)) O O (go4 ?_);refine sV (.int .i64 2) O O (go4 ?_);refine sV (.bool true) O O (mQ ?_);refine lJ (sk (sk (sd s0))) 9 [8] [8] (go6 ?_);refine pV (.int .i64 ((W.add a.z b.z).1)) O O (go4 ?_);refine sV (.int .i64 3) O O (go4 ?_);refine sV (.bool false) O O (go9 ?_);refine rtX O (iC O m0 tyT O) ?_;exact (by rfl)
theorem cW (a:(A3 W)) (b:(A3 W)) :
  Ret prog 142 [AV [cw a.x.1,cw a.y.1,cw a.z.1],AV [cw b.x.1,cw b.y.1,cw b.z.1]] (AV [cw (((kO a b).x).1),cw (((kO a b).y).1),cw (((kO a b).z).1)]):=by
 refine bG (N:=9) func142 O O zz_ (fun w0=>?_);refine giI ?_;refine go2 ?_;intro b1 hb1;refine go_ ?_;intro b2 hb2;refine go_ ?_;intro b3 hb3;refine go_ ?_;refine jA (sd (sk (sk s0))) 5 [4] [4] (go2 ?_);refine pQ O (aW aH (nH b) O) ?_;obtain ⟨r4,hr4⟩:=nm ((o5 a (nJ b)):(A3 W));refine pC (AV [cw r4.x.1,cw r4.y.1,cw r4.z.1]) aH (HI a (nJ b)) O O (by rw [hr4]) (go3 ?_);refine rtX O (iC O m0 tyT O) ?_;exact (by subst hr4;rfl)
theorem tF (a:(A3 W)) :
  Ret prog 183 [AV [cw a.x.1,cw a.y.1,cw a.z.1]] (AV [pI ((jU a).x),pI ((jU a).y),pI ((jU a).z)]):=by
 refine bG (N:=16) func183 O O zz_ (fun w0=>?_);refine giI ?_;refine go2 ?_;intro b1 hb1;refine go_ ?_;intro b2 hb2;refine go7 ?_;refine i4 5 (go2 ?_);refine sV (.bool true) O O (AZ ?_);refine sC (AV [pI (E (Z.of a.x.1))]) aH (eJ a.x.1 a.x.2) O O O (go4 ?_);refine sV (.int .i64 1) O O (go4 ?_);refine sV (.bool true) O O (AZ ?_);refine sC (AV [pI (E (Z.of a.y.1))]) aH (eJ a.y.1 a.y.2) O O O (go4 ?_);refine sV (.int .i64 2) O O (go4 ?_);refine sV (.bool true) O O (AZ ?_);refine sC (AV [pI (E (Z.of a.z.1))]) aH (eJ a.z.1 a.z.2) O O O (go4 ?_);refine sV (.int .i64 3) O O (go4 ?_);refine sV (.bool false) O O (go9 ?_);refine rtX O (iC O m0 tyT O) ?_;exact (by rfl)
theorem HJ (a:(A3 I)) (b:(A3 I)) :
  Ret prog 182 [AV [pI a.x,pI a.y,pI a.z],AV [pI b.x,pI b.y,pI b.z]] (AV [pI (AG a b)]):=by
 refine bG (N:=22) func182 O O zz_ (fun w0=>?_);refine giI ?_;refine go2 ?_;intro b1 hb1;refine go_ ?_;intro b2 hb2;refine go_ ?_;intro b3 hb3;refine go2 ?_;refine sC (AV [pI (E (Z.of 0))]) aH (eJ (wl 0).1 (wl 0).2) O O O ?_;refine go_ ?_;intro b4 hb4;refine go7 ?_;refine i4 5 (go2 ?_);refine sV (.bool true) O O (mQ ?_);refine lJ (sd (sk (sk (sk s0)))) 10 [9] [9] (go7 ?_);refine pC (AV [pI (E (Z.mul a.x.dec b.x.dec))]) aH (dR a.x.1 b.x.1 a.x.2 b.x.2) O O O (pC (AV [pI (E (Z.add (Z.of 0) (Z.mul a.x.dec b.x.dec)))]) aH (hJ (E (Z.of 0)).1 (E (Z.mul a.x.dec b.x.dec)).1 (E (Z.of 0)).2 (E (Z.mul a.x.dec b.x.dec)).2) O O (cg2 (fun p q=>AV [pI (E (Z.add p q))]) (bW _) (bW _)) (go3 ?_));refine sV (.int .i64 1) O O (go4 ?_);refine sV (.bool true) O O (mQ ?_);refine lJ (sd (sk (sk (sk s0)))) 10 [9] [9] (go7 ?_);refine pC (AV [pI (E (Z.mul a.y.dec b.y.dec))]) aH (dR a.y.1 b.y.1 a.y.2 b.y.2) O O O ?_;obtain ⟨r5,hr5⟩:=nm ((E (Z.add (Z.add (Z.of 0) (Z.mul a.x.dec b.x.dec)) (Z.mul a.y.dec b.y.dec))):I);refine pC (AV [pI r5]) aH (hJ (E (Z.add (Z.of 0) (Z.mul a.x.dec b.x.dec))).1 (E (Z.mul a.y.dec b.y.dec)).1 (E (Z.add (Z.of 0) (Z.mul a.x.dec b.x.dec))).2 (E (Z.mul a.y.dec b.y.dec)).2) O O ((cg2 (fun p q=>AV [pI (E (Z.add p q))]) (bW _) (bW _)).trans (by rw [hr5])) (go3 ?_);refine sV (.int .i64 2) O O (go4 ?_);refine sV (.bool true) O O (mQ ?_);refine lJ (sd (sk (sk (sk s0)))) 10 [9] [9] (go7 ?_);refine pC (AV [pI (E (Z.mul a.z.dec b.z.dec))]) aH (dR a.z.1 b.z.1 a.z.2 b.z.2) O O O (pC (AV [pI (E (Z.add r5.dec (Z.mul a.z.dec b.z.dec)))]) aH (hJ r5.1 (E (Z.mul a.z.dec b.z.dec)).1 r5.2 (E (Z.mul a.z.dec b.z.dec)).2) O O (cg2 (fun p q=>AV [pI (E (Z.add p q))]) O (bW _)) (go3 ?_));refine sV (.int .i64 3) O O (go4 ?_);refine sV (.bool false) O O (go9 ?_);refine rtX O (iC O m1 tyT O) ?_;exact (by subst hr5;rfl)
theorem pR (a:(A3 W)) (b:(A3 W)) :
  Ret prog 145 [AV [cw a.x.1,cw a.y.1,cw a.z.1],AV [cw b.x.1,cw b.y.1,cw b.z.1]] (AV [pI (KB a b)]):=by
 refine bG (N:=10) func145 O O zz_ (fun w0=>?_);refine giI ?_;refine go2 ?_;intro b1 hb1;refine go_ ?_;intro b2 hb2;refine go_ ?_;intro b3 hb3;refine go_ ?_;refine jA (sd (sk (sk s0))) 6 [5] [5] (go_ ?_);refine pQ O (aW aH (tF a) O) (go_ ?_);refine pQ O (aW aH (tF b) O) (pQ O (aW aH (HJ (jU a) (jU b)) O) (go3 ?_));refine rtX O (iC O m0 tyT O) ?_;exact (by rfl)
theorem fI (a:(A3 W)) (b:(A3 W)) :
  Ret prog 140 [AV [cw a.x.1,cw a.y.1,cw a.z.1],AV [cw b.x.1,cw b.y.1,cw b.z.1]] (.int .i64 ((oQ a b).1)):=by
 refine bG (N:=22) func140 O O zz_ (fun w0=>?_);refine giI ?_;refine go2 ?_;intro b1 hb1;refine go_ ?_;intro b2 hb2;refine go7 ?_;refine sV (.int .i64 ((W.mul a.x b.x).1)) O O (go4 ?_);refine sV (.int .i64 ((W.mul a.y b.y).1)) O O (sV (.int .i64 ((W.add (W.mul a.x b.x) (W.mul a.y b.y)).1)) O O (go4 ?_));refine sV (.int .i64 ((W.mul a.z b.z).1)) O O (sV (.int .i64 ((W.add (W.add (W.mul a.x b.x) (W.mul a.y b.y)) (W.mul a.z b.z)).1)) O O (go3 ?_));refine rt1 ?_;exact (by rfl)
theorem lR (a:(A3 W)) (b:(A3 W)) :
  Ret prog 146 [AV [cw a.x.1,cw a.y.1,cw a.z.1],AV [cw b.x.1,cw b.y.1,cw b.z.1]] (AV [cw (((gO a b).x).1),cw (((gO a b).y).1),cw (((gO a b).z).1)]):=by
 refine bG (N:=39) func146 O O zz_ (fun w0=>?_);refine giI ?_;refine go2 ?_;intro b1 hb1;refine go_ ?_;intro b2 hb2;refine go_ ?_;intro b3 hb3;refine go6 ?_;refine sV (.int .i64 ((W.mul a.y b.z).1)) O O (go4 ?_);refine sV (.int .i64 ((W.mul a.z b.y).1)) O O (sV (.int .i64 ((W.sub (W.mul a.y b.z) (W.mul a.z b.y)).1)) O O (go4 ?_));refine sV (.int .i64 ((W.mul a.z b.x).1)) O O (go4 ?_);refine sV (.int .i64 ((W.mul a.x b.z).1)) O O (sV (.int .i64 ((W.sub (W.mul a.z b.x) (W.mul a.x b.z)).1)) O O (go4 ?_));refine sV (.int .i64 ((W.mul a.x b.y).1)) O O (go4 ?_);refine sV (.int .i64 ((W.mul a.y b.x).1)) O O (sV (.int .i64 ((W.sub (W.mul a.x b.y) (W.mul a.y b.x)).1)) O O (go4 ?_));refine rtX O (iC O m0 tyT O) ?_;exact (by rfl)
theorem zH (x:W) :
  Ret prog 177 [.int .i64 x.1] (.bool (tI x)):=by
 refine bG (N:=6) func177 O O zz_ (fun w0=>?_);refine giI ?_;refine mQ ?_;refine rt1 ?_;exact (by rfl)
theorem fY (x:W) (y:W) :
    Ret prog 133 [.int .i64 x.1,.int .i64 y.1] (.int .i64 ((aY x y).1)):=by
 refine bG (N:=20) func133 O O zz_ (fun w0=>?_);refine giI ?_;refine go5 ?_;refine sQ (aW aH (zH x) O) O (go4 ?_);refine sQ (aW aH (zH y) O) O (go6 ?_);refine aT _ O (fun h1=>?_) (fun h1=>?_)
 ·refine go4 ?_;refine aT _ O (fun h2=>?_) (fun h2=>?_)
  ·refine go4 ?_;refine rt1 ?_;exact congrArg vS5 (show _=(aY x y) from bS h1 (bS h2 O))
  refine go5 ?_;refine rt1 ?_;exact congrArg vS5 (show _=(aY x y) from bS h1 (bH h2 O))
 refine go5 ?_;refine aT _ O (fun h3=>?_) (fun h3=>?_)
 ·refine go4 ?_;refine rt1 ?_;exact congrArg vS5 (show _=(aY x y) from bH h1 (bS h3 O))
 refine go7 ?_;refine aT _ O (fun h4=>?_) (fun h4=>?_)
 ·have ph4:=of_decide_eq_true h4;refine go4 ?_;refine rt1 ?_;exact congrArg vS5 (show _=(aY x y) from bH h1 (bH h3 (bS h4 O)))
 have ph4:=of_decide_eq_false h4;refine go7 ?_;refine aT _ O (fun h5=>?_) (fun h5=>?_)
 ·have ph5:=of_decide_eq_true h5;refine go4 ?_;refine rt1 ?_;exact congrArg vS5 (show _=(aY x y) from bH h1 (bH h3 (bH h4 (bS h5 O))))
 have ph5:=of_decide_eq_false h5;refine go5 ?_;refine rt1 ?_;exact congrArg vS5 (show _=(aY x y) from bH h1 (bH h3 (bH h4 (bH h5 O))))
theorem GE (vl:Value) (l:(List W)) (w:World) (hl:Slr w elW vl l) :
    Calls prog 132 [vl].toArray w (fun e w'=>e = .returned (.int .i64 ((sD l).1))∧Ext w w'):=by
 obtain ⟨p_l,c_l,rfl⟩:=hl.form;refine cV (N:=18) func132 O O zz_ ?_;obtain ⟨w0,rfl⟩:=nm w;have Hl:=hl.old;have hm_l:=hl.max;refine giI ?_;refine go9 ?_;refine sQ (bX bQ O (SLe.sub Hl sn)) O (go2 ?_);refine gJ3 (rg [2,5] 8 9) (fun g M=>∃ (k:Nat),(mY l (l.length+1) 0) = .inl k∧(g 8 = .int .i64 (k:Int))∧M=[]) (fun K_u1 hK_u1=>?_) ?_
 ·refine go_ ?_;refine cE (rg [2,5] 8 9) (fun g nn M=>∃ (k:Nat),(mY l nn k)=(mY l (l.length+1) 0)∧l.length - k<nn∧(k≤l.length)∧(g 8 = .int .i64 (k:Int))∧M=[]) (l.length+1) ?start ?round
  case start=>exact ⟨_,s0,0,rfl,oo_,oo_,rfl,rfl⟩
  case round =>
   rintro nn g M ⟨k,hT0,hq0,hinv0,hg8,rfl⟩;obtain ⟨k0,rfl⟩:∃ m,nn=m+1:=⟨nn - 1,by omega⟩;refine gS1 hg8 ?_;clear hg8;refine go4 ?_;refine aT _ O (fun h6=>?_) (fun h6=>?_)
   ·have ph6:=of_decide_eq_true h6;refine go4 ?_;refine sQ (aE (v':=.pointer (some (slb (.slice p_l l.length c_l) (k*1+0)))) (aJ (e:=elW) (l:=l) (k:=k) bQ O O (SLe.sub Hl sn) o2_) O) O ?_;refine sQ (cG (u:=.int .i64 ((l.getD k W.z).1)) (e:=elW) (l:=l) (k:=k) (o:=0) tyT O (SLe.sub Hl sn) (aF W.z o2_) O) O ?_;refine go7 ?_;refine aT _ O (fun h7=>?_) (fun h7=>?_)
    ·refine go5 ?_;refine rt1 ?_;exact congrArg vS5 (show _=(sD l) from (wX O (hT0.symm.trans (Eq.symm (bS h6 (bS h7 O))))))
    refine go2 ?_;refine sWi (((k+1):Nat):Int) O (go2 ?_);refine ⟨pp_,_,_,s0,(Nat.lt_succ_self _),(k+1),(by exact (hT0.symm.trans (Eq.symm (bS h6 (bH h7 O)))).symm),(Nat.lt_of_lt_of_le oo_ (Nat.le_of_lt_succ hq0)),oo_,rfl,rfl⟩
   have ph6:=of_decide_eq_false h6;refine go_ ?_;refine hK_u1 _ _ pp_ ⟨_,s0,k,(by exact hT0.symm.trans (Eq.symm (bH h6 O))),rfl,rfl⟩
 rintro g M ⟨k,hCu1,hg8,rfl⟩;refine gS1 hg8 ?_;clear hg8;refine go5 ?_;refine rt1 ?_;exact congrArg vS5 (show _=(sD l) from trs (Eq.symm (smS hCu1)) O)
theorem A5 (a:W) (b:W) :
    Ret prog 178 [.int .i64 a.1,.int .i64 b.1] (.int .i64 ((bK a b).1)):=by
 refine bG (N:=15) func178 O O zz_ (fun w0=>?_);refine giI ?_;refine go3 ?_;refine kF (rg [0,1] 5 6) (fun g M=>∃ (p:W) (q:W),(lP a b (b.1.natAbs+1) a b)=(p,q)∧(g 0 = .int .i64 p.1∧g 1 = .int .i64 q.1)∧M=[]) (fun K_u1 hK_u1=>?_) ?_
 ·refine go_ ?_;refine cE (rg [0,1] 5 6) (fun g nn M=>∃ (p:W) (q:W),(lP a b nn p q)=(lP a b (b.1.natAbs+1) a b)∧q.1.natAbs<nn∧(True)∧(g 0 = .int .i64 p.1∧g 1 = .int .i64 q.1)∧M=[]) (b.1.natAbs+1) ?start ?round
  case start=>exact ⟨_,s0,a,b,rfl,Nat.lt_succ_self _,trivial,⟨rfl,rfl⟩,rfl⟩
  case round =>
   rintro nn g M ⟨p,q,hT0,hq0,hinv0,⟨hg0,hg1⟩,rfl⟩;obtain ⟨k0,rfl⟩:∃ m,nn=m+1:=⟨nn - 1,by omega⟩;refine gS2 hg0 hg1 ?_;clear hg0 hg1;refine go5 ?_;refine aT _ O (fun h3=>?_) (fun h3=>?_)
   ·refine go2 ?_;refine lJ sn 6 [] [] (go3 ?_);refine pQ O (aE (v':=.int .i64 ((W.rem p q).1)) (pW O O (gM_ h3)) O) (go3 ?_);refine ⟨pp_,_,_,s0,(Nat.lt_succ_self _),q,(W.rem p q),(by exact (hT0.symm.trans (Eq.symm (bS h3 O))).symm),(Nat.lt_of_lt_of_le (W.rem_lt p h3) (Nat.le_of_lt_succ hq0)),trivial,⟨rfl,rfl⟩,rfl⟩
   refine go_ ?_;refine hK_u1 _ _ pp_ ⟨_,s0,p,q,(by exact hT0.symm.trans (Eq.symm (bH h3 O))),⟨rfl,rfl⟩,rfl⟩
 rintro g M ⟨p,q,hCu1,⟨hg0,hg1⟩,rfl⟩;refine gS2 hg0 hg1 ?_;clear hg0 hg1;refine go3 ?_;refine sV (.int .i64 ((W.neg p).1)) O O (sQ (aE (v':=.int .i64 ((W.max p (W.neg p)).1)) (xQ O O) (congrArg (Value.int .i64) (W.max_1 p (W.neg p)))) O (go3 ?_));refine rt1 ?_;exact congrArg vS5 (show _=(bK a b) from (by unfold bK;exact trs (Eq.symm (apS hCu1)) O))
theorem nO (a:(A3 W)) (b:(A3 W)) (c:(A3 W)) :
    Ret prog 135 [AV [cw a.x.1,cw a.y.1,cw a.z.1],AV [cw b.x.1,cw b.y.1,cw b.z.1],AV [cw c.x.1,cw c.y.1,cw c.z.1]] (AV [cw ((((o3 a b c).n).x).1),cw ((((o3 a b c).n).y).1),cw ((((o3 a b c).n).z).1),cw (((o3 a b c).d).1)]):=by
 refine bG (N:=44) func135 O O zz_ (fun w0=>?_);refine giI ?_;refine go2 ?_;intro b1 hb1;refine go_ ?_;intro b2 hb2;refine go_ ?_;intro b3 hb3;refine go_ ?_;intro b4 hb4;refine go_ ?_;refine jA s0 9 [7,8] [8] (go2 ?_);refine pQ O (aW aH (cW b a) O) (go2 ?_);refine pQ O (aW aH (cW c a) O) ?_;obtain ⟨r5,hr5⟩:=nm ((gO (kO b a) (kO c a)):(A3 W));refine pC (AV [cw r5.x.1,cw r5.y.1,cw r5.z.1]) aH (lR (kO b a) (kO c a)) O O (by rw [hr5]) (dC O O (bI zpT (fun b6 hb6=>⟨(fun _=>sd s0),(sd s0),?_⟩)));refine go2 ?_;refine fQ (sk (sk (sd (sd s0)))) ?_;obtain ⟨r8,hr8⟩:=nm ((⟨(bif decide (1<(bK (bK r5.x r5.y) r5.z).1) then (W.quo r5.x (bK (bK r5.x r5.y) r5.z)) else r5.x),(bif decide (1<(bK (bK r5.x r5.y) r5.z).1) then (W.quo r5.y (bK (bK r5.x r5.y) r5.z)) else r5.y),(bif decide (1<(bK (bK r5.x r5.y) r5.z).1) then (W.quo r5.z (bK (bK r5.x r5.y) r5.z)) else r5.z)⟩:(A3 W)):(A3 W));refine kF (rg [8] 16 23) (fun g M=>(True)∧M=[⟨b6,75,aV [cw r8.x.1,cw r8.y.1,cw r8.z.1]⟩,⟨b4,125,aV [cw 0,cw 0,cw 0,cw 0]⟩,⟨b1,75,aV [cw a.x.1,cw a.y.1,cw a.z.1]⟩]) (fun K1 J1=>?_) ?_
 ·refine jA s0 9 [] [] (go4 ?_);refine pQ O (aW aH (A5 r5.x r5.y) O) (go2 ?_);refine pQ O (aW aH (A5 (bK r5.x r5.y) r5.z) O) (go6 ?_);refine aT _ O (fun h9=>?_) (fun h9=>?_)
  ·have ph9:=of_decide_eq_true h9;refine lJ (sd s0) 14 [13] [13] (go3 ?_);refine pQ O (aE (v':=.int .i64 ((W.quo r5.x (bK (bK r5.x r5.y) r5.z)).1)) (oF O O oo_) O) (go3 ?_);refine pQ O (aE (v':=.int .i64 ((W.quo r5.y (bK (bK r5.x r5.y) r5.z)).1)) (oF O O oo_) O) (go3 ?_);refine pQ O (aE (v':=.int .i64 ((W.quo r5.z (bK (bK r5.x r5.y) r5.z)).1)) (oF O O oo_) O) (pQ O (r7 zpT arT O (.cons [cw ((W.quo r5.x (bK (bK r5.x r5.y) r5.z)).1)] [cw ((W.quo r5.x (bK (bK r5.x r5.y) r5.z)).1),cw 0,cw 0] O O O O (.cons [cw ((W.quo r5.y (bK (bK r5.x r5.y) r5.z)).1)] [cw ((W.quo r5.x (bK (bK r5.x r5.y) r5.z)).1),cw ((W.quo r5.y (bK (bK r5.x r5.y) r5.z)).1),cw 0] O O O O (.cons [cw ((W.quo r5.z (bK (bK r5.x r5.y) r5.z)).1)] [cw ((W.quo r5.x (bK (bK r5.x r5.y) r5.z)).1),cw ((W.quo r5.y (bK (bK r5.x r5.y) r5.z)).1),cw ((W.quo r5.z (bK (bK r5.x r5.y) r5.z)).1)] O O O O (.nil _))))) (go2 ?_));refine J1 _ _ pp_ ⟨_,s0,trivial,(show ([⟨b6,75,aV [cw ((W.quo r5.x (bK (bK r5.x r5.y) r5.z)).1),cw ((W.quo r5.y (bK (bK r5.x r5.y) r5.z)).1),cw ((W.quo r5.z (bK (bK r5.x r5.y) r5.z)).1)]⟩,⟨b4,125,aV [cw 0,cw 0,cw 0,cw 0]⟩,⟨b1,75,aV [cw a.x.1,cw a.y.1,cw a.z.1]⟩]:List Blk)=[⟨b6,75,aV [cw r8.x.1,cw r8.y.1,cw r8.z.1]⟩,⟨b4,125,aV [cw 0,cw 0,cw 0,cw 0]⟩,⟨b1,75,aV [cw a.x.1,cw a.y.1,cw a.z.1]⟩] by rw [hr8];first|done|rfl|simp only [h9,cond_true,cond_false,Bool.true_and,Bool.false_and,Bool.and_true,Bool.and_false,Bool.true_or,Bool.false_or,Bool.or_true,Bool.or_false,Bool.not_true,Bool.not_false]|(simp only [h9,cond_true,cond_false,Bool.true_and,Bool.false_and,Bool.and_true,Bool.and_false,Bool.true_or,Bool.false_or,Bool.or_true,Bool.or_false,Bool.not_true,Bool.not_false];rfl))⟩
  have ph9:=of_decide_eq_false h9;refine go_ ?_;refine J1 _ _ pp_ ⟨_,s0,trivial,(show ([⟨b6,75,aV [cw r5.x.1,cw r5.y.1,cw r5.z.1]⟩,⟨b4,125,aV [cw 0,cw 0,cw 0,cw 0]⟩,⟨b1,75,aV [cw a.x.1,cw a.y.1,cw a.z.1]⟩]:List Blk)=[⟨b6,75,aV [cw r8.x.1,cw r8.y.1,cw r8.z.1]⟩,⟨b4,125,aV [cw 0,cw 0,cw 0,cw 0]⟩,⟨b1,75,aV [cw a.x.1,cw a.y.1,cw a.z.1]⟩] by rw [hr8];first|done|rfl|simp only [h9,cond_true,cond_false,Bool.true_and,Bool.false_and,Bool.and_true,Bool.and_false,Bool.true_or,Bool.false_or,Bool.or_true,Bool.or_false,Bool.not_true,Bool.not_false]|(simp only [h9,cond_true,cond_false,Bool.true_and,Bool.false_and,Bool.and_true,Bool.and_false,Bool.true_or,Bool.false_or,Bool.or_true,Bool.or_false,Bool.not_true,Bool.not_false];rfl))⟩
 rintro g10 M ⟨-,rfl⟩;refine gS0 ?_;refine jA (sk (sd s0)) 6 [5] [5] (go3 ?_);refine pQ O (aW aH (fI r8 a) O) (pQ O (jI zpT plT O (.cons [cw r8.x.1,cw r8.y.1,cw r8.z.1] [cw r8.x.1,cw r8.y.1,cw r8.z.1,cw 0] O O O O (.cons [cw ((oQ r8 a).1)] [cw r8.x.1,cw r8.y.1,cw r8.z.1,cw ((oQ r8 a).1)] O O O O (.nil _)))) (go3 ?_));refine rtX O (iC O m1 tyT O) ?_;exact (by subst_vars;rfl)
theorem i5 (vl:Value) (l:(List (A3 W))) (p:HPl) (w:World) (hl:Slr w elV vl l) :
    Calls prog 137 [vl,AV [cw p.n.x.1,cw p.n.y.1,cw p.n.z.1,cw p.d.1]].toArray w (fun e w'=>e = .returned (.bool (gR l p))∧Ext w w'):=by
 obtain ⟨p_l,c_l,rfl⟩:=hl.form;refine cV (N:=33) func137 O O zz_ ?_;obtain ⟨w0,rfl⟩:=nm w;have Hl:=hl.old;have hm_l:=hl.max;refine giI ?_;refine go2 ?_;intro b1 hb1;refine go8 ?_;refine sQ (bX cC O (SLe.sub Hl sn)) O (go2 ?_);refine gJ3 (rg [4,5,7,8] 11 20) (fun g M=>∃ (all:Bool) (k:Nat),(iX l p (l.length+1) true 0) = .inl (all,k)∧(g 5 = .bool all∧g 11 = .int .i64 (k:Int))∧M=[⟨b1,125,aV [cw p.n.x.1,cw p.n.y.1,cw p.n.z.1,cw p.d.1]⟩]) (fun K_u2 hK_u2=>?_) ?_
 ·refine go_ ?_;refine cE (rg [4,5,7,8] 11 20) (fun g nn M=>∃ (all:Bool) (k:Nat),(iX l p nn all k)=(iX l p (l.length+1) true 0)∧l.length - k<nn∧(k≤l.length)∧(g 5 = .bool all∧g 11 = .int .i64 (k:Int))∧M=[⟨b1,125,aV [cw p.n.x.1,cw p.n.y.1,cw p.n.z.1,cw p.d.1]⟩]) (l.length+1) ?start ?round
  case start=>exact ⟨_,s0,true,0,rfl,oo_,oo_,⟨rfl,rfl⟩,rfl⟩
  case round =>
   rintro nn g M ⟨all,k,hT0,hq0,hinv0,⟨hg5,hg11⟩,rfl⟩;obtain ⟨k0,rfl⟩:∃ m,nn=m+1:=⟨nn - 1,by omega⟩;refine gS2 hg5 hg11 ?_;clear hg5 hg11;refine go4 ?_;refine aT _ O (fun h11=>?_) (fun h11=>?_)
   ·have ph11:=of_decide_eq_true h11;refine go4 ?_;refine sQ (aE (v':=.pointer (some (slb (.slice p_l l.length c_l) (k*3+0)))) (aJ (e:=elV) (l:=l) (k:=k) cC O O (SLe.sub Hl sn) o2_) O) O ?_;refine sQ (bJ (e:=elV) (l:=l) (k:=k) (o:=0) tyT O (SLe.sub Hl sn) (aF A30 o2_) O) O ?_;refine go_ ?_;intro b12 hb12;refine go6 ?_;refine sQ (aW aH (fI p.n (l.getD k A30)) O) O (go9 ?_);refine aT _ O (fun h13=>?_) (fun h13=>?_)
    ·have ph13:=of_decide_eq_true h13;refine go4 ?_;refine rt1 ?_;exact congrArg vS0 (show _=(gR l p) from (wX O (hT0.symm.trans (Eq.symm (bS h11 (bS h13 O))))))
    have ph13:=of_decide_eq_false h13;refine go3 ?_;refine sBB O (fun h14=>?_) (fun h14=>?_)
    ·refine go8 ?_;refine sWi (((k+1):Nat):Int) O (go2 ?_);refine ⟨pp_,_,_,(sd s0),(Nat.lt_succ_self _),((oQ p.n (l.getD k A30)).1==p.d.1),(k+1),(by exact (hT0.symm.trans (Eq.symm (bS h11 (bH h13 (bS h14 O))))).symm),(Nat.lt_of_lt_of_le oo_ (Nat.le_of_lt_succ hq0)),oo_,⟨rfl,rfl⟩,rfl⟩
    refine go8 ?_;refine sWi (((k+1):Nat):Int) O (go2 ?_);refine ⟨pp_,_,_,(sd s0),(Nat.lt_succ_self _),false,(k+1),(by exact (hT0.symm.trans (Eq.symm (bS h11 (bH h13 (bH h14 O))))).symm),(Nat.lt_of_lt_of_le oo_ (Nat.le_of_lt_succ hq0)),oo_,⟨rfl,rfl⟩,rfl⟩
   have ph11:=of_decide_eq_false h11;refine go_ ?_;refine hK_u2 _ _ pp_ ⟨_,s0,all,k,(by exact hT0.symm.trans (Eq.symm (bH h11 O))),⟨rfl,rfl⟩,rfl⟩
 rintro g M ⟨all,k,hCu2,⟨hg5,hg11⟩,rfl⟩;refine gS2 hg5 hg11 ?_;clear hg5 hg11;refine go6 ?_;refine rt1 ?_;exact congrArg vS0 (show _=(gR l p) from trs (Eq.symm (smS hCu2)) O)
theorem gZ (n:(A3 W)) (a:(A3 W)) (b:(A3 W)) :
   Ret prog 143 [AV [cw n.x.1,cw n.y.1,cw n.z.1],AV [cw a.x.1,cw a.y.1,cw a.z.1],AV [cw b.x.1,cw b.y.1,cw b.z.1]] (.int .i64 ((q8 n a b).1)):=by
 refine bG (N:=28) func143 O O zz_ (fun w0=>?_);refine giI ?_;refine go2 ?_;intro b1 hb1;refine go_ ?_;intro b2 hb2;refine go_ ?_;intro b3 hb3;refine go5 ?_;refine sQ (aW aH (lR a b) O) O (go_ ?_);intro b4 hb4;refine go2 ?_;refine fQ (sk (sd (sd s0))) ?_;refine go6 ?_;refine i4 5 (go2 ?_);refine sV (.bool true) O O (QW ?_);refine aT _ O (fun h5=>?_) (fun h5=>?_)
 ·refine go4 ?_;refine sQ (aW aH (fY ((gO a b).x) (wl 0)) O) O ?_;refine go_ ?_;refine sQ (aW aH (fY n.x (wl 0)) O) O ?_;refine sV (.int .i64 ((W.mul (aY ((gO a b).x) (wl 0)) (aY n.x (wl 0))).1)) O O ?_;refine go3 ?_;refine rt1 ?_;exact congrArg vS5 (show _=(q8 n a b) from bS h5 O)
 refine go2 ?_;refine sV (.int .i64 1) O O (go4 ?_);refine sV (.bool true) O O (QW ?_);refine aT _ O (fun h6=>?_) (fun h6=>?_)
 ·refine go4 ?_;refine sQ (aW aH (fY ((gO a b).y) (wl 0)) O) O ?_;refine go_ ?_;refine sQ (aW aH (fY n.y (wl 0)) O) O ?_;refine sV (.int .i64 ((W.mul (aY ((gO a b).y) (wl 0)) (aY n.y (wl 0))).1)) O O ?_;refine go3 ?_;refine rt1 ?_;exact congrArg vS5 (show _=(q8 n a b) from bH h5 (bS h6 O))
 refine go2 ?_;refine sV (.int .i64 2) O O (go4 ?_);refine sV (.bool true) O O (QW ?_);refine aT _ O (fun h7=>?_) (fun h7=>?_)
 ·refine go4 ?_;refine sQ (aW aH (fY ((gO a b).z) (wl 0)) O) O ?_;refine go_ ?_;refine sQ (aW aH (fY n.z (wl 0)) O) O ?_;refine sV (.int .i64 ((W.mul (aY ((gO a b).z) (wl 0)) (aY n.z (wl 0))).1)) O O ?_;refine go3 ?_;refine rt1 ?_;exact congrArg vS5 (show _=(q8 n a b) from bH h5 (bH h6 (bS h7 O)))
 refine go2 ?_;refine sV (.int .i64 3) O O (go4 ?_);refine sV (.bool false) O O (go8 ?_);refine rt1 ?_;exact congrArg vS5 (show _=(q8 n a b) from bH h5 (bH h6 (bH h7 O)))
theorem A6 (a:HPl) (b:HPl) :
  Ret prog 139 [AV [cw a.n.x.1,cw a.n.y.1,cw a.n.z.1,cw a.d.1],AV [cw b.n.x.1,cw b.n.y.1,cw b.n.z.1,cw b.d.1]] (.int .i64 ((wE a b).1)):=by
 refine bG (N:=28) func139 O O zz_ (fun w0=>?_);refine giI ?_;refine go2 ?_;intro b1 hb1;refine go_ ?_;intro b2 hb2;refine go2 ?_;refine gds s0 [0,4,8,12,16,20,24,28,32,36,40,44,48,52,56,60,64,68,72,76,80,85,88,92] [] mix (by kernel_rfl) (go6 ?_);refine pQ O (aW aH (fY a.n.x b.n.x) O) (go6 ?_);refine pQ O (aW aH (fY a.n.y b.n.y) O) (go6 ?_);refine pQ O (aW aH (fY a.n.z b.n.z) O) (dC O O (bZ [[cw ((aY a.n.x b.n.x).1)],[cw ((aY a.n.y b.n.y).1)],[cw ((aY a.n.z b.n.z).1)]] [cw ((aY a.n.x b.n.x).1),cw ((aY a.n.y b.n.y).1),cw ((aY a.n.z b.n.z).1)] fG z_3 mR O dd_ O O ⟨rfl,rfl,rfl,rfl,rfl,rfl,rfl,rfl,rfl,trivial⟩ O (fun b3 hb3=>⟨(fun _=>sd s0),(sd s0),?_⟩)));obtain ⟨r4,hr4⟩:=nm ((sD [(aY a.n.x b.n.x),(aY a.n.y b.n.y),(aY a.n.z b.n.z)]):W);refine pQ O (aE (v':=.int .i64 r4.1) (eH aH O (fun w hw=>GE _ [(aY a.n.x b.n.x),(aY a.n.y b.n.y),(aY a.n.z b.n.z)] w (SLe.ap hw (SLe.lit (e:=elW) (l:=[(aY a.n.x b.n.x),(aY a.n.y b.n.y),(aY a.n.z b.n.z)]) m0 O (Nat.le_of_ble_eq_true O) O)))) (by rw [hr4];first|done|rfl)) (go3 ?_);refine rt1 ?_;exact (by obtain rfl:=hr4.symm;rfl)
theorem A7 (a:(A3 W)) (b:(A3 W)) :
  Ret prog 131 [AV [cw a.x.1,cw a.y.1,cw a.z.1],AV [cw b.x.1,cw b.y.1,cw b.z.1]] (.int .i64 ((wF a b).1)):=by
 refine bG (N:=22) func131 O O zz_ (fun w0=>?_);refine giI ?_;refine go2 ?_;intro b1 hb1;refine go_ ?_;intro b2 hb2;refine go2 ?_;refine gds s0 [0,4,8,12,16,20,24,28,32,36,40,44,48,52,56,61,64,68] [] mix (by kernel_rfl) (go4 ?_);refine pQ O (aW aH (fY a.x b.x) O) (go4 ?_);refine pQ O (aW aH (fY a.y b.y) O) (go4 ?_);refine pQ O (aW aH (fY a.z b.z) O) (dC O O (bZ [[cw ((aY a.x b.x).1)],[cw ((aY a.y b.y).1)],[cw ((aY a.z b.z).1)]] [cw ((aY a.x b.x).1),cw ((aY a.y b.y).1),cw ((aY a.z b.z).1)] fG z_3 mR O dd_ O O ⟨rfl,rfl,rfl,rfl,rfl,rfl,rfl,rfl,rfl,trivial⟩ O (fun b3 hb3=>⟨(fun _=>sd s0),(sd s0),?_⟩)));obtain ⟨r4,hr4⟩:=nm ((sD [(aY a.x b.x),(aY a.y b.y),(aY a.z b.z)]):W);refine pQ O (aE (v':=.int .i64 r4.1) (eH aH O (fun w hw=>GE _ [(aY a.x b.x),(aY a.y b.y),(aY a.z b.z)] w (SLe.ap hw (SLe.lit (e:=elW) (l:=[(aY a.x b.x),(aY a.y b.y),(aY a.z b.z)]) m0 O (Nat.le_of_ble_eq_true O) O)))) (by rw [hr4];first|done|rfl)) (go3 ?_);refine rt1 ?_;exact (by obtain rfl:=hr4.symm;rfl)
theorem Q3 {w0:World} {X:List Nat} {M1:List Blk} {w:World} {p_d:Option Addr} {c_d:Nat} {d:List HPl} {L_d:List Blk} {n:Int} (hw:Sat w0 X (L_d++M1) w) (hO_d:OwnG w0 125 elHP (.slice p_d d.length c_d) d L_d) (hn:n=(d.length:Int)) (hpre:d.length≤12) :
    Calls prog 207 [.slice p_d d.length c_d,.int .i64 0,.int .i64 n,.func (.func 139) #[] #[]].toArray w fun e w'=>∃ v M',e = .returned v∧Sat w0 X M' w'∧KeepsOthers w w'∧(v = .tuple #[]∧∃ L',OwnG w0 125 elHP (.slice p_d d.length c_d) (mT d) L'∧M'=L'++M1):=by
 have hw:Sat w0 X (L_d++(M1++[])) w:=by rw [List.append_nil];exact hw
 subst hn;refine gU (N:=53) func207 O O zz_ hw ?_;have hm_d:=hO_d.max;refine giI ?_;refine go2 ?_;refine sV (.int .i64 1) O O (go3 ?_);refine cE (rg [8,9] 12 41) (fun g nn M=>∃ (i:Nat) (o:List HPl) (L_o:List Blk),(mU d nn i o)=(mU d (d.length+1) 1 d)∧d.length - i<nn∧(1≤i∧o.length=d.length)∧(g 8 = .int .i64 (i:Int)∧OwnG w0 125 elHP (.slice p_d d.length c_d) o L_o)∧M=(L_o++(M1++[]))) (d.length+1) ?start ?round
 case start=>exact ⟨_,s0,1,d,L_d,rfl,oo_,oo_,⟨rfl,hO_d⟩,rfl⟩
 case round =>
  rintro nn g M ⟨i,o,L_o,hT0,hq0,hinv0,⟨hg8,hO_o⟩,rfl⟩;obtain ⟨k0,rfl⟩:∃ m,nn=m+1:=⟨nn - 1,by omega⟩;refine gS1 hg8 ?_;clear hg8;have hm_o:=OwnG.max hO_o;refine go6 ?_;refine aT _ O (fun h42=>?_) (fun h42=>?_)
  ·have ph42:=of_decide_eq_true h42;refine go7 ?_;refine gJ3 (rg [9] 18 35) (fun g M=>∃ (j:Nat) (u:List HPl) (L_u:List Blk),(mV d i o (i+1) i o)=(j,u)∧(u.length=o.length)∧(g 9 = .int .i64 (j:Int)∧OwnG w0 125 elHP (.slice p_d d.length c_d) u L_u)∧M=(L_u++(M1++[]))) (fun K_u43 hK_u43=>?_) ?_
   ·refine go_ ?_;refine cE (rg [9] 18 35) (fun g nn M=>∃ (j:Nat) (u:List HPl) (L_u:List Blk),(mV d i o nn j u)=(mV d i o (i+1) i o)∧j<nn∧(j≤i∧u.length=o.length)∧(g 9 = .int .i64 (j:Int)∧OwnG w0 125 elHP (.slice p_d d.length c_d) u L_u)∧M=(L_u++(M1++[]))) (i+1) ?start ?round
    case start=>exact ⟨_,s0,i,o,L_o,rfl,oo_,oo_,⟨rfl,hO_o⟩,rfl⟩
    case round =>
     rintro nn g M ⟨j,u,L_u,hT1,hq1,hinv1,⟨hg9,hO_u⟩,rfl⟩;obtain ⟨k1,rfl⟩:∃ m,nn=m+1:=⟨nn - 1,by omega⟩;refine gS1 hg9 ?_;clear hg9;have hm_u:=OwnG.max hO_u;refine go_ ?_;refine gds s0 [0,4,8,12,16,20,24,28,32,36,40,44,48,52,56,60,64] [] mix (by kernel_rfl) (go3 ?_);refine pBB O (fun h56=>?_) (fun h56=>?_)
     ·have ph56:=of_decide_eq_true h56;refine go3 ?_;refine pQ O (aE (v':=.pointer (some (slb (.slice p_d d.length c_d) (j*4+0)))) (aJ (e:=elHP) (l:=u) (k:=j) iV O O (rO hO_u lZ) o2_) O) ?_;refine pQ O (bJ (e:=elHP) (l:=u) (k:=j) (o:=0) tyT O (rO hO_u lZ) (aF rH o2_) O) ?_;refine go2 ?_;refine pV (.int .i64 (((j - 1):Nat):Int)) O wxo (pQ O (aE (v':=.pointer (some (slb (.slice p_d d.length c_d) ((j - 1)*4+0)))) (aJ (e:=elHP) (l:=u) (k:=(j - 1)) iV O O (rO hO_u lZ) o2_) O) ?_);refine pQ O (bJ (e:=elHP) (l:=u) (k:=(j - 1)) (o:=0) tyT O (rO hO_u lZ) (aF rH o2_) O) ?_;refine pQ O (Z1 aH O (A6 (u.getD j rH) (u.getD (j - 1) rH)) O) (go3 ?_);refine aT _ O (fun h57=>?_) (fun h57=>?_)
      ·have ph57:=of_decide_eq_true h57;refine go3 ?_;refine gdr (sR s0) [0,4,20,24,28,32,36,40,44,48,52,56,10,14,18,61,64,69] [15,17] mix (by kernel_rfl) (go4 ?_);refine pV (.int .i64 (((j - 1):Nat):Int)) O wxo (pQ O (aE (v':=.pointer (some (slb (.slice p_d d.length c_d) ((j - 1)*4+0)))) (aJ (e:=elHP) (l:=u) (k:=(j - 1)) iV O O (rO hO_u lZ) o2_) O) ?_);refine pQ O (bJ (e:=elHP) (l:=u) (k:=(j - 1)) (o:=0) tyT O (rO hO_u lZ) (aF rH o2_) O) ?_;refine go2 ?_;refine pQ O (aE (v':=.pointer (some (slb (.slice p_d d.length c_d) (j*4+0)))) (aJ (e:=elHP) (l:=u) (k:=j) iV O O (rO hO_u lZ) o2_) O) ?_;refine pQ O (bJ (e:=elHP) (l:=u) (k:=j) (o:=0) tyT O (rO hO_u lZ) (aF rH o2_) O) ?_;refine pQ O (aE (v':=.pointer (some (slb (.slice p_d d.length c_d) (j*4+0)))) (aJ (e:=elHP) (l:=u) (k:=j) iV O O (rO hO_u lZ) o2_) O) ?_;refine go2 ?_;refine tV (.int .i64 (((j - 1):Nat):Int)) O wxo (dC O O (jC (e:=elHP) (l:=u) (k:=j) (z:=(u.getD (j - 1) rH)) tyT O O hO_u o2_ vS O O (fun L58 hO59=>⟨nf,(sR s0),?_⟩)));refine pQ O (aE (v':=.pointer (some (slb (.slice p_d d.length c_d) ((j - 1)*4+0)))) (aJ (e:=elHP) (l:=(u.set j (u.getD (j - 1) rH))) (k:=(j - 1)) iV O O (rO hO59 lZ) o2_) O) ?_;refine dC O O (jC (e:=elHP) (l:=(u.set j (u.getD (j - 1) rH))) (k:=(j - 1)) (z:=(u.getD j rH)) tyT O O hO59 o2_ vS O O (fun L60 hO61=>⟨nf,(sR s0),?_⟩));refine go3 ?_;refine sWi (((j - 1):Nat):Int) O (go2 ?_);refine ⟨pp_,_,_,s0,(Nat.lt_succ_self _),(j - 1),((u.set j (u.getD (j - 1) rH)).set (j - 1) (u.getD j rH)),L60,(by exact (hT1.symm.trans (Eq.symm (bS h56 (bS h57 O)))).symm),(Nat.lt_of_lt_of_le oo_ (Nat.le_of_lt_succ hq1)),(by first|omega|(simp only [List.length_set]<;>omega)),⟨rfl,hO61⟩,rfl⟩
      have ph57:=of_decide_eq_false h57;refine go_ ?_;refine hK_u43 _ _ pp_ ⟨_,s0,j,u,L_u,(by exact hT1.symm.trans (Eq.symm (bS h56 (bH h57 O)))),oo_,⟨rfl,hO_u⟩,rfl⟩
     have ph56:=of_decide_eq_false h56;refine QW ?_;refine hK_u43 _ _ pp_ ⟨_,s0,j,u,L_u,(by exact hT1.symm.trans (Eq.symm (bH h56 O))),oo_,⟨rfl,hO_u⟩,rfl⟩
   rintro g M ⟨j,u,L_u,hCu43,hPu43,⟨hg9,hO_u⟩,rfl⟩;refine gS1 hg9 ?_;clear hg9;have hm_u:=OwnG.max hO_u;refine go2 ?_;refine sWi (((i+1):Nat):Int) O (go2 ?_);refine ⟨pp_,_,_,s0,(Nat.lt_succ_self _),(i+1),u,L_u,(by exact (hT0.symm.trans (Eq.symm (bS h42 (trs (Eq.symm (apS hCu43)) O)))).symm),(Nat.lt_of_lt_of_le oo_ (Nat.le_of_lt_succ hq0)),(by first|omega|(simp only [List.length_set]<;>omega)),⟨rfl,hO_u⟩,rfl⟩
  have ph42:=of_decide_eq_false h42;refine go_ ?_
  have hCu1:(mU d (d.length+1) 1 d)=(i,o):=by exact hT0.symm.trans (Eq.symm (bH h42 O))
  refine zA O (.inl O) ?_
  have hE:(o:List HPl)=(mT d):=by exact (by unfold mT;exact trs (Eq.symm (apS hCu1)) O)
  exact ⟨rfl,_,hE ▸ hO_o,by rw [List.append_nil]⟩
theorem Q4 {w0:World} {X:List Nat} {M1:List Blk} {w:World} {p_d:Option Addr} {c_d:Nat} {d:List (A3 W)} {L_d:List Blk} {n:Int} (hw:Sat w0 X (L_d++M1) w) (hO_d:OwnG w0 75 elV (.slice p_d d.length c_d) d L_d) (hn:n=(d.length:Int)) (hpre:d.length≤12) :
    Calls prog 223 [.slice p_d d.length c_d,.int .i64 0,.int .i64 n,.func (.func 131) #[] #[]].toArray w fun e w'=>∃ v M',e = .returned v∧Sat w0 X M' w'∧KeepsOthers w w'∧(v = .tuple #[]∧∃ L',OwnG w0 75 elV (.slice p_d d.length c_d) (n6 d) L'∧M'=L'++M1):=by
 have hw:Sat w0 X (L_d++(M1++[])) w:=by rw [List.append_nil];exact hw
 subst hn;refine gU (N:=53) func223 O O zz_ hw ?_;have hm_d:=hO_d.max;refine giI ?_;refine go2 ?_;refine sV (.int .i64 1) O O (go3 ?_);refine cE (rg [8,9] 12 41) (fun g nn M=>∃ (i:Nat) (o:List (A3 W)) (L_o:List Blk),(mW d nn i o)=(mW d (d.length+1) 1 d)∧d.length - i<nn∧(1≤i∧o.length=d.length)∧(g 8 = .int .i64 (i:Int)∧OwnG w0 75 elV (.slice p_d d.length c_d) o L_o)∧M=(L_o++(M1++[]))) (d.length+1) ?start ?round
 case start=>exact ⟨_,s0,1,d,L_d,rfl,oo_,oo_,⟨rfl,hO_d⟩,rfl⟩
 case round =>
  rintro nn g M ⟨i,o,L_o,hT0,hq0,hinv0,⟨hg8,hO_o⟩,rfl⟩;obtain ⟨k0,rfl⟩:∃ m,nn=m+1:=⟨nn - 1,by omega⟩;refine gS1 hg8 ?_;clear hg8;have hm_o:=OwnG.max hO_o;refine go6 ?_;refine aT _ O (fun h42=>?_) (fun h42=>?_)
  ·have ph42:=of_decide_eq_true h42;refine go7 ?_;refine gJ3 (rg [9] 18 35) (fun g M=>∃ (j:Nat) (u:List (A3 W)) (L_u:List Blk),(mX d i o (i+1) i o)=(j,u)∧(u.length=o.length)∧(g 9 = .int .i64 (j:Int)∧OwnG w0 75 elV (.slice p_d d.length c_d) u L_u)∧M=(L_u++(M1++[]))) (fun K_u43 hK_u43=>?_) ?_
   ·refine go_ ?_;refine cE (rg [9] 18 35) (fun g nn M=>∃ (j:Nat) (u:List (A3 W)) (L_u:List Blk),(mX d i o nn j u)=(mX d i o (i+1) i o)∧j<nn∧(j≤i∧u.length=o.length)∧(g 9 = .int .i64 (j:Int)∧OwnG w0 75 elV (.slice p_d d.length c_d) u L_u)∧M=(L_u++(M1++[]))) (i+1) ?start ?round
    case start=>exact ⟨_,s0,i,o,L_o,rfl,oo_,oo_,⟨rfl,hO_o⟩,rfl⟩
    case round =>
     rintro nn g M ⟨j,u,L_u,hT1,hq1,hinv1,⟨hg9,hO_u⟩,rfl⟩;obtain ⟨k1,rfl⟩:∃ m,nn=m+1:=⟨nn - 1,by omega⟩;refine gS1 hg9 ?_;clear hg9;have hm_u:=OwnG.max hO_u;refine go_ ?_;refine gds s0 [0,4,8,12,16,20,24,28,32,36,40,44,48,52,56,60,64] [] mix (by kernel_rfl) (go3 ?_);refine pBB O (fun h56=>?_) (fun h56=>?_)
     ·have ph56:=of_decide_eq_true h56;refine go3 ?_;refine pQ O (aE (v':=.pointer (some (slb (.slice p_d d.length c_d) (j*3+0)))) (aJ (e:=elV) (l:=u) (k:=j) cC O O (rO hO_u lZ) o2_) O) ?_;refine pQ O (bJ (e:=elV) (l:=u) (k:=j) (o:=0) tyT O (rO hO_u lZ) (aF A30 o2_) O) ?_;refine go2 ?_;refine pV (.int .i64 (((j - 1):Nat):Int)) O wxo (pQ O (aE (v':=.pointer (some (slb (.slice p_d d.length c_d) ((j - 1)*3+0)))) (aJ (e:=elV) (l:=u) (k:=(j - 1)) cC O O (rO hO_u lZ) o2_) O) ?_);refine pQ O (bJ (e:=elV) (l:=u) (k:=(j - 1)) (o:=0) tyT O (rO hO_u lZ) (aF A30 o2_) O) ?_;refine pQ O (Z1 aH O (A7 (u.getD j A30) (u.getD (j - 1) A30)) O) (go3 ?_);refine aT _ O (fun h57=>?_) (fun h57=>?_)
      ·have ph57:=of_decide_eq_true h57;refine go3 ?_;refine gdr (sR s0) [0,4,20,24,28,32,36,40,44,48,52,56,10,14,18,61,64,69] [15,17] mix (by kernel_rfl) (go4 ?_);refine pV (.int .i64 (((j - 1):Nat):Int)) O wxo (pQ O (aE (v':=.pointer (some (slb (.slice p_d d.length c_d) ((j - 1)*3+0)))) (aJ (e:=elV) (l:=u) (k:=(j - 1)) cC O O (rO hO_u lZ) o2_) O) ?_);refine pQ O (bJ (e:=elV) (l:=u) (k:=(j - 1)) (o:=0) tyT O (rO hO_u lZ) (aF A30 o2_) O) ?_;refine go2 ?_;refine pQ O (aE (v':=.pointer (some (slb (.slice p_d d.length c_d) (j*3+0)))) (aJ (e:=elV) (l:=u) (k:=j) cC O O (rO hO_u lZ) o2_) O) ?_;refine pQ O (bJ (e:=elV) (l:=u) (k:=j) (o:=0) tyT O (rO hO_u lZ) (aF A30 o2_) O) ?_;refine pQ O (aE (v':=.pointer (some (slb (.slice p_d d.length c_d) (j*3+0)))) (aJ (e:=elV) (l:=u) (k:=j) cC O O (rO hO_u lZ) o2_) O) ?_;refine go2 ?_;refine tV (.int .i64 (((j - 1):Nat):Int)) O wxo (dC O O (jC (e:=elV) (l:=u) (k:=j) (z:=(u.getD (j - 1) A30)) tyT O O hO_u o2_ vS O O (fun L58 hO59=>⟨nf,(sR s0),?_⟩)));refine pQ O (aE (v':=.pointer (some (slb (.slice p_d d.length c_d) ((j - 1)*3+0)))) (aJ (e:=elV) (l:=(u.set j (u.getD (j - 1) A30))) (k:=(j - 1)) cC O O (rO hO59 lZ) o2_) O) ?_;refine dC O O (jC (e:=elV) (l:=(u.set j (u.getD (j - 1) A30))) (k:=(j - 1)) (z:=(u.getD j A30)) tyT O O hO59 o2_ vS O O (fun L60 hO61=>⟨nf,(sR s0),?_⟩));refine go3 ?_;refine sWi (((j - 1):Nat):Int) O (go2 ?_);refine ⟨pp_,_,_,s0,(Nat.lt_succ_self _),(j - 1),((u.set j (u.getD (j - 1) A30)).set (j - 1) (u.getD j A30)),L60,(by exact (hT1.symm.trans (Eq.symm (bS h56 (bS h57 O)))).symm),(Nat.lt_of_lt_of_le oo_ (Nat.le_of_lt_succ hq1)),(by first|omega|(simp only [List.length_set]<;>omega)),⟨rfl,hO61⟩,rfl⟩
      have ph57:=of_decide_eq_false h57;refine go_ ?_;refine hK_u43 _ _ pp_ ⟨_,s0,j,u,L_u,(by exact hT1.symm.trans (Eq.symm (bS h56 (bH h57 O)))),oo_,⟨rfl,hO_u⟩,rfl⟩
     have ph56:=of_decide_eq_false h56;refine QW ?_;refine hK_u43 _ _ pp_ ⟨_,s0,j,u,L_u,(by exact hT1.symm.trans (Eq.symm (bH h56 O))),oo_,⟨rfl,hO_u⟩,rfl⟩
   rintro g M ⟨j,u,L_u,hCu43,hPu43,⟨hg9,hO_u⟩,rfl⟩;refine gS1 hg9 ?_;clear hg9;have hm_u:=OwnG.max hO_u;refine go2 ?_;refine sWi (((i+1):Nat):Int) O (go2 ?_);refine ⟨pp_,_,_,s0,(Nat.lt_succ_self _),(i+1),u,L_u,(by exact (hT0.symm.trans (Eq.symm (bS h42 (trs (Eq.symm (apS hCu43)) O)))).symm),(Nat.lt_of_lt_of_le oo_ (Nat.le_of_lt_succ hq0)),(by first|omega|(simp only [List.length_set]<;>omega)),⟨rfl,hO_u⟩,rfl⟩
  have ph42:=of_decide_eq_false h42;refine go_ ?_
  have hCu1:(mW d (d.length+1) 1 d)=(i,o):=by exact hT0.symm.trans (Eq.symm (bH h42 O))
  refine zA O (.inl O) ?_
  have hE:(o:List (A3 W))=(n6 d):=by exact (by unfold n6;exact trs (Eq.symm (apS hCu1)) O)
  exact ⟨rfl,_,hE ▸ hO_o,by rw [List.append_nil]⟩
theorem rJ:Go.Maps.Keyed prog 125:=Go.Maps.Keyed.of_law (Go.deep_law_laid (by kernel_rfl) (m:=prog.types.size+1) (Nat.le_of_ble_eq_true (by kernel_rfl)) (Nat.le_of_ble_eq_true (by kernel_rfl)) (by kernel_rfl) (by kernel_rfl))
theorem qK:prog.underlying 164=some (.map 125 4):=by kernel_rfl
theorem PU:prog.underlying 4=some .bool:=by kernel_rfl
theorem DR:(prog.info? 4).bind (·.zero)=some (.bool false):=by kernel_rfl
theorem bC_:wO prog 130=some .u64:=by kernel_rfl
theorem cI_:wO prog 5=some .u8:=by kernel_rfl
theorem fn_:wO prog 3=some .i64:=by kernel_rfl
theorem fT_:prog.underlying 9=some .string:=by kernel_rfl
theorem bF_:Ret prog 216 [.int .u64 4] (.int .i64 3):=by
 refine bG (N:=25) func216 O O zz_ (fun w0=>?_);refine giI ?_
 repeat refine go_ ?_
 refine sQ (aE (v':=.int .u8 ((4:Nat):Int)) (dD bC_ cI_ O) O) O ?_;refine sQ (aE (v':=.int .u8 3) (GL (n:=256) bl fT_ O O dd_ (by decide +kernel)) O) O ?_;refine sQ (aE (v':=.int .i64 3) (dD cI_ fn_ O) O) O ?_
 repeat refine go_ ?_
 exact ad_ O (.inr O) O O
theorem cM_:Ret prog 180 [.int .u64 4] (.int .i64 3):=by
 refine bG (N:=8) func180 O O zz_ (fun w0=>?_);refine giI ?_
 repeat refine go_ ?_
 refine sQ (aW (by rfl) bF_ O) O ?_
 repeat refine go_ ?_
 exact ad_ O (.inr O) O O
theorem ZT {w0:World} {X:List Nat} {M1:List Blk} {w:World} {p_d:Option Addr} {c_d:Nat} {d:List HPl} {L_d:List Blk} {n:Int} {x:W} (hw:Sat w0 X (L_d++M1) w) (hO_d:OwnG w0 125 elHP (.slice p_d d.length c_d) d L_d) (hn:n=(d.length:Int)) (hpre:d.length≤12) :
  Calls prog 179 [.slice p_d d.length c_d,.int .i64 0,.int .i64 n,.int .i64 x.1,.func (.func 139) #[] #[]].toArray w fun e w'=>∃ v M',e = .returned v∧Sat w0 X M' w'∧KeepsOthers w w'∧(v = .tuple #[]∧∃ L',OwnG w0 125 elHP (.slice p_d d.length c_d) (mT d) L'∧M'=L'++M1):=by
 have hw:Sat w0 X (L_d++(M1++[])) w:=by rw [List.append_nil];exact hw
 subst hn;refine gU (N:=148) func179 O O zz_ hw ?_;have hm_d:=hO_d.max;refine giI ?_;refine go7 ?_;refine i4 2 (go5 ?_);refine sWi ((d.length:Int) - 0) O (go7 ?_);refine W_t (decide_eq_true oo_) O (go5 ?_);refine aQ O (yY aH O (fun w hw=>Q3 hw hO_d (by first|rfl|(rw [hpre];rfl)) oo_) (fun L1 hO2=>?_));refine go2 ?_;refine zA O (.inr O) ?_
 have hE:((mT d):List HPl)=(mT d):=by exact rfl
 exact ⟨rfl,_,hE ▸ hO2,by rw [List.append_nil]⟩
theorem VZ {w0:World} {X:List Nat} {M1:List Blk} {w:World} {p_d:Option Addr} {c_d:Nat} {d:List HPl} {L_d:List Blk} (hw:Sat w0 X (L_d++M1) w) (hO_d:OwnG w0 125 elHP (.slice p_d d.length c_d) d L_d) (hpre:d.length=4) :
  Calls prog 138 [.slice p_d d.length c_d,.func (.func 139) #[] #[]].toArray w fun e w'=>∃ v M',e = .returned v∧Sat w0 X M' w'∧KeepsOthers w w'∧(v = .tuple #[]∧∃ L',OwnG w0 125 elHP (.slice p_d d.length c_d) (mT d) L'∧M'=L'++M1):=by
 have hw:Sat w0 X (L_d++(M1++[])) w:=by rw [List.append_nil];exact hw
 refine gU (N:=14) func138 O O zz_ hw ?_;have hm_d:=hO_d.max;refine giI ?_;refine go2 ?_;refine sQ (aE (v':=.int .i64 4) (bX iV O (rO hO_d lZ)) (by rw [hpre];rfl)) O (go6 ?_);refine sQ (aE (v':=.int .u64 4) (dD y9 YT O) O) O (sQ (aW aH cM_ O) O (go_ ?_));refine aQ O (yY aH O (fun w hw=>ZT (x:=(wl 3)) hw hO_d (by first|rfl|(rw [hpre];rfl)) oo_) (fun L1 hO2=>?_));refine go_ ?_;refine zA O (.inl O) ?_
 have hE:((mT d):List HPl)=(mT d):=by exact rfl
 exact ⟨rfl,_,hE ▸ hO2,by rw [List.append_nil]⟩
theorem ZU {w0:World} {X:List Nat} {M1:List Blk} {w:World} {p_d:Option Addr} {c_d:Nat} {d:List (A3 W)} {L_d:List Blk} {n:Int} {x:W} (hw:Sat w0 X (L_d++M1) w) (hO_d:OwnG w0 75 elV (.slice p_d d.length c_d) d L_d) (hn:n=(d.length:Int)) (hpre:d.length≤12) :
  Calls prog 206 [.slice p_d d.length c_d,.int .i64 0,.int .i64 n,.int .i64 x.1,.func (.func 131) #[] #[]].toArray w fun e w'=>∃ v M',e = .returned v∧Sat w0 X M' w'∧KeepsOthers w w'∧(v = .tuple #[]∧∃ L',OwnG w0 75 elV (.slice p_d d.length c_d) (n6 d) L'∧M'=L'++M1):=by
 have hw:Sat w0 X (L_d++(M1++[])) w:=by rw [List.append_nil];exact hw
 subst hn;refine gU (N:=148) func206 O O zz_ hw ?_;have hm_d:=hO_d.max;refine giI ?_;refine go7 ?_;refine i4 2 (go5 ?_);refine sWi ((d.length:Int) - 0) O (go7 ?_);refine W_t (decide_eq_true oo_) O (go5 ?_);refine aQ O (yY aH O (fun w hw=>Q4 hw hO_d (by first|rfl|(rw [hpre];rfl)) oo_) (fun L1 hO2=>?_));refine go2 ?_;refine zA O (.inr O) ?_
 have hE:((n6 d):List (A3 W))=(n6 d):=by exact rfl
 exact ⟨rfl,_,hE ▸ hO2,by rw [List.append_nil]⟩
theorem V0 {w0:World} {X:List Nat} {M1:List Blk} {w:World} {p_d:Option Addr} {c_d:Nat} {d:List (A3 W)} {L_d:List Blk} (hw:Sat w0 X (L_d++M1) w) (hO_d:OwnG w0 75 elV (.slice p_d d.length c_d) d L_d) (hpre:d.length=4) :
  Calls prog 175 [.slice p_d d.length c_d,.func (.func 131) #[] #[]].toArray w fun e w'=>∃ v M',e = .returned v∧Sat w0 X M' w'∧KeepsOthers w w'∧(v = .tuple #[]∧∃ L',OwnG w0 75 elV (.slice p_d d.length c_d) (n6 d) L'∧M'=L'++M1):=by
 have hw:Sat w0 X (L_d++(M1++[])) w:=by rw [List.append_nil];exact hw
 refine gU (N:=14) func175 O O zz_ hw ?_;have hm_d:=hO_d.max;refine giI ?_;refine go2 ?_;refine sQ (aE (v':=.int .i64 4) (bX cC O (rO hO_d lZ)) (by rw [hpre];rfl)) O (go6 ?_);refine sQ (aE (v':=.int .u64 4) (dD y9 YT O) O) O (sQ (aW aH cM_ O) O (go_ ?_));refine aQ O (yY aH O (fun w hw=>ZU (x:=(wl 3)) hw hO_d (by first|rfl|(rw [hpre];rfl)) oo_) (fun L1 hO2=>?_));refine go_ ?_;refine zA O (.inl O) ?_
 have hE:((n6 d):List (A3 W))=(n6 d):=by exact rfl
 exact ⟨rfl,_,hE ▸ hO2,by rw [List.append_nil]⟩
end Go.Proofs.YtcjoflcajgaifaaGreatDoor
