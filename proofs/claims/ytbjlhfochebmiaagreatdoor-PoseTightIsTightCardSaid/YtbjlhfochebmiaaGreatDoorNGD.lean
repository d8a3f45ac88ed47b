/- Lemmas: what they ask stands in their statements. -/
import Derived.Scope
import Derived.ProofKit
import Derived.OpenShut
import Derived.ShutString
import Derived.ChangeOld
import Derived.Test.YtbjlhfochebmiaaGreatDoorNGC
set_option linter.unusedSimpArgs false
set_option linter.unusedVariables false
namespace Go.Kn
open Go.RowKit
structure Part where
 n:Nat
 l:List Value
 len:l.length=n
 pl:∀ v∈l,plain v=true
def aU:List Part→List Value
 | []=>[]
 | [p]=>p.l
 | p::q::ps=>p.l++aU (q::ps)
theorem sM (p:Part) (ps:List Part):aU (p::ps)=p.l++aU ps:=by
 cases ps with
 | nil=>simp [aU]
 | cons q ps=>rfl
theorem qR (ps qs:List Part):aU (ps++qs)=aU ps++aU qs:=by
 induction ps with
 | nil=>rfl
 | cons p ps ih=>rw [List.cons_append,sM,sM,ih,List.append_assoc]
def sD:List Part→Nat
 | []=>0
 | p::ps=>p.n+sD ps
theorem uP:∀ ps:List Part,(aU ps).length=sD ps
 | []=>rfl
 | p::ps=>by rw [sM,List.length_append,p.len,uP ps];rfl
theorem HW (ps:List Part):∀ v∈aU ps,plain v=true:=by
 induction ps with
 | nil=>intro v h;cases h
 | cons p ps ih =>
  intro v h;rw [sM,List.mem_append] at h;rcases h with h|h
  ·exact p.pl v h
  exact ih v h
abbrev AV (ps:List Part):Value:=.agg (aU ps).toArray
abbrev ci (k:IntKind) (n:Int):Part:=⟨1,[.int k n],rfl,fun v h=>by rw [List.mem_singleton.1 h];rfl⟩
abbrev cb (b:Bool):Part:=⟨1,[.bool b],rfl,fun v h=>by rw [List.mem_singleton.1 h];rfl⟩
def LM:List Part→Nat→Option (List Part)
 | [],n=>bif Nat.beq n 0 then some [] else none
 | p::ps,n=>bif Nat.beq n 0 then some [] else bif Nat.ble p.n n then (match LM ps (n - p.n) with|some qs=>some (p::qs)|none=>none) else none
def EG:List Part→Nat→Nat→Option (List Part)
 | [],off,n=>bif Nat.beq off 0 then LM [] n else none
 | p::ps,off,n=>bif Nat.beq off 0 then LM (p::ps) n else bif Nat.ble p.n off then EG ps (off - p.n) n else none
theorem D7:∀ {ps qs:List Part} {n:Nat},LM ps n=some qs→∃ rs,ps=qs++rs∧sD qs=n
 | [],qs,n,h=>by
  simp only [LM] at h
  cases hb:Nat.beq n 0
  ·rw [hb] at h;cases h
  rw [hb] at h;cases h;exact ⟨[],rfl,(Nat.eq_of_beq_eq_true hb).symm⟩
 | p::ps,qs,n,h=>by
  simp only [LM] at h
  cases hb:Nat.beq n 0
  ·rw [hb] at h
   simp only [cond_false] at h
   cases hl:Nat.ble p.n n
   ·rw [hl] at h;cases h
   rw [hl] at h;simp only [cond_true] at h
   split at h
   ·rename_i qs' hq
    cases h
    obtain ⟨rs,h1,h2⟩:=D7 hq;have:=Nat.le_of_ble_eq_true hl;exact ⟨rs,by rw [h1];rfl,by simp only [sD,h2];omega⟩
   ·cases h
  rw [hb] at h;cases h;exact ⟨p::ps,rfl,(Nat.eq_of_beq_eq_true hb).symm⟩
theorem KJ:∀ {ps qs:List Part} {off n:Nat},EG ps off n=some qs→∃ as rs,ps=as++(qs++rs)∧sD as=off∧sD qs=n
 | [],qs,off,n,h=>by
  simp only [EG] at h
  cases hb:Nat.beq off 0
  ·rw [hb] at h;cases h
  rw [hb] at h;simp only [cond_true] at h;obtain ⟨rs,h1,h2⟩:=D7 h;exact ⟨[],rs,h1,(Nat.eq_of_beq_eq_true hb).symm,h2⟩
 | p::ps,qs,off,n,h=>by
  simp only [EG] at h
  cases hb:Nat.beq off 0
  ·rw [hb] at h
   simp only [cond_false] at h
   cases hl:Nat.ble p.n off
   ·rw [hl] at h;cases h
   rw [hl] at h;simp only [cond_true] at h;obtain ⟨as,rs,h1,h2,h3⟩:=KJ h;have:=Nat.le_of_ble_eq_true hl;exact ⟨p::as,rs,by rw [h1];rfl,by simp only [sD,h2];omega,h3⟩
  rw [hb] at h;simp only [cond_true] at h;obtain ⟨rs,h1,h2⟩:=D7 h;exact ⟨[],rs,h1,(Nat.eq_of_beq_eq_true hb).symm,h2⟩
theorem uO {ps qs:List Part} {off n:Nat} (h:EG ps off n=some qs):((aU ps).drop off).take n=aU qs∧(aU qs).length=n∧off+n≤(aU ps).length:=by
 obtain ⟨as,rs,rfl,h1,h2⟩:=KJ h;rw [← h1,← h2,← uP,← uP,qR,qR,List.drop_left,List.take_left];exact ⟨rfl,rfl,by simp only [List.length_append];omega⟩
def B7:List Part→Nat→Option Value
 | [],_=>none
 | p::ps,off=>bif Nat.ble p.n off then B7 ps (off - p.n) else p.l[off]?
theorem zC:∀ {ps:List Part} {off:Nat} {v:Value},B7 ps off=some v→(aU ps)[off]? = some v
 | [],_,_,h=>by cases h
 | p::ps,off,v,h=>by
  simp only [B7] at h;rw [sM]
  cases hl:Nat.ble p.n off
  ·rw [hl] at h
   have h1:¬ p.n≤off:=fun hc=>by rw [Nat.ble_eq_true_of_le hc] at hl;cases hl
   rw [List.getElem?_append_left (by rw [p.len];omega)];exact h
  rw [hl] at h;rw [List.getElem?_append_right (by rw [p.len];exact Nat.le_of_ble_eq_true hl),p.len];exact zC h
def KN:List Part→Nat→Option (List Part)
 | [],n=>bif Nat.beq n 0 then some [] else none
 | p::ps,n=>bif Nat.beq n 0 then some (p::ps) else bif Nat.ble p.n n then KN ps (n - p.n) else none
def GO:List Part→Nat→Nat→List Part→Option (List Part)
 | [],off,n,qs=>bif Nat.beq off 0 then (match KN [] n with|some rs=>some (qs++rs)|none=>none) else none
 | p::ps,off,n,qs=>bif Nat.beq off 0 then (match KN (p::ps) n with|some rs=>some (qs++rs)|none=>none) else
  bif Nat.ble p.n off then (match GO ps (off - p.n) n qs with|some rs=>some (p::rs)|none=>none) else none
theorem DX:∀ {ps rs:List Part} {n:Nat},KN ps n=some rs→∃ as,ps=as++rs∧sD as=n
 | [],rs,n,h=>by
  simp only [KN] at h
  cases hb:Nat.beq n 0
  ·rw [hb] at h;cases h
  rw [hb] at h;cases h;exact ⟨[],rfl,(Nat.eq_of_beq_eq_true hb).symm⟩
 | p::ps,rs,n,h=>by
  simp only [KN] at h
  cases hb:Nat.beq n 0
  ·rw [hb] at h
   simp only [cond_false] at h
   cases hl:Nat.ble p.n n
   ·rw [hl] at h;cases h
   rw [hl] at h;simp only [cond_true] at h;obtain ⟨as,h1,h2⟩:=DX h;have:=Nat.le_of_ble_eq_true hl;exact ⟨p::as,by rw [h1];rfl,by simp only [sD,h2];omega⟩
  rw [hb] at h;cases h;exact ⟨[],rfl,(Nat.eq_of_beq_eq_true hb).symm⟩
theorem LD:∀ {ps ps' qs:List Part} {off n:Nat},GO ps off n qs=some ps'→∃ as bs rs,ps=as++(bs++rs)∧ps'=as++(qs++rs)∧sD as=off∧sD bs=n
 | [],ps',qs,off,n,h=>by
  simp only [GO] at h
  cases hb:Nat.beq off 0
  ·rw [hb] at h;cases h
  rw [hb] at h;simp only [cond_true] at h
  split at h
  ·rename_i rs hr
   cases h
   obtain ⟨as,h1,h2⟩:=DX hr;exact ⟨[],as,rs,h1,rfl,(Nat.eq_of_beq_eq_true hb).symm,h2⟩
  ·cases h
 | p::ps,ps',qs,off,n,h=>by
  simp only [GO] at h
  cases hb:Nat.beq off 0
  ·rw [hb] at h
   simp only [cond_false] at h
   cases hl:Nat.ble p.n off
   ·rw [hl] at h;cases h
   rw [hl] at h;simp only [cond_true] at h
   split at h
   ·rename_i rs hr
    cases h
    obtain ⟨as,bs,cs,h1,h2,h3,h4⟩:=LD hr;have:=Nat.le_of_ble_eq_true hl;exact ⟨p::as,bs,cs,by rw [h1];rfl,by rw [h2];rfl,by simp only [sD,h3];omega,h4⟩
   ·cases h
  rw [hb] at h;simp only [cond_true] at h
  split at h
  ·rename_i rs hr
   cases h
   obtain ⟨as,h1,h2⟩:=DX hr;exact ⟨[],as,rs,h1,rfl,(Nat.eq_of_beq_eq_true hb).symm,h2⟩
  ·cases h
theorem EY {ps ps' qs:List Part} {off n:Nat} (h:GO ps off n qs=some ps'):(aU ps).take off++aU qs++(aU ps).drop (off+n)=aU ps'∧off+n≤(aU ps).length:=by
 obtain ⟨as,bs,rs,rfl,rfl,h1,h2⟩:=LD h;rw [← h1,← h2,← uP,← uP,qR,qR,qR,qR,List.take_left,List.append_assoc]
 constructor
 ·congr 2
  rw [← List.drop_drop,List.drop_left,List.drop_left]
 simp only [List.length_append];omega
section
variable {P:Program} {w0:World} {X:List Nat} {N:Nm} {S:Fr} {M:List Blk} {d:Option Tmp} {ty:TypeId} {ps:String} {af:Array Edge} {gd:Option (Nat×Bool)}
theorem qZ {o:Oper} {b off off':Nat} (q:OpQ P w0 X N o S M (.pointer (some ⟨b,off,none⟩))) (h:off=off'):OpQ P w0 X N o S M (.pointer (some ⟨b,off',none⟩)):=h ▸ q
theorem G9 {T U:TypeId} {x:Operand} {n b off:Nat} {cs qs:List Part} (hT:j7 P T=some (true,n)) (hx:evO N S x=some (.pointer (some ⟨b,off,none⟩))) (hm:(⟨b,U,aU cs⟩:Blk)∈M) (hc:EG cs off n=some qs) :
 OpQ P w0 X N ⟨d,.load T x,ty,ps,af,gd⟩ S M (AV qs):=iN hT hx hm (uO hc).1 (uO hc).2.1
theorem wY {T U:TypeId} {x:Operand} {s b off:Nat} {cs:List Part} {v:Value} (hT:j7 P T=some (false,s)) (hx:evO N S x=some (.pointer (some ⟨b,off,none⟩))) (hm:(⟨b,U,aU cs⟩:Blk)∈M) (hc:B7 cs off=some v) :
 OpQ P w0 X N ⟨d,.load T x,ty,ps,af,gd⟩ S M v:=dI hT hx hm (zC hc)
theorem PQ {T U:TypeId} {x y:Operand} {g:Bool} {n b off:Nat} {cs cs' qs:List Part} {M':List Blk} {v:Value} {K:Value→List Blk→Prop} (hT:j7 P T=some (g,n)) (hx:evO N S x=some (.pointer (some ⟨b,off,none⟩)))
  (hy:evO N S y=some v) (hv:v.cells=(aU qs).toArray) (hn:sD qs=n) (hc:GO cs off n qs=some cs') (hu:Upd b U (aU cs) (aU cs') M M') (hb:w0.heap.size≤b∨b∈X) (k:K undef M') :
  OpR P w0 X N ⟨d,.store T x y,ty,ps,af,gd⟩ S M K :=
 NG hT hx hu hy hv ((uP _).trans hn) (HW _) (EY hc).2 (EY hc).1 hb k
theorem dq_ {T:TypeId} {x:Operand} {v:Value} {qs:List Part} {K:Value→List Blk→Prop} (hx:evO N S x=some v) (hv:v.cells=(aU qs).toArray) (k:∀ b,w0.heap.size≤b→K (.pointer (some ⟨b,0,none⟩)) (⟨b,T,aU qs⟩::M)) :
 OpR P w0 X N ⟨d,.box T x,ty,ps,af,gd⟩ S M K:=jS hx hv k
theorem eQ {T:TypeId} {qs:List Part} {K:Value→List Blk→Prop} (hT:mQ P T=some (aU qs)) (k:∀ b,w0.heap.size≤b→K (.pointer (some ⟨b,0,none⟩)) (⟨b,T,aU qs⟩::M)) :
 OpR P w0 X N ⟨d,.alloc T,ty,ps,af,gd⟩ S M K:=dU hT k
inductive FillP (place:Nat→Option (Nat×Nat)):List Part→List (Nat×Value)→List Part→Prop where
 | nil (z:List Part):FillP place z [] z
 | cons {i off size:Nat} {v:Value} {z out:List Part} {rest:List (Nat×Value)} (vs z':List Part) (hp:place i=some (off,size)) (hv:v.cells=(aU vs).toArray) (hl:sD vs=size)
  (hz:GO z off size vs=some z') (k:FillP place z' rest out):FillP place z ((i,v)::rest) out
theorem FillP.r {place:Nat→Option (Nat×Nat)} {z out:List Part} {parts:List (Nat×Value)} (h:FillP place z parts out):FillR place (aU z) parts (aU out):=by
 induction h with
 | nil z=>exact .nil _
 | cons vs z' hp hv hl hz k ih=>exact .cons hp hv ((uP _).trans hl) (EY hz).2 (EY hz).1 ih
theorem oX {T:TypeId} {xs:List (Nat×Operand)} {parts:List (Nat×Value)} {pl:List (Nat×Nat)} {z out:List Part} (hz:mQ P T=some (aU z)) (hp:z4 P T=some pl) (hx:evP N S xs=some parts)
 (h:FillP (fun i=>pl[i]?) z parts out):OpQ P w0 X N ⟨d,.build T xs.toArray,ty,ps,af,gd⟩ S M (AV out):=xN hz hp hx h.r
theorem dN {T:TypeId} {xs:List (Nat×Operand)} {parts:List (Nat×Value)} {n s:Nat} {z out:List Part} (hz:mQ P T=some (aU z)) (hp:BJ P T=some (n,s)) (hx:evP N S xs=some parts)
 (h:FillP (fun i=>some (i*s,s)) z parts out):OpQ P w0 X N ⟨d,.build T xs.toArray,ty,ps,af,gd⟩ S M (AV out):=qG hz hp hx h.r
theorem fF {r:Tmp} {T:TypeId} {b off n:Nat} {U:TypeId} {cs qs:List Part} (hx:evO N S (.tmp r)=some (.pointer (some ⟨b,off,none⟩))) (hm:(⟨b,U,aU cs⟩:Blk)∈M) (hT:j7 P T=some (true,n)) (hc:EG cs off n=some qs) :
 DF P N S M (.cell r T) (AV qs):=⟨b,off,aU cs,U,true,n,hx,hm,hT,_,(uO hc).1,(uO hc).2.1,rfl⟩
end
section
variable {P:Program} {w0:World} {X:List Nat} {N:Nm} {S:Fr} {M:List Blk} {d:Option Tmp} {ty:TypeId} {ps:String} {af:Array Edge} {gd:Option (Nat×Bool)}
theorem PF {T off n:Nat} {cs qs:List Part} (hT:j7 P T=some (true,n)) (hc:EG cs off n=some qs) (w:World):(part T (aU cs).toArray off).run P w = .ok (AV qs) w:=by
 unfold part;obtain ⟨h1,h2,h3⟩:=uO hc;simp only [Sem.run_bind,(oY (w:=w) hT).1,(oY (w:=w) hT).2,Result.andThen_ok,if_true,Sem.run_pure]
 congr 2
 simp [List.extract,h1]
theorem KX {T off n:Nat} {cs:List Part} {v:Value} (hT:j7 P T=some (false,n)) (hc:B7 cs off=some v) (w:World):(part T (aU cs).toArray off).run P w = .ok v w:=by
 unfold part;have h:=zC hc
 have h2:(aU cs).toArray[off]? = some v:=by simpa using h
 simp only [Sem.run_bind,(oY (w:=w) hT).1,Result.andThen_ok,Bool.false_eq_true,if_false,h2,Sem.run_pure]
def SG (P:Program) (T:TypeId):Option (Nat×Nat×Bool):=match P.underlying T with
 | some (.array n e)=>(j7 P e).map fun x=>(n,x.2,x.1)
 | _=>none
theorem LO {T n s:Nat} {g:Bool} (h:SG P T=some (n,s,g)):∃ e,P.underlying T=some (.array n e)∧j7 P e=some (g,s):=by
 unfold SG at h;split at h
 ·rename_i m e hu
  cases he:j7 P e with
  | none=>simp [he] at h
  | some x=>obtain ⟨x1,x2⟩:=x;simp [he] at h;obtain ⟨rfl,rfl,rfl⟩:=h;exact ⟨e,hu,he⟩
 ·cases h
theorem YW {T:TypeId} {x y:Operand} {n s:Nat} {k:IntKind} {i:Int} {cs qs:List Part} (hT:SG P T=some (n,s,true)) (hx:evO N S x=some (AV cs)) (hy:evO N S y=some (.int k i)) (h0:0≤i) (h1:i<n) (hc:EG cs (i.toNat*s) s=some qs) :
  OpQ P w0 X N ⟨d,.index T x y,ty,ps,af,gd⟩ S M (AV qs) :=
 oU fun w _=>by
  obtain ⟨e,hd,he⟩:=LO hT
  simp [execOp,cC hx,cC hy,Instr.index,asIntOf,run_underlying hd,(oY (w:=w) he).2,h0,h1,PF he hc]
theorem YX {T:TypeId} {x y:Operand} {n s:Nat} {k:IntKind} {i:Int} {cs:List Part} {v:Value} (hT:SG P T=some (n,s,false)) (hx:evO N S x=some (AV cs)) (hy:evO N S y=some (.int k i)) (h0:0≤i) (h1:i<n) (hc:B7 cs (i.toNat*s)=some v) :
  OpQ P w0 X N ⟨d,.index T x y,ty,ps,af,gd⟩ S M v :=
 oU fun w _=>by
  obtain ⟨e,hd,he⟩:=LO hT
  simp [execOp,cC hx,cC hy,Instr.index,asIntOf,run_underlying hd,(oY (w:=w) he).2,h0,h1,KX he hc]
def Z5 (P:Program) (T:TypeId) (f:Nat):Option (Nat×Nat×Bool):=match P.underlying T with
 | some (.struct fs)=>(fs[f]?).bind fun x=>(j7 P x.type).map fun y=>(x.offset,y.2,y.1)
 | _=>none
theorem LP {T f o s:Nat} {g:Bool} (h:Z5 P T f=some (o,s,g)):∃ fs x,P.underlying T=some (.struct fs)∧fs[f]? = some x∧x.offset=o∧j7 P x.type=some (g,s):=by
 unfold Z5 at h;split at h
 ·rename_i fs hu
  cases hx:fs[f]? with
  | none=>simp [hx] at h
  | some x =>
   cases he:j7 P x.type with
   | none=>simp [hx,he] at h
   | some y=>obtain ⟨y1,y2⟩:=y;simp [hx,he] at h;obtain ⟨rfl,rfl,rfl⟩:=h;exact ⟨fs,x,hu,hx,rfl,he⟩
 ·cases h
theorem PK {T:TypeId} {x:Operand} {f o s:Nat} {cs qs:List Part} (hT:Z5 P T f=some (o,s,true)) (hx:evO N S x=some (AV cs)) (hc:EG cs o s=some qs):OpQ P w0 X N ⟨d,.field T x f,ty,ps,af,gd⟩ S M (AV qs) :=
 oU fun w _=>by
  obtain ⟨fs,y,hd,hf,ho,he⟩:=LP hT
  simp [execOp,cC hx,Instr.field,run_underlying hd,hf,asAgg,ho,PF he hc]
theorem PM {T:TypeId} {x:Operand} {f o s:Nat} {cs:List Part} {v:Value} (hT:Z5 P T f=some (o,s,false)) (hx:evO N S x=some (AV cs)) (hc:B7 cs o=some v):OpQ P w0 X N ⟨d,.field T x f,ty,ps,af,gd⟩ S M v :=
 oU fun w _=>by
  obtain ⟨fs,y,hd,hf,ho,he⟩:=LP hT
  simp [execOp,cC hx,Instr.field,run_underlying hd,hf,asAgg,ho,KX he hc]
theorem IN {g:FuncId} {xs ys:List Operand} {vs us:List Value} (hx:evL N S xs=some vs) (hy:evL N S ys=some us):OpQ P w0 X N ⟨d,.makeFunc (.func g) xs.toArray ys.toArray,ty,ps,af,gd⟩ S M (.func (.func g) vs.toArray us.toArray) :=
 oU fun w _=>by
  have e1:(xs.toArray.map (ev N S))=vs.toArray:=by rw [← wJ hx];simp
  have e2:(ys.toArray.map (ev N S))=us.toArray:=by rw [← wJ hy];simp
  simp only [execOp,Instr.makeFunc,Sem.run_bind,Sem.run_pure,Result.andThen_ok,e1,e2]
theorem bd_ {g:FuncId} {f:Operand} {xs:List Operand} {tys:Array TypeId} {first cap args:List Value} {v:Value} (he:kM P g=true) (hf:evO N S f=some (.func (.func g) first.toArray cap.toArray)) (ha:evL N S xs=some args)
  (h:∀ w,Sat w0 X M w→Calls P g (first++args++cap).toArray w fun e w'=>e = .returned v∧Ext w w'):OpQ P w0 X N ⟨d,.call { callee:=.value f,args:=xs.toArray,argTypes:=tys },ty,ps,af,gd⟩ S M v:=by
 intro w hw;unfold opw;rw [nJ,CZ he (cC hf) (by rw [wJ ha])];exact (h w hw).mono fun e w' ⟨h1,h2⟩=>⟨v,h1,rfl,h2⟩
theorem YY {T U:TypeId} {x:Operand} {n b off:Nat} {cs qs:List Part} (hT:j7 P T=some (true,n)) (hx:evO N S x=some (.pointer (some ⟨b,off,none⟩))) (hm:w0.heap[b]? = some (.cells (aU cs).toArray U (0,0))) (hX:b ∉ X) (hc:EG cs off n=some qs) :
 OpQ P w0 X N ⟨d,.load T x,ty,ps,af,gd⟩ S M (AV qs):=PN hT hx hm hX (uO hc).1 (uO hc).2.1
theorem lN {T U:TypeId} {x:Operand} {s b off:Nat} {cs:List Part} {v:Value} (hT:j7 P T=some (false,s)) (hx:evO N S x=some (.pointer (some ⟨b,off,none⟩))) (hm:w0.heap[b]? = some (.cells (aU cs).toArray U (0,0))) (hX:b ∉ X) (hc:B7 cs off=some v) :
 OpQ P w0 X N ⟨d,.load T x,ty,ps,af,gd⟩ S M v:=G7 hT hx hm hX (zC hc)
end
section
variable {P:Program} {w0:World} {X:List Nat} {N:Nm} {S:Fr} {M:List Blk} {Q:pP}
theorem d9_ {id:Nat} {ops:List Oper} {y:Code} {MD:List Blk} (sub:MD.Sublist M) (p:Plan) (nw:List Nat) (hm:P.follows .mixedOrders=true) (hs:Region.noSelect ops.toArray=true)
  (hok:Plan.ok ops.toArray nw ops.length (Array.replicate ops.length false) p=true)
  (h:∀ K:Fr→List Blk→Prop,(∀ S M,W P w0 X N y Q S M→K S M)→PL P w0 X N ops nw MD K p S M):W P w0 X N (.seq (.region id ops.toArray true) y) Q S M :=
 WP fun _ hK=>cx_ sub p nw hm hs hok fun K1 h1=>h K1 fun S M hw=>h1 S M (hK S M hw)
variable {d:Option Tmp} {ty:TypeId} {ps:String} {af:Array Edge} {gd:Option (Nat×Bool)}
theorem d7_ {ops l:List Oper} {R:Fr→List Blk→Prop} {T U:TypeId} {x y:Operand} {g:Bool} {n b off:Nat} {cs cs' qs:List Part} {M':List Blk} {v:Value} (hg:vL N ops S (⟨none,.store T x y,ty,ps,af,gd⟩:Oper)=true)
 (hT:j7 P T=some (g,n)) (hx:evO N S x=some (.pointer (some ⟨b,off,none⟩))) (hy:evO N S y=some v) (hv:v.cells=(aU qs).toArray) (hn:sD qs=n) (hc:GO cs off n qs=some cs') (hu:Upd b U (aU cs) (aU cs') M M') (hb:w0.heap.size≤b)
 (k:WL P w0 X N ops R l S M'):WL P w0 X N ops R (⟨none,.store T x y,ty,ps,af,gd⟩::l) S M:=bI hg (PQ hT hx hy hv hn hc hu (.inl hb) k)
theorem d6_ {ops:List Oper} {nw:List Nat} {MD:List Blk} {R:Fr→List Blk→Prop} {i:Nat} {r:Plan} {T U:TypeId} {x y:Operand} {g:Bool} {n b off:Nat} {cs cs' qs:List Part} {M':List Blk} {v:Value}
  (ho:ops[i]? = some ⟨none,.store T x y,ty,ps,af,gd⟩) (hg:vL N ops S (⟨none,.store T x y,ty,ps,af,gd⟩:Oper)=true)
  (hT:j7 P T=some (g,n)) (hx:evO N S x=some (.pointer (some ⟨b,off,none⟩))) (hy:evO N S y=some v) (hv:v.cells=(aU qs).toArray) (hn:sD qs=n) (hc:GO cs off n qs=some cs') (hu:Upd b U (aU cs) (aU cs') M M') (hb:w0.heap.size≤b)
  (hw:nw.contains i=false) (hs:MD.Sublist M') (k:PL P w0 X N ops nw MD R r S M'):PL P w0 X N ops nw MD R (.only i r) S M :=
 dF ho hg (PQ hT hx hy hv hn hc hu (.inl hb) ⟨(fun h=>by rw [hw] at h;cases h),hs,k⟩)
end
theorem aQ {p q:Part} {ps qs:List Part} {r s:Bool} (hn:p.n=q.n) (h:r=true ↔ p.l=q.l) (k:s=true ↔ aU ps=aU qs):((r&&s)=true) ↔ aU (p::ps)=aU (q::qs):=by
 rw [sM,sM,Bool.and_eq_true,h,k]
 constructor
 ·rintro ⟨a,b⟩;rw [a,b]
 intro e;exact List.append_inj e (by rw [p.len,q.len,hn])
theorem eJ {p q:Part} {r:Bool} (h:r=true ↔ p.l=q.l):(r=true) ↔ aU [p]=aU [q]:=h
theorem eB {k:IntKind} {a b:Int}:decide (a=b)=true ↔ (ci k a).l=(ci k b).l:=by simp
theorem aD {p:Part} {ps:List Part} {l m:List rS} (h:gH p.l l=true) (k:gH (aU ps) m=true):gH (aU (p::ps)) (l++m)=true:=by rw [sM];exact BG h k
theorem cM {p:Part} {l:List rS} (h:gH p.l l=true):gH (aU [p]) l=true:=h
theorem bU {k:IntKind} {a:Int}:gH (ci k a).l [some k]=true:=by simp [gH,AI]
theorem W_t {P:Program} {w0:World} {X:List Nat} {N:Nm} {Q:pP} {S:Fr} {M:List Blk} {c:Operand} {x y:Code} {b:Bool} (hb:b=true) (hc:evO N S c=some (.bool b)) (h:W P w0 X N x Q S M):W P w0 X N (.cond c x y) Q S M:=by
 subst hb;exact WQ hc h
theorem W_f {P:Program} {w0:World} {X:List Nat} {N:Nm} {Q:pP} {S:Fr} {M:List Blk} {c:Operand} {x y:Code} {b:Bool} (hb:b=false) (hc:evO N S c=some (.bool b)) (h:W P w0 X N y Q S M):W P w0 X N (.cond c x y) Q S M:=by
 subst hb;exact SM hc h
theorem s0 {α:Type} {l:List α}:l.Sublist l:=List.Sublist.refl l
theorem sn {α:Type} {l:List α}:([]:List α).Sublist l:=List.nil_sublist l
theorem sd {α:Type} {a:α} {l m:List α} (h:l.Sublist m):l.Sublist (a::m):=List.Sublist.cons a h
theorem sk {α:Type} {a:α} {l m:List α} (h:l.Sublist m):(a::l).Sublist (a::m):=List.Sublist.cons_cons a h
theorem sA {α:Type} {k l m:List α} (h:l.Sublist m):(k++l).Sublist (k++m):=List.Sublist.append (List.Sublist.refl k) h
theorem sR {α:Type} {k l m:List α} (h:l.Sublist m):l.Sublist (k++m):=List.Sublist.trans h (List.sublist_append_right k m)
theorem nf {p:Prop} (h:false=true):p:=by cases h
theorem bt (b:Bool):b=true∨b=false:=Bool.eq_false_or_eq_true b
theorem k6 {c a v:Bool} (h:c=true) (k:v=a):v=(c&&a):=by rw [h,k];rfl
theorem oB {c a:Bool} (h:c=false):false=(c&&a):=by rw [h];rfl
theorem oH {c a:Bool} (h:c=true):true=(c||a):=by rw [h];rfl
theorem mO {c a v:Bool} (h:c=false) (k:v=a):v=(c||a):=by rw [h,k];rfl
theorem o8 {c a v:Bool} (h:c=true) (k:v=a):v=(!c||a):=by rw [h,k];rfl
theorem tH {c a:Bool} (h:c=false):true=(!c||a):=by rw [h];rfl
theorem vO {c a:Bool} (h:c=true):false=(!c&&a):=by rw [h];rfl
theorem rY {c a v:Bool} (h:c=false) (k:v=a):v=(!c&&a):=by rw [h,k];rfl
theorem nm {α:Type} (e:α):∃ x,x=e:=⟨e,rfl⟩
theorem aC {α:Type} {c:Bool} {v x y:α} (h:c=true) (k:v=x):v=(bif c then x else y):=by rw [h];exact k
theorem aH {α:Type} {c:Bool} {v x y:α} (h:c=false) (k:v=y):v=(bif c then x else y):=by rw [h];exact k
theorem gA {b:Bool} (h:b=false):(!b)=true:=by rw [h];rfl
theorem fZ {b:Bool} (h:b=true):(!b)=false:=by rw [h];rfl
def Un (P:Program) (w0:World) (X:List Nat) (N:Nm) (c:Code) (Q:pP):Nat→Fr→List Blk→Prop
 | 0,_,_=>False
 | n+1,S,M=>W P w0 X N c (yJ (Un P w0 X N c Q n) Q) S M
section
variable {P:Program} {w0:World} {X:List Nat} {N:Nm} {Q:pP} {S:Fr} {M:List Blk} {c:Code}
theorem rM (n:Nat) (h:Un P w0 X N c Q n S M):W P w0 X N (.loop c) Q S M:=by
 refine WO (fun n S M=>Un P w0 X N c Q n S M) n ⟨M,List.Sublist.refl _,h⟩ ?_;intro n S M h
 cases n with
 | zero=>exact h.elim
 | succ n =>
  refine HK h ?_;intro e S' M' q
  cases e with
  | normal=>exact ⟨M',n,List.Sublist.refl _,Nat.lt_succ_self _,q⟩
  | exit id=>exact q
  | goto l=>exact q
  | ret=>exact q
  | panic c=>exact q
  | outgrown=>exact q
end
open Go.RowKit
structure El (α:Type) where
 n:Nat
 ps:α→List Part
 len:∀ x,sD (ps x)=n
def El.cs {α:Type} (e:El α) (x:α):List Value:=aU (e.ps x)
section rows
variable {α:Type} {e:El α}
theorem El.cs_len (x:α):(e.cs x).length=e.n:=(uP _).trans (e.len x)
theorem El.cs_plain (x:α):∀ v∈e.cs x,plain v=true:=HW _
def rows (e:El α) (l:List α):List Value:=l.flatMap e.cs
theorem nQ:∀ l:List α,(rows e l).length=l.length*e.n
 | []=>by simp [rows]
 | x::l=>by
  have:=nQ l;simp only [rows,List.flatMap_cons,List.length_append,List.length_cons,El.cs_len] at *;rw [this,Nat.succ_mul,Nat.add_comm]
theorem yH (a b:List α):rows e (a++b)=rows e a++rows e b:=by simp [rows]
theorem PV {l:List α} {k:Nat} {x:α} (h:l[k]? = some x):((rows e l).drop (k*e.n)).take e.n=e.cs x:=E1 e.cs e.n l k x (fun y _=>El.cs_len y) h
theorem R5 (l:List α):∀ v∈rows e l,plain v=true:=fun v h=>by
 obtain ⟨x,_,hx⟩:=List.mem_flatMap.1 h;exact El.cs_plain x v hx
theorem FK (l:List α) (k:Nat):(rows e l).take (k*e.n)=rows e (l.take k):=by
 by_cases h:k≤l.length
 ·have e1:l=l.take k++l.drop k:=(List.take_append_drop k l).symm
  have e2:(rows e (l.take k)).length=k*e.n:=by rw [nQ,List.length_take,Nat.min_eq_left h]
  conv=>lhs;rw [e1,yH]
  rw [← e2,List.take_left]
 rw [List.take_of_length_le (l:=rows e l) (by rw [nQ];exact Nat.mul_le_mul_right _ (by omega)),List.take_of_length_le (by omega)]
theorem VO (l:List α) (k:Nat):(rows e l).drop (k*e.n)=rows e (l.drop k):=by
 by_cases h:k≤l.length
 ·have e1:l=l.take k++l.drop k:=(List.take_append_drop k l).symm
  have e2:(rows e (l.take k)).length=k*e.n:=by rw [nQ,List.length_take,Nat.min_eq_left h]
  conv=>lhs;rw [e1,yH]
  rw [← e2,List.drop_left]
 rw [List.drop_of_length_le (l:=l) (by omega),List.drop_of_length_le]
 ·rfl
 rw [nQ];exact Nat.mul_le_mul_right _ (by omega)
end rows
theorem MB (a:Addr) (m n:Nat):(a.add m).add n=a.add (m+n):=by
 unfold Addr.add
 by_cases h:m=0
 ·subst h;simp
 by_cases h2:n=0
 ·subst h2;simp [h]
 simp [h,h2,Nat.add_assoc]
def Rd (w:World) (a:Addr) (cs:List Value):Prop:=∀ j v,cs[j]? = some v→w.cell? (a.add j)=some v
theorem Rd.ext {w w':World} {a:Addr} {cs:List Value} (h:Rd w a cs) (he:Ext w w'):Rd w' a cs:=fun j v hj=>by
 have h1:=h j v hj;have he':Below w.heap.size w w':=he;unfold World.cell? at *
 have hb:(a.add j).block<w.heap.size:=by
  cases hc:w.heap[(a.add j).block]? with
  | none=>rw [hc] at h1;cases h1
  | some o=>exact dW? hc
 rw [he'.block _ hb];exact h1
theorem Rd.sub {w:World} {a:Addr} {cs:List Value} (h:Rd w a cs) (o n:Nat):Rd w (a.add o) ((cs.drop o).take n):=fun j v hj=>by
 have hj':j<n:=by
  rcases Nat.lt_or_ge j n with h'|h'
  ·exact h'
  rw [List.getElem?_eq_none (by rw [List.length_take];omega)] at hj;cases hj
 rw [MB];rw [List.getElem?_take_of_lt hj',List.getElem?_drop] at hj;exact h _ _ hj
theorem Rd.of_block {w:World} {b off:Nat} {T:TypeId} {cs xs:List Value} (h:w.heap[b]? = some (.cells cs.toArray T (0,0))) (hx:(cs.drop off).take xs.length=xs):Rd w ⟨b,off,none⟩ xs:=fun j v hj=>by
 rw [rT];have hj':j<xs.length:=(List.getElem?_eq_some_iff.1 hj).1;rw [← hx,List.getElem?_take_of_lt hj',List.getElem?_drop] at hj
 simp [World.cell?,h,hj]
def Slr {α:Type} (w:World) (e:El α) (v:Value) (l:List α):Prop :=
 ∃ p c,v = .slice p l.length c∧l.length≤c∧c≤maxLen∧((p=none∧l=[]∧c=0) ∨ ∃ a,p=some a∧Rd w a (rows e l))
def SLe {α:Type} (w0:World) (X:List Nat) (M:List Blk) (e:El α) (v:Value) (l:List α):Prop:=∀ w,Sat w0 X M w→Slr w e v l
def slb:Value→Nat→Addr
 | .slice (some a) _ _,m=>a.add m
 | _,m=>⟨0,m,none⟩
theorem HB (v:Value) (m o:Nat):(slb v m).add o=slb v (m+o):=by
 unfold slb
 split
 ·exact MB _ _ _
 exact rT _ _ _
section
variable {α:Type} {e:El α} {P:Program} {w0:World} {X:List Nat} {N:Nm} {S:Fr} {M M':List Blk} {d:Option Tmp} {ty:TypeId} {ps:String} {af:Array Edge} {gd:Option (Nat×Bool)} {v:Value} {l:List α}
theorem Slr.ext {w w':World} (h:Slr w e v l) (he:Ext w w'):Slr w' e v l:=by
 obtain ⟨p,c,hv,hc,hm,h⟩:=h;refine ⟨p,c,hv,hc,hm,?_⟩;rcases h with h|⟨a,ha,hr⟩
 ·exact .inl h
 exact .inr ⟨a,ha,hr.ext he⟩
theorem Slr.max {w:World} (h:Slr w e v l):l.length≤9223372036854775807:=by
 obtain ⟨p,c,_,hc,hm,_⟩:=h;unfold maxLen at hm;omega
theorem SLe.sub (h:SLe w0 X M e v l) (hs:M.Sublist M'):SLe w0 X M' e v l:=fun w hw=>h w (hw.sub hs)
theorem Slr.old (h:Slr w0 e v l):SLe w0 [] [] e v l:=fun w hw=>h.ext hw.ext
theorem SLe.nil:SLe w0 X M e (.slice none 0 0) []:=fun w _=>⟨none,0,rfl,Nat.le_refl _,Nat.zero_le _,.inl ⟨rfl,rfl,rfl⟩⟩
theorem SLe.blk {b off n c:Nat} {T:TypeId} {cs:List Value} (h:(⟨b,T,cs⟩:Blk)∈M) (hn:l.length=n) (hc:n≤c) (hm:c≤maxLen) (ht:(cs.drop off).take (n*e.n)=rows e l):SLe w0 X M e (.slice (some ⟨b,off,none⟩) n c) l:=fun w hw=>by
 subst hn;refine ⟨_,c,rfl,hc,hm,.inr ⟨_,rfl,Rd.of_block (hw.mem _ h) ?_⟩⟩;rw [nQ];exact ht
theorem SLe.mine {b n:Nat} {T:TypeId} {cs:List Value} (h:(⟨b,T,cs⟩:Blk)∈M) (hn:l.length=n) (hm:n≤maxLen) (ht:cs=rows e l):SLe w0 X M e (.slice (some ⟨b,0,none⟩) n n) l :=
 SLe.blk h hn (Nat.le_refl _) hm (by subst ht;rw [List.drop_zero,← hn,← nQ];exact List.take_length ..)
theorem SLe.max (h:SLe w0 X M e v l) {w:World} (hw:Sat w0 X M w):l.length≤9223372036854775807:=(h w hw).max
theorem eK {T:TypeId} {x:Operand} {s:Nat} (hT:mH P T=some s) (hx:evO N S x=some v) (hv:SLe w0 X M e v l):OpQ P w0 X N ⟨d,.call { callee:=.builtin .len,args:=#[x],argTypes:=#[T] },ty,ps,af,gd⟩ S M (.int .i64 (l.length:Nat)):=by
 intro w hw;obtain ⟨p,c,rfl,_⟩:=hv w hw;exact BI (w0:=w0) (X:=X) (M:=M) hT hx w hw
theorem eY {T:TypeId} {x y:Operand} {k:Nat} {i:IntKind} (hT:mH P T=some e.n) (hx:evO N S x=some v) (hy:evO N S y=some (.int i (k:Int))) (hv:SLe w0 X M e v l) (hk:k<l.length) :
  OpQ P w0 X N ⟨d,.indexAddr T x y,ty,ps,af,gd⟩ S M (.pointer (some (slb v (k*e.n)))):=by
 intro w hw;obtain ⟨p,c,rfl,hc,hm,h⟩:=hv w hw;rcases h with ⟨_,h,_⟩|⟨a,rfl,hr⟩
 ·rw [h] at hk;simp at hk
 refine oU (w0:=w0) (X:=X) (M:=M) (fun w _=>?_) w hw;obtain ⟨e',q,hd,hi,hs⟩:=sU hT;have h0:(0:Int)≤(k:Int):=Int.natCast_nonneg k;have h1:(k:Int)<(l.length:Int):=Int.ofNat_lt.2 hk
 simp [execOp,cC hx,cC hy,Instr.indexAt,asIntOf,run_underlying hd,sizeOf,typeInfo,hi,hs,h0,h1,slb]
 omega
theorem M9 {T:TypeId} {x:Operand} {f o n m:Nat} (hT:BB P T f=some (o,n)) (hx:evO N S x=some (.pointer (some (slb v m)))) (hn:Nat.beq n 0=false):OpQ P w0 X N ⟨d,.fieldAddr T x f,ty,ps,af,gd⟩ S M (.pointer (some (slb v (m+o)))) :=
 oU fun w _=>by
  obtain ⟨fs,y,i,hd,hf,hi,ho,hs⟩:=E5 hT
  have hn':n≠0:=fun h=>by subst h;cases hn
  simp [execOp,cC hx,Instr.fieldAt,run_underlying hd,hf,Instr.sureAddr,fieldPlace,sizeOf,typeInfo,hi,hs,hn',ho,HB]
theorem Slr.at {w:World} {k:Nat} {x:α} (h:Slr w e v l) (hk:l[k]? = some x):Rd w (slb v (k*e.n)) (e.cs x):=by
 obtain ⟨p,c,rfl,hc,hm,h⟩:=h;rcases h with ⟨_,h,_⟩|⟨a,rfl,hr⟩
 ·rw [h] at hk;simp at hk
 have:=hr.sub (k*e.n) e.n;rw [PV hk] at this;exact this
theorem aZ_ {T:TypeId} {n:Nat} {w:World} {a:Addr} {vs:List Value} (hT:j7 P T=some (true,n)) (h:Rd w a vs) (hl:vs.length=n):(Instr.loadAt T (.pointer (some a))).run P w = .ok (.agg vs.toArray) w:=by
 have hx:=run_loadCells_list (P:=P) w a vs (fun j v hj=>h j v hj);rw [hl] at hx
 simp [Instr.loadAt,Instr.sureAddr,loadVar,(oY (w:=w) hT).1,(oY (w:=w) hT).2,hx]
theorem X9 {T:TypeId} {s:Nat} {w:World} {a:Addr} {v:Value} (hT:j7 P T=some (false,s)) (h:Rd w a [v]):(Instr.loadAt T (.pointer (some a))).run P w = .ok v w:=by
 have hc:=h 0 v O
 have ha:a.add 0=a:=by simp [Addr.add]
 rw [ha] at hc
 simp [Instr.loadAt,Instr.sureAddr,loadVar,(oY (w:=w) hT).1,load,Sem.run,hc]
theorem iS {T:TypeId} {x:Operand} {k o n:Nat} {y:α} {qs:List Part} (hT:j7 P T=some (true,n)) (hx:evO N S x=some (.pointer (some (slb v (k*e.n+o))))) (hv:SLe w0 X M e v l) (hk:l[k]? = some y) (hc:EG (e.ps y) o n=some qs) :
  OpQ P w0 X N ⟨d,.load T x,ty,ps,af,gd⟩ S M (AV qs) :=
 oU fun w hw=>by
  have h:=((hv w hw).at hk).sub o n;rw [El.cs,(uO hc).1,HB] at h;simp only [execOp,cC hx,Sem.run_bind,aZ_ hT h (uO hc).2.1];rfl
theorem u4 {T:TypeId} {x:Operand} {k o s:Nat} {y:α} {u:Value} (hT:j7 P T=some (false,s)) (hx:evO N S x=some (.pointer (some (slb v (k*e.n+o))))) (hv:SLe w0 X M e v l) (hk:l[k]? = some y) (hc:B7 (e.ps y) o=some u) :
  OpQ P w0 X N ⟨d,.load T x,ty,ps,af,gd⟩ S M u :=
 oU fun w hw=>by
  have h:=((hv w hw).at hk).sub o 1
  have hu:((e.cs y).drop o).take 1=[u]:=by
   have h1:=zC hc;have hlt:=(List.getElem?_eq_some_iff.1 h1).1;rw [show e.cs y=aU (e.ps y) from rfl,List.drop_eq_getElem_cons hlt,List.take_succ_cons,List.take_zero];rw [List.getElem?_eq_getElem hlt] at h1;rw [Option.some.inj h1]
  rw [hu,HB] at h;simp only [execOp,cC hx,Sem.run_bind,X9 hT h];rfl
theorem Slr.take {w:World} (h:Slr w e v l) {n:Nat} (hn:n≤l.length):Slr w e (sls v n) (l.take n):=by
 obtain ⟨p,c,rfl,hc,hm,h⟩:=h
 have hl:(l.take n).length=n:=by rw [List.length_take,Nat.min_eq_left hn]
 refine ⟨p,c,by rw [hl];rfl,by omega,hm,?_⟩;rcases h with ⟨h1,h2,h3⟩|⟨a,ha,hr⟩
 ·exact .inl ⟨h1,by rw [h2];simp,h3⟩
 refine .inr ⟨a,ha,?_⟩;have:=hr.sub 0 (n*e.n);rw [List.drop_zero,FK] at this
 rwa [show a.add 0=a by simp [Addr.add]] at this
def Slfe {α:Type} (B:Nat) (w:World) (e:El α) (v:Value) (l:List α):Prop :=
 ∃ p c,v = .slice p l.length c∧l.length≤c∧c≤maxLen∧((p=none∧l=[]∧c=0) ∨ ∃ b off T,∃ cs:List Value,p=some ⟨b,off,none⟩∧B≤b∧w.heap[b]? = some (.cells cs.toArray T (0,0))∧(cs.drop off).take (l.length*e.n)=rows e l)
def SLfe (w0:World) (M:List Blk) (e:El α) (v:Value) (l:List α):Prop :=
 ∃ p c,v = .slice p l.length c∧l.length≤c∧c≤maxLen∧((p=none∧l=[]∧c=0) ∨ ∃ b off T cs,p=some ⟨b,off,none⟩∧w0.heap.size≤b∧(⟨b,T,cs⟩:Blk)∈M∧(cs.drop off).take (l.length*e.n)=rows e l)
theorem SLfe.sub (h:SLfe w0 M e v l) (hs:M.Sublist M'):SLfe w0 M' e v l:=by
 obtain ⟨p,c,hv,hc,hm,h⟩:=h;refine ⟨p,c,hv,hc,hm,?_⟩;rcases h with h|⟨b,off,T,cs,hp,hB,hh,ht⟩
 ·exact .inl h
 exact .inr ⟨b,off,T,cs,hp,hB,hs.mem hh,ht⟩
theorem SLfe.sle (h:SLfe w0 M e v l):SLe w0 X M e v l:=fun w hw=>by
 obtain ⟨p,c,hv,hc,hm,h⟩:=h;refine ⟨p,c,hv,hc,hm,?_⟩;rcases h with h|⟨b,off,T,cs,hp,hB,hh,ht⟩
 ·exact .inl h
 exact .inr ⟨_,hp,Rd.of_block (hw.mem _ hh) (by rw [nQ];exact ht)⟩
theorem SLfe.slfe {w:World} (h:SLfe w0 M e v l) (hw:Sat w0 X M w):Slfe w0.heap.size w e v l:=by
 obtain ⟨p,c,hv,hc,hm,h⟩:=h;refine ⟨p,c,hv,hc,hm,?_⟩;rcases h with h|⟨b,off,T,cs,hp,hB,hh,ht⟩
 ·exact .inl h
 exact .inr ⟨b,off,T,cs,hp,hB,hw.mem _ hh,ht⟩
theorem SLfe.nil:SLfe w0 M e (.slice none 0 0) []:=⟨_,0,rfl,Nat.le_refl _,Nat.zero_le _,.inl ⟨rfl,rfl,rfl⟩⟩
theorem SLfe.mine {b n c:Nat} {T:TypeId} {cs:List Value} (hB:w0.heap.size≤b) (h:(⟨b,T,cs⟩:Blk)∈M) (hn:l.length=n) (hc:n≤c) (hm:c≤maxLen) (ht:cs.take (n*e.n)=rows e l):SLfe w0 M e (.slice (some ⟨b,0,none⟩) n c) l:=by
 subst hn;exact ⟨_,c,rfl,hc,hm,.inr ⟨b,0,T,cs,rfl,hB,h,by rw [List.drop_zero];exact ht⟩⟩
theorem Slfe.nowf {w w':World} (h:Slfe w.heap.size w' e v l) (hw:Sat w0 X M w) (he:Ext w w'):∃ L,Sat w0 X (L++M) w'∧SLfe w0 L e v l:=by
 have hw':=Sat.mono _ _ _ _ _ hw he;obtain ⟨p,c,hv,hc,hm,h⟩:=h;rcases h with h|⟨b,off,T,cs,hp,hB,hh,ht⟩
 ·exact ⟨[],hw',p,c,hv,hc,hm,.inl h⟩
 have hb:b ∉ M.map Blk.b:=fun hm=>by
  obtain ⟨x,hx,rfl⟩:=List.mem_map.1 hm;have:=dW? (hw.mem x hx);omega
 refine ⟨[⟨b,T,cs⟩],⟨hw'.os,hw'.tape,hw'.output,hw'.size,hw'.old,by simpa using And.intro (by simpa using hb) hw'.nodup,fun y hy=>?_⟩,p,c,hv,hc,hm,.inr ⟨b,off,T,cs,hp,Nat.le_trans hw.size hB,by simp,ht⟩⟩;rcases List.mem_cons.1 hy with rfl|hy
 ·exact hh
 exact hw'.mem y hy
def OwnG (w0:World) (E:TypeId) (e:El α) (v:Value) (l:List α) (L:List Blk):Prop :=
 (v = .slice none 0 0∧l=[]∧L=[]) ∨ ∃ g cap,∃ cur:List Value,v = .slice (some ⟨g,0,none⟩) l.length cap∧L=[⟨g,E,cur⟩]∧w0.heap.size≤g∧l.length≤cap∧cap≤maxLen∧cur.length=cap*e.n∧cur.take (l.length*e.n)=rows e l
theorem OwnG.nil {E:TypeId}:OwnG w0 E e (.slice none 0 0) [] []:=.inl ⟨rfl,rfl,rfl⟩
theorem OwnG.slfe {E:TypeId} {L:List Blk} (h:OwnG w0 E e v l L) (hs:L.Sublist M):SLfe w0 M e v l:=by
 rcases h with ⟨rfl,rfl,rfl⟩|⟨g,cap,cur,rfl,rfl,hg,hc,hm,hl,ht⟩
 ·exact SLfe.nil
 exact ⟨_,cap,rfl,hc,hm,.inr ⟨g,0,E,cur,rfl,hg,hs.mem (by simp),by rw [List.drop_zero];exact ht⟩⟩
theorem OwnG.of_mine {E:TypeId} {b n:Nat} {cs:List Value} (hb:w0.heap.size≤b) (hn:l.length=n) (hm:n≤maxLen) (ht:cs=rows e l):OwnG w0 E e (.slice (some ⟨b,0,none⟩) n n) l [⟨b,E,cs⟩]:=by
 subst hn ht;exact .inr ⟨b,l.length,rows e l,rfl,rfl,hb,Nat.le_refl _,hm,nQ l,List.take_of_length_le (by rw [nQ];exact Nat.le_refl _)⟩
def V4 (P:Program) (E:TypeId) (n bytes:Nat):Bool:=match P.info? E with
 | some i=>i.size==n&&i.bytes==bytes&&(match i.zero with|some z=>z.cells.size==n|none=>false)
 | none=>false
theorem VI {T E:TypeId} {x y:Operand} {u:Value} {m:List α} {L M1:List Blk} {bytes:Nat} {K:Value→List Blk→Prop} (hT:P.underlying T=some (.slice E)) (hE:V4 P E e.n bytes=true) (h0:0<e.n) (hx:evO N S x=some v) (hy:evO N S y=some u)
  (hv:OwnG w0 E e v l L) (hu:SLe w0 X M e u m) (hs:(L++M1).Sublist M) (hn:(l.length+m.length)*bytes≤140737488355328) (h8:0<bytes) (k:∀ v' L',OwnG w0 E e v' (l++m) L'→K v' (L'++M1)) :
  OpR P w0 X N ⟨d,.call { callee:=.builtin .append,args:=#[x,y],argTypes:=#[T,T] },ty,ps,af,gd⟩ S M K:=by
 intro w hw;unfold V4 at hE
 cases hi:P.info? E with
 | none=>simp [hi] at hE
 | some i =>
 cases hz:i.zero with
 | none=>simp [hi,hz] at hE
 | some z =>
 simp only [hi,hz,Bool.and_eq_true,beq_iff_eq] at hE;obtain ⟨⟨h1,hby⟩,hzc⟩:=hE;have hlen:l.length+m.length≤140737488355328:=Nat.le_trans (Nat.le_mul_of_pos_right _ h8) hn;have hw1:Sat w0 X (L++M1) w:=hw.sub hs
 have hown:w.ownsRow w0.heap.size E e.n v l.length (rows e l):=by
  refine ⟨nQ l,?_⟩;rcases hv with ⟨rfl,rfl,rfl⟩|⟨g,cap,cur,rfl,rfl,hg,hc,hm,hl,ht⟩
  ·exact .inl ⟨rfl,rfl⟩
  exact .inr ⟨g,cap,cur.toArray,rfl,hg,hw1.mem ⟨g,E,cur⟩ (by simp),hc,hm,by simp [hl],ht⟩
 have hrow:∀ k,v.ownBlock=some k→k∈L.map Blk.b∧w0.heap.size≤k:=by
  intro k hk;rcases hv with ⟨rfl,rfl,rfl⟩|⟨g,cap,cur,rfl,rfl,hg,hc,hm,hl,ht⟩
  ·cases hk
  obtain rfl:g=k:=by simpa [Value.ownBlock] using hk
  exact ⟨by simp,hg⟩
 have hrun:∃ v' w',(Builtin.append_ #[T,T] ty #[v,u]).run P w = .ok v' w'∧w'.ownsRow w0.heap.size E e.n v' (l.length+m.length) (rows e l++rows e m)∧w.grownBy w' v.ownBlock∧(v'.ownBlock=v.ownBlock∨v'.ownBlock=some w.heap.size):=by
  obtain ⟨p,c,rfl,hc,hm',h⟩:=hu w hw;rcases h with ⟨rfl,rfl,rfl⟩|⟨a,rfl,hr⟩
  ·refine ⟨v,w,?_,by simpa [rows] using hown,⟨rfl,rfl,rfl,Nat.le_refl _,fun _ _ _=>rfl⟩,.inl O⟩
   rcases hv with ⟨rfl,rfl,rfl⟩|⟨g,cap,cur,rfl,rfl,hg,hc,hm,hl,ht⟩
   ·simp [Builtin.append_,run_underlying hT,sizeOf,typeInfo,hi,Builtin.lenOf,Builtin.firstCells]
   simp [Builtin.append_,run_underlying hT,sizeOf,typeInfo,hi,Builtin.lenOf,Builtin.firstCells,hc,storeCells]
  obtain ⟨v',w',hr,ho,hg,_,hb⟩:=run_append_own_at (P:=P) w w0.heap.size T ty E i z e.n bytes hT hi hz h1 hby hzc h0 v l.length (rows e l) hown a m.length c (rows e m) (nQ m) hr (fun u hu=>C4 (R5 m u hu)) (by unfold maxLen;omega) hn hw.size;exact ⟨v',w',hr,ho,hg,hb⟩
 obtain ⟨v',w',hr,ho,hg,hb⟩:=hrun;unfold opw
 have hex:(execOp (ev N S) ⟨d,.call { callee:=.builtin .append,args:=#[x,y],argTypes:=#[T,T] },ty,ps,af,gd⟩).run P w = .ok (.value v') w':=by
  simp [execOp,resolve,invoke,builtin,cC hx,cC hy,hr]
 rw [nJ,hex]
 have hko:KeepsOthers w w':=KeepsOthers.of_grownBy hg fun j o hj ho=>by
  obtain ⟨x,hx,hxb⟩:=List.mem_map.1 (hrow j hj).1;have h9:=hw1.mem x (List.mem_append_left _ hx);rw [hxb,ho] at h9
  cases h9;rfl
 have hold:∀ k,k<w0.heap.size→k ∉ X→w'.heap[k]? = w0.heap[k]?:=fun k hk hx=>by
  rw [hg.block k (Nat.lt_of_lt_of_le hk hw.size) (fun e=>by have:=(hrow k e.symm).2;omega)];exact hw.old k hk hx
 have hM1:∀ y∈M1,w'.heap[y.b]? = some (.cells y.cs.toArray y.T (0,0)):=fun y hy=>by
  have hy':=hw1.mem y (List.mem_append_right _ hy);rw [hg.block y.b (dW? hy') (fun e=>?_)];exact hy';have h2:=hw1.nodup;rw [List.map_append,List.nodup_append] at h2;exact h2.2.2 _ (hrow _ e.symm).1 _ (List.mem_map_of_mem hy) O
 have hnd1:(M1.map Blk.b).Nodup:=by
  have h2:=hw1.nodup;rw [List.map_append,List.nodup_append] at h2;exact h2.2.1
 rcases ho.2 with ⟨rfl,hz0⟩|⟨g,cap,cur,rfl,hbg,hcell,hnc,hcm,hcs,htk⟩
 ·have e0:l++m=[]:=List.eq_nil_of_length_eq_zero (by rw [List.length_append];exact hz0)
  refine ⟨hko,[]++M1,⟨hg.os.trans hw.os,hg.tape.trans hw.tape,hg.output.trans hw.output,Nat.le_trans hw.size hg.size,hold,hnd1,hM1⟩,k _ [] (.inl ⟨rfl,e0,rfl⟩)⟩
 have hgn:g ∉ M1.map Blk.b:=by
  rcases hb with hb|hb
  ·have h2:=hw1.nodup
   rw [List.map_append,List.nodup_append] at h2;exact fun hm=>h2.2.2 _ (hrow g hb.symm).1 _ hm O
  have hgs:g=w.heap.size:=by simpa [Value.ownBlock] using hb
  intro hm;obtain ⟨y,hy,hyb⟩:=List.mem_map.1 hm;have:=dW? (hw1.mem y (List.mem_append_right _ hy));omega
 refine ⟨hko,[⟨g,E,cur.toList⟩]++M1,⟨hg.os.trans hw.os,hg.tape.trans hw.tape,hg.output.trans hw.output,Nat.le_trans hw.size hg.size,hold,by simpa using And.intro (by simpa using hgn) hnd1,fun y hy=>?_⟩,
  k _ _ (.inr ⟨g,cap,cur.toList,by rw [List.length_append],rfl,hbg,by rw [List.length_append];exact hnc,hcm,by simpa using hcs,by rw [List.length_append,yH];exact htk⟩)⟩
 rcases List.mem_cons.1 hy with rfl|hy
 ·simpa using hcell
 exact hM1 y hy
end
def sm {σ ρ β:Type} (f:σ→β) (g:ρ→β):σ ⊕ ρ→β
 | .inl s=>f s
 | .inr r=>g r
theorem fS_ {σ ρ β:Type} {f:σ→β} {g:ρ→β} {x:σ ⊕ ρ} {r:ρ} {v:β} (h:x = .inr r) (k:v=g r):v=sm f g x:=by rw [h];exact k
def ap {σ β:Type} (f:σ→β) (x:σ):β:=f x
theorem sK {α:Type} {l r:List α} {i:Nat} {x:α} (h:l.drop i=x::r):l[i]? = some x∧i<l.length∧l.drop (i+1)=r:=by
 have h1:i<l.length:=by
  rcases Nat.lt_or_ge i l.length with h'|h'
  ·exact h'
  rw [List.drop_of_length_le h'] at h;cases h
 rw [List.drop_eq_getElem_cons h1] at h;simp only [List.cons.injEq] at h;exact ⟨by rw [List.getElem?_eq_getElem h1,h.1],h1,h.2⟩
theorem XH {α:Type} {l:List α} {i:Nat} (h:l.drop i=[]):l.length≤i:=by simpa using h
theorem wi {n:Int} (h:-9223372036854775808≤n∧n≤9223372036854775807):IntKind.i64.wrap n=n:=by
 unfold IntKind.wrap
 simp [IntKind.bits,IntKind.signed]
 omega
theorem nxt {n i:Nat} (hi:i<n) (hm:n≤9223372036854775807):IntKind.i64.wrap ((i:Int)+1)=((i+1:Nat):Int):=by rw [wi (by omega)];omega
theorem yD {α:Type} {l:List α} {i:Nat} (h:l.drop i=[]):decide ((i:Int)<(l.length:Int))=false:=decide_eq_false (by have:=XH h;omega)
theorem wH {α:Type} {l r:List α} {i:Nat} {x:α} (h:l.drop i=x::r):decide ((i:Int)<(l.length:Int))=true:=decide_eq_true (by have:=(sK h).2.1;omega)
open Go.RowKit
def cl_ (s:Nat):Nat→List (Nat×Value)→List (List Part)→Prop
 | _,[],[]=>True
 | i,(j,v)::ps,q::qs=>j=i∧v.cells=(aU q).toArray∧sD q=s∧cl_ s (i+1) ps qs
 | _,_,_=>False
theorem KD {s:Nat}:∀ (parts:List (Nat×Value)) (qs:List (List Part)) (i:Nat) (pre post:List Value),cl_ s i parts qs→pre.length=i*s→post.length=parts.length*s →
  FillR (fun i=>some (i*s,s)) (pre++post) parts (pre++aU qs.flatten)
 | [],[],i,pre,post,_,_,hq=>by
  have:post=[]:=List.eq_nil_of_length_eq_zero (by simpa using hq);subst this;exact .nil _
 | (j,v)::ps,q::qs,i,pre,post,h,hp,hq=>by
  obtain ⟨rfl,hv,hs,h⟩:=h;have hl:(aU q).length=s:=(uP _).trans hs
  have hq':post.length=ps.length*s+s:=by rw [hq,List.length_cons,Nat.succ_mul]
  have ih:=KD ps qs (j+1) (pre++aU q) (post.drop s) h (by rw [List.length_append,hp,hl,Nat.succ_mul]) (by rw [List.length_drop];omega);rw [List.flatten_cons,qR,← List.append_assoc];refine .cons O hv hl (by rw [List.length_append,hp];omega) ?_ ih;rw [← hp,List.take_left,← List.drop_drop,List.drop_left]
 | [],_::_,_,_,_,h,_,_=>h.elim
 | _::_,[],_,_,_,h,_,_=>h.elim
section
variable {P:Program} {w0:World} {X:List Nat} {N:Nm} {S:Fr} {M:List Blk} {d:Option Tmp} {ty:TypeId} {ps:String} {af:Array Edge} {gd:Option (Nat×Bool)}
theorem cO {T E:TypeId} {xs:List (Nat×Operand)} {parts:List (Nat×Value)} {n s:Nat} {z:List Value} {K:Value→List Blk→Prop} (qs:List (List Part)) (out:List Part) (hT:P.underlying T=some (.slice E)) (hz:mQ P E=some z) (hs:(P.info? E).map (·.size)=some s)
  (hzl:z.length=s) (hn:n*s≤16777216) (hx:evP N S xs=some parts) (hpl:parts.length=n) (h:cl_ s 0 parts qs) (ho:qs.flatten=out) (k:∀ b,w0.heap.size≤b→K (.slice (some ⟨b,0,none⟩) n n) (⟨b,E,aU out⟩::M)) :
  OpR P w0 X N ⟨d,.buildSlice T n xs.toArray,ty,ps,af,gd⟩ S M K:=by
 subst ho;refine jB hT hz hs hzl hn hx ?_ k;have:=KD parts qs 0 [] ((List.replicate n z).flatten) h (by simp) (by rw [hpl];simp [hzl])
 simpa using this
theorem nV {x y:Operand} {tys:Array TypeId} {k:IntKind} {a b:Int} (hx:evO N S x=some (.int k a)) (hy:evO N S y=some (.int k b)):OpQ P w0 X N ⟨d,.call { callee:=.builtin .max,args:=#[x,y],argTypes:=tys },ty,ps,af,gd⟩ S M (.int k (if b > a then b else a)) :=
 oU fun w _=>by
  simp only [execOp,resolve,invoke,builtin,Sem.run_bind,Sem.run_pure,Result.andThen_ok,List.map_toArray,List.map_cons,List.map_nil,cC hx,cC hy,run_max_int2]
theorem CH {x y:Operand} {tys:Array TypeId} {k:IntKind} {a b:Int} (hx:evO N S x=some (.int k a)) (hy:evO N S y=some (.int k b)):OpQ P w0 X N ⟨d,.call { callee:=.builtin .min,args:=#[x,y],argTypes:=tys },ty,ps,af,gd⟩ S M (.int k (if b<a then b else a)) :=
 oU fun w _=>by
  simp only [execOp,resolve,invoke,builtin,Sem.run_bind,Sem.run_pure,Result.andThen_ok,List.map_toArray,List.map_cons,List.map_nil,cC hx,cC hy,run_min_int2]
end
theorem ao_ {P:Program} {w0:World} {X:List Nat} {N:Nm} {Q Q0:pP} {S0:Fr} {M0:List Blk} {x y:Code} (hK:∀ S M,W P w0 X N y Q0 S M→Q .normal S M) (mods:List Nat) (R:(Nat→Value)→List Blk→Prop)
  (hx:∀ K:Fr→List Blk→Prop,(∀ S M,PutOn mods S0 S→(∃ M',M'.Sublist M∧R (look S) M')→K S M)→W P w0 X N x (yJ K Q) S0 M0)
  (hy:∀ g M,R g M→W P w0 X N y Q0 (zQ S0 g mods) M):W P w0 X N x Q S0 M0:=by
 refine HK (hx (fun S M=>PutOn mods S0 S∧∃ M',M'.Sublist M∧R (look S) M') (fun S M h1 h2=>⟨h1,h2⟩)) ?_;intro e S M h
 cases e with
 | normal =>
  obtain ⟨hp,M',hs,hr⟩:=h;exact hK S M (GW (CM hp) (oA hs (hy _ _ hr)))
 | exit id=>exact h
 | goto l=>exact h
 | ret=>exact h
 | panic c=>exact h
 | outgrown=>exact h
theorem wQ {σ ρ β:Type} {f:σ→β} {g:ρ→β} {x:σ ⊕ ρ} {r:ρ} {v:β} (k:v=g r) (h:x = .inr r):v=sm f g x:=fS_ h k
open Go.RowKit
def slk (k s:Nat):Value→Value
 | .slice a len cap=>.slice (if cap=k then a else a.map (·.add (k*s))) (len - k) (cap - k)
 | v=>v
theorem Slr.drop {α:Type} {e:El α} {v:Value} {l:List α} {w:World} (h:Slr w e v l) {k:Nat} (hk:k≤l.length):Slr w e (slk k e.n v) (l.drop k):=by
 obtain ⟨p,c,rfl,hc,hm,h⟩:=h;refine ⟨_,c - k,by rw [List.length_drop];rfl,by rw [List.length_drop];omega,by unfold maxLen at *;omega,?_⟩;rcases h with ⟨h1,h2,h3⟩|⟨a,ha,hr⟩
 ·subst h1 h2 h3
  obtain rfl:k=0:=by simpa using hk
  exact .inl ⟨rfl,rfl,rfl⟩
 subst ha
 by_cases hck:c=k
 ·refine .inr ⟨a,by rw [if_pos hck],?_⟩
  have:l.drop k=[]:=List.drop_of_length_le (by omega);rw [this];intro j v hj;cases hj
 refine .inr ⟨a.add (k*e.n),by rw [if_neg hck];rfl,?_⟩;have h2:=hr.sub (k*e.n) ((l.length - k)*e.n);rw [VO,List.take_of_length_le (by rw [nQ,List.length_drop];exact Nat.le_refl _)] at h2;exact h2
section
variable {α:Type} {e:El α} {P:Program} {w0:World} {X:List Nat} {N:Nm} {S:Fr} {M:List Blk} {d:Option Tmp} {ty:TypeId} {ps:String} {af:Array Edge} {gd:Option (Nat×Bool)} {v:Value} {l:List α}
theorem SLe.drop (h:SLe w0 X M e v l) {k:Nat} (hk:k≤l.length):SLe w0 X M e (slk k e.n v) (l.drop k):=fun w hw=>(h w hw).drop hk
end
theorem yN {a b:Int} (h:(a==b)=true):a=b:=by simpa using h
theorem wM {a b:Int} (h:(a==b)=false):a≠b:=by simpa using h
section
variable {α:Type} {e:El α} {w0:World} {X:List Nat} {M:List Blk} {v:Value} {l:List α}
theorem EX:∀ l:List α,aU (l.flatMap e.ps)=rows e l
 | []=>rfl
 | x::l=>by
  rw [List.flatMap_cons,qR,EX l];simp [rows,El.cs]
theorem SLe.lit {b n:Nat} {T:TypeId} {qs:List Part} (h:(⟨b,T,aU qs⟩:Blk)∈M) (hn:l.length=n) (hm:n≤maxLen) (hq:qs=l.flatMap e.ps):SLe w0 X M e (.slice (some ⟨b,0,none⟩) n n) l :=
 SLe.mine h hn hm (by rw [hq];exact EX l)
theorem SLe.ap {w:World} (hw:Sat w0 X M w) (h:SLe w0 X M e v l):Slr w e v l:=h w hw
end
open Go.RowKit
section
variable {P:Program} {w0:World} {X:List Nat} {S:Fr} {M:List Blk} {d:Option Tmp} {ty:TypeId} {p:String} {af:Array Edge} {gd:Option (Nat×Bool)}
theorem HP {id:Nat} {Q:pP} (h:Q .normal S M):E9 id Q .normal S M:=h
theorem bA_ {next:Fr→List Blk→Prop} {Q:pP} (h:next S M):yJ next Q .normal S M:=h
abbrev cfn (g:Nat) (cap:List Value):Part:=⟨1,[.func (.func g) #[] cap.toArray],rfl,fun v h=>by rw [List.mem_singleton.1 h];rfl⟩
abbrev csl (a:Option Addr) (l c:Nat):Part:=⟨1,[.slice a l c],rfl,fun v h=>by rw [List.mem_singleton.1 h];rfl⟩
theorem eO_ {N:Nm} {n':Nat} {g:FuncId} {fn:Func} {c:Code} {xs:List Operand} {tys:Array TypeId} {args:List Value} {K:Value→List Blk→Prop} (he:kM P g=true) (hf:P.funcs[g]? = some fn) (hb:fn.body=some c) (hn:fn.ntmps=n')
  (ha:evL N S xs=some args) (hl:args.length≤n') (h:W P w0 X (pl n') c (oO P fn w0 X (pl n') K) (tZ 0 args) M):OpR P w0 X N ⟨d,.call { callee:=.value (.func g),args:=xs.toArray,argTypes:=tys },ty,p,af,gd⟩ S M K :=
 AP he ha fun w hw=>pJ hf hb hn hl hw h
theorem Sat.putO {w:World} {b:Nat} {o:Obj} (h:Sat w0 X M w) (hb:w0.heap.size≤b) (hd:w.heap[b]? = some o) (ho:o.isCells=false) (o':Obj):Sat w0 X M (w.putObj b o') :=
 ⟨h.os,h.tape,h.output,by rw [World.putObj_size];exact h.size,fun k hk hx=>(World.putObj_heap_other (by omega)).trans (h.old k hk hx),h.nodup,fun x hx=>by
  refine (World.putObj_heap_other (fun e=>?_)).trans (h.mem x hx);have:=h.mem x hx
  rw [e,hd] at this;cases this;cases ho⟩
theorem DG.lt {B:Nat} {w:World}:∀ {D:List Deferred},DG B D w→∀ e∈D,∃ b,e.target = .collected b∧b<w.heap.size
 | d::D,⟨⟨b,h1,_,h3,_⟩,h⟩,e,he=>by
  rcases List.mem_cons.1 he with rfl|he
  ·exact ⟨b,by rw [h1],dW? h3⟩
  exact DG.lt h e he
theorem DG.same {B:Nat} {w w':World}:∀ {D:List Deferred},DG B D w→(∀ (k:Nat) (o:Option (List Deferred)),w.heap[k]? = some (.deferred o)→w'.heap[k]? = some (.deferred o))→DG B D w'
 | [],_,_=>trivial
 | d::D,⟨⟨b,h1,h2,h3,h4⟩,h⟩,hk=>⟨⟨b,h1,h2,hk _ _ h3,h4⟩,DG.same h hk⟩
theorem O5 {fn:Func} {tmps:Array Value} {B n:Nat} {F:Fence} {R:Ending→World→Prop} (hB:w0.heap.size≤B):∀ (D:List Deferred) (w':World),DG B D w'→Sat w0 X M w' →
  (∀ w'',Sat w0 X M w''→w'.heap.size≤w''.heap.size→(∀ k,k<B→w''.heap[k]? = w'.heap[k]?)→∃ v,(results fn tmps).run P w'' = .ok v w''∧R (.returned v) w'')→LeavesInM F n P fn tmps R D .returning w'
 | [],w',_,hs,h=>h w' hs (Nat.le_refl _) fun _ _=>rfl
 | d::D,w',⟨⟨b,h1,h2,h3,h4⟩,hd⟩,hs,h=>by
  refine ⟨by simp,.inl ⟨b,w'.putObj b (.deferred none),by rw [h1],run_takeDeferred h3,O5 hB D _ ?_ (hs.putO (Nat.le_trans hB h2) h3 O _) fun w'' hs' hz hk=>h w'' hs' (by rw [World.putObj_size] at hz;exact hz) fun k hlt=>(hk k hlt).trans (World.putObj_heap_other (by omega))⟩⟩;clear h1 hs h
  revert hd h4
  induction D with
  | nil=>exact fun _ _=>trivial
  | cons e D ih =>
   rintro h4 ⟨⟨b',g1,g2,g3,g4⟩,hd⟩;refine ⟨⟨b',g1,g2,(World.putObj_heap_other (fun e'=>?_)).trans g3,g4⟩,ih (fun x hx=>h4 x (List.mem_cons_of_mem _ hx)) hd⟩;exact h4 e List.mem_cons_self (by rw [g1,e'])
def O4 (P:Program) (fn:Func) (w0:World) (X:List Nat) (N:Nm) (Q:pP) (S0:Fr):pP:=fun e S M =>
 (e = .normal∨e = .ret)∧(∃ v,∀ w,Sat w0 X M w→(results fn (act N S).tmps).run P w = .ok v w)∧(gst S=true→Q .ret S0 M)∧(gst S=false→Q .normal S0 M)
theorem c4_ {fn:Func} {N:Nm} {Q:pP} {S0:Fr} {e:Exit} (hr:fn.results = #[]) (he:e = .normal∨e = .ret) (hg:gst S=false) (h:Q .normal S0 M):O4 P fn w0 X N Q S0 e S M :=
 ⟨he,⟨.tuple #[],fun w _=>by simp [AQ,hr]⟩,fun h'=>(by rw [hg] at h';cases h'),fun _=>h⟩
theorem KR:∀ (l:List Value) (k:Nat),k+l.length≤1000000→gst (tZ k l)=false
 | [],_,_=>rfl
 | v::l,k,h=>by
  have h1:=KR l (k+1) (by simp only [List.length_cons] at h;omega)
  have h2:okD (some k)=true:=by simp [okD,Nat.blt_eq];simp only [List.length_cons] at h;omega
  exact (C1 (S:=tZ (k+1) l) (d:=some k) (v:=v) h2).trans h1
theorem aq_ {n n' gf:Nat} {g:Operand} {ps:Array Tmp} {assign body c:Code} {fn:Func} {lb:List Value} {Q:pP} (hg:evO (pl n) S g=some (.func (.func gf) #[] lb.toArray)) (he:kM P gf=true) (hf:P.funcs[gf]? = some fn) (hb:fn.body=some c)
  (hn:fn.ntmps=n') (hl:lb.length+1≤n') (hm:n'≤1000000)
  (h:∀ (l:Nat) (ρ:Loop),w0.heap.size≤l→ρ.params=ps→ρ.assign=assign→ρ.body=body→ρ.tmps=(act (pl n) S).tmps →
   W P w0 X ⟨n',.iter l ρ⟩ c (O4 P fn w0 X ⟨n',.iter l ρ⟩ Q S) (tZ 0 (.func (.yield l) #[] #[]::lb)) M):W P w0 X (pl n) (.rangeFunc g ps assign body) Q S M:=by
 intro B D w hB hd hr hw;refine wpIn_rangeFunc (fun fnid _=>?_);obtain ⟨ρ,hρ⟩:∃ ρ:Loop,ρ = { state:=.ready,pending:=none,fn:=fnid,tmps:=(act (pl n) S).tmps,params:=ps,assign,body,defers:=w.heap.size }:=⟨_,rfl⟩;obtain ⟨W1,hW1⟩:∃ W1,(w.alloc (.deferred (some []))).alloc (.loop ρ)=W1:=⟨_,rfl⟩
 have hE:Ext w W1:=by rw [← hW1];exact ((Below.refl _ w).alloc (Nat.le_refl _) _).alloc (by simp) _
 have hL1:W1.heap[w.heap.size+1]? = some (.loop ρ):=by
  rw [← hW1];have:=World.alloc_heap_new (w.alloc (.deferred (some []))) (.loop ρ);rwa [World.size_alloc] at this
 have hK1:W1.heap[w.heap.size]? = some (.deferred (some [])):=by
  rw [← hW1];exact (Below.heap_alloc _ _ _ (by simp)).trans (World.alloc_heap_new w _)
 have hz1:W1.heap.size=w.heap.size+2:=by rw [← hW1];simp
 refine ⟨w.heap.size+1,[{ target:=.collected w.heap.size,args:=#[] }],W1,{ target:=.fn (.func gf) lb.toArray,args:=#[.func (.yield (w.heap.size+1)) #[] #[]] },W1,gf,
  #[.func (.yield (w.heap.size+1)) #[] #[]]++lb.toArray,W1,?_,?_,fun _ _=>trivial,?_,fun e=>(by cases e),?_⟩
 ·rw [← hW1,hρ];exact run_enterLoop_outer _ _ _ _ _
 ·have hg':(qT D (pl n) S).eval g = .func (.func gf) #[] lb.toArray:=by rw [CW];exact cC hg
  simp only [resolve,hg']
  simp [go_sem]
 ·simp [invoke,go_sem,LB he]
 refine callsIn_of_wp_marks (F:=AH none) (n:=0) hf hb trivial ?_ O;have h1:=h (w.heap.size+1) ρ (by have:=hw.size;omega) (by rw [hρ]) (by rw [hρ]) (by rw [hρ]) (by rw [hρ]) W1.heap.size [] W1 (Nat.le_refl _) trivial ?_ (Sat.mono _ _ _ _ _ hw hE)
 ·rw [KC [] _ _ (by simp only [List.length_cons];exact hl)] at h1
  rw [hn]
  have harg:(Value.func (.yield (w.heap.size+1)) #[] #[]::lb).toArray = #[.func (.yield (w.heap.size+1)) #[] #[]]++lb.toArray:=by simp
  rw [harg] at h1;refine wpIn_mono h1 ?_;rintro e a w' ⟨D',S',M',rfl,hs,hk,hd',hr',hne,⟨v,hv⟩,hq1,hq2⟩
  have key:LeavesInM (AH none) 0 P fn (qT D' ⟨n',.iter (w.heap.size+1) ρ⟩ S').tmps (rangePost (AH none) 0 P (w.heap.size+1) (U8 w0 X (pl n) B w Q) { qT D (pl n) S with defers:=[{ target:=.collected w.heap.size,args:=#[] }]++(qT D (pl n) S).defers }) D' .returning w':=by
   refine O5 (w0:=w0) (X:=X) (M:=M') (by have:=hw.size;omega:w0.heap.size≤W1.heap.size) D' w' hd' hs fun w'' hs'' hz hsame=>⟨v,hv w'' hs'',?_⟩
   have hlt:w.heap.size+1<W1.heap.size:=by omega
   have hl2:∀ k,k<w.heap.size→w''.heap[k]? = w'.heap[k]?:=fun k hk=>hsame k (by omega);have hd2:w''.heap[w.heap.size]? = some (.deferred (some [])):=(hsame _ (by omega)).trans (hk.same _ _ (fun l ρ' e=>by cases e;omega) hK1 O)
   have hzz:w.heap.size≤w''.heap.size:=by have:=hk.size;omega
   have fin:∀ (r r':Loop) (e:Exit),w''.heap[w.heap.size+1]? = some (.loop r)→Q e S M'→U8 w0 X (pl n) B w Q e { qT D (pl n) S with defers:=[{ target:=.collected w.heap.size,args:=#[] }]++(qT D (pl n) S).defers } (w''.putObj (w.heap.size+1) (.loop r')):=by
    intro r r' e hl3 hq
    have hko:KO .plain w (w''.putObj (w.heap.size+1) (.loop r')):=⟨by rw [World.putObj_size];exact hzz,fun k o _ hk1 ho=>by
     have hlk:=dW? hk1;refine (World.putObj_heap_other (by omega)).trans ((hl2 k hlk).trans (hk.same k o (fun l ρ' e=>by cases e;omega) ?_ ho))
     exact (Below.block hE k hlk).trans hk1⟩
    refine ⟨{ target:=.collected w.heap.size,args:=#[] } :: D,S,M',rfl,hs''.putO (by have:=hw.size;omega) hl3 O _,hko,⟨⟨_,rfl,hB,(World.putObj_heap_other (by omega)).trans hd2,fun e he h=>?_⟩,DG.ko hr hko hd⟩,fun _ _ h=>(by cases h),hq⟩;obtain ⟨b,hb1,hb2⟩:=DG.lt hd e he;rw [h] at hb1;cases hb1;omega
   have hrec:=hr' (w.heap.size+1)
   cases hgs:gst S' with
   | false =>
    have hl3:=(hsame _ hlt).trans (hrec { ρ with state:=.ready,pending:=none } (by simp only [F4,hgs];rfl));exact ⟨none,_,run_endLoop hl3 (by simp),fin _ _ _ hl3 (hq2 hgs)⟩
   | true =>
    have hl3:=(hsame _ hlt).trans (hrec { ρ with state:=.done,pending:=some .ret } (by simp only [F4,hgs];rfl));exact ⟨some .ret,_,run_endLoop hl3 (by simp),wpIn_ret (fin _ _ _ hl3 (hq1 hgs))⟩
  rcases hne with rfl|rfl
  ·exact key
  exact key
 intro l ρ' hrec;have hg0:=KR (.func (.yield (w.heap.size+1)) #[] #[]::lb) 0 (by simp only [List.length_cons];omega);simp only [F4,hg0,cond_false,Option.some.injEq,Prod.mk.injEq] at hrec;obtain ⟨rfl,rfl⟩:=hrec;rw [hL1,hρ]
def R4 (S:Fr) (K:Value→Fr→List Blk→Prop):pP
 | .normal,_,M=>K (.bool true) S M
 | .ret,_,M=>K (.bool false) ((1000000,.bool false)::S) M
 | _,_,_=>False
theorem bp_ {K:Value→Fr→List Blk→Prop} {S':Fr} (h:K (.bool true) S M):R4 S K .normal S' M:=h
def SI:List Tmp→List Value→Fr→Fr
 | p::ps,v::vs,S=>SI ps vs ((p,v)::S)
 | _,_,S=>S
theorem ag_ (n:Nm):∀ (ps:List Tmp) (vs:List Value) (S:Fr),((ps.toArray.zip vs.toArray).foldl (fun tmps (t,a)=>tmps.setIfInBounds t a) (act n S).tmps)=(act n (SI ps vs S)).tmps:=by
 intro ps vs S;rw [List.zip_toArray,List.foldl_toArray]
 induction ps generalizing vs S with
 | nil=>rfl
 | cons p ps ih =>
  cases vs with
  | nil=>rfl
  | cons v vs =>
   simp only [List.zip_cons_cons,List.foldl_cons,SI];have:(act n S).tmps.setIfInBounds p v=(act n ((p,v)::S)).tmps:=congrArg Act.tmps (as_ n S (some p) v);rw [this];exact ih vs _
theorem bs_ {n n' l:Nat} {ρ:Loop} {f:Operand} {xs:List Operand} {tys:Array TypeId} {ps:List Tmp} {args:List Value} {assign body:Code} {S0:Fr} {K:Value→Fr→List Blk→Prop} (hf:evO ⟨n',.iter l ρ⟩ S f=some (.func (.yield l) #[] #[])) (ha:evL ⟨n',.iter l ρ⟩ S xs=some args)
  (hg:gst S=false) (hp:ρ.params=ps.toArray) (hpa:ρ.assign=assign) (hpb:ρ.body=body) (ht:ρ.tmps=(act (pl n) S0).tmps) (hs:args.length=ps.length) (hN:Nat.ble n' 1000000=true) (hlb:w0.heap.size≤l)
  (h:W P w0 X ⟨n,.round l ρ .ready⟩ assign (yJ (fun S' M'=>W P w0 X ⟨n,.round l ρ .busy⟩ body (R4 S K) S' M') (fun _ _ _=>False)) (SI ps args S0) M) :
  OpS P w0 X ⟨n',.iter l ρ⟩ ⟨d,.call { callee:=.value f,args:=xs.toArray,argTypes:=tys },ty,p,af,gd⟩ S M K:=by
 intro w hr hw;have hl:w.heap[l]? = some (.loop { ρ with state:=.ready,pending:=none }):=hr l _ (by simp only [F4,hg,cond_false]);have hy:=run_yield (P:=P) (args:=args.toArray) hl (by rw [hp];simpa using hs);unfold opw;rw [nJ]
 have hexec:(execOp (ev ⟨n',.iter l ρ⟩ S) ⟨d,.call { callee:=.value f,args:=xs.toArray,argTypes:=tys },ty,p,af,gd⟩).run P w=(Instr.yield l args.toArray).run P w:=by
  have hx:Array.map (ev ⟨n',.iter l ρ⟩ S) xs.toArray=args.toArray:=by rw [← wJ ha];simp
  simp only [execOp,resolve,cC hf,Deferred.ofValue,Sem.run_bind,Sem.run_pure,Result.andThen_ok,invoke,hx]
  simp
 rw [hexec,hy];refine roundIn_of_wpIn (F:=Fence.wide) trivial ?_
 have hrr:∀ st,w.heap[l]? = some (.loop { ρ with state:=st,pending:=none })→RecAt (.round l ρ st) (SI ps args S0) w:=fun st h l' ρ' e=>by cases e;exact h
 have h1:=h w.heap.size [] w (Nat.le_refl _) trivial (hrr _ hl) hw;have hz:qT [] ⟨n,.round l ρ .ready⟩ (SI ps args S0) = { tmps:=(act (pl n) (SI ps args S0)).tmps,defers:=[] }:=rfl;rw [hz,← ag_,← ht,← hp,← hpa] at h1;refine wpIn_mono h1 ?_;rintro e a1 w1 ⟨D1,S1,M1,rfl,hs1,hk1,hd1,hr1,q⟩
 cases e with
 | normal =>
  have hl1:w1.heap[l]? = some (.loop { ρ with state:=.ready,pending:=none }):=hr1 _ _ O;have hlt1:=dW? hl1;refine ⟨_,run_beginRound hl1 O,?_⟩;have hl2:(w1.putObj l (.loop { ρ with state:=.busy,pending:=none })).heap[l]? = some (.loop { ρ with state:=.busy,pending:=none }):=World.putObj_heap_same hlt1;have q1:W P w0 X ⟨n,.round l ρ .busy⟩ body (R4 S K) S1 M1:=q;have h2:=q1 w.heap.size D1 (w1.putObj l (.loop { ρ with state:=.busy,pending:=none })) (by rw [World.putObj_size];exact hk1.size) (hd1.same fun k o hk=>(World.putObj_heap_other (fun e=>by subst e;rw [hl1] at hk;cases hk)).trans hk)
   (fun l' ρ' e=>by cases e;exact hl2) (hs1.putO hlb hl1 O _)
  rw [← hpb] at h2;refine wpIn_mono h2 ?_;rintro e3 a3 w3 ⟨D3,S3,M3,rfl,hs3,hk3,hd3,hr3,q3⟩;have hl3:w3.heap[l]? = some (.loop { ρ with state:=.busy,pending:=none }):=hr3 _ _ O;have hlt3:=dW? hl3
  have hko:∀ o,KO (.iter l ρ) w (w3.putObj l o):=fun o=>⟨by rw [World.putObj_size];have:=hk1.size;have:=hk3.size;rw [World.putObj_size] at this;omega,fun k o hne hk ho=>by
   have hkl:=hne _ _ O
   refine (World.putObj_heap_other hkl).trans (hk3.same k o (fun _ _ e=>by cases e) ((World.putObj_heap_other hkl).trans (hk1.same k o (fun _ _ e=>by cases e) hk ho)) ho)⟩
  cases e3 with
  | normal =>
   refine ⟨_,_,run_endRound none hl3,.bool true,rfl,hko _,S,M3,fun _=>rfl,fun l' ρ' e=>?_,hs3.putO hlb hl3 O _,q3⟩;simp only [F4,hg,cond_false,Option.some.injEq,Prod.mk.injEq] at e;obtain ⟨rfl,rfl⟩:=e;exact World.putObj_heap_same hlt3
  | ret =>
   refine ⟨_,_,run_endRound (some .ret) hl3,.bool false,rfl,hko _,(1000000,.bool false)::S,M3,fun D=>?_,fun l' ρ' e=>?_,hs3.putO hlb hl3 O _,q3⟩
   ·unfold qT
    congr 2
    refine List.map_congr_left fun i hi=>?_;rw [vN,if_neg];have h1:i<n':=List.mem_range.1 hi;have h2:n'≤1000000:=Nat.le_of_ble_eq_true hN;intro e;omega
   have:gst ((1000000,.bool false)::S)=true:=rfl;simp only [F4,this,cond_true,Option.some.injEq,Prod.mk.injEq] at e;obtain ⟨rfl,rfl⟩:=e;exact World.putObj_heap_same hlt3
  | exit id=>exact q3.elim
  | goto t=>exact q3.elim
  | panic ch=>exact q3.elim
  | outgrown=>exact q3.elim
 | exit id=>exact q.elim
 | goto t=>exact q.elim
 | ret=>exact q.elim
 | panic ch=>exact q.elim
 | outgrown=>exact q.elim
theorem fC_ {N:Nm} {ops:List Oper} {Q:Fr→List Blk→Prop} {o:Oper} {l:List Oper} (hg:vL N ops S o=true) (h:OpS P w0 X N o S M (fun v S' M'=>WL P w0 X N ops Q l (sP S' o.dst v) M')) :
  WL P w0 X N ops Q (o::l) S M:=by
 simp only [WL];exact ⟨(rA hg).1,by rw [if_pos (rA hg).2];exact h⟩
end
end Go.Kn
namespace Go.Num
open Go Go.Kn
instance (n:Int):Decidable (I64 n):=by unfold I64;infer_instance
abbrev W:={n:Int // I64 n}
theorem wL (n:Int):I64 (IntKind.i64.wrap n):=by rw [z6];unfold I64;split<;>omega
abbrev wl (n:Int) (h:I64 n:=by decide):W:=⟨n,h⟩
def W.add (a b:W):W:=⟨IntKind.i64.wrap (a.1+b.1),wL _⟩
def W.sub (a b:W):W:=⟨IntKind.i64.wrap (a.1 - b.1),wL _⟩
def W.mul (a b:W):W:=⟨IntKind.i64.wrap (a.1*b.1),wL _⟩
def W.neg (a:W):W:=⟨IntKind.i64.wrap (0 - a.1),wL _⟩
def W.quo (a b:W):W:=⟨IntKind.i64.wrap (a.1.tdiv b.1),wL _⟩
theorem ZZ {a b:Int} (ha:I64 a):I64 (a.tmod b):=by
 have h:(a.tmod b).natAbs≤a.natAbs:=by rw [Int.natAbs_tmod];exact Nat.mod_le _ _
 by_cases h0:a = -9223372036854775808
 ·subst h0
  have h1:Int.tmod (-9223372036854775808) b≤0:=by rw [Int.neg_tmod];have:=Int.tmod_nonneg b (show (0:Int)≤9223372036854775808 by decide);omega
  unfold I64;omega
 unfold I64 at *;omega
def W.rem (a b:W):W:=⟨a.1.tmod b.1,ZZ a.2⟩
deriving instance DecidableEq for R
abbrev I:={r:R // r.Ok}
def I.dec (x:I):Z:=x.1.dec
def E (z:Z):I:=⟨z.enc,Z.enc_ok z⟩
def I0:I:=⟨⟨false,false,List.replicate 16 0⟩,⟨by simp,vM 16⟩⟩
theorem dQ (z:Z):(E z).dec=z:=yC z
theorem WC {a b:Z} (h:E a=E b):a=b:=by rw [← dQ a,← dQ b,h]
theorem cg1 {α:Type} (g:Z→α) {x:I} {a:Z} (h:x.dec=a):g x.1.dec=g a:=by subst h;rfl
theorem cg2 {α:Type} (g:Z→Z→α) {x y:I} {a b:Z} (h:x.dec=a) (k:y.dec=b):g x.1.dec y.1.dec=g a b:=by subst h k;rfl
instance:DecidableEq Z:=fun a b=>decidable_of_iff (a.o=b.o) ⟨fun h=>Z.ext h,fun h=>by rw [h]⟩
def pI (x:I):Part:=⟨18,x.1.cells,cE x.2,bO _⟩
theorem UM {a b:R} (h:a.cells=b.cells):a=b:=by
 cases a;cases b
 simp only [R.cells,List.cons.injEq,Value.bool.injEq] at h;obtain ⟨h1,h2,h3⟩:=h;rw [h1,h2,JI h3]
theorem cY {a b:I}:decide (a=b)=true ↔ (pI a).l=(pI b).l:=by
 rw [decide_eq_true_iff];exact ⟨fun h=>by rw [h],fun h=>Subtype.ext (UM h)⟩
def LI:List rS:=none::none::List.replicate 16 (some .u32)
theorem bG {a:I}:gH (pI a).l LI=true:=by
 show (AI _ none&&(AI _ none&&gH (uw a.1.w) (List.replicate 16 (some .u32))))=true
 rw [oL a.2.len];rfl
theorem ZK (z:Z):I64 z.sign:=by
 unfold Z.sign;split
 ·rename_i x _
  have h:x.sign = -1∨x.sign=0∨x.sign=1:=by
   rcases Int.lt_trichotomy x 0 with h|h|h
   ·exact .inl (Int.sign_eq_neg_one_of_neg h)
   ·subst h;exact .inr (.inl O)
   exact .inr (.inr (Int.sign_eq_one_of_pos h))
  unfold I64;omega
 decide
def Z.signW (z:Z):W:=⟨z.sign,ZK z⟩
theorem aF_ (a b:Z):I64 (Z.cmp a b):=by
 unfold Z.cmp;split<;>try decide
 unfold uN;split
 ·decide
 split<;>decide
def Z.cmpW (a b:Z):W:=⟨Z.cmp a b,aF_ a b⟩
theorem VQ (z:Z):I64 z.small.1:=by
 unfold Z.small;split
 ·split
  ·rename_i h;unfold I64;exact h
  decide
 decide
def Z.smallW (z:Z):W:=⟨z.small.1,VQ z⟩
theorem l9:dv [1]=1:=rfl
theorem rF {a:R} (ha:a.Ok):val a.w<65536 ^ 32:=by rw [IM];exact ha.vlt
theorem eg_ {n m k:Nat} (hn:n<65536 ^ k) (hm:m<65536 ^ k):n+m<65536 ^ (k+1):=by rw [Nat.pow_succ];omega
theorem cR_ {n m k:Nat} (hn:n<65536 ^ k):n / m<65536 ^ k:=Nat.lt_of_le_of_lt (Nat.div_le_self _ _) hn
theorem V6 (a:R):I64 (j8 a):=by
 by_cases h:iE a=true
 ·have h1:j8 a=sgn a.neg (val a.w):=by unfold j8;rw [if_pos h]
  unfold iE at h;rw [Bool.and_eq_true,decide_eq_true_iff] at h;rw [h1];unfold I64;cases a.neg<;>simp only [tI,tA]<;>omega
 unfold j8;rw [if_neg h];decide
def dV (a:I):W:=⟨j8 a.1,V6 a.1⟩
def W.fdiv (a b:W):W:=⟨IntKind.i64.wrap (a.1.fdiv b.1),wL _⟩
theorem MU {a b:I} (h:(iE a.1&&(iE b.1&&((dV b).1 != 0)))=true):(dV a).1 ≠ -9223372036854775808∧(dV b).1≠0∧(dV a).1.fdiv (dV b).1=(W.fdiv (dV a) (dV b)).1:=by
 simp only [Bool.and_eq_true,bne_iff_ne] at h;obtain ⟨h1,h2,h0⟩:=h;have h3:=(mI a.2 h1).2.2.2;refine ⟨fun hc=>?_,h0,(cB (XK h3 h0)).symm⟩;have:j8 a.1 = -9223372036854775808:=hc;omega
theorem bU_ {x y:Bool} {n:Nat} (h:(x||(y||(((dl n).length:Int)==0)))=false):0<n:=by
 simp only [Bool.or_eq_false_iff,beq_eq_false_iff_ne] at h;obtain ⟨_,_,h⟩:=h;rcases Nat.eq_zero_or_pos n with rfl|hn
 ·exact absurd (by rw [rJ];rfl) h
 exact hn
structure A3 (α:Type) where
 x:α
 y:α
 z:α
deriving DecidableEq
structure A4 (α:Type) where
 x:α
 y:α
 z:α
 t:α
deriving DecidableEq
structure Rt where
 n:I
 d:I
deriving DecidableEq
structure Dir where
 v:A3 W
 e:W
deriving DecidableEq
end Go.Num
namespace Go.Kn
open Go
def NJ (Q:pP):pP
 | .goto _,_,_=>False
 | e,S,M=>Q e S M
section
variable {P:Program} {w0:World} {X:List Nat} {N:Nm} {Q:pP} {S:Fr} {M:List Blk} {c:Code}
theorem ap_ {l:Nat} (h:Q .normal S M):W P w0 X N (.label l) Q S M:=fun B D w hB hd hr hw=>wpIn_label ⟨D,S,M,rfl,hw,.refl _ _,hd,hr,h⟩
theorem P4 {b:Frame} {a:Act} {k:List Item} {cs:List Frame} {w:World} {c:Code}:step P (lone (b.atR a (.code (.scope c)::k)) cs w) = .next (lone (b.atR a (.code c::.inScope c::k)) cs w) :=
 step_lone_go (by simp [stepG,stepG.exec,Frame.atR])
theorem JZ {b:Frame} {a:Act} {k:List Item} {cs:List Frame} {w:World} {c:Code}:step P (lone (b.atR a (.inScope c::k)) cs w) = .next (lone (b.atR a k) cs w) :=
 step_lone_go (by simp [stepG,stepG.exec,Frame.atR])
theorem DD {F:Fence} {n:Nat} {c:Code} {Q:Exit→Act→World→Prop} {a:Act} {w:World} (h:c.wpIn F n P (Exit.noGoto Q) a w):(Code.scope c).wpIn F n P Q a w:=by
 intro b k cs hro hb hr;obtain ⟨e,a₁,w₁,hq,harr⟩:=h b (.inScope c::k) cs hro hb hr;have s1:StepsIn (Machine.fenced P F) P (lone (b.atR a (.code (.scope c)::k)) cs w) (lone (b.atR a (.code c::.inScope c::k)) cs w):=.one (fenced_calm hb hr O) P4
 cases e with
 | normal=>exact ⟨.normal,a₁,w₁,hq,StepsIn.trans s1 (StepsIn.trans harr (.one (fenced_calm hb hr O) JZ))⟩
 | exit id=>exact ⟨.exit id,a₁,w₁,hq,.of_steps s1 ⟨fun k' hk=>harr.1 k' (by simp [exitTo,hk]),fun hr' hk=>harr.2 hr' (by simp [exitTo,hk])⟩⟩
 | goto l=>exact hq.elim
 | ret=>exact ⟨_,a₁,w₁,hq,.of_steps s1 harr⟩
 | panic ch=>exact ⟨_,a₁,w₁,hq,.of_steps s1 harr⟩
 | outgrown=>exact ⟨_,a₁,w₁,hq,.of_steps s1 harr⟩
theorem ar_ (h:W P w0 X N c (NJ Q) S M):W P w0 X N (.scope c) Q S M:=by
 intro B D w hB hd hr hw;refine DD (wpIn_mono (h B D w hB hd hr hw) ?_);rintro e a w' ⟨D',S',M',rfl,hs,hk,hd',hr',q⟩
 cases e with
 | normal=>exact ⟨D',S',M',rfl,hs,hk,hd',hr',q⟩
 | exit id=>exact ⟨D',S',M',rfl,hs,hk,hd',hr',q⟩
 | goto l=>exact q.elim
 | ret=>exact ⟨D',S',M',rfl,hs,hk,hd',hr',q⟩
 | panic c=>exact ⟨D',S',M',rfl,hs,hk,hd',hr',q⟩
 | outgrown=>exact ⟨D',S',M',rfl,hs,hk,hd',hr',q⟩
theorem IZ (h:Q .normal S M):NJ Q .normal S M:=h
theorem P0 (h:Q .ret S M):NJ Q .ret S M:=h
theorem P1 {id:Nat} (h:Q (.exit id) S M):NJ Q (.exit id) S M:=h
end
end Go.Kn
namespace Go.Num
open Go Go.Kn
theorem HF {a b:R} (ha:a.Ok) (hb:b.Ok) (ga:a.good=true) (gb:b.good=true):Z.cmp a.dec b.dec=uN (sgn a.neg (val a.w)) (sgn b.neg (val b.w)):=by
 unfold Z.cmp;rw [cJ ha ga,cJ hb gb]
theorem TE {a:R} (ga:a.good=true) (h:a.neg=true):0<val a.w:=by
 unfold R.good R.valid R.zero at ga;rw [h] at ga
 cases hb:a.bad
 ·rw [hb] at ga
  refine Nat.pos_of_ne_zero fun h0=>?_;rw [h0] at ga;simp at ga
 rw [hb] at ga;simp at ga
theorem W8 {a b:R} (ha:a.Ok) (hb:b.Ok) (ga:a.good=true) (gb:b.good=true) (hn:a.neg≠b.neg) (h:a.neg=true):(-1:Int)=Z.cmp a.dec b.dec:=by
 have hb2:b.neg=false:=by cases h2:b.neg;rfl;rw [h,h2] at hn;exact absurd O hn
 have h0:=TE ga h;rw [HF ha hb ga gb,h,hb2];unfold uN sgn;rw [if_pos (by simp only [if_true,Bool.false_eq_true,if_false];omega)]
theorem W7 {a b:R} (ha:a.Ok) (hb:b.Ok) (ga:a.good=true) (gb:b.good=true) (hn:a.neg≠b.neg) (h:a.neg=false):(1:Int)=Z.cmp a.dec b.dec:=by
 have hb2:b.neg=true:=by cases h2:b.neg;rw [h,h2] at hn;exact absurd O hn;rfl
 have h0:=TE gb hb2;rw [HF ha hb ga gb,h,hb2];unfold uN sgn;rw [if_neg (by simp only [if_true,Bool.false_eq_true,if_false];omega),if_neg (by simp only [if_true,Bool.false_eq_true,if_false];omega)]
theorem W9 {a b:R} (ha:a.Ok) (hb:b.Ok) (ga:a.good=true) (gb:b.good=true) (hn:a.neg=b.neg) (h:a.neg=true):uN (val b.w) (val a.w)=Z.cmp a.dec b.dec:=by
 rw [HF ha hb ga gb,← hn,h];unfold uN sgn;simp only [if_true]
 split<;>split<;>(try split)<;>(try split)<;>omega
theorem XA {a b:R} (ha:a.Ok) (hb:b.Ok) (ga:a.good=true) (gb:b.good=true) (hn:a.neg=b.neg) (h:a.neg=false):uN (val a.w) (val b.w)=Z.cmp a.dec b.dec:=by
 rw [HF ha hb ga gb,← hn,h];unfold sgn;simp only [Bool.false_eq_true,if_false]
structure A2 (α:Type) where
 x:α
 y:α
def cf:Nat→W→I→I→I→I→W
 | 0,o,_,_,_,_=>o
 | k+1,o,a,b,c,d =>
  bif ((Z.cmpW (Z.quo a.dec b.dec) (Z.quo c.dec d.dec)).1 != 0) then W.mul o (Z.cmpW (Z.quo a.dec b.dec) (Z.quo c.dec d.dec))
  else bif (((Z.signW (Z.rem a.dec b.dec)).1==0)||((Z.signW (Z.rem c.dec d.dec)).1==0)) then W.mul o (W.sub (Z.signW (Z.rem a.dec b.dec)) (Z.signW (Z.rem c.dec d.dec)))
  else cf k (W.neg o) b (E (Z.rem a.dec b.dec)) d (E (Z.rem c.dec d.dec))
def cfN (b:I):Nat:=match b.dec.o with|some v=>v.toNat|none=>0
def cfP (n:Nat) (b:I):Prop:=∃ v:Int,b.dec.o=some v∧0<v∧v.toNat≤n
theorem KG {b:I} (h:0<(Z.signW b.dec).1):cfP (cfN b) b:=by
 have h:0<b.dec.sign:=h;unfold Z.sign at h
 cases ho:b.dec.o with
 | none=>rw [ho] at h;exact absurd h (by decide)
 | some v=>rw [ho] at h;exact ⟨v,ho,Int.sign_pos_iff.1 h,by unfold cfN;rw [ho];exact Nat.le_refl _⟩
theorem OE {n:Nat} {b:I} (h:cfP n b):∃ m,n=m+1:=by
 obtain ⟨v,_,h1,h2⟩:=h;exact ⟨n - 1,by omega⟩
theorem ed_ {k:Nat} {o r:W} {a b c d:I} (h:cf (k+1) o a b c d=r) (h1:((Z.cmpW (Z.quo a.dec b.dec) (Z.quo c.dec d.dec)).1 != 0)=true):W.mul o (Z.cmpW (Z.quo a.dec b.dec) (Z.quo c.dec d.dec))=r:=by
 rw [cf,h1] at h;exact h
theorem cP_ {k:Nat} {o r:W} {a b c d:I} (h:cf (k+1) o a b c d=r) (h1:((Z.cmpW (Z.quo a.dec b.dec) (Z.quo c.dec d.dec)).1 != 0)=false)
  (h2:(((Z.signW (Z.rem a.dec b.dec)).1==0)||((Z.signW (Z.rem c.dec d.dec)).1==0))=true):W.mul o (W.sub (Z.signW (Z.rem a.dec b.dec)) (Z.signW (Z.rem c.dec d.dec)))=r:=by
 rw [cf,h1,h2] at h;exact h
theorem cO_ {k:Nat} {o r:W} {a b c d:I} (h:cf (k+1) o a b c d=r∧cfP (k+1) b) (h1:((Z.cmpW (Z.quo a.dec b.dec) (Z.quo c.dec d.dec)).1 != 0)=false)
  (h2:(((Z.signW (Z.rem a.dec b.dec)).1==0)||((Z.signW (Z.rem c.dec d.dec)).1==0))=false):cf k (W.neg o) b (E (Z.rem a.dec b.dec)) d (E (Z.rem c.dec d.dec))=r∧cfP k (E (Z.rem a.dec b.dec)):=by
 obtain ⟨h,v,hv,h0,hk⟩:=h;rw [cf,h1,h2] at h;refine ⟨h,?_⟩;rw [Bool.or_eq_false_iff] at h2
 have h3:(Z.rem a.dec b.dec).sign≠0:=fun h=>by have:=h2.1;rw [show (Z.signW (Z.rem a.dec b.dec)).1=(Z.rem a.dec b.dec).sign from rfl,h] at this;exact absurd this (by decide)
 cases ha:a.dec.o with
 | none=>rw [Z.rem,nS (.inl ha)] at h3;exact absurd O h3
 | some u =>
  have hr:Z.rem a.dec b.dec=Z.of (u.fmod v):=by rw [Z.rem,dH ha hv,if_neg (by omega)]
  have h4:0≤u.fmod v:=Int.fmod_nonneg_of_pos _ h0;have h5:u.fmod v<v:=Int.fmod_lt_of_pos _ h0;have h6:(u.fmod v).natAbs<4294967296 ^ 16:=Nat.lt_of_le_of_lt (by omega) (b.dec.h v hv);refine ⟨u.fmod v,?_,?_,by omega⟩
  ·rw [dQ,hr,Z.of_some h6]
  have h8:u.fmod v≠0:=fun h7=>h3 (by rw [hr,h7];rfl);omega
structure A9 (α:Type) where
 x0:α
 x1:α
 x2:α
 x3:α
 x4:α
 x5:α
 x6:α
 x7:α
 x8:α
deriving DecidableEq
structure Iv where
 lo:Rt
 hi:Rt
deriving DecidableEq
def W.max (a b:W):W:=bif decide (a.1<b.1) then b else a
def W.min (a b:W):W:=bif decide (b.1<a.1) then b else a
theorem W.max_1 (a b:W):(if b.1 > a.1 then b.1 else a.1)=(W.max a b).1:=by unfold W.max;by_cases h:a.1<b.1<;>simp [h]
theorem W.min_1 (a b:W):(if b.1<a.1 then b.1 else a.1)=(W.min a b).1:=by unfold W.min;by_cases h:b.1<a.1<;>simp [h]
def elW:El W:=⟨1,fun x=>[ci .i64 x.1],fun _=>rfl⟩
def elI:El I:=⟨18,fun x=>[pI x],fun _=>rfl⟩
def UP:El Rt:=⟨36,fun x=>[pI x.n,pI x.d],fun _=>rfl⟩
def elV:El (A3 W):=⟨3,fun x=>[ci .i64 x.x.1,ci .i64 x.y.1,ci .i64 x.z.1],fun _=>rfl⟩
theorem W.rem_lt (p:W) {q:W} (h:(q.1 != 0)=true):(W.rem p q).1.natAbs<q.1.natAbs:=by
 have h0:q.1≠0:=by simpa using h
 show (p.1.tmod q.1).natAbs<_
 rw [Int.natAbs_tmod];exact Nat.mod_lt _ (by omega)
theorem BO {a:Int} (h:(a != 0)=true):a≠0:=by simpa using h
theorem wX {a:Int} (h:(a==0)=false):a≠0:=by simpa using h
def W.z:W:=⟨0,by decide⟩
theorem cL {α:Type} {l:List α} {i:Nat} (d:α) (h:i<l.length):l[i]? = some (l.getD i d):=by simp [h]
theorem cK_ {n b e:Nat} (h:n<(2 ^ b) ^ e):bl n≤b*e:=xI (by rw [Nat.pow_mul];exact h)
theorem Z.bits_le (z:Z):z.bits≤512:=by
 unfold Z.bits
 split
 ·rename_i x hx
  have:=z.h x hx;exact cK_ (b:=32) (e:=16) this
 omega
def Z.bitsW (z:Z):W:=⟨(z.bits:Nat),by have:=Z.bits_le z;unfold I64;omega⟩
def W.shl (a b:W):W:=⟨IntKind.i64.wrap (a.1*2 ^ (Min.min b.1.toNat 64)),wL _⟩
theorem wx {n m:Int} (h:n=m) (h1:-9223372036854775808≤m) (h2:m≤9223372036854775807):IntKind.i64.wrap n=m:=by subst h;exact wi ⟨h1,h2⟩
open Go
def W.cv (n:Int):W:=⟨IntKind.i64.wrap n,wL n⟩
theorem tB {c:Bool} {a b:W} (ha:a.1≠0) (hb:b.1≠0):(bif c then a else b).1≠0:=by cases c<;>assumption
theorem W.neg_ne {a:W} (h:a.1≠0):(W.neg a).1≠0:=by
 have h2:=a.2;unfold I64 at h2
 show IntKind.i64.wrap (0 - a.1)≠0
 rw [z6];split<;>omega
def Rt0:Rt:=⟨I0,I0⟩
structure Met where
 a:Iv
 is:Bool
deriving DecidableEq
def Z.shl (z:Z) (k:Int):Z:=EQ (fun v=>Z.of (v*2 ^ k.toNat)) z
theorem shq (k:Nat) (hk:0<k) {m:Nat} (h:(m:Int)≤9223372036854775807):IntKind.i64.wrap ((m:Int).tdiv (k:Int))=((m / k:Nat):Int):=by
 rw [Int.tdiv_eq_ediv_of_nonneg (Int.natCast_nonneg m),← Int.natCast_ediv];have h1:m / k≤m:=Nat.div_le_self _ _;generalize m / k=q at *;exact wi ⟨by omega,by omega⟩
theorem shr (k:Nat) (m:Nat):(m:Int).tmod (k:Int)=((m % k:Nat):Int):=by
 rw [Int.tmod_eq_emod_of_nonneg (Int.natCast_nonneg m),← Int.natCast_emod]
def shw (a:List Nat) (k:Nat):List Nat:=List.replicate k 0++a.take (16 - k)
theorem C7 {a:List Nat} {k:Nat} (h:a.length=16) (hk:k≤16):(shw a k).length=16:=by simp [shw,h];omega
theorem TV {a:List Nat} {k:Nat} (h:Lim a):Lim (shw a k):=by
 intro x hx;rcases List.mem_append.1 hx with hx|hx
 ·rw [(List.mem_replicate.1 hx).2];decide
 exact h x (List.mem_of_mem_take hx)
theorem aH_ {a:R} (h:a.Ok) {k:Nat} (hk:k≤15):((uw (List.replicate 16 0)).take k++(a.cells.drop 2).take (16 - k))++(uw (List.replicate 16 0)).drop (k+(16 - k))=uw (shw a.w k):=by
 have e:k+(16 - k)=16:=by omega
 rw [e];have e1:a.cells.drop 2=uw a.w:=rfl;rw [e1];unfold uw shw;rw [List.map_append,← List.map_take,← List.map_take,← List.map_drop,List.take_replicate,List.drop_replicate];simp only [Nat.sub_self,List.replicate_zero,List.map_nil,List.append_nil];rw [Nat.min_eq_left (by omega)]
theorem QA {a:List Nat} {n:Nat} (ha:Lim a) (hn:n≤a.length) (h:val a<4294967296 ^ n):val (a.take n)=val a:=by
 have h1:=tQ (a.take n) (a.drop n);rw [List.take_append_drop,List.length_take,Nat.min_eq_left hn] at h1;rcases Nat.eq_zero_or_pos (val (a.drop n)) with h0|h0
 ·rw [h0] at h1;omega
 have:4294967296 ^ n≤4294967296 ^ n*val (a.drop n):=Nat.le_mul_of_pos_right _ h0;omega
theorem DA:(4294967296:Nat) ^ 16=2 ^ 512:=by decide +kernel
theorem bv_ {a:List Nat} {m:Nat} (hl:a.length=16) (ha:Lim a) (h:val a*2 ^ m<4294967296 ^ 16) (hm:m<512):val (shw a (m / 32))*2 ^ (m % 32)=val a*2 ^ m:=by
 have e:(2:Nat) ^ m=4294967296 ^ (m / 32)*2 ^ (m % 32):=by
  rw [show (4294967296:Nat)=2 ^ 32 from rfl,← Nat.pow_mul,← Nat.pow_add];congr 1;omega
 have hk:m / 32≤15:=by omega
 have h1:val a<4294967296 ^ (16 - m / 32):=by
  have h2:val a*4294967296 ^ (m / 32)≤val a*2 ^ m:=by rw [e];exact Nat.mul_le_mul_left _ (Nat.le_mul_of_pos_right _ (Nat.pow_pos (by decide)))
  have h3:(4294967296:Nat) ^ 16=4294967296 ^ (16 - m / 32)*4294967296 ^ (m / 32):=by rw [← Nat.pow_add];congr 1;omega
  rw [h3] at h;exact Nat.lt_of_mul_lt_mul_right (Nat.lt_of_le_of_lt h2 h)
 unfold shw;rw [tQ,qP,List.length_replicate,QA ha (by omega) h1,e,Nat.zero_add];rw [Nat.mul_comm (4294967296 ^ (m / 32)),Nat.mul_assoc]
theorem ZG (b:Bool) (n k:Nat):sgn b n*(k:Int)=sgn b (n*k):=by
 cases b<;>simp [sgn,Int.neg_mul]
theorem NM {a:R} (ha:a.Ok) (ga:a.good=true) (m:Nat):Z.shl a.dec (m:Int)=Z.of (sgn a.neg (val a.w*2 ^ m)):=by
 unfold Z.shl;rw [jL (cJ ha ga),← ZG]
 simp
theorem zA {a:R} (ha:a.Ok) (ga:a.good=true):a.dec.bits=bl (val a.w):=by
 unfold Z.bits;rw [cJ ha ga];simp only
 congr 1
 cases a.neg<;>simp [sgn]
theorem eW_ {v m:Nat} (h:bl v+m≤512):v*2 ^ m<4294967296 ^ 16:=by
 rw [DA]
 calc v*2 ^ m<2 ^ bl v*2 ^ m:=Nat.mul_lt_mul_of_pos_right (FS v) (Nat.pow_pos (by decide))
  _=2 ^ (bl v+m):=(Nat.pow_add _ _ _).symm
  _≤2 ^ 512:=Nat.pow_le_pow_right (by decide) h
theorem ZJ {a:R} (ha:a.Ok) (ga:a.good=true) {m:Nat} (h:a.dec.bits+m≤512) (hm:m<512) :
  R.mk false (a.neg && !(val (toL 16 (val (shw a.w (m / 32))*2 ^ (m % 32)))==0)) (toL 16 (val (shw a.w (m / 32))*2 ^ (m % 32)))=(Z.shl a.dec (m:Int)).enc:=by
 rw [zA ha ga] at h;have h1:=eW_ h;rw [bv_ ha.len ha.lim h1 hm,NM ha ga];exact oI a.neg h1
theorem ZI {a:R} (ha:a.Ok) (ga:a.good=true) (hs:a.dec.sign≠0) {m:Nat} (h:512<a.dec.bits+m∨512≤m):Z.bad.enc=(Z.shl a.dec (m:Int)).enc:=by
 rw [zA ha ga] at h;have hp:=BK ha ga hs;rw [NM ha ga,Z.of_big]
 have hn:(sgn a.neg (val a.w*2 ^ m)).natAbs=val a.w*2 ^ m:=by
  generalize val a.w*2 ^ m=q
  cases a.neg<;>simp [sgn]
 rw [hn,DA];rw [Nat.not_lt];have hb:=N8 (n:=val a.w) (by omega)
 have hb1:1≤bl (val a.w):=by
  rcases Nat.eq_zero_or_pos (bl (val a.w)) with h0|h0
  ·have:=FS (val a.w);rw [h0] at this;omega
  exact h0
 calc 2 ^ 512≤2 ^ (bl (val a.w) - 1+m):=Nat.pow_le_pow_right (by decide) (by omega)
  _=2 ^ (bl (val a.w) - 1)*2 ^ m:=Nat.pow_add _ _ _
  _≤val a.w*2 ^ m:=Nat.mul_le_mul_right _ hb
theorem bt_ {a:R} (ha:a.Ok) (ga:a.good=true) (hs:a.dec.sign=0) (m:Nat):a=(Z.shl a.dec (m:Int)).enc:=by
 have hv:val a.w=0:=by
  rcases Nat.eq_zero_or_pos (val a.w) with h|h
  ·exact h
  exfalso
  unfold Z.sign at hs;rw [cJ ha ga] at hs;simp only at hs;have:=Int.sign_eq_zero_iff_zero.1 hs
  revert this
  cases a.neg<;>simp [sgn]<;>omega
 have h2:Z.shl a.dec (m:Int)=a.dec:=by
  rw [NM ha ga,hv,Nat.zero_mul];unfold R.dec;rw [if_pos ga,hv]
 rw [h2];exact (G1 ha ga).symm
theorem OJ {a:R} (h:a.Ok) {k:Nat} (hk:k≤15):(uw (List.replicate 16 0)).take (0+(k:Int).toNat*1)++(a.cells.drop (0+2+(0:Int).toNat*1)).take (min (((16:Nat):Int).toNat - (0:Int).toNat) (((16:Nat):Int).toNat - (k:Int).toNat)*1)++(uw (List.replicate 16 0)).drop (0+(k:Int).toNat*1+min (((16:Nat):Int).toNat - (0:Int).toNat) (((16:Nat):Int).toNat - (k:Int).toNat)*1)=uw (shw a.w k):=by
 have:=aH_ h hk
 have e1:min (((16:Nat):Int).toNat - (0:Int).toNat) (((16:Nat):Int).toNat - (k:Int).toNat)*1=16 - k:=by
  have:((16:Nat):Int).toNat=16:=rfl;have:(0:Int).toNat=0:=rfl;omega
 have e2:0+(k:Int).toNat*1=k:=by omega
 have e3:0+2+(0:Int).toNat*1=2:=rfl;rw [e1,e2,e3];exact this
theorem eC_ {a b c:Bool} (h:(a||(b||c))=false):b=false:=(Bool.or_eq_false_iff.1 (Bool.or_eq_false_iff.1 h).2).1
end Go.Num
namespace Go.Kn
open Go.RowKit
def a6_:List Value→Nat→Option Value
 | [],_=>none
 | v::_,0=>some v
 | _::l,i+1=>a6_ l i
theorem PA:∀ {l:List Value} {i:Nat} {v:Value},a6_ l i=some v→l[i]? = some v
 | [],_,_,h=>by cases h
 | _::_,0,_,h=>by simpa [a6_] using h
 | _::l,i+1,_,h=>by simpa using PA (l:=l) h
def XI (N:Nm) (S:Fr):Op→Option Value
 | .move x=>evO N S x
 | .assign x=>evO N S x
 | .pick c a b=>match evO N S c with
  | some (.bool t)=>bif t then evO N S a else evO N S b
  | _=>none
 | .nilCheck x=>match evO N S x with
  | some (.pointer (some a))=>some (.pointer (some a))
  | _=>none
 | .extract x i=>match evO N S x with
  | some (.tuple vs)=>a6_ vs.toList i
  | _=>none
 | .unOp u _ x=>match u,evO N S x with
  | .not,some (.bool a)=>some (.bool (!a))
  | .neg,some (.int k a)=>some (.int k (k.wrap (0 - a)))
  | _,_=>none
 | .binOp b _ x y _=>match evO N S x with
  | some (.int k a)=>match evO N S y with
   | some (.int k' c)=>if k=k' then (match b with
    | .add=>some (.int k (k.wrap (a+c)))
    | .sub=>some (.int k (k.wrap (a - c)))
    | .mul=>some (.int k (k.wrap (a*c)))
    | .eql=>some (.bool (a==c))
    | .neq=>some (.bool (a != c))
    | .lss=>some (.bool (decide (a<c)))
    | .leq=>some (.bool (decide (a≤c)))
    | .gtr=>some (.bool (decide (c<a)))
    | .geq=>some (.bool (decide (c≤a)))
    | _=>none) else none
   | _=>none
  | _=>none
 | _=>none
def OO (N:Nm) (ops:List Oper) (S:Fr) (o:Oper):Option Value:=bif okD o.dst then (bif Region.wanted o (yld N ops S) then XI N S o.op else some undef) else none
section
variable {P:Program} {w0:World} {X:List Nat} {N:Nm} {S:Fr} {M:List Blk}
theorem XJ {o:Oper} {v:Value} (h:XI N S o.op=some v):OpQ P w0 X N o S M v:=by
 obtain ⟨d,op,ty,ps,af,gd⟩:=o
 dsimp only at h
 cases op<;>simp only [XI] at h<;>try (cases h;done)
 case move x=>exact kN h
 case assign x=>exact YT h
 case pick c a b =>
  split at h
  ·rename_i t hc
   refine do_ hc ?_
   cases t<;>simpa using h
  ·cases h
 case nilCheck x =>
  split at h
  ·rename_i a hx;cases h;exact eJ_ hx
  ·cases h
 case extract x i =>
  split at h
  ·rename_i vs hx;exact VG hx (by rw [← Array.getElem?_toList];exact PA h)
  ·cases h
 case unOp u T x =>
  split at h
  ·rename_i a hx;cases h;exact eK_ hx
  ·rename_i k a hx;cases h;exact Y0 hx
  ·cases h
 case binOp b T x y yT =>
  split at h
  ·rename_i k a hx
   split at h
   ·rename_i k' c hy
    split at h
    ·rename_i hk
     subst hk
     cases b<;>simp only at h<;>first|(cases h;done)|(cases h;first|exact i4 hx hy|exact o9 hx hy|exact TJ hx hy|exact eE_ hx hy|exact b6_ hx hy|exact eI_ hx hy|exact eH_ hx hy|exact eG_ hx hy|exact eF_ hx hy)
    ·cases h
   ·cases h
  ·cases h
theorem zJ {ops:List Oper} {o:Oper} {v:Value} (h:OO N ops S o=some v) :
  okD o.dst=true∧((Region.wanted o (yld N ops S)=true∧OpQ P w0 X N o S M v)∨(Region.wanted o (yld N ops S)=false∧v=undef)):=by
 unfold OO at h
 cases hk:okD o.dst
 ·rw [hk] at h;cases h
 refine ⟨rfl,?_⟩;rw [hk] at h
 cases hw:Region.wanted o (yld N ops S)
 ·rw [hw] at h;cases h;exact .inr ⟨rfl,rfl⟩
 rw [hw] at h;exact .inl ⟨rfl,XJ h⟩
theorem QD {ops:List Oper} {o:Oper} (h1:okD o.dst=true) (h2:Region.wanted o (yld N ops S)=true):vL N ops S o=true:=by unfold vL;rw [h1,h2];rfl
theorem QE {ops:List Oper} {o:Oper} (h1:okD o.dst=true) (h2:Region.wanted o (yld N ops S)=false):LU N ops S o=false:=by unfold LU;rw [h1,h2];rfl
variable {ops:List Oper} {Q:Fr→List Blk→Prop} {o:Oper} {l:List Oper} {v v':Value} {d:Tmp} {b c:Bool} {nw:List Nat} {MD:List Blk} {i:Nat} {ws:List Nat} {r:Plan}
def FX (N:Nm) (ops:List Oper) (S:Fr) (o:Oper):Option (Tmp×Value):=match o.dst with
 | some d=>match OO N ops S o with
  | some v=>some (d,v)
  | none=>none
 | none=>none
def EK (N:Nm) (ops:List Oper) (S:Fr) (i:Nat):Option (Tmp×Value):=match ops[i]? with
 | some o=>FX N ops S o
 | none=>none
theorem ON (h:FX N ops S o=some (d,v)):o.dst=some d∧OO N ops S o=some v:=by
 unfold FX at h
 split at h
 ·rename_i e he
  split at h
  ·rename_i u hu;cases h;exact ⟨he,hu⟩
  ·cases h
 ·cases h
theorem HU (h:EK N ops S i=some (d,v)):∃ o,ops[i]? = some o∧o.dst=some d∧OO N ops S o=some v:=by
 unfold EK at h
 split at h
 ·rename_i o ho;exact ⟨o,ho,ON h⟩
 ·cases h
def wD (N:Nm) (ops:List Oper) (S:Fr) (o:Oper):Option Tmp:=bif vL N ops S o then o.dst else none
def wI (N:Nm) (ops:List Oper) (S:Fr) (i:Nat):Option (Tmp×Oper):=match ops[i]? with
 | some o=>match wD N ops S o with
  | some d=>some (d,o)
  | none=>none
 | none=>none
theorem LT (h:wD N ops S o=some d):vL N ops S o=true∧o.dst=some d:=by
 unfold wD at h
 cases hw:vL N ops S o
 ·rw [hw] at h;cases h
 rw [hw] at h;exact ⟨rfl,h⟩
theorem QC (h:wI N ops S i=some (d,o)):ops[i]? = some o∧vL N ops S o=true∧o.dst=some d:=by
 unfold wI at h
 split at h
 ·rename_i o' ho
  split at h
  ·rename_i d' hd;cases h;exact ⟨ho,LT hd⟩
  ·cases h
 ·cases h
theorem sE (h:FX N ops S o=some (d,v)) (k:WL P w0 X N ops Q l ((d,v)::S) M):WL P w0 X N ops Q (o::l) S M:=by
 obtain ⟨hd,h⟩:=ON h
 have k':WL P w0 X N ops Q l (sP S o.dst v) M:=by rw [hd];exact k
 obtain ⟨h1,h2⟩:=zJ (P:=P) (w0:=w0) (X:=X) (M:=M) h;rcases h2 with ⟨hg,hq⟩|⟨hg,rfl⟩
 ·exact cw_ (QD h1 hg) hq k'
 exact fB_ (QE h1 hg) k'
theorem sV (v:Value) (h:FX N ops S o=some (d,v')) (hv:v'=v) (k:WL P w0 X N ops Q l ((d,v)::S) M):WL P w0 X N ops Q (o::l) S M:=sE (hv ▸ h) k
theorem sB (hb:b=c) (h:FX N ops S o=some (d,.bool b)) (k:WL P w0 X N ops Q l ((d,.bool c)::S) M):WL P w0 X N ops Q (o::l) S M:=sE (hb ▸ h) k
theorem pE (h:EK N ops S i=some (d,v)) (k:PL P w0 X N ops nw MD Q r ((d,v)::S) M):PL P w0 X N ops nw MD Q (.quiet i ws r) S M:=by
 obtain ⟨o,ho,hd,h⟩:=HU h;exact ⟨o,v,ho,(zJ (P:=P) (w0:=w0) (X:=X) (M:=M) h).1,(zJ h).2,by rw [hd];exact k⟩
theorem pV (v:Value) (h:EK N ops S i=some (d,v')) (hv:v'=v) (k:PL P w0 X N ops nw MD Q r ((d,v)::S) M):PL P w0 X N ops nw MD Q (.quiet i ws r) S M:=pE (hv ▸ h) k
theorem pB (hb:b=c) (h:EK N ops S i=some (d,.bool b)) (k:PL P w0 X N ops nw MD Q r ((d,.bool c)::S) M):PL P w0 X N ops nw MD Q (.quiet i ws r) S M:=pE (hb ▸ h) k
theorem tE (h:EK N ops S i=some (d,v)) (k:PL P w0 X N ops nw MD Q r ((d,v)::S) M):PL P w0 X N ops nw MD Q (.still i ws r) S M:=by
 obtain ⟨o,ho,hd,h⟩:=HU h;exact ⟨o,v,ho,(zJ (P:=P) (w0:=w0) (X:=X) (M:=M) h).1,(zJ h).2,by rw [hd];exact k⟩
theorem tV (v:Value) (h:EK N ops S i=some (d,v')) (hv:v'=v) (k:PL P w0 X N ops nw MD Q r ((d,v)::S) M):PL P w0 X N ops nw MD Q (.still i ws r) S M:=tE (hv ▸ h) k
theorem oE (hs:MD.Sublist M) (h:EK N ops S i=some (d,v)) (k:PL P w0 X N ops nw MD Q r ((d,v)::S) M):PL P w0 X N ops nw MD Q (.only i r) S M:=by
 obtain ⟨o,ho,hd,h⟩:=HU h
 have k':PL P w0 X N ops nw MD Q r (sP S o.dst v) M:=by rw [hd];exact k
 obtain ⟨h1,h2⟩:=zJ (P:=P) (w0:=w0) (X:=X) (M:=M) h;rcases h2 with ⟨hg,hq⟩|⟨hg,rfl⟩
 ·exact dF ho (QD h1 hg) (wG hq ⟨fun _=>List.Sublist.refl _,hs,k'⟩)
 exact d4_ ho (QE h1 hg) k'
theorem sQ (h:OpQ P w0 X N o S M v) (hd:wD N ops S o=some d) (k:WL P w0 X N ops Q l ((d,v)::S) M):WL P w0 X N ops Q (o::l) S M:=cw_ (LT hd).1 h (by rw [(LT hd).2];exact k)
theorem pQ (hd:wI N ops S i=some (d,o)) (h:OpQ P w0 X N o S M v) (k:PL P w0 X N ops nw MD Q r ((d,v)::S) M):PL P w0 X N ops nw MD Q (.quiet i ws r) S M :=
 d5_ (QC hd).1 (QC hd).2.1 h (by rw [(QC hd).2.2];exact k)
section
variable {g:FuncId} {xs:List Operand} {tys:Array TypeId} {args:List Value} {ty:TypeId} {ps:String} {af:Array Edge} {gd:Option (Nat×Bool)}
theorem sC (v:Value) (he:kM P g=true) (h:Ret P g args v')
 (hg:wD N ops S (⟨some d,.call { callee:=.value (.func g),args:=xs.toArray,argTypes:=tys },ty,ps,af,gd⟩:Oper)=some d) (ha:evL N S xs=some args) (hv:v'=v) (k:WL P w0 X N ops Q l ((d,v)::S) M) :
 WL P w0 X N ops Q (⟨some d,.call { callee:=.value (.func g),args:=xs.toArray,argTypes:=tys },ty,ps,af,gd⟩::l) S M:=cw_ (LT hg).1 (aS (aX he h ha) hv) k
theorem pC (v:Value) (he:kM P g=true) (h:Ret P g args v')
 (ho:wI N ops S i=some (d,⟨some d,.call { callee:=.value (.func g),args:=xs.toArray,argTypes:=tys },ty,ps,af,gd⟩)) (ha:evL N S xs=some args) (hv:v'=v) (k:PL P w0 X N ops nw MD Q r ((d,v)::S) M) :
 PL P w0 X N ops nw MD Q (.quiet i ws r) S M:=d5_ (QC ho).1 (QC ho).2.1 (aS (aX he h ha) hv) k
theorem sX {T:TypeId} {x:Operand} (qs:List Part) (hg:wD N ops S (⟨some d,.box T x,ty,ps,af,gd⟩:Oper)=some d) (hv:evO N S x=some v) (hc:v.cells=(aU qs).toArray)
 (k:∀ b,w0.heap.size≤b→WL P w0 X N ops Q l ((d,.pointer (some ⟨b,0,none⟩))::S) (⟨b,T,aU qs⟩::M)):WL P w0 X N ops Q (⟨some d,.box T x,ty,ps,af,gd⟩::l) S M:=bI (LT hg).1 (dq_ hv hc k)
theorem sN {T:TypeId} {qs:List Part} (hT:mQ P T=some (aU qs)) (hg:wD N ops S (⟨some d,.alloc T,ty,ps,af,gd⟩:Oper)=some d)
 (k:∀ b,w0.heap.size≤b→WL P w0 X N ops Q l ((d,.pointer (some ⟨b,0,none⟩))::S) (⟨b,T,aU qs⟩::M)):WL P w0 X N ops Q (⟨some d,.alloc T,ty,ps,af,gd⟩::l) S M:=bI (LT hg).1 (eQ hT k)
end
end
section
variable {P:Program} {w0:World} {X:List Nat} {N:Nm} {S:Fr} {M:List Blk} {d:Option Tmp} {ty:TypeId} {ps:String} {af:Array Edge} {gd:Option (Nat×Bool)}
theorem qF {T:TypeId} {x:Operand} {f o n b off:Nat} (hT:BB P T f=some (o,n)) (hx:evO N S x=some (.pointer (some ⟨b,off,none⟩))) (hn:Nat.beq n 0=false):OpQ P w0 X N ⟨d,.fieldAddr T x f,ty,ps,af,gd⟩ S M (.pointer (some ⟨b,off+o,none⟩)) :=
 cA hT (fun h=>by subst h;cases hn) hx
theorem qA {T:TypeId} {x y:Operand} {n s b off i:Nat} {k:IntKind} (hT:BJ P T=some (n,s)) (hx:evO N S x=some (.pointer (some ⟨b,off,none⟩))) (hy:evO N S y=some (.int k (Int.ofNat i))) (h1:Nat.blt i n=true):OpQ P w0 X N ⟨d,.indexAddr T x y,ty,ps,af,gd⟩ S M (.pointer (some ⟨b,off+i*s,none⟩)) :=
 eF hT hx hy (Int.natCast_nonneg i) (Int.ofNat_lt.2 (by simpa [Nat.blt_eq] using h1))
theorem qL {T U:TypeId} {x:Operand} {n b off:Nat} {cs qs:List Part} (hT:j7 P T=some (true,n)) (hx:evO N S x=some (.pointer (some ⟨b,off,none⟩))) (hm:(⟨b,U,aU cs⟩:Blk)∈M) (hc:EG cs off n=some qs) :
 OpQ P w0 X N ⟨d,.load T x,ty,ps,af,gd⟩ S M (AV qs):=G9 hT hx hm hc
theorem qC {T U:TypeId} {x:Operand} {s b off:Nat} {cs:List Part} {v:Value} (hT:j7 P T=some (false,s)) (hx:evO N S x=some (.pointer (some ⟨b,off,none⟩))) (hm:(⟨b,U,aU cs⟩:Blk)∈M) (hc:B7 cs off=some v) :
 OpQ P w0 X N ⟨d,.load T x,ty,ps,af,gd⟩ S M v:=wY hT hx hm hc
theorem qI {T:TypeId} {x y:Operand} {n s i:Nat} {k:IntKind} {cs qs:List Part} (hT:SG P T=some (n,s,true)) (hx:evO N S x=some (AV cs)) (hy:evO N S y=some (.int k (Int.ofNat i))) (h1:Nat.blt i n=true) (hc:EG cs (i*s) s=some qs) :
 OpQ P w0 X N ⟨d,.index T x y,ty,ps,af,gd⟩ S M (AV qs):=YW hT hx hy (Int.natCast_nonneg i) (Int.ofNat_lt.2 (by simpa [Nat.blt_eq] using h1)) hc
theorem qJ {T:TypeId} {x y:Operand} {n s i:Nat} {k:IntKind} {cs:List Part} {v:Value} (hT:SG P T=some (n,s,false)) (hx:evO N S x=some (AV cs)) (hy:evO N S y=some (.int k (Int.ofNat i))) (h1:Nat.blt i n=true) (hc:B7 cs (i*s)=some v) :
 OpQ P w0 X N ⟨d,.index T x y,ty,ps,af,gd⟩ S M v:=YX hT hx hy (Int.natCast_nonneg i) (Int.ofNat_lt.2 (by simpa [Nat.blt_eq] using h1)) hc
end
section
variable {P:Program} {w0:World} {X:List Nat} {N:Nm} {S:Fr} {M:List Blk} {Q:pP}
end
def ch_ (ops:Array Oper) (i:Nat):List Nat :=
 (List.range ops.size).foldl (fun ws j=>match ops[j]? with
  | some oj=>bif oj.after.any (fun e=>Region.binds .any e&&(e.on==i||ws.contains e.on)) then j::ws else ws
  | none=>ws) []
def mP (ops:Array Oper):List Nat→Plan
 | []=>.fin
 | n::l=>bif Nat.beq (n % 4) 0 then .quiet (n / 4) (ch_ ops (n / 4)) (mP ops l) else bif Nat.beq (n % 4) 1 then .only (n / 4) (mP ops l) else .still (n / 4) (ch_ ops (n / 4)) (mP ops l)
def nwx (ops:List Oper) (nx:List Nat):List Nat:=(List.range ops.length).filter fun i=>!nx.contains i
section
variable {P:Program} {w0:World} {X:List Nat} {N:Nm} {S:Fr} {M:List Blk} {Q:pP}
theorem ds {id:Nat} {ops:List Oper} {y:Code} {MD:List Blk} (sub:MD.Sublist M) (pl nx:List Nat) (hm:P.follows .mixedOrders=true)
  (hok:(Region.noSelect ops.toArray&&Plan.ok ops.toArray (nwx ops nx) ops.length (Array.replicate ops.length false) (mP ops.toArray pl))=true)
  (h:∀ K:Fr→List Blk→Prop,(∀ S M,W P w0 X N y Q S M→K S M)→PL P w0 X N ops (nwx ops nx) MD K (mP ops.toArray pl) S M):W P w0 X N (.seq (.region id ops.toArray true) y) Q S M :=
 d9_ sub _ _ hm (Bool.and_eq_true_iff.1 hok).1 (Bool.and_eq_true_iff.1 hok).2 h
end
theorem mA {x:Blk} {k l:List Blk} (h:x∈l):x∈k++l:=List.mem_append_right _ h
theorem mC {x y:Blk} {l:List Blk} (h:x∈l):x∈y::l:=List.mem_cons_of_mem _ h
theorem mZ {x:Blk} {l:List Blk}:x∈x::l:=List.mem_cons_self
theorem lZ {k l:List Blk}:k.Sublist (k++l):=List.sublist_append_left _ _
theorem uL {b:Nat} {T:TypeId} {cs cs':List Value} {L M M':List Blk} (h:Upd b T cs cs' M M'):Upd b T cs cs' (L++M) (L++M'):=h.left L
theorem uH {b:Nat} {T:TypeId} {cs cs':List Value} {M:List Blk}:Upd b T cs cs' (⟨b,T,cs⟩::M) (⟨b,T,cs'⟩::M):=.head M
section
variable {α:Type} {e:El α} {w0 w:World} {X:List Nat} {M M' L:List Blk} {v:Value} {l:List α} {E:TypeId}
theorem rO (h:OwnG w0 E e v l L) (hs:L.Sublist M):SLe w0 X M e v l:=(h.slfe hs).sle
theorem aO (hw:Sat w0 X M w) (h:OwnG w0 E e v l L) (hs:L.Sublist M):Slr w e v l:=SLe.ap hw (h.slfe hs).sle
theorem aR (hw:Sat w0 X M' w) (h:SLe w0 X M e v l) (hs:M.Sublist M'):Slr w e v l:=SLe.ap hw (h.sub hs)
end
theorem mm_ {x:Blk} {l:List Blk} (h:x∈l:=by repeat (first|exact .head _|apply List.mem_append_right|apply List.Mem.tail)):x∈l:=h
theorem uu_ {b:Nat} {T:TypeId} {cs cs':List Value} {M M':List Blk} (h:Upd b T cs cs' M M':=by repeat (first|exact .head _|apply Upd.left|apply Upd.tail)):Upd b T cs cs' M M':=h
theorem ss_ {α:Type} {l m:List α} (h:l.Sublist m:=by repeat (first|exact s0|exact sn|refine sk ?_|refine sd ?_|refine sA ?_|refine sR ?_)):l.Sublist m:=h
theorem pp_ {m:List Nat} {S S':Fr} (h:PutOn m S S':=by repeat first|exact .refl|refine .cons O ?_):PutOn m S S':=h
theorem oo_ {P:Prop} (h:P:=by omega):P:=h
theorem dd_ {P:Prop} (h:P:=by decide):P:=h
theorem zz_ {P:Prop} (h:P:=by simp):P:=h
theorem o1_ {P:Prop} (h:P:=by first|omega|(simp only [List.length_append,List.length_cons,List.length_nil,List.length_set,List.length_take,and_true,true_and,or_true,true_or,Nat.zero_add]<;>omega)):P:=h
theorem o2_ {P:Prop} (h:P:=by first|omega|(simp only [List.length_set,List.length_append,List.length_cons,List.length_nil];omega)):P:=h
theorem o3_ {P:Prop} (h:P:=by first|omega|(simp only [List.length_cons,List.length_nil,and_true,true_and]<;>omega)|simp):P:=h
class Tb (b v:Bool) (P:outParam Prop):Prop where
 t:b=v→P
instance (priority:=low) {b v:Bool}:Tb b v (b=v):=⟨id⟩
instance {p:Prop} [Decidable p]:Tb (decide p) true p:=⟨of_decide_eq_true⟩
instance {p:Prop} [Decidable p]:Tb (decide p) false (¬p):=⟨of_decide_eq_false⟩
instance {α:Type} [BEq α] [LawfulBEq α] {a b:α}:Tb (a==b) true (a=b):=⟨eq_of_beq⟩
instance {α:Type} [BEq α] [LawfulBEq α] {a b:α}:Tb (a==b) false (a≠b):=⟨beq_eq_false_iff_ne.1⟩
instance {α:Type} [BEq α] [LawfulBEq α] {a b:α}:Tb (a != b) true (a≠b):=⟨bne_iff_ne.1⟩
instance {α:Type} [BEq α] [LawfulBEq α] {a b:α}:Tb (a != b) false (a=b):=⟨bne_eq_false_iff_eq.1⟩
instance {b:Bool} {P:Prop} [h:Tb b false P]:Tb (!b) true P:=⟨fun e=>h.t (by simpa using e)⟩
instance {b:Bool} {P:Prop} [h:Tb b true P]:Tb (!b) false P:=⟨fun e=>h.t (by simpa using e)⟩
theorem cB_ {b v:Bool} {P:Prop} [h:Tb b v P] (e:b=v):P:=h.t e
open Go.RowKit
class FTy (P:Program) (T:TypeId) (r:outParam (Bool×Nat)):Prop where h:j7 P T=some r
class FFd (P:Program) (T:TypeId) (f:Nat) (r:outParam (Nat×Nat)):Prop where h:BB P T f=some r
class FAr (P:Program) (T:TypeId) (r:outParam (Nat×Nat)):Prop where h:BJ P T=some r
class FEl (P:Program) (T:TypeId) (r:outParam (Nat×Nat×Bool)):Prop where h:SG P T=some r
class FFl (P:Program) (T:TypeId) (f:Nat) (r:outParam (Nat×Nat×Bool)):Prop where h:Z5 P T f=some r
class FZp (P:Program) (T:TypeId) (r:outParam (List Part)):Prop where h:mQ P T=some (aU r)
class FPl (P:Program) (T:TypeId) (r:outParam (List (Nat×Nat))):Prop where h:z4 P T=some r
section
variable {P:Program} {T f:Nat}
theorem tyT {r:Bool×Nat} [i:FTy P T r]:j7 P T=some r:=i.h
theorem fdT {r:Nat×Nat} [i:FFd P T f r]:BB P T f=some r:=i.h
theorem arT {r:Nat×Nat} [i:FAr P T r]:BJ P T=some r:=i.h
theorem zpT {r:List Part} [i:FZp P T r]:mQ P T=some (aU r):=i.h
theorem plT {r:List (Nat×Nat)} [i:FPl P T r]:z4 P T=some r:=i.h
end
class HasB (b:Nat) (M:List Blk) (U:outParam TypeId) (cs:outParam (List Value)):Prop where h:(⟨b,U,cs⟩:Blk)∈M
instance (priority:=high) {b:Nat} {U:TypeId} {cs:List Value} {M:List Blk}:HasB b (⟨b,U,cs⟩::M) U cs:=⟨.head _⟩
instance {b:Nat} {U:TypeId} {cs:List Value} {M:List Blk} {x:Blk} [i:HasB b M U cs]:HasB b (x::M) U cs:=⟨.tail _ i.h⟩
instance {b:Nat} {U:TypeId} {cs:List Value} {M L:List Blk} [i:HasB b M U cs]:HasB b (L++M) U cs:=⟨List.mem_append_right _ i.h⟩
class UpdB (b:Nat) (U:TypeId) (cs cs':List Value) (M:List Blk) (M':outParam (List Blk)):Prop where h:Upd b U cs cs' M M'
instance (priority:=high) {b:Nat} {U:TypeId} {cs cs':List Value} {M:List Blk}:UpdB b U cs cs' (⟨b,U,cs⟩::M) (⟨b,U,cs'⟩::M):=⟨.head _⟩
instance {b:Nat} {U:TypeId} {cs cs':List Value} {M M':List Blk} {x:Blk} [i:UpdB b U cs cs' M M']:UpdB b U cs cs' (x::M) (x::M'):=⟨.tail _ i.h⟩
instance {b:Nat} {U:TypeId} {cs cs':List Value} {M M' L:List Blk} [i:UpdB b U cs cs' M M']:UpdB b U cs cs' (L++M) (L++M'):=⟨i.h.left L⟩
structure Nx (P:Program) (w0:World) (X:List Nat) (N:Nm) (y:Code) (Q:pP) (S:Fr) (M:List Blk):Prop where h:W P w0 X N y Q S M
structure Nk (Q:pP) (S:Fr) (M:List Blk):Prop where h:Q .normal S M
def T4 (P:Program) (w0:World) (X:List Nat) (N:Nm) (y:Code) (Q:pP):pP:=yJ (Nx P w0 X N y Q) Q
abbrev cw (n:Int):Part:=ci .i64 n
class PtO (v:Value) (qs:outParam (List Part)):Prop where h:v.cells=(aU qs).toArray
instance {qs:List Part}:PtO (AV qs) qs:=⟨rfl⟩
instance {k:IntKind} {n:Int}:PtO (.int k n) [ci k n]:=⟨rfl⟩
instance {b:Bool}:PtO (.bool b) [cb b]:=⟨rfl⟩
instance {a:Option Addr} {n c:Nat}:PtO (.slice a n c) [csl a n c]:=⟨rfl⟩
class Pt1 (v:Value) (p:outParam Part):Prop where h:p.l=[v]
instance {k:IntKind} {n:Int}:Pt1 (.int k n) (ci k n):=⟨rfl⟩
instance {b:Bool}:Pt1 (.bool b) (cb b):=⟨rfl⟩
instance {a:Option Addr} {n c:Nat}:Pt1 (.slice a n c) (csl a n c):=⟨rfl⟩
class PtL (vs:List Value) (qs:outParam (List Part)):Prop where h:vs=aU qs
instance:PtL [] []:=⟨rfl⟩
instance {v:Value} {p:Part} {vs:List Value} {qs:List Part} [a:Pt1 v p] [b:PtL vs qs]:PtL (v::vs) (p::qs):=⟨by rw [sM,a.h,← b.h];rfl⟩
instance (priority:=low) {vs:List Value} {qs:List Part} [i:PtL vs qs]:PtO (.agg vs.toArray) qs:=⟨by rw [← i.h];rfl⟩
def WI:List (Nat×Value)→List (Nat×List Part)→Prop
 | [],[]=>True
 | (i,v)::l,(j,q)::m=>(i=j∧v.cells=(aU q).toArray)∧WI l m
 | _,_=>False
class PtsO (l:List (Nat×Value)) (m:outParam (List (Nat×List Part))):Prop where h:WI l m
instance:PtsO [] []:=⟨trivial⟩
instance {i:Nat} {v:Value} {q:List Part} {l:List (Nat×Value)} {m:List (Nat×List Part)} [a:PtO v q] [b:PtsO l m]:PtsO ((i,v)::l) ((i,q)::m):=⟨⟨⟨rfl,a.h⟩,b.h⟩⟩
def KQ (place:Nat→Option (Nat×Nat)):List Part→List (Nat×List Part)→Option (List Part)
 | z,[]=>some z
 | z,(i,q)::l=>match place i with
  | some (off,n)=>bif Nat.beq (sD q) n then (match GO z off n q with
   | some z'=>KQ place z' l
   | none=>none) else none
  | none=>none
theorem QZ {place:Nat→Option (Nat×Nat)}:∀ {z out:List Part} {l:List (Nat×Value)} {m:List (Nat×List Part)},WI l m→KQ place z m=some out→FillP place z l out
 | z,out,[],[],_,h=>by simp only [KQ] at h;cases h;exact .nil _
 | z,out,(i,v)::l,(j,q)::m,hp,h=>by
  obtain ⟨⟨rfl,hc⟩,hp⟩:=hp;simp only [KQ] at h
  split at h
  ·rename_i off n hpl
   cases hb:Nat.beq (sD q) n
   ·rw [hb] at h;cases h
   rw [hb] at h;simp only [cond_true] at h
   split at h
   ·rename_i z' hz
    exact .cons q z' hpl hc (Nat.eq_of_beq_eq_true hb) hz (QZ hp h)
   ·cases h
  ·cases h
 | z,out,[],_::_,hp,_=>hp.elim
 | z,out,_::_,[],hp,_=>by cases hp
section
variable {P:Program} {w0:World} {X:List Nat} {N:Nm} {S:Fr} {M MD:List Blk} {Q:pP} {x y c:Code} {id n:Nat} {ops:List Oper} {nw:List Nat} {p:Plan}
theorem gSq (h:W P w0 X N x (T4 P w0 X N y Q) S M):W P w0 X N (.seq x y) Q S M :=
 WP fun K hK=>HK h fun e S M q=>by cases e<;>first|exact hK _ _ (Nx.h q)|exact q
theorem gRs (h:WL P w0 X N ops (Nx P w0 X N y Q) ops S M):W P w0 X N (.seq (.region id ops.toArray false) y) Q S M:=gSq (KB (fun _ _ h=>h) h)
theorem gRk (h:WL P w0 X N ops (Nk Q) ops S M):W P w0 X N (.region id ops.toArray false) Q S M:=KB (fun _ _ h=>h.h) h
theorem gDs (sub:MD.Sublist M) (p:Plan) (nw:List Nat) (hm:P.follows .mixedOrders=true) (hs:Region.noSelect ops.toArray=true) (hok:Plan.ok ops.toArray nw ops.length (Array.replicate ops.length false) p=true)
 (h:PL P w0 X N ops nw MD (Nx P w0 X N y Q) p S M):W P w0 X N (.seq (.region id ops.toArray true) y) Q S M:=gSq (MA (fun _ _ h=>h) sub p nw hm hs hok h)
theorem gDk (sub:MD.Sublist M) (p:Plan) (nw:List Nat) (hm:P.follows .mixedOrders=true) (hs:Region.noSelect ops.toArray=true) (hok:Plan.ok ops.toArray nw ops.length (Array.replicate ops.length false) p=true)
 (h:PL P w0 X N ops nw MD (Nk Q) p S M):W P w0 X N (.region id ops.toArray true) Q S M:=MA (fun _ _ h=>h.h) sub p nw hm hs hok h
theorem gds (sub:MD.Sublist M) (pl nx:List Nat) (hm:P.follows .mixedOrders=true)
  (hok:(Region.noSelect ops.toArray&&Plan.ok ops.toArray (nwx ops nx) ops.length (Array.replicate ops.length false) (mP ops.toArray pl))=true)
  (h:PL P w0 X N ops (nwx ops nx) MD (Nx P w0 X N y Q) (mP ops.toArray pl) S M):W P w0 X N (.seq (.region id ops.toArray true) y) Q S M :=
 gDs sub _ _ hm (Bool.and_eq_true_iff.1 hok).1 (Bool.and_eq_true_iff.1 hok).2 h
theorem gdr (sub:MD.Sublist M) (pl nx:List Nat) (hm:P.follows .mixedOrders=true)
  (hok:(Region.noSelect ops.toArray&&Plan.ok ops.toArray (nwx ops nx) ops.length (Array.replicate ops.length false) (mP ops.toArray pl))=true)
  (h:PL P w0 X N ops (nwx ops nx) MD (Nk Q) (mP ops.toArray pl) S M):W P w0 X N (.region id ops.toArray true) Q S M :=
 gDk sub _ _ hm (Bool.and_eq_true_iff.1 hok).1 (Bool.and_eq_true_iff.1 hok).2 h
theorem gnx (h:W P w0 X N y Q S M):WL P w0 X N ops (Nx P w0 X N y Q) [] S M:=⟨h⟩
theorem gnk (h:Q .normal S M):WL P w0 X N ops (Nk Q) [] S M:=⟨h⟩
theorem fnx (h:W P w0 X N y Q S M):PL P w0 X N ops nw MD (Nx P w0 X N y Q) .fin S M:=⟨h⟩
theorem fnk (h:Q .normal S M):PL P w0 X N ops nw MD (Nk Q) .fin S M:=⟨h⟩
theorem gtn (h:W P w0 X N y Q S M):T4 P w0 X N y Q .normal S M:=⟨h⟩
theorem gtx (h:Q (.exit id) S M):T4 P w0 X N y Q (.exit id) S M:=h
theorem gtr (h:Q .ret S M):T4 P w0 X N y Q .ret S M:=h
def T5 (P:Program) (w0:World) (X:List Nat) (N:Nm) (c:Code) (Q:pP) (n:Nat):pP:=yJ (Un P w0 X N c Q n) Q
theorem gUs (h:W P w0 X N c (T5 P w0 X N c Q n) S M):Un P w0 X N c Q (n+1) S M:=h
theorem gun (h:Un P w0 X N c Q n S M):T5 P w0 X N c Q n .normal S M:=h
theorem gux (h:Q (.exit id) S M):T5 P w0 X N c Q n (.exit id) S M:=h
theorem gur (h:Q .ret S M):T5 P w0 X N c Q n .ret S M:=h
theorem gJ3 {Q0:pP} (mods:List Nat) (R:(Nat→Value)→List Blk→Prop)
 (hx:∀ K:Fr→List Blk→Prop,(∀ S' M,PutOn mods S S'→(∃ M',M'.Sublist M∧R (look S') M')→K S' M)→W P w0 X N x (yJ K Q) S M)
 (hy:∀ g M,R g M→W P w0 X N y Q0 (zQ S g mods) M) (hK:∀ S M,W P w0 X N y Q0 S M→Q .normal S M:=by intro _ _ h;repeat (first|exact gtn h|refine HP ?_|refine IZ ?_)):W P w0 X N x Q S M:=ao_ hK mods R hx hy
def AllV (g:Nat→Value):List (Nat×Value)→Prop
 | []=>True
 | [p]=>g p.1=p.2
 | p::q::l=>g p.1=p.2∧AllV g (q::l)
theorem AllV.look {g:Nat→Value} {mods:List Nat} {S0:Fr}:∀ {vs:List (Nat×Value)},AllV g vs→(vs.all fun p=>mods.contains p.1)=true→∀ i,look (zQ S0 g mods) i=look (vs++zQ S0 g mods) i
 | [],_,_,_=>rfl
 | p::l,h,hm,i=>by
  have h1:g p.1=p.2∧AllV g l:=by
   cases l with
   | nil=>exact ⟨h,trivial⟩
   | cons q l=>exact h
  simp only [List.all_cons,Bool.and_eq_true] at hm;have h2:=AllV.look (S0:=S0) h1.2 hm.2 i;rw [List.cons_append,vN]
  split
  ·rename_i e;subst e;rw [xC,if_pos hm.1];exact h1.1
  exact h2
theorem gJv (mods:List Nat) (vs:List (Nat×Value)) (hx:∀ K:Fr→List Blk→Prop,(∀ S' M',PutOn mods S S'→M.Sublist M'→AllV (look S') vs→K S' M')→W P w0 X N x (yJ K Q) S M)
  (hy:∀ g,W P w0 X N y Q (vs++zQ S g mods) M) (hm:(vs.all fun p=>mods.contains p.1)=true:=by rfl):W P w0 X N (.seq x y) Q S M :=
 pH mods (fun g M'=>AllV g vs∧M'=M) (fun K hK=>hx K fun S' M' hp hs hv=>hK S' M' hp ⟨M,hs,hv,rfl⟩) (fun g M' h=>by obtain ⟨hv,rfl⟩:=h;exact GW (hv.look hm) (hy g))
theorem sBB {o:Oper} {l:List Oper} {d:Tmp} {b:Bool} {Qf:Fr→List Blk→Prop} (h:FX N ops S o=some (d,.bool b)) (kt:b=true→WL P w0 X N ops Qf l ((d,.bool true)::S) M) (kf:b=false→WL P w0 X N ops Qf l ((d,.bool false)::S) M) :
 WL P w0 X N ops Qf (o::l) S M:=by cases b<;>exact sE h (by first|exact kt O|exact kf O)
theorem pBB {i:Nat} {ws:List Nat} {r:Plan} {d:Tmp} {b:Bool} {Qf:Fr→List Blk→Prop} (h:EK N ops S i=some (d,.bool b)) (kt:b=true→PL P w0 X N ops nw MD Qf r ((d,.bool true)::S) M) (kf:b=false→PL P w0 X N ops nw MD Qf r ((d,.bool false)::S) M) :
 PL P w0 X N ops nw MD Qf (.quiet i ws r) S M:=by cases b<;>exact pE h (by first|exact kt O|exact kf O)
theorem bS {a b:Bool} (h:a=b):Value.bool a=Value.bool b:=by rw [h]
variable {Qf:Fr→List Blk→Prop} {l:List Oper} {d:Option Tmp} {dd:Tmp} {ty:TypeId} {ps:String} {af:Array Edge} {gd:Option (Nat×Bool)} {T U:TypeId} {xo yo:Operand} {v:Value}
theorem gB1 {xs:List (Nat×Operand)} {parts:List (Nat×Value)} {qs:List (Nat×List Part)} {pl:List (Nat×Nat)} {z out:List Part} (hz:mQ P T=some (aU z)) (hp:z4 P T=some pl) (hg:wD N ops S (⟨d,.build T xs.toArray,ty,ps,af,gd⟩:Oper)=some dd)
 (hx:evP N S xs=some parts) (hq:WI parts qs) (h:KQ (fun i=>pl[i]?) z qs=some out) (k:WL P w0 X N ops Qf l ((dd,AV out)::S) M):WL P w0 X N ops Qf (⟨d,.build T xs.toArray,ty,ps,af,gd⟩::l) S M:=sQ (oX hz hp hx (QZ hq h)) hg k
theorem gB2 {xs:List (Nat×Operand)} {parts:List (Nat×Value)} {qs:List (Nat×List Part)} {n s:Nat} {z out:List Part} (hz:mQ P T=some (aU z)) (hp:BJ P T=some (n,s)) (hg:wD N ops S (⟨d,.build T xs.toArray,ty,ps,af,gd⟩:Oper)=some dd)
 (hx:evP N S xs=some parts) (hq:WI parts qs) (h:KQ (fun i=>some (i*s,s)) z qs=some out) (k:WL P w0 X N ops Qf l ((dd,AV out)::S) M):WL P w0 X N ops Qf (⟨d,.build T xs.toArray,ty,ps,af,gd⟩::l) S M:=sQ (dN hz hp hx (QZ hq h)) hg k
theorem gSt {g:Bool} {n b off:Nat} {cs cs' qs:List Part} {M':List Blk} (hT:j7 P T=some (g,n)) (hg:vL N ops S (⟨none,.store T xo yo,ty,ps,af,gd⟩:Oper)=true)
 (hx:evO N S xo=some (.pointer (some ⟨b,off,none⟩))) (hv:evO N S yo=some v) (hq:v.cells=(aU qs).toArray) (hn:sD qs=n) (hm:(⟨b,U,aU cs⟩:Blk)∈M) (hc:GO cs off n qs=some cs') (hu:Upd b U (aU cs) (aU cs') M M')
 (hb:w0.heap.size≤b) (k:WL P w0 X N ops Qf l S M'):WL P w0 X N ops Qf (⟨none,.store T xo yo,ty,ps,af,gd⟩::l) S M:=d7_ hg hT hx hv hq hn hc hu hb k
theorem gSo {g:Bool} {n b off i:Nat} {r:Plan} {cs cs' qs:List Part} {M':List Blk} (ho:ops[i]? = some ⟨none,.store T xo yo,ty,ps,af,gd⟩) (hT:j7 P T=some (g,n)) (hg:vL N ops S (⟨none,.store T xo yo,ty,ps,af,gd⟩:Oper)=true)
 (hx:evO N S xo=some (.pointer (some ⟨b,off,none⟩))) (hv:evO N S yo=some v) (hq:v.cells=(aU qs).toArray) (hn:sD qs=n) (hm:(⟨b,U,aU cs⟩:Blk)∈M) (hc:GO cs off n qs=some cs') (hu:Upd b U (aU cs) (aU cs') M M')
 (hb:w0.heap.size≤b) (hw:nw.contains i=false) (hs:MD.Sublist M') (k:PL P w0 X N ops nw MD Qf r S M'):PL P w0 X N ops nw MD Qf (.only i r) S M:=d6_ ho hg hT hx hv hq hn hc hu hb hw hs k
theorem gBx {qs:List Part} {xv:Value} (hg:wD N ops S (⟨some dd,.box T xo,ty,ps,af,gd⟩:Oper)=some dd) (hv:evO N S xo=some xv) (hc:xv.cells=(aU qs).toArray)
 (k:∀ b,w0.heap.size≤b→WL P w0 X N ops Qf l ((dd,.pointer (some ⟨b,0,none⟩))::S) (⟨b,T,aU qs⟩::M)):WL P w0 X N ops Qf (⟨some dd,.box T xo,ty,ps,af,gd⟩::l) S M:=sX qs hg hv hc k
end
structure Hid (B:Prop):Prop where h:B
theorem go0 {A B:Prop} (k:B) (h:Hid B→A:=by
 intro hk
 repeat (with_reducible first|refine gtn ?_|refine HP ?_|refine gtx ?_|refine HO ?_|refine FT (by decide) ?_|refine gtr ?_|refine N9 ?_|refine gun ?_|refine gux ?_|refine gur ?_|refine IZ ?_|refine P1 ?_|refine P0 ?_|refine T3 ?_|refine TZ ?_)
 exact hk.h):A:=h ⟨k⟩
section
variable {P:Program} {w0:World} {X:List Nat} {N:Nm} {S:Fr} {M MD:List Blk} {Q:pP} {Qf:Fr→List Blk→Prop} {c:Code} {ops l:List Oper} {nw:List Nat} {p:Plan} {d:Option Tmp} {ty:TypeId} {ps:String} {af:Array Edge} {gd:Option (Nat×Bool)} {T:TypeId} {x y:Operand} {f:Nat}
theorem iW (h:W P w0 X N c Q S M):W P w0 X N c Q S M:=h
theorem iL (h:WL P w0 X N ops Qf l S M):WL P w0 X N ops Qf l S M:=h
theorem iP (h:PL P w0 X N ops nw MD Qf p S M):PL P w0 X N ops nw MD Qf p S M:=h
theorem iLd (h:WL P w0 X N ops Qf (⟨d,.load T x,ty,ps,af,gd⟩::l) S M):WL P w0 X N ops Qf (⟨d,.load T x,ty,ps,af,gd⟩::l) S M:=h
theorem iFa (h:WL P w0 X N ops Qf (⟨d,.fieldAddr T x f,ty,ps,af,gd⟩::l) S M):WL P w0 X N ops Qf (⟨d,.fieldAddr T x f,ty,ps,af,gd⟩::l) S M:=h
theorem iIa (h:WL P w0 X N ops Qf (⟨d,.indexAddr T x y,ty,ps,af,gd⟩::l) S M):WL P w0 X N ops Qf (⟨d,.indexAddr T x y,ty,ps,af,gd⟩::l) S M:=h
theorem iSt (h:WL P w0 X N ops Qf (⟨none,.store T x y,ty,ps,af,gd⟩::l) S M):WL P w0 X N ops Qf (⟨none,.store T x y,ty,ps,af,gd⟩::l) S M:=h
theorem iAl (h:WL P w0 X N ops Qf (⟨d,.alloc T,ty,ps,af,gd⟩::l) S M):WL P w0 X N ops Qf (⟨d,.alloc T,ty,ps,af,gd⟩::l) S M:=h
theorem iBx (h:WL P w0 X N ops Qf (⟨d,.box T x,ty,ps,af,gd⟩::l) S M):WL P w0 X N ops Qf (⟨d,.box T x,ty,ps,af,gd⟩::l) S M:=h
theorem iIx (h:WL P w0 X N ops Qf (⟨d,.index T x y,ty,ps,af,gd⟩::l) S M):WL P w0 X N ops Qf (⟨d,.index T x y,ty,ps,af,gd⟩::l) S M:=h
theorem iFd (h:WL P w0 X N ops Qf (⟨d,.field T x f,ty,ps,af,gd⟩::l) S M):WL P w0 X N ops Qf (⟨d,.field T x f,ty,ps,af,gd⟩::l) S M:=h
theorem iBu {xs:Array (Nat×Operand)} (h:WL P w0 X N ops Qf (⟨d,.build T xs,ty,ps,af,gd⟩::l) S M):WL P w0 X N ops Qf (⟨d,.build T xs,ty,ps,af,gd⟩::l) S M:=h
end
theorem go_ {A B:Prop} (k:B) (h:Hid B→A:=by
 intro hk
 first
 | ((with_reducible refine iL ?_);first
  | refine sE O ?_|with_reducible refine gnx ?_|with_reducible refine gnk ?_
  | ((with_reducible refine iLd ?_);first|refine sQ (qC FTy.h O HasB.h O) O ?_|refine sQ (qL FTy.h O HasB.h O) O ?_)
  | ((with_reducible refine iFa ?_);refine sQ (qF FFd.h O O) O ?_)
  | ((with_reducible refine iIa ?_);refine sQ (qA FAr.h O O O) O ?_)
  | ((with_reducible refine iSt ?_);refine gSt FTy.h O O O PtO.h O HasB.h O UpdB.h (by with_reducible assumption) ?_)
  | ((with_reducible refine iAl ?_);refine sN FZp.h O ?_)
  | ((with_reducible refine iBx ?_);refine gBx O O PtO.h ?_)
  | ((with_reducible refine iIx ?_);first|refine sQ (qI FEl.h O O O O) O ?_|refine sQ (qJ FEl.h O O O O) O ?_)
  | ((with_reducible refine iFd ?_);first|refine sQ (PK FFl.h O O) O ?_|refine sQ (PM FFl.h O O) O ?_)
  | ((with_reducible refine iBu ?_);first|refine gB1 FZp.h FPl.h O O PtsO.h O ?_|refine gB2 FZp.h FAr.h O O PtsO.h O ?_))
 | ((with_reducible refine iW ?_);first
  | (with_reducible first|refine gRs ?_|refine gSq ?_|refine gRk ?_|refine an_ ?_|refine cz_ ?_|refine cy_ ?_|refine d8_ ?_|refine ar_ ?_|refine ap_ ?_)|refine WQ O ?_|refine SM O ?_)
 | ((with_reducible refine iP ?_);first
  | refine pE O ?_|refine fnx ?_|refine fnk ?_|refine pQ O (qC FTy.h O HasB.h O) ?_|refine pQ O (qL FTy.h O HasB.h O) ?_|refine pQ O (qF FFd.h O O) ?_|refine pQ O (qA FAr.h O O O) ?_
  | refine tE O ?_|refine oE ss_ O ?_|refine gSo O FTy.h O O O PtO.h O HasB.h O UpdB.h (by with_reducible assumption) O ss_ ?_
  | refine pQ O (qI FEl.h O O O O) ?_|refine pQ O (qJ FEl.h O O O O) ?_|refine pQ O (PK FFl.h O O) ?_|refine pQ O (PM FFl.h O O) ?_)
 | with_reducible refine gUs ?_
 repeat (with_reducible first|refine gtn ?_|refine HP ?_|refine gtx ?_|refine HO ?_|refine FT (by decide) ?_|refine gtr ?_|refine N9 ?_|refine gun ?_|refine gux ?_|refine gur ?_|refine IZ ?_|refine P1 ?_|refine P0 ?_|refine T3 ?_|refine TZ ?_)
 exact hk.h):A:=h ⟨k⟩
theorem go2 {A B:Prop} (k:B) (h:Hid B→A:=by intro hk;(iterate 2 refine go_ ?_);exact hk.h):A:=h ⟨k⟩
theorem go3 {A B:Prop} (k:B) (h:Hid B→A:=by intro hk;(iterate 3 refine go_ ?_);exact hk.h):A:=h ⟨k⟩
theorem go4 {A B:Prop} (k:B) (h:Hid B→A:=by intro hk;(iterate 4 refine go_ ?_);exact hk.h):A:=h ⟨k⟩
theorem go5 {A B:Prop} (k:B) (h:Hid B→A:=by intro hk;(iterate 5 refine go_ ?_);exact hk.h):A:=h ⟨k⟩
theorem go6 {A B:Prop} (k:B) (h:Hid B→A:=by intro hk;(iterate 6 refine go_ ?_);exact hk.h):A:=h ⟨k⟩
theorem go7 {A B:Prop} (k:B) (h:Hid B→A:=by intro hk;(iterate 7 refine go_ ?_);exact hk.h):A:=h ⟨k⟩
theorem go8 {A B:Prop} (k:B) (h:Hid B→A:=by intro hk;(iterate 8 refine go_ ?_);exact hk.h):A:=h ⟨k⟩
theorem go9 {A B:Prop} (k:B) (h:Hid B→A:=by intro hk;(iterate 9 refine go_ ?_);exact hk.h):A:=h ⟨k⟩
theorem iK {A B:Prop} (k:B) (h:Hid B→A:=by intro hk;(iterate 10 refine go_ ?_);exact hk.h):A:=h ⟨k⟩
theorem wN {A B:Prop} (k:B) (h:Hid B→A:=by intro hk;(iterate 11 refine go_ ?_);exact hk.h):A:=h ⟨k⟩
theorem yP {A B:Prop} (k:B) (h:Hid B→A:=by intro hk;(iterate 12 refine go_ ?_);exact hk.h):A:=h ⟨k⟩
theorem H1 {A B:Prop} (k:B) (h:Hid B→A:=by intro hk;(iterate 13 refine go_ ?_);exact hk.h):A:=h ⟨k⟩
theorem BN {A B:Prop} (k:B) (h:Hid B→A:=by intro hk;(iterate 14 refine go_ ?_);exact hk.h):A:=h ⟨k⟩
theorem xK {A B:Prop} (k:B) (h:Hid B→A:=by intro hk;(iterate 15 refine go_ ?_);exact hk.h):A:=h ⟨k⟩
theorem UW {A B:Prop} (k:B) (h:Hid B→A:=by intro hk;(iterate 16 refine go_ ?_);exact hk.h):A:=h ⟨k⟩
theorem XU {A B:Prop} (k:B) (h:Hid B→A:=by intro hk;(iterate 17 refine go_ ?_);exact hk.h):A:=h ⟨k⟩
theorem Q4 {A B:Prop} (k:B) (h:Hid B→A:=by intro hk;(iterate 18 refine go_ ?_);exact hk.h):A:=h ⟨k⟩
theorem aT_ {A B:Prop} (k:B) (h:Hid B→A:=by intro hk;(iterate 19 refine go_ ?_);exact hk.h):A:=h ⟨k⟩
theorem en_ {A B:Prop} (k:B) (h:Hid B→A:=by intro hk;(iterate 20 refine go_ ?_);exact hk.h):A:=h ⟨k⟩
theorem H2 {A B:Prop} (k:B) (h:Hid B→A:=by intro hk;(iterate 21 refine go_ ?_);exact hk.h):A:=h ⟨k⟩
theorem XV {A B:Prop} (k:B) (h:Hid B→A:=by intro hk;(iterate 23 refine go_ ?_);exact hk.h):A:=h ⟨k⟩
theorem eo_ {A B:Prop} (k:B) (h:Hid B→A:=by intro hk;(iterate 24 refine go_ ?_);exact hk.h):A:=h ⟨k⟩
theorem fI_ {A B:Prop} (k:B) (h:Hid B→A:=by intro hk;(iterate 25 refine go_ ?_);exact hk.h):A:=h ⟨k⟩
theorem EN {A B:Prop} (k:B) (h:Hid B→A:=by intro hk;(iterate 26 refine go_ ?_);exact hk.h):A:=h ⟨k⟩
theorem UX {A B:Prop} (k:B) (h:Hid B→A:=by intro hk;(iterate 27 refine go_ ?_);exact hk.h):A:=h ⟨k⟩
theorem OU {A B:Prop} (k:B) (h:Hid B→A:=by intro hk;(iterate 32 refine go_ ?_);exact hk.h):A:=h ⟨k⟩
theorem fJ_ {A B:Prop} (k:B) (h:Hid B→A:=by intro hk;(iterate 33 refine go_ ?_);exact hk.h):A:=h ⟨k⟩
theorem OV {A B:Prop} (k:B) (h:Hid B→A:=by intro hk;(iterate 35 refine go_ ?_);exact hk.h):A:=h ⟨k⟩
theorem OW {A B:Prop} (k:B) (h:Hid B→A:=by intro hk;(iterate 40 refine go_ ?_);exact hk.h):A:=h ⟨k⟩
theorem OX {A B:Prop} (k:B) (h:Hid B→A:=by intro hk;(iterate 51 refine go_ ?_);exact hk.h):A:=h ⟨k⟩
end Go.Kn
namespace Go.Num
open Go Go.Kn Go.RowKit Go.ChangeShapes Go.WideShapes
def lwf:Value→rS→Prop
 | .bool _,none=>True
 | .int k n,some k'=>k=k'∧(Lit.int k n).wf=true
 | _,_=>False
def LWF:List Value→List rS→Prop
 | [],[]=>True
 | v::vs,l::ls=>lwf v l∧LWF vs ls
 | _,_=>False
theorem LWF.len:∀ {vs:List Value} {ls:List rS},LWF vs ls→vs.length=ls.length
 | [],[],_=>rfl
 | v::vs,l::ls,h=>by simp [LWF.len h.2]
 | [],_::_,h=>h.elim
 | _::_,[],h=>h.elim
theorem LWF.append:∀ {vs us:List Value} {ls ms:List rS},LWF vs ls→LWF us ms→LWF (vs++us) (ls++ms)
 | [],_,[],_,_,k=>k
 | v::vs,_,l::ls,_,h,k=>⟨h.1,LWF.append h.2 k⟩
 | [],_,_::_,_,h,_=>h.elim
 | _::_,_,[],_,h,_=>h.elim
theorem LWF.split:∀ {ls ms:List rS} {vs:List Value},LWF vs (ls++ms)→∃ a b,vs=a++b∧LWF a ls∧LWF b ms
 | [],_,vs,h=>⟨[],vs,rfl,trivial,h⟩
 | l::ls,ms,[],h=>h.elim
 | l::ls,ms,v::vs,h=>by
  obtain ⟨a,b,rfl,h1,h2⟩:=LWF.split (ls:=ls) (ms:=ms) h.2;exact ⟨v::a,b,rfl,⟨h.1,h1⟩,h2⟩
def U9 (P:Program) (f:TypeId→Option (List rS)):List Field→Nat→Option (List rS)
 | [],_=>some []
 | x::fs,off=>if x.offset≠off then none else (f x.type).bind fun l=>if P.cellsOf x.type=l.length then (U9 P f fs (off+l.length)).map (l ++ ·) else none
def lz (P:Program):Nat→TypeId→Option (List rS)
 | 0,_=>none
 | d+1,T=>match P.underlying T with
  | some .bool=>some [none]
  | some (.int k)=>some [some k]
  | some (.array n e)=>(lz P d e).bind fun l=>if P.cellsOf e=l.length∧P.cellsOf T=n*l.length then some ((List.replicate n l).flatten) else none
  | some (.struct fs)=>(U9 P (lz P d) fs.toList 0).bind fun l=>if P.cellsOf T=l.length then some l else none
  | _=>none
def X4 (P:Program) (T:TypeId):Bool:=match P.underlying T with|some (.struct _)=>true|some (.array _ _)=>true|_=>false
section
variable {H:Type} {enc:TypeId×Value→H} {P:Program} {w:World} {base:Nat} {spare:Nat→Bool} {held:Bool}
theorem IB {l:List rS}:∀ (n:Nat) (cs:List Value),cs.length=n*l.length→(∀ i,i<n→LWF ((cs.drop (i*l.length)).take l.length) l)→LWF cs ((List.replicate n l).flatten)
 | 0,cs,hl,_=>by
  have:cs=[]:=List.eq_nil_of_length_eq_zero (by simpa using hl);subst this;exact trivial
 | n+1,cs,hl,h=>by
  rw [List.replicate_succ,List.flatten_cons];have h0:=h 0 (by omega);rw [Nat.zero_mul,List.drop_zero] at h0
  have:=IB (l:=l) n (cs.drop l.length) (by rw [List.length_drop,hl,Nat.succ_mul,Nat.add_sub_cancel]) (fun i hi=>by
   have:=h (i+1) (by omega)
   rw [List.drop_drop,show l.length+i*l.length=(i+1)*l.length by rw [Nat.succ_mul];omega];exact this)
  have e:=LWF.append h0 this
  rwa [List.take_append_drop] at e
theorem YA {f:TypeId→Option (List rS)}:∀ (fs:List Field) (off:Nat) (ls:List rS) (cs:List Value),U9 P f fs off=some ls→cs.length=off+ls.length →
  (∀ (i:Nat) (x:Field),fs[i]? = some x→∀ l,f x.type=some l→LWF ((cs.drop x.offset).take (P.cellsOf x.type)) l)→LWF (cs.drop off) ls
 | [],off,ls,cs,h,hl,_=>by
  cases h
  have:cs.drop off=[]:=List.eq_nil_of_length_eq_zero (by rw [List.length_drop];simp at hl;omega);rw [this];exact trivial
 | x::fs,off,ls,cs,h,hl,hx=>by
  unfold U9 at h
  split at h
  ·cases h
  rename_i ho
  have ho':x.offset=off:=Classical.byContradiction ho
  cases hf:f x.type with
  | none=>simp [hf] at h
  | some l =>
   simp only [hf,Option.bind_some] at h
   split at h
   ·rename_i hs
    cases hg:U9 P f fs (off+l.length) with
    | none=>simp [hg] at h
    | some m =>
     simp only [hg,Option.map_some,Option.some.injEq] at h;subst h;have h1:=hx 0 x O l hf;rw [ho',hs] at h1;have h2:=YA fs (off+l.length) m cs hg (by rw [hl,List.length_append];omega) (fun i y hy=>hx (i+1) y (by simpa using hy));have e:=LWF.append h1 h2;rw [← List.drop_drop] at e
     rwa [List.take_append_drop] at e
   ·cases h
theorem yF:∀ (d:Nat) {T:TypeId} {ls:List rS} {fuel:Nat} {cs:List Value} {x:DataW H×List MemPlace},lz P d T=some ls→DataW.trod enc P w base spare held fuel T cs=some x→LWF cs ls
 | 0,_,_,_,_,_,h,_=>by cases h
 | d+1,T,ls,fuel,cs,x,h,ht=>by
  unfold lz at h
  split at h
  ·rename_i hu
   cases h
   cases fuel with
   | zero=>simp [DataW.trod] at ht
   | succ m =>
    unfold DataW.trod at ht;rw [hu] at ht
    split at ht<;>simp_all [LWF,lwf]
  ·rename_i k hu
   cases h
   obtain ⟨n,h1,_,h3⟩:=DataW.trod_int hu ht;subst h1;exact ⟨⟨rfl,h3⟩,trivial⟩
  ·rename_i n e hu
   cases hl:lz P d e with
   | none=>simp [hl] at h
   | some l =>
    simp only [hl,Option.bind_some] at h
    split at h
    ·rename_i hs
     cases h
     obtain ⟨xs,m,_,_,hlen,hxl,hall⟩:=DataW.trod_array hu ht;refine IB n cs (by rw [hlen,hs.2]) (fun i hi=>?_);have h1:=hall i hi;rw [hs.1,List.getElem?_eq_getElem (by rw [hxl];exact hi)] at h1;exact yF d hl h1
    ·cases h
  ·rename_i fs hu
   cases hl:U9 P (lz P d) fs.toList 0 with
   | none=>simp [hl] at h
   | some l =>
    simp only [hl,Option.bind_some] at h
    split at h
    ·rename_i hs
     cases h
     obtain ⟨xs,m,_,_,hlen,hxl,hall⟩:=DataW.trod_struct hu ht
     have:=YA fs.toList 0 ls cs hl (by rw [hlen,hs];omega) (fun i y hy l' hl'=>by
      have hy':fs[i]? = some y:=by simpa using hy
      have h1:=hall i y hy';have hi:i<fs.size:=(Array.getElem?_eq_some_iff.1 hy').1;rw [List.getElem?_eq_getElem (by rw [hxl];exact hi)] at h1
      exact yF d hl' h1)
     rwa [List.drop_zero] at this
    ·cases h
  ·cases h
theorem fy_ {T:TypeId} {ls:List rS} {v:Value} {d:DataW H} {p:List MemPlace} (h:lz P 8 T=some ls) (ht:DataW.Trod enc P w base spare held T v d p):LWF v.cells.toList ls:=by
 obtain ⟨fuel,hf⟩:=ht;exact yF 8 h hf
theorem di_ {r:Reach} {T:TypeId} {v:Value} (h:X4 P T=true) (hv:Value.okWide P w r base T v):∃ cs:List Value,v = .agg cs.toArray:=by
 unfold X4 at h;unfold Value.okWide at hv
 split at h
 ·rename_i fs hu;rw [hu] at hv;obtain ⟨cs,hc,_⟩:=hv;exact ⟨cs.toList,by simpa using hc⟩
 ·rename_i n e hu;rw [hu] at hv;obtain ⟨cs,hc,_⟩:=hv;exact ⟨cs.toList,by simpa using hc⟩
 ·cases h
end
theorem YP {cs:List Value} (h:LWF cs [some .i64]):∃ x:W,cs=[.int .i64 x.1]:=by
 match cs,h with
 | [.int k n],h =>
  obtain ⟨⟨rfl,hw⟩,_⟩:=h;have:=bounds_i64 hw;exact ⟨⟨n,this⟩,rfl⟩
open Go Go.Kn Go.RowKit
end Go.Num
