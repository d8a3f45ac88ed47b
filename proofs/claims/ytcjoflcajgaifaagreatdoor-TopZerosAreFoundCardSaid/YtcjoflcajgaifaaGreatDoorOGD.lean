/- Lemmas: what they ask stands in their statements. -/
import Derived.Scope
import Derived.ProofKit
import Derived.OpenShut
import Derived.ShutString
import Derived.ChangeOld
import Derived.Test.YtcjoflcajgaifaaGreatDoorOGC
set_option linter.unusedSimpArgs false
set_option linter.unusedVariables false
namespace Go.Kn
open Go.RowKit
structure Part where
 n:Nat
 l:List Value
 len:l.length=n
 pl:∀ v∈l,plain v=true
def aV:List Part→List Value
 | []=>[]
 | [p]=>p.l
 | p::q::ps=>p.l++aV (q::ps)
theorem nM (p:Part) (ps:List Part):aV (p::ps)=p.l++aV ps:=by
 cases ps with
 | nil=>simp [aV]
 | cons q ps=>rfl
theorem lV (ps qs:List Part):aV (ps++qs)=aV ps++aV qs:=by
 induction ps with
 | nil=>rfl
 | cons p ps ih=>rw [List.cons_append,nM,nM,ih,List.append_assoc]
def mO:List Part→Nat
 | []=>0
 | p::ps=>p.n+mO ps
theorem pD:∀ ps:List Part,(aV ps).length=mO ps
 | []=>rfl
 | p::ps=>by rw [nM,List.length_append,p.len,pD ps];rfl
theorem FM (ps:List Part):∀ v∈aV ps,plain v=true:=by
 induction ps with
 | nil=>intro v h;cases h
 | cons p ps ih =>
  intro v h;rw [nM,List.mem_append] at h;rcases h with h|h
  ·exact p.pl v h
  exact ih v h
abbrev AV (ps:List Part):Value:=.agg (aV ps).toArray
abbrev ci (k:IntKind) (n:Int):Part:=⟨1,[.int k n],rfl,fun v h=>by rw [List.mem_singleton.1 h];rfl⟩
abbrev cb (b:Bool):Part:=⟨1,[.bool b],rfl,fun v h=>by rw [List.mem_singleton.1 h];rfl⟩
def JM:List Part→Nat→Option (List Part)
 | [],n=>bif Nat.beq n 0 then some [] else none
 | p::ps,n=>bif Nat.beq n 0 then some [] else bif Nat.ble p.n n then (match JM ps (n - p.n) with|some qs=>some (p::qs)|none=>none) else none
def AR:List Part→Nat→Nat→Option (List Part)
 | [],off,n=>bif Nat.beq off 0 then JM [] n else none
 | p::ps,off,n=>bif Nat.beq off 0 then JM (p::ps) n else bif Nat.ble p.n off then AR ps (off - p.n) n else none
theorem AC:∀ {ps qs:List Part} {n:Nat},JM ps n=some qs→∃ rs,ps=qs++rs∧mO qs=n
 | [],qs,n,h=>by
  simp only [JM] at h
  cases hb:Nat.beq n 0
  ·rw [hb] at h;cases h
  rw [hb] at h;cases h;exact ⟨[],rfl,(Nat.eq_of_beq_eq_true hb).symm⟩
 | p::ps,qs,n,h=>by
  simp only [JM] at h
  cases hb:Nat.beq n 0
  ·rw [hb] at h
   simp only [cond_false] at h
   cases hl:Nat.ble p.n n
   ·rw [hl] at h;cases h
   rw [hl] at h;simp only [cond_true] at h
   split at h
   ·rename_i qs' hq
    cases h
    obtain ⟨rs,h1,h2⟩:=AC hq;have:=Nat.le_of_ble_eq_true hl;exact ⟨rs,by rw [h1];rfl,by simp only [mO,h2];omega⟩
   ·cases h
  rw [hb] at h;cases h;exact ⟨p::ps,rfl,(Nat.eq_of_beq_eq_true hb).symm⟩
theorem IL:∀ {ps qs:List Part} {off n:Nat},AR ps off n=some qs→∃ as rs,ps=as++(qs++rs)∧mO as=off∧mO qs=n
 | [],qs,off,n,h=>by
  simp only [AR] at h
  cases hb:Nat.beq off 0
  ·rw [hb] at h;cases h
  rw [hb] at h;simp only [cond_true] at h;obtain ⟨rs,h1,h2⟩:=AC h;exact ⟨[],rs,h1,(Nat.eq_of_beq_eq_true hb).symm,h2⟩
 | p::ps,qs,off,n,h=>by
  simp only [AR] at h
  cases hb:Nat.beq off 0
  ·rw [hb] at h
   simp only [cond_false] at h
   cases hl:Nat.ble p.n off
   ·rw [hl] at h;cases h
   rw [hl] at h;simp only [cond_true] at h;obtain ⟨as,rs,h1,h2,h3⟩:=IL h;have:=Nat.le_of_ble_eq_true hl;exact ⟨p::as,rs,by rw [h1];rfl,by simp only [mO,h2];omega,h3⟩
  rw [hb] at h;simp only [cond_true] at h;obtain ⟨rs,h1,h2⟩:=AC h;exact ⟨[],rs,h1,(Nat.eq_of_beq_eq_true hb).symm,h2⟩
theorem o7 {ps qs:List Part} {off n:Nat} (h:AR ps off n=some qs):((aV ps).drop off).take n=aV qs∧(aV qs).length=n∧off+n≤(aV ps).length:=by
 obtain ⟨as,rs,rfl,h1,h2⟩:=IL h;rw [← h1,← h2,← pD,← pD,lV,lV,List.drop_left,List.take_left];exact ⟨rfl,rfl,by simp only [List.length_append];omega⟩
def wG:List Part→Nat→Option Value
 | [],_=>none
 | p::ps,off=>bif Nat.ble p.n off then wG ps (off - p.n) else p.l[off]?
theorem rY:∀ {ps:List Part} {off:Nat} {v:Value},wG ps off=some v→(aV ps)[off]? = some v
 | [],_,_,h=>by cases h
 | p::ps,off,v,h=>by
  simp only [wG] at h;rw [nM]
  cases hl:Nat.ble p.n off
  ·rw [hl] at h
   have h1:¬ p.n≤off:=fun hc=>by rw [Nat.ble_eq_true_of_le hc] at hl;cases hl
   rw [List.getElem?_append_left (by rw [p.len];omega)];exact h
  rw [hl] at h;rw [List.getElem?_append_right (by rw [p.len];exact Nat.le_of_ble_eq_true hl),p.len];exact rY h
def IP:List Part→Nat→Option (List Part)
 | [],n=>bif Nat.beq n 0 then some [] else none
 | p::ps,n=>bif Nat.beq n 0 then some (p::ps) else bif Nat.ble p.n n then IP ps (n - p.n) else none
def CV:List Part→Nat→Nat→List Part→Option (List Part)
 | [],off,n,qs=>bif Nat.beq off 0 then (match IP [] n with|some rs=>some (qs++rs)|none=>none) else none
 | p::ps,off,n,qs=>bif Nat.beq off 0 then (match IP (p::ps) n with|some rs=>some (qs++rs)|none=>none) else
  bif Nat.ble p.n off then (match CV ps (off - p.n) n qs with|some rs=>some (p::rs)|none=>none) else none
theorem zT:∀ {ps rs:List Part} {n:Nat},IP ps n=some rs→∃ as,ps=as++rs∧mO as=n
 | [],rs,n,h=>by
  simp only [IP] at h
  cases hb:Nat.beq n 0
  ·rw [hb] at h;cases h
  rw [hb] at h;cases h;exact ⟨[],rfl,(Nat.eq_of_beq_eq_true hb).symm⟩
 | p::ps,rs,n,h=>by
  simp only [IP] at h
  cases hb:Nat.beq n 0
  ·rw [hb] at h
   simp only [cond_false] at h
   cases hl:Nat.ble p.n n
   ·rw [hl] at h;cases h
   rw [hl] at h;simp only [cond_true] at h;obtain ⟨as,h1,h2⟩:=zT h;have:=Nat.le_of_ble_eq_true hl;exact ⟨p::as,by rw [h1];rfl,by simp only [mO,h2];omega⟩
  rw [hb] at h;cases h;exact ⟨[],rfl,(Nat.eq_of_beq_eq_true hb).symm⟩
theorem JG:∀ {ps ps' qs:List Part} {off n:Nat},CV ps off n qs=some ps'→∃ as bs rs,ps=as++(bs++rs)∧ps'=as++(qs++rs)∧mO as=off∧mO bs=n
 | [],ps',qs,off,n,h=>by
  simp only [CV] at h
  cases hb:Nat.beq off 0
  ·rw [hb] at h;cases h
  rw [hb] at h;simp only [cond_true] at h
  split at h
  ·rename_i rs hr
   cases h
   obtain ⟨as,h1,h2⟩:=zT hr;exact ⟨[],as,rs,h1,rfl,(Nat.eq_of_beq_eq_true hb).symm,h2⟩
  ·cases h
 | p::ps,ps',qs,off,n,h=>by
  simp only [CV] at h
  cases hb:Nat.beq off 0
  ·rw [hb] at h
   simp only [cond_false] at h
   cases hl:Nat.ble p.n off
   ·rw [hl] at h;cases h
   rw [hl] at h;simp only [cond_true] at h
   split at h
   ·rename_i rs hr
    cases h
    obtain ⟨as,bs,cs,h1,h2,h3,h4⟩:=JG hr;have:=Nat.le_of_ble_eq_true hl;exact ⟨p::as,bs,cs,by rw [h1];rfl,by rw [h2];rfl,by simp only [mO,h3];omega,h4⟩
   ·cases h
  rw [hb] at h;simp only [cond_true] at h
  split at h
  ·rename_i rs hr
   cases h
   obtain ⟨as,h1,h2⟩:=zT hr;exact ⟨[],as,rs,h1,rfl,(Nat.eq_of_beq_eq_true hb).symm,h2⟩
  ·cases h
theorem BO {ps ps' qs:List Part} {off n:Nat} (h:CV ps off n qs=some ps'):(aV ps).take off++aV qs++(aV ps).drop (off+n)=aV ps'∧off+n≤(aV ps).length:=by
 obtain ⟨as,bs,rs,rfl,rfl,h1,h2⟩:=JG h;rw [← h1,← h2,← pD,← pD,lV,lV,lV,lV,List.take_left,List.append_assoc]
 constructor
 ·congr 2
  rw [← List.drop_drop,List.drop_left,List.drop_left]
 simp only [List.length_append];omega
section
variable {P:Program} {w0:World} {X:List Nat} {N:Nm} {S:Fr} {M:List Blk} {d:Option Tmp} {ty:TypeId} {ps:String} {af:Array Edge} {gd:Option (Nat×Bool)}
theorem fK_ {o:Oper} {b off off':Nat} (q:OpQ P w0 X N o S M (.pointer (some ⟨b,off,none⟩))) (h:off=off'):OpQ P w0 X N o S M (.pointer (some ⟨b,off',none⟩)):=h ▸ q
theorem TM {T U:TypeId} {x:Operand} {n b off:Nat} {cs qs:List Part} (hT:gY P T=some (true,n)) (hx:evO N S x=some (.pointer (some ⟨b,off,none⟩))) (hm:(⟨b,U,aV cs⟩:Blk)∈M) (hc:AR cs off n=some qs) :
 OpQ P w0 X N ⟨d,.load T x,ty,ps,af,gd⟩ S M (AV qs):=fM hT hx hm (o7 hc).1 (o7 hc).2.1
theorem LZ {T U:TypeId} {x:Operand} {s b off:Nat} {cs:List Part} {v:Value} (hT:gY P T=some (false,s)) (hx:evO N S x=some (.pointer (some ⟨b,off,none⟩))) (hm:(⟨b,U,aV cs⟩:Blk)∈M) (hc:wG cs off=some v) :
 OpQ P w0 X N ⟨d,.load T x,ty,ps,af,gd⟩ S M v:=cU hT hx hm (rY hc)
theorem O7 {T U:TypeId} {x y:Operand} {g:Bool} {n b off:Nat} {cs cs' qs:List Part} {M':List Blk} {v:Value} {K:Value→List Blk→Prop} (hT:gY P T=some (g,n)) (hx:evO N S x=some (.pointer (some ⟨b,off,none⟩)))
  (hy:evO N S y=some v) (hv:v.cells=(aV qs).toArray) (hn:mO qs=n) (hc:CV cs off n qs=some cs') (hu:Upd b U (aV cs) (aV cs') M M') (hb:w0.heap.size≤b∨b∈X) (k:K undef M') :
  OpR P w0 X N ⟨d,.store T x y,ty,ps,af,gd⟩ S M K :=
 ET hT hx hu hy hv ((pD _).trans hn) (FM _) (BO hc).2 (BO hc).1 hb k
theorem en_ {T:TypeId} {x:Operand} {v:Value} {qs:List Part} {K:Value→List Blk→Prop} (hx:evO N S x=some v) (hv:v.cells=(aV qs).toArray) (k:∀ b,w0.heap.size≤b→K (.pointer (some ⟨b,0,none⟩)) (⟨b,T,aV qs⟩::M)) :
 OpR P w0 X N ⟨d,.box T x,ty,ps,af,gd⟩ S M K:=gW hx hv k
theorem bI {T:TypeId} {qs:List Part} {K:Value→List Blk→Prop} (hT:jD P T=some (aV qs)) (k:∀ b,w0.heap.size≤b→K (.pointer (some ⟨b,0,none⟩)) (⟨b,T,aV qs⟩::M)) :
 OpR P w0 X N ⟨d,.alloc T,ty,ps,af,gd⟩ S M K:=dL hT k
inductive FillP (place:Nat→Option (Nat×Nat)):List Part→List (Nat×Value)→List Part→Prop where
 | nil (z:List Part):FillP place z [] z
 | cons {i off size:Nat} {v:Value} {z out:List Part} {rest:List (Nat×Value)} (vs z':List Part) (hp:place i=some (off,size)) (hv:v.cells=(aV vs).toArray) (hl:mO vs=size)
  (hz:CV z off size vs=some z') (k:FillP place z' rest out):FillP place z ((i,v)::rest) out
theorem FillP.r {place:Nat→Option (Nat×Nat)} {z out:List Part} {parts:List (Nat×Value)} (h:FillP place z parts out):FillR place (aV z) parts (aV out):=by
 induction h with
 | nil z=>exact .nil _
 | cons vs z' hp hv hl hz k ih=>exact .cons hp hv ((pD _).trans hl) (BO hz).2 (BO hz).1 ih
theorem jI {T:TypeId} {xs:List (Nat×Operand)} {parts:List (Nat×Value)} {pl:List (Nat×Nat)} {z out:List Part} (hz:jD P T=some (aV z)) (hp:vA P T=some pl) (hx:evP N S xs=some parts)
 (h:FillP (fun i=>pl[i]?) z parts out):OpQ P w0 X N ⟨d,.build T xs.toArray,ty,ps,af,gd⟩ S M (AV out):=sM hz hp hx h.r
theorem r7 {T:TypeId} {xs:List (Nat×Operand)} {parts:List (Nat×Value)} {n s:Nat} {z out:List Part} (hz:jD P T=some (aV z)) (hp:yF P T=some (n,s)) (hx:evP N S xs=some parts)
 (h:FillP (fun i=>some (i*s,s)) z parts out):OpQ P w0 X N ⟨d,.build T xs.toArray,ty,ps,af,gd⟩ S M (AV out):=lG hz hp hx h.r
theorem iC {r:Tmp} {T:TypeId} {b off n:Nat} {U:TypeId} {cs qs:List Part} (hx:evO N S (.tmp r)=some (.pointer (some ⟨b,off,none⟩))) (hm:(⟨b,U,aV cs⟩:Blk)∈M) (hT:gY P T=some (true,n)) (hc:AR cs off n=some qs) :
 w5 P N S M (.cell r T) (AV qs):=⟨b,off,aV cs,U,true,n,hx,hm,hT,_,(o7 hc).1,(o7 hc).2.1,rfl⟩
theorem VP {r:Tmp} {T:TypeId} {b off n:Nat} {U:TypeId} {cs:List Part} {v:Value} (hx:evO N S (.tmp r)=some (.pointer (some ⟨b,off,none⟩))) (hm:(⟨b,U,aV cs⟩:Blk)∈M) (hT:gY P T=some (false,n)) (hc:wG cs off=some v) :
 w5 P N S M (.cell r T) v:=⟨b,off,aV cs,U,false,n,hx,hm,hT,rY hc⟩
end
section
variable {P:Program} {w0:World} {X:List Nat} {N:Nm} {S:Fr} {M:List Blk} {d:Option Tmp} {ty:TypeId} {ps:String} {af:Array Edge} {gd:Option (Nat×Bool)}
theorem OT {T off n:Nat} {cs qs:List Part} (hT:gY P T=some (true,n)) (hc:AR cs off n=some qs) (w:World):(part T (aV cs).toArray off).run P w = .ok (AV qs) w:=by
 unfold part;obtain ⟨h1,h2,h3⟩:=o7 hc;simp only [Sem.run_bind,(lC (w:=w) hT).1,(lC (w:=w) hT).2,Result.andThen_ok,if_true,Sem.run_pure]
 congr 2
 simp [List.extract,h1]
theorem I5 {T off n:Nat} {cs:List Part} {v:Value} (hT:gY P T=some (false,n)) (hc:wG cs off=some v) (w:World):(part T (aV cs).toArray off).run P w = .ok v w:=by
 unfold part;have h:=rY hc
 have h2:(aV cs).toArray[off]? = some v:=by simpa using h
 simp only [Sem.run_bind,(lC (w:=w) hT).1,Result.andThen_ok,Bool.false_eq_true,if_false,h2,Sem.run_pure]
def R2 (P:Program) (T:TypeId):Option (Nat×Nat×Bool):=match P.underlying T with
 | some (.array n e)=>(gY P e).map fun x=>(n,x.2,x.1)
 | _=>none
theorem JO {T n s:Nat} {g:Bool} (h:R2 P T=some (n,s,g)):∃ e,P.underlying T=some (.array n e)∧gY P e=some (g,s):=by
 unfold R2 at h;split at h
 ·rename_i m e hu
  cases he:gY P e with
  | none=>simp [he] at h
  | some x=>obtain ⟨x1,x2⟩:=x;simp [he] at h;obtain ⟨rfl,rfl,rfl⟩:=h;exact ⟨e,hu,he⟩
 ·cases h
theorem ZX {T:TypeId} {x y:Operand} {n s:Nat} {k:IntKind} {i:Int} {cs qs:List Part} (hT:R2 P T=some (n,s,true)) (hx:evO N S x=some (AV cs)) (hy:evO N S y=some (.int k i)) (h0:0≤i) (h1:i<n) (hc:AR cs (i.toNat*s) s=some qs) :
  OpQ P w0 X N ⟨d,.index T x y,ty,ps,af,gd⟩ S M (AV qs) :=
 kU fun w _=>by
  obtain ⟨e,hd,he⟩:=JO hT
  simp [execOp,aZ hx,aZ hy,Instr.index,asIntOf,run_underlying hd,(lC (w:=w) he).2,h0,h1,OT he hc]
theorem ZY {T:TypeId} {x y:Operand} {n s:Nat} {k:IntKind} {i:Int} {cs:List Part} {v:Value} (hT:R2 P T=some (n,s,false)) (hx:evO N S x=some (AV cs)) (hy:evO N S y=some (.int k i)) (h0:0≤i) (h1:i<n) (hc:wG cs (i.toNat*s)=some v) :
  OpQ P w0 X N ⟨d,.index T x y,ty,ps,af,gd⟩ S M v :=
 kU fun w _=>by
  obtain ⟨e,hd,he⟩:=JO hT
  simp [execOp,aZ hx,aZ hy,Instr.index,asIntOf,run_underlying hd,(lC (w:=w) he).2,h0,h1,I5 he hc]
def aC_ (P:Program) (T:TypeId) (f:Nat):Option (Nat×Nat×Bool):=match P.underlying T with
 | some (.struct fs)=>(fs[f]?).bind fun x=>(gY P x.type).map fun y=>(x.offset,y.2,y.1)
 | _=>none
theorem JP {T f o s:Nat} {g:Bool} (h:aC_ P T f=some (o,s,g)):∃ fs x,P.underlying T=some (.struct fs)∧fs[f]? = some x∧x.offset=o∧gY P x.type=some (g,s):=by
 unfold aC_ at h;split at h
 ·rename_i fs hu
  cases hx:fs[f]? with
  | none=>simp [hx] at h
  | some x =>
   cases he:gY P x.type with
   | none=>simp [hx,he] at h
   | some y=>obtain ⟨y1,y2⟩:=y;simp [hx,he] at h;obtain ⟨rfl,rfl,rfl⟩:=h;exact ⟨fs,x,hu,hx,rfl,he⟩
 ·cases h
theorem O1 {T:TypeId} {x:Operand} {f o s:Nat} {cs qs:List Part} (hT:aC_ P T f=some (o,s,true)) (hx:evO N S x=some (AV cs)) (hc:AR cs o s=some qs):OpQ P w0 X N ⟨d,.field T x f,ty,ps,af,gd⟩ S M (AV qs) :=
 kU fun w _=>by
  obtain ⟨fs,y,hd,hf,ho,he⟩:=JP hT
  simp [execOp,aZ hx,Instr.field,run_underlying hd,hf,asAgg,ho,OT he hc]
theorem O2 {T:TypeId} {x:Operand} {f o s:Nat} {cs:List Part} {v:Value} (hT:aC_ P T f=some (o,s,false)) (hx:evO N S x=some (AV cs)) (hc:wG cs o=some v):OpQ P w0 X N ⟨d,.field T x f,ty,ps,af,gd⟩ S M v :=
 kU fun w _=>by
  obtain ⟨fs,y,hd,hf,ho,he⟩:=JP hT
  simp [execOp,aZ hx,Instr.field,run_underlying hd,hf,asAgg,ho,I5 he hc]
theorem nZ {g:FuncId} {xs ys:List Operand} {vs us:List Value} (hx:evL N S xs=some vs) (hy:evL N S ys=some us):OpQ P w0 X N ⟨d,.makeFunc (.func g) xs.toArray ys.toArray,ty,ps,af,gd⟩ S M (.func (.func g) vs.toArray us.toArray) :=
 kU fun w _=>by
  have e1:(xs.toArray.map (ev N S))=vs.toArray:=by rw [← pB hx];simp
  have e2:(ys.toArray.map (ev N S))=us.toArray:=by rw [← pB hy];simp
  simp only [execOp,Instr.makeFunc,Sem.run_bind,Sem.run_pure,Result.andThen_ok,e1,e2]
theorem bW_ {g:FuncId} {f:Operand} {xs:List Operand} {tys:Array TypeId} {first cap args:List Value} {v:Value} (he:iJ P g=true) (hf:evO N S f=some (.func (.func g) first.toArray cap.toArray)) (ha:evL N S xs=some args)
  (h:∀ w,Sat w0 X M w→Calls P g (first++args++cap).toArray w fun e w'=>e = .returned v∧Ext w w'):OpQ P w0 X N ⟨d,.call { callee:=.value f,args:=xs.toArray,argTypes:=tys },ty,ps,af,gd⟩ S M v:=by
 intro w hw;unfold opw;rw [gT,uU he (aZ hf) (by rw [pB ha])];exact (h w hw).mono fun e w' ⟨h1,h2⟩=>⟨v,h1,rfl,h2⟩
theorem O4 {T U:TypeId} {x:Operand} {n b off:Nat} {cs qs:List Part} (hT:gY P T=some (true,n)) (hx:evO N S x=some (.pointer (some ⟨b,off,none⟩))) (hm:w0.heap[b]? = some (.cells (aV cs).toArray U (0,0))) (hX:b ∉ X) (hc:AR cs off n=some qs) :
 OpQ P w0 X N ⟨d,.load T x,ty,ps,af,gd⟩ S M (AV qs):=O3 hT hx hm hX (o7 hc).1 (o7 hc).2.1
theorem oD {T U:TypeId} {x:Operand} {s b off:Nat} {cs:List Part} {v:Value} (hT:gY P T=some (false,s)) (hx:evO N S x=some (.pointer (some ⟨b,off,none⟩))) (hm:w0.heap[b]? = some (.cells (aV cs).toArray U (0,0))) (hX:b ∉ X) (hc:wG cs off=some v) :
 OpQ P w0 X N ⟨d,.load T x,ty,ps,af,gd⟩ S M v:=EO hT hx hm hX (rY hc)
end
section
variable {P:Program} {w0:World} {X:List Nat} {N:Nm} {S:Fr} {M:List Blk} {Q:kI}
theorem e7_ {id:Nat} {ops:List Oper} {y:Code} {MD:List Blk} (sub:MD.Sublist M) (p:Plan) (nw:List Nat) (hm:P.follows .mixedOrders=true) (hs:Region.noSelect ops.toArray=true)
  (hok:Plan.ok ops.toArray nw ops.length (Array.replicate ops.length false) p=true)
  (h:∀ K:Fr→List Blk→Prop,(∀ S M,W P w0 X N y Q S M→K S M)→PL P w0 X N ops nw MD K p S M):W P w0 X N (.seq (.region id ops.toArray true) y) Q S M :=
 WM fun _ hK=>dq_ sub p nw hm hs hok fun K1 h1=>h K1 fun S M hw=>h1 S M (hK S M hw)
variable {d:Option Tmp} {ty:TypeId} {ps:String} {af:Array Edge} {gd:Option (Nat×Bool)}
theorem cx_ {ops l:List Oper} {R:Fr→List Blk→Prop} {T U:TypeId} {x y:Operand} {g:Bool} {n b off:Nat} {cs cs' qs:List Part} {M':List Blk} {v:Value} (hg:pS N ops S (⟨none,.store T x y,ty,ps,af,gd⟩:Oper)=true)
 (hT:gY P T=some (g,n)) (hx:evO N S x=some (.pointer (some ⟨b,off,none⟩))) (hy:evO N S y=some v) (hv:v.cells=(aV qs).toArray) (hn:mO qs=n) (hc:CV cs off n qs=some cs') (hu:Upd b U (aV cs) (aV cs') M M') (hb:w0.heap.size≤b)
 (k:WL P w0 X N ops R l S M'):WL P w0 X N ops R (⟨none,.store T x y,ty,ps,af,gd⟩::l) S M:=aQ hg (O7 hT hx hy hv hn hc hu (.inl hb) k)
theorem e0_ {ops:List Oper} {nw:List Nat} {MD:List Blk} {R:Fr→List Blk→Prop} {i:Nat} {r:Plan} {T U:TypeId} {x y:Operand} {g:Bool} {n b off:Nat} {cs cs' qs:List Part} {M':List Blk} {v:Value}
  (ho:ops[i]? = some ⟨none,.store T x y,ty,ps,af,gd⟩) (hg:pS N ops S (⟨none,.store T x y,ty,ps,af,gd⟩:Oper)=true)
  (hT:gY P T=some (g,n)) (hx:evO N S x=some (.pointer (some ⟨b,off,none⟩))) (hy:evO N S y=some v) (hv:v.cells=(aV qs).toArray) (hn:mO qs=n) (hc:CV cs off n qs=some cs') (hu:Upd b U (aV cs) (aV cs') M M') (hb:w0.heap.size≤b)
  (hw:nw.contains i=false) (hs:MD.Sublist M') (k:PL P w0 X N ops nw MD R r S M'):PL P w0 X N ops nw MD R (.only i r) S M :=
 dC ho hg (O7 hT hx hy hv hn hc hu (.inl hb) ⟨(fun h=>by rw [hw] at h;cases h),hs,k⟩)
end
theorem j7 {p q:Part} {ps qs:List Part} {r s:Bool} (hn:p.n=q.n) (h:r=true ↔ p.l=q.l) (k:s=true ↔ aV ps=aV qs):((r&&s)=true) ↔ aV (p::ps)=aV (q::qs):=by
 rw [nM,nM,Bool.and_eq_true,h,k]
 constructor
 ·rintro ⟨a,b⟩;rw [a,b]
 intro e;exact List.append_inj e (by rw [p.len,q.len,hn])
theorem mN {p q:Part} {r:Bool} (h:r=true ↔ p.l=q.l):(r=true) ↔ aV [p]=aV [q]:=h
theorem n9 {k:IntKind} {a b:Int}:decide (a=b)=true ↔ (ci k a).l=(ci k b).l:=by simp
theorem fV {p:Part} {ps:List Part} {l m:List nW} (h:eY p.l l=true) (k:eY (aV ps) m=true):eY (aV (p::ps)) (l++m)=true:=by rw [nM];exact wJ h k
theorem jN {p:Part} {l:List nW} (h:eY p.l l=true):eY (aV [p]) l=true:=h
theorem iT {k:IntKind} {a:Int}:eY (ci k a).l [some k]=true:=by simp [eY,vN]
theorem W_t {P:Program} {w0:World} {X:List Nat} {N:Nm} {Q:kI} {S:Fr} {M:List Blk} {c:Operand} {x y:Code} {b:Bool} (hb:b=true) (hc:evO N S c=some (.bool b)) (h:W P w0 X N x Q S M):W P w0 X N (.cond c x y) Q S M:=by
 subst hb;exact WO hc h
theorem W_f {P:Program} {w0:World} {X:List Nat} {N:Nm} {Q:kI} {S:Fr} {M:List Blk} {c:Operand} {x y:Code} {b:Bool} (hb:b=false) (hc:evO N S c=some (.bool b)) (h:W P w0 X N y Q S M):W P w0 X N (.cond c x y) Q S M:=by
 subst hb;exact R9 hc h
theorem s0 {α:Type} {l:List α}:l.Sublist l:=List.Sublist.refl l
theorem sn {α:Type} {l:List α}:([]:List α).Sublist l:=List.nil_sublist l
theorem sd {α:Type} {a:α} {l m:List α} (h:l.Sublist m):l.Sublist (a::m):=List.Sublist.cons a h
theorem sk {α:Type} {a:α} {l m:List α} (h:l.Sublist m):(a::l).Sublist (a::m):=List.Sublist.cons_cons a h
theorem sA {α:Type} {k l m:List α} (h:l.Sublist m):(k++l).Sublist (k++m):=List.Sublist.append (List.Sublist.refl k) h
theorem sR {α:Type} {k l m:List α} (h:l.Sublist m):l.Sublist (k++m):=List.Sublist.trans h (List.sublist_append_right k m)
theorem nf {p:Prop} (h:false=true):p:=by cases h
theorem bt (b:Bool):b=true∨b=false:=Bool.eq_false_or_eq_true b
theorem sG {c a v:Bool} (h:c=true) (k:v=a):v=(c&&a):=by rw [h,k];rfl
theorem w6 {c a:Bool} (h:c=false):false=(c&&a):=by rw [h];rfl
theorem pJ {c a:Bool} (h:c=true):true=(c||a):=by rw [h];rfl
theorem l5 {c a v:Bool} (h:c=false) (k:v=a):v=(c||a):=by rw [h,k];rfl
theorem uX {c a v:Bool} (h:c=true) (k:v=a):v=(!c||a):=by rw [h,k];rfl
theorem xK {c a:Bool} (h:c=false):true=(!c||a):=by rw [h];rfl
theorem F7 {c a:Bool} (h:c=true):false=(!c&&a):=by rw [h];rfl
theorem CH {c a v:Bool} (h:c=false) (k:v=a):v=(!c&&a):=by rw [h,k];rfl
theorem nm {α:Type} (e:α):∃ x,x=e:=⟨e,rfl⟩
theorem bS {α:Type} {c:Bool} {v x y:α} (h:c=true) (k:v=x):v=(bif c then x else y):=by rw [h];exact k
theorem bH {α:Type} {c:Bool} {v x y:α} (h:c=false) (k:v=y):v=(bif c then x else y):=by rw [h];exact k
theorem j8 {b:Bool} (h:b=false):(!b)=true:=by rw [h];rfl
theorem kC {b:Bool} (h:b=true):(!b)=false:=by rw [h];rfl
def Un (P:Program) (w0:World) (X:List Nat) (N:Nm) (c:Code) (Q:kI):Nat→Fr→List Blk→Prop
 | 0,_,_=>False
 | n+1,S,M=>W P w0 X N c (tA (Un P w0 X N c Q n) Q) S M
section
variable {P:Program} {w0:World} {X:List Nat} {N:Nm} {Q:kI} {S:Fr} {M:List Blk} {c:Code}
theorem i4 (n:Nat) (h:Un P w0 X N c Q n S M):W P w0 X N (.loop c) Q S M:=by
 refine WJ (fun n S M=>Un P w0 X N c Q n S M) n ⟨M,List.Sublist.refl _,h⟩ ?_;intro n S M h
 cases n with
 | zero=>exact h.elim
 | succ n =>
  refine BZ h ?_;intro e S' M' q
  cases e with
  | normal=>exact ⟨M',n,List.Sublist.refl _,Nat.lt_succ_self _,q⟩
  | exit id=>exact q
  | goto l=>exact q
  | ret=>exact q
  | panic c=>exact q
  | outgrown=>exact q
end
open Go.RowKit
structure El (α:Type) where
 n:Nat
 ps:α→List Part
 len:∀ x,mO (ps x)=n
def El.cs {α:Type} (e:El α) (x:α):List Value:=aV (e.ps x)
section rows
variable {α:Type} {e:El α}
theorem El.cs_len (x:α):(e.cs x).length=e.n:=(pD _).trans (e.len x)
theorem El.cs_plain (x:α):∀ v∈e.cs x,plain v=true:=FM _
def rows (e:El α) (l:List α):List Value:=l.flatMap e.cs
theorem jR:∀ l:List α,(rows e l).length=l.length*e.n
 | []=>by simp [rows]
 | x::l=>by
  have:=jR l;simp only [rows,List.flatMap_cons,List.length_append,List.length_cons,El.cs_len] at *;rw [this,Nat.succ_mul,Nat.add_comm]
theorem rC (a b:List α):rows e (a++b)=rows e a++rows e b:=by simp [rows]
theorem PC {l:List α} {k:Nat} {x:α} (h:l[k]? = some x):((rows e l).drop (k*e.n)).take e.n=e.cs x:=BR e.cs e.n l k x (fun y _=>El.cs_len y) h
theorem RT (l:List α):∀ v∈rows e l,plain v=true:=fun v h=>by
 obtain ⟨x,_,hx⟩:=List.mem_flatMap.1 h;exact El.cs_plain x v hx
theorem y4 (l:List α) (k:Nat):(rows e l).take (k*e.n)=rows e (l.take k):=by
 by_cases h:k≤l.length
 ·have e1:l=l.take k++l.drop k:=(List.take_append_drop k l).symm
  have e2:(rows e (l.take k)).length=k*e.n:=by rw [jR,List.length_take,Nat.min_eq_left h]
  conv=>lhs;rw [e1,rC]
  rw [← e2,List.take_left]
 rw [List.take_of_length_le (l:=rows e l) (by rw [jR];exact Nat.mul_le_mul_right _ (by omega)),List.take_of_length_le (by omega)]
theorem JB (l:List α) (k:Nat):(rows e l).drop (k*e.n)=rows e (l.drop k):=by
 by_cases h:k≤l.length
 ·have e1:l=l.take k++l.drop k:=(List.take_append_drop k l).symm
  have e2:(rows e (l.take k)).length=k*e.n:=by rw [jR,List.length_take,Nat.min_eq_left h]
  conv=>lhs;rw [e1,rC]
  rw [← e2,List.drop_left]
 rw [List.drop_of_length_le (l:=l) (by omega),List.drop_of_length_le]
 ·rfl
 rw [jR];exact Nat.mul_le_mul_right _ (by omega)
end rows
theorem KI (a:Addr) (m n:Nat):(a.add m).add n=a.add (m+n):=by
 unfold Addr.add
 by_cases h:m=0
 ·subst h;simp
 by_cases h2:n=0
 ·subst h2;simp [h]
 simp [h,h2,Nat.add_assoc]
def Rd (w:World) (a:Addr) (cs:List Value):Prop:=∀ j v,cs[j]? = some v→w.cell? (a.add j)=some v
theorem Rd.ext {w w':World} {a:Addr} {cs:List Value} (h:Rd w a cs) (he:Ext w w'):Rd w' a cs:=fun j v hj=>by
 have h1:=h j v hj;have he':Below w.heap.size w w':=he;unfold World.cell? at *
 have hb:(a.add j).block<w.heap.size:=by
  cases hc:w.heap[(a.add j).block]? with
  | none=>rw [hc] at h1;cases h1
  | some o=>exact cL? hc
 rw [he'.block _ hb];exact h1
theorem Rd.sub {w:World} {a:Addr} {cs:List Value} (h:Rd w a cs) (o n:Nat):Rd w (a.add o) ((cs.drop o).take n):=fun j v hj=>by
 have hj':j<n:=by
  rcases Nat.lt_or_ge j n with h'|h'
  ·exact h'
  rw [List.getElem?_eq_none (by rw [List.length_take];omega)] at hj;cases hj
 rw [KI];rw [List.getElem?_take_of_lt hj',List.getElem?_drop] at hj;exact h _ _ hj
theorem Rd.of_block {w:World} {b off:Nat} {T:TypeId} {cs xs:List Value} (h:w.heap[b]? = some (.cells cs.toArray T (0,0))) (hx:(cs.drop off).take xs.length=xs):Rd w ⟨b,off,none⟩ xs:=fun j v hj=>by
 rw [l8];have hj':j<xs.length:=(List.getElem?_eq_some_iff.1 hj).1;rw [← hx,List.getElem?_take_of_lt hj',List.getElem?_drop] at hj
 simp [World.cell?,h,hj]
def Slr {α:Type} (w:World) (e:El α) (v:Value) (l:List α):Prop :=
 ∃ p c,v = .slice p l.length c∧l.length≤c∧c≤maxLen∧((p=none∧l=[]∧c=0) ∨ ∃ a,p=some a∧Rd w a (rows e l))
def SLe {α:Type} (w0:World) (X:List Nat) (M:List Blk) (e:El α) (v:Value) (l:List α):Prop:=∀ w,Sat w0 X M w→Slr w e v l
def slb:Value→Nat→Addr
 | .slice (some a) _ _,m=>a.add m
 | _,m=>⟨0,m,none⟩
theorem MM (v:Value) (m o:Nat):(slb v m).add o=slb v (m+o):=by
 unfold slb
 split
 ·exact KI _ _ _
 exact l8 _ _ _
section
variable {α:Type} {e:El α} {P:Program} {w0:World} {X:List Nat} {N:Nm} {S:Fr} {M M':List Blk} {d:Option Tmp} {ty:TypeId} {ps:String} {af:Array Edge} {gd:Option (Nat×Bool)} {v:Value} {l:List α}
theorem Slr.ext {w w':World} (h:Slr w e v l) (he:Ext w w'):Slr w' e v l:=by
 obtain ⟨p,c,hv,hc,hm,h⟩:=h;refine ⟨p,c,hv,hc,hm,?_⟩;rcases h with h|⟨a,ha,hr⟩
 ·exact .inl h
 exact .inr ⟨a,ha,hr.ext he⟩
theorem Slr.max {w:World} (h:Slr w e v l):l.length≤9223372036854775807:=by
 obtain ⟨p,c,_,hc,hm,_⟩:=h;unfold maxLen at hm;omega
theorem SLe.sub (h:SLe w0 X M e v l) (hs:M.Sublist M'):SLe w0 X M' e v l:=fun w hw=>h w (hw.sub hs)
theorem Slr.old (h:Slr w0 e v l):SLe w0 [] [] e v l:=fun w hw=>h.ext hw.ext
theorem SLe.nil:SLe w0 X M e (.slice none 0 0) []:=fun w _=>⟨none,0,rfl,Nat.le_refl _,Nat.zero_le _,.inl ⟨rfl,rfl,rfl⟩⟩
theorem SLe.blk {b off n c:Nat} {T:TypeId} {cs:List Value} (h:(⟨b,T,cs⟩:Blk)∈M) (hn:l.length=n) (hc:n≤c) (hm:c≤maxLen) (ht:(cs.drop off).take (n*e.n)=rows e l):SLe w0 X M e (.slice (some ⟨b,off,none⟩) n c) l:=fun w hw=>by
 subst hn;refine ⟨_,c,rfl,hc,hm,.inr ⟨_,rfl,Rd.of_block (hw.mem _ h) ?_⟩⟩;rw [jR];exact ht
theorem SLe.mine {b n:Nat} {T:TypeId} {cs:List Value} (h:(⟨b,T,cs⟩:Blk)∈M) (hn:l.length=n) (hm:n≤maxLen) (ht:cs=rows e l):SLe w0 X M e (.slice (some ⟨b,0,none⟩) n n) l :=
 SLe.blk h hn (Nat.le_refl _) hm (by subst ht;rw [List.drop_zero,← hn,← jR];exact List.take_length ..)
theorem SLe.max (h:SLe w0 X M e v l) {w:World} (hw:Sat w0 X M w):l.length≤9223372036854775807:=(h w hw).max
theorem bX {T:TypeId} {x:Operand} {s:Nat} (hT:iK P T=some s) (hx:evO N S x=some v) (hv:SLe w0 X M e v l):OpQ P w0 X N ⟨d,.call { callee:=.builtin .len,args:=#[x],argTypes:=#[T] },ty,ps,af,gd⟩ S M (.int .i64 (l.length:Nat)):=by
 intro w hw;obtain ⟨p,c,rfl,_⟩:=hv w hw;exact DM (w0:=w0) (X:=X) (M:=M) hT hx w hw
theorem aJ {T:TypeId} {x y:Operand} {k:Nat} {i:IntKind} (hT:iK P T=some e.n) (hx:evO N S x=some v) (hy:evO N S y=some (.int i (k:Int))) (hv:SLe w0 X M e v l) (hk:k<l.length) :
  OpQ P w0 X N ⟨d,.indexAddr T x y,ty,ps,af,gd⟩ S M (.pointer (some (slb v (k*e.n)))):=by
 intro w hw;obtain ⟨p,c,rfl,hc,hm,h⟩:=hv w hw;rcases h with ⟨_,h,_⟩|⟨a,rfl,hr⟩
 ·rw [h] at hk;simp at hk
 refine kU (w0:=w0) (X:=X) (M:=M) (fun w _=>?_) w hw;obtain ⟨e',q,hd,hi,hs⟩:=nT hT;have h0:(0:Int)≤(k:Int):=Int.natCast_nonneg k;have h1:(k:Int)<(l.length:Int):=Int.ofNat_lt.2 hk
 simp [execOp,aZ hx,aZ hy,Instr.indexAt,asIntOf,run_underlying hd,sizeOf,typeInfo,hi,hs,h0,h1,slb]
 omega
theorem LX {T:TypeId} {x:Operand} {f o n m:Nat} (hT:wB P T f=some (o,n)) (hx:evO N S x=some (.pointer (some (slb v m)))) (hn:Nat.beq n 0=false):OpQ P w0 X N ⟨d,.fieldAddr T x f,ty,ps,af,gd⟩ S M (.pointer (some (slb v (m+o)))) :=
 kU fun w _=>by
  obtain ⟨fs,y,i,hd,hf,hi,ho,hs⟩:=BU hT
  have hn':n≠0:=fun h=>by subst h;cases hn
  simp [execOp,aZ hx,Instr.fieldAt,run_underlying hd,hf,Instr.sureAddr,fieldPlace,sizeOf,typeInfo,hi,hs,hn',ho,MM]
theorem Slr.at {w:World} {k:Nat} {x:α} (h:Slr w e v l) (hk:l[k]? = some x):Rd w (slb v (k*e.n)) (e.cs x):=by
 obtain ⟨p,c,rfl,hc,hm,h⟩:=h;rcases h with ⟨_,h,_⟩|⟨a,rfl,hr⟩
 ·rw [h] at hk;simp at hk
 have:=hr.sub (k*e.n) e.n;rw [PC hk] at this;exact this
theorem bH_ {T:TypeId} {n:Nat} {w:World} {a:Addr} {vs:List Value} (hT:gY P T=some (true,n)) (h:Rd w a vs) (hl:vs.length=n):(Instr.loadAt T (.pointer (some a))).run P w = .ok (.agg vs.toArray) w:=by
 have hx:=run_loadCells_list (P:=P) w a vs (fun j v hj=>h j v hj);rw [hl] at hx
 simp [Instr.loadAt,Instr.sureAddr,loadVar,(lC (w:=w) hT).1,(lC (w:=w) hT).2,hx]
theorem Y4 {T:TypeId} {s:Nat} {w:World} {a:Addr} {v:Value} (hT:gY P T=some (false,s)) (h:Rd w a [v]):(Instr.loadAt T (.pointer (some a))).run P w = .ok v w:=by
 have hc:=h 0 v O
 have ha:a.add 0=a:=by simp [Addr.add]
 rw [ha] at hc
 simp [Instr.loadAt,Instr.sureAddr,loadVar,(lC (w:=w) hT).1,load,Sem.run,hc]
theorem bJ {T:TypeId} {x:Operand} {k o n:Nat} {y:α} {qs:List Part} (hT:gY P T=some (true,n)) (hx:evO N S x=some (.pointer (some (slb v (k*e.n+o))))) (hv:SLe w0 X M e v l) (hk:l[k]? = some y) (hc:AR (e.ps y) o n=some qs) :
  OpQ P w0 X N ⟨d,.load T x,ty,ps,af,gd⟩ S M (AV qs) :=
 kU fun w hw=>by
  have h:=((hv w hw).at hk).sub o n;rw [El.cs,(o7 hc).1,MM] at h;simp only [execOp,aZ hx,Sem.run_bind,bH_ hT h (o7 hc).2.1];rfl
theorem cG {T:TypeId} {x:Operand} {k o s:Nat} {y:α} {u:Value} (hT:gY P T=some (false,s)) (hx:evO N S x=some (.pointer (some (slb v (k*e.n+o))))) (hv:SLe w0 X M e v l) (hk:l[k]? = some y) (hc:wG (e.ps y) o=some u) :
  OpQ P w0 X N ⟨d,.load T x,ty,ps,af,gd⟩ S M u :=
 kU fun w hw=>by
  have h:=((hv w hw).at hk).sub o 1
  have hu:((e.cs y).drop o).take 1=[u]:=by
   have h1:=rY hc;have hlt:=(List.getElem?_eq_some_iff.1 h1).1;rw [show e.cs y=aV (e.ps y) from rfl,List.drop_eq_getElem_cons hlt,List.take_succ_cons,List.take_zero];rw [List.getElem?_eq_getElem hlt] at h1;rw [Option.some.inj h1]
  rw [hu,MM] at h;simp only [execOp,aZ hx,Sem.run_bind,Y4 hT h];rfl
theorem Slr.take {w:World} (h:Slr w e v l) {n:Nat} (hn:n≤l.length):Slr w e (sls v n) (l.take n):=by
 obtain ⟨p,c,rfl,hc,hm,h⟩:=h
 have hl:(l.take n).length=n:=by rw [List.length_take,Nat.min_eq_left hn]
 refine ⟨p,c,by rw [hl];rfl,by omega,hm,?_⟩;rcases h with ⟨h1,h2,h3⟩|⟨a,ha,hr⟩
 ·exact .inl ⟨h1,by rw [h2];simp,h3⟩
 refine .inr ⟨a,ha,?_⟩;have:=hr.sub 0 (n*e.n);rw [List.drop_zero,y4] at this
 rwa [show a.add 0=a by simp [Addr.add]] at this
def Slfe {α:Type} (B:Nat) (w:World) (e:El α) (v:Value) (l:List α):Prop :=
 ∃ p c,v = .slice p l.length c∧l.length≤c∧c≤maxLen∧((p=none∧l=[]∧c=0) ∨ ∃ b off T,∃ cs:List Value,p=some ⟨b,off,none⟩∧B≤b∧w.heap[b]? = some (.cells cs.toArray T (0,0))∧(cs.drop off).take (l.length*e.n)=rows e l)
def SLfe (w0:World) (M:List Blk) (e:El α) (v:Value) (l:List α):Prop :=
 ∃ p c,v = .slice p l.length c∧l.length≤c∧c≤maxLen∧((p=none∧l=[]∧c=0) ∨ ∃ b off T cs,p=some ⟨b,off,none⟩∧w0.heap.size≤b∧(⟨b,T,cs⟩:Blk)∈M∧(cs.drop off).take (l.length*e.n)=rows e l)
theorem SLfe.sub (h:SLfe w0 M e v l) (hs:M.Sublist M'):SLfe w0 M' e v l:=by
 obtain ⟨p,c,hv,hc,hm,h⟩:=h;refine ⟨p,c,hv,hc,hm,?_⟩;rcases h with h|⟨b,off,T,cs,hp,hB,hh,ht⟩
 ·exact .inl h
 exact .inr ⟨b,off,T,cs,hp,hB,hs.mem hh,ht⟩
theorem SLfe.sle (h:SLfe w0 M e v l):SLe w0 X M e v l:=fun w hw=>by
 obtain ⟨p,c,hv,hc,hm,h⟩:=h;refine ⟨p,c,hv,hc,hm,?_⟩;rcases h with h|⟨b,off,T,cs,hp,hB,hh,ht⟩
 ·exact .inl h
 exact .inr ⟨_,hp,Rd.of_block (hw.mem _ hh) (by rw [jR];exact ht)⟩
theorem SLfe.slfe {w:World} (h:SLfe w0 M e v l) (hw:Sat w0 X M w):Slfe w0.heap.size w e v l:=by
 obtain ⟨p,c,hv,hc,hm,h⟩:=h;refine ⟨p,c,hv,hc,hm,?_⟩;rcases h with h|⟨b,off,T,cs,hp,hB,hh,ht⟩
 ·exact .inl h
 exact .inr ⟨b,off,T,cs,hp,hB,hw.mem _ hh,ht⟩
theorem SLfe.nil:SLfe w0 M e (.slice none 0 0) []:=⟨_,0,rfl,Nat.le_refl _,Nat.zero_le _,.inl ⟨rfl,rfl,rfl⟩⟩
theorem SLfe.mine {b n c:Nat} {T:TypeId} {cs:List Value} (hB:w0.heap.size≤b) (h:(⟨b,T,cs⟩:Blk)∈M) (hn:l.length=n) (hc:n≤c) (hm:c≤maxLen) (ht:cs.take (n*e.n)=rows e l):SLfe w0 M e (.slice (some ⟨b,0,none⟩) n c) l:=by
 subst hn;exact ⟨_,c,rfl,hc,hm,.inr ⟨b,0,T,cs,rfl,hB,h,by rw [List.drop_zero];exact ht⟩⟩
theorem Slfe.nowf {w w':World} (h:Slfe w.heap.size w' e v l) (hw:Sat w0 X M w) (he:Ext w w'):∃ L,Sat w0 X (L++M) w'∧SLfe w0 L e v l:=by
 have hw':=Sat.mono _ _ _ _ _ hw he;obtain ⟨p,c,hv,hc,hm,h⟩:=h;rcases h with h|⟨b,off,T,cs,hp,hB,hh,ht⟩
 ·exact ⟨[],hw',p,c,hv,hc,hm,.inl h⟩
 have hb:b ∉ M.map Blk.b:=fun hm=>by
  obtain ⟨x,hx,rfl⟩:=List.mem_map.1 hm;have:=cL? (hw.mem x hx);omega
 refine ⟨[⟨b,T,cs⟩],⟨hw'.os,hw'.tape,hw'.output,hw'.size,hw'.old,by simpa using And.intro (by simpa using hb) hw'.nodup,fun y hy=>?_⟩,p,c,hv,hc,hm,.inr ⟨b,off,T,cs,hp,Nat.le_trans hw.size hB,by simp,ht⟩⟩;rcases List.mem_cons.1 hy with rfl|hy
 ·exact hh
 exact hw'.mem y hy
def OwnG (w0:World) (E:TypeId) (e:El α) (v:Value) (l:List α) (L:List Blk):Prop :=
 (v = .slice none 0 0∧l=[]∧L=[]) ∨ ∃ g cap,∃ cur:List Value,v = .slice (some ⟨g,0,none⟩) l.length cap∧L=[⟨g,E,cur⟩]∧w0.heap.size≤g∧l.length≤cap∧cap≤maxLen∧cur.length=cap*e.n∧cur.take (l.length*e.n)=rows e l
theorem OwnG.nil {E:TypeId}:OwnG w0 E e (.slice none 0 0) [] []:=.inl ⟨rfl,rfl,rfl⟩
theorem OwnG.slfe {E:TypeId} {L:List Blk} (h:OwnG w0 E e v l L) (hs:L.Sublist M):SLfe w0 M e v l:=by
 rcases h with ⟨rfl,rfl,rfl⟩|⟨g,cap,cur,rfl,rfl,hg,hc,hm,hl,ht⟩
 ·exact SLfe.nil
 exact ⟨_,cap,rfl,hc,hm,.inr ⟨g,0,E,cur,rfl,hg,hs.mem (by simp),by rw [List.drop_zero];exact ht⟩⟩
theorem OwnG.of_mine {E:TypeId} {b n:Nat} {cs:List Value} (hb:w0.heap.size≤b) (hn:l.length=n) (hm:n≤maxLen) (ht:cs=rows e l):OwnG w0 E e (.slice (some ⟨b,0,none⟩) n n) l [⟨b,E,cs⟩]:=by
 subst hn ht;exact .inr ⟨b,l.length,rows e l,rfl,rfl,hb,Nat.le_refl _,hm,jR l,List.take_of_length_le (by rw [jR];exact Nat.le_refl _)⟩
def R3 (P:Program) (E:TypeId) (n bytes:Nat):Bool:=match P.info? E with
 | some i=>i.size==n&&i.bytes==bytes&&(match i.zero with|some z=>z.cells.size==n|none=>false)
 | none=>false
theorem VL {T E:TypeId} {x y:Operand} {u:Value} {m:List α} {L M1:List Blk} {bytes:Nat} {K:Value→List Blk→Prop} (hT:P.underlying T=some (.slice E)) (hE:R3 P E e.n bytes=true) (h0:0<e.n) (hx:evO N S x=some v) (hy:evO N S y=some u)
  (hv:OwnG w0 E e v l L) (hu:SLe w0 X M e u m) (hs:(L++M1).Sublist M) (hn:(l.length+m.length)*bytes≤140737488355328) (h8:0<bytes) (k:∀ v' L',OwnG w0 E e v' (l++m) L'→K v' (L'++M1)) :
  OpR P w0 X N ⟨d,.call { callee:=.builtin .append,args:=#[x,y],argTypes:=#[T,T] },ty,ps,af,gd⟩ S M K:=by
 intro w hw;unfold R3 at hE
 cases hi:P.info? E with
 | none=>simp [hi] at hE
 | some i =>
 cases hz:i.zero with
 | none=>simp [hi,hz] at hE
 | some z =>
 simp only [hi,hz,Bool.and_eq_true,beq_iff_eq] at hE;obtain ⟨⟨h1,hby⟩,hzc⟩:=hE;have hlen:l.length+m.length≤140737488355328:=Nat.le_trans (Nat.le_mul_of_pos_right _ h8) hn;have hw1:Sat w0 X (L++M1) w:=hw.sub hs
 have hown:w.ownsRow w0.heap.size E e.n v l.length (rows e l):=by
  refine ⟨jR l,?_⟩;rcases hv with ⟨rfl,rfl,rfl⟩|⟨g,cap,cur,rfl,rfl,hg,hc,hm,hl,ht⟩
  ·exact .inl ⟨rfl,rfl⟩
  exact .inr ⟨g,cap,cur.toArray,rfl,hg,hw1.mem ⟨g,E,cur⟩ (by simp),hc,hm,by simp [hl],ht⟩
 have hrow:∀ k,v.ownBlock=some k→k∈L.map Blk.b∧w0.heap.size≤k:=by
  intro k hk;rcases hv with ⟨rfl,rfl,rfl⟩|⟨g,cap,cur,rfl,rfl,hg,hc,hm,hl,ht⟩
  ·cases hk
  obtain rfl:g=k:=by simpa [Value.ownBlock] using hk
  exact ⟨by simp,hg⟩
 have hrun:∃ v' w',(Builtin.append_ #[T,T] ty #[v,u]).run P w = .ok v' w'∧w'.ownsRow w0.heap.size E e.n v' (l.length+m.length) (rows e l++rows e m)∧w.grownBy w' v.ownBlock∧(v'.ownBlock=v.ownBlock∨v'.ownBlock=some w.heap.size):=by
  obtain ⟨p,c,rfl,hc,hm',h⟩:=hu w hw;rcases h with ⟨rfl,rfl,rfl⟩|⟨a,rfl,hr⟩
  ·refine ⟨v,w,?_,by simpa [rows] using hown,⟨rfl,rfl,rfl,Nat.le_refl _,fun _ _ _=>rfl⟩,.inl O⟩
   rcases hv with ⟨rfl,rfl,rfl⟩|⟨g,cap,cur,rfl,rfl,hg,hc,hm,hl,ht⟩
   ·simp [Builtin.append_,run_underlying hT,sizeOf,typeInfo,hi,Builtin.lenOf,Builtin.firstCells]
   simp [Builtin.append_,run_underlying hT,sizeOf,typeInfo,hi,Builtin.lenOf,Builtin.firstCells,hc,storeCells]
  obtain ⟨v',w',hr,ho,hg,_,hb⟩:=run_append_own_at (P:=P) w w0.heap.size T ty E i z e.n bytes hT hi hz h1 hby hzc h0 v l.length (rows e l) hown a m.length c (rows e m) (jR m) hr (fun u hu=>yX (RT m u hu)) (by unfold maxLen;omega) hn hw.size;exact ⟨v',w',hr,ho,hg,hb⟩
 obtain ⟨v',w',hr,ho,hg,hb⟩:=hrun;unfold opw
 have hex:(execOp (ev N S) ⟨d,.call { callee:=.builtin .append,args:=#[x,y],argTypes:=#[T,T] },ty,ps,af,gd⟩).run P w = .ok (.value v') w':=by
  simp [execOp,resolve,invoke,builtin,aZ hx,aZ hy,hr]
 rw [gT,hex]
 have hko:KeepsOthers w w':=KeepsOthers.of_grownBy hg fun j o hj ho=>by
  obtain ⟨x,hx,hxb⟩:=List.mem_map.1 (hrow j hj).1;have h9:=hw1.mem x (List.mem_append_left _ hx);rw [hxb,ho] at h9
  cases h9;rfl
 have hold:∀ k,k<w0.heap.size→k ∉ X→w'.heap[k]? = w0.heap[k]?:=fun k hk hx=>by
  rw [hg.block k (Nat.lt_of_lt_of_le hk hw.size) (fun e=>by have:=(hrow k e.symm).2;omega)];exact hw.old k hk hx
 have hM1:∀ y∈M1,w'.heap[y.b]? = some (.cells y.cs.toArray y.T (0,0)):=fun y hy=>by
  have hy':=hw1.mem y (List.mem_append_right _ hy);rw [hg.block y.b (cL? hy') (fun e=>?_)];exact hy';have h2:=hw1.nodup;rw [List.map_append,List.nodup_append] at h2;exact h2.2.2 _ (hrow _ e.symm).1 _ (List.mem_map_of_mem hy) O
 have hnd1:(M1.map Blk.b).Nodup:=by
  have h2:=hw1.nodup;rw [List.map_append,List.nodup_append] at h2;exact h2.2.1
 rcases ho.2 with ⟨rfl,hz0⟩|⟨g,cap,cur,rfl,hbg,hcell,hnc,hcm,hcs,htk⟩
 ·have e0:l++m=[]:=List.eq_nil_of_length_eq_zero (by rw [List.length_append];exact hz0)
  refine ⟨hko,[]++M1,⟨hg.os.trans hw.os,hg.tape.trans hw.tape,hg.output.trans hw.output,Nat.le_trans hw.size hg.size,hold,hnd1,hM1⟩,k _ [] (.inl ⟨rfl,e0,rfl⟩)⟩
 have hgn:g ∉ M1.map Blk.b:=by
  rcases hb with hb|hb
  ·have h2:=hw1.nodup
   rw [List.map_append,List.nodup_append] at h2;exact fun hm=>h2.2.2 _ (hrow g hb.symm).1 _ hm O
  have hgs:g=w.heap.size:=by simpa [Value.ownBlock] using hb
  intro hm;obtain ⟨y,hy,hyb⟩:=List.mem_map.1 hm;have:=cL? (hw1.mem y (List.mem_append_right _ hy));omega
 refine ⟨hko,[⟨g,E,cur.toList⟩]++M1,⟨hg.os.trans hw.os,hg.tape.trans hw.tape,hg.output.trans hw.output,Nat.le_trans hw.size hg.size,hold,by simpa using And.intro (by simpa using hgn) hnd1,fun y hy=>?_⟩,
  k _ _ (.inr ⟨g,cap,cur.toList,by rw [List.length_append],rfl,hbg,by rw [List.length_append];exact hnc,hcm,by simpa using hcs,by rw [List.length_append,rC];exact htk⟩)⟩
 rcases List.mem_cons.1 hy with rfl|hy
 ·simpa using hcell
 exact hM1 y hy
end
def sm {σ ρ β:Type} (f:σ→β) (g:ρ→β):σ ⊕ ρ→β
 | .inl s=>f s
 | .inr r=>g r
theorem gW_ {σ ρ β:Type} {f:σ→β} {g:ρ→β} {x:σ ⊕ ρ} {r:ρ} {v:β} (h:x = .inr r) (k:v=g r):v=sm f g x:=by rw [h];exact k
def ap {σ β:Type} (f:σ→β) (x:σ):β:=f x
theorem yR {α:Type} {l r:List α} {i:Nat} {x:α} (h:l.drop i=x::r):l[i]? = some x∧i<l.length∧l.drop (i+1)=r:=by
 have h1:i<l.length:=by
  rcases Nat.lt_or_ge i l.length with h'|h'
  ·exact h'
  rw [List.drop_of_length_le h'] at h;cases h
 rw [List.drop_eq_getElem_cons h1] at h;simp only [List.cons.injEq] at h;exact ⟨by rw [List.getElem?_eq_getElem h1,h.1],h1,h.2⟩
theorem XZ {α:Type} {l:List α} {i:Nat} (h:l.drop i=[]):l.length≤i:=by simpa using h
theorem wi {n:Int} (h:-9223372036854775808≤n∧n≤9223372036854775807):IntKind.i64.wrap n=n:=by
 unfold IntKind.wrap
 simp [IntKind.bits,IntKind.signed]
 omega
theorem nxt {n i:Nat} (hi:i<n) (hm:n≤9223372036854775807):IntKind.i64.wrap ((i:Int)+1)=((i+1:Nat):Int):=by rw [wi (by omega)];omega
theorem KS {α:Type} {l:List α} {i:Nat} (h:l.drop i=[]):decide ((i:Int)<(l.length:Int))=false:=decide_eq_false (by have:=XZ h;omega)
theorem FE {α:Type} {l r:List α} {i:Nat} {x:α} (h:l.drop i=x::r):decide ((i:Int)<(l.length:Int))=true:=decide_eq_true (by have:=(yR h).2.1;omega)
open Go.RowKit
def dc_ (s:Nat):Nat→List (Nat×Value)→List (List Part)→Prop
 | _,[],[]=>True
 | i,(j,v)::ps,q::qs=>j=i∧v.cells=(aV q).toArray∧mO q=s∧dc_ s (i+1) ps qs
 | _,_,_=>False
theorem IC {s:Nat}:∀ (parts:List (Nat×Value)) (qs:List (List Part)) (i:Nat) (pre post:List Value),dc_ s i parts qs→pre.length=i*s→post.length=parts.length*s →
  FillR (fun i=>some (i*s,s)) (pre++post) parts (pre++aV qs.flatten)
 | [],[],i,pre,post,_,_,hq=>by
  have:post=[]:=List.eq_nil_of_length_eq_zero (by simpa using hq);subst this;exact .nil _
 | (j,v)::ps,q::qs,i,pre,post,h,hp,hq=>by
  obtain ⟨rfl,hv,hs,h⟩:=h;have hl:(aV q).length=s:=(pD _).trans hs
  have hq':post.length=ps.length*s+s:=by rw [hq,List.length_cons,Nat.succ_mul]
  have ih:=IC ps qs (j+1) (pre++aV q) (post.drop s) h (by rw [List.length_append,hp,hl,Nat.succ_mul]) (by rw [List.length_drop];omega);rw [List.flatten_cons,lV,← List.append_assoc];refine .cons O hv hl (by rw [List.length_append,hp];omega) ?_ ih;rw [← hp,List.take_left,← List.drop_drop,List.drop_left]
 | [],_::_,_,_,_,h,_,_=>h.elim
 | _::_,[],_,_,_,h,_,_=>h.elim
section
variable {P:Program} {w0:World} {X:List Nat} {N:Nm} {S:Fr} {M:List Blk} {d:Option Tmp} {ty:TypeId} {ps:String} {af:Array Edge} {gd:Option (Nat×Bool)}
theorem bZ {T E:TypeId} {xs:List (Nat×Operand)} {parts:List (Nat×Value)} {n s:Nat} {z:List Value} {K:Value→List Blk→Prop} (qs:List (List Part)) (out:List Part) (hT:P.underlying T=some (.slice E)) (hz:jD P E=some z) (hs:(P.info? E).map (·.size)=some s)
  (hzl:z.length=s) (hn:n*s≤16777216) (hx:evP N S xs=some parts) (hpl:parts.length=n) (h:dc_ s 0 parts qs) (ho:qs.flatten=out) (k:∀ b,w0.heap.size≤b→K (.slice (some ⟨b,0,none⟩) n n) (⟨b,E,aV out⟩::M)) :
  OpR P w0 X N ⟨d,.buildSlice T n xs.toArray,ty,ps,af,gd⟩ S M K:=by
 subst ho;refine gQ hT hz hs hzl hn hx ?_ k;have:=IC parts qs 0 [] ((List.replicate n z).flatten) h (by simp) (by rw [hpl];simp [hzl])
 simpa using this
theorem xQ {x y:Operand} {tys:Array TypeId} {k:IntKind} {a b:Int} (hx:evO N S x=some (.int k a)) (hy:evO N S y=some (.int k b)):OpQ P w0 X N ⟨d,.call { callee:=.builtin .max,args:=#[x,y],argTypes:=tys },ty,ps,af,gd⟩ S M (.int k (if b > a then b else a)) :=
 kU fun w _=>by
  simp only [execOp,resolve,invoke,builtin,Sem.run_bind,Sem.run_pure,Result.andThen_ok,List.map_toArray,List.map_cons,List.map_nil,aZ hx,aZ hy,run_max_int2]
theorem eh_ {x y:Operand} {tys:Array TypeId} {k:IntKind} {a b:Int} (hx:evO N S x=some (.int k a)) (hy:evO N S y=some (.int k b)):OpQ P w0 X N ⟨d,.call { callee:=.builtin .min,args:=#[x,y],argTypes:=tys },ty,ps,af,gd⟩ S M (.int k (if b<a then b else a)) :=
 kU fun w _=>by
  simp only [execOp,resolve,invoke,builtin,Sem.run_bind,Sem.run_pure,Result.andThen_ok,List.map_toArray,List.map_cons,List.map_nil,aZ hx,aZ hy,run_min_int2]
end
theorem aY_ {P:Program} {w0:World} {X:List Nat} {N:Nm} {Q Q0:kI} {S0:Fr} {M0:List Blk} {x y:Code} (hK:∀ S M,W P w0 X N y Q0 S M→Q .normal S M) (mods:List Nat) (R:(Nat→Value)→List Blk→Prop)
  (hx:∀ K:Fr→List Blk→Prop,(∀ S M,PutOn mods S0 S→(∃ M',M'.Sublist M∧R (look S) M')→K S M)→W P w0 X N x (tA K Q) S0 M0)
  (hy:∀ g M,R g M→W P w0 X N y Q0 (uI S0 g mods) M):W P w0 X N x Q S0 M0:=by
 refine BZ (hx (fun S M=>PutOn mods S0 S∧∃ M',M'.Sublist M∧R (look S) M') (fun S M h1 h2=>⟨h1,h2⟩)) ?_;intro e S M h
 cases e with
 | normal =>
  obtain ⟨hp,M',hs,hr⟩:=h;exact hK S M (AI (sW hp) (fQ hs (hy _ _ hr)))
 | exit id=>exact h
 | goto l=>exact h
 | ret=>exact h
 | panic c=>exact h
 | outgrown=>exact h
theorem wX {σ ρ β:Type} {f:σ→β} {g:ρ→β} {x:σ ⊕ ρ} {r:ρ} {v:β} (k:v=g r) (h:x = .inr r):v=sm f g x:=gW_ h k
open Go.RowKit
def slk (k s:Nat):Value→Value
 | .slice a len cap=>.slice (if cap=k then a else a.map (·.add (k*s))) (len - k) (cap - k)
 | v=>v
theorem Slr.drop {α:Type} {e:El α} {v:Value} {l:List α} {w:World} (h:Slr w e v l) {k:Nat} (hk:k≤l.length):Slr w e (slk k e.n v) (l.drop k):=by
 obtain ⟨p,c,rfl,hc,hm,h⟩:=h;refine ⟨_,c - k,by rw [List.length_drop];rfl,by rw [List.length_drop];omega,by unfold maxLen at *;omega,?_⟩;rcases h with ⟨h1,h2,h3⟩|⟨a,ha,hr⟩
 ·subst h1 h2 h3
  obtain rfl:k=0:=by simpa using hk
  exact .inl ⟨rfl,rfl,rfl⟩
 subst ha
 by_cases hck:c=k
 ·refine .inr ⟨a,by rw [if_pos hck],?_⟩
  have:l.drop k=[]:=List.drop_of_length_le (by omega);rw [this];intro j v hj;cases hj
 refine .inr ⟨a.add (k*e.n),by rw [if_neg hck];rfl,?_⟩;have h2:=hr.sub (k*e.n) ((l.length - k)*e.n);rw [JB,List.take_of_length_le (by rw [jR,List.length_drop];exact Nat.le_refl _)] at h2;exact h2
section
variable {α:Type} {e:El α} {P:Program} {w0:World} {X:List Nat} {N:Nm} {S:Fr} {M:List Blk} {d:Option Tmp} {ty:TypeId} {ps:String} {af:Array Edge} {gd:Option (Nat×Bool)} {v:Value} {l:List α}
theorem SLe.drop (h:SLe w0 X M e v l) {k:Nat} (hk:k≤l.length):SLe w0 X M e (slk k e.n v) (l.drop k):=fun w hw=>(h w hw).drop hk
end
theorem B4 {a b:Int} (h:(a==b)=true):a=b:=by simpa using h
theorem o6 {a b:Int} (h:(a==b)=false):a≠b:=by simpa using h
section
variable {α:Type} {e:El α} {w0:World} {X:List Nat} {M:List Blk} {v:Value} {l:List α}
theorem BL:∀ l:List α,aV (l.flatMap e.ps)=rows e l
 | []=>rfl
 | x::l=>by
  rw [List.flatMap_cons,lV,BL l];simp [rows,El.cs]
theorem SLe.lit {b n:Nat} {T:TypeId} {qs:List Part} (h:(⟨b,T,aV qs⟩:Blk)∈M) (hn:l.length=n) (hm:n≤maxLen) (hq:qs=l.flatMap e.ps):SLe w0 X M e (.slice (some ⟨b,0,none⟩) n n) l :=
 SLe.mine h hn hm (by rw [hq];exact BL l)
theorem SLe.ap {w:World} (hw:Sat w0 X M w) (h:SLe w0 X M e v l):Slr w e v l:=h w hw
end
open Go.RowKit
section
variable {P:Program} {w0:World} {X:List Nat} {S:Fr} {M:List Blk} {d:Option Tmp} {ty:TypeId} {p:String} {af:Array Edge} {gd:Option (Nat×Bool)}
theorem AK {id:Nat} {Q:kI} (h:Q .normal S M):B5 id Q .normal S M:=h
theorem v4 {next:Fr→List Blk→Prop} {Q:kI} (h:next S M):tA next Q .normal S M:=h
abbrev cfn (g:Nat) (cap:List Value):Part:=⟨1,[.func (.func g) #[] cap.toArray],rfl,fun v h=>by rw [List.mem_singleton.1 h];rfl⟩
abbrev csl (a:Option Addr) (l c:Nat):Part:=⟨1,[.slice a l c],rfl,fun v h=>by rw [List.mem_singleton.1 h];rfl⟩
theorem rR {N:Nm} {n':Nat} {g:FuncId} {fn:Func} {c:Code} {xs:List Operand} {tys:Array TypeId} {args:List Value} {K:Value→List Blk→Prop} (he:iJ P g=true) (hf:P.funcs[g]? = some fn) (hb:fn.body=some c) (hn:fn.ntmps=n')
  (ha:evL N S xs=some args) (hl:args.length≤n') (h:W P w0 X (pl n') c (kP P fn w0 X (pl n') K) (nV 0 args) M):OpR P w0 X N ⟨d,.call { callee:=.value (.func g),args:=xs.toArray,argTypes:=tys },ty,p,af,gd⟩ S M K :=
 xU he ha fun w hw=>gU hf hb hn hl hw h
theorem Z1 {N:Nm} {g:FuncId} {f:Operand} {xs:List Operand} {tys:Array TypeId} {args:List Value} {v:Value} (he:iJ P g=true) (hf:evO N S f=some (.func (.func g) #[] #[])) (h:Ret P g args v) (ha:evL N S xs=some args) :
  OpQ P w0 X N ⟨d,.call { callee:=.value f,args:=xs.toArray,argTypes:=tys },ty,p,af,gd⟩ S M v:=by
 intro w hw;unfold opw;rw [gT,uU (first:=[]) (cap:=[]) he (aZ hf) (by simpa using pB ha)];exact (h w).mono fun e w' ⟨h1,h2⟩=>⟨v,h1,rfl,h2⟩
theorem Sat.putO {w:World} {b:Nat} {o:Obj} (h:Sat w0 X M w) (hb:w0.heap.size≤b) (hd:w.heap[b]? = some o) (ho:o.isCells=false) (o':Obj):Sat w0 X M (w.putObj b o') :=
 ⟨h.os,h.tape,h.output,by rw [World.putObj_size];exact h.size,fun k hk hx=>(World.putObj_heap_other (by omega)).trans (h.old k hk hx),h.nodup,fun x hx=>by
  refine (World.putObj_heap_other (fun e=>?_)).trans (h.mem x hx);have:=h.mem x hx
  rw [e,hd] at this;cases this;cases ho⟩
theorem DG.lt {B:Nat} {w:World}:∀ {D:List Deferred},DG B D w→∀ e∈D,∃ b,e.target = .collected b∧b<w.heap.size
 | d::D,⟨⟨b,h1,_,h3,_⟩,h⟩,e,he=>by
  rcases List.mem_cons.1 he with rfl|he
  ·exact ⟨b,by rw [h1],cL? h3⟩
  exact DG.lt h e he
theorem DG.same {B:Nat} {w w':World}:∀ {D:List Deferred},DG B D w→(∀ (k:Nat) (o:Option (List Deferred)),w.heap[k]? = some (.deferred o)→w'.heap[k]? = some (.deferred o))→DG B D w'
 | [],_,_=>trivial
 | d::D,⟨⟨b,h1,h2,h3,h4⟩,h⟩,hk=>⟨⟨b,h1,h2,hk _ _ h3,h4⟩,DG.same h hk⟩
theorem OG {fn:Func} {tmps:Array Value} {B n:Nat} {F:Fence} {R:Ending→World→Prop} (hB:w0.heap.size≤B):∀ (D:List Deferred) (w':World),DG B D w'→Sat w0 X M w' →
  (∀ w'',Sat w0 X M w''→w'.heap.size≤w''.heap.size→(∀ k,k<B→w''.heap[k]? = w'.heap[k]?)→∃ v,(results fn tmps).run P w'' = .ok v w''∧R (.returned v) w'')→LeavesInM F n P fn tmps R D .returning w'
 | [],w',_,hs,h=>h w' hs (Nat.le_refl _) fun _ _=>rfl
 | d::D,w',⟨⟨b,h1,h2,h3,h4⟩,hd⟩,hs,h=>by
  refine ⟨by simp,.inl ⟨b,w'.putObj b (.deferred none),by rw [h1],run_takeDeferred h3,OG hB D _ ?_ (hs.putO (Nat.le_trans hB h2) h3 O _) fun w'' hs' hz hk=>h w'' hs' (by rw [World.putObj_size] at hz;exact hz) fun k hlt=>(hk k hlt).trans (World.putObj_heap_other (by omega))⟩⟩;clear h1 hs h
  revert hd h4
  induction D with
  | nil=>exact fun _ _=>trivial
  | cons e D ih =>
   rintro h4 ⟨⟨b',g1,g2,g3,g4⟩,hd⟩;refine ⟨⟨b',g1,g2,(World.putObj_heap_other (fun e'=>?_)).trans g3,g4⟩,ih (fun x hx=>h4 x (List.mem_cons_of_mem _ hx)) hd⟩;exact h4 e List.mem_cons_self (by rw [g1,e'])
def FW (P:Program) (fn:Func) (w0:World) (X:List Nat) (N:Nm) (Q:kI) (S0:Fr):kI:=fun e S M =>
 (e = .normal∨e = .ret)∧(∃ v,∀ w,Sat w0 X M w→(results fn (act N S).tmps).run P w = .ok v w)∧(gst S=true→Q .ret S0 M)∧(gst S=false→Q .normal S0 M)
theorem Q5 {fn:Func} {N:Nm} {Q:kI} {S0:Fr} {e:Exit} (hr:fn.results = #[]) (he:e = .normal∨e = .ret) (hg:gst S=false) (h:Q .normal S0 M):FW P fn w0 X N Q S0 e S M :=
 ⟨he,⟨.tuple #[],fun w _=>by simp [sP,hr]⟩,fun h'=>(by rw [hg] at h';cases h'),fun _=>h⟩
theorem YY {fn:Func} {N:Nm} {Q:kI} {S0:Fr} {e:Exit} (hr:fn.results = #[]) (he:e = .normal∨e = .ret) (hg:gst S=true) (h:Q .ret S0 M):FW P fn w0 X N Q S0 e S M :=
 ⟨he,⟨.tuple #[],fun w _=>by simp [sP,hr]⟩,fun _=>h,fun h'=>(by rw [hg] at h';cases h')⟩
theorem IZ:∀ (l:List Value) (k:Nat),k+l.length≤1000000→gst (nV k l)=false
 | [],_,_=>rfl
 | v::l,k,h=>by
  have h1:=IZ l (k+1) (by simp only [List.length_cons] at h;omega)
  have h2:okD (some k)=true:=by simp [okD,Nat.blt_eq];simp only [List.length_cons] at h;omega
  exact (YK (yV (S:=nV (k+1) l) (d:=some k) (v:=v) h2)).trans h1
theorem KF {n n' gf:Nat} {g:Operand} {ps:Array Tmp} {assign body c:Code} {fn:Func} {lb:List Value} {Q:kI} (hg:evO (pl n) S g=some (.func (.func gf) #[] lb.toArray)) (he:iJ P gf=true) (hf:P.funcs[gf]? = some fn) (hb:fn.body=some c)
  (hn:fn.ntmps=n') (hl:lb.length+1≤n') (hm:n'≤1000000)
  (h:∀ (l:Nat) (ρ:Loop),w0.heap.size≤l→ρ.params=ps→ρ.assign=assign→ρ.body=body→ρ.tmps=(act (pl n) S).tmps →
   W P w0 X ⟨n',.iter l ρ⟩ c (FW P fn w0 X ⟨n',.iter l ρ⟩ Q S) (nV 0 (.func (.yield l) #[] #[]::lb)) M):W P w0 X (pl n) (.rangeFunc g ps assign body) Q S M:=by
 intro B D w hB hd hr hw;refine wpIn_rangeFunc (fun fnid _=>?_);obtain ⟨ρ,hρ⟩:∃ ρ:Loop,ρ = { state:=.ready,pending:=none,fn:=fnid,tmps:=(act (pl n) S).tmps,params:=ps,assign,body,defers:=w.heap.size }:=⟨_,rfl⟩;obtain ⟨W1,hW1⟩:∃ W1,(w.alloc (.deferred (some []))).alloc (.loop ρ)=W1:=⟨_,rfl⟩
 have hE:Ext w W1:=by rw [← hW1];exact ((Below.refl _ w).alloc (Nat.le_refl _) _).alloc (by simp) _
 have hL1:W1.heap[w.heap.size+1]? = some (.loop ρ):=by
  rw [← hW1];have:=World.alloc_heap_new (w.alloc (.deferred (some []))) (.loop ρ);rwa [World.size_alloc] at this
 have hK1:W1.heap[w.heap.size]? = some (.deferred (some [])):=by
  rw [← hW1];exact (Below.heap_alloc _ _ _ (by simp)).trans (World.alloc_heap_new w _)
 have hz1:W1.heap.size=w.heap.size+2:=by rw [← hW1];simp
 refine ⟨w.heap.size+1,[{ target:=.collected w.heap.size,args:=#[] }],W1,{ target:=.fn (.func gf) lb.toArray,args:=#[.func (.yield (w.heap.size+1)) #[] #[]] },W1,gf,
  #[.func (.yield (w.heap.size+1)) #[] #[]]++lb.toArray,W1,?_,?_,fun _ _=>trivial,?_,fun e=>(by cases e),?_⟩
 ·rw [← hW1,hρ];exact run_enterLoop_outer _ _ _ _ _
 ·have hg':(kJ D (pl n) S).eval g = .func (.func gf) #[] lb.toArray:=by rw [yN];exact aZ hg
  simp only [resolve,hg']
  simp [go_sem]
 ·simp [invoke,go_sem,JD he]
 refine callsIn_of_wp_marks (F:=rI none) (n:=0) hf hb trivial ?_ O;have h1:=h (w.heap.size+1) ρ (by have:=hw.size;omega) (by rw [hρ]) (by rw [hρ]) (by rw [hρ]) (by rw [hρ]) W1.heap.size [] W1 (Nat.le_refl _) trivial ?_ (Sat.mono _ _ _ _ _ hw hE)
 ·rw [IB [] _ _ (by simp only [List.length_cons];exact hl)] at h1
  rw [hn]
  have harg:(Value.func (.yield (w.heap.size+1)) #[] #[]::lb).toArray = #[.func (.yield (w.heap.size+1)) #[] #[]]++lb.toArray:=by simp
  rw [harg] at h1;refine wpIn_mono h1 ?_;rintro e a w' ⟨D',S',M',rfl,hs,hk,hd',hr',hne,⟨v,hv⟩,hq1,hq2⟩
  have key:LeavesInM (rI none) 0 P fn (kJ D' ⟨n',.iter (w.heap.size+1) ρ⟩ S').tmps (rangePost (rI none) 0 P (w.heap.size+1) (lift w0 X (pl n) B w Q) { kJ D (pl n) S with defers:=[{ target:=.collected w.heap.size,args:=#[] }]++(kJ D (pl n) S).defers }) D' .returning w':=by
   refine OG (w0:=w0) (X:=X) (M:=M') (by have:=hw.size;omega:w0.heap.size≤W1.heap.size) D' w' hd' hs fun w'' hs'' hz hsame=>⟨v,hv w'' hs'',?_⟩
   have hlt:w.heap.size+1<W1.heap.size:=by omega
   have hl2:∀ k,k<w.heap.size→w''.heap[k]? = w'.heap[k]?:=fun k hk=>hsame k (by omega);have hd2:w''.heap[w.heap.size]? = some (.deferred (some [])):=(hsame _ (by omega)).trans (hk.same _ _ (fun e=>by have e:w.heap.size=w.heap.size+1:=e;omega) hK1 O)
   have hzz:w.heap.size≤w''.heap.size:=by have:=hk.size;omega
   have fin:∀ (r r':Loop) (e:Exit),w''.heap[w.heap.size+1]? = some (.loop r)→Q e S M'→lift w0 X (pl n) B w Q e { kJ D (pl n) S with defers:=[{ target:=.collected w.heap.size,args:=#[] }]++(kJ D (pl n) S).defers } (w''.putObj (w.heap.size+1) (.loop r')):=by
    intro r r' e hl3 hq
    have hko:KO .plain w (w''.putObj (w.heap.size+1) (.loop r')):=⟨by rw [World.putObj_size];exact hzz,fun k o _ hk1 ho=>by
     have hlk:=cL? hk1;refine (World.putObj_heap_other (by omega)).trans ((hl2 k hlk).trans (hk.same k o (fun e=>by have e:k=w.heap.size+1:=e;omega) ?_ ho))
     exact (Below.block hE k hlk).trans hk1⟩
    refine ⟨{ target:=.collected w.heap.size,args:=#[] } :: D,S,M',rfl,hs''.putO (by have:=hw.size;omega) hl3 O _,hko,⟨⟨_,rfl,hB,(World.putObj_heap_other (by omega)).trans hd2,fun e he h=>?_⟩,DG.ko hr hko hd⟩,⟨fun _ _ h=>(by cases h),trivial⟩,hq⟩;obtain ⟨b,hb1,hb2⟩:=DG.lt hd e he;rw [h] at hb1;cases hb1;omega
   have hrec:=hr'.1 (w.heap.size+1)
   cases hgs:gst S' with
   | false =>
    have hl3:=(hsame _ hlt).trans (hrec { ρ with state:=.ready,pending:=none } (by simp only [xW,hgs];rfl));exact ⟨none,_,run_endLoop hl3 (by simp),fin _ _ _ hl3 (hq2 hgs)⟩
   | true =>
    have hl3:=(hsame _ hlt).trans (hrec { ρ with state:=.done,pending:=some .ret } (by simp only [xW,hgs];rfl));exact ⟨some .ret,_,run_endLoop hl3 (by simp),wpIn_ret (fin _ _ _ hl3 (hq1 hgs))⟩
  rcases hne with rfl|rfl
  ·exact key
  exact key
 refine ⟨?_,trivial⟩;intro l ρ' hrec;have hg0:=IZ (.func (.yield (w.heap.size+1)) #[] #[]::lb) 0 (by simp only [List.length_cons];omega);simp only [xW,hg0,cond_false,Option.some.injEq,Prod.mk.injEq] at hrec;obtain ⟨rfl,rfl⟩:=hrec;rw [hL1,hρ]
def ME (S:Fr) (K:Value→Fr→List Blk→Prop):kI
 | .normal,_,M=>K (.bool true) S M
 | .ret,_,M=>K (.bool false) ((1000000,.bool false)::S) M
 | _,_,_=>False
theorem vR {K:Value→Fr→List Blk→Prop} {S':Fr} (h:K (.bool true) S M):ME S K .normal S' M:=h
theorem TW {K:Value→Fr→List Blk→Prop} {S':Fr} (h:K (.bool false) ((1000000,.bool false)::S) M):ME S K .ret S' M:=h
def R4:List Tmp→List Value→Fr→Fr
 | p::ps,v::vs,S=>R4 ps vs ((p,v)::S)
 | _,_,S=>S
theorem aN_ (n:Nm):∀ (ps:List Tmp) (vs:List Value) (S:Fr),((ps.toArray.zip vs.toArray).foldl (fun tmps (t,a)=>tmps.setIfInBounds t a) (act n S).tmps)=(act n (R4 ps vs S)).tmps:=by
 intro ps vs S;rw [List.zip_toArray,List.foldl_toArray]
 induction ps generalizing vs S with
 | nil=>rfl
 | cons p ps ih =>
  cases vs with
  | nil=>rfl
  | cons v vs =>
   simp only [List.zip_cons_cons,List.foldl_cons,R4];have:(act n S).tmps.setIfInBounds p v=(act n ((p,v)::S)).tmps:=congrArg Act.tmps (a3_ n S (some p) v);rw [this];exact ih vs _
theorem vT {n n' l:Nat} {ρ:Loop} {f:Operand} {xs:List Operand} {tys:Array TypeId} {ps:List Tmp} {args:List Value} {assign body:Code} {S0:Fr} {K:Value→Fr→List Blk→Prop} (hf:evO ⟨n',.iter l ρ⟩ S f=some (.func (.yield l) #[] #[])) (ha:evL ⟨n',.iter l ρ⟩ S xs=some args)
  (hg:gst S=false) (hp:ρ.params=ps.toArray) (hpa:ρ.assign=assign) (hpb:ρ.body=body) (ht:ρ.tmps=(act (pl n) S0).tmps) (hs:args.length=ps.length) (hN:Nat.ble n' 1000000=true) (hlb:w0.heap.size≤l)
  (h:W P w0 X ⟨n,.round l ρ .ready⟩ assign (tA (fun S' M'=>W P w0 X ⟨n,.round l ρ .busy⟩ body (ME S K) S' M') (fun _ _ _=>False)) (R4 ps args S0) M) :
  OpS P w0 X ⟨n',.iter l ρ⟩ ⟨d,.call { callee:=.value f,args:=xs.toArray,argTypes:=tys },ty,p,af,gd⟩ S M K:=by
 intro w hr hw;have hl:w.heap[l]? = some (.loop { ρ with state:=.ready,pending:=none }):=hr.1 l _ (by simp only [xW,hg,cond_false]);have hy:=run_yield (P:=P) (args:=args.toArray) hl (by rw [hp];simpa using hs);unfold opw;rw [gT]
 have hexec:(execOp (ev ⟨n',.iter l ρ⟩ S) ⟨d,.call { callee:=.value f,args:=xs.toArray,argTypes:=tys },ty,p,af,gd⟩).run P w=(Instr.yield l args.toArray).run P w:=by
  have hx:Array.map (ev ⟨n',.iter l ρ⟩ S) xs.toArray=args.toArray:=by rw [← pB ha];simp
  simp only [execOp,resolve,aZ hf,Deferred.ofValue,Sem.run_bind,Sem.run_pure,Result.andThen_ok,invoke,hx]
  simp
 rw [hexec,hy];refine roundIn_of_wpIn (F:=Fence.wide) trivial ?_;have hrr:∀ st,w.heap[l]? = some (.loop { ρ with state:=st,pending:=none })→RecAt (.round l ρ st) (R4 ps args S0) w:=fun st h=>⟨fun l' ρ' e=>(by cases e;exact h),trivial⟩;have h1:=h w.heap.size [] w (Nat.le_refl _) trivial (hrr _ hl) hw;have hz:kJ [] ⟨n,.round l ρ .ready⟩ (R4 ps args S0) = { tmps:=(act (pl n) (R4 ps args S0)).tmps,defers:=[] }:=rfl;rw [hz,← aN_,← ht,← hp,← hpa] at h1;refine wpIn_mono h1 ?_;rintro e a1 w1 ⟨D1,S1,M1,rfl,hs1,hk1,hd1,hr1,q⟩
 cases e with
 | normal =>
  have hl1:w1.heap[l]? = some (.loop { ρ with state:=.ready,pending:=none }):=hr1.1 _ _ O;have hlt1:=cL? hl1;refine ⟨_,run_beginRound hl1 O,?_⟩;have hl2:(w1.putObj l (.loop { ρ with state:=.busy,pending:=none })).heap[l]? = some (.loop { ρ with state:=.busy,pending:=none }):=World.putObj_heap_same hlt1;have q1:W P w0 X ⟨n,.round l ρ .busy⟩ body (ME S K) S1 M1:=q;have h2:=q1 w.heap.size D1 (w1.putObj l (.loop { ρ with state:=.busy,pending:=none })) (by rw [World.putObj_size];exact hk1.size) (hd1.same fun k o hk=>(World.putObj_heap_other (fun e=>by subst e;rw [hl1] at hk;cases hk)).trans hk)
   ⟨fun l' ρ' e=>(by cases e;exact hl2),trivial⟩ (hs1.putO hlb hl1 O _)
  rw [← hpb] at h2;refine wpIn_mono h2 ?_;rintro e3 a3 w3 ⟨D3,S3,M3,rfl,hs3,hk3,hd3,hr3,q3⟩;have hl3:w3.heap[l]? = some (.loop { ρ with state:=.busy,pending:=none }):=hr3.1 _ _ O;have hlt3:=cL? hl3
  have hko:∀ o,KO (.iter l ρ) w (w3.putObj l o):=fun o=>⟨by rw [World.putObj_size];have:=hk1.size;have:=hk3.size;rw [World.putObj_size] at this;omega,fun k o hne hk ho=>by
   have hkl:k≠l:=hne
   refine (World.putObj_heap_other hkl).trans (hk3.same k o (fun e=>e) ((World.putObj_heap_other hkl).trans (hk1.same k o (fun e=>e) hk ho)) ho)⟩
  cases e3 with
  | normal =>
   refine ⟨_,_,run_endRound none hl3,.bool true,rfl,hko _,S,M3,fun _=>rfl,⟨fun l' ρ' e=>?_,trivial⟩,hs3.putO hlb hl3 O _,q3⟩;simp only [xW,hg,cond_false,Option.some.injEq,Prod.mk.injEq] at e;obtain ⟨rfl,rfl⟩:=e;exact World.putObj_heap_same hlt3
  | ret =>
   refine ⟨_,_,run_endRound (some .ret) hl3,.bool false,rfl,hko _,(1000000,.bool false)::S,M3,fun D=>?_,⟨fun l' ρ' e=>?_,trivial⟩,hs3.putO hlb hl3 O _,q3⟩
   ·unfold kJ
    congr 2
    refine List.map_congr_left fun i hi=>?_;rw [oX,if_neg];have h1:i<n':=List.mem_range.1 hi;have h2:n'≤1000000:=Nat.le_of_ble_eq_true hN;intro e;omega
   have:gst ((1000000,.bool false)::S)=true:=rfl;simp only [xW,this,cond_true,Option.some.injEq,Prod.mk.injEq] at e;obtain ⟨rfl,rfl⟩:=e;exact World.putObj_heap_same hlt3
  | exit id=>exact q3.elim
  | goto t=>exact q3.elim
  | panic ch=>exact q3.elim
  | outgrown=>exact q3.elim
 | exit id=>exact q.elim
 | goto t=>exact q.elim
 | ret=>exact q.elim
 | panic ch=>exact q.elim
 | outgrown=>exact q.elim
theorem tZ {N:Nm} {ops:List Oper} {Q:Fr→List Blk→Prop} {o:Oper} {l:List Oper} (hg:pS N ops S o=true) (h:OpS P w0 X N o S M (fun v S' M'=>WL P w0 X N ops Q l (lN S' o.dst v) M')) :
  WL P w0 X N ops Q (o::l) S M:=by
 simp only [WL];exact ⟨(mF hg).1,by rw [if_pos (mF hg).2];exact h⟩
end
end Go.Kn
namespace Go.Num
open Go Go.Kn
instance (n:Int):Decidable (I64 n):=by unfold I64;infer_instance
abbrev W:={n:Int // I64 n}
theorem rG (n:Int):I64 (IntKind.i64.wrap n):=by rw [HQ];unfold I64;split<;>omega
abbrev wl (n:Int) (h:I64 n:=by decide):W:=⟨n,h⟩
def W.add (a b:W):W:=⟨IntKind.i64.wrap (a.1+b.1),rG _⟩
def W.sub (a b:W):W:=⟨IntKind.i64.wrap (a.1 - b.1),rG _⟩
def W.mul (a b:W):W:=⟨IntKind.i64.wrap (a.1*b.1),rG _⟩
def W.neg (a:W):W:=⟨IntKind.i64.wrap (0 - a.1),rG _⟩
def W.quo (a b:W):W:=⟨IntKind.i64.wrap (a.1.tdiv b.1),rG _⟩
theorem az_ {a b:Int} (ha:I64 a):I64 (a.tmod b):=by
 have h:(a.tmod b).natAbs≤a.natAbs:=by rw [Int.natAbs_tmod];exact Nat.mod_le _ _
 by_cases h0:a = -9223372036854775808
 ·subst h0
  have h1:Int.tmod (-9223372036854775808) b≤0:=by rw [Int.neg_tmod];have:=Int.tmod_nonneg b (show (0:Int)≤9223372036854775808 by decide);omega
  unfold I64;omega
 unfold I64 at *;omega
def W.rem (a b:W):W:=⟨a.1.tmod b.1,az_ a.2⟩
deriving instance DecidableEq for R
abbrev I:={r:R // r.Ok}
def I.dec (x:I):Z:=x.1.dec
def E (z:Z):I:=⟨z.enc,Z.enc_ok z⟩
def I0:I:=⟨⟨false,false,List.replicate 16 0⟩,⟨by simp,qH 16⟩⟩
theorem bW (z:Z):(E z).dec=z:=vJ z
theorem R6 {a b:Z} (h:E a=E b):a=b:=by rw [← bW a,← bW b,h]
theorem cg1 {α:Type} (g:Z→α) {x:I} {a:Z} (h:x.dec=a):g x.1.dec=g a:=by subst h;rfl
theorem cg2 {α:Type} (g:Z→Z→α) {x y:I} {a b:Z} (h:x.dec=a) (k:y.dec=b):g x.1.dec y.1.dec=g a b:=by subst h k;rfl
instance:DecidableEq Z:=fun a b=>decidable_of_iff (a.o=b.o) ⟨fun h=>Z.ext h,fun h=>by rw [h]⟩
def pI (x:I):Part:=⟨18,x.1.cells,cJ x.2,bC _⟩
theorem US {a b:R} (h:a.cells=b.cells):a=b:=by
 cases a;cases b
 simp only [R.cells,List.cons.injEq,Value.bool.injEq] at h;obtain ⟨h1,h2,h3⟩:=h;rw [h1,h2,HH h3]
theorem zE {a b:I}:decide (a=b)=true ↔ (pI a).l=(pI b).l:=by
 rw [decide_eq_true_iff];exact ⟨fun h=>by rw [h],fun h=>Subtype.ext (US h)⟩
def LI:List nW:=none::none::List.replicate 16 (some .u32)
theorem oY {a:I}:eY (pI a).l LI=true:=by
 show (vN _ none&&(vN _ none&&eY (uw a.1.w) (List.replicate 16 (some .u32))))=true
 rw [kA a.2.len];rfl
theorem am_ (z:Z):I64 z.sign:=by
 unfold Z.sign;split
 ·rename_i x _
  have h:x.sign = -1∨x.sign=0∨x.sign=1:=by
   rcases Int.lt_trichotomy x 0 with h|h|h
   ·exact .inl (Int.sign_eq_neg_one_of_neg h)
   ·subst h;exact .inr (.inl O)
   exact .inr (.inr (Int.sign_eq_one_of_pos h))
  unfold I64;omega
 decide
def Z.signW (z:Z):W:=⟨z.sign,am_ z⟩
theorem bh_ (a b:Z):I64 (Z.cmp a b):=by
 unfold Z.cmp;split<;>try decide
 unfold tH;split
 ·decide
 split<;>decide
def Z.cmpW (a b:Z):W:=⟨Z.cmp a b,bh_ a b⟩
theorem X0:dv [1]=1:=rfl
theorem gL_ {a:R} (ha:a.Ok):val a.w<65536 ^ 32:=by rw [GJ];exact ha.vlt
def W.fdiv (a b:W):W:=⟨IntKind.i64.wrap (a.1.fdiv b.1),rG _⟩
structure A3 (α:Type) where
 x:α
 y:α
 z:α
deriving DecidableEq
structure A4 (α:Type) where
 x:α
 y:α
 z:α
 t:α
deriving DecidableEq
structure Rt where
 n:I
 d:I
deriving DecidableEq
structure Dir where
 v:A3 W
 e:W
deriving DecidableEq
end Go.Num
namespace Go.Kn
open Go
def MG (Q:kI):kI
 | .goto _,_,_=>False
 | e,S,M=>Q e S M
section
variable {P:Program} {w0:World} {X:List Nat} {N:Nm} {Q:kI} {S:Fr} {M:List Blk} {c:Code}
theorem aZ_ {l:Nat} (h:Q .normal S M):W P w0 X N (.label l) Q S M:=fun B D w hB hd hr hw=>wpIn_label ⟨D,S,M,rfl,hw,.refl _ _,hd,hr,h⟩
theorem PO {b:Frame} {a:Act} {k:List Item} {cs:List Frame} {w:World} {c:Code}:step P (lone (b.atR a (.code (.scope c)::k)) cs w) = .next (lone (b.atR a (.code c::.inScope c::k)) cs w) :=
 step_lone_go (by simp [stepG,stepG.exec,Frame.atR])
theorem H4 {b:Frame} {a:Act} {k:List Item} {cs:List Frame} {w:World} {c:Code}:step P (lone (b.atR a (.inScope c::k)) cs w) = .next (lone (b.atR a k) cs w) :=
 step_lone_go (by simp [stepG,stepG.exec,Frame.atR])
theorem zC {F:Fence} {n:Nat} {c:Code} {Q:Exit→Act→World→Prop} {a:Act} {w:World} (h:c.wpIn F n P (Exit.noGoto Q) a w):(Code.scope c).wpIn F n P Q a w:=by
 intro b k cs hro hb hr;obtain ⟨e,a₁,w₁,hq,harr⟩:=h b (.inScope c::k) cs hro hb hr;have s1:StepsIn (Machine.fenced P F) P (lone (b.atR a (.code (.scope c)::k)) cs w) (lone (b.atR a (.code c::.inScope c::k)) cs w):=.one (fenced_calm hb hr O) PO
 cases e with
 | normal=>exact ⟨.normal,a₁,w₁,hq,StepsIn.trans s1 (StepsIn.trans harr (.one (fenced_calm hb hr O) H4))⟩
 | exit id=>exact ⟨.exit id,a₁,w₁,hq,.of_steps s1 ⟨fun k' hk=>harr.1 k' (by simp [exitTo,hk]),fun hr' hk=>harr.2 hr' (by simp [exitTo,hk])⟩⟩
 | goto l=>exact hq.elim
 | ret=>exact ⟨_,a₁,w₁,hq,.of_steps s1 harr⟩
 | panic ch=>exact ⟨_,a₁,w₁,hq,.of_steps s1 harr⟩
 | outgrown=>exact ⟨_,a₁,w₁,hq,.of_steps s1 harr⟩
theorem a1_ (h:W P w0 X N c (MG Q) S M):W P w0 X N (.scope c) Q S M:=by
 intro B D w hB hd hr hw;refine zC (wpIn_mono (h B D w hB hd hr hw) ?_);rintro e a w' ⟨D',S',M',rfl,hs,hk,hd',hr',q⟩
 cases e with
 | normal=>exact ⟨D',S',M',rfl,hs,hk,hd',hr',q⟩
 | exit id=>exact ⟨D',S',M',rfl,hs,hk,hd',hr',q⟩
 | goto l=>exact q.elim
 | ret=>exact ⟨D',S',M',rfl,hs,hk,hd',hr',q⟩
 | panic c=>exact ⟨D',S',M',rfl,hs,hk,hd',hr',q⟩
 | outgrown=>exact ⟨D',S',M',rfl,hs,hk,hd',hr',q⟩
theorem BN (h:Q .normal S M):MG Q .normal S M:=h
theorem PF (h:Q .ret S M):MG Q .ret S M:=h
theorem PG {id:Nat} (h:Q (.exit id) S M):MG Q (.exit id) S M:=h
end
end Go.Kn
namespace Go.Num
open Go Go.Kn
theorem EW {a b:R} (ha:a.Ok) (hb:b.Ok) (ga:a.good=true) (gb:b.good=true):Z.cmp a.dec b.dec=tH (sgn a.neg (val a.w)) (sgn b.neg (val b.w)):=by
 unfold Z.cmp;rw [dQ ha ga,dQ hb gb]
theorem TG {a:R} (ga:a.good=true) (h:a.neg=true):0<val a.w:=by
 unfold R.good R.valid R.zero at ga;rw [h] at ga
 cases hb:a.bad
 ·rw [hb] at ga
  refine Nat.pos_of_ne_zero fun h0=>?_;rw [h0] at ga;simp at ga
 rw [hb] at ga;simp at ga
theorem XC {a b:R} (ha:a.Ok) (hb:b.Ok) (ga:a.good=true) (gb:b.good=true) (hn:a.neg≠b.neg) (h:a.neg=true):(-1:Int)=Z.cmp a.dec b.dec:=by
 have hb2:b.neg=false:=by cases h2:b.neg;rfl;rw [h,h2] at hn;exact absurd O hn
 have h0:=TG ga h;rw [EW ha hb ga gb,h,hb2];unfold tH sgn;rw [if_pos (by simp only [if_true,Bool.false_eq_true,if_false];omega)]
theorem XB {a b:R} (ha:a.Ok) (hb:b.Ok) (ga:a.good=true) (gb:b.good=true) (hn:a.neg≠b.neg) (h:a.neg=false):(1:Int)=Z.cmp a.dec b.dec:=by
 have hb2:b.neg=true:=by cases h2:b.neg;rw [h,h2] at hn;exact absurd O hn;rfl
 have h0:=TG gb hb2;rw [EW ha hb ga gb,h,hb2];unfold tH sgn;rw [if_neg (by simp only [if_true,Bool.false_eq_true,if_false];omega),if_neg (by simp only [if_true,Bool.false_eq_true,if_false];omega)]
theorem XD {a b:R} (ha:a.Ok) (hb:b.Ok) (ga:a.good=true) (gb:b.good=true) (hn:a.neg=b.neg) (h:a.neg=true):tH (val b.w) (val a.w)=Z.cmp a.dec b.dec:=by
 rw [EW ha hb ga gb,← hn,h];unfold tH sgn;simp only [if_true]
 split<;>split<;>(try split)<;>(try split)<;>omega
theorem XE {a b:R} (ha:a.Ok) (hb:b.Ok) (ga:a.good=true) (gb:b.good=true) (hn:a.neg=b.neg) (h:a.neg=false):tH (val a.w) (val b.w)=Z.cmp a.dec b.dec:=by
 rw [EW ha hb ga gb,← hn,h];unfold sgn;simp only [Bool.false_eq_true,if_false]
structure A2 (α:Type) where
 x:α
 y:α
def cf:Nat→W→I→I→I→I→W
 | 0,o,_,_,_,_=>o
 | k+1,o,a,b,c,d =>
  bif ((Z.cmpW (Z.quo a.dec b.dec) (Z.quo c.dec d.dec)).1 != 0) then W.mul o (Z.cmpW (Z.quo a.dec b.dec) (Z.quo c.dec d.dec))
  else bif (((Z.signW (Z.rem a.dec b.dec)).1==0)||((Z.signW (Z.rem c.dec d.dec)).1==0)) then W.mul o (W.sub (Z.signW (Z.rem a.dec b.dec)) (Z.signW (Z.rem c.dec d.dec)))
  else cf k (W.neg o) b (E (Z.rem a.dec b.dec)) d (E (Z.rem c.dec d.dec))
def cfN (b:I):Nat:=match b.dec.o with|some v=>v.toNat|none=>0
def cfP (n:Nat) (b:I):Prop:=∃ v:Int,b.dec.o=some v∧0<v∧v.toNat≤n
theorem UT {b:I} (h:0<(Z.signW b.dec).1):cfP (cfN b) b:=by
 have h:0<b.dec.sign:=h;unfold Z.sign at h
 cases ho:b.dec.o with
 | none=>rw [ho] at h;exact absurd h (by decide)
 | some v=>rw [ho] at h;exact ⟨v,ho,Int.sign_pos_iff.1 h,by unfold cfN;rw [ho];exact Nat.le_refl _⟩
theorem W3 {n:Nat} {b:I} (h:cfP n b):∃ m,n=m+1:=by
 obtain ⟨v,_,h1,h2⟩:=h;exact ⟨n - 1,by omega⟩
theorem gy_ {k:Nat} {o r:W} {a b c d:I} (h:cf (k+1) o a b c d=r) (h1:((Z.cmpW (Z.quo a.dec b.dec) (Z.quo c.dec d.dec)).1 != 0)=true):W.mul o (Z.cmpW (Z.quo a.dec b.dec) (Z.quo c.dec d.dec))=r:=by
 rw [cf,h1] at h;exact h
theorem fc_ {k:Nat} {o r:W} {a b c d:I} (h:cf (k+1) o a b c d=r) (h1:((Z.cmpW (Z.quo a.dec b.dec) (Z.quo c.dec d.dec)).1 != 0)=false)
  (h2:(((Z.signW (Z.rem a.dec b.dec)).1==0)||((Z.signW (Z.rem c.dec d.dec)).1==0))=true):W.mul o (W.sub (Z.signW (Z.rem a.dec b.dec)) (Z.signW (Z.rem c.dec d.dec)))=r:=by
 rw [cf,h1,h2] at h;exact h
theorem fb_ {k:Nat} {o r:W} {a b c d:I} (h:cf (k+1) o a b c d=r∧cfP (k+1) b) (h1:((Z.cmpW (Z.quo a.dec b.dec) (Z.quo c.dec d.dec)).1 != 0)=false)
  (h2:(((Z.signW (Z.rem a.dec b.dec)).1==0)||((Z.signW (Z.rem c.dec d.dec)).1==0))=false):cf k (W.neg o) b (E (Z.rem a.dec b.dec)) d (E (Z.rem c.dec d.dec))=r∧cfP k (E (Z.rem a.dec b.dec)):=by
 obtain ⟨h,v,hv,h0,hk⟩:=h;rw [cf,h1,h2] at h;refine ⟨h,?_⟩;rw [Bool.or_eq_false_iff] at h2
 have h3:(Z.rem a.dec b.dec).sign≠0:=fun h=>by have:=h2.1;rw [show (Z.signW (Z.rem a.dec b.dec)).1=(Z.rem a.dec b.dec).sign from rfl,h] at this;exact absurd this (by decide)
 cases ha:a.dec.o with
 | none=>rw [Z.rem,jH (.inl ha)] at h3;exact absurd O h3
 | some u =>
  have hr:Z.rem a.dec b.dec=Z.of (u.fmod v):=by rw [Z.rem,eG ha hv,if_neg (by omega)]
  have h4:0≤u.fmod v:=Int.fmod_nonneg_of_pos _ h0;have h5:u.fmod v<v:=Int.fmod_lt_of_pos _ h0;have h6:(u.fmod v).natAbs<4294967296 ^ 16:=Nat.lt_of_le_of_lt (by omega) (b.dec.h v hv);refine ⟨u.fmod v,?_,?_,by omega⟩
  ·rw [bW,hr,Z.of_some h6]
  have h8:u.fmod v≠0:=fun h7=>h3 (by rw [hr,h7];rfl);omega
structure A9 (α:Type) where
 x0:α
 x1:α
 x2:α
 x3:α
 x4:α
 x5:α
 x6:α
 x7:α
 x8:α
deriving DecidableEq
structure Iv where
 lo:Rt
 hi:Rt
deriving DecidableEq
def W.max (a b:W):W:=bif decide (a.1<b.1) then b else a
def W.min (a b:W):W:=bif decide (b.1<a.1) then b else a
theorem W.max_1 (a b:W):(if b.1 > a.1 then b.1 else a.1)=(W.max a b).1:=by unfold W.max;by_cases h:a.1<b.1<;>simp [h]
def elW:El W:=⟨1,fun x=>[ci .i64 x.1],fun _=>rfl⟩
def elI:El I:=⟨18,fun x=>[pI x],fun _=>rfl⟩
def elRt:El Rt:=⟨36,fun x=>[pI x.n,pI x.d],fun _=>rfl⟩
def HT:El Iv:=⟨72,fun x=>[pI x.lo.n,pI x.lo.d,pI x.hi.n,pI x.hi.d],fun _=>rfl⟩
def elV:El (A3 W):=⟨3,fun x=>[ci .i64 x.x.1,ci .i64 x.y.1,ci .i64 x.z.1],fun _=>rfl⟩
theorem W.rem_lt (p:W) {q:W} (h:(q.1 != 0)=true):(W.rem p q).1.natAbs<q.1.natAbs:=by
 have h0:q.1≠0:=by simpa using h
 show (p.1.tmod q.1).natAbs<_
 rw [Int.natAbs_tmod];exact Nat.mod_lt _ (by omega)
theorem gM_ {a:Int} (h:(a != 0)=true):a≠0:=by simpa using h
def W.z:W:=⟨0,by decide⟩
theorem aF {α:Type} {l:List α} {i:Nat} (d:α) (h:i<l.length):l[i]? = some (l.getD i d):=by simp [h]
theorem dA_ {n b e:Nat} (h:n<(2 ^ b) ^ e):bl n≤b*e:=sH (by rw [Nat.pow_mul];exact h)
theorem Z.bits_le (z:Z):z.bits≤512:=by
 unfold Z.bits
 split
 ·rename_i x hx
  have:=z.h x hx;exact dA_ (b:=32) (e:=16) this
 omega
def Z.bitsW (z:Z):W:=⟨(z.bits:Nat),by have:=Z.bits_le z;unfold I64;omega⟩
def W.shl (a b:W):W:=⟨IntKind.i64.wrap (a.1*2 ^ (Min.min b.1.toNat 64)),rG _⟩
theorem wx {n m:Int} (h:n=m) (h1:-9223372036854775808≤m) (h2:m≤9223372036854775807):IntKind.i64.wrap n=m:=by subst h;exact wi ⟨h1,h2⟩
open Go
def W.cv (n:Int):W:=⟨IntKind.i64.wrap n,rG n⟩
def Rt0:Rt:=⟨I0,I0⟩
def Iv0:Iv:=⟨Rt0,Rt0⟩
structure Met where
 a:Iv
 is:Bool
deriving DecidableEq
def Z.shl (z:Z) (k:Int):Z:=DE (fun v=>Z.of (v*2 ^ k.toNat)) z
theorem shq (k:Nat) (hk:0<k) {m:Nat} (h:(m:Int)≤9223372036854775807):IntKind.i64.wrap ((m:Int).tdiv (k:Int))=((m / k:Nat):Int):=by
 rw [Int.tdiv_eq_ediv_of_nonneg (Int.natCast_nonneg m),← Int.natCast_ediv];have h1:m / k≤m:=Nat.div_le_self _ _;generalize m / k=q at *;exact wi ⟨by omega,by omega⟩
theorem shr (k:Nat) (m:Nat):(m:Int).tmod (k:Int)=((m % k:Nat):Int):=by
 rw [Int.tmod_eq_emod_of_nonneg (Int.natCast_nonneg m),← Int.natCast_emod]
theorem MX:(4294967296:Nat) ^ 16=2 ^ 512:=by decide +kernel
theorem IF {a:R} (ha:a.Ok) (ga:a.good=true):a.dec.bits=bl (val a.w):=by
 unfold Z.bits;rw [dQ ha ga];simp only
 congr 1
 cases a.neg<;>simp [sgn]
theorem ba_ (n k:Nat):(((dg n (k / 16):Nat):Int).fdiv (2 ^ (min ((k % 16:Nat):Int).toNat IntKind.i64.bits))).tmod 2=((n / 2 ^ k % 2:Nat):Int):=by
 have h1:((k % 16:Nat):Int).toNat=k % 16:=Int.toNat_natCast _;have h2:k % 16<16:=Nat.mod_lt _ (by decide);have h3:min (k % 16) IntKind.i64.bits=k % 16:=Nat.min_eq_left (by show k % 16≤64;omega);rw [h1,h3]
 have h5:((2:Int) ^ (k % 16))=((2 ^ (k % 16):Nat):Int):=by simp
 rw [h5,Int.fdiv_eq_ediv_of_nonneg _ (Int.natCast_nonneg _),← Int.natCast_ediv,Int.tmod_eq_emod_of_nonneg (Int.natCast_nonneg _)];rw [show (2:Int)=((2:Nat):Int) from rfl,← Int.natCast_emod]
 congr 1
 unfold dg
 have hk:(2:Nat) ^ k=65536 ^ (k / 16)*2 ^ (k % 16):=by
  rw [show (65536:Nat)=2 ^ 16 from rfl,← Nat.pow_mul,← Nat.pow_add];congr 1;omega
 rw [hk,← Nat.div_div_eq_div_mul];generalize n / 65536 ^ (k / 16)=x
 have h6:(65536:Nat)=2 ^ (k % 16)*(2*2 ^ (15 - k % 16)):=by
  rw [← Nat.pow_succ',← Nat.pow_add,show (65536:Nat)=2 ^ 16 from rfl];congr 1;omega
 rw [h6,Nat.mod_mul_right_div_self,Nat.mod_mul_right_mod]
theorem UQ {n m:Nat} (h:n<2 ^ (m+1)) (h0:n / 2 ^ m % 2=0):n<2 ^ m:=by
 have h1:n / 2 ^ m<2:=by rw [Nat.div_lt_iff_lt_mul (Nat.pow_pos (by decide)),Nat.mul_comm,← Nat.pow_succ];exact h
 have h2:n / 2 ^ m=0:=by generalize n / 2 ^ m=q at *;omega
 rcases Nat.div_eq_zero_iff.1 h2 with h3|h3
 ·exact absurd h3 (by have:=Nat.pow_pos (n:=m) (show 0<2 by decide);omega)
 exact h3
theorem bd_ {n m:Nat} (h:n<2 ^ (m+1)) (h0:n / 2 ^ m % 2≠0):bl n=m+1:=by
 refine cA_ h (.inr ?_);rw [Nat.add_sub_cancel];rcases Nat.lt_or_ge n (2 ^ m) with h1|h1
 ·rw [Nat.div_eq_of_lt h1] at h0;exact absurd O h0
 exact h1
theorem QF (n:Nat):n<2 ^ (16*(dl n).length):=by
 have:=IO n;rw [Nat.pow_mul];exact this
theorem fw_ {n:Nat} (h:n≤200):IntKind.i64.wrap (16*(n:Int))=((16*n:Nat):Int):=by
 rw [wi (by omega)];omega
theorem WZ {a:R} (h:a.good=false):a.dec.bits=0:=by
 unfold R.dec;rw [if_neg (by simp [h])];rfl
theorem bc_ {a:R} (ha:a.Ok) (ga:a.good=true) {k:Nat} (h:val a.w<2 ^ k) (h0:k=0):a.dec.bits=k:=by
 subst h0;rw [IF ha ga]
 have:val a.w=0:=by simpa using h
 rw [this];rfl
end Go.Num
namespace Go.Kn
open Go.RowKit
def bR_:List Value→Nat→Option Value
 | [],_=>none
 | v::_,0=>some v
 | _::l,i+1=>bR_ l i
theorem OO:∀ {l:List Value} {i:Nat} {v:Value},bR_ l i=some v→l[i]? = some v
 | [],_,_,h=>by cases h
 | _::_,0,_,h=>by simpa [bR_] using h
 | _::l,i+1,_,h=>by simpa using OO (l:=l) h
def X3 (N:Nm) (S:Fr):Op→Option Value
 | .move x=>evO N S x
 | .assign x=>evO N S x
 | .pick c a b=>match evO N S c with
  | some (.bool t)=>bif t then evO N S a else evO N S b
  | _=>none
 | .nilCheck x=>match evO N S x with
  | some (.pointer (some a))=>some (.pointer (some a))
  | _=>none
 | .extract x i=>match evO N S x with
  | some (.tuple vs)=>bR_ vs.toList i
  | _=>none
 | .unOp u _ x=>match u,evO N S x with
  | .not,some (.bool a)=>some (.bool (!a))
  | .neg,some (.int k a)=>some (.int k (k.wrap (0 - a)))
  | _,_=>none
 | .binOp b _ x y _=>match evO N S x with
  | some (.int k a)=>match evO N S y with
   | some (.int k' c)=>if k=k' then (match b with
    | .add=>some (.int k (k.wrap (a+c)))
    | .sub=>some (.int k (k.wrap (a - c)))
    | .mul=>some (.int k (k.wrap (a*c)))
    | .eql=>some (.bool (a==c))
    | .neq=>some (.bool (a != c))
    | .lss=>some (.bool (decide (a<c)))
    | .leq=>some (.bool (decide (a≤c)))
    | .gtr=>some (.bool (decide (c<a)))
    | .geq=>some (.bool (decide (c≤a)))
    | _=>none) else none
   | _=>none
  | _=>none
 | _=>none
def N1 (N:Nm) (ops:List Oper) (S:Fr) (o:Oper):Option Value:=bif okD o.dst then (bif Region.wanted o (yld N ops S) then X3 N S o.op else some undef) else none
section
variable {P:Program} {w0:World} {X:List Nat} {N:Nm} {S:Fr} {M:List Blk}
theorem X4 {o:Oper} {v:Value} (h:X3 N S o.op=some v):OpQ P w0 X N o S M v:=by
 obtain ⟨d,op,ty,ps,af,gd⟩:=o
 dsimp only at h
 cases op<;>simp only [X3] at h<;>try (cases h;done)
 case move x=>exact gV h
 case assign x=>exact mE h
 case pick c a b =>
  split at h
  ·rename_i t hc
   refine ej_ hc ?_
   cases t<;>simpa using h
  ·cases h
 case nilCheck x =>
  split at h
  ·rename_i a hx;cases h;exact fI_ hx
  ·cases h
 case extract x i =>
  split at h
  ·rename_i vs hx;exact VJ hx (by rw [← Array.getElem?_toList];exact OO h)
  ·cases h
 case unOp u T x =>
  split at h
  ·rename_i a hx;cases h;exact fJ_ hx
  ·rename_i k a hx;cases h;exact Z0 hx
  ·cases h
 case binOp b T x y yT =>
  split at h
  ·rename_i k a hx
   split at h
   ·rename_i k' c hy
    split at h
    ·rename_i hk
     subst hk
     cases b<;>simp only at h<;>first|(cases h;done)|(cases h;first|exact fZ hx hy|exact lL hx hy|exact TN hx hy|exact fD_ hx hy|exact cX_ hx hy|exact fH_ hx hy|exact fG_ hx hy|exact fF_ hx hy|exact fE_ hx hy)
    ·cases h
   ·cases h
  ·cases h
theorem uT {ops:List Oper} {o:Oper} {v:Value} (h:N1 N ops S o=some v) :
  okD o.dst=true∧((Region.wanted o (yld N ops S)=true∧OpQ P w0 X N o S M v)∨(Region.wanted o (yld N ops S)=false∧v=undef)):=by
 unfold N1 at h
 cases hk:okD o.dst
 ·rw [hk] at h;cases h
 refine ⟨rfl,?_⟩;rw [hk] at h
 cases hw:Region.wanted o (yld N ops S)
 ·rw [hw] at h;cases h;exact .inr ⟨rfl,rfl⟩
 rw [hw] at h;exact .inl ⟨rfl,X4 h⟩
theorem PX {ops:List Oper} {o:Oper} (h1:okD o.dst=true) (h2:Region.wanted o (yld N ops S)=true):pS N ops S o=true:=by unfold pS;rw [h1,h2];rfl
theorem PY {ops:List Oper} {o:Oper} (h1:okD o.dst=true) (h2:Region.wanted o (yld N ops S)=false):JV N ops S o=false:=by unfold JV;rw [h1,h2];rfl
variable {ops:List Oper} {Q:Fr→List Blk→Prop} {o:Oper} {l:List Oper} {v v':Value} {d:Tmp} {b c:Bool} {nw:List Nat} {MD:List Blk} {i:Nat} {ws:List Nat} {r:Plan}
def DA (N:Nm) (ops:List Oper) (S:Fr) (o:Oper):Option (Tmp×Value):=match o.dst with
 | some d=>match N1 N ops S o with
  | some v=>some (d,v)
  | none=>none
 | none=>none
def DB (N:Nm) (ops:List Oper) (S:Fr) (i:Nat):Option (Tmp×Value):=match ops[i]? with
 | some o=>DA N ops S o
 | none=>none
theorem N0 (h:DA N ops S o=some (d,v)):o.dst=some d∧N1 N ops S o=some v:=by
 unfold DA at h
 split at h
 ·rename_i e he
  split at h
  ·rename_i u hu;cases h;exact ⟨he,hu⟩
  ·cases h
 ·cases h
theorem FK (h:DB N ops S i=some (d,v)):∃ o,ops[i]? = some o∧o.dst=some d∧N1 N ops S o=some v:=by
 unfold DB at h
 split at h
 ·rename_i o ho;exact ⟨o,ho,N0 h⟩
 ·cases h
def wD (N:Nm) (ops:List Oper) (S:Fr) (o:Oper):Option Tmp:=bif pS N ops S o then o.dst else none
def wI (N:Nm) (ops:List Oper) (S:Fr) (i:Nat):Option (Tmp×Oper):=match ops[i]? with
 | some o=>match wD N ops S o with
  | some d=>some (d,o)
  | none=>none
 | none=>none
theorem JU (h:wD N ops S o=some d):pS N ops S o=true∧o.dst=some d:=by
 unfold wD at h
 cases hw:pS N ops S o
 ·rw [hw] at h;cases h
 rw [hw] at h;exact ⟨rfl,h⟩
theorem PW (h:wI N ops S i=some (d,o)):ops[i]? = some o∧pS N ops S o=true∧o.dst=some d:=by
 unfold wI at h
 split at h
 ·rename_i o' ho
  split at h
  ·rename_i d' hd;cases h;exact ⟨ho,JU hd⟩
  ·cases h
 ·cases h
theorem sE (h:DA N ops S o=some (d,v)) (k:WL P w0 X N ops Q l ((d,v)::S) M):WL P w0 X N ops Q (o::l) S M:=by
 obtain ⟨hd,h⟩:=N0 h
 have k':WL P w0 X N ops Q l (lN S o.dst v) M:=by rw [hd];exact k
 obtain ⟨h1,h2⟩:=uT (P:=P) (w0:=w0) (X:=X) (M:=M) h;rcases h2 with ⟨hg,hq⟩|⟨hg,rfl⟩
 ·exact dp_ (PX h1 hg) hq k'
 exact gu_ (PY h1 hg) k'
theorem sV (v:Value) (h:DA N ops S o=some (d,v')) (hv:v'=v) (k:WL P w0 X N ops Q l ((d,v)::S) M):WL P w0 X N ops Q (o::l) S M:=sE (hv ▸ h) k
theorem sB (hb:b=c) (h:DA N ops S o=some (d,.bool b)) (k:WL P w0 X N ops Q l ((d,.bool c)::S) M):WL P w0 X N ops Q (o::l) S M:=sE (hb ▸ h) k
theorem pE (h:DB N ops S i=some (d,v)) (k:PL P w0 X N ops nw MD Q r ((d,v)::S) M):PL P w0 X N ops nw MD Q (.quiet i ws r) S M:=by
 obtain ⟨o,ho,hd,h⟩:=FK h;exact ⟨o,v,ho,(uT (P:=P) (w0:=w0) (X:=X) (M:=M) h).1,(uT h).2,by rw [hd];exact k⟩
theorem pV (v:Value) (h:DB N ops S i=some (d,v')) (hv:v'=v) (k:PL P w0 X N ops nw MD Q r ((d,v)::S) M):PL P w0 X N ops nw MD Q (.quiet i ws r) S M:=pE (hv ▸ h) k
theorem tE (h:DB N ops S i=some (d,v)) (k:PL P w0 X N ops nw MD Q r ((d,v)::S) M):PL P w0 X N ops nw MD Q (.still i ws r) S M:=by
 obtain ⟨o,ho,hd,h⟩:=FK h;exact ⟨o,v,ho,(uT (P:=P) (w0:=w0) (X:=X) (M:=M) h).1,(uT h).2,by rw [hd];exact k⟩
theorem tV (v:Value) (h:DB N ops S i=some (d,v')) (hv:v'=v) (k:PL P w0 X N ops nw MD Q r ((d,v)::S) M):PL P w0 X N ops nw MD Q (.still i ws r) S M:=tE (hv ▸ h) k
theorem oE (hs:MD.Sublist M) (h:DB N ops S i=some (d,v)) (k:PL P w0 X N ops nw MD Q r ((d,v)::S) M):PL P w0 X N ops nw MD Q (.only i r) S M:=by
 obtain ⟨o,ho,hd,h⟩:=FK h
 have k':PL P w0 X N ops nw MD Q r (lN S o.dst v) M:=by rw [hd];exact k
 obtain ⟨h1,h2⟩:=uT (P:=P) (w0:=w0) (X:=X) (M:=M) h;rcases h2 with ⟨hg,hq⟩|⟨hg,rfl⟩
 ·exact dC ho (PX h1 hg) (EZ hq ⟨fun _=>List.Sublist.refl _,hs,k'⟩)
 exact eY_ ho (PY h1 hg) k'
theorem sQ (h:OpQ P w0 X N o S M v) (hd:wD N ops S o=some d) (k:WL P w0 X N ops Q l ((d,v)::S) M):WL P w0 X N ops Q (o::l) S M:=dp_ (JU hd).1 h (by rw [(JU hd).2];exact k)
theorem pQ (hd:wI N ops S i=some (d,o)) (h:OpQ P w0 X N o S M v) (k:PL P w0 X N ops nw MD Q r ((d,v)::S) M):PL P w0 X N ops nw MD Q (.quiet i ws r) S M :=
 eZ_ (PW hd).1 (PW hd).2.1 h (by rw [(PW hd).2.2];exact k)
section
variable {g:FuncId} {xs:List Operand} {tys:Array TypeId} {args:List Value} {ty:TypeId} {ps:String} {af:Array Edge} {gd:Option (Nat×Bool)}
theorem sC (v:Value) (he:iJ P g=true) (h:Ret P g args v')
 (hg:wD N ops S (⟨some d,.call { callee:=.value (.func g),args:=xs.toArray,argTypes:=tys },ty,ps,af,gd⟩:Oper)=some d) (ha:evL N S xs=some args) (hv:v'=v) (k:WL P w0 X N ops Q l ((d,v)::S) M) :
 WL P w0 X N ops Q (⟨some d,.call { callee:=.value (.func g),args:=xs.toArray,argTypes:=tys },ty,ps,af,gd⟩::l) S M:=dp_ (JU hg).1 (aE (aW he h ha) hv) k
theorem pC (v:Value) (he:iJ P g=true) (h:Ret P g args v')
 (ho:wI N ops S i=some (d,⟨some d,.call { callee:=.value (.func g),args:=xs.toArray,argTypes:=tys },ty,ps,af,gd⟩)) (ha:evL N S xs=some args) (hv:v'=v) (k:PL P w0 X N ops nw MD Q r ((d,v)::S) M) :
 PL P w0 X N ops nw MD Q (.quiet i ws r) S M:=eZ_ (PW ho).1 (PW ho).2.1 (aE (aW he h ha) hv) k
theorem sX {T:TypeId} {x:Operand} (qs:List Part) (hg:wD N ops S (⟨some d,.box T x,ty,ps,af,gd⟩:Oper)=some d) (hv:evO N S x=some v) (hc:v.cells=(aV qs).toArray)
 (k:∀ b,w0.heap.size≤b→WL P w0 X N ops Q l ((d,.pointer (some ⟨b,0,none⟩))::S) (⟨b,T,aV qs⟩::M)):WL P w0 X N ops Q (⟨some d,.box T x,ty,ps,af,gd⟩::l) S M:=aQ (JU hg).1 (en_ hv hc k)
theorem sN {T:TypeId} {qs:List Part} (hT:jD P T=some (aV qs)) (hg:wD N ops S (⟨some d,.alloc T,ty,ps,af,gd⟩:Oper)=some d)
 (k:∀ b,w0.heap.size≤b→WL P w0 X N ops Q l ((d,.pointer (some ⟨b,0,none⟩))::S) (⟨b,T,aV qs⟩::M)):WL P w0 X N ops Q (⟨some d,.alloc T,ty,ps,af,gd⟩::l) S M:=aQ (JU hg).1 (bI hT k)
theorem sS {T U:TypeId} {x y:Operand} {g:Bool} {n b off:Nat} {cs cs':List Part} {M':List Blk} (qs:List Part) (hT:gY P T=some (g,n)) (hg:pS N ops S (⟨none,.store T x y,ty,ps,af,gd⟩:Oper)=true)
  (hx:evO N S x=some (.pointer (some ⟨b,off,none⟩))) (hv:evO N S y=some v) (hc':v.cells=(aV qs).toArray) (hn:mO qs=n) (hu:Upd b U (aV cs) (aV cs') M M') (hc:CV cs off n qs=some cs') (hb:w0.heap.size≤b)
  (k:WL P w0 X N ops Q l S M'):WL P w0 X N ops Q (⟨none,.store T x y,ty,ps,af,gd⟩::l) S M:=by
 exact cx_ hg hT hx hv hc' hn hc hu hb k
end
theorem nl {A K:Fr→List Blk→Prop} (hK:∀ S M,A S M→K S M) (h:A S M):WL P w0 X N ops K [] S M:=hK _ _ h
theorem fl {A K:Fr→List Blk→Prop} (hK:∀ S M,A S M→K S M) (h:A S M):PL P w0 X N ops nw MD K .fin S M:=hK _ _ h
end
section
variable {P:Program} {w0:World} {X:List Nat} {N:Nm} {S:Fr} {M:List Blk} {d:Option Tmp} {ty:TypeId} {ps:String} {af:Array Edge} {gd:Option (Nat×Bool)}
theorem qF {T:TypeId} {x:Operand} {f o n b off:Nat} (hT:wB P T f=some (o,n)) (hx:evO N S x=some (.pointer (some ⟨b,off,none⟩))) (hn:Nat.beq n 0=false):OpQ P w0 X N ⟨d,.fieldAddr T x f,ty,ps,af,gd⟩ S M (.pointer (some ⟨b,off+o,none⟩)) :=
 bT hT (fun h=>by subst h;cases hn) hx
theorem qA {T:TypeId} {x y:Operand} {n s b off i:Nat} {k:IntKind} (hT:yF P T=some (n,s)) (hx:evO N S x=some (.pointer (some ⟨b,off,none⟩))) (hy:evO N S y=some (.int k (Int.ofNat i))) (h1:Nat.blt i n=true):OpQ P w0 X N ⟨d,.indexAddr T x y,ty,ps,af,gd⟩ S M (.pointer (some ⟨b,off+i*s,none⟩)) :=
 dS hT hx hy (Int.natCast_nonneg i) (Int.ofNat_lt.2 (by simpa [Nat.blt_eq] using h1))
theorem qL {T U:TypeId} {x:Operand} {n b off:Nat} {cs qs:List Part} (hT:gY P T=some (true,n)) (hx:evO N S x=some (.pointer (some ⟨b,off,none⟩))) (hm:(⟨b,U,aV cs⟩:Blk)∈M) (hc:AR cs off n=some qs) :
 OpQ P w0 X N ⟨d,.load T x,ty,ps,af,gd⟩ S M (AV qs):=TM hT hx hm hc
theorem qC {T U:TypeId} {x:Operand} {s b off:Nat} {cs:List Part} {v:Value} (hT:gY P T=some (false,s)) (hx:evO N S x=some (.pointer (some ⟨b,off,none⟩))) (hm:(⟨b,U,aV cs⟩:Blk)∈M) (hc:wG cs off=some v) :
 OpQ P w0 X N ⟨d,.load T x,ty,ps,af,gd⟩ S M v:=LZ hT hx hm hc
theorem qI {T:TypeId} {x y:Operand} {n s i:Nat} {k:IntKind} {cs qs:List Part} (hT:R2 P T=some (n,s,true)) (hx:evO N S x=some (AV cs)) (hy:evO N S y=some (.int k (Int.ofNat i))) (h1:Nat.blt i n=true) (hc:AR cs (i*s) s=some qs) :
 OpQ P w0 X N ⟨d,.index T x y,ty,ps,af,gd⟩ S M (AV qs):=ZX hT hx hy (Int.natCast_nonneg i) (Int.ofNat_lt.2 (by simpa [Nat.blt_eq] using h1)) hc
theorem qJ {T:TypeId} {x y:Operand} {n s i:Nat} {k:IntKind} {cs:List Part} {v:Value} (hT:R2 P T=some (n,s,false)) (hx:evO N S x=some (AV cs)) (hy:evO N S y=some (.int k (Int.ofNat i))) (h1:Nat.blt i n=true) (hc:wG cs (i*s)=some v) :
 OpQ P w0 X N ⟨d,.index T x y,ty,ps,af,gd⟩ S M v:=ZY hT hx hy (Int.natCast_nonneg i) (Int.ofNat_lt.2 (by simpa [Nat.blt_eq] using h1)) hc
end
section
variable {P:Program} {w0:World} {X:List Nat} {N:Nm} {S:Fr} {M:List Blk} {Q:kI}
end
def db_ (ops:Array Oper) (i:Nat):List Nat :=
 (List.range ops.size).foldl (fun ws j=>match ops[j]? with
  | some oj=>bif oj.after.any (fun e=>Region.binds .any e&&(e.on==i||ws.contains e.on)) then j::ws else ws
  | none=>ws) []
def mP (ops:Array Oper):List Nat→Plan
 | []=>.fin
 | n::l=>bif Nat.beq (n % 4) 0 then .quiet (n / 4) (db_ ops (n / 4)) (mP ops l) else bif Nat.beq (n % 4) 1 then .only (n / 4) (mP ops l) else .still (n / 4) (db_ ops (n / 4)) (mP ops l)
def nwx (ops:List Oper) (nx:List Nat):List Nat:=(List.range ops.length).filter fun i=>!nx.contains i
section
variable {P:Program} {w0:World} {X:List Nat} {N:Nm} {S:Fr} {M:List Blk} {Q:kI}
theorem ds {id:Nat} {ops:List Oper} {y:Code} {MD:List Blk} (sub:MD.Sublist M) (pl nx:List Nat) (hm:P.follows .mixedOrders=true)
  (hok:(Region.noSelect ops.toArray&&Plan.ok ops.toArray (nwx ops nx) ops.length (Array.replicate ops.length false) (mP ops.toArray pl))=true)
  (h:∀ K:Fr→List Blk→Prop,(∀ S M,W P w0 X N y Q S M→K S M)→PL P w0 X N ops (nwx ops nx) MD K (mP ops.toArray pl) S M):W P w0 X N (.seq (.region id ops.toArray true) y) Q S M :=
 e7_ sub _ _ hm (Bool.and_eq_true_iff.1 hok).1 (Bool.and_eq_true_iff.1 hok).2 h
end
theorem mA {x:Blk} {k l:List Blk} (h:x∈l):x∈k++l:=List.mem_append_right _ h
theorem mC {x y:Blk} {l:List Blk} (h:x∈l):x∈y::l:=List.mem_cons_of_mem _ h
theorem mZ {x:Blk} {l:List Blk}:x∈x::l:=List.mem_cons_self
theorem lZ {k l:List Blk}:k.Sublist (k++l):=List.sublist_append_left _ _
theorem uL {b:Nat} {T:TypeId} {cs cs':List Value} {L M M':List Blk} (h:Upd b T cs cs' M M'):Upd b T cs cs' (L++M) (L++M'):=h.left L
theorem uH {b:Nat} {T:TypeId} {cs cs':List Value} {M:List Blk}:Upd b T cs cs' (⟨b,T,cs⟩::M) (⟨b,T,cs'⟩::M):=.head M
section
variable {α:Type} {e:El α} {w0 w:World} {X:List Nat} {M M' L:List Blk} {v:Value} {l:List α} {E:TypeId}
theorem rO (h:OwnG w0 E e v l L) (hs:L.Sublist M):SLe w0 X M e v l:=(h.slfe hs).sle
theorem aO (hw:Sat w0 X M w) (h:OwnG w0 E e v l L) (hs:L.Sublist M):Slr w e v l:=SLe.ap hw (h.slfe hs).sle
theorem aR (hw:Sat w0 X M' w) (h:SLe w0 X M e v l) (hs:M.Sublist M'):Slr w e v l:=SLe.ap hw (h.sub hs)
end
theorem mm_ {x:Blk} {l:List Blk} (h:x∈l:=by repeat (first|exact .head _|apply List.mem_append_right|apply List.Mem.tail)):x∈l:=h
theorem uu_ {b:Nat} {T:TypeId} {cs cs':List Value} {M M':List Blk} (h:Upd b T cs cs' M M':=by repeat (first|exact .head _|apply Upd.left|apply Upd.tail)):Upd b T cs cs' M M':=h
theorem ss_ {α:Type} {l m:List α} (h:l.Sublist m:=by repeat (first|exact s0|exact sn|refine sk ?_|refine sd ?_|refine sA ?_|refine sR ?_)):l.Sublist m:=h
theorem pp_ {m:List Nat} {S S':Fr} (h:PutOn m S S':=by repeat first|exact .refl|refine .cons O ?_):PutOn m S S':=h
theorem oo_ {P:Prop} (h:P:=by omega):P:=h
theorem dd_ {P:Prop} (h:P:=by decide):P:=h
theorem zz_ {P:Prop} (h:P:=by simp):P:=h
theorem o1_ {P:Prop} (h:P:=by first|omega|(simp only [List.length_append,List.length_cons,List.length_nil,List.length_set,List.length_take,and_true,true_and,or_true,true_or,Nat.zero_add]<;>omega)):P:=h
theorem o2_ {P:Prop} (h:P:=by first|omega|(simp only [List.length_set,List.length_append,List.length_cons,List.length_nil];omega)):P:=h
theorem o3_ {P:Prop} (h:P:=by first|omega|(simp only [List.length_cons,List.length_nil,and_true,true_and]<;>omega)|simp):P:=h
class Tb (b v:Bool) (P:outParam Prop):Prop where
 t:b=v→P
instance (priority:=low) {b v:Bool}:Tb b v (b=v):=⟨id⟩
instance {p:Prop} [Decidable p]:Tb (decide p) true p:=⟨of_decide_eq_true⟩
instance {p:Prop} [Decidable p]:Tb (decide p) false (¬p):=⟨of_decide_eq_false⟩
instance {α:Type} [BEq α] [LawfulBEq α] {a b:α}:Tb (a==b) true (a=b):=⟨eq_of_beq⟩
instance {α:Type} [BEq α] [LawfulBEq α] {a b:α}:Tb (a==b) false (a≠b):=⟨beq_eq_false_iff_ne.1⟩
instance {α:Type} [BEq α] [LawfulBEq α] {a b:α}:Tb (a != b) true (a≠b):=⟨bne_iff_ne.1⟩
instance {α:Type} [BEq α] [LawfulBEq α] {a b:α}:Tb (a != b) false (a=b):=⟨bne_eq_false_iff_eq.1⟩
instance {b:Bool} {P:Prop} [h:Tb b false P]:Tb (!b) true P:=⟨fun e=>h.t (by simpa using e)⟩
instance {b:Bool} {P:Prop} [h:Tb b true P]:Tb (!b) false P:=⟨fun e=>h.t (by simpa using e)⟩
theorem cB_ {b v:Bool} {P:Prop} [h:Tb b v P] (e:b=v):P:=h.t e
open Go.RowKit
class FTy (P:Program) (T:TypeId) (r:outParam (Bool×Nat)):Prop where h:gY P T=some r
class FFd (P:Program) (T:TypeId) (f:Nat) (r:outParam (Nat×Nat)):Prop where h:wB P T f=some r
class FAr (P:Program) (T:TypeId) (r:outParam (Nat×Nat)):Prop where h:yF P T=some r
class FEl (P:Program) (T:TypeId) (r:outParam (Nat×Nat×Bool)):Prop where h:R2 P T=some r
class FFl (P:Program) (T:TypeId) (f:Nat) (r:outParam (Nat×Nat×Bool)):Prop where h:aC_ P T f=some r
class FZp (P:Program) (T:TypeId) (r:outParam (List Part)):Prop where h:jD P T=some (aV r)
class FPl (P:Program) (T:TypeId) (r:outParam (List (Nat×Nat))):Prop where h:vA P T=some r
section
variable {P:Program} {T f:Nat}
theorem tyT {r:Bool×Nat} [i:FTy P T r]:gY P T=some r:=i.h
theorem fdT {r:Nat×Nat} [i:FFd P T f r]:wB P T f=some r:=i.h
theorem arT {r:Nat×Nat} [i:FAr P T r]:yF P T=some r:=i.h
theorem zpT {r:List Part} [i:FZp P T r]:jD P T=some (aV r):=i.h
theorem plT {r:List (Nat×Nat)} [i:FPl P T r]:vA P T=some r:=i.h
end
class HasB (b:Nat) (M:List Blk) (U:outParam TypeId) (cs:outParam (List Value)):Prop where h:(⟨b,U,cs⟩:Blk)∈M
instance (priority:=high) {b:Nat} {U:TypeId} {cs:List Value} {M:List Blk}:HasB b (⟨b,U,cs⟩::M) U cs:=⟨.head _⟩
instance {b:Nat} {U:TypeId} {cs:List Value} {M:List Blk} {x:Blk} [i:HasB b M U cs]:HasB b (x::M) U cs:=⟨.tail _ i.h⟩
instance {b:Nat} {U:TypeId} {cs:List Value} {M L:List Blk} [i:HasB b M U cs]:HasB b (L++M) U cs:=⟨List.mem_append_right _ i.h⟩
class UpdB (b:Nat) (U:TypeId) (cs cs':List Value) (M:List Blk) (M':outParam (List Blk)):Prop where h:Upd b U cs cs' M M'
instance (priority:=high) {b:Nat} {U:TypeId} {cs cs':List Value} {M:List Blk}:UpdB b U cs cs' (⟨b,U,cs⟩::M) (⟨b,U,cs'⟩::M):=⟨.head _⟩
instance {b:Nat} {U:TypeId} {cs cs':List Value} {M M':List Blk} {x:Blk} [i:UpdB b U cs cs' M M']:UpdB b U cs cs' (x::M) (x::M'):=⟨.tail _ i.h⟩
instance {b:Nat} {U:TypeId} {cs cs':List Value} {M M' L:List Blk} [i:UpdB b U cs cs' M M']:UpdB b U cs cs' (L++M) (L++M'):=⟨i.h.left L⟩
structure Nx (P:Program) (w0:World) (X:List Nat) (N:Nm) (y:Code) (Q:kI) (S:Fr) (M:List Blk):Prop where h:W P w0 X N y Q S M
structure Nk (Q:kI) (S:Fr) (M:List Blk):Prop where h:Q .normal S M
def UC (P:Program) (w0:World) (X:List Nat) (N:Nm) (y:Code) (Q:kI):kI:=tA (Nx P w0 X N y Q) Q
abbrev cw (n:Int):Part:=ci .i64 n
class PtO (v:Value) (qs:outParam (List Part)):Prop where h:v.cells=(aV qs).toArray
instance {qs:List Part}:PtO (AV qs) qs:=⟨rfl⟩
instance {k:IntKind} {n:Int}:PtO (.int k n) [ci k n]:=⟨rfl⟩
instance {b:Bool}:PtO (.bool b) [cb b]:=⟨rfl⟩
instance {a:Option Addr} {n c:Nat}:PtO (.slice a n c) [csl a n c]:=⟨rfl⟩
class Pt1 (v:Value) (p:outParam Part):Prop where h:p.l=[v]
instance {k:IntKind} {n:Int}:Pt1 (.int k n) (ci k n):=⟨rfl⟩
instance {b:Bool}:Pt1 (.bool b) (cb b):=⟨rfl⟩
instance {a:Option Addr} {n c:Nat}:Pt1 (.slice a n c) (csl a n c):=⟨rfl⟩
class PtL (vs:List Value) (qs:outParam (List Part)):Prop where h:vs=aV qs
instance:PtL [] []:=⟨rfl⟩
instance {v:Value} {p:Part} {vs:List Value} {qs:List Part} [a:Pt1 v p] [b:PtL vs qs]:PtL (v::vs) (p::qs):=⟨by rw [nM,a.h,← b.h];rfl⟩
instance (priority:=low) {vs:List Value} {qs:List Part} [i:PtL vs qs]:PtO (.agg vs.toArray) qs:=⟨by rw [← i.h];rfl⟩
def WE:List (Nat×Value)→List (Nat×List Part)→Prop
 | [],[]=>True
 | (i,v)::l,(j,q)::m=>(i=j∧v.cells=(aV q).toArray)∧WE l m
 | _,_=>False
class PtsO (l:List (Nat×Value)) (m:outParam (List (Nat×List Part))):Prop where h:WE l m
instance:PtsO [] []:=⟨trivial⟩
instance {i:Nat} {v:Value} {q:List Part} {l:List (Nat×Value)} {m:List (Nat×List Part)} [a:PtO v q] [b:PtsO l m]:PtsO ((i,v)::l) ((i,q)::m):=⟨⟨⟨rfl,a.h⟩,b.h⟩⟩
def IT (place:Nat→Option (Nat×Nat)):List Part→List (Nat×List Part)→Option (List Part)
 | z,[]=>some z
 | z,(i,q)::l=>match place i with
  | some (off,n)=>bif Nat.beq (mO q) n then (match CV z off n q with
   | some z'=>IT place z' l
   | none=>none) else none
  | none=>none
theorem QR {place:Nat→Option (Nat×Nat)}:∀ {z out:List Part} {l:List (Nat×Value)} {m:List (Nat×List Part)},WE l m→IT place z m=some out→FillP place z l out
 | z,out,[],[],_,h=>by simp only [IT] at h;cases h;exact .nil _
 | z,out,(i,v)::l,(j,q)::m,hp,h=>by
  obtain ⟨⟨rfl,hc⟩,hp⟩:=hp;simp only [IT] at h
  split at h
  ·rename_i off n hpl
   cases hb:Nat.beq (mO q) n
   ·rw [hb] at h;cases h
   rw [hb] at h;simp only [cond_true] at h
   split at h
   ·rename_i z' hz
    exact .cons q z' hpl hc (Nat.eq_of_beq_eq_true hb) hz (QR hp h)
   ·cases h
  ·cases h
 | z,out,[],_::_,hp,_=>hp.elim
 | z,out,_::_,[],hp,_=>by cases hp
section
variable {P:Program} {w0:World} {X:List Nat} {N:Nm} {S:Fr} {M MD:List Blk} {Q:kI} {x y c:Code} {id n:Nat} {ops:List Oper} {nw:List Nat} {p:Plan}
theorem gSq (h:W P w0 X N x (UC P w0 X N y Q) S M):W P w0 X N (.seq x y) Q S M :=
 WM fun K hK=>BZ h fun e S M q=>by cases e<;>first|exact hK _ _ (Nx.h q)|exact q
theorem gRs (h:WL P w0 X N ops (Nx P w0 X N y Q) ops S M):W P w0 X N (.seq (.region id ops.toArray false) y) Q S M:=gSq (IA (fun _ _ h=>h) h)
theorem gRk (h:WL P w0 X N ops (Nk Q) ops S M):W P w0 X N (.region id ops.toArray false) Q S M:=IA (fun _ _ h=>h.h) h
theorem gDs (sub:MD.Sublist M) (p:Plan) (nw:List Nat) (hm:P.follows .mixedOrders=true) (hs:Region.noSelect ops.toArray=true) (hok:Plan.ok ops.toArray nw ops.length (Array.replicate ops.length false) p=true)
 (h:PL P w0 X N ops nw MD (Nx P w0 X N y Q) p S M):W P w0 X N (.seq (.region id ops.toArray true) y) Q S M:=gSq (KE (fun _ _ h=>h) sub p nw hm hs hok h)
theorem gDk (sub:MD.Sublist M) (p:Plan) (nw:List Nat) (hm:P.follows .mixedOrders=true) (hs:Region.noSelect ops.toArray=true) (hok:Plan.ok ops.toArray nw ops.length (Array.replicate ops.length false) p=true)
 (h:PL P w0 X N ops nw MD (Nk Q) p S M):W P w0 X N (.region id ops.toArray true) Q S M:=KE (fun _ _ h=>h.h) sub p nw hm hs hok h
theorem gds (sub:MD.Sublist M) (pl nx:List Nat) (hm:P.follows .mixedOrders=true)
  (hok:(Region.noSelect ops.toArray&&Plan.ok ops.toArray (nwx ops nx) ops.length (Array.replicate ops.length false) (mP ops.toArray pl))=true)
  (h:PL P w0 X N ops (nwx ops nx) MD (Nx P w0 X N y Q) (mP ops.toArray pl) S M):W P w0 X N (.seq (.region id ops.toArray true) y) Q S M :=
 gDs sub _ _ hm (Bool.and_eq_true_iff.1 hok).1 (Bool.and_eq_true_iff.1 hok).2 h
theorem gdr (sub:MD.Sublist M) (pl nx:List Nat) (hm:P.follows .mixedOrders=true)
  (hok:(Region.noSelect ops.toArray&&Plan.ok ops.toArray (nwx ops nx) ops.length (Array.replicate ops.length false) (mP ops.toArray pl))=true)
  (h:PL P w0 X N ops (nwx ops nx) MD (Nk Q) (mP ops.toArray pl) S M):W P w0 X N (.region id ops.toArray true) Q S M :=
 gDk sub _ _ hm (Bool.and_eq_true_iff.1 hok).1 (Bool.and_eq_true_iff.1 hok).2 h
theorem gnx (h:W P w0 X N y Q S M):WL P w0 X N ops (Nx P w0 X N y Q) [] S M:=⟨h⟩
theorem gnk (h:Q .normal S M):WL P w0 X N ops (Nk Q) [] S M:=⟨h⟩
theorem fnx (h:W P w0 X N y Q S M):PL P w0 X N ops nw MD (Nx P w0 X N y Q) .fin S M:=⟨h⟩
theorem fnk (h:Q .normal S M):PL P w0 X N ops nw MD (Nk Q) .fin S M:=⟨h⟩
theorem gtn (h:W P w0 X N y Q S M):UC P w0 X N y Q .normal S M:=⟨h⟩
theorem gtx (h:Q (.exit id) S M):UC P w0 X N y Q (.exit id) S M:=h
theorem gtr (h:Q .ret S M):UC P w0 X N y Q .ret S M:=h
def UD (P:Program) (w0:World) (X:List Nat) (N:Nm) (c:Code) (Q:kI) (n:Nat):kI:=tA (Un P w0 X N c Q n) Q
theorem gUs (h:W P w0 X N c (UD P w0 X N c Q n) S M):Un P w0 X N c Q (n+1) S M:=h
theorem gun (h:Un P w0 X N c Q n S M):UD P w0 X N c Q n .normal S M:=h
theorem gux (h:Q (.exit id) S M):UD P w0 X N c Q n (.exit id) S M:=h
theorem gur (h:Q .ret S M):UD P w0 X N c Q n .ret S M:=h
theorem gJ3 {Q0:kI} (mods:List Nat) (R:(Nat→Value)→List Blk→Prop)
 (hx:∀ K:Fr→List Blk→Prop,(∀ S' M,PutOn mods S S'→(∃ M',M'.Sublist M∧R (look S') M')→K S' M)→W P w0 X N x (tA K Q) S M)
 (hy:∀ g M,R g M→W P w0 X N y Q0 (uI S g mods) M) (hK:∀ S M,W P w0 X N y Q0 S M→Q .normal S M:=by intro _ _ h;repeat (first|exact gtn h|refine AK ?_|refine BN ?_)):W P w0 X N x Q S M:=aY_ hK mods R hx hy
def AllV (g:Nat→Value):List (Nat×Value)→Prop
 | []=>True
 | [p]=>g p.1=p.2
 | p::q::l=>g p.1=p.2∧AllV g (q::l)
theorem AllV.look {g:Nat→Value} {mods:List Nat} {S0:Fr}:∀ {vs:List (Nat×Value)},AllV g vs→(vs.all fun p=>mods.contains p.1)=true→∀ i,look (uI S0 g mods) i=look (vs++uI S0 g mods) i
 | [],_,_,_=>rfl
 | p::l,h,hm,i=>by
  have h1:g p.1=p.2∧AllV g l:=by
   cases l with
   | nil=>exact ⟨h,trivial⟩
   | cons q l=>exact h
  simp only [List.all_cons,Bool.and_eq_true] at hm;have h2:=AllV.look (S0:=S0) h1.2 hm.2 i;rw [List.cons_append,oX]
  split
  ·rename_i e;subst e;rw [r6,if_pos hm.1];exact h1.1
  exact h2
theorem gJv (mods:List Nat) (vs:List (Nat×Value)) (hx:∀ K:Fr→List Blk→Prop,(∀ S' M',PutOn mods S S'→M.Sublist M'→AllV (look S') vs→K S' M')→W P w0 X N x (tA K Q) S M)
  (hy:∀ g,W P w0 X N y Q (vs++uI S g mods) M) (hm:(vs.all fun p=>mods.contains p.1)=true:=by rfl):W P w0 X N (.seq x y) Q S M :=
 kF mods (fun g M'=>AllV g vs∧M'=M) (fun K hK=>hx K fun S' M' hp hs hv=>hK S' M' hp ⟨M,hs,hv,rfl⟩) (fun g M' h=>by obtain ⟨hv,rfl⟩:=h;exact AI (hv.look hm) (hy g))
theorem sBB {o:Oper} {l:List Oper} {d:Tmp} {b:Bool} {Qf:Fr→List Blk→Prop} (h:DA N ops S o=some (d,.bool b)) (kt:b=true→WL P w0 X N ops Qf l ((d,.bool true)::S) M) (kf:b=false→WL P w0 X N ops Qf l ((d,.bool false)::S) M) :
 WL P w0 X N ops Qf (o::l) S M:=by cases b<;>exact sE h (by first|exact kt O|exact kf O)
theorem pBB {i:Nat} {ws:List Nat} {r:Plan} {d:Tmp} {b:Bool} {Qf:Fr→List Blk→Prop} (h:DB N ops S i=some (d,.bool b)) (kt:b=true→PL P w0 X N ops nw MD Qf r ((d,.bool true)::S) M) (kf:b=false→PL P w0 X N ops nw MD Qf r ((d,.bool false)::S) M) :
 PL P w0 X N ops nw MD Qf (.quiet i ws r) S M:=by cases b<;>exact pE h (by first|exact kt O|exact kf O)
theorem dG {a b:Bool} (h:a=b):Value.bool a=Value.bool b:=by rw [h]
variable {Qf:Fr→List Blk→Prop} {l:List Oper} {d:Option Tmp} {dd:Tmp} {ty:TypeId} {ps:String} {af:Array Edge} {gd:Option (Nat×Bool)} {T U:TypeId} {xo yo:Operand} {v:Value}
theorem gB1 {xs:List (Nat×Operand)} {parts:List (Nat×Value)} {qs:List (Nat×List Part)} {pl:List (Nat×Nat)} {z out:List Part} (hz:jD P T=some (aV z)) (hp:vA P T=some pl) (hg:wD N ops S (⟨d,.build T xs.toArray,ty,ps,af,gd⟩:Oper)=some dd)
 (hx:evP N S xs=some parts) (hq:WE parts qs) (h:IT (fun i=>pl[i]?) z qs=some out) (k:WL P w0 X N ops Qf l ((dd,AV out)::S) M):WL P w0 X N ops Qf (⟨d,.build T xs.toArray,ty,ps,af,gd⟩::l) S M:=sQ (jI hz hp hx (QR hq h)) hg k
theorem gB2 {xs:List (Nat×Operand)} {parts:List (Nat×Value)} {qs:List (Nat×List Part)} {n s:Nat} {z out:List Part} (hz:jD P T=some (aV z)) (hp:yF P T=some (n,s)) (hg:wD N ops S (⟨d,.build T xs.toArray,ty,ps,af,gd⟩:Oper)=some dd)
 (hx:evP N S xs=some parts) (hq:WE parts qs) (h:IT (fun i=>some (i*s,s)) z qs=some out) (k:WL P w0 X N ops Qf l ((dd,AV out)::S) M):WL P w0 X N ops Qf (⟨d,.build T xs.toArray,ty,ps,af,gd⟩::l) S M:=sQ (r7 hz hp hx (QR hq h)) hg k
theorem gSt {g:Bool} {n b off:Nat} {cs cs' qs:List Part} {M':List Blk} (hT:gY P T=some (g,n)) (hg:pS N ops S (⟨none,.store T xo yo,ty,ps,af,gd⟩:Oper)=true)
 (hx:evO N S xo=some (.pointer (some ⟨b,off,none⟩))) (hv:evO N S yo=some v) (hq:v.cells=(aV qs).toArray) (hn:mO qs=n) (hm:(⟨b,U,aV cs⟩:Blk)∈M) (hc:CV cs off n qs=some cs') (hu:Upd b U (aV cs) (aV cs') M M')
 (hb:w0.heap.size≤b) (k:WL P w0 X N ops Qf l S M'):WL P w0 X N ops Qf (⟨none,.store T xo yo,ty,ps,af,gd⟩::l) S M:=cx_ hg hT hx hv hq hn hc hu hb k
theorem gSo {g:Bool} {n b off i:Nat} {r:Plan} {cs cs' qs:List Part} {M':List Blk} (ho:ops[i]? = some ⟨none,.store T xo yo,ty,ps,af,gd⟩) (hT:gY P T=some (g,n)) (hg:pS N ops S (⟨none,.store T xo yo,ty,ps,af,gd⟩:Oper)=true)
 (hx:evO N S xo=some (.pointer (some ⟨b,off,none⟩))) (hv:evO N S yo=some v) (hq:v.cells=(aV qs).toArray) (hn:mO qs=n) (hm:(⟨b,U,aV cs⟩:Blk)∈M) (hc:CV cs off n qs=some cs') (hu:Upd b U (aV cs) (aV cs') M M')
 (hb:w0.heap.size≤b) (hw:nw.contains i=false) (hs:MD.Sublist M') (k:PL P w0 X N ops nw MD Qf r S M'):PL P w0 X N ops nw MD Qf (.only i r) S M:=e0_ ho hg hT hx hv hq hn hc hu hb hw hs k
theorem gBx {qs:List Part} {xv:Value} (hg:wD N ops S (⟨some dd,.box T xo,ty,ps,af,gd⟩:Oper)=some dd) (hv:evO N S xo=some xv) (hc:xv.cells=(aV qs).toArray)
 (k:∀ b,w0.heap.size≤b→WL P w0 X N ops Qf l ((dd,.pointer (some ⟨b,0,none⟩))::S) (⟨b,T,aV qs⟩::M)):WL P w0 X N ops Qf (⟨some dd,.box T xo,ty,ps,af,gd⟩::l) S M:=sX qs hg hv hc k
end
structure Hid (B:Prop):Prop where h:B
theorem go0 {A B:Prop} (k:B) (h:Hid B→A:=by
 intro hk
 repeat (with_reducible first|refine gtn ?_|refine AK ?_|refine gtx ?_|refine E9 ?_|refine C4 (by decide) ?_|refine gtr ?_|refine NJ ?_|refine gun ?_|refine gux ?_|refine gur ?_|refine BN ?_|refine PG ?_|refine PF ?_|refine UB ?_|refine UA ?_)
 exact hk.h):A:=h ⟨k⟩
section
variable {P:Program} {w0:World} {X:List Nat} {N:Nm} {S:Fr} {M MD:List Blk} {Q:kI} {Qf:Fr→List Blk→Prop} {c:Code} {ops l:List Oper} {nw:List Nat} {p:Plan} {d:Option Tmp} {ty:TypeId} {ps:String} {af:Array Edge} {gd:Option (Nat×Bool)} {T:TypeId} {x y:Operand} {f:Nat}
theorem iW (h:W P w0 X N c Q S M):W P w0 X N c Q S M:=h
theorem iL (h:WL P w0 X N ops Qf l S M):WL P w0 X N ops Qf l S M:=h
theorem iP (h:PL P w0 X N ops nw MD Qf p S M):PL P w0 X N ops nw MD Qf p S M:=h
theorem iLd (h:WL P w0 X N ops Qf (⟨d,.load T x,ty,ps,af,gd⟩::l) S M):WL P w0 X N ops Qf (⟨d,.load T x,ty,ps,af,gd⟩::l) S M:=h
theorem iFa (h:WL P w0 X N ops Qf (⟨d,.fieldAddr T x f,ty,ps,af,gd⟩::l) S M):WL P w0 X N ops Qf (⟨d,.fieldAddr T x f,ty,ps,af,gd⟩::l) S M:=h
theorem iIa (h:WL P w0 X N ops Qf (⟨d,.indexAddr T x y,ty,ps,af,gd⟩::l) S M):WL P w0 X N ops Qf (⟨d,.indexAddr T x y,ty,ps,af,gd⟩::l) S M:=h
theorem iSt (h:WL P w0 X N ops Qf (⟨none,.store T x y,ty,ps,af,gd⟩::l) S M):WL P w0 X N ops Qf (⟨none,.store T x y,ty,ps,af,gd⟩::l) S M:=h
theorem iAl (h:WL P w0 X N ops Qf (⟨d,.alloc T,ty,ps,af,gd⟩::l) S M):WL P w0 X N ops Qf (⟨d,.alloc T,ty,ps,af,gd⟩::l) S M:=h
theorem iBx (h:WL P w0 X N ops Qf (⟨d,.box T x,ty,ps,af,gd⟩::l) S M):WL P w0 X N ops Qf (⟨d,.box T x,ty,ps,af,gd⟩::l) S M:=h
theorem iIx (h:WL P w0 X N ops Qf (⟨d,.index T x y,ty,ps,af,gd⟩::l) S M):WL P w0 X N ops Qf (⟨d,.index T x y,ty,ps,af,gd⟩::l) S M:=h
theorem iFd (h:WL P w0 X N ops Qf (⟨d,.field T x f,ty,ps,af,gd⟩::l) S M):WL P w0 X N ops Qf (⟨d,.field T x f,ty,ps,af,gd⟩::l) S M:=h
theorem iBu {xs:Array (Nat×Operand)} (h:WL P w0 X N ops Qf (⟨d,.build T xs,ty,ps,af,gd⟩::l) S M):WL P w0 X N ops Qf (⟨d,.build T xs,ty,ps,af,gd⟩::l) S M:=h
end
theorem go_ {A B:Prop} (k:B) (h:Hid B→A:=by
 intro hk
 first
 | ((with_reducible refine iL ?_);first
  | refine sE O ?_|with_reducible refine gnx ?_|with_reducible refine gnk ?_
  | ((with_reducible refine iLd ?_);first|refine sQ (qC FTy.h O HasB.h O) O ?_|refine sQ (qL FTy.h O HasB.h O) O ?_)
  | ((with_reducible refine iFa ?_);refine sQ (qF FFd.h O O) O ?_)
  | ((with_reducible refine iIa ?_);refine sQ (qA FAr.h O O O) O ?_)
  | ((with_reducible refine iSt ?_);refine gSt FTy.h O O O PtO.h O HasB.h O UpdB.h (by with_reducible assumption) ?_)
  | ((with_reducible refine iAl ?_);refine sN FZp.h O ?_)
  | ((with_reducible refine iBx ?_);refine gBx O O PtO.h ?_)
  | ((with_reducible refine iIx ?_);first|refine sQ (qI FEl.h O O O O) O ?_|refine sQ (qJ FEl.h O O O O) O ?_)
  | ((with_reducible refine iFd ?_);first|refine sQ (O1 FFl.h O O) O ?_|refine sQ (O2 FFl.h O O) O ?_)
  | ((with_reducible refine iBu ?_);first|refine gB1 FZp.h FPl.h O O PtsO.h O ?_|refine gB2 FZp.h FAr.h O O PtsO.h O ?_))
 | ((with_reducible refine iW ?_);first
  | (with_reducible first|refine gRs ?_|refine gSq ?_|refine gRk ?_|refine aX_ ?_|refine ds_ ?_|refine dr_ ?_|refine e6_ ?_|refine a1_ ?_|refine aZ_ ?_)|refine WO O ?_|refine R9 O ?_)
 | ((with_reducible refine iP ?_);first
  | refine pE O ?_|refine fnx ?_|refine fnk ?_|refine pQ O (qC FTy.h O HasB.h O) ?_|refine pQ O (qL FTy.h O HasB.h O) ?_|refine pQ O (qF FFd.h O O) ?_|refine pQ O (qA FAr.h O O O) ?_
  | refine tE O ?_|refine oE ss_ O ?_|refine gSo O FTy.h O O O PtO.h O HasB.h O UpdB.h (by with_reducible assumption) O ss_ ?_
  | refine pQ O (qI FEl.h O O O O) ?_|refine pQ O (qJ FEl.h O O O O) ?_|refine pQ O (O1 FFl.h O O) ?_|refine pQ O (O2 FFl.h O O) ?_)
 | with_reducible refine gUs ?_
 repeat (with_reducible first|refine gtn ?_|refine AK ?_|refine gtx ?_|refine E9 ?_|refine C4 (by decide) ?_|refine gtr ?_|refine NJ ?_|refine gun ?_|refine gux ?_|refine gur ?_|refine BN ?_|refine PG ?_|refine PF ?_|refine UB ?_|refine UA ?_)
 exact hk.h):A:=h ⟨k⟩
theorem go2 {A B:Prop} (k:B) (h:Hid B→A:=by intro hk;(iterate 2 refine go_ ?_);exact hk.h):A:=h ⟨k⟩
theorem go3 {A B:Prop} (k:B) (h:Hid B→A:=by intro hk;(iterate 3 refine go_ ?_);exact hk.h):A:=h ⟨k⟩
theorem go4 {A B:Prop} (k:B) (h:Hid B→A:=by intro hk;(iterate 4 refine go_ ?_);exact hk.h):A:=h ⟨k⟩
theorem go5 {A B:Prop} (k:B) (h:Hid B→A:=by intro hk;(iterate 5 refine go_ ?_);exact hk.h):A:=h ⟨k⟩
theorem go6 {A B:Prop} (k:B) (h:Hid B→A:=by intro hk;(iterate 6 refine go_ ?_);exact hk.h):A:=h ⟨k⟩
theorem go7 {A B:Prop} (k:B) (h:Hid B→A:=by intro hk;(iterate 7 refine go_ ?_);exact hk.h):A:=h ⟨k⟩
theorem go8 {A B:Prop} (k:B) (h:Hid B→A:=by intro hk;(iterate 8 refine go_ ?_);exact hk.h):A:=h ⟨k⟩
theorem go9 {A B:Prop} (k:B) (h:Hid B→A:=by intro hk;(iterate 9 refine go_ ?_);exact hk.h):A:=h ⟨k⟩
theorem mQ {A B:Prop} (k:B) (h:Hid B→A:=by intro hk;(iterate 10 refine go_ ?_);exact hk.h):A:=h ⟨k⟩
theorem zX {A B:Prop} (k:B) (h:Hid B→A:=by intro hk;(iterate 11 refine go_ ?_);exact hk.h):A:=h ⟨k⟩
theorem wR {A B:Prop} (k:B) (h:Hid B→A:=by intro hk;(iterate 12 refine go_ ?_);exact hk.h):A:=h ⟨k⟩
theorem U1 {A B:Prop} (k:B) (h:Hid B→A:=by intro hk;(iterate 13 refine go_ ?_);exact hk.h):A:=h ⟨k⟩
theorem DT {A B:Prop} (k:B) (h:Hid B→A:=by intro hk;(iterate 14 refine go_ ?_);exact hk.h):A:=h ⟨k⟩
theorem AZ {A B:Prop} (k:B) (h:Hid B→A:=by intro hk;(iterate 15 refine go_ ?_);exact hk.h):A:=h ⟨k⟩
theorem QW {A B:Prop} (k:B) (h:Hid B→A:=by intro hk;(iterate 16 refine go_ ?_);exact hk.h):A:=h ⟨k⟩
theorem dT_ {A B:Prop} (k:B) (h:Hid B→A:=by intro hk;(iterate 17 refine go_ ?_);exact hk.h):A:=h ⟨k⟩
theorem gE_ {A B:Prop} (k:B) (h:Hid B→A:=by intro hk;(iterate 18 refine go_ ?_);exact hk.h):A:=h ⟨k⟩
theorem OA {A B:Prop} (k:B) (h:Hid B→A:=by intro hk;(iterate 20 refine go_ ?_);exact hk.h):A:=h ⟨k⟩
theorem gF_ {A B:Prop} (k:B) (h:Hid B→A:=by intro hk;(iterate 21 refine go_ ?_);exact hk.h):A:=h ⟨k⟩
theorem gG_ {A B:Prop} (k:B) (h:Hid B→A:=by intro hk;(iterate 22 refine go_ ?_);exact hk.h):A:=h ⟨k⟩
theorem gH_ {A B:Prop} (k:B) (h:Hid B→A:=by intro hk;(iterate 27 refine go_ ?_);exact hk.h):A:=h ⟨k⟩
theorem gI_ {A B:Prop} (k:B) (h:Hid B→A:=by intro hk;(iterate 33 refine go_ ?_);exact hk.h):A:=h ⟨k⟩
end Go.Kn
namespace Go.Num
open Go Go.Kn Go.RowKit Go.ChangeShapes Go.WideShapes
def lwf:Value→nW→Prop
 | .bool _,none=>True
 | .int k n,some k'=>k=k'∧(Lit.int k n).wf=true
 | _,_=>False
def LWF:List Value→List nW→Prop
 | [],[]=>True
 | v::vs,l::ls=>lwf v l∧LWF vs ls
 | _,_=>False
theorem LWF.len:∀ {vs:List Value} {ls:List nW},LWF vs ls→vs.length=ls.length
 | [],[],_=>rfl
 | v::vs,l::ls,h=>by simp [LWF.len h.2]
 | [],_::_,h=>h.elim
 | _::_,[],h=>h.elim
theorem LWF.append:∀ {vs us:List Value} {ls ms:List nW},LWF vs ls→LWF us ms→LWF (vs++us) (ls++ms)
 | [],_,[],_,_,k=>k
 | v::vs,_,l::ls,_,h,k=>⟨h.1,LWF.append h.2 k⟩
 | [],_,_::_,_,h,_=>h.elim
 | _::_,_,[],_,h,_=>h.elim
theorem LWF.split:∀ {ls ms:List nW} {vs:List Value},LWF vs (ls++ms)→∃ a b,vs=a++b∧LWF a ls∧LWF b ms
 | [],_,vs,h=>⟨[],vs,rfl,trivial,h⟩
 | l::ls,ms,[],h=>h.elim
 | l::ls,ms,v::vs,h=>by
  obtain ⟨a,b,rfl,h1,h2⟩:=LWF.split (ls:=ls) (ms:=ms) h.2;exact ⟨v::a,b,rfl,⟨h.1,h1⟩,h2⟩
def VB (P:Program) (f:TypeId→Option (List nW)):List Field→Nat→Option (List nW)
 | [],_=>some []
 | x::fs,off=>if x.offset≠off then none else (f x.type).bind fun l=>if P.cellsOf x.type=l.length then (VB P f fs (off+l.length)).map (l ++ ·) else none
def lz (P:Program):Nat→TypeId→Option (List nW)
 | 0,_=>none
 | d+1,T=>match P.underlying T with
  | some .bool=>some [none]
  | some (.int k)=>some [some k]
  | some (.array n e)=>(lz P d e).bind fun l=>if P.cellsOf e=l.length∧P.cellsOf T=n*l.length then some ((List.replicate n l).flatten) else none
  | some (.struct fs)=>(VB P (lz P d) fs.toList 0).bind fun l=>if P.cellsOf T=l.length then some l else none
  | _=>none
section
variable {H:Type} {enc:TypeId×Value→H} {P:Program} {w:World} {base:Nat} {spare:Nat→Bool} {held:Bool}
theorem F3 {l:List nW}:∀ (n:Nat) (cs:List Value),cs.length=n*l.length→(∀ i,i<n→LWF ((cs.drop (i*l.length)).take l.length) l)→LWF cs ((List.replicate n l).flatten)
 | 0,cs,hl,_=>by
  have:cs=[]:=List.eq_nil_of_length_eq_zero (by simpa using hl);subst this;exact trivial
 | n+1,cs,hl,h=>by
  rw [List.replicate_succ,List.flatten_cons];have h0:=h 0 (by omega);rw [Nat.zero_mul,List.drop_zero] at h0
  have:=F3 (l:=l) n (cs.drop l.length) (by rw [List.length_drop,hl,Nat.succ_mul,Nat.add_sub_cancel]) (fun i hi=>by
   have:=h (i+1) (by omega)
   rw [List.drop_drop,show l.length+i*l.length=(i+1)*l.length by rw [Nat.succ_mul];omega];exact this)
  have e:=LWF.append h0 this
  rwa [List.take_append_drop] at e
theorem Y6 {f:TypeId→Option (List nW)}:∀ (fs:List Field) (off:Nat) (ls:List nW) (cs:List Value),VB P f fs off=some ls→cs.length=off+ls.length →
  (∀ (i:Nat) (x:Field),fs[i]? = some x→∀ l,f x.type=some l→LWF ((cs.drop x.offset).take (P.cellsOf x.type)) l)→LWF (cs.drop off) ls
 | [],off,ls,cs,h,hl,_=>by
  cases h
  have:cs.drop off=[]:=List.eq_nil_of_length_eq_zero (by rw [List.length_drop];simp at hl;omega);rw [this];exact trivial
 | x::fs,off,ls,cs,h,hl,hx=>by
  unfold VB at h
  split at h
  ·cases h
  rename_i ho
  have ho':x.offset=off:=Classical.byContradiction ho
  cases hf:f x.type with
  | none=>simp [hf] at h
  | some l =>
   simp only [hf,Option.bind_some] at h
   split at h
   ·rename_i hs
    cases hg:VB P f fs (off+l.length) with
    | none=>simp [hg] at h
    | some m =>
     simp only [hg,Option.map_some,Option.some.injEq] at h;subst h;have h1:=hx 0 x O l hf;rw [ho',hs] at h1;have h2:=Y6 fs (off+l.length) m cs hg (by rw [hl,List.length_append];omega) (fun i y hy=>hx (i+1) y (by simpa using hy));have e:=LWF.append h1 h2;rw [← List.drop_drop] at e
     rwa [List.take_append_drop] at e
   ·cases h
theorem xF:∀ (d:Nat) {T:TypeId} {ls:List nW} {fuel:Nat} {cs:List Value} {x:DataW H×List MemPlace},lz P d T=some ls→DataW.trod enc P w base spare held fuel T cs=some x→LWF cs ls
 | 0,_,_,_,_,_,h,_=>by cases h
 | d+1,T,ls,fuel,cs,x,h,ht=>by
  unfold lz at h
  split at h
  ·rename_i hu
   cases h
   cases fuel with
   | zero=>simp [DataW.trod] at ht
   | succ m =>
    unfold DataW.trod at ht;rw [hu] at ht
    split at ht<;>simp_all [LWF,lwf]
  ·rename_i k hu
   cases h
   obtain ⟨n,h1,_,h3⟩:=DataW.trod_int hu ht;subst h1;exact ⟨⟨rfl,h3⟩,trivial⟩
  ·rename_i n e hu
   cases hl:lz P d e with
   | none=>simp [hl] at h
   | some l =>
    simp only [hl,Option.bind_some] at h
    split at h
    ·rename_i hs
     cases h
     obtain ⟨xs,m,_,_,hlen,hxl,hall⟩:=DataW.trod_array hu ht;refine F3 n cs (by rw [hlen,hs.2]) (fun i hi=>?_);have h1:=hall i hi;rw [hs.1,List.getElem?_eq_getElem (by rw [hxl];exact hi)] at h1;exact xF d hl h1
    ·cases h
  ·rename_i fs hu
   cases hl:VB P (lz P d) fs.toList 0 with
   | none=>simp [hl] at h
   | some l =>
    simp only [hl,Option.bind_some] at h
    split at h
    ·rename_i hs
     cases h
     obtain ⟨xs,m,_,_,hlen,hxl,hall⟩:=DataW.trod_struct hu ht
     have:=Y6 fs.toList 0 ls cs hl (by rw [hlen,hs];omega) (fun i y hy l' hl'=>by
      have hy':fs[i]? = some y:=by simpa using hy
      have h1:=hall i y hy';have hi:i<fs.size:=(Array.getElem?_eq_some_iff.1 hy').1;rw [List.getElem?_eq_getElem (by rw [hxl];exact hi)] at h1
      exact xF d hl' h1)
     rwa [List.drop_zero] at this
    ·cases h
  ·cases h
end
theorem TK:∀ {n:Nat} {cs:List Value},LWF cs (List.replicate n (some .u32))→∃ l:List Nat,l.length=n∧Lim l∧cs=uw l
 | 0,[],_=>⟨[],rfl,(fun _ h=>by cases h),rfl⟩
 | 0,_::_,h=>h.elim
 | n+1,[],h=>h.elim
 | n+1,v::vs,h=>by
  obtain ⟨l,hl,hlim,rfl⟩:=TK (n:=n) (cs:=vs) h.2
  match v,h.1 with
  | .int k m,hv =>
   obtain ⟨rfl,hw⟩:=hv;have hb:=bounds_u32 hw;refine ⟨m.toNat::l,by simp [hl],fun d hd=>?_,?_⟩
   ·rcases List.mem_cons.1 hd with rfl|hd
    ·omega
    exact hlim d hd
   have:(m.toNat:Int)=m:=by omega
   simp [uw,U32,this]
theorem cW_ {cs:List Value} (h:LWF cs LI):∃ x:I,cs=(pI x).l:=by
 match cs,h with
 | .bool a::.bool b::rest,h =>
  obtain ⟨l,hl,hlim,rfl⟩:=TK h.2.2;exact ⟨⟨⟨a,b,l⟩,⟨hl,hlim⟩⟩,rfl⟩
open Go Go.Kn Go.RowKit
end Go.Num
