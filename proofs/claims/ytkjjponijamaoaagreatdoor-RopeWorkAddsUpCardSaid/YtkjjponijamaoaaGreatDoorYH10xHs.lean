/- Lemmas: what they ask stands in their statements. -/
import Derived.ChangeArms
import Derived.Test.YtkjjponijamaoaaGreatDoorYH10xGD
set_option linter.unusedSimpArgs false
set_option linter.unusedVariables false

namespace Go.Num
open Go Go.Kn Go.RowKit Go.ChangeShapes Go.WideShapes
section
variable {H:Type} {enc:TypeId×Value→H} {P:Program} {w:World} {base:Nat} {spare:Nat→Bool} {held:Bool} {α:Type} {e:El α}
theorem Rd.app {a:Addr} {A B:List Value} (h:Rd w a A) (k:Rd w (a.add A.length) B):Rd w a (A ++ B):=fun j v hj=>by
  rcases Nat.lt_or_ge j A.length with h' | h'
  · rw [List.getElem?_append_left h'] at hj;exact h j v hj
  rw [List.getElem?_append_right h'] at hj;have:=k _ _ hj;rw [ab_,Nat.add_sub_cancel' h'] at this;exact this
theorem Rd.of_cells {a:Addr} {n:Nat} {cs:List Value} (h:w.cells? base a n=some cs):Rd w a cs:=fun j v hj=>by
  obtain ⟨_,hl,hc⟩:=World.cells?_some h;have hj':j<cs.length:=(List.getElem?_eq_some_iff.1 hj).1;have h1:=hc j oo_;rw [hj] at h1;exact h1
theorem fZ_ {a:Addr} {len:Nat} (h:∀ i,i<len→∃ x:α,w.cells? base (a.add (i * e.n)) e.n=some (e.cs x)):∀ k,k≤len→∃ l:List α,l.length=k∧Rd w a (rows e l)
  | 0,_=>⟨[],rfl,fun j v hj=>by simp [rows] at hj⟩
  | k+1,hk=>by
    obtain ⟨l,hl,hr⟩:=fZ_ h k oo_;obtain ⟨x,hx⟩:=h k oo_;refine ⟨l ++ [x],by simp [hl],?_⟩;rw [E4];refine Rd.app hr ?_;rw [u7,hl];have:=Rd.of_cells hx
    simpa [rows] using this
theorem p6_ {T E:TypeId} {ls:List AW} {v:Value} {d:DataW H} {p:List MemPlace} {b0:Nat} {r:Reach} (hT:P.underlying T=some (.slice E)) (hl:lz P 8 E=some ls) (hn:P.cellsOf E=e.n)
    (op:∀ cs,LWF cs ls→∃ x:α,cs=e.cs x) (hv:Value.okWide P w r b0 T v) (ht:DataW.Trod enc P w base spare held T v d p):∃ l:List α,Slr w e v l:=by
  obtain ⟨fuel,hf⟩:=ht
  have hv':∃ a n c,v = .slice a n c:=by
    unfold Value.okWide at hv;rw [hT] at hv;unfold Cell.okWide at hv;rw [hT] at hv
    cases v <;> simp_all [Cell.ok]
  obtain ⟨a,n,c,rfl⟩:=hv';have e1:(Value.slice a n c).cells.toList=[.slice a n c]:=rfl;rw [e1] at hf;rcases DataW.trod_slice hT hf with ⟨h,_⟩ | ⟨a',len,cap,elems,rest,m,_,h,_,_,hlc,hc,hel,hall,_⟩
  · cases h
    exact ⟨[],none,0,rfl,Nat.le_refl _,by decide,.inl ⟨rfl,rfl,rfl⟩⟩
  · cases h
    have hx:∀ i,i<n→∃ x:α,w.cells? base (a'.add (i * e.n)) e.n=some (e.cs x):=fun i hi=>by
      have h1:=hall i hi;rw [List.getElem?_eq_getElem oo_,hn] at h1
      cases hc':w.cells? base (a'.add (i * e.n)) e.n with
      | none=>rw [hc'] at h1;cases h1
      | some cs =>
        rw [hc'] at h1;obtain ⟨x,hx⟩:=op cs (HD 8 hl h1);exact ⟨x,by rw [hx]⟩
    obtain ⟨l,hl',hr⟩:=fZ_ hx n (Nat.le_refl _);exact ⟨l,some a',c,by rw [hl'],by omega,hc,.inr ⟨a',rfl,hr⟩⟩
end
end Go.Num


namespace Go.Num
open Go Go.Kn Go.RowKit Go.ChangeShapes Go.WideShapes
theorem rI_ {cs:List Value} (h:LWF cs ([some .i64] ++ ([some .i64] ++ ([some .i64] ++ ([some .i64] ++ ([some .i64] ++ ([some .i64] ++ [some .i64]))))))):∃ x:Pose,cs=iD.cs x:=by
  obtain ⟨c0,r0,rfl,u0,h⟩:=LWF.split h;obtain ⟨c1,r1,rfl,u1,h⟩:=LWF.split h;obtain ⟨c2,r2,rfl,u2,h⟩:=LWF.split h;obtain ⟨c3,r3,rfl,u3,h⟩:=LWF.split h;obtain ⟨c4,r4,rfl,u4,h⟩:=LWF.split h;obtain ⟨c5,r5,rfl,u5,u6⟩:=LWF.split h;obtain ⟨x0,rfl⟩:=WM u0;obtain ⟨x1,rfl⟩:=WM u1;obtain ⟨x2,rfl⟩:=WM u2;obtain ⟨x3,rfl⟩:=WM u3;obtain ⟨x4,rfl⟩:=WM u4;obtain ⟨x5,rfl⟩:=WM u5;obtain ⟨x6,rfl⟩:=WM u6;exact ⟨⟨⟨x0,x1,x2⟩,⟨x3,x4,x5,x6⟩⟩,rfl⟩
end Go.Num

