/- The Go function skewbacklaw26.RopeWorkAddsUp returns true for every input, and leaves its arguments as they were (the card: the table of math/bits is as the program's text lays it; the code never reads it). Conditions: none. -/
import Derived.Test.YtkjjponijamaoaaGreatDoorYHq
import Derived.Test.YtkjjponijamaoaaGreatDoorYH10xOm
import Derived.Test.YtkjjponijamaoaaGreatDoorYH10xPg
import Derived.Test.YtkjjponijamaoaaGreatDoorYH10xHs
set_option linter.unusedSimpArgs false
set_option linter.unusedVariables false
set_option maxRecDepth 100000
namespace Go.Proofs.YtkjjponijamaoaaGreatDoor
open Go.Kn Go.Num Go.ChangeShapes Go.WideShapes Go.ChangeAt Go.RowKit
theorem lz_69:lz Tryz.prog 8 69=some ([some .i64] ++ ([some .i64] ++ ([some .i64] ++ ([some .i64] ++ ([some .i64] ++ ([some .i64] ++ [some .i64])))))):=by kernel_rfl
def laidT : List (String × DataW Unit) := [("math/bits.deBruijn32tab", Rows.laid_math_bits_deBruijn32tab)]
theorem door_met (os:Os) (args:Array Value):laidMetH Tryz.prog laidT ((World.doorLaid Tryz.prog 400 os).forCall (fun _ _=>0) ⟨#[],args,[]⟩).memory :=
  laidMetH_of_parts3 (fuel:=8) (laidMet_of_run' 8 (by kernel_rfl) (by kernel_rfl)) (by kernel_rfl) (by kernel_rfl)
theorem lifted (os:Os) (started:os.Started) (H:Type) (enc:TypeId×Value→H) :
    ReturnsInHanded {} Tryz.checked os 6 .any (fun w args=>(Rows.ropeWorkAddsUpSpec.pre enc Tryz.prog Tryz.f6 [] false w args∧laidMetH Tryz.prog laidT w)∧sizedMet enc Tryz.prog Tryz.f6 (OpenSpec.ofChange Rows.ropeWorkAddsUpSpec) false w args) (Rows.ropeWorkAddsUpSpec.post enc Tryz.prog Tryz.f6 false true false false):=by
  refine returnsInHanded_of_change_and (C:=Tryz.checked) (X:=fun w _=>laidMetH Tryz.prog laidT w) (fun _ _ _ hh h=>h.of_heap hh) own started (by kernel_rfl) Tryz.func6
    (ChangeSpec.witness_shaped (enc:=enc) (C:=Tryz.checked) (os:=os) (X:=fun w _=>laidMetH Tryz.prog laidT w) false (World.doorLaid Tryz.prog 400 os) #[.slice none 0 0,.slice none 0 0,.int .i64 0,.int .i64 0] 8 rfl (World.shaped_of_RefB (by kernel_rfl) (by kernel_rfl)) (by kernel_rfl) (by kernel_rfl) (by kernel_rfl) (door_met os _)) ?_
  intro W base args ds gs before hval0 hW hcnd _ hL _;have hval:∀ (j:Nat) t v,Tryz.f6.params[j]? = some t→args[j]? = some v→Value.okWide Tryz.prog W .any base t v:=hval0;have hW':=hW;obtain ⟨p,q,hA0,hV,rfl,hfz,hnd⟩:=hW;have hA:DataW.TrodAll enc Tryz.prog W 0 (fun _=>true) true Tryz.f6.params.toList args.toList ds p:=hA0;rw [Tryz.params6] at hA hval;obtain ⟨v0,vs0,d0,ds0,p0,q0,hargs,rfl,rfl,h0,r0⟩:=trodAll_cons hA;obtain ⟨v1,vs1,d1,ds1,p1,q1,rfl,rfl,rfl,h1,r1⟩:=trodAll_cons r0;obtain ⟨v2,vs2,d2,ds2,p2,q2,rfl,rfl,rfl,h2,r2⟩:=trodAll_cons r1;obtain ⟨v3,vs3,d3,ds3,p3,q3,rfl,rfl,rfl,h3,r3⟩:=trodAll_cons r2;obtain ⟨rfl,rfl,rfl⟩:=trodAll_nil r3
  obtain rfl:args = #[v0,v1,v2,v3]:=by cases args;simp_all
  obtain ⟨rfl,rfl⟩:=trodVars_none hV;obtain ⟨l0,hl0⟩:=p6_ (e:=iD) Tryz.underlying26 lz_69 (by kernel_rfl) (fun _ h=>rI_ h) (hval 0 26 v0 rfl rfl) h0;have k0:=h0
  have lt0:∀ x∈p0,x.block<W.heap.size:=by obtain ⟨m,hm⟩:=k0;exact DataW.trod_lt m _ _ _ hm
  obtain ⟨l1,hl1⟩:=p6_ (e:=iD) Tryz.underlying26 lz_69 (by kernel_rfl) (fun _ h=>rI_ h) (hval 1 26 v1 rfl rfl) h1;have k1:=h1
  have lt1:∀ x∈p1,x.block<W.heap.size:=by obtain ⟨m,hm⟩:=k1;exact DataW.trod_lt m _ _ _ hm
  obtain ⟨x2_0,rfl,hb2⟩:=st_ Tryz.underlying3 (hval 2 3 v2 rfl rfl);have k2:=h2
  have lt2:∀ x∈p2,x.block<W.heap.size:=by obtain ⟨m,hm⟩:=k2;exact DataW.trod_lt m _ _ _ hm
  obtain ⟨x3_0,rfl,hb3⟩:=st_ Tryz.underlying3 (hval 3 3 v3 rfl rfl);have k3:=h3
  have lt3:∀ x∈p3,x.block<W.heap.size:=by obtain ⟨m,hm⟩:=k3;exact DataW.trod_lt m _ _ _ hm
  clear hA0 hval0;refine (Q8 _ l0 _ l1 ⟨x2_0,sq_ hb2⟩ ⟨x3_0,sq_ hb3⟩ W hl0 hl1).mono fun e W' ⟨he,bel⟩=>?_;rw [lj_ _ _ _ _ WZ] at he;subst he;exact ⟨_,rfl,_,_,_,[],_,[],hW',trodAll_mk1 (shut_bool Tryz.underlying4 _),(trodAll_cons_mk (Below.trod sr_ (by kernel_rfl) (of_decide_eq_true (by kernel_rfl)) k0 bel lt0) (trodAll_cons_mk (Below.trod sr_ (by kernel_rfl) (of_decide_eq_true (by kernel_rfl)) k1 bel lt1) (trodAll_cons_mk (Below.trod sr_ (by kernel_rfl) (of_decide_eq_true (by kernel_rfl)) k2 bel lt2) (trodAll_cons_mk (Below.trod sr_ (by kernel_rfl) (of_decide_eq_true (by kernel_rfl)) k3 bel lt3) trodAll_mk0)))),rfl,bel.frame _,fun h=>by cases h⟩
theorem fourF:((Rows.ropeWorkAddsUpRow.inPlace==Tryz.prog.inPlace 6)&&(Rows.ropeWorkAddsUpRow.unfollowed==Tryz.prog.unfollowed 6)&&(Rows.ropeWorkAddsUpRow.recurses==Tryz.prog.recurses 6)&&(Rows.ropeWorkAddsUpRow.named==Tryz.prog.varsNamed 6))=true:=by kernel_rfl
theorem joinedF:joinedFacts Tryz.prog 6 Tryz.f6 Rows.ropeWorkAddsUpSpec Rows.ropeWorkAddsUpRow=true:=by
  have h:=fourF;simp only [Bool.and_eq_true] at h;obtain ⟨⟨⟨a,b⟩,c⟩,d⟩:=h;unfold joinedFacts;rw [sr_,sT_.2.2.2.2.2,a,b,c,d,show (Rows.ropeWorkAddsUpRow.plainKeys==Tryz.prog.plainKeys)=true from sT_.2.2.2.2.1,sT_.2.2.2.1,sT_.1,show (Rows.ropeWorkAddsUpRow.lifted==Tryz.prog.liftsFinal)=true from sT_.2.1,show (Tryz.prog.make==some Rows.ropeWorkAddsUpRow.make)=true from sT_.2.2.1]
  decide +kernel
theorem goesF:false=Rows.ropeWorkAddsUpRow.goesBy Tryz.prog:=by kernel_rfl
theorem holds:Rows.RopeWorkAddsUpSaid :=
  OpenClaim.holds_of_wide 6 Tryz.f6 rfl rfl rfl rfl rfl rfl rfl ⟨rfl,rfl,rfl,rfl,rfl⟩ rfl rfl rfl rfl rfl (by kernel_rfl) Tryz.func6 joinedF
    (of_decide_eq_true (by kernel_rfl)) (by unfold Func.isWrapper;first | (rw [if_pos (by decide +kernel)];kernel_rfl) | (rw [if_neg (by decide +kernel)];exact ⟨rfl,rfl⟩))
    (fun os started H enc _=>lifted os started H enc)
#print axioms holds
theorem card_holds:Rows.RopeWorkAddsUpCardSaid :=
  Claim7.holds_tied_plain_at .later [] [.data] true (true, "879c469cb3889b55bc4815716d36c3d07d60e8caae4b02f49b842c0ef3e5c4dc") false
    holds (fun _ h=>by cases h) (by kernel_rfl) (fun _ h=>by cases h) ropeWorkAddsUp_row_tie rfl ⟨rfl,rfl⟩ sV_ rfl
    (fun f fn hf hfn=>by
      obtain rfl : f = 6 := Option.some.inj ((show Tryz.prog.funcNamed "skewback/skewbacklaw26.RopeWorkAddsUp" = some 6 by kernel_rfl).symm.trans hf) |>.symm
      obtain rfl:fn=Tryz.f6:=(Option.some.inj (Tryz.func6.symm.trans hfn)).symm
      exact ⟨sD_,fun j t ht=>by
        rw [Tryz.params6] at ht
        have hm:t∈[3,26]:=by
          have h1:=Array.mem_of_getElem? ht
          simp at h1 ⊢
          grind
        have hall:([3,26].all fun u=>!Tryz.prog.wantsStandIn u)=true:=by kernel_rfl
        exact (show Tryz.prog.wantsStandIn t=false by simpa using List.all_eq_true.1 hall t hm)⟩)
    goesF
#print axioms card_holds
end Go.Proofs.YtkjjponijamaoaaGreatDoor

