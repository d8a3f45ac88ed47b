/- The Go function skewbacklaw26.RopeLiftsAsSpecified returns true for every input, and leaves its arguments as they were (the card: the table of math/bits is as the program's text lays it; the code never reads it). Conditions: none. -/
import Derived.Test.YtkjjponijamaoaaGreatDoorYHq
import Derived.Test.YtkjjponijamaoaaGreatDoorYH5xPh
set_option linter.unusedSimpArgs false
set_option linter.unusedVariables false
set_option maxRecDepth 100000
namespace Go.Proofs.YtkjjponijamaoaaGreatDoor
open Go.Kn Go.Num Go.ChangeShapes Go.WideShapes Go.ChangeAt Go.RowKit
theorem lz_69:lz Tryz.prog 8 69=some ([some .i64] ++ ([some .i64] ++ ([some .i64] ++ ([some .i64] ++ ([some .i64] ++ ([some .i64] ++ [some .i64])))))):=by kernel_rfl
theorem lz_23:lz Tryz.prog 8 23=some ([some .i64] ++ ([some .i64] ++ [some .i64])):=by kernel_rfl
theorem ia_23:jz_ Tryz.prog 23=true:=by kernel_rfl
def laidT : List (String × DataW Unit) := [("math/bits.deBruijn32tab", Rows.laid_math_bits_deBruijn32tab)]
theorem door_met (os:Os) (args:Array Value):laidMetH Tryz.prog laidT ((World.doorLaid Tryz.prog 400 os).forCall (fun _ _=>0) ⟨#[],args,[]⟩).memory :=
  laidMetH_of_parts3 (fuel:=8) (laidMet_of_run' 8 (by kernel_rfl) (by kernel_rfl)) (by kernel_rfl) (by kernel_rfl)
theorem lifted (os:Os) (started:os.Started) (H:Type) (enc:TypeId×Value→H) :
    ReturnsInHanded {} Tryz.checked os 8 .any (fun w args=>(Rows.ropeLiftsAsSpecifiedSpec.pre enc Tryz.prog Tryz.f8 [] false w args∧laidMetH Tryz.prog laidT w)∧sizedMet enc Tryz.prog Tryz.f8 (OpenSpec.ofChange Rows.ropeLiftsAsSpecifiedSpec) false w args) (Rows.ropeLiftsAsSpecifiedSpec.post enc Tryz.prog Tryz.f8 false true false false):=by
  refine returnsInHanded_of_change_and (C:=Tryz.checked) (X:=fun w _=>laidMetH Tryz.prog laidT w) (fun _ _ _ hh h=>h.of_heap hh) own started (by kernel_rfl) Tryz.func8
    (ChangeSpec.witness_shaped (enc:=enc) (C:=Tryz.checked) (os:=os) (X:=fun w _=>laidMetH Tryz.prog laidT w) false (World.doorLaid Tryz.prog 400 os) #[.slice none 0 0,.int .i64 0,.int .i64 0,.agg #[.int .i64 0,.int .i64 0,.int .i64 0],.agg #[.int .i64 0,.int .i64 0,.int .i64 0]] 8 rfl (World.shaped_of_RefB (by kernel_rfl) (by kernel_rfl)) (by kernel_rfl) (by kernel_rfl) (by kernel_rfl) (door_met os _)) ?_
  intro W base args ds gs before hval0 hW hcnd _ hL _;have hval:∀ (j:Nat) t v,Tryz.f8.params[j]? = some t→args[j]? = some v→Value.okWide Tryz.prog W .any base t v:=hval0;have hW':=hW;obtain ⟨p,q,hA0,hV,rfl,hfz,hnd⟩:=hW;have hA:DataW.TrodAll enc Tryz.prog W 0 (fun _=>true) true Tryz.f8.params.toList args.toList ds p:=hA0;rw [Tryz.params8] at hA hval;obtain ⟨v0,vs0,d0,ds0,p0,q0,hargs,rfl,rfl,h0,r0⟩:=trodAll_cons hA;obtain ⟨v1,vs1,d1,ds1,p1,q1,rfl,rfl,rfl,h1,r1⟩:=trodAll_cons r0;obtain ⟨v2,vs2,d2,ds2,p2,q2,rfl,rfl,rfl,h2,r2⟩:=trodAll_cons r1;obtain ⟨v3,vs3,d3,ds3,p3,q3,rfl,rfl,rfl,h3,r3⟩:=trodAll_cons r2;obtain ⟨v4,vs4,d4,ds4,p4,q4,rfl,rfl,rfl,h4,r4⟩:=trodAll_cons r3;obtain ⟨rfl,rfl,rfl⟩:=trodAll_nil r4
  obtain rfl:args = #[v0,v1,v2,v3,v4]:=by cases args;simp_all
  obtain ⟨rfl,rfl⟩:=trodVars_none hV;obtain ⟨l0,hl0⟩:=p6_ (e:=iD) Tryz.underlying26 lz_69 (by kernel_rfl) (fun _ h=>rI_ h) (hval 0 26 v0 rfl rfl) h0;have k0:=h0
  have lt0:∀ x∈p0,x.block<W.heap.size:=by obtain ⟨m,hm⟩:=k0;exact DataW.trod_lt m _ _ _ hm
  obtain ⟨x1_0,rfl,hb1⟩:=st_ Tryz.underlying3 (hval 1 3 v1 rfl rfl);have k1:=h1
  have lt1:∀ x∈p1,x.block<W.heap.size:=by obtain ⟨m,hm⟩:=k1;exact DataW.trod_lt m _ _ _ hm
  obtain ⟨x2_0,rfl,hb2⟩:=st_ Tryz.underlying3 (hval 2 3 v2 rfl rfl);have k2:=h2
  have lt2:∀ x∈p2,x.block<W.heap.size:=by obtain ⟨m,hm⟩:=k2;exact DataW.trod_lt m _ _ _ hm
  obtain ⟨cs3,rfl⟩:=p4_ ia_23 (hval 3 23 v3 rfl rfl);have k3:=h3
  have lt3:∀ x∈p3,x.block<W.heap.size:=by obtain ⟨m,hm⟩:=k3;exact DataW.trod_lt m _ _ _ hm
  have w3:LWF cs3 ([some .i64] ++ ([some .i64] ++ [some .i64])):=su_ lz_23 h3;obtain ⟨c3_0,e3_0,rfl,u3_0,w3_0⟩:=LWF.split w3;obtain ⟨x3_0,rfl⟩:=WM u3_0;obtain ⟨c3_1,e3_1,rfl,u3_1,w3_1⟩:=LWF.split w3_0;obtain ⟨x3_1,rfl⟩:=WM u3_1;obtain ⟨x3_2,rfl⟩:=WM w3_1;obtain ⟨cs4,rfl⟩:=p4_ ia_23 (hval 4 23 v4 rfl rfl);have k4:=h4
  have lt4:∀ x∈p4,x.block<W.heap.size:=by obtain ⟨m,hm⟩:=k4;exact DataW.trod_lt m _ _ _ hm
  have w4:LWF cs4 ([some .i64] ++ ([some .i64] ++ [some .i64])):=su_ lz_23 h4;obtain ⟨c4_0,e4_0,rfl,u4_0,w4_0⟩:=LWF.split w4;obtain ⟨x4_0,rfl⟩:=WM u4_0;obtain ⟨c4_1,e4_1,rfl,u4_1,w4_1⟩:=LWF.split w4_0;obtain ⟨x4_1,rfl⟩:=WM u4_1;obtain ⟨x4_2,rfl⟩:=WM w4_1;clear hA0 hval0;refine (NU _ l0 ⟨x1_0,sq_ hb1⟩ ⟨x2_0,sq_ hb2⟩ ⟨x3_0,x3_1,x3_2⟩ ⟨x4_0,x4_1,x4_2⟩ W hl0).mono fun e W' ⟨he,bel⟩=>?_;rw [hL_] at he;subst he;exact ⟨_,rfl,_,_,_,[],_,[],hW',trodAll_mk1 (shut_bool Tryz.underlying4 _),(trodAll_cons_mk (Below.trod sr_ (by kernel_rfl) (of_decide_eq_true (by kernel_rfl)) k0 bel lt0) (trodAll_cons_mk (Below.trod sr_ (by kernel_rfl) (of_decide_eq_true (by kernel_rfl)) k1 bel lt1) (trodAll_cons_mk (Below.trod sr_ (by kernel_rfl) (of_decide_eq_true (by kernel_rfl)) k2 bel lt2) (trodAll_cons_mk (Below.trod sr_ (by kernel_rfl) (of_decide_eq_true (by kernel_rfl)) k3 bel lt3) (trodAll_cons_mk (Below.trod sr_ (by kernel_rfl) (of_decide_eq_true (by kernel_rfl)) k4 bel lt4) trodAll_mk0))))),rfl,bel.frame _,fun h=>by cases h⟩
theorem fourF:((Rows.ropeLiftsAsSpecifiedRow.inPlace==Tryz.prog.inPlace 8)&&(Rows.ropeLiftsAsSpecifiedRow.unfollowed==Tryz.prog.unfollowed 8)&&(Rows.ropeLiftsAsSpecifiedRow.recurses==Tryz.prog.recurses 8)&&(Rows.ropeLiftsAsSpecifiedRow.named==Tryz.prog.varsNamed 8))=true:=by kernel_rfl
theorem joinedF:joinedFacts Tryz.prog 8 Tryz.f8 Rows.ropeLiftsAsSpecifiedSpec Rows.ropeLiftsAsSpecifiedRow=true:=by
  have h:=fourF;simp only [Bool.and_eq_true] at h;obtain ⟨⟨⟨a,b⟩,c⟩,d⟩:=h;unfold joinedFacts;rw [sr_,sT_.2.2.2.2.2,a,b,c,d,show (Rows.ropeLiftsAsSpecifiedRow.plainKeys==Tryz.prog.plainKeys)=true from sT_.2.2.2.2.1,sT_.2.2.2.1,sT_.1,show (Rows.ropeLiftsAsSpecifiedRow.lifted==Tryz.prog.liftsFinal)=true from sT_.2.1,show (Tryz.prog.make==some Rows.ropeLiftsAsSpecifiedRow.make)=true from sT_.2.2.1]
  decide +kernel
theorem goesF:false=Rows.ropeLiftsAsSpecifiedRow.goesBy Tryz.prog:=by kernel_rfl
theorem holds:Rows.RopeLiftsAsSpecifiedSaid :=
  OpenClaim.holds_of_wide 8 Tryz.f8 rfl rfl rfl rfl rfl rfl rfl ⟨rfl,rfl,rfl,rfl,rfl⟩ rfl rfl rfl rfl rfl (by kernel_rfl) Tryz.func8 joinedF
    (of_decide_eq_true (by kernel_rfl)) (by unfold Func.isWrapper;first | (rw [if_pos (by decide +kernel)];kernel_rfl) | (rw [if_neg (by decide +kernel)];exact ⟨rfl,rfl⟩))
    (fun os started H enc _=>lifted os started H enc)
#print axioms holds
theorem card_holds:Rows.RopeLiftsAsSpecifiedCardSaid :=
  Claim7.holds_tied_plain_at .later [] [.data] true (true, "879c469cb3889b55bc4815716d36c3d07d60e8caae4b02f49b842c0ef3e5c4dc") false
    holds (fun _ h=>by cases h) (by kernel_rfl) (fun _ h=>by cases h) ropeLiftsAsSpecified_row_tie rfl ⟨rfl,rfl⟩ sV_ rfl
    (fun f fn hf hfn=>by
      obtain rfl : f = 8 := Option.some.inj ((show Tryz.prog.funcNamed "skewback/skewbacklaw26.RopeLiftsAsSpecified" = some 8 by kernel_rfl).symm.trans hf) |>.symm
      obtain rfl:fn=Tryz.f8:=(Option.some.inj (Tryz.func8.symm.trans hfn)).symm
      exact ⟨sD_,fun j t ht=>by
        rw [Tryz.params8] at ht
        have hm:t∈[3,23,26]:=by
          have h1:=Array.mem_of_getElem? ht
          simp at h1 ⊢
          grind
        have hall:([3,23,26].all fun u=>!Tryz.prog.wantsStandIn u)=true:=by kernel_rfl
        exact (show Tryz.prog.wantsStandIn t=false by simpa using List.all_eq_true.1 hall t hm)⟩)
    goesF
#print axioms card_holds
end Go.Proofs.YtkjjponijamaoaaGreatDoor

