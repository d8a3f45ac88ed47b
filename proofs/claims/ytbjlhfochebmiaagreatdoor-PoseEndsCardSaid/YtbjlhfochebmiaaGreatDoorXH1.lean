/- The Go function skewbacklaw14.PoseEnds returns true for every input, and leaves its arguments as they were (the card: the table of math/bits is as the program's text lays it; the code never reads it). Conditions: none. -/
import Derived.Test.YtbjlhfochebmiaaGreatDoorXHq
import Derived.Test.YtbjlhfochebmiaaGreatDoorXRs
set_option linter.unusedSimpArgs false
set_option linter.unusedVariables false
set_option maxRecDepth 100000
namespace Go.Proofs.YtbjlhfochebmiaaGreatDoor
open Go.Kn Go.Num Go.ChangeShapes Go.WideShapes Go.ChangeAt Go.RowKit
theorem lz_23:lz Tryz.prog 8 23=some ([some .i64] ++ ([some .i64] ++ [some .i64])):=by kernel_rfl
theorem ia_23:R6 Tryz.prog 23=true:=by kernel_rfl
theorem lz_29:lz Tryz.prog 8 29=some ([some .i64] ++ ([some .i64] ++ ([some .i64] ++ ([some .i64] ++ ([some .i64] ++ ([some .i64] ++ ([some .i64] ++ ([some .i64] ++ ([some .i64] ++ ([some .i64] ++ ([some .i64] ++ ([some .i64] ++ ([some .i64] ++ [some .i64]))))))))))))):=by kernel_rfl
theorem ia_29:R6 Tryz.prog 29=true:=by kernel_rfl
theorem lz_35:lz Tryz.prog 8 35=some (LI ++ LI):=by kernel_rfl
theorem ia_35:R6 Tryz.prog 35=true:=by kernel_rfl
def zI:Nat→List Value
  | 0=>[]
  | n+1=>[.bool false,.bool false] ++ List.replicate 16 (.int .u32 0) ++ zI n
def laidT : List (String × DataW Unit) := [("math/bits.deBruijn32tab", Rows.laid_math_bits_deBruijn32tab)]
theorem door_met (os:Os) (args:Array Value):laidMetH Tryz.prog laidT ((World.doorLaid Tryz.prog 400 os).forCall (fun _ _=>0) ⟨#[],args,[]⟩).memory :=
  laidMetH_of_parts3 (fuel:=8) (laidMet_of_run' 8 (by kernel_rfl) (by kernel_rfl)) (by kernel_rfl) (by kernel_rfl)
theorem lifted (os:Os) (started:os.Started) (H:Type) (enc:TypeId×Value→H) :
    ReturnsInHanded {} Tryz.checked os 3 .any (fun w args=>(Rows.poseEndsSpec.pre enc Tryz.prog Tryz.f3 [] false w args∧laidMetH Tryz.prog laidT w)∧sizedMet enc Tryz.prog Tryz.f3 (OpenSpec.ofChange Rows.poseEndsSpec) false w args) (Rows.poseEndsSpec.post enc Tryz.prog Tryz.f3 false true false false):=by
  refine returnsInHanded_of_change_and (C:=Tryz.checked) (X:=fun w _=>laidMetH Tryz.prog laidT w) (fun _ _ _ hh h=>h.of_heap hh) own started (by kernel_rfl) Tryz.func3
    (ChangeSpec.witness_shaped (enc:=enc) (C:=Tryz.checked) (os:=os) (X:=fun w _=>laidMetH Tryz.prog laidT w) false (World.doorLaid Tryz.prog 400 os) #[.agg #[.int .i64 0,.int .i64 0,.int .i64 0,.int .i64 0,.int .i64 0,.int .i64 0,.int .i64 0,.int .i64 0,.int .i64 0,.int .i64 0,.int .i64 0,.int .i64 0,.int .i64 0,.int .i64 0],.agg #[.int .i64 0,.int .i64 0,.int .i64 0],.agg (List.toArray (zI 2))] 8 rfl (World.shaped_of_RefB (by kernel_rfl) (by kernel_rfl)) (by kernel_rfl) (by kernel_rfl) (by kernel_rfl) (door_met os _)) ?_
  intro W base args ds gs before hval0 hW hcnd _ hL _;have hval:∀ (j:Nat) t v,Tryz.f3.params[j]? = some t→args[j]? = some v→Value.okWide Tryz.prog W .any base t v:=hval0;have hW':=hW;obtain ⟨p,q,hA0,hV,rfl,hfz,hnd⟩:=hW;have hA:DataW.TrodAll enc Tryz.prog W 0 (fun _=>true) true Tryz.f3.params.toList args.toList ds p:=hA0;rw [Tryz.params3] at hA hval;obtain ⟨v0,vs0,d0,ds0,p0,q0,hargs,rfl,rfl,h0,r0⟩:=trodAll_cons hA;obtain ⟨v1,vs1,d1,ds1,p1,q1,rfl,rfl,rfl,h1,r1⟩:=trodAll_cons r0;obtain ⟨v2,vs2,d2,ds2,p2,q2,rfl,rfl,rfl,h2,r2⟩:=trodAll_cons r1;obtain ⟨rfl,rfl,rfl⟩:=trodAll_nil r2
  obtain rfl:args = #[v0,v1,v2]:=by cases args;simp_all
  obtain ⟨rfl,rfl⟩:=trodVars_none hV;obtain ⟨cs0,rfl⟩:=aw_ ia_29 (hval 0 29 v0 rfl rfl);have k0:=h0
  have lt0:∀ x∈p0,x.block<W.heap.size:=by obtain ⟨m,hm⟩:=k0;exact DataW.trod_lt m _ _ _ hm
  have w0:LWF cs0 ([some .i64] ++ ([some .i64] ++ ([some .i64] ++ ([some .i64] ++ ([some .i64] ++ ([some .i64] ++ ([some .i64] ++ ([some .i64] ++ ([some .i64] ++ ([some .i64] ++ ([some .i64] ++ ([some .i64] ++ ([some .i64] ++ [some .i64]))))))))))))):=cS_ lz_29 h0;obtain ⟨c0_0,e0_0,rfl,u0_0,w0_0⟩:=LWF.split w0;obtain ⟨x0_0,rfl⟩:=du_ u0_0;obtain ⟨c0_1,e0_1,rfl,u0_1,w0_1⟩:=LWF.split w0_0;obtain ⟨x0_1,rfl⟩:=du_ u0_1;obtain ⟨c0_2,e0_2,rfl,u0_2,w0_2⟩:=LWF.split w0_1;obtain ⟨x0_2,rfl⟩:=du_ u0_2;obtain ⟨c0_3,e0_3,rfl,u0_3,w0_3⟩:=LWF.split w0_2;obtain ⟨x0_3,rfl⟩:=du_ u0_3;obtain ⟨c0_4,e0_4,rfl,u0_4,w0_4⟩:=LWF.split w0_3;obtain ⟨x0_4,rfl⟩:=du_ u0_4;obtain ⟨c0_5,e0_5,rfl,u0_5,w0_5⟩:=LWF.split w0_4;obtain ⟨x0_5,rfl⟩:=du_ u0_5;obtain ⟨c0_6,e0_6,rfl,u0_6,w0_6⟩:=LWF.split w0_5;obtain ⟨x0_6,rfl⟩:=du_ u0_6;obtain ⟨c0_7,e0_7,rfl,u0_7,w0_7⟩:=LWF.split w0_6;obtain ⟨x0_7,rfl⟩:=du_ u0_7;obtain ⟨c0_8,e0_8,rfl,u0_8,w0_8⟩:=LWF.split w0_7;obtain ⟨x0_8,rfl⟩:=du_ u0_8;obtain ⟨c0_9,e0_9,rfl,u0_9,w0_9⟩:=LWF.split w0_8;obtain ⟨x0_9,rfl⟩:=du_ u0_9;obtain ⟨c0_10,e0_10,rfl,u0_10,w0_10⟩:=LWF.split w0_9;obtain ⟨x0_10,rfl⟩:=du_ u0_10;obtain ⟨c0_11,e0_11,rfl,u0_11,w0_11⟩:=LWF.split w0_10;obtain ⟨x0_11,rfl⟩:=du_ u0_11;obtain ⟨c0_12,e0_12,rfl,u0_12,w0_12⟩:=LWF.split w0_11;obtain ⟨x0_12,rfl⟩:=du_ u0_12;obtain ⟨x0_13,rfl⟩:=du_ w0_12;obtain ⟨cs1,rfl⟩:=aw_ ia_23 (hval 1 23 v1 rfl rfl);have k1:=h1
  have lt1:∀ x∈p1,x.block<W.heap.size:=by obtain ⟨m,hm⟩:=k1;exact DataW.trod_lt m _ _ _ hm
  have w1:LWF cs1 ([some .i64] ++ ([some .i64] ++ [some .i64])):=cS_ lz_23 h1;obtain ⟨c1_0,e1_0,rfl,u1_0,w1_0⟩:=LWF.split w1;obtain ⟨x1_0,rfl⟩:=du_ u1_0;obtain ⟨c1_1,e1_1,rfl,u1_1,w1_1⟩:=LWF.split w1_0;obtain ⟨x1_1,rfl⟩:=du_ u1_1;obtain ⟨x1_2,rfl⟩:=du_ w1_1;obtain ⟨cs2,rfl⟩:=aw_ ia_35 (hval 2 35 v2 rfl rfl);have k2:=h2
  have lt2:∀ x∈p2,x.block<W.heap.size:=by obtain ⟨m,hm⟩:=k2;exact DataW.trod_lt m _ _ _ hm
  have w2:LWF cs2 (LI ++ LI):=cS_ lz_35 h2;obtain ⟨c2_0,e2_0,rfl,u2_0,w2_0⟩:=LWF.split w2;obtain ⟨x2_0,rfl⟩:=dt_ u2_0;obtain ⟨x2_1,rfl⟩:=dt_ w2_0;clear hA0 hval0;refine (D0 ⟨⟨⟨x0_0,x0_1,x0_2⟩,⟨x0_3,x0_4,x0_5,x0_6⟩⟩,⟨⟨x0_7,x0_8,x0_9⟩,⟨x0_10,x0_11,x0_12,x0_13⟩⟩⟩ ⟨x1_0,x1_1,x1_2⟩ ⟨x2_0,x2_1⟩ W).mono fun e W' ⟨he,bel⟩=>?_;rw [UC ch_] at he;subst he;exact ⟨_,rfl,_,_,_,[],_,[],hW',trodAll_mk1 (shut_bool Tryz.underlying4 _),(trodAll_cons_mk (Below.trod cR_ (by kernel_rfl) (of_decide_eq_true (by kernel_rfl)) k0 bel lt0) (trodAll_cons_mk (Below.trod cR_ (by kernel_rfl) (of_decide_eq_true (by kernel_rfl)) k1 bel lt1) (trodAll_cons_mk (Below.trod cR_ (by kernel_rfl) (of_decide_eq_true (by kernel_rfl)) k2 bel lt2) trodAll_mk0))),rfl,bel.frame _,fun h=>by cases h⟩
theorem fourF:((Rows.poseEndsRow.inPlace==Tryz.prog.inPlace 3)&&(Rows.poseEndsRow.unfollowed==Tryz.prog.unfollowed 3)&&(Rows.poseEndsRow.recurses==Tryz.prog.recurses 3)&&(Rows.poseEndsRow.named==Tryz.prog.varsNamed 3))=true:=by kernel_rfl
theorem joinedF:joinedFacts Tryz.prog 3 Tryz.f3 Rows.poseEndsSpec Rows.poseEndsRow=true:=by
  have h:=fourF;simp only [Bool.and_eq_true] at h;obtain ⟨⟨⟨a,b⟩,c⟩,d⟩:=h;unfold joinedFacts;rw [cR_,dp_.2.2.2.2.2,a,b,c,d,show (Rows.poseEndsRow.plainKeys==Tryz.prog.plainKeys)=true from dp_.2.2.2.2.1,dp_.2.2.2.1,dp_.1,show (Rows.poseEndsRow.lifted==Tryz.prog.liftsFinal)=true from dp_.2.1,show (Tryz.prog.make==some Rows.poseEndsRow.make)=true from dp_.2.2.1]
  decide +kernel
theorem goesF:false=Rows.poseEndsRow.goesBy Tryz.prog:=by kernel_rfl
theorem holds:Rows.PoseEndsSaid :=
  OpenClaim.holds_of_wide 3 Tryz.f3 rfl rfl rfl rfl rfl rfl rfl ⟨rfl,rfl,rfl,rfl,rfl⟩ rfl rfl rfl rfl rfl (by kernel_rfl) Tryz.func3 joinedF
    (of_decide_eq_true (by kernel_rfl)) (by unfold Func.isWrapper;first | (rw [if_pos (by decide +kernel)];kernel_rfl) | (rw [if_neg (by decide +kernel)];exact ⟨rfl,rfl⟩))
    (fun os started H enc _=>lifted os started H enc)
#print axioms holds
theorem card_holds:Rows.PoseEndsCardSaid :=
  Claim7.holds_tied_plain_at .later [] [.data] true (true, "91f3d83de141079e5f04c79cdc66b804f5c34474148b6dff211b814160ce89f9") false
    holds (fun _ h=>by cases h) (by kernel_rfl) (fun _ h=>by cases h) poseEnds_row_tie rfl ⟨rfl,rfl⟩ ds_ rfl
    (fun f fn hf hfn=>by
      obtain rfl : f = 3 := Option.some.inj ((show Tryz.prog.funcNamed "skewback/skewbacklaw14.PoseEnds" = some 3 by kernel_rfl).symm.trans hf) |>.symm
      obtain rfl:fn=Tryz.f3:=(Option.some.inj (Tryz.func3.symm.trans hfn)).symm
      exact ⟨dc_,fun j t ht=>by
        rw [Tryz.params3] at ht
        have hm:t∈[23,29,35]:=by
          have h1:=Array.mem_of_getElem? ht
          simp at h1 ⊢
          grind
        have hall:([23,29,35].all fun u=>!Tryz.prog.wantsStandIn u)=true:=by kernel_rfl
        exact (show Tryz.prog.wantsStandIn t=false by simpa using List.all_eq_true.1 hall t hm)⟩)
    goesF
#print axioms card_holds
end Go.Proofs.YtbjlhfochebmiaaGreatDoor

