/- RopeColumnsMatchSpec returns true for every input and changes none (the card: its table of math/bits is as laid). Conditions: none. -/
import Derived.Test.YtkjjponijamaoaaGreatDoorYHq
import Derived.Test.YtkjjponijamaoaaGreatDoorYH2xOl
set_option linter.unusedSimpArgs false
set_option linter.unusedVariables false
set_option maxRecDepth 100000
namespace Go.Proofs.YtkjjponijamaoaaGreatDoor
open Go.Kn Go.Num Go.ChangeShapes Go.WideShapes Go.ChangeAt Go.RowKit
theorem lz_35:lz Tryz.prog 8 35=some (LI ++ (LI ++ (LI ++ (LI ++ (LI ++ LI))))):=by kernel_rfl
theorem ia_35:jz_ Tryz.prog 35=true:=by kernel_rfl
theorem lz_37:lz Tryz.prog 8 37=some ([some .i64] ++ ([some .i64] ++ (LI ++ (LI ++ (LI ++ (LI ++ (LI ++ (LI ++ (LI ++ (LI ++ (LI ++ (LI ++ (LI ++ LI))))))))))))):=by kernel_rfl
theorem ia_37:jz_ Tryz.prog 37=true:=by kernel_rfl
def zI:Nat→List Value
  | 0=>[]
  | n+1=>[.bool false,.bool false] ++ List.replicate 16 (.int .u32 0) ++ zI n
def laidT : List (String × DataW Unit) := [("math/bits.deBruijn32tab", Rows.laid_math_bits_deBruijn32tab)]
theorem door_met (os:Os) (args:Array Value):laidMetH Tryz.prog laidT ((World.doorLaid Tryz.prog 400 os).forCall (fun _ _=>0) ⟨#[],args,[]⟩).memory :=
  laidMetH_of_parts3 (fuel:=8) (laidMet_of_run' 8 (by kernel_rfl) (by kernel_rfl)) (by kernel_rfl) (by kernel_rfl)
theorem lifted (os:Os) (started:os.Started) (H:Type) (enc:TypeId×Value→H) :
    ReturnsInHanded {} Tryz.checked os 4 .any (fun w args=>(Rows.ropeColumnsMatchSpecSpec.pre enc Tryz.prog Tryz.f4 [] false w args∧laidMetH Tryz.prog laidT w)∧sizedMet enc Tryz.prog Tryz.f4 (OpenSpec.ofChange Rows.ropeColumnsMatchSpecSpec) false w args) (Rows.ropeColumnsMatchSpecSpec.post enc Tryz.prog Tryz.f4 false true false false):=by
  refine returnsInHanded_of_change_and (C:=Tryz.checked) (X:=fun w _=>laidMetH Tryz.prog laidT w) (fun _ _ _ hh h=>h.of_heap hh) own started (by kernel_rfl) Tryz.func4
    (ChangeSpec.witness_shaped (enc:=enc) (C:=Tryz.checked) (os:=os) (X:=fun w _=>laidMetH Tryz.prog laidT w) false (World.doorLaid Tryz.prog 400 os) #[.agg (List.toArray ([.int .i64 0,.int .i64 0] ++ zI 12)),.agg (List.toArray (zI 6))] 8 rfl (World.shaped_of_RefB (by kernel_rfl) (by kernel_rfl)) (by kernel_rfl) (by kernel_rfl) (by kernel_rfl) (door_met os _)) ?_
  intro W base args ds gs before hval0 hW hcnd _ hL _;have hval:∀ (j:Nat) t v,Tryz.f4.params[j]? = some t→args[j]? = some v→Value.okWide Tryz.prog W .any base t v:=hval0;have hW':=hW;obtain ⟨p,q,hA0,hV,rfl,hfz,hnd⟩:=hW;have hA:DataW.TrodAll enc Tryz.prog W 0 (fun _=>true) true Tryz.f4.params.toList args.toList ds p:=hA0;rw [Tryz.params4] at hA hval;obtain ⟨v0,vs0,d0,ds0,p0,q0,hargs,rfl,rfl,h0,r0⟩:=trodAll_cons hA;obtain ⟨v1,vs1,d1,ds1,p1,q1,rfl,rfl,rfl,h1,r1⟩:=trodAll_cons r0;obtain ⟨rfl,rfl,rfl⟩:=trodAll_nil r1
  obtain rfl:args = #[v0,v1]:=by cases args;simp_all
  obtain ⟨rfl,rfl⟩:=trodVars_none hV;obtain ⟨cs0,rfl⟩:=p4_ ia_37 (hval 0 37 v0 rfl rfl);have k0:=h0
  have lt0:∀ x∈p0,x.block<W.heap.size:=by obtain ⟨m,hm⟩:=k0;exact DataW.trod_lt m _ _ _ hm
  have w0:LWF cs0 ([some .i64] ++ ([some .i64] ++ (LI ++ (LI ++ (LI ++ (LI ++ (LI ++ (LI ++ (LI ++ (LI ++ (LI ++ (LI ++ (LI ++ LI))))))))))))):=su_ lz_37 h0;obtain ⟨c0_0,e0_0,rfl,u0_0,w0_0⟩:=LWF.split w0;obtain ⟨x0_0,rfl⟩:=WM u0_0;obtain ⟨c0_1,e0_1,rfl,u0_1,w0_1⟩:=LWF.split w0_0;obtain ⟨x0_1,rfl⟩:=WM u0_1;obtain ⟨c0_2,e0_2,rfl,u0_2,w0_2⟩:=LWF.split w0_1;obtain ⟨x0_2,rfl⟩:=nK_ u0_2;obtain ⟨c0_3,e0_3,rfl,u0_3,w0_3⟩:=LWF.split w0_2;obtain ⟨x0_3,rfl⟩:=nK_ u0_3;obtain ⟨c0_4,e0_4,rfl,u0_4,w0_4⟩:=LWF.split w0_3;obtain ⟨x0_4,rfl⟩:=nK_ u0_4;obtain ⟨c0_5,e0_5,rfl,u0_5,w0_5⟩:=LWF.split w0_4;obtain ⟨x0_5,rfl⟩:=nK_ u0_5;obtain ⟨c0_6,e0_6,rfl,u0_6,w0_6⟩:=LWF.split w0_5;obtain ⟨x0_6,rfl⟩:=nK_ u0_6;obtain ⟨c0_7,e0_7,rfl,u0_7,w0_7⟩:=LWF.split w0_6;obtain ⟨x0_7,rfl⟩:=nK_ u0_7;obtain ⟨c0_8,e0_8,rfl,u0_8,w0_8⟩:=LWF.split w0_7;obtain ⟨x0_8,rfl⟩:=nK_ u0_8;obtain ⟨c0_9,e0_9,rfl,u0_9,w0_9⟩:=LWF.split w0_8;obtain ⟨x0_9,rfl⟩:=nK_ u0_9;obtain ⟨c0_10,e0_10,rfl,u0_10,w0_10⟩:=LWF.split w0_9;obtain ⟨x0_10,rfl⟩:=nK_ u0_10;obtain ⟨c0_11,e0_11,rfl,u0_11,w0_11⟩:=LWF.split w0_10;obtain ⟨x0_11,rfl⟩:=nK_ u0_11;obtain ⟨c0_12,e0_12,rfl,u0_12,w0_12⟩:=LWF.split w0_11;obtain ⟨x0_12,rfl⟩:=nK_ u0_12;obtain ⟨x0_13,rfl⟩:=nK_ w0_12;obtain ⟨cs1,rfl⟩:=p4_ ia_35 (hval 1 35 v1 rfl rfl);have k1:=h1
  have lt1:∀ x∈p1,x.block<W.heap.size:=by obtain ⟨m,hm⟩:=k1;exact DataW.trod_lt m _ _ _ hm
  have w1:LWF cs1 (LI ++ (LI ++ (LI ++ (LI ++ (LI ++ LI))))):=su_ lz_35 h1;obtain ⟨c1_0,e1_0,rfl,u1_0,w1_0⟩:=LWF.split w1;obtain ⟨x1_0,rfl⟩:=nK_ u1_0;obtain ⟨c1_1,e1_1,rfl,u1_1,w1_1⟩:=LWF.split w1_0;obtain ⟨x1_1,rfl⟩:=nK_ u1_1;obtain ⟨c1_2,e1_2,rfl,u1_2,w1_2⟩:=LWF.split w1_1;obtain ⟨x1_2,rfl⟩:=nK_ u1_2;obtain ⟨c1_3,e1_3,rfl,u1_3,w1_3⟩:=LWF.split w1_2;obtain ⟨x1_3,rfl⟩:=nK_ u1_3;obtain ⟨c1_4,e1_4,rfl,u1_4,w1_4⟩:=LWF.split w1_3;obtain ⟨x1_4,rfl⟩:=nK_ u1_4;obtain ⟨x1_5,rfl⟩:=nK_ w1_4;clear hA0 hval0;refine (NT ⟨x0_0,x0_1,⟨⟨x0_2,x0_3⟩,⟨x0_4,x0_5⟩,⟨x0_6,x0_7⟩⟩,⟨⟨x0_8,x0_9⟩,⟨x0_10,x0_11⟩,⟨x0_12,x0_13⟩⟩⟩ ⟨⟨x1_0,x1_1⟩,⟨x1_2,x1_3⟩,⟨x1_4,x1_5⟩⟩ W).mono fun e W' ⟨he,bel⟩=>?_;rw [gw_] at he;subst he;exact ⟨_,rfl,_,_,_,[],_,[],hW',trodAll_mk1 (shut_bool Tryz.underlying4 _),(trodAll_cons_mk (Below.trod sr_ (by kernel_rfl) (of_decide_eq_true (by kernel_rfl)) k0 bel lt0) (trodAll_cons_mk (Below.trod sr_ (by kernel_rfl) (of_decide_eq_true (by kernel_rfl)) k1 bel lt1) trodAll_mk0)),rfl,bel.frame _,fun h=>by cases h⟩
theorem fourF:((Rows.ropeColumnsMatchSpecRow.inPlace==Tryz.prog.inPlace 4)&&(Rows.ropeColumnsMatchSpecRow.unfollowed==Tryz.prog.unfollowed 4)&&(Rows.ropeColumnsMatchSpecRow.recurses==Tryz.prog.recurses 4)&&(Rows.ropeColumnsMatchSpecRow.named==Tryz.prog.varsNamed 4))=true:=by kernel_rfl
theorem joinedF:joinedFacts Tryz.prog 4 Tryz.f4 Rows.ropeColumnsMatchSpecSpec Rows.ropeColumnsMatchSpecRow=true:=by
  have h:=fourF;simp only [Bool.and_eq_true] at h;obtain ⟨⟨⟨a,b⟩,c⟩,d⟩:=h;unfold joinedFacts;rw [sr_,sT_.2.2.2.2.2,a,b,c,d,show (Rows.ropeColumnsMatchSpecRow.plainKeys==Tryz.prog.plainKeys)=true from sT_.2.2.2.2.1,sT_.2.2.2.1,sT_.1,show (Rows.ropeColumnsMatchSpecRow.lifted==Tryz.prog.liftsFinal)=true from sT_.2.1,show (Tryz.prog.make==some Rows.ropeColumnsMatchSpecRow.make)=true from sT_.2.2.1]
  decide +kernel
theorem goesF:false=Rows.ropeColumnsMatchSpecRow.goesBy Tryz.prog:=by kernel_rfl
theorem holds:Rows.RopeColumnsMatchSpecSaid :=
  OpenClaim.holds_of_wide 4 Tryz.f4 rfl rfl rfl rfl rfl rfl rfl ⟨rfl,rfl,rfl,rfl,rfl⟩ rfl rfl rfl rfl rfl (by kernel_rfl) Tryz.func4 joinedF
    (of_decide_eq_true (by kernel_rfl)) (by unfold Func.isWrapper;first | (rw [if_pos (by decide +kernel)];kernel_rfl) | (rw [if_neg (by decide +kernel)];exact ⟨rfl,rfl⟩))
    (fun os started H enc _=>lifted os started H enc)
theorem card_holds:Rows.RopeColumnsMatchSpecCardSaid :=
  Claim7.holds_tied_plain_at .later [] [.data] true (true, "879c469cb3889b55bc4815716d36c3d07d60e8caae4b02f49b842c0ef3e5c4dc") false
    holds (fun _ h=>by cases h) (by kernel_rfl) (fun _ h=>by cases h) ropeColumnsMatchSpec_row_tie rfl ⟨rfl,rfl⟩ sV_ rfl
    (fun f fn hf hfn=>by
      obtain rfl : f = 4 := Option.some.inj ((show Tryz.prog.funcNamed "skewback/skewbacklaw26.RopeColumnsMatchSpec" = some 4 by kernel_rfl).symm.trans hf) |>.symm
      obtain rfl:fn=Tryz.f4:=(Option.some.inj (Tryz.func4.symm.trans hfn)).symm
      exact ⟨sD_,fun j t ht=>by
        rw [Tryz.params4] at ht
        have hm:t∈[35,37]:=by
          have h1:=Array.mem_of_getElem? ht
          simp at h1 ⊢
          grind
        have hall:([35,37].all fun u=>!Tryz.prog.wantsStandIn u)=true:=by kernel_rfl
        exact (show Tryz.prog.wantsStandIn t=false by simpa using List.all_eq_true.1 hall t hm)⟩)
    goesF
end Go.Proofs.YtkjjponijamaoaaGreatDoor

