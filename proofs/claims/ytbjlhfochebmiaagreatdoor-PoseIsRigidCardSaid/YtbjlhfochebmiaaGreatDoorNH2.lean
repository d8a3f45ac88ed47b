/- PoseIsRigid returns true for every input and changes none (the card: its table of math/bits is as laid). Conditions: none. -/
import Derived.Test.YtbjlhfochebmiaaGreatDoorNHq
import Derived.Test.YtbjlhfochebmiaaGreatDoorNH2xQb
set_option linter.unusedSimpArgs false
set_option linter.unusedVariables false
set_option maxRecDepth 100000
namespace Go.Proofs.YtbjlhfochebmiaaGreatDoor
open Go.Kn Go.Num Go.ChangeShapes Go.WideShapes Go.ChangeAt Go.RowKit
theorem lz_23:lz Tryz.prog 8 23=some ([some .i64] ++ ([some .i64] ++ [some .i64])):=by kernel_rfl
theorem ia_23:X4 Tryz.prog 23=true:=by kernel_rfl
theorem lz_29:lz Tryz.prog 8 29=some ([some .i64] ++ ([some .i64] ++ ([some .i64] ++ ([some .i64] ++ ([some .i64] ++ ([some .i64] ++ ([some .i64] ++ ([some .i64] ++ ([some .i64] ++ ([some .i64] ++ ([some .i64] ++ ([some .i64] ++ ([some .i64] ++ [some .i64]))))))))))))):=by kernel_rfl
theorem ia_29:X4 Tryz.prog 29=true:=by kernel_rfl
theorem lz_35:lz Tryz.prog 8 35=some (LI ++ LI):=by kernel_rfl
theorem ia_35:X4 Tryz.prog 35=true:=by kernel_rfl
def zI:Nat→List Value
 | 0=>[]
 | n+1=>[.bool false,.bool false] ++ List.replicate 16 (.int .u32 0) ++ zI n
def laidT : List (String × DataW Unit) := [("math/bits.deBruijn32tab", Rows.laid_math_bits_deBruijn32tab)]
theorem door_met (os:Os) (args:Array Value):laidMetH Tryz.prog laidT ((World.doorLaid Tryz.prog 400 os).forCall (fun _ _=>0) ⟨#[],args,[]⟩).memory :=
 laidMetH_of_parts3 (fuel:=8) (laidMet_of_run' 8 (by kernel_rfl) (by kernel_rfl)) (by kernel_rfl) (by kernel_rfl)
theorem lifted (os:Os) (started:os.Started) (H:Type) (enc:TypeId×Value→H) :
  ReturnsInHanded {} Tryz.checked os 5 .any (fun w args=>(Rows.poseIsRigidSpec.pre enc Tryz.prog Tryz.f5 [] false w args∧laidMetH Tryz.prog laidT w)∧sizedMet enc Tryz.prog Tryz.f5 (OpenSpec.ofChange Rows.poseIsRigidSpec) false w args) (Rows.poseIsRigidSpec.post enc Tryz.prog Tryz.f5 false true false false):=by
 refine returnsInHanded_of_change_and (C:=Tryz.checked) (X:=fun w _=>laidMetH Tryz.prog laidT w) (fun _ _ _ hh h=>h.of_heap hh) own started (by kernel_rfl) Tryz.func5
  (ChangeSpec.witness_shaped (enc:=enc) (C:=Tryz.checked) (os:=os) (X:=fun w _=>laidMetH Tryz.prog laidT w) false (World.doorLaid Tryz.prog 400 os) #[.agg #[.int .i64 0,.int .i64 0,.int .i64 0,.int .i64 0,.int .i64 0,.int .i64 0,.int .i64 0,.int .i64 0,.int .i64 0,.int .i64 0,.int .i64 0,.int .i64 0,.int .i64 0,.int .i64 0],.agg #[.int .i64 0,.int .i64 0,.int .i64 0],.agg #[.int .i64 0,.int .i64 0,.int .i64 0],.agg #[.slice none 0 0],.agg (List.toArray (zI 2))] 8 rfl (World.shaped_of_RefB (by kernel_rfl) (by kernel_rfl)) (by kernel_rfl) (by kernel_rfl) (by kernel_rfl) (door_met os _)) ?_
 intro W base args ds gs before hval0 hW hcnd _ hL _;have hval:∀ (j:Nat) t v,Tryz.f5.params[j]? = some t→args[j]? = some v→Value.okWide Tryz.prog W .any base t v:=hval0;have hW':=hW;obtain ⟨p,q,hA0,hV,rfl,hfz,hnd⟩:=hW;have hA:DataW.TrodAll enc Tryz.prog W 0 (fun _=>true) true Tryz.f5.params.toList args.toList ds p:=hA0;rw [Tryz.params5] at hA hval;obtain ⟨v0,vs0,d0,ds0,p0,q0,hargs,rfl,rfl,h0,r0⟩:=trodAll_cons hA;obtain ⟨v1,vs1,d1,ds1,p1,q1,rfl,rfl,rfl,h1,r1⟩:=trodAll_cons r0;obtain ⟨v2,vs2,d2,ds2,p2,q2,rfl,rfl,rfl,h2,r2⟩:=trodAll_cons r1;obtain ⟨v3,vs3,d3,ds3,p3,q3,rfl,rfl,rfl,h3,r3⟩:=trodAll_cons r2;obtain ⟨v4,vs4,d4,ds4,p4,q4,rfl,rfl,rfl,h4,r4⟩:=trodAll_cons r3;obtain ⟨rfl,rfl,rfl⟩:=trodAll_nil r4
 obtain rfl:args = #[v0,v1,v2,v3,v4]:=by cases args;simp_all
 obtain ⟨rfl,rfl⟩:=trodVars_none hV;obtain ⟨cs0,rfl⟩:=di_ ia_29 (hval 0 29 v0 rfl rfl);have k0:=h0
 have lt0:∀ x∈p0,x.block<W.heap.size:=by obtain ⟨m,hm⟩:=k0;exact DataW.trod_lt m _ _ _ hm
 have w0:LWF cs0 ([some .i64] ++ ([some .i64] ++ ([some .i64] ++ ([some .i64] ++ ([some .i64] ++ ([some .i64] ++ ([some .i64] ++ ([some .i64] ++ ([some .i64] ++ ([some .i64] ++ ([some .i64] ++ ([some .i64] ++ ([some .i64] ++ [some .i64]))))))))))))):=fy_ lz_29 h0;obtain ⟨c0_0,e0_0,rfl,u0_0,w0_0⟩:=LWF.split w0;obtain ⟨x0_0,rfl⟩:=YP u0_0;obtain ⟨c0_1,e0_1,rfl,u0_1,w0_1⟩:=LWF.split w0_0;obtain ⟨x0_1,rfl⟩:=YP u0_1;obtain ⟨c0_2,e0_2,rfl,u0_2,w0_2⟩:=LWF.split w0_1;obtain ⟨x0_2,rfl⟩:=YP u0_2;obtain ⟨c0_3,e0_3,rfl,u0_3,w0_3⟩:=LWF.split w0_2;obtain ⟨x0_3,rfl⟩:=YP u0_3;obtain ⟨c0_4,e0_4,rfl,u0_4,w0_4⟩:=LWF.split w0_3;obtain ⟨x0_4,rfl⟩:=YP u0_4;obtain ⟨c0_5,e0_5,rfl,u0_5,w0_5⟩:=LWF.split w0_4;obtain ⟨x0_5,rfl⟩:=YP u0_5;obtain ⟨c0_6,e0_6,rfl,u0_6,w0_6⟩:=LWF.split w0_5;obtain ⟨x0_6,rfl⟩:=YP u0_6;obtain ⟨c0_7,e0_7,rfl,u0_7,w0_7⟩:=LWF.split w0_6;obtain ⟨x0_7,rfl⟩:=YP u0_7;obtain ⟨c0_8,e0_8,rfl,u0_8,w0_8⟩:=LWF.split w0_7;obtain ⟨x0_8,rfl⟩:=YP u0_8;obtain ⟨c0_9,e0_9,rfl,u0_9,w0_9⟩:=LWF.split w0_8;obtain ⟨x0_9,rfl⟩:=YP u0_9;obtain ⟨c0_10,e0_10,rfl,u0_10,w0_10⟩:=LWF.split w0_9;obtain ⟨x0_10,rfl⟩:=YP u0_10;obtain ⟨c0_11,e0_11,rfl,u0_11,w0_11⟩:=LWF.split w0_10;obtain ⟨x0_11,rfl⟩:=YP u0_11;obtain ⟨c0_12,e0_12,rfl,u0_12,w0_12⟩:=LWF.split w0_11;obtain ⟨x0_12,rfl⟩:=YP u0_12;obtain ⟨x0_13,rfl⟩:=YP w0_12;obtain ⟨cs1,rfl⟩:=di_ ia_23 (hval 1 23 v1 rfl rfl);have k1:=h1
 have lt1:∀ x∈p1,x.block<W.heap.size:=by obtain ⟨m,hm⟩:=k1;exact DataW.trod_lt m _ _ _ hm
 have w1:LWF cs1 ([some .i64] ++ ([some .i64] ++ [some .i64])):=fy_ lz_23 h1;obtain ⟨c1_0,e1_0,rfl,u1_0,w1_0⟩:=LWF.split w1;obtain ⟨x1_0,rfl⟩:=YP u1_0;obtain ⟨c1_1,e1_1,rfl,u1_1,w1_1⟩:=LWF.split w1_0;obtain ⟨x1_1,rfl⟩:=YP u1_1;obtain ⟨x1_2,rfl⟩:=YP w1_1;obtain ⟨cs2,rfl⟩:=di_ ia_23 (hval 2 23 v2 rfl rfl);have k2:=h2
 have lt2:∀ x∈p2,x.block<W.heap.size:=by obtain ⟨m,hm⟩:=k2;exact DataW.trod_lt m _ _ _ hm
 have w2:LWF cs2 ([some .i64] ++ ([some .i64] ++ [some .i64])):=fy_ lz_23 h2;obtain ⟨c2_0,e2_0,rfl,u2_0,w2_0⟩:=LWF.split w2;obtain ⟨x2_0,rfl⟩:=YP u2_0;obtain ⟨c2_1,e2_1,rfl,u2_1,w2_1⟩:=LWF.split w2_0;obtain ⟨x2_1,rfl⟩:=YP u2_1;obtain ⟨x2_2,rfl⟩:=YP w2_1;obtain ⟨p3_0,c3_0,l3,rfl,hl3⟩:=eB_ (e:=elV) (U:=50) Tryz.underlying52 rfl rfl (by kernel_rfl) (by kernel_rfl) (by kernel_rfl) Tryz.underlying50 lz_23 (by kernel_rfl) (fun _ h=>fx_ h) (hval 3 52 v3 rfl rfl) h3;have k3:=h3
 have lt3:∀ x∈p3,x.block<W.heap.size:=by obtain ⟨m,hm⟩:=k3;exact DataW.trod_lt m _ _ _ hm
 obtain ⟨cs4,rfl⟩:=di_ ia_35 (hval 4 35 v4 rfl rfl);have k4:=h4
 have lt4:∀ x∈p4,x.block<W.heap.size:=by obtain ⟨m,hm⟩:=k4;exact DataW.trod_lt m _ _ _ hm
 have w4:LWF cs4 (LI ++ LI):=fy_ lz_35 h4;obtain ⟨c4_0,e4_0,rfl,u4_0,w4_0⟩:=LWF.split w4;obtain ⟨x4_0,rfl⟩:=f4_ u4_0;obtain ⟨x4_1,rfl⟩:=f4_ w4_0;clear hA0 hval0;refine (F7 ⟨⟨⟨x0_0,x0_1,x0_2⟩,⟨x0_3,x0_4,x0_5,x0_6⟩⟩,⟨⟨x0_7,x0_8,x0_9⟩,⟨x0_10,x0_11,x0_12,x0_13⟩⟩⟩ ⟨x1_0,x1_1,x1_2⟩ ⟨x2_0,x2_1,x2_2⟩ p3_0 c3_0 l3 ⟨x4_0,x4_1⟩ W hl3).mono fun e W' ⟨he,bel⟩=>?_;rw [UI eU_] at he;subst he;exact ⟨_,rfl,_,_,_,[],_,[],hW',trodAll_mk1 (shut_bool Tryz.underlying4 _),(trodAll_cons_mk (Below.trod fw_ (by kernel_rfl) (of_decide_eq_true (by kernel_rfl)) k0 bel lt0) (trodAll_cons_mk (Below.trod fw_ (by kernel_rfl) (of_decide_eq_true (by kernel_rfl)) k1 bel lt1) (trodAll_cons_mk (Below.trod fw_ (by kernel_rfl) (of_decide_eq_true (by kernel_rfl)) k2 bel lt2) (trodAll_cons_mk (Below.trod fw_ (by kernel_rfl) (of_decide_eq_true (by kernel_rfl)) k3 bel lt3) (trodAll_cons_mk (Below.trod fw_ (by kernel_rfl) (of_decide_eq_true (by kernel_rfl)) k4 bel lt4) trodAll_mk0))))),rfl,bel.frame _,fun h=>by cases h⟩
theorem fourF:((Rows.poseIsRigidRow.inPlace==Tryz.prog.inPlace 5)&&(Rows.poseIsRigidRow.unfollowed==Tryz.prog.unfollowed 5)&&(Rows.poseIsRigidRow.recurses==Tryz.prog.recurses 5)&&(Rows.poseIsRigidRow.named==Tryz.prog.varsNamed 5))=true:=by kernel_rfl
theorem joinedF:joinedFacts Tryz.prog 5 Tryz.f5 Rows.poseIsRigidSpec Rows.poseIsRigidRow=true:=by
 have h:=fourF;simp only [Bool.and_eq_true] at h;obtain ⟨⟨⟨a,b⟩,c⟩,d⟩:=h;unfold joinedFacts;rw [fw_,f0_.2.2.2.2.2,a,b,c,d,show (Rows.poseIsRigidRow.plainKeys==Tryz.prog.plainKeys)=true from f0_.2.2.2.2.1,f0_.2.2.2.1,f0_.1,show (Rows.poseIsRigidRow.lifted==Tryz.prog.liftsFinal)=true from f0_.2.1,show (Tryz.prog.make==some Rows.poseIsRigidRow.make)=true from f0_.2.2.1]
 decide +kernel
theorem goesF:false=Rows.poseIsRigidRow.goesBy Tryz.prog:=by kernel_rfl
theorem holds:Rows.PoseIsRigidSaid :=
 OpenClaim.holds_of_wide 5 Tryz.f5 rfl rfl rfl rfl rfl rfl rfl ⟨rfl,rfl,rfl,rfl,rfl⟩ rfl rfl rfl rfl rfl (by kernel_rfl) Tryz.func5 joinedF
  (of_decide_eq_true (by kernel_rfl)) (by unfold Func.isWrapper;first | (rw [if_pos (by decide +kernel)];kernel_rfl) | (rw [if_neg (by decide +kernel)];exact ⟨rfl,rfl⟩))
  (fun os started H enc _=>lifted os started H enc)
theorem card_holds:Rows.PoseIsRigidCardSaid :=
 Claim7.holds_tied_plain_at .later [] [.data] true (true, "91f3d83de141079e5f04c79cdc66b804f5c34474148b6dff211b814160ce89f9") false
  holds (fun _ h=>by cases h) (by kernel_rfl) (fun _ h=>by cases h) poseIsRigid_row_tie rfl ⟨rfl,rfl⟩ f3_ rfl
  (fun f fn hf hfn=>by
   obtain rfl : f = 5 := Option.some.inj ((show Tryz.prog.funcNamed "skewback/skewbacklaw14.PoseIsRigid" = some 5 by kernel_rfl).symm.trans hf) |>.symm
   obtain rfl:fn=Tryz.f5:=(Option.some.inj (Tryz.func5.symm.trans hfn)).symm
   exact ⟨fK_,fun j t ht=>by
    rw [Tryz.params5] at ht
    have hm:t∈[23,29,35,52]:=by
     have h1:=Array.mem_of_getElem? ht
     simp at h1 ⊢
     grind
    have hall:([23,29,35,52].all fun u=>!Tryz.prog.wantsStandIn u)=true:=by kernel_rfl
    exact (show Tryz.prog.wantsStandIn t=false by simpa using List.all_eq_true.1 hall t hm)⟩)
  goesF
end Go.Proofs.YtbjlhfochebmiaaGreatDoor
