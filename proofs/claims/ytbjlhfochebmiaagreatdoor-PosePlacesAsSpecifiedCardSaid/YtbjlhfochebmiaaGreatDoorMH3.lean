/- PosePlacesAsSpecified returns true for every input and changes none (the card: its table of math/bits is as laid). Conditions: none. -/
import Derived.Test.YtbjlhfochebmiaaGreatDoorMHq
import Derived.Test.YtbjlhfochebmiaaGreatDoorMCh
set_option linter.unusedSimpArgs false
set_option linter.unusedVariables false
set_option maxRecDepth 100000
namespace Go.Proofs.YtbjlhfochebmiaaGreatDoor
open Go.Kn Go.Num Go.ChangeShapes Go.WideShapes Go.ChangeAt Go.RowKit
theorem lz_23:lz Tryz.prog 8 23=some ([some .i64] ++ ([some .i64] ++ [some .i64])):=by kernel_rfl
theorem ia_23:Y3 Tryz.prog 23=true:=by kernel_rfl
theorem lz_29:lz Tryz.prog 8 29=some ([some .i64] ++ ([some .i64] ++ ([some .i64] ++ ([some .i64] ++ ([some .i64] ++ ([some .i64] ++ ([some .i64] ++ ([some .i64] ++ ([some .i64] ++ ([some .i64] ++ ([some .i64] ++ ([some .i64] ++ ([some .i64] ++ [some .i64]))))))))))))):=by kernel_rfl
theorem ia_29:Y3 Tryz.prog 29=true:=by kernel_rfl
theorem lz_35:lz Tryz.prog 8 35=some (LI ++ LI):=by kernel_rfl
theorem ia_35:Y3 Tryz.prog 35=true:=by kernel_rfl
def zI:Nat→List Value
 | 0=>[]
 | n+1=>[.bool false,.bool false] ++ List.replicate 16 (.int .u32 0) ++ zI n
def laidT : List (String × DataW Unit) := [("math/bits.deBruijn32tab", Rows.laid_math_bits_deBruijn32tab)]
theorem door_met (os:Os) (args:Array Value):laidMetH Tryz.prog laidT ((World.doorLaid Tryz.prog 400 os).forCall (fun _ _=>0) ⟨#[],args,[]⟩).memory :=
 laidMetH_of_parts3 (fuel:=8) (laidMet_of_run' 8 (by kernel_rfl) (by kernel_rfl)) (by kernel_rfl) (by kernel_rfl)
theorem lifted (os:Os) (started:os.Started) (H:Type) (enc:TypeId×Value→H) :
  ReturnsInHanded {} Tryz.checked os 4 .any (fun w args=>(Rows.posePlacesAsSpecifiedSpec.pre enc Tryz.prog Tryz.f4 [] false w args∧laidMetH Tryz.prog laidT w)∧sizedMet enc Tryz.prog Tryz.f4 (OpenSpec.ofChange Rows.posePlacesAsSpecifiedSpec) false w args) (Rows.posePlacesAsSpecifiedSpec.post enc Tryz.prog Tryz.f4 false true false false):=by
 refine returnsInHanded_of_change_and (C:=Tryz.checked) (X:=fun w _=>laidMetH Tryz.prog laidT w) (fun _ _ _ hh h=>h.of_heap hh) own started (by kernel_rfl) Tryz.func4
  (ChangeSpec.witness_shaped (enc:=enc) (C:=Tryz.checked) (os:=os) (X:=fun w _=>laidMetH Tryz.prog laidT w) false (World.doorLaid Tryz.prog 400 os) #[.agg #[.int .i64 0,.int .i64 0,.int .i64 0,.int .i64 0,.int .i64 0,.int .i64 0,.int .i64 0,.int .i64 0,.int .i64 0,.int .i64 0,.int .i64 0,.int .i64 0,.int .i64 0,.int .i64 0],.agg #[.int .i64 0,.int .i64 0,.int .i64 0],.agg #[.slice none 0 0],.agg (List.toArray (zI 2))] 8 rfl (World.shaped_of_RefB (by kernel_rfl) (by kernel_rfl)) (by kernel_rfl) (by kernel_rfl) (by kernel_rfl) (door_met os _)) ?_
 intro W base args ds gs before hval0 hW hcnd _ hL _;have hval:∀ (j:Nat) t v,Tryz.f4.params[j]? = some t→args[j]? = some v→Value.okWide Tryz.prog W .any base t v:=hval0;have hW':=hW;obtain ⟨p,q,hA0,hV,rfl,hfz,hnd⟩:=hW;have hA:DataW.TrodAll enc Tryz.prog W 0 (fun _=>true) true Tryz.f4.params.toList args.toList ds p:=hA0;rw [Tryz.params4] at hA hval;obtain ⟨v0,vs0,d0,ds0,p0,q0,hargs,rfl,rfl,h0,r0⟩:=trodAll_cons hA;obtain ⟨v1,vs1,d1,ds1,p1,q1,rfl,rfl,rfl,h1,r1⟩:=trodAll_cons r0;obtain ⟨v2,vs2,d2,ds2,p2,q2,rfl,rfl,rfl,h2,r2⟩:=trodAll_cons r1;obtain ⟨v3,vs3,d3,ds3,p3,q3,rfl,rfl,rfl,h3,r3⟩:=trodAll_cons r2;obtain ⟨rfl,rfl,rfl⟩:=trodAll_nil r3
 obtain rfl:args = #[v0,v1,v2,v3]:=by cases args;simp_all
 obtain ⟨rfl,rfl⟩:=trodVars_none hV;obtain ⟨cs0,rfl⟩:=dG_ ia_29 (hval 0 29 v0 rfl rfl);have k0:=h0
 have lt0:∀ x∈p0,x.block<W.heap.size:=by obtain ⟨m,hm⟩:=k0;exact DataW.trod_lt m _ _ _ hm
 have w0:LWF cs0 ([some .i64] ++ ([some .i64] ++ ([some .i64] ++ ([some .i64] ++ ([some .i64] ++ ([some .i64] ++ ([some .i64] ++ ([some .i64] ++ ([some .i64] ++ ([some .i64] ++ ([some .i64] ++ ([some .i64] ++ ([some .i64] ++ [some .i64]))))))))))))):=fY_ lz_29 h0;obtain ⟨c0_0,e0_0,rfl,u0_0,w0_0⟩:=LWF.split w0;obtain ⟨x0_0,rfl⟩:=ZR u0_0;obtain ⟨c0_1,e0_1,rfl,u0_1,w0_1⟩:=LWF.split w0_0;obtain ⟨x0_1,rfl⟩:=ZR u0_1;obtain ⟨c0_2,e0_2,rfl,u0_2,w0_2⟩:=LWF.split w0_1;obtain ⟨x0_2,rfl⟩:=ZR u0_2;obtain ⟨c0_3,e0_3,rfl,u0_3,w0_3⟩:=LWF.split w0_2;obtain ⟨x0_3,rfl⟩:=ZR u0_3;obtain ⟨c0_4,e0_4,rfl,u0_4,w0_4⟩:=LWF.split w0_3;obtain ⟨x0_4,rfl⟩:=ZR u0_4;obtain ⟨c0_5,e0_5,rfl,u0_5,w0_5⟩:=LWF.split w0_4;obtain ⟨x0_5,rfl⟩:=ZR u0_5;obtain ⟨c0_6,e0_6,rfl,u0_6,w0_6⟩:=LWF.split w0_5;obtain ⟨x0_6,rfl⟩:=ZR u0_6;obtain ⟨c0_7,e0_7,rfl,u0_7,w0_7⟩:=LWF.split w0_6;obtain ⟨x0_7,rfl⟩:=ZR u0_7;obtain ⟨c0_8,e0_8,rfl,u0_8,w0_8⟩:=LWF.split w0_7;obtain ⟨x0_8,rfl⟩:=ZR u0_8;obtain ⟨c0_9,e0_9,rfl,u0_9,w0_9⟩:=LWF.split w0_8;obtain ⟨x0_9,rfl⟩:=ZR u0_9;obtain ⟨c0_10,e0_10,rfl,u0_10,w0_10⟩:=LWF.split w0_9;obtain ⟨x0_10,rfl⟩:=ZR u0_10;obtain ⟨c0_11,e0_11,rfl,u0_11,w0_11⟩:=LWF.split w0_10;obtain ⟨x0_11,rfl⟩:=ZR u0_11;obtain ⟨c0_12,e0_12,rfl,u0_12,w0_12⟩:=LWF.split w0_11;obtain ⟨x0_12,rfl⟩:=ZR u0_12;obtain ⟨x0_13,rfl⟩:=ZR w0_12;obtain ⟨cs1,rfl⟩:=dG_ ia_23 (hval 1 23 v1 rfl rfl);have k1:=h1
 have lt1:∀ x∈p1,x.block<W.heap.size:=by obtain ⟨m,hm⟩:=k1;exact DataW.trod_lt m _ _ _ hm
 have w1:LWF cs1 ([some .i64] ++ ([some .i64] ++ [some .i64])):=fY_ lz_23 h1;obtain ⟨c1_0,e1_0,rfl,u1_0,w1_0⟩:=LWF.split w1;obtain ⟨x1_0,rfl⟩:=ZR u1_0;obtain ⟨c1_1,e1_1,rfl,u1_1,w1_1⟩:=LWF.split w1_0;obtain ⟨x1_1,rfl⟩:=ZR u1_1;obtain ⟨x1_2,rfl⟩:=ZR w1_1;obtain ⟨p2_0,c2_0,l2,rfl,hl2⟩:=e0_ (e:=elV) (U:=50) Tryz.underlying52 rfl rfl (by kernel_rfl) (by kernel_rfl) (by kernel_rfl) Tryz.underlying50 lz_23 (by kernel_rfl) (fun _ h=>fX_ h) (hval 2 52 v2 rfl rfl) h2;have k2:=h2
 have lt2:∀ x∈p2,x.block<W.heap.size:=by obtain ⟨m,hm⟩:=k2;exact DataW.trod_lt m _ _ _ hm
 obtain ⟨cs3,rfl⟩:=dG_ ia_35 (hval 3 35 v3 rfl rfl);have k3:=h3
 have lt3:∀ x∈p3,x.block<W.heap.size:=by obtain ⟨m,hm⟩:=k3;exact DataW.trod_lt m _ _ _ hm
 have w3:LWF cs3 (LI ++ LI):=fY_ lz_35 h3;obtain ⟨c3_0,e3_0,rfl,u3_0,w3_0⟩:=LWF.split w3;obtain ⟨x3_0,rfl⟩:=gE_ u3_0;obtain ⟨x3_1,rfl⟩:=gE_ w3_0;clear hA0 hval0;refine (C7 ⟨⟨⟨x0_0,x0_1,x0_2⟩,⟨x0_3,x0_4,x0_5,x0_6⟩⟩,⟨⟨x0_7,x0_8,x0_9⟩,⟨x0_10,x0_11,x0_12,x0_13⟩⟩⟩ ⟨x1_0,x1_1,x1_2⟩ p2_0 c2_0 l2 ⟨x3_0,x3_1⟩ W hl2).mono fun e W' ⟨he,bel⟩=>?_;rw [XH fj_] at he;subst he;exact ⟨_,rfl,_,_,_,[],_,[],hW',trodAll_mk1 (shut_bool Tryz.underlying4 _),(trodAll_cons_mk (Below.trod fW_ (by kernel_rfl) (of_decide_eq_true (by kernel_rfl)) k0 bel lt0) (trodAll_cons_mk (Below.trod fW_ (by kernel_rfl) (of_decide_eq_true (by kernel_rfl)) k1 bel lt1) (trodAll_cons_mk (Below.trod fW_ (by kernel_rfl) (of_decide_eq_true (by kernel_rfl)) k2 bel lt2) (trodAll_cons_mk (Below.trod fW_ (by kernel_rfl) (of_decide_eq_true (by kernel_rfl)) k3 bel lt3) trodAll_mk0)))),rfl,bel.frame _,fun h=>by cases h⟩
theorem fourF:((Rows.posePlacesAsSpecifiedRow.inPlace==Tryz.prog.inPlace 4)&&(Rows.posePlacesAsSpecifiedRow.unfollowed==Tryz.prog.unfollowed 4)&&(Rows.posePlacesAsSpecifiedRow.recurses==Tryz.prog.recurses 4)&&(Rows.posePlacesAsSpecifiedRow.named==Tryz.prog.varsNamed 4))=true:=by kernel_rfl
theorem joinedF:joinedFacts Tryz.prog 4 Tryz.f4 Rows.posePlacesAsSpecifiedSpec Rows.posePlacesAsSpecifiedRow=true:=by
 have h:=fourF;simp only [Bool.and_eq_true] at h;obtain ⟨⟨⟨a,b⟩,c⟩,d⟩:=h;unfold joinedFacts;rw [fW_,gB_.2.2.2.2.2,a,b,c,d,show (Rows.posePlacesAsSpecifiedRow.plainKeys==Tryz.prog.plainKeys)=true from gB_.2.2.2.2.1,gB_.2.2.2.1,gB_.1,show (Rows.posePlacesAsSpecifiedRow.lifted==Tryz.prog.liftsFinal)=true from gB_.2.1,show (Tryz.prog.make==some Rows.posePlacesAsSpecifiedRow.make)=true from gB_.2.2.1]
 decide +kernel
theorem goesF:false=Rows.posePlacesAsSpecifiedRow.goesBy Tryz.prog:=by kernel_rfl
theorem holds:Rows.PosePlacesAsSpecifiedSaid :=
 OpenClaim.holds_of_wide 4 Tryz.f4 rfl rfl rfl rfl rfl rfl rfl ⟨rfl,rfl,rfl,rfl,rfl⟩ rfl rfl rfl rfl rfl (by kernel_rfl) Tryz.func4 joinedF
  (of_decide_eq_true (by kernel_rfl)) (by unfold Func.isWrapper;first | (rw [if_pos (by decide +kernel)];kernel_rfl) | (rw [if_neg (by decide +kernel)];exact ⟨rfl,rfl⟩))
  (fun os started H enc _=>lifted os started H enc)
theorem card_holds:Rows.PosePlacesAsSpecifiedCardSaid :=
 Claim7.holds_tied_plain_at .later [] [.data] true (true, "91f3d83de141079e5f04c79cdc66b804f5c34474148b6dff211b814160ce89f9") false
  holds (fun _ h=>by cases h) (by kernel_rfl) (fun _ h=>by cases h) posePlacesAsSpecified_row_tie rfl ⟨rfl,rfl⟩ gD_ rfl
  (fun f fn hf hfn=>by
   obtain rfl : f = 4 := Option.some.inj ((show Tryz.prog.funcNamed "skewback/skewbacklaw14.PosePlacesAsSpecified" = some 4 by kernel_rfl).symm.trans hf) |>.symm
   obtain rfl:fn=Tryz.f4:=(Option.some.inj (Tryz.func4.symm.trans hfn)).symm
   exact ⟨gj_,fun j t ht=>by
    rw [Tryz.params4] at ht
    have hm:t∈[23,29,35,52]:=by
     have h1:=Array.mem_of_getElem? ht
     simp at h1 ⊢
     grind
    have hall:([23,29,35,52].all fun u=>!Tryz.prog.wantsStandIn u)=true:=by kernel_rfl
    exact (show Tryz.prog.wantsStandIn t=false by simpa using List.all_eq_true.1 hall t hm)⟩)
  goesF
end Go.Proofs.YtbjlhfochebmiaaGreatDoor
