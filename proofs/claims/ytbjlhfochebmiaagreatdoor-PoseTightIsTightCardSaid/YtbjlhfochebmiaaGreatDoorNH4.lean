/- PoseTightIsTight returns true for every input and changes none (the card: its table of math/bits is as laid). Conditions: none. -/
import Derived.Test.YtbjlhfochebmiaaGreatDoorNHq
import Derived.Test.YtbjlhfochebmiaaGreatDoorNH4xL4
set_option linter.unusedSimpArgs false
set_option linter.unusedVariables false
set_option maxRecDepth 100000
namespace Go.Proofs.YtbjlhfochebmiaaGreatDoor
open Go.Kn Go.Num Go.ChangeShapes Go.WideShapes Go.ChangeAt Go.RowKit
theorem lz_23:lz Tryz.prog 8 23=some ([some .i64] ++ ([some .i64] ++ [some .i64])):=by kernel_rfl
theorem lz_27:lz Tryz.prog 8 27=some ([some .i64] ++ ([some .i64] ++ ([some .i64] ++ ([some .i64] ++ ([some .i64] ++ ([some .i64] ++ [some .i64])))))):=by kernel_rfl
theorem ia_27:X4 Tryz.prog 27=true:=by kernel_rfl
def laidT : List (String × DataW Unit) := [("math/bits.deBruijn32tab", Rows.laid_math_bits_deBruijn32tab)]
theorem door_met (os:Os) (args:Array Value):laidMetH Tryz.prog laidT ((World.doorLaid Tryz.prog 400 os).forCall (fun _ _=>0) ⟨#[],args,[]⟩).memory :=
 laidMetH_of_parts3 (fuel:=8) (laidMet_of_run' 8 (by kernel_rfl) (by kernel_rfl)) (by kernel_rfl) (by kernel_rfl)
theorem lifted (os:Os) (started:os.Started) (H:Type) (enc:TypeId×Value→H) :
  ReturnsInHanded {} Tryz.checked os 6 .any (fun w args=>(Rows.poseTightIsTightSpec.pre enc Tryz.prog Tryz.f6 [] false w args∧laidMetH Tryz.prog laidT w)∧sizedMet enc Tryz.prog Tryz.f6 (OpenSpec.ofChange Rows.poseTightIsTightSpec) false w args) (Rows.poseTightIsTightSpec.post enc Tryz.prog Tryz.f6 false true false false):=by
 refine returnsInHanded_of_change_and (C:=Tryz.checked) (X:=fun w _=>laidMetH Tryz.prog laidT w) (fun _ _ _ hh h=>h.of_heap hh) own started (by kernel_rfl) Tryz.func6
  (ChangeSpec.witness_shaped (enc:=enc) (C:=Tryz.checked) (os:=os) (X:=fun w _=>laidMetH Tryz.prog laidT w) false (World.doorLaid Tryz.prog 400 os) #[.agg #[.int .i64 0,.int .i64 0,.int .i64 0,.int .i64 0,.int .i64 0,.int .i64 0,.int .i64 0],.agg #[.slice none 0 0]] 8 rfl (World.shaped_of_RefB (by kernel_rfl) (by kernel_rfl)) (by kernel_rfl) (by kernel_rfl) (by kernel_rfl) (door_met os _)) ?_
 intro W base args ds gs before hval0 hW hcnd _ hL _;have hval:∀ (j:Nat) t v,Tryz.f6.params[j]? = some t→args[j]? = some v→Value.okWide Tryz.prog W .any base t v:=hval0;have hW':=hW;obtain ⟨p,q,hA0,hV,rfl,hfz,hnd⟩:=hW;have hA:DataW.TrodAll enc Tryz.prog W 0 (fun _=>true) true Tryz.f6.params.toList args.toList ds p:=hA0;rw [Tryz.params6] at hA hval;obtain ⟨v0,vs0,d0,ds0,p0,q0,hargs,rfl,rfl,h0,r0⟩:=trodAll_cons hA;obtain ⟨v1,vs1,d1,ds1,p1,q1,rfl,rfl,rfl,h1,r1⟩:=trodAll_cons r0;obtain ⟨rfl,rfl,rfl⟩:=trodAll_nil r1
 obtain rfl:args = #[v0,v1]:=by cases args;simp_all
 obtain ⟨rfl,rfl⟩:=trodVars_none hV;obtain ⟨cs0,rfl⟩:=di_ ia_27 (hval 0 27 v0 rfl rfl);have k0:=h0
 have lt0:∀ x∈p0,x.block<W.heap.size:=by obtain ⟨m,hm⟩:=k0;exact DataW.trod_lt m _ _ _ hm
 have w0:LWF cs0 ([some .i64] ++ ([some .i64] ++ ([some .i64] ++ ([some .i64] ++ ([some .i64] ++ ([some .i64] ++ [some .i64])))))):=fy_ lz_27 h0;obtain ⟨c0_0,e0_0,rfl,u0_0,w0_0⟩:=LWF.split w0;obtain ⟨x0_0,rfl⟩:=YP u0_0;obtain ⟨c0_1,e0_1,rfl,u0_1,w0_1⟩:=LWF.split w0_0;obtain ⟨x0_1,rfl⟩:=YP u0_1;obtain ⟨c0_2,e0_2,rfl,u0_2,w0_2⟩:=LWF.split w0_1;obtain ⟨x0_2,rfl⟩:=YP u0_2;obtain ⟨c0_3,e0_3,rfl,u0_3,w0_3⟩:=LWF.split w0_2;obtain ⟨x0_3,rfl⟩:=YP u0_3;obtain ⟨c0_4,e0_4,rfl,u0_4,w0_4⟩:=LWF.split w0_3;obtain ⟨x0_4,rfl⟩:=YP u0_4;obtain ⟨c0_5,e0_5,rfl,u0_5,w0_5⟩:=LWF.split w0_4;obtain ⟨x0_5,rfl⟩:=YP u0_5;obtain ⟨x0_6,rfl⟩:=YP w0_5;obtain ⟨p1_0,c1_0,l1,rfl,hl1⟩:=eB_ (e:=elV) (U:=50) Tryz.underlying52 rfl rfl (by kernel_rfl) (by kernel_rfl) (by kernel_rfl) Tryz.underlying50 lz_23 (by kernel_rfl) (fun _ h=>fx_ h) (hval 1 52 v1 rfl rfl) h1;have k1:=h1
 have lt1:∀ x∈p1,x.block<W.heap.size:=by obtain ⟨m,hm⟩:=k1;exact DataW.trod_lt m _ _ _ hm
 clear hA0 hval0;refine (D6 ⟨⟨x0_0,x0_1,x0_2⟩,⟨x0_3,x0_4,x0_5,x0_6⟩⟩ p1_0 c1_0 l1 W hl1).mono fun e W' ⟨he,bel⟩=>?_;rw [WH eU_] at he;subst he;exact ⟨_,rfl,_,_,_,[],_,[],hW',trodAll_mk1 (shut_bool Tryz.underlying4 _),(trodAll_cons_mk (Below.trod fw_ (by kernel_rfl) (of_decide_eq_true (by kernel_rfl)) k0 bel lt0) (trodAll_cons_mk (Below.trod fw_ (by kernel_rfl) (of_decide_eq_true (by kernel_rfl)) k1 bel lt1) trodAll_mk0)),rfl,bel.frame _,fun h=>by cases h⟩
theorem fourF:((Rows.poseTightIsTightRow.inPlace==Tryz.prog.inPlace 6)&&(Rows.poseTightIsTightRow.unfollowed==Tryz.prog.unfollowed 6)&&(Rows.poseTightIsTightRow.recurses==Tryz.prog.recurses 6)&&(Rows.poseTightIsTightRow.named==Tryz.prog.varsNamed 6))=true:=by kernel_rfl
theorem joinedF:joinedFacts Tryz.prog 6 Tryz.f6 Rows.poseTightIsTightSpec Rows.poseTightIsTightRow=true:=by
 have h:=fourF;simp only [Bool.and_eq_true] at h;obtain ⟨⟨⟨a,b⟩,c⟩,d⟩:=h;unfold joinedFacts;rw [fw_,f0_.2.2.2.2.2,a,b,c,d,show (Rows.poseTightIsTightRow.plainKeys==Tryz.prog.plainKeys)=true from f0_.2.2.2.2.1,f0_.2.2.2.1,f0_.1,show (Rows.poseTightIsTightRow.lifted==Tryz.prog.liftsFinal)=true from f0_.2.1,show (Tryz.prog.make==some Rows.poseTightIsTightRow.make)=true from f0_.2.2.1]
 decide +kernel
theorem goesF:false=Rows.poseTightIsTightRow.goesBy Tryz.prog:=by kernel_rfl
theorem holds:Rows.PoseTightIsTightSaid :=
 OpenClaim.holds_of_wide 6 Tryz.f6 rfl rfl rfl rfl rfl rfl rfl ⟨rfl,rfl,rfl,rfl,rfl⟩ rfl rfl rfl rfl rfl (by kernel_rfl) Tryz.func6 joinedF
  (of_decide_eq_true (by kernel_rfl)) (by unfold Func.isWrapper;first | (rw [if_pos (by decide +kernel)];kernel_rfl) | (rw [if_neg (by decide +kernel)];exact ⟨rfl,rfl⟩))
  (fun os started H enc _=>lifted os started H enc)
theorem card_holds:Rows.PoseTightIsTightCardSaid :=
 Claim7.holds_tied_plain_at .later [] [.data] true (true, "91f3d83de141079e5f04c79cdc66b804f5c34474148b6dff211b814160ce89f9") false
  holds (fun _ h=>by cases h) (by kernel_rfl) (fun _ h=>by cases h) poseTightIsTight_row_tie rfl ⟨rfl,rfl⟩ f3_ rfl
  (fun f fn hf hfn=>by
   obtain rfl : f = 6 := Option.some.inj ((show Tryz.prog.funcNamed "skewback/skewbacklaw14.PoseTightIsTight" = some 6 by kernel_rfl).symm.trans hf) |>.symm
   obtain rfl:fn=Tryz.f6:=(Option.some.inj (Tryz.func6.symm.trans hfn)).symm
   exact ⟨fK_,fun j t ht=>by
    rw [Tryz.params6] at ht
    have hm:t∈[27,52]:=by
     have h1:=Array.mem_of_getElem? ht
     simp at h1 ⊢
     grind
    have hall:([27,52].all fun u=>!Tryz.prog.wantsStandIn u)=true:=by kernel_rfl
    exact (show Tryz.prog.wantsStandIn t=false by simpa using List.all_eq_true.1 hall t hm)⟩)
  goesF
end Go.Proofs.YtbjlhfochebmiaaGreatDoor
