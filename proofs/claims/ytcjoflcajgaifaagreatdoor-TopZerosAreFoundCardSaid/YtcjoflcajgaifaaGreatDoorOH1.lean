/- TopZerosAreFound returns true for every input and changes none (the card: its table of math/bits is as laid). Conditions: none. -/
import Derived.Test.YtcjoflcajgaifaaGreatDoorOHq
import Derived.Test.YtcjoflcajgaifaaGreatDoorODw
set_option linter.unusedSimpArgs false
set_option linter.unusedVariables false
set_option maxRecDepth 100000
namespace Go.Proofs.YtcjoflcajgaifaaGreatDoor
open Go.Kn Go.Num Go.ChangeShapes Go.WideShapes Go.ChangeAt Go.RowKit
theorem lz_33:lz Tryz.prog 8 33=some (LI ++ LI):=by kernel_rfl
def laidT : List (String × DataW Unit) := [("math/bits.deBruijn32tab", Rows.laid_math_bits_deBruijn32tab), ("math/bits.deBruijn64tab", Rows.laid_math_bits_deBruijn64tab), ("internal/strconv.uint64pow10", Rows.laid_internal_strconv_uint64pow10)]
theorem door_met (os:Os) (args:Array Value):laidMetH Tryz.prog laidT ((World.doorLaid Tryz.prog 400 os).forCall (fun _ _=>0) ⟨#[],args,[]⟩).memory :=
 laidMetH_of_parts3 (fuel:=8) (laidMet_of_run' 8 (by kernel_rfl) (by kernel_rfl)) (by kernel_rfl) (by kernel_rfl)
theorem lifted (os:Os) (started:os.Started) (H:Type) (enc:TypeId×Value→H) :
  ReturnsInHanded {} Tryz.checked os 3 .any (fun w args=>(Rows.topZerosAreFoundSpec.pre enc Tryz.prog Tryz.f3 [] false w args∧laidMetH Tryz.prog laidT w)∧sizedMet enc Tryz.prog Tryz.f3 (OpenSpec.ofChange Rows.topZerosAreFoundSpec) false w args) (Rows.topZerosAreFoundSpec.post enc Tryz.prog Tryz.f3 false true false false):=by
 refine returnsInHanded_of_change_and (C:=Tryz.checked) (X:=fun w _=>laidMetH Tryz.prog laidT w) (fun _ _ _ hh h=>h.of_heap hh) own started (by kernel_rfl) Tryz.func3
  (ChangeSpec.witness_shaped (enc:=enc) (C:=Tryz.checked) (os:=os) (X:=fun w _=>laidMetH Tryz.prog laidT w) false (World.doorLaid Tryz.prog 400 os) #[.slice none 0 0] 8 rfl (World.shaped_of_RefB (by kernel_rfl) (by kernel_rfl)) (by kernel_rfl) (by kernel_rfl) (by kernel_rfl) (door_met os _)) ?_
 intro W base args ds gs before hval0 hW hcnd _ hL _;have hval:∀ (j:Nat) t v,Tryz.f3.params[j]? = some t→args[j]? = some v→Value.okWide Tryz.prog W .any base t v:=hval0;have hW':=hW;obtain ⟨p,q,hA0,hV,rfl,hfz,hnd⟩:=hW;have hA:DataW.TrodAll enc Tryz.prog W 0 (fun _=>true) true Tryz.f3.params.toList args.toList ds p:=hA0;rw [Tryz.params3] at hA hval;obtain ⟨v0,vs0,d0,ds0,p0,q0,hargs,rfl,rfl,h0,r0⟩:=trodAll_cons hA;obtain ⟨rfl,rfl,rfl⟩:=trodAll_nil r0
 obtain rfl:args = #[v0]:=by cases args;simp_all
 obtain ⟨rfl,rfl⟩:=trodVars_none hV;obtain ⟨l0,hl0⟩:=ee_ (e:=elRt) Tryz.underlying22 lz_33 (by kernel_rfl) (fun _ h=>gP_ h) (hval 0 22 v0 rfl rfl) h0;have k0:=h0
 have lt0:∀ x∈p0,x.block<W.heap.size:=by obtain ⟨m,hm⟩:=k0;exact DataW.trod_lt m _ _ _ hm
 clear hA0 hval0;refine (BQ _ l0 W hl0).mono fun e W' ⟨he,bel⟩=>?_;rw [aP_ _] at he;subst he;exact ⟨_,rfl,_,_,_,[],_,[],hW',trodAll_mk1 (shut_bool Tryz.underlying4 _),(trodAll_cons_mk (Below.trod gn_ (by kernel_rfl) (of_decide_eq_true (by kernel_rfl)) k0 bel lt0) trodAll_mk0),rfl,bel.frame _,fun h=>by cases h⟩
theorem fourF:((Rows.topZerosAreFoundRow.inPlace==Tryz.prog.inPlace 3)&&(Rows.topZerosAreFoundRow.unfollowed==Tryz.prog.unfollowed 3)&&(Rows.topZerosAreFoundRow.recurses==Tryz.prog.recurses 3)&&(Rows.topZerosAreFoundRow.named==Tryz.prog.varsNamed 3))=true:=by kernel_rfl
theorem joinedF:joinedFacts Tryz.prog 3 Tryz.f3 Rows.topZerosAreFoundSpec Rows.topZerosAreFoundRow=true:=by
 have h:=fourF;simp only [Bool.and_eq_true] at h;obtain ⟨⟨⟨a,b⟩,c⟩,d⟩:=h;unfold joinedFacts;rw [gn_,g1_.2.2.2.2.2,a,b,c,d,show (Rows.topZerosAreFoundRow.plainKeys==Tryz.prog.plainKeys)=true from g1_.2.2.2.2.1,g1_.2.2.2.1,g1_.1,show (Rows.topZerosAreFoundRow.lifted==Tryz.prog.liftsFinal)=true from g1_.2.1,show (Tryz.prog.make==some Rows.topZerosAreFoundRow.make)=true from g1_.2.2.1]
 decide +kernel
theorem goesF:false=Rows.topZerosAreFoundRow.goesBy Tryz.prog:=by kernel_rfl
theorem holds:Rows.TopZerosAreFoundSaid :=
 OpenClaim.holds_of_wide 3 Tryz.f3 rfl rfl rfl rfl rfl rfl rfl ⟨rfl,rfl,rfl,rfl,rfl⟩ rfl rfl rfl rfl rfl (by kernel_rfl) Tryz.func3 joinedF
  (of_decide_eq_true (by kernel_rfl)) (by unfold Func.isWrapper;first | (rw [if_pos (by decide +kernel)];kernel_rfl) | (rw [if_neg (by decide +kernel)];exact ⟨rfl,rfl⟩))
  (fun os started H enc _=>lifted os started H enc)
theorem card_holds:Rows.TopZerosAreFoundCardSaid :=
 Claim7.holds_tied_plain_at .later [] [.data, .data, .data] true (true, "692fe83d3300bb4fb542bf196ad89efad5f7b68adaa3b00508caee40a669d5ce") false
  holds (fun _ h=>by cases h) (by kernel_rfl) (fun _ h=>by cases h) topZerosAreFound_row_tie rfl ⟨rfl,rfl⟩ g4_ rfl
  (fun f fn hf hfn=>by
   obtain rfl : f = 3 := Option.some.inj ((show Tryz.prog.funcNamed "skewback/skewbacktop.TopZerosAreFound" = some 3 by kernel_rfl).symm.trans hf) |>.symm
   obtain rfl:fn=Tryz.f3:=(Option.some.inj (Tryz.func3.symm.trans hfn)).symm
   exact ⟨gK_,fun j t ht=>by
    rw [Tryz.params3] at ht
    have hm:t∈[22]:=by
     have h1:=Array.mem_of_getElem? ht
     simp at h1 ⊢
     grind
    have hall:([22].all fun u=>!Tryz.prog.wantsStandIn u)=true:=by kernel_rfl
    exact (show Tryz.prog.wantsStandIn t=false by simpa using List.all_eq_true.1 hall t hm)⟩)
  goesF
end Go.Proofs.YtcjoflcajgaifaaGreatDoor
