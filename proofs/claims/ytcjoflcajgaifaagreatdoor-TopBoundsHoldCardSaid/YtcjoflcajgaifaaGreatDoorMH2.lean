/- TopBoundsHold returns true for every input and changes none (the card: its table of math/bits is as laid). Conditions: none. -/
import Derived.Test.YtcjoflcajgaifaaGreatDoorMHq
import Derived.Test.YtcjoflcajgaifaaGreatDoorMAy
set_option linter.unusedSimpArgs false
set_option linter.unusedVariables false
set_option maxRecDepth 100000
namespace Go.Proofs.YtcjoflcajgaifaaGreatDoor
open Go.Kn Go.Num Go.ChangeShapes Go.WideShapes Go.ChangeAt Go.RowKit
theorem lz_31:lz Tryz.prog 8 31=some LI:=by kernel_rfl
theorem lz_33:lz Tryz.prog 8 33=some (LI ++ LI):=by kernel_rfl
theorem ia_33:Y4 Tryz.prog 33=true:=by kernel_rfl
theorem lz_47:lz Tryz.prog 8 47=some (LI ++ (LI ++ (LI ++ LI))):=by kernel_rfl
theorem ia_47:Y4 Tryz.prog 47=true:=by kernel_rfl
def zI:Nat→List Value
 | 0=>[]
 | n+1=>[.bool false,.bool false] ++ List.replicate 16 (.int .u32 0) ++ zI n
def laidT : List (String × DataW Unit) := [("math/bits.deBruijn32tab", Rows.laid_math_bits_deBruijn32tab), ("math/bits.deBruijn64tab", Rows.laid_math_bits_deBruijn64tab), ("internal/strconv.uint64pow10", Rows.laid_internal_strconv_uint64pow10)]
theorem door_met (os:Os) (args:Array Value):laidMetH Tryz.prog laidT ((World.doorLaid Tryz.prog 400 os).forCall (fun _ _=>0) ⟨#[],args,[]⟩).memory :=
 laidMetH_of_parts3 (fuel:=8) (laidMet_of_run' 8 (by kernel_rfl) (by kernel_rfl)) (by kernel_rfl) (by kernel_rfl)
theorem lifted (os:Os) (started:os.Started) (H:Type) (enc:TypeId×Value→H) :
  ReturnsInHanded {} Tryz.checked os 4 .any (fun w args=>(Rows.topBoundsHoldSpec.pre enc Tryz.prog Tryz.f4 [] false w args∧laidMetH Tryz.prog laidT w)∧sizedMet enc Tryz.prog Tryz.f4 (OpenSpec.ofChange Rows.topBoundsHoldSpec) false w args) (Rows.topBoundsHoldSpec.post enc Tryz.prog Tryz.f4 false true false false):=by
 refine returnsInHanded_of_change_and (C:=Tryz.checked) (X:=fun w _=>laidMetH Tryz.prog laidT w) (fun _ _ _ hh h=>h.of_heap hh) own started (by kernel_rfl) Tryz.func4
  (ChangeSpec.witness_shaped (enc:=enc) (C:=Tryz.checked) (os:=os) (X:=fun w _=>laidMetH Tryz.prog laidT w) false (World.doorLaid Tryz.prog 400 os) #[.slice none 0 0,.agg (List.toArray (zI 4)),.agg (List.toArray (zI 2))] 8 rfl (World.shaped_of_RefB (by kernel_rfl) (by kernel_rfl)) (by kernel_rfl) (by kernel_rfl) (by kernel_rfl) (door_met os _)) ?_
 intro W base args ds gs before hval0 hW hcnd _ hL _;have hval:∀ (j:Nat) t v,Tryz.f4.params[j]? = some t→args[j]? = some v→Value.okWide Tryz.prog W .any base t v:=hval0;have hW':=hW;obtain ⟨p,q,hA0,hV,rfl,hfz,hnd⟩:=hW;have hA:DataW.TrodAll enc Tryz.prog W 0 (fun _=>true) true Tryz.f4.params.toList args.toList ds p:=hA0;rw [Tryz.params4] at hA hval;obtain ⟨v0,vs0,d0,ds0,p0,q0,hargs,rfl,rfl,h0,r0⟩:=trodAll_cons hA;obtain ⟨v1,vs1,d1,ds1,p1,q1,rfl,rfl,rfl,h1,r1⟩:=trodAll_cons r0;obtain ⟨v2,vs2,d2,ds2,p2,q2,rfl,rfl,rfl,h2,r2⟩:=trodAll_cons r1;obtain ⟨rfl,rfl,rfl⟩:=trodAll_nil r2
 obtain rfl:args = #[v0,v1,v2]:=by cases args;simp_all
 obtain ⟨rfl,rfl⟩:=trodVars_none hV;obtain ⟨l0,hl0⟩:=eH_ (e:=elI) Tryz.underlying25 lz_31 (by kernel_rfl) (fun _ h=>ho_ h) (hval 0 25 v0 rfl rfl) h0;have k0:=h0
 have lt0:∀ x∈p0,x.block<W.heap.size:=by obtain ⟨m,hm⟩:=k0;exact DataW.trod_lt m _ _ _ hm
 obtain ⟨cs1,rfl⟩:=eD_ ia_47 (hval 1 47 v1 rfl rfl);have k1:=h1
 have lt1:∀ x∈p1,x.block<W.heap.size:=by obtain ⟨m,hm⟩:=k1;exact DataW.trod_lt m _ _ _ hm
 have w1:LWF cs1 (LI ++ (LI ++ (LI ++ LI))):=gU_ lz_47 h1;obtain ⟨c1_0,e1_0,rfl,u1_0,w1_0⟩:=LWF.split w1;obtain ⟨x1_0,rfl⟩:=ga_ u1_0;obtain ⟨c1_1,e1_1,rfl,u1_1,w1_1⟩:=LWF.split w1_0;obtain ⟨x1_1,rfl⟩:=ga_ u1_1;obtain ⟨c1_2,e1_2,rfl,u1_2,w1_2⟩:=LWF.split w1_1;obtain ⟨x1_2,rfl⟩:=ga_ u1_2;obtain ⟨x1_3,rfl⟩:=ga_ w1_2;obtain ⟨cs2,rfl⟩:=eD_ ia_33 (hval 2 33 v2 rfl rfl);have k2:=h2
 have lt2:∀ x∈p2,x.block<W.heap.size:=by obtain ⟨m,hm⟩:=k2;exact DataW.trod_lt m _ _ _ hm
 have w2:LWF cs2 (LI ++ LI):=gU_ lz_33 h2;obtain ⟨c2_0,e2_0,rfl,u2_0,w2_0⟩:=LWF.split w2;obtain ⟨x2_0,rfl⟩:=ga_ u2_0;obtain ⟨x2_1,rfl⟩:=ga_ w2_0;clear hA0 hval0;refine (DW _ l0 ⟨⟨x1_0,x1_1⟩,⟨x1_2,x1_3⟩⟩ ⟨x2_0,x2_1⟩ W hl0).mono fun e W' ⟨he,bel⟩=>?_;rw [WW _ _ _] at he;subst he;exact ⟨_,rfl,_,_,_,[],_,[],hW',trodAll_mk1 (shut_bool Tryz.underlying4 _),(trodAll_cons_mk (Below.trod gT_ (by kernel_rfl) (of_decide_eq_true (by kernel_rfl)) k0 bel lt0) (trodAll_cons_mk (Below.trod gT_ (by kernel_rfl) (of_decide_eq_true (by kernel_rfl)) k1 bel lt1) (trodAll_cons_mk (Below.trod gT_ (by kernel_rfl) (of_decide_eq_true (by kernel_rfl)) k2 bel lt2) trodAll_mk0))),rfl,bel.frame _,fun h=>by cases h⟩
theorem fourF:((Rows.topBoundsHoldRow.inPlace==Tryz.prog.inPlace 4)&&(Rows.topBoundsHoldRow.unfollowed==Tryz.prog.unfollowed 4)&&(Rows.topBoundsHoldRow.recurses==Tryz.prog.recurses 4)&&(Rows.topBoundsHoldRow.named==Tryz.prog.varsNamed 4))=true:=by kernel_rfl
theorem joinedF:joinedFacts Tryz.prog 4 Tryz.f4 Rows.topBoundsHoldSpec Rows.topBoundsHoldRow=true:=by
 have h:=fourF;simp only [Bool.and_eq_true] at h;obtain ⟨⟨⟨a,b⟩,c⟩,d⟩:=h;unfold joinedFacts;rw [gT_,hA_.2.2.2.2.2,a,b,c,d,show (Rows.topBoundsHoldRow.plainKeys==Tryz.prog.plainKeys)=true from hA_.2.2.2.2.1,hA_.2.2.2.1,hA_.1,show (Rows.topBoundsHoldRow.lifted==Tryz.prog.liftsFinal)=true from hA_.2.1,show (Tryz.prog.make==some Rows.topBoundsHoldRow.make)=true from hA_.2.2.1]
 decide +kernel
theorem goesF:false=Rows.topBoundsHoldRow.goesBy Tryz.prog:=by kernel_rfl
theorem holds:Rows.TopBoundsHoldSaid :=
 OpenClaim.holds_of_wide 4 Tryz.f4 rfl rfl rfl rfl rfl rfl rfl ⟨rfl,rfl,rfl,rfl,rfl⟩ rfl rfl rfl rfl rfl (by kernel_rfl) Tryz.func4 joinedF
  (of_decide_eq_true (by kernel_rfl)) (by unfold Func.isWrapper;first | (rw [if_pos (by decide +kernel)];kernel_rfl) | (rw [if_neg (by decide +kernel)];exact ⟨rfl,rfl⟩))
  (fun os started H enc _=>lifted os started H enc)
theorem card_holds:Rows.TopBoundsHoldCardSaid :=
 Claim7.holds_tied_plain_at .later [] [.data, .data, .data] true (true, "692fe83d3300bb4fb542bf196ad89efad5f7b68adaa3b00508caee40a669d5ce") false
  holds (fun _ h=>by cases h) (by kernel_rfl) (fun _ h=>by cases h) topBoundsHold_row_tie rfl ⟨rfl,rfl⟩ hB_ rfl
  (fun f fn hf hfn=>by
   obtain rfl : f = 4 := Option.some.inj ((show Tryz.prog.funcNamed "skewback/skewbacktop.TopBoundsHold" = some 4 by kernel_rfl).symm.trans hf) |>.symm
   obtain rfl:fn=Tryz.f4:=(Option.some.inj (Tryz.func4.symm.trans hfn)).symm
   exact ⟨hg_,fun j t ht=>by
    rw [Tryz.params4] at ht
    have hm:t∈[25,33,47]:=by
     have h1:=Array.mem_of_getElem? ht
     simp at h1 ⊢
     grind
    have hall:([25,33,47].all fun u=>!Tryz.prog.wantsStandIn u)=true:=by kernel_rfl
    exact (show Tryz.prog.wantsStandIn t=false by simpa using List.all_eq_true.1 hall t hm)⟩)
  goesF
end Go.Proofs.YtcjoflcajgaifaaGreatDoor
