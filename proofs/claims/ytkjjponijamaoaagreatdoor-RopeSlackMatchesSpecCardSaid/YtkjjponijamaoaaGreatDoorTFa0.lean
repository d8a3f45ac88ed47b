/- Lemmas: what they ask stands in their statements. -/
import Derived.Test.YtkjjponijamaoaaGreatDoorProg
import Derived.Test.YtkjjponijamaoaaGreatDoorTGE
set_option linter.unusedSimpArgs false
set_option linter.unusedVariables false
namespace Go.Proofs.YtkjjponijamaoaaGreatDoor
open Go.Kn Go.Num Tryz
def enL_:List Nat:=[13,14,15,16,17,18,19,20,21,22,23,24,25,26,27,28,29,30,31,32,33,34,35,36,37,38,39,40,41,42,43,44,45,46,47,48,49,50,51,52,53,54,55,56,57,58,59,60,61,62,63,64,65,66,67,68,69,70,71,72,73,74,75,76,77,78,79,80,81,82,83,84,85,86,87,88,89,90,91,92,93,94,95,96,97,98,99,100,101,102,103,104,105,106,107,108,109,110,111,112,113,114,115,116,117,118,119,120,121,122,123,124,125,126,127,128,129,130,131,132,133,134,135,136,137,138,139,140,141,142,143,144,145,146,147,148,149,150,151,152,153,154,155,156,157,158,159,160,161,162,163,164,165,166,167,168,169,170,171,172,173,174,175,176,177,178,179,180,181,182,183,184,185,186,187,188,189,190,191,192,193,194,195,196,197,198,199,200,201,202,203,204,205,206,207,208,209,210,211,212,213,214,215,216,217,218,219,220,221,222,223,224,225,226,227,228,229,230,231,232,233,234,235,236,237,238,239,240,241,242,243,244,245,246,247,248,249,250,251,252,253,254,255,256,257,258,259,260,261,262,263,264,265,266,267,268,269,270,271,272,273,274,275,276,277,278,279,280,282,283]
theorem ig_:enL_.all (fun g=>nU prog g)=true:=by kernel_rfl
theorem aB {g:Nat} (h:enL_.contains g=true:=by rfl):nU prog g=true:=List.all_eq_true.1 ig_ g (List.contains_iff_mem.1 h)
theorem mix:prog.follows .mixedOrders=true:=by kernel_rfl
def pQa (o:List Nat):Nat→Nat→List Nat
  | 0,_=>[]
  | k+1,i=>(4 * i+bif o.contains i then 1 else 0) :: pQa o k (i+1)
section
variable {w0:World} {X:List Nat} {N:Nm} {S:Fr} {M MD:List Blk} {Q:sY} {y:Code} {id:Nat} {ops:List Oper}
theorem oX (sub:MD.Sublist M) (n:Nat) (o nx:List Nat) (h:PL prog w0 X N ops (nwx ops nx) MD (Nx prog w0 X N y Q) (mP ops.toArray (pQa o n 0)) S M)
    (hok:(Region.noSelect ops.toArray&&Plan.ok ops.toArray (nwx ops nx) ops.length (Array.replicate ops.length false) (mP ops.toArray (pQa o n 0)))=true:=by kernel_rfl):Go.Kn.W prog w0 X N (.seq (.region id ops.toArray true) y) Q S M:=gds sub _ nx mix hok h
theorem jQ (sub:MD.Sublist M) (n:Nat) (o nx:List Nat) (h:PL prog w0 X N ops (nwx ops nx) MD (Nk Q) (mP ops.toArray (pQa o n 0)) S M)
    (hok:(Region.noSelect ops.toArray&&Plan.ok ops.toArray (nwx ops nx) ops.length (Array.replicate ops.length false) (mP ops.toArray (pQa o n 0)))=true:=by kernel_rfl):Go.Kn.W prog w0 X N (.region id ops.toArray true) Q S M:=gdr sub _ nx mix hok h
end
instance:FAr prog 23 (3,1):=⟨by kernel_rfl⟩
instance:FAr prog 29 (16,1):=⟨by kernel_rfl⟩
instance:FAr prog 35 (3,36):=⟨by kernel_rfl⟩
instance:FAr prog 52 (6,36):=⟨by kernel_rfl⟩
instance:FAr prog 62 (2,18):=⟨by kernel_rfl⟩
instance:FAr prog 66 (4,1):=⟨by kernel_rfl⟩
instance:FAr prog 67 (4,1):=⟨by kernel_rfl⟩
instance:FAr prog 126 (2,108):=⟨by kernel_rfl⟩
instance:FAr prog 146 (3,18):=⟨by kernel_rfl⟩
instance:FAr prog 151 (3,1):=⟨by kernel_rfl⟩
instance:FAr prog 162 (32,1):=⟨by kernel_rfl⟩
instance:FAr prog 201 (4,1):=⟨by kernel_rfl⟩
instance:FAr prog 206 (9,1):=⟨by kernel_rfl⟩
instance:FAr prog 254 (17,1):=⟨by kernel_rfl⟩
instance:FAr prog 268 (9,1):=⟨by kernel_rfl⟩
theorem F2:NO prog 4=true:=by kernel_rfl
theorem g8_:prog.eqGuardType prog.depth 23=false:=by kernel_rfl
theorem LP:prog.eqGuardType prog.depth 29=false:=by kernel_rfl
theorem OR:prog.eqGuardType prog.depth 31=false:=by kernel_rfl
theorem SJ:prog.eqGuardType prog.depth 33=false:=by kernel_rfl
theorem g9_:prog.eqGuardType prog.depth 37=false:=by kernel_rfl
theorem eB_:prog.eqGuardType prog.depth 52=false:=by kernel_rfl
theorem eC_:prog.eqGuardType prog.depth 67=false:=by kernel_rfl
instance:FEl prog 23 (3,1,false):=⟨by kernel_rfl⟩
instance:FEl prog 66 (4,1,false):=⟨by kernel_rfl⟩
instance:FEl prog 67 (4,1,false):=⟨by kernel_rfl⟩
instance:FEl prog 146 (3,18,true):=⟨by kernel_rfl⟩
instance:FFd prog 25 0 (0,1):=⟨by kernel_rfl⟩
instance:FFd prog 25 1 (1,1):=⟨by kernel_rfl⟩
instance:FFd prog 25 2 (2,3):=⟨by kernel_rfl⟩
instance:FFd prog 25 3 (5,3):=⟨by kernel_rfl⟩
instance:FFd prog 31 0 (0,1):=⟨by kernel_rfl⟩
instance:FFd prog 31 1 (1,1):=⟨by kernel_rfl⟩
instance:FFd prog 31 2 (2,16):=⟨by kernel_rfl⟩
instance:FFd prog 33 0 (0,18):=⟨by kernel_rfl⟩
instance:FFd prog 33 1 (18,18):=⟨by kernel_rfl⟩
instance:FFd prog 37 0 (0,1):=⟨by kernel_rfl⟩
instance:FFd prog 37 1 (1,1):=⟨by kernel_rfl⟩
instance:FFd prog 37 2 (2,108):=⟨by kernel_rfl⟩
instance:FFd prog 37 3 (110,108):=⟨by kernel_rfl⟩
instance:FFd prog 42 0 (0,218):=⟨by kernel_rfl⟩
instance:FFd prog 42 1 (218,1):=⟨by kernel_rfl⟩
instance:FFd prog 56 0 (0,3):=⟨by kernel_rfl⟩
instance:FFd prog 56 1 (3,1):=⟨by kernel_rfl⟩
instance:FFd prog 59 0 (0,216):=⟨by kernel_rfl⟩
instance:FFd prog 59 1 (216,216):=⟨by kernel_rfl⟩
instance:FFd prog 59 2 (432,1):=⟨by kernel_rfl⟩
instance:FFd prog 69 0 (0,3):=⟨by kernel_rfl⟩
instance:FFd prog 69 1 (3,4):=⟨by kernel_rfl⟩
instance:FFd prog 71 0 (0,7):=⟨by kernel_rfl⟩
instance:FFd prog 71 1 (7,7):=⟨by kernel_rfl⟩
instance:FFd prog 77 0 (0,1):=⟨by kernel_rfl⟩
instance:FFd prog 77 1 (1,1):=⟨by kernel_rfl⟩
instance:FFd prog 85 0 (0,1):=⟨by kernel_rfl⟩
instance:FFd prog 85 1 (1,1):=⟨by kernel_rfl⟩
instance:FFd prog 105 0 (0,18):=⟨by kernel_rfl⟩
instance:FFd prog 105 1 (18,1):=⟨by kernel_rfl⟩
instance:FFd prog 114 0 (0,1):=⟨by kernel_rfl⟩
instance:FFd prog 114 1 (1,1):=⟨by kernel_rfl⟩
instance:FFd prog 131 0 (0,1):=⟨by kernel_rfl⟩
instance:FFd prog 131 1 (1,3):=⟨by kernel_rfl⟩
instance:FFd prog 136 0 (0,108):=⟨by kernel_rfl⟩
instance:FFd prog 136 1 (108,1):=⟨by kernel_rfl⟩
instance:FFd prog 159 0 (0,3):=⟨by kernel_rfl⟩
instance:FFd prog 159 1 (3,1):=⟨by kernel_rfl⟩
instance:FFd prog 183 0 (0,1):=⟨by kernel_rfl⟩
instance:FFd prog 183 1 (1,1):=⟨by kernel_rfl⟩
instance:FFd prog 231 0 (0,1):=⟨by kernel_rfl⟩
instance:FFd prog 231 1 (1,1):=⟨by kernel_rfl⟩
instance:FFl prog 85 1 (1,1,false):=⟨by kernel_rfl⟩
theorem HH:JL prog 3=some .i64:=by kernel_rfl
theorem QM:JL prog 5=some .u8:=by kernel_rfl
theorem j6:JL prog 28=some .u32:=by kernel_rfl
theorem iQ:JL prog 164=some .u64:=by kernel_rfl
theorem MJ:oK prog 8 29=some (true,(List.replicate 16 (some IntKind.u32))):=by kernel_rfl
theorem hk_:oK prog 8 23=some (true,([some .i64] ++ ([some .i64] ++ [some .i64]))):=by kernel_rfl
theorem O0:oK prog 8 31=some (true,LI):=by kernel_rfl
theorem S8:oK prog 8 33=some (true,(LI ++ LI)):=by kernel_rfl
theorem hl_:oK prog 8 37=some (true,([some .i64] ++ ([some .i64] ++ (LI ++ (LI ++ (LI ++ (LI ++ (LI ++ (LI ++ (LI ++ (LI ++ (LI ++ (LI ++ (LI ++ LI)))))))))))))):=by kernel_rfl
theorem eH_:oK prog 8 52=some (true,(LI ++ (LI ++ (LI ++ (LI ++ (LI ++ (LI ++ (LI ++ (LI ++ (LI ++ (LI ++ (LI ++ LI)))))))))))):=by kernel_rfl
theorem eI_:oK prog 8 67=some (true,([some .i64] ++ ([some .i64] ++ ([some .i64] ++ [some .i64])))):=by kernel_rfl
theorem VU:UH prog 3=true:=by kernel_rfl
instance:FPl prog 25 [(0,1),(1,1),(2,3),(5,3)]:=⟨by kernel_rfl⟩
instance:FPl prog 31 [(0,1),(1,1),(2,16)]:=⟨by kernel_rfl⟩
instance:FPl prog 33 [(0,18),(18,18)]:=⟨by kernel_rfl⟩
instance:FPl prog 37 [(0,1),(1,1),(2,108),(110,108)]:=⟨by kernel_rfl⟩
instance:FPl prog 42 [(0,218),(218,1)]:=⟨by kernel_rfl⟩
instance:FPl prog 56 [(0,3),(3,1)]:=⟨by kernel_rfl⟩
instance:FPl prog 59 [(0,216),(216,216),(432,1)]:=⟨by kernel_rfl⟩
instance:FPl prog 69 [(0,3),(3,4)]:=⟨by kernel_rfl⟩
instance:FPl prog 71 [(0,7),(7,7)]:=⟨by kernel_rfl⟩
instance:FPl prog 77 [(0,1),(1,1)]:=⟨by kernel_rfl⟩
instance:FPl prog 85 [(0,1),(1,1)]:=⟨by kernel_rfl⟩
instance:FPl prog 105 [(0,18),(18,1)]:=⟨by kernel_rfl⟩
instance:FPl prog 114 [(0,1),(1,1)]:=⟨by kernel_rfl⟩
instance:FPl prog 131 [(0,1),(1,3)]:=⟨by kernel_rfl⟩
instance:FPl prog 136 [(0,108),(108,1)]:=⟨by kernel_rfl⟩
instance:FPl prog 159 [(0,3),(3,1)]:=⟨by kernel_rfl⟩
instance:FPl prog 183 [(0,1),(1,1)]:=⟨by kernel_rfl⟩
instance:FPl prog 231 [(0,1),(1,1)]:=⟨by kernel_rfl⟩
theorem PD:pO prog 26=some 7:=by kernel_rfl
theorem pF:pO prog 72=some 18:=by kernel_rfl
theorem jV:pO prog 73=some 18:=by kernel_rfl
theorem uW:pO prog 80=some 36:=by kernel_rfl
theorem eX_:pO prog 83=some 14:=by kernel_rfl
theorem RE:pO prog 166=some 1:=by kernel_rfl
theorem jK:pO prog 192=some 1:=by kernel_rfl
theorem tI:pO prog 247=some 1:=by kernel_rfl
theorem ee_:prog.underlying 9=some .string:=by kernel_rfl
theorem rP:(prog.info? 3).map (·.size)=some 1:=by kernel_rfl
theorem lG:(prog.info? 31).map (·.size)=some 18:=by kernel_rfl
theorem H2:(prog.info? 33).map (·.size)=some 36:=by kernel_rfl
theorem eZ_:(prog.info? 69).map (·.size)=some 7:=by kernel_rfl
theorem hT_:(prog.info? 71).map (·.size)=some 14:=by kernel_rfl
theorem H3:(prog.info? 73).map (·.size)=some 1:=by kernel_rfl
theorem jl_:qU prog 3=some (false,1):=by kernel_rfl
instance:FTy prog 3 (false,1):=⟨jl_⟩
theorem jm_:qU prog 4=some (false,1):=by kernel_rfl
instance:FTy prog 4 (false,1):=⟨jm_⟩
theorem iW_:qU prog 23=some (true,3):=by kernel_rfl
instance:FTy prog 23 (true,3):=⟨iW_⟩
theorem iX_:qU prog 25=some (true,8):=by kernel_rfl
instance:FTy prog 25 (true,8):=⟨iX_⟩
theorem iY_:qU prog 26=some (false,1):=by kernel_rfl
instance:FTy prog 26 (false,1):=⟨iY_⟩
theorem iZ_:qU prog 28=some (false,1):=by kernel_rfl
instance:FTy prog 28 (false,1):=⟨iZ_⟩
theorem i0_:qU prog 29=some (true,16):=by kernel_rfl
instance:FTy prog 29 (true,16):=⟨i0_⟩
theorem i1_:qU prog 31=some (true,18):=by kernel_rfl
instance:FTy prog 31 (true,18):=⟨i1_⟩
theorem i2_:qU prog 33=some (true,36):=by kernel_rfl
instance:FTy prog 33 (true,36):=⟨i2_⟩
theorem i3_:qU prog 35=some (true,108):=by kernel_rfl
instance:FTy prog 35 (true,108):=⟨i3_⟩
theorem i4_:qU prog 37=some (true,218):=by kernel_rfl
instance:FTy prog 37 (true,218):=⟨i4_⟩
theorem i5_:qU prog 38=some (false,1):=by kernel_rfl
instance:FTy prog 38 (false,1):=⟨i5_⟩
theorem i6_:qU prog 42=some (true,219):=by kernel_rfl
instance:FTy prog 42 (true,219):=⟨i6_⟩
theorem iH_:qU prog 52=some (true,216):=by kernel_rfl
instance:FTy prog 52 (true,216):=⟨iH_⟩
theorem i7_:qU prog 56=some (true,4):=by kernel_rfl
instance:FTy prog 56 (true,4):=⟨i7_⟩
theorem i8_:qU prog 59=some (true,433):=by kernel_rfl
instance:FTy prog 59 (true,433):=⟨i8_⟩
theorem i9_:qU prog 62=some (true,36):=by kernel_rfl
instance:FTy prog 62 (true,36):=⟨i9_⟩
theorem ja_:qU prog 66=some (true,4):=by kernel_rfl
instance:FTy prog 66 (true,4):=⟨ja_⟩
theorem jb_:qU prog 67=some (true,4):=by kernel_rfl
instance:FTy prog 67 (true,4):=⟨jb_⟩
theorem jc_:qU prog 69=some (true,7):=by kernel_rfl
instance:FTy prog 69 (true,7):=⟨jc_⟩
theorem jd_:qU prog 71=some (true,14):=by kernel_rfl
instance:FTy prog 71 (true,14):=⟨jd_⟩
theorem je_:qU prog 72=some (false,1):=by kernel_rfl
instance:FTy prog 72 (false,1):=⟨je_⟩
theorem jf_:qU prog 73=some (false,1):=by kernel_rfl
instance:FTy prog 73 (false,1):=⟨jf_⟩
theorem jg_:qU prog 77=some (true,2):=by kernel_rfl
instance:FTy prog 77 (true,2):=⟨jg_⟩
theorem jh_:qU prog 80=some (false,1):=by kernel_rfl
instance:FTy prog 80 (false,1):=⟨jh_⟩
theorem ji_:qU prog 83=some (false,1):=by kernel_rfl
instance:FTy prog 83 (false,1):=⟨ji_⟩
theorem jj_:qU prog 85=some (true,2):=by kernel_rfl
instance:FTy prog 85 (true,2):=⟨jj_⟩
theorem jk_:qU prog 89=some (false,1):=by kernel_rfl
instance:FTy prog 89 (false,1):=⟨jk_⟩
theorem iI_:qU prog 105=some (true,19):=by kernel_rfl
instance:FTy prog 105 (true,19):=⟨iI_⟩
theorem iJ_:qU prog 114=some (true,2):=by kernel_rfl
instance:FTy prog 114 (true,2):=⟨iJ_⟩
theorem iK_:qU prog 131=some (true,4):=by kernel_rfl
instance:FTy prog 131 (true,4):=⟨iK_⟩
theorem iL_:qU prog 136=some (true,109):=by kernel_rfl
instance:FTy prog 136 (true,109):=⟨iL_⟩
theorem iM_:qU prog 146=some (true,54):=by kernel_rfl
instance:FTy prog 146 (true,54):=⟨iM_⟩
theorem iN_:qU prog 151=some (true,3):=by kernel_rfl
instance:FTy prog 151 (true,3):=⟨iN_⟩
theorem iO_:qU prog 159=some (true,4):=by kernel_rfl
instance:FTy prog 159 (true,4):=⟨iO_⟩
theorem iP_:qU prog 175=some (false,1):=by kernel_rfl
instance:FTy prog 175 (false,1):=⟨iP_⟩
theorem iQ_:qU prog 183=some (true,2):=by kernel_rfl
instance:FTy prog 183 (true,2):=⟨iQ_⟩
theorem iR_:qU prog 192=some (false,1):=by kernel_rfl
instance:FTy prog 192 (false,1):=⟨iR_⟩
theorem iS_:qU prog 201=some (true,4):=by kernel_rfl
instance:FTy prog 201 (true,4):=⟨iS_⟩
theorem iT_:qU prog 206=some (true,9):=by kernel_rfl
instance:FTy prog 206 (true,9):=⟨iT_⟩
theorem iU_:qU prog 231=some (true,2):=by kernel_rfl
instance:FTy prog 231 (true,2):=⟨iU_⟩
theorem iV_:qU prog 268=some (true,9):=by kernel_rfl
instance:FTy prog 268 (true,9):=⟨iV_⟩
theorem e0_:prog.underlying 26=some (.slice 69):=by kernel_rfl
theorem kL:prog.underlying 72=some (.slice 31):=by kernel_rfl
theorem GC:prog.underlying 73=some (.slice 31):=by kernel_rfl
theorem y4:prog.underlying 80=some (.slice 33):=by kernel_rfl
theorem e1_:prog.underlying 83=some (.slice 71):=by kernel_rfl
theorem jH:prog.underlying 192=some (.slice 3):=by kernel_rfl
theorem DM:prog.underlying 247=some (.slice 73):=by kernel_rfl
theorem z_3:pD prog 3=some [.int .i64 0]:=by kernel_rfl
theorem tK:pD prog 29=some (uw (List.replicate 16 0)):=by kernel_rfl
theorem kN:pD prog 31=some zR:=by kernel_rfl
theorem RM:pD prog 33=some (([.bool false] ++ [.bool false] ++ (List.replicate 16 (.int .u32 0))) ++ ([.bool false] ++ [.bool false] ++ (List.replicate 16 (.int .u32 0)))):=by kernel_rfl
theorem h2_:pD prog 69=some ((List.replicate 3 (.int .i64 0)) ++ (List.replicate 4 (.int .i64 0))):=by kernel_rfl
theorem iE_:pD prog 71=some (((List.replicate 3 (.int .i64 0)) ++ (List.replicate 4 (.int .i64 0))) ++ ((List.replicate 3 (.int .i64 0)) ++ (List.replicate 4 (.int .i64 0)))):=by kernel_rfl
theorem RN:pD prog 73=some [.slice none 0 0]:=by kernel_rfl
theorem h0_:pD prog 162=some (uw (List.replicate 32 0)):=by kernel_rfl
theorem h1_:pD prog 254=some (uw (List.replicate 17 0)):=by kernel_rfl
instance:FZp prog 4 [cb false]:=⟨by kernel_rfl⟩
instance:FZp prog 23 [ci .i64 0,ci .i64 0,ci .i64 0]:=⟨by kernel_rfl⟩
instance:FZp prog 25 [ci .i64 0,ci .i64 0,ci .i64 0,ci .i64 0,ci .i64 0,ci .i64 0,ci .i64 0,ci .i64 0]:=⟨by kernel_rfl⟩
instance:FZp prog 31 [pI I0]:=⟨by kernel_rfl⟩
instance:FZp prog 33 [pI I0,pI I0]:=⟨by kernel_rfl⟩
instance:FZp prog 35 [pI I0,pI I0,pI I0,pI I0,pI I0,pI I0]:=⟨by kernel_rfl⟩
instance:FZp prog 37 [ci .i64 0,ci .i64 0,pI I0,pI I0,pI I0,pI I0,pI I0,pI I0,pI I0,pI I0,pI I0,pI I0,pI I0,pI I0]:=⟨by kernel_rfl⟩
instance:FZp prog 38 [ci .i64 0]:=⟨by kernel_rfl⟩
instance:FZp prog 42 [ci .i64 0,ci .i64 0,pI I0,pI I0,pI I0,pI I0,pI I0,pI I0,pI I0,pI I0,pI I0,pI I0,pI I0,pI I0,ci .i64 0]:=⟨by kernel_rfl⟩
instance:FZp prog 52 [pI I0,pI I0,pI I0,pI I0,pI I0,pI I0,pI I0,pI I0,pI I0,pI I0,pI I0,pI I0]:=⟨by kernel_rfl⟩
instance:FZp prog 56 [ci .i64 0,ci .i64 0,ci .i64 0,ci .i64 0]:=⟨by kernel_rfl⟩
instance:FZp prog 59 [pI I0,pI I0,pI I0,pI I0,pI I0,pI I0,pI I0,pI I0,pI I0,pI I0,pI I0,pI I0,pI I0,pI I0,pI I0,pI I0,pI I0,pI I0,pI I0,pI I0,pI I0,pI I0,pI I0,pI I0,ci .i64 0]:=⟨by kernel_rfl⟩
instance:FZp prog 62 [pI I0,pI I0]:=⟨by kernel_rfl⟩
instance:FZp prog 67 [ci .i64 0,ci .i64 0,ci .i64 0,ci .i64 0]:=⟨by kernel_rfl⟩
instance:FZp prog 69 [ci .i64 0,ci .i64 0,ci .i64 0,ci .i64 0,ci .i64 0,ci .i64 0,ci .i64 0]:=⟨by kernel_rfl⟩
instance:FZp prog 71 [ci .i64 0,ci .i64 0,ci .i64 0,ci .i64 0,ci .i64 0,ci .i64 0,ci .i64 0,ci .i64 0,ci .i64 0,ci .i64 0,ci .i64 0,ci .i64 0,ci .i64 0,ci .i64 0]:=⟨by kernel_rfl⟩
instance:FZp prog 72 [csl none 0 0]:=⟨by kernel_rfl⟩
instance:FZp prog 73 [csl none 0 0]:=⟨by kernel_rfl⟩
instance:FZp prog 77 [csl none 0 0,ci .i64 0]:=⟨by kernel_rfl⟩
instance:FZp prog 80 [csl none 0 0]:=⟨by kernel_rfl⟩
instance:FZp prog 85 [csl none 0 0,ci .i64 0]:=⟨by kernel_rfl⟩
instance:FZp prog 105 [pI I0,ci .i64 0]:=⟨by kernel_rfl⟩
instance:FZp prog 114 [csl none 0 0,ci .i64 0]:=⟨by kernel_rfl⟩
instance:FZp prog 126 [pI I0,pI I0,pI I0,pI I0,pI I0,pI I0,pI I0,pI I0,pI I0,pI I0,pI I0,pI I0]:=⟨by kernel_rfl⟩
instance:FZp prog 131 [ci .i64 0,ci .i64 0,ci .i64 0,ci .i64 0]:=⟨by kernel_rfl⟩
instance:FZp prog 136 [pI I0,pI I0,pI I0,pI I0,pI I0,pI I0,ci .i64 0]:=⟨by kernel_rfl⟩
instance:FZp prog 146 [pI I0,pI I0,pI I0]:=⟨by kernel_rfl⟩
instance:FZp prog 151 [csl none 0 0,csl none 0 0,csl none 0 0]:=⟨by kernel_rfl⟩
instance:FZp prog 159 [csl none 0 0,csl none 0 0,csl none 0 0,csl none 0 0]:=⟨by kernel_rfl⟩
instance:FZp prog 175 [gY_]:=⟨by kernel_rfl⟩
instance:FZp prog 183 [ci .i64 0,cb false]:=⟨by kernel_rfl⟩
instance:FZp prog 201 [csl none 0 0,csl none 0 0,csl none 0 0,csl none 0 0]:=⟨by kernel_rfl⟩
instance:FZp prog 206 [csl none 0 0,csl none 0 0,csl none 0 0,csl none 0 0,csl none 0 0,csl none 0 0,csl none 0 0,csl none 0 0,csl none 0 0]:=⟨by kernel_rfl⟩
instance:FZp prog 231 [csl none 0 0,cb false]:=⟨by kernel_rfl⟩
instance:FZp prog 268 [ci .i64 0,ci .i64 0,ci .i64 0,ci .i64 0,ci .i64 0,ci .i64 0,ci .i64 0,ci .i64 0,ci .i64 0]:=⟨by kernel_rfl⟩
open Go Go.Kn Go.Num
def vS0 (r:(A3 W)×W):Value:=.tuple #[AV [cw r.1.x.1,cw r.1.y.1,cw r.1.z.1],.int .i64 r.2.1]
def vS1 (r:(A4 W)×Bool):Value:=.tuple #[AV [cw r.1.x.1,cw r.1.y.1,cw r.1.z.1,cw r.1.t.1],.bool r.2]
def vS2 (r:Bool):Value:=.bool r
def vS3 (r:Bool×W):Value:=.tuple #[.bool r.1,.int .i64 r.2.1]
def vS4 (r:I):Value:=AV [pI r]
def vS5 (r:I×I):Value:=.tuple #[AV [pI r.1],AV [pI r.2]]
def vS6 (r:I×W):Value:=.tuple #[AV [pI r.1],.int .i64 r.2.1]
def vS7 (r:Rt):Value:=AV [pI r.n,pI r.d]
def vS8 (r:W):Value:=.int .i64 r.1
end Go.Proofs.YtkjjponijamaoaaGreatDoor
namespace Go.Num
open Go Go.Kn
def qO (a:I):I :=
  bif a.1.good then ((E (Z.of (sgn (!a.1.neg) (val a.1.w))))) else ((E Z.bad))
def qN (a:I):I :=
  bif a.1.good then ((E (Z.of (sgn false (val a.1.w))))) else ((E Z.bad))
def nZ (a:I):W :=
  bif (!a.1.good||((((dl (val a.1.w)).length:Nat):Int)==0)) then ((wl 0)) else (bif a.1.neg then ((wl (-1))) else ((wl 1)))
def nG (a:I) (b:I):I :=
  bif ((kI a.1)&&((kI b.1)&&((fI b).1 != 0))) then ((E (Z.of (W.fdiv (fI a) (fI b)).1))) else (bif (!a.1.good||(!b.1.good||((((dl (val b.1.w)).length:Nat):Int)==0))) then ((E Z.bad)) else (bif ((a.1.neg != b.1.neg)&&decide (0<(((dl ((val a.1.w) % (val b.1.w))).length:Nat):Int))) then ((E (Z.of (sgn (a.1.neg != b.1.neg) (((val a.1.w) / (val b.1.w))+1))))) else ((E (Z.of (sgn (a.1.neg != b.1.neg) ((val a.1.w) / (val b.1.w))))))))
def F_ratio_one :I :=
  let q0:I:=(E (Z.of 1))
  q0
def uY :Rt :=
  let q0:I:=(E Z.bad)
  let q1:I:=F_ratio_one
  (⟨q0,q1⟩:Rt)
def nS (a:I):Bool :=
  (!a.1.bad&&a.1.valid)
def aT (a:Rt):Bool :=
  ((nS a.n)&&((nS a.d)&&(decide (0<(Z.signW a.d.dec).1)&&decide ((E (Z.gcd a.n.dec a.d.dec))=F_ratio_one))))
def cX (a:I) (b:I):Rt :=
  bif (!(nS a)||(!(nS b)||((Z.signW b.dec).1==0))) then (uY) else (bif decide ((Z.signW b.dec).1<0) then ((⟨(E (Z.quo a.dec (Z.neg (Z.gcd a.dec b.dec)))),(E (Z.quo b.dec (Z.neg (Z.gcd a.dec b.dec))))⟩:Rt)) else ((⟨(E (Z.quo a.dec (Z.gcd a.dec b.dec))),(E (Z.quo b.dec (Z.gcd a.dec b.dec)))⟩:Rt)))
def pK (a:I):Rt :=
  (cX a F_ratio_one)
def bR (a:W):Rt :=
  (pK (E (Z.of a.1)))
def tL (a:Rt):Rt :=
  bif (aT a) then ((⟨(E (Z.neg a.n.dec)),a.d⟩:Rt)) else (uY)
def kF (a:Rt) (b:Rt):Rt :=
  bif (!(aT a)||(!(aT b))) then (uY) else (let r15:I:=(E (Z.add (Z.mul a.n.dec (Z.quo b.d.dec (Z.gcd a.d.dec b.d.dec))) (Z.mul b.n.dec (Z.quo a.d.dec (Z.gcd a.d.dec b.d.dec)))))
  let r16:Rt:=(cX r15 (E (Z.mul (Z.quo a.d.dec (Z.gcd a.d.dec b.d.dec)) b.d.dec)))
  r16)
def eP (a:Rt) (b:Rt):Rt :=
  (kF a (tL b))
def dG (a:Rt) (b:Rt):Rt :=
  bif (!(aT a)||(!(aT b))) then (uY) else (let r26:I:=(E (Z.mul ((cX a.n b.d).n).dec ((cX b.n a.d).n).dec))
  let r27:I:=(E (Z.mul ((cX a.n b.d).d).dec ((cX b.n a.d).d).dec))
  bif (r26.1.bad||r27.1.bad) then (uY) else ((⟨r26,r27⟩:Rt)))
def F_skewbackref04_one :I :=
  let q0:I:=(E (Z.of 1))
  q0
def lB :Rt :=
  let q0:I:=(E Z.bad)
  let q1:I:=F_skewbackref04_one
  (⟨q0,q1⟩:Rt)
def bH (a:I) (b:I):Rt :=
  bif (!a.1.good||(!b.1.good||((Z.signW b.dec).1==0))) then (lB) else (bif decide ((Z.signW b.dec).1<0) then ((⟨(E (Z.quo a.dec (Z.neg (Z.gcd a.dec b.dec)))),(E (Z.quo b.dec (Z.neg (Z.gcd a.dec b.dec))))⟩:Rt)) else ((⟨(E (Z.quo a.dec (Z.gcd a.dec b.dec))),(E (Z.quo b.dec (Z.gcd a.dec b.dec)))⟩:Rt)))
def aJ (a:W):Rt :=
  let r2:Rt:=(bH (E (Z.of a.1)) F_skewbackref04_one)
  r2
def aG (a:Rt):Bool :=
  bif (!a.n.1.good||(!a.d.1.good)) then (false) else ((decide (0<(Z.signW a.d.dec).1)&&decide ((E (Z.gcd a.n.dec a.d.dec))=F_skewbackref04_one)))
def iH (a:(A3 I)):(A3 W)×W :=
  bif (E (Z.gcd (Z.gcd (Z.gcd (Z.of 0) a.x.dec) a.y.dec) a.z.dec)).1.bad then (((⟨(wl 0),(wl 0),(wl 0)⟩:(A3 W)),(wl 30))) else (bif ((Z.signW (Z.gcd (Z.gcd (Z.gcd (Z.of 0) a.x.dec) a.y.dec) a.z.dec)).1==0) then (((⟨(wl 0),(wl 0),(wl 0)⟩:(A3 W)),(wl 31))) else (let r11:I:=(E (Z.quo a.x.dec (Z.gcd (Z.gcd (Z.gcd (Z.of 0) a.x.dec) a.y.dec) a.z.dec)))
  bif (!r11.dec.small.2||(decide (2305843009213693952≤(Z.smallW r11.dec).1)||decide ((Z.smallW r11.dec).1≤(-2305843009213693952)))) then (((⟨(wl 0),(wl 0),(wl 0)⟩:(A3 W)),(wl 30))) else (let r19:I:=(E (Z.quo a.y.dec (Z.gcd (Z.gcd (Z.gcd (Z.of 0) a.x.dec) a.y.dec) a.z.dec)))
  bif (!r19.dec.small.2||(decide (2305843009213693952≤(Z.smallW r19.dec).1)||decide ((Z.smallW r19.dec).1≤(-2305843009213693952)))) then (((⟨(wl 0),(wl 0),(wl 0)⟩:(A3 W)),(wl 30))) else (let r27:I:=(E (Z.quo a.z.dec (Z.gcd (Z.gcd (Z.gcd (Z.of 0) a.x.dec) a.y.dec) a.z.dec)))
  bif (!r27.dec.small.2||(decide (2305843009213693952≤(Z.smallW r27.dec).1)||decide ((Z.smallW r27.dec).1≤(-2305843009213693952)))) then (((⟨(wl 0),(wl 0),(wl 0)⟩:(A3 W)),(wl 30))) else (((⟨(Z.smallW r11.dec),(Z.smallW r19.dec),(Z.smallW r27.dec)⟩:(A3 W)),(wl 0)))))))
def iD (a:(A3 W)):(A3 Rt) :=
  (⟨(bR a.x),(bR a.y),(bR a.z)⟩:(A3 Rt))
def pT (a:(A3 Rt)) (b:(A3 Rt)):Rt :=
  let r5:Rt:=(kF (bR (wl 0)) (dG a.x b.x))
  let r6:Rt:=(kF r5 (dG a.y b.y))
  let r7:Rt:=(kF r6 (dG a.z b.z))
  r7
def pU (a:(A3 Rt)) (b:(A3 Rt)):(A3 Rt) :=
  let r4:Rt:=(eP (dG a.y b.z) (dG a.z b.y))
  let r5:Rt:=(eP (dG a.z b.x) (dG a.x b.z))
  let r6:Rt:=(eP (dG a.x b.y) (dG a.y b.x))
  (⟨r4,r5,r6⟩:(A3 Rt))
def qX (a:(A3 Rt)) (b:(A3 Rt)):(A3 Rt) :=
  (⟨(kF a.x b.x),(kF a.y b.y),(kF a.z b.z)⟩:(A3 Rt))
def jS (a:(A3 Rt)) (b:(A3 Rt)):(A3 Rt) :=
  (⟨(eP a.x b.x),(eP a.y b.y),(eP a.z b.z)⟩:(A3 Rt))
def kR (a:Rt) (b:(A3 Rt)):(A3 Rt) :=
  (⟨(dG a b.x),(dG a b.y),(dG a b.z)⟩:(A3 Rt))
def mQ (a:(A3 W)):(A3 Rt) :=
  (⟨(aJ a.x),(aJ a.y),(aJ a.z)⟩:(A3 Rt))
def iS (a:W) (b:W):Nat→W→W→W×W
  | 0,p,q=>(p,q)
  | k0+1,p,q=>bif (q.1 != 0) then ((iS a b k0 q (W.rem p q))) else ((p,q))
def aA (a:W) (b:W):W :=
  ap (fun (s:W×W)=>let p:W:=s.1
  let q:W:=s.2
  (W.max p (W.neg p))) (iS a b (b.1.natAbs+1) a b)
def gW (a:(A4 W)):Bool :=
  bif (decide (64<a.x.1)||decide (a.x.1<(-64))) then (false) else (bif (decide (64<a.y.1)||decide (a.y.1<(-64))) then (false) else (bif (decide (64<a.z.1)||decide (a.z.1<(-64))) then (false) else (bif (decide (64<a.t.1)||decide (a.t.1<(-64))) then (false) else (true))))
def aU (a:W):W :=
  bif decide (a.1<0) then ((wl (-1))) else ((W.min a (wl 1)))
def dQ (a:(A4 W)):(A4 W)×Bool :=
  let r4:W:=(bif (a.t.1 != 0) then (aU a.t) else (wl 0))
  let r11:W:=(bif (a.y.1 != 0) then (aU a.y) else (bif (a.z.1 != 0) then (aU a.z) else r4))
  bif ((W.mul (bif (a.x.1 != 0) then (aU a.x) else r11) (W.max (aA (aA (aA (aA (wl 0) a.t) a.z) a.y) a.x) (W.neg (aA (aA (aA (aA (wl 0) a.t) a.z) a.y) a.x)))).1==0) then (((⟨(wl 0),(wl 0),(wl 0),(wl 0)⟩:(A4 W)),false)) else (((⟨(W.quo a.x (W.mul (bif (a.x.1 != 0) then (aU a.x) else r11) (W.max (aA (aA (aA (aA (wl 0) a.t) a.z) a.y) a.x) (W.neg (aA (aA (aA (aA (wl 0) a.t) a.z) a.y) a.x))))),(W.quo a.y (W.mul (bif (a.x.1 != 0) then (aU a.x) else r11) (W.max (aA (aA (aA (aA (wl 0) a.t) a.z) a.y) a.x) (W.neg (aA (aA (aA (aA (wl 0) a.t) a.z) a.y) a.x))))),(W.quo a.z (W.mul (bif (a.x.1 != 0) then (aU a.x) else r11) (W.max (aA (aA (aA (aA (wl 0) a.t) a.z) a.y) a.x) (W.neg (aA (aA (aA (aA (wl 0) a.t) a.z) a.y) a.x))))),(W.quo a.t (W.mul (bif (a.x.1 != 0) then (aU a.x) else r11) (W.max (aA (aA (aA (aA (wl 0) a.t) a.z) a.y) a.x) (W.neg (aA (aA (aA (aA (wl 0) a.t) a.z) a.y) a.x)))))⟩:(A4 W)),true))
def gD (a:(A4 W)):Bool :=
  bif (gW a) then (let r3:(A4 W):=(dQ a).1
  ((dQ a).2&&(decide (r3.x.1=a.x.1)&&(decide (r3.y.1=a.y.1)&&(decide (r3.z.1=a.z.1)&&decide (r3.t.1=a.t.1)))))) else (false)
def gJ (a:(A4 W)) (b:(A4 W)):W :=
  (W.add (W.add (W.add (W.mul a.x b.x) (W.mul a.y b.y)) (W.mul a.z b.z)) (W.mul a.t b.t))
def mN (a:I):I :=
  a
def rZ (a:I):Bool :=
  (!a.1.bad&&a.1.valid)
def F_poly_bad :(List I) :=
  let q0:I:=(E Z.bad)
  [q0]
def lN (n:Int) (f:Nat→I) (o:I→I):Nat→(List I)→Nat→(List I×Nat) ⊕ ((List I))
  | 0,out,i=>.inl (out,i)
  | k0+1,out,i=>bif decide (((i:Nat):Int)<(((n).toNat:Nat):Int)) then (bif (rZ (o (f i))) then ((lN n f o k0 (out ++ [(o (f i))]) (i+1))) else (.inr (F_poly_bad))) else (.inl (out,i))
def lO (n:Int) (f:Nat→I) (o:I→I) (out:List I) (i:Nat):Nat→(List I)→List I
  | 0,cut=>cut
  | k1+1,cut=>bif (decide (0<(((cut).length:Nat):Int))&&((Z.signW (cut.getD ((cut).length - 1) I0).dec).1==0)) then ((lO n f o out i k1 (cut.take ((cut).length - 1)))) else (cut)
def kO (n:Int) (f:Nat→I) (o:I→I):(List I) :=
  sm (fun (s_:List I×Nat)=>let out:List I:=s_.1
  let i:Nat:=s_.2
  ap (fun (s:List I)=>let cut:List I:=s
  bif decide (25<(((cut).length:Nat):Int)) then (F_poly_bad) else (cut)) (lO n f o out i ((out.length+1)) out)) (fun r=>r) (lN n f o ((n.toNat+1)) ([]:List I) 0)
def nD (n:Int) (f:Nat→Go.Num.W) (o:Go.Num.W→I):Nat→(List I)→Nat→(List I×Nat) ⊕ ((List I))
  | 0,out,i=>.inl (out,i)
  | k0+1,out,i=>bif decide (((i:Nat):Int)<(((n).toNat:Nat):Int)) then (bif (rZ (o (f i))) then ((nD n f o k0 (out ++ [(o (f i))]) (i+1))) else (.inr (F_poly_bad))) else (.inl (out,i))
def nE (n:Int) (f:Nat→Go.Num.W) (o:Go.Num.W→I) (out:List I) (i:Nat):Nat→(List I)→List I
  | 0,cut=>cut
  | k1+1,cut=>bif (decide (0<(((cut).length:Nat):Int))&&((Z.signW (cut.getD ((cut).length - 1) I0).dec).1==0)) then ((nE n f o out i k1 (cut.take ((cut).length - 1)))) else (cut)
def pG (n:Int) (f:Nat→Go.Num.W) (o:Go.Num.W→I):(List I) :=
  sm (fun (s_:List I×Nat)=>let out:List I:=s_.1
  let i:Nat:=s_.2
  ap (fun (s:List I)=>let cut:List I:=s
  bif decide (25<(((cut).length:Nat):Int)) then (F_poly_bad) else (cut)) (nE n f o out i ((out.length+1)) out)) (fun r=>r) (nD n f o ((n.toNat+1)) ([]:List I) 0)
def nJ (l:(List I)) (f:I→Bool):Nat→Nat→(Nat) ⊕ (W)
  | 0,i=>.inl i
  | k0+1,i=>bif decide (((i:Nat):Int)<(((l).length:Nat):Int)) then (bif (f (l.getD i I0)) then (.inr ((W.cv ((i:Nat):Int)))) else ((nJ l f k0 (i+1)))) else (.inl i)
def vZ (l:(List I)) (f:I→Bool):W :=
  sm (fun (s:Nat)=>let i:Nat:=s
  (wl (-1))) (fun r=>r) (nJ l f ((l.length+1)) 0)
def uX (l:(List I)) (f:I→Bool):Bool :=
  (decide (0≤(vZ l f).1))
def wQ (a:I):Bool :=
  (!(rZ a))
def dR (p:(List I)):Bool :=
  (uX p (fun (y:I)=>(wQ y)))
def mM (l:(List Rt)) (f:Rt→Bool):Nat→Nat→(Nat) ⊕ (W)
  | 0,i=>.inl i
  | k0+1,i=>bif decide (((i:Nat):Int)<(((l).length:Nat):Int)) then (bif (f (l.getD i Rt0)) then (.inr ((W.cv ((i:Nat):Int)))) else ((mM l f k0 (i+1)))) else (.inl i)
def rY (l:(List Rt)) (f:Rt→Bool):W :=
  sm (fun (s:Nat)=>let i:Nat:=s
  (wl (-1))) (fun r=>r) (mM l f ((l.length+1)) 0)
def lU (l:(List Rt)) (f:Rt→Bool):Bool :=
  (decide (0≤(rY l f).1))
def nM (a:Rt):Bool :=
  (!(aT a))
def kP (l:(List Rt)):Bool :=
  (!(lU l (fun (y:Rt)=>(nM y))))
def uC (k:Nat) (l:(List I)):I :=
  (l.getD k I0)
def gO (l:(List I)):(List I) :=
  (kO (((l).length:Nat):Int) (fun (y:Nat)=>(uC y l)) (fun (y:I)=>(mN y)))
def yX (k:Nat) (l:(List W)):W :=
  (l.getD k W.z)
def dS (l:(List W)):(List I) :=
  (pG (((l).length:Nat):Int) (fun (y:Nat)=>(yX y l)) (fun (y:Go.Num.W)=>(E (Z.of y.1))))
def lL (p:(List I)) (k:Int):I :=
  bif (decide (k<0)||decide ((((p).length:Nat):Int)≤k)) then (I0) else ((p.getD ((k).toNat) I0))
def uD (k:Nat) (f:I→I→I) (p:(List I)) (q:(List I)):I :=
  (f (lL p ((k:Nat):Int)) (lL q ((k:Nat):Int)))
def kE (p:(List I)) (q:(List I)) (f:I→I→I):(List I) :=
  bif ((dR p)||(dR q)) then (F_poly_bad) else ((kO (((max ((p).length) ((q).length)):Nat):Int) (fun (y:Nat)=>(uD y f p q)) (fun (y:I)=>(mN y))))
def bJ (p:(List I)) (q:(List I)):(List I) :=
  (kE p q (fun (y:I) (z:I)=>(E (Z.add y.dec z.dec))))
def kJ (p:(List I)) (q:(List I)):(List I) :=
  (kE p q (fun (y:I) (z:I)=>(E (Z.sub y.dec z.dec))))
def gT (k:Nat) (q:(List I)) (p:(List I)):Nat→Nat→I→Nat×I
  | 0,i,mb2=>(i,mb2)
  | k0+1,i,mb2=>bif decide (((i:Nat):Int)≤(min ((k:Nat):Int) ((((p).length:Nat):Int) - 1))) then ((gT k q p k0 (i+1) (E (Z.add mb2.dec (Z.mul (p.getD i I0).dec (q.getD (k - i) I0).dec))))) else ((i,mb2))
def nR (k:Nat) (q:(List I)) (p:(List I)):I :=
  ap (fun (s:Nat×I)=>let i:Nat:=s.1
  let mb2:I:=s.2
  mb2) (gT k q p ((k+2)) ((((((k:Nat):Int) - (((q).length:Nat):Int))+1)).toNat) I0)
def aW (p:(List I)) (q:(List I)):(List I) :=
  bif ((dR p)||(dR q)) then (F_poly_bad) else (bif (((((p).length:Nat):Int)==0)||((((q).length:Nat):Int)==0)) then (([]:List I)) else ((kO (((((p).length+(q).length):Nat):Int) - 1) (fun (y:Nat)=>(nR y q p)) (fun (y:I)=>(mN y)))))
def tC (a:I) (b:I) (n:I):I :=
  (E (Z.mul a.dec n.dec))
def bZ (p:(List I)) (n:I):(List I) :=
  bif (rZ n) then ((kE p ([]:List I) (fun (y:I) (z:I)=>(tC y z n)))) else (F_poly_bad)
def lJ (l:(List I)):List I→I→I
  | [],mb2=>mb2
  | x0 :: l0,mb2=>(lJ l l0 (E (Z.gcd mb2.dec x0.dec)))
def dN (l:(List I)):I :=
  ap (fun (s:I)=>let mb2:I:=s
  mb2) (lJ l l I0)
def pA (a:I) (b:I) (n:I):I :=
  (E (Z.quo a.dec n.dec))
def d7 (p:(List I)):(List I) :=
  (kE p ([]:List I) (fun (y:I) (z:I)=>(pA y z (dN p))))
def k8 (d:I) (n:Int):Nat→(List I)→List I
  | 0,out=>out
  | k0+1,out=>bif decide ((((out).length:Nat):Int)<n) then ((k8 d n k0 (out ++ [(E (Z.mul (out.getD ((out).length - 1) I0).dec d.dec))]))) else (out)
def fA (d:I) (n:Int):(List I) :=
  ap (fun (s:List I)=>let out:List I:=s
  out) (k8 d n ((n.toNat+1)) [(E (Z.of 1))])
def kX (p:(List I)) (x:Rt):Nat→Int→I→Int×I
  | 0,i,mb3=>(i,mb3)
  | k0+1,i,mb3=>bif decide (0≤i) then (let r25:I:=(E (Z.mul (p.getD ((i).toNat) I0).dec ((fA x.d (((p).length:Nat):Int)).getD (((p).length - 1) - (i).toNat) I0).dec))
  (kX p x k0 (i - 1) (E (Z.add (Z.mul mb3.dec x.n.dec) r25.dec)))) else ((i,mb3))
def iE (p:(List I)) (x:Rt):I×I :=
  bif ((dR p)||(!(kP [x]))) then (((E Z.bad),(E (Z.of 1)))) else (ap (fun (s:Int×I)=>let i:Int:=s.1
  let mb3:I:=s.2
  (mb3,((fA x.d (((p).length:Nat):Int)).getD ((((((p).length:Nat):Int) - 1)).toNat) I0))) (kX p x ((p.length+1)) ((((p).length:Nat):Int) - 1) I0))
def i1 (p:(List I)) (x:Rt):W×Bool :=
  ((Z.signW ((iE p x).1).dec),(!((iE p x).1).1.bad))
def pP (n:Int) (i:Int):Nat→Int→I→Int×I
  | 0,j,mb1=>(j,mb1)
  | k0+1,j,mb1=>bif decide (j≤n) then ((pP n i k0 (j+1) (E (Z.mul mb1.dec (Z.of j))))) else ((j,mb1))
def lK (n:Int) (i:Int) (j:Int) (mb1:I):Nat→(List I)→Nat→I→List I×Nat×I
  | 0,out,k,mb1_1=>(out,k,mb1_1)
  | k1+1,out,k,mb1_1=>bif decide (((k:Nat):Int)<(i+1)) then (bif decide (((k:Nat):Int)<n) then (let r22:I:=(E (Z.quo (Z.mul mb1_1.dec (Z.of (i - ((k:Nat):Int)))) (Z.of (n - ((k:Nat):Int)))))
  (lK n i j mb1 k1 (out ++ [mb1_1]) (k+1) r22)) else ((lK n i j mb1 k1 (out ++ [mb1_1]) (k+1) mb1_1))) else ((out,k,mb1_1))
def eT (n:Int) (i:Int):(List I) :=
  ap (fun (s_:Int×I)=>let j:Int:=s_.1
  let mb1:I:=s_.2
  ap (fun (s:List I×Nat×I)=>let out:List I:=s.1
  let k:Nat:=s.2.1
  let mb1_1:I:=s.2.2
  out) (lK n i j mb1 (((i+1).toNat+1)) ([]:List I) 0 mb1)) (pP n i ((n.toNat+1)) 2 (E (Z.of 1)))
def gZ (a:I):Bool :=
  (!a.1.bad&&a.1.valid)
def F_skewbackref08_bad :(List I) :=
  let q0:I:=(E Z.bad)
  [q0]
def jA (l:(List I)):Nat→Int→Nat→(Int×Nat) ⊕ ((List I))
  | 0,last,i=>.inl (last,i)
  | k0+1,last,i=>bif decide (((i:Nat):Int)<(((l).length:Nat):Int)) then (bif (gZ (l.getD i I0)) then (bif ((Z.signW (l.getD i I0).dec).1 != 0) then ((jA l k0 ((i:Nat):Int) (i+1))) else ((jA l k0 last (i+1)))) else (.inr (F_skewbackref08_bad))) else (.inl (last,i))
def j7 (l:(List I)) (last:Int) (i:Nat):Nat→(List I)→Nat→List I×Nat
  | 0,out,j=>(out,j)
  | k1+1,out,j=>bif decide (((j:Nat):Int)≤last) then ((j7 l last i k1 (out ++ [(l.getD j I0)]) (j+1))) else ((out,j))
def bM (l:(List I)):(List I) :=
  sm (fun (s_:Int×Nat)=>let last:Int:=s_.1
  let i:Nat:=s_.2
  bif decide (24<last) then (F_skewbackref08_bad) else (ap (fun (s:List I×Nat)=>let out:List I:=s.1
  let j:Nat:=s.2
  out) (j7 l last i (((last+1).toNat+1)) ([]:List I) 0))) (fun r=>r) (jA l ((l.length+1)) (-1) 0)
def nP (l:(List W)):Nat→(List I)→Nat→List I×Nat
  | 0,out,i=>(out,i)
  | k0+1,out,i=>bif decide (((i:Nat):Int)<(((l).length:Nat):Int)) then ((nP l k0 (out ++ [(E (Z.of (l.getD i W.z).1))]) (i+1))) else ((out,i))
def cA (l:(List W)):(List I) :=
  ap (fun (s:List I×Nat)=>let out:List I:=s.1
  let i:Nat:=s.2
  (bM out)) (nP l ((l.length+1)) ([]:List I) 0)
def i2 (p:(List I)):Nat→Nat→(Nat) ⊕ (Bool)
  | 0,i=>.inl i
  | k0+1,i=>bif decide (((i:Nat):Int)<(((p).length:Nat):Int)) then (bif (gZ (p.getD i I0)) then ((i2 p k0 (i+1))) else (.inr (true))) else (.inl i)
def bG (p:(List I)):Bool :=
  sm (fun (s:Nat)=>let i:Nat:=s
  false) (fun r=>r) (i2 p ((p.length+1)) 0)
def dH (p:(List I)) (k:Int):I :=
  bif (decide (k<0)||decide ((((p).length:Nat):Int)≤k)) then (I0) else ((p.getD ((k).toNat) I0))
def jN (p:(List I)) (q:(List I)):Nat→(List I)→Nat→List I×Nat
  | 0,out,i=>(out,i)
  | k0+1,out,i=>bif decide (((i:Nat):Int)<(((max ((p).length) ((q).length)):Nat):Int)) then (let r11:I:=(E (Z.add (dH p ((i:Nat):Int)).dec (dH q ((i:Nat):Int)).dec))
  (jN p q k0 (out ++ [r11]) (i+1))) else ((out,i))
def aK (p:(List I)) (q:(List I)):(List I) :=
  bif ((bG p)||(bG q)) then (F_skewbackref08_bad) else (ap (fun (s:List I×Nat)=>let out:List I:=s.1
  let i:Nat:=s.2
  (bM out)) (jN p q (((max p.length q.length)+1)) ([]:List I) 0))
def jP (p:(List I)) (q:(List I)):Nat→(List I)→Nat→List I×Nat
  | 0,out,i=>(out,i)
  | k0+1,out,i=>bif decide (((i:Nat):Int)<(((max ((p).length) ((q).length)):Nat):Int)) then (let r11:I:=(E (Z.sub (dH p ((i:Nat):Int)).dec (dH q ((i:Nat):Int)).dec))
  (jP p q k0 (out ++ [r11]) (i+1))) else ((out,i))
def eD (p:(List I)) (q:(List I)):(List I) :=
  bif ((bG p)||(bG q)) then (F_skewbackref08_bad) else (ap (fun (s:List I×Nat)=>let out:List I:=s.1
  let i:Nat:=s.2
  (bM out)) (jP p q (((max p.length q.length)+1)) ([]:List I) 0))
def dK (p:(List I)) (q:(List I)) (out:List I) (k:Nat):Nat→Nat→I→Nat×I
  | 0,i,mb17=>(i,mb17)
  | k1+1,i,mb17=>bif decide (((i:Nat):Int)≤((k:Nat):Int)) then (bif (decide (((i:Nat):Int)<(((p).length:Nat):Int))&&decide ((((k:Nat):Int) - ((i:Nat):Int))<(((q).length:Nat):Int))) then ((dK p q out k k1 (i+1) (E (Z.add mb17.dec (Z.mul (p.getD i I0).dec (q.getD (k - i) I0).dec))))) else ((dK p q out k k1 (i+1) mb17))) else ((i,mb17))
def jO (p:(List I)) (q:(List I)):Nat→(List I)→Nat→List I×Nat
  | 0,out,k=>(out,k)
  | k0+1,out,k=>bif decide (((k:Nat):Int)<(((((p).length+(q).length):Nat):Int) - 1)) then (ap (fun (s:Nat×I)=>let i:Nat:=s.1
  let mb17:I:=s.2
  (jO p q k0 (out ++ [mb17]) (k+1))) (dK p q out k ((k+2)) 0 I0)) else ((out,k))
def aX (p:(List I)) (q:(List I)):(List I) :=
  bif ((bG p)||(bG q)) then (F_skewbackref08_bad) else (bif (((((p).length:Nat):Int)==0)||((((q).length:Nat):Int)==0)) then (([]:List I)) else (ap (fun (s:List I×Nat)=>let out:List I:=s.1
  let k:Nat:=s.2
  (bM out)) (jO p q ((p.length+q.length)) ([]:List I) 0)))
def i3 (p:(List I)) (n:I):Nat→(List I)→Nat→List I×Nat
  | 0,out,i=>(out,i)
  | k0+1,out,i=>bif decide (((i:Nat):Int)<(((p).length:Nat):Int)) then ((i3 p n k0 (out ++ [(E (Z.mul (p.getD i I0).dec n.dec))]) (i+1))) else ((out,i))
def aM (p:(List I)) (n:I):(List I) :=
  bif ((bG p)||(!(gZ n))) then (F_skewbackref08_bad) else (ap (fun (s:List I×Nat)=>let out:List I:=s.1
  let i:Nat:=s.2
  (bM out)) (i3 p n ((p.length+1)) ([]:List I) 0))
structure Pose where
  x:A3 W
  q:A4 W
structure Path where
  from_:Pose
  to_:Pose
structure A6 (α:Type) where
  x0:α
  x1:α
  x2:α
  x3:α
  x4:α
  x5:α
structure Rope where
  a:W
  b:W
  p:A3 W
  q:A3 W
structure End where
  n:W
  v:A3 W
structure Pull where
  a:W
  b:W
  p:A3 Rt
  q:A3 Rt
structure Spot where
  x:A3 Rt
  e:W
structure Pulled where
  p:Pull
  e:W
structure Cols where
  a:A6 Rt
  b:A6 Rt
  e:W
structure Times where
  l:List Rt
  e:W
structure Paths where
  l:List Path
  e:W
structure Done where
  w:I
  e:W
structure Moving where
  n:A3 (List I)
  s:List I
structure Curve where
  p:List I
  e:W
def gM:Pose:=⟨⟨W.z,W.z,W.z⟩,⟨W.z,W.z,W.z,W.z⟩⟩
def wW:El Pose:=⟨7,fun p=>[ci .i64 p.x.x.1,ci .i64 p.x.y.1,ci .i64 p.x.z.1,ci .i64 p.q.x.1,ci .i64 p.q.y.1,ci .i64 p.q.z.1,ci .i64 p.q.t.1],fun _=>rfl⟩
def C7:El Path:=⟨14,fun p=>[ci .i64 p.from_.x.x.1,ci .i64 p.from_.x.y.1,ci .i64 p.from_.x.z.1,ci .i64 p.from_.q.x.1,ci .i64 p.from_.q.y.1,ci .i64 p.from_.q.z.1,ci .i64 p.from_.q.t.1,ci .i64 p.to_.x.x.1,ci .i64 p.to_.x.y.1,ci .i64 p.to_.x.z.1,ci .i64 p.to_.q.x.1,ci .i64 p.to_.q.y.1,ci .i64 p.to_.q.z.1,ci .i64 p.to_.q.t.1],fun _=>rfl⟩
end Go.Num
