/- Lemmas: what they ask stands in their statements. -/
import Derived.Test.YtkjjponijamaoaaGreatDoorProg
import Derived.Test.YtkjjponijamaoaaGreatDoorYGE
set_option linter.unusedSimpArgs false
set_option linter.unusedVariables false
namespace Go.Proofs.YtkjjponijamaoaaGreatDoor
open Go.Kn Go.Num
theorem mix:Tryz.prog.follows .mixedOrders=true:=by kernel_rfl
theorem fX:AE Tryz.prog 23=some (3,1):=by kernel_rfl
theorem mI:AE Tryz.prog 29=some (16,1):=by kernel_rfl
theorem fC:AE Tryz.prog 35=some (3,36):=by kernel_rfl
theorem sF:AE Tryz.prog 52=some (6,36):=by kernel_rfl
theorem oP:AE Tryz.prog 66=some (4,1):=by kernel_rfl
theorem n6:AE Tryz.prog 67=some (4,1):=by kernel_rfl
theorem CQ:AE Tryz.prog 126=some (2,108):=by kernel_rfl
theorem D4:AE Tryz.prog 146=some (3,18):=by kernel_rfl
theorem sP:AE Tryz.prog 151=some (3,1):=by kernel_rfl
theorem U5:AE Tryz.prog 162=some (32,1):=by kernel_rfl
theorem j2:AE Tryz.prog 201=some (4,1):=by kernel_rfl
theorem yQ:AE Tryz.prog 206=some (9,1):=by kernel_rfl
theorem CR:AE Tryz.prog 254=some (17,1):=by kernel_rfl
theorem yR:AE Tryz.prog 268=some (9,1):=by kernel_rfl
theorem GS:XG Tryz.prog 4=true:=by kernel_rfl
theorem ip_:Tryz.prog.eqGuardType Tryz.prog.depth 23=false:=by kernel_rfl
theorem VE:Tryz.prog.eqGuardType Tryz.prog.depth 29=false:=by kernel_rfl
theorem IL:Tryz.prog.eqGuardType Tryz.prog.depth 31=false:=by kernel_rfl
theorem LO:Tryz.prog.eqGuardType Tryz.prog.depth 33=false:=by kernel_rfl
theorem nb_:Tryz.prog.eqGuardType Tryz.prog.depth 37=false:=by kernel_rfl
theorem b8_:Tryz.prog.eqGuardType Tryz.prog.depth 52=false:=by kernel_rfl
theorem nc_:Tryz.prog.eqGuardType Tryz.prog.depth 67=false:=by kernel_rfl
theorem BK:YB Tryz.prog 23=some (3,1,false):=by kernel_rfl
theorem ff_:YB Tryz.prog 66=some (4,1,false):=by kernel_rfl
theorem LP:YB Tryz.prog 67=some (4,1,false):=by kernel_rfl
theorem RT:YB Tryz.prog 146=some (3,18,true):=by kernel_rfl
theorem BA:aY Tryz.prog 13=true:=by kernel_rfl
theorem nd_:aY Tryz.prog 14=true:=by kernel_rfl
theorem ne_:aY Tryz.prog 16=true:=by kernel_rfl
theorem iH_:aY Tryz.prog 20=true:=by kernel_rfl
theorem b9_:aY Tryz.prog 21=true:=by kernel_rfl
theorem iN_:aY Tryz.prog 22=true:=by kernel_rfl
theorem fg_:aY Tryz.prog 25=true:=by kernel_rfl
theorem iY_:aY Tryz.prog 28=true:=by kernel_rfl
theorem fh_:aY Tryz.prog 30=true:=by kernel_rfl
theorem i2_:aY Tryz.prog 32=true:=by kernel_rfl
theorem SS:aY Tryz.prog 35=true:=by kernel_rfl
theorem wX:aY Tryz.prog 36=true:=by kernel_rfl
theorem sY:aY Tryz.prog 37=true:=by kernel_rfl
theorem LQ:aY Tryz.prog 38=true:=by kernel_rfl
theorem fj_:aY Tryz.prog 39=true:=by kernel_rfl
theorem C0:aY Tryz.prog 40=true:=by kernel_rfl
theorem fk_:aY Tryz.prog 42=true:=by kernel_rfl
theorem HA:aY Tryz.prog 44=true:=by kernel_rfl
theorem i3_:aY Tryz.prog 45=true:=by kernel_rfl
theorem ca_:aY Tryz.prog 46=true:=by kernel_rfl
theorem i4_:aY Tryz.prog 47=true:=by kernel_rfl
theorem nj_:aY Tryz.prog 48=true:=by kernel_rfl
theorem nk_:aY Tryz.prog 49=true:=by kernel_rfl
theorem FI:aY Tryz.prog 50=true:=by kernel_rfl
theorem nl_:aY Tryz.prog 51=true:=by kernel_rfl
theorem fl_:aY Tryz.prog 55=true:=by kernel_rfl
theorem fm_:aY Tryz.prog 57=true:=by kernel_rfl
theorem cc_:aY Tryz.prog 64=true:=by kernel_rfl
theorem nn_:aY Tryz.prog 66=true:=by kernel_rfl
theorem no_:aY Tryz.prog 67=true:=by kernel_rfl
theorem cd_:aY Tryz.prog 68=true:=by kernel_rfl
theorem YT:aY Tryz.prog 69=true:=by kernel_rfl
theorem i7_:aY Tryz.prog 70=true:=by kernel_rfl
theorem VO:aY Tryz.prog 72=true:=by kernel_rfl
theorem y7:aY Tryz.prog 76=true:=by kernel_rfl
theorem BB:aY Tryz.prog 77=true:=by kernel_rfl
theorem rj_:aY Tryz.prog 78=true:=by kernel_rfl
theorem rk_:aY Tryz.prog 79=true:=by kernel_rfl
theorem YU:aY Tryz.prog 80=true:=by kernel_rfl
theorem BL:aY Tryz.prog 81=true:=by kernel_rfl
theorem fn_:aY Tryz.prog 85=true:=by kernel_rfl
theorem HB:aY Tryz.prog 87=true:=by kernel_rfl
theorem B8:aY Tryz.prog 89=true:=by kernel_rfl
theorem vP:aY Tryz.prog 95=true:=by kernel_rfl
theorem ns_:aY Tryz.prog 97=true:=by kernel_rfl
theorem rs_:aY Tryz.prog 98=true:=by kernel_rfl
theorem nt_:aY Tryz.prog 99=true:=by kernel_rfl
theorem ir_:aY Tryz.prog 100=true:=by kernel_rfl
theorem VF:aY Tryz.prog 101=true:=by kernel_rfl
theorem yE:aY Tryz.prog 102=true:=by kernel_rfl
theorem zC:aY Tryz.prog 103=true:=by kernel_rfl
theorem zD:aY Tryz.prog 104=true:=by kernel_rfl
theorem BW:aY Tryz.prog 105=true:=by kernel_rfl
theorem is_:aY Tryz.prog 106=true:=by kernel_rfl
theorem KE:aY Tryz.prog 107=true:=by kernel_rfl
theorem AN:aY Tryz.prog 113=true:=by kernel_rfl
theorem BH:aY Tryz.prog 119=true:=by kernel_rfl
theorem PQ:aY Tryz.prog 120=true:=by kernel_rfl
theorem zY:aY Tryz.prog 121=true:=by kernel_rfl
theorem oD_:aY Tryz.prog 122=true:=by kernel_rfl
theorem RU:aY Tryz.prog 123=true:=by kernel_rfl
theorem dM_:aY Tryz.prog 124=true:=by kernel_rfl
theorem dN_:aY Tryz.prog 125=true:=by kernel_rfl
theorem PR:aY Tryz.prog 126=true:=by kernel_rfl
theorem KF:aY Tryz.prog 127=true:=by kernel_rfl
theorem KG:aY Tryz.prog 128=true:=by kernel_rfl
theorem M8:aY Tryz.prog 129=true:=by kernel_rfl
theorem CZ:aY Tryz.prog 130=true:=by kernel_rfl
theorem dO_:aY Tryz.prog 131=true:=by kernel_rfl
theorem iv_:aY Tryz.prog 132=true:=by kernel_rfl
theorem dP_:aY Tryz.prog 134=true:=by kernel_rfl
theorem ix_:aY Tryz.prog 135=true:=by kernel_rfl
theorem iy_:aY Tryz.prog 136=true:=by kernel_rfl
theorem oE_:aY Tryz.prog 137=true:=by kernel_rfl
theorem iB_:aY Tryz.prog 144=true:=by kernel_rfl
theorem oH_:aY Tryz.prog 145=true:=by kernel_rfl
theorem oI_:aY Tryz.prog 146=true:=by kernel_rfl
theorem vE:aY Tryz.prog 148=true:=by kernel_rfl
theorem D7:aY Tryz.prog 149=true:=by kernel_rfl
theorem M9:aY Tryz.prog 150=true:=by kernel_rfl
theorem aq_:aY Tryz.prog 151=true:=by kernel_rfl
theorem VH:aY Tryz.prog 152=true:=by kernel_rfl
theorem ar_:aY Tryz.prog 153=true:=by kernel_rfl
theorem iC_:aY Tryz.prog 154=true:=by kernel_rfl
theorem dS_:aY Tryz.prog 155=true:=by kernel_rfl
theorem VI:aY Tryz.prog 156=true:=by kernel_rfl
theorem PS:aY Tryz.prog 161=true:=by kernel_rfl
theorem wN:aY Tryz.prog 163=true:=by kernel_rfl
theorem as_:aY Tryz.prog 164=true:=by kernel_rfl
theorem PU:aY Tryz.prog 166=true:=by kernel_rfl
theorem dU_:aY Tryz.prog 167=true:=by kernel_rfl
theorem BX:aY Tryz.prog 168=true:=by kernel_rfl
theorem HN:aY Tryz.prog 169=true:=by kernel_rfl
theorem VK:aY Tryz.prog 171=true:=by kernel_rfl
theorem oM_:aY Tryz.prog 173=true:=by kernel_rfl
theorem dW_:aY Tryz.prog 174=true:=by kernel_rfl
theorem dX_:aY Tryz.prog 175=true:=by kernel_rfl
theorem dY_:aY Tryz.prog 176=true:=by kernel_rfl
theorem KI:aY Tryz.prog 177=true:=by kernel_rfl
theorem F6:aY Tryz.prog 178=true:=by kernel_rfl
theorem at_:aY Tryz.prog 179=true:=by kernel_rfl
theorem au_:aY Tryz.prog 180=true:=by kernel_rfl
theorem NA:aY Tryz.prog 181=true:=by kernel_rfl
theorem oN_:aY Tryz.prog 182=true:=by kernel_rfl
theorem iE_:aY Tryz.prog 183=true:=by kernel_rfl
theorem dZ_:aY Tryz.prog 184=true:=by kernel_rfl
theorem oO_:aY Tryz.prog 185=true:=by kernel_rfl
theorem d0_:aY Tryz.prog 186=true:=by kernel_rfl
theorem iF_:aY Tryz.prog 187=true:=by kernel_rfl
theorem oP_:aY Tryz.prog 188=true:=by kernel_rfl
theorem oQ_:aY Tryz.prog 189=true:=by kernel_rfl
theorem oR_:aY Tryz.prog 190=true:=by kernel_rfl
theorem iG_:aY Tryz.prog 197=true:=by kernel_rfl
theorem av_:aY Tryz.prog 198=true:=by kernel_rfl
theorem aw_:aY Tryz.prog 203=true:=by kernel_rfl
theorem oW_:aY Tryz.prog 204=true:=by kernel_rfl
theorem oX_:aY Tryz.prog 205=true:=by kernel_rfl
theorem d1_:aY Tryz.prog 206=true:=by kernel_rfl
theorem iJ_:aY Tryz.prog 207=true:=by kernel_rfl
theorem iK_:aY Tryz.prog 208=true:=by kernel_rfl
theorem oY_:aY Tryz.prog 209=true:=by kernel_rfl
theorem oZ_:aY Tryz.prog 210=true:=by kernel_rfl
theorem o0_:aY Tryz.prog 211=true:=by kernel_rfl
theorem o8_:aY Tryz.prog 221=true:=by kernel_rfl
theorem o9_:aY Tryz.prog 222=true:=by kernel_rfl
theorem pa_:aY Tryz.prog 223=true:=by kernel_rfl
theorem pb_:aY Tryz.prog 224=true:=by kernel_rfl
theorem iO_:aY Tryz.prog 227=true:=by kernel_rfl
theorem pe_:aY Tryz.prog 228=true:=by kernel_rfl
theorem pf_:aY Tryz.prog 229=true:=by kernel_rfl
theorem ay_:aY Tryz.prog 230=true:=by kernel_rfl
theorem iP_:aY Tryz.prog 231=true:=by kernel_rfl
theorem iQ_:aY Tryz.prog 232=true:=by kernel_rfl
theorem d3_:aY Tryz.prog 234=true:=by kernel_rfl
theorem PV:aY Tryz.prog 235=true:=by kernel_rfl
theorem KJ:aY Tryz.prog 236=true:=by kernel_rfl
theorem iR_:aY Tryz.prog 237=true:=by kernel_rfl
theorem ph_:aY Tryz.prog 238=true:=by kernel_rfl
theorem pi_:aY Tryz.prog 239=true:=by kernel_rfl
theorem pj_:aY Tryz.prog 240=true:=by kernel_rfl
theorem d4_:aY Tryz.prog 241=true:=by kernel_rfl
theorem pk_:aY Tryz.prog 242=true:=by kernel_rfl
theorem az_:aY Tryz.prog 247=true:=by kernel_rfl
theorem iT_:aY Tryz.prog 250=true:=by kernel_rfl
theorem pn_:aY Tryz.prog 251=true:=by kernel_rfl
theorem po_:aY Tryz.prog 252=true:=by kernel_rfl
theorem pq_:aY Tryz.prog 253=true:=by kernel_rfl
theorem pr_:aY Tryz.prog 254=true:=by kernel_rfl
theorem ps_:aY Tryz.prog 255=true:=by kernel_rfl
theorem d6_:aY Tryz.prog 256=true:=by kernel_rfl
theorem iU_:aY Tryz.prog 257=true:=by kernel_rfl
theorem pt_:aY Tryz.prog 258=true:=by kernel_rfl
theorem pu_:aY Tryz.prog 259=true:=by kernel_rfl
theorem pv_:aY Tryz.prog 260=true:=by kernel_rfl
theorem pw_:aY Tryz.prog 261=true:=by kernel_rfl
theorem pz_:aY Tryz.prog 268=true:=by kernel_rfl
theorem pA_:aY Tryz.prog 269=true:=by kernel_rfl
theorem D8:aY Tryz.prog 270=true:=by kernel_rfl
theorem pD_:aY Tryz.prog 277=true:=by kernel_rfl
theorem pE_:aY Tryz.prog 278=true:=by kernel_rfl
theorem pF_:aY Tryz.prog 279=true:=by kernel_rfl
theorem iZ_:aY Tryz.prog 282=true:=by kernel_rfl
theorem pH_:aY Tryz.prog 283=true:=by kernel_rfl
theorem z8:k8 Tryz.prog 25 0=some (0,1):=by kernel_rfl
theorem yK:k8 Tryz.prog 25 1=some (1,1):=by kernel_rfl
theorem UA:k8 Tryz.prog 25 2=some (2,3):=by kernel_rfl
theorem OE:k8 Tryz.prog 25 3=some (5,3):=by kernel_rfl
theorem uX:k8 Tryz.prog 31 0=some (0,1):=by kernel_rfl
theorem jC:k8 Tryz.prog 31 1=some (1,1):=by kernel_rfl
theorem jY:k8 Tryz.prog 31 2=some (2,16):=by kernel_rfl
theorem jZ:k8 Tryz.prog 33 0=some (0,18):=by kernel_rfl
theorem fV:k8 Tryz.prog 33 1=some (18,18):=by kernel_rfl
theorem xE:k8 Tryz.prog 37 2=some (2,108):=by kernel_rfl
theorem AY:k8 Tryz.prog 37 3=some (110,108):=by kernel_rfl
theorem kB:k8 Tryz.prog 69 0=some (0,3):=by kernel_rfl
theorem mV:k8 Tryz.prog 69 1=some (3,4):=by kernel_rfl
theorem mW:k8 Tryz.prog 71 0=some (0,7):=by kernel_rfl
theorem pD:k8 Tryz.prog 71 1=some (7,7):=by kernel_rfl
theorem tF:k8 Tryz.prog 131 0=some (0,1):=by kernel_rfl
theorem zO:k8 Tryz.prog 131 1=some (1,3):=by kernel_rfl
theorem OW:TE Tryz.prog 3=some .i64:=by kernel_rfl
theorem X1:TE Tryz.prog 5=some .u8:=by kernel_rfl
theorem nP:TE Tryz.prog 28=some .u32:=by kernel_rfl
theorem kV:TE Tryz.prog 164=some .u64:=by kernel_rfl
theorem WD:tH Tryz.prog 8 29=some (true,(List.replicate 16 (some IntKind.u32))):=by kernel_rfl
theorem jG_:tH Tryz.prog 8 23=some (true,([some .i64] ++ ([some .i64] ++ [some .i64]))):=by kernel_rfl
theorem IS:tH Tryz.prog 8 31=some (true,LI):=by kernel_rfl
theorem LS:tH Tryz.prog 8 33=some (true,(LI ++ LI)):=by kernel_rfl
theorem nz_:tH Tryz.prog 8 37=some (true,([some .i64] ++ ([some .i64] ++ (LI ++ (LI ++ (LI ++ (LI ++ (LI ++ (LI ++ (LI ++ (LI ++ (LI ++ (LI ++ (LI ++ LI)))))))))))))):=by kernel_rfl
theorem cC_:tH Tryz.prog 8 52=some (true,(LI ++ (LI ++ (LI ++ (LI ++ (LI ++ (LI ++ (LI ++ (LI ++ (LI ++ (LI ++ (LI ++ LI)))))))))))):=by kernel_rfl
theorem nA_:tH Tryz.prog 8 67=some (true,([some .i64] ++ ([some .i64] ++ ([some .i64] ++ [some .i64])))):=by kernel_rfl
theorem cI_:dh_ Tryz.prog 3=true:=by kernel_rfl
theorem rK_:tJ Tryz.prog 25=some [(0,1),(1,1),(2,3),(5,3)]:=by kernel_rfl
theorem IW:tJ Tryz.prog 31=some [(0,1),(1,1),(2,16)]:=by kernel_rfl
theorem FJ:tJ Tryz.prog 33=some [(0,18),(18,18)]:=by kernel_rfl
theorem NK:tJ Tryz.prog 37=some [(0,1),(1,1),(2,108),(110,108)]:=by kernel_rfl
theorem nL_:tJ Tryz.prog 69=some [(0,3),(3,4)]:=by kernel_rfl
theorem kb_:tJ Tryz.prog 71=some [(0,7),(7,7)]:=by kernel_rfl
theorem R4:tJ Tryz.prog 131=some [(0,1),(1,3)]:=by kernel_rfl
theorem tY:vM Tryz.prog 26=some 7:=by kernel_rfl
theorem vG:vM Tryz.prog 72=some 18:=by kernel_rfl
theorem nQ:vM Tryz.prog 73=some 18:=by kernel_rfl
theorem AD:vM Tryz.prog 80=some 36:=by kernel_rfl
theorem O8:vM Tryz.prog 83=some 14:=by kernel_rfl
theorem bh_:vM Tryz.prog 166=some 1:=by kernel_rfl
theorem mT:vM Tryz.prog 192=some 1:=by kernel_rfl
theorem y4:vM Tryz.prog 247=some 1:=by kernel_rfl
theorem mN_:Tryz.prog.underlying 9=some .string:=by kernel_rfl
theorem xK:(Tryz.prog.info? 3).map (·.size)=some 1:=by kernel_rfl
theorem pX:(Tryz.prog.info? 31).map (·.size)=some 18:=by kernel_rfl
theorem RE:(Tryz.prog.info? 33).map (·.size)=some 36:=by kernel_rfl
theorem ZL:(Tryz.prog.info? 69).map (·.size)=some 7:=by kernel_rfl
theorem nV_:(Tryz.prog.info? 71).map (·.size)=some 14:=by kernel_rfl
theorem RF:(Tryz.prog.info? 73).map (·.size)=some 1:=by kernel_rfl
theorem dP:o8 Tryz.prog 3=some (false,1):=by kernel_rfl
theorem mF:o8 Tryz.prog 4=some (false,1):=by kernel_rfl
theorem iO:o8 Tryz.prog 23=some (true,3):=by kernel_rfl
theorem TF:o8 Tryz.prog 25=some (true,8):=by kernel_rfl
theorem gh_:o8 Tryz.prog 26=some (false,1):=by kernel_rfl
theorem n9:o8 Tryz.prog 28=some (false,1):=by kernel_rfl
theorem iJ:o8 Tryz.prog 29=some (true,16):=by kernel_rfl
theorem aD:o8 Tryz.prog 31=some (true,18):=by kernel_rfl
theorem bD:o8 Tryz.prog 33=some (true,36):=by kernel_rfl
theorem gG:o8 Tryz.prog 35=some (true,108):=by kernel_rfl
theorem sZ:o8 Tryz.prog 37=some (true,218):=by kernel_rfl
theorem wK:o8 Tryz.prog 38=some (false,1):=by kernel_rfl
theorem i4:o8 Tryz.prog 52=some (true,216):=by kernel_rfl
theorem ZP:o8 Tryz.prog 66=some (true,4):=by kernel_rfl
theorem rT:o8 Tryz.prog 67=some (true,4):=by kernel_rfl
theorem uB:o8 Tryz.prog 69=some (true,7):=by kernel_rfl
theorem uC:o8 Tryz.prog 71=some (true,14):=by kernel_rfl
theorem XL:o8 Tryz.prog 72=some (false,1):=by kernel_rfl
theorem eR:o8 Tryz.prog 73=some (false,1):=by kernel_rfl
theorem TG:o8 Tryz.prog 80=some (false,1):=by kernel_rfl
theorem sa_:o8 Tryz.prog 89=some (false,1):=by kernel_rfl
theorem SI:o8 Tryz.prog 131=some (true,4):=by kernel_rfl
theorem k2_:o8 Tryz.prog 146=some (true,54):=by kernel_rfl
theorem XI:o8 Tryz.prog 151=some (true,3):=by kernel_rfl
theorem bo_:o8 Tryz.prog 175=some (false,1):=by kernel_rfl
theorem k3_:o8 Tryz.prog 192=some (false,1):=by kernel_rfl
theorem z6:o8 Tryz.prog 201=some (true,4):=by kernel_rfl
theorem bp_:o8 Tryz.prog 206=some (true,9):=by kernel_rfl
theorem SJ:o8 Tryz.prog 268=some (true,9):=by kernel_rfl
theorem RH:Tryz.prog.underlying 26=some (.slice 69):=by kernel_rfl
theorem oV:Tryz.prog.underlying 72=some (.slice 31):=by kernel_rfl
theorem PA:Tryz.prog.underlying 73=some (.slice 31):=by kernel_rfl
theorem E5:Tryz.prog.underlying 80=some (.slice 33):=by kernel_rfl
theorem gk_:Tryz.prog.underlying 83=some (.slice 71):=by kernel_rfl
theorem mG:Tryz.prog.underlying 192=some (.slice 3):=by kernel_rfl
theorem LJ:Tryz.prog.underlying 247=some (.slice 73):=by kernel_rfl
theorem z_3:lC Tryz.prog 3=some [.int .i64 0]:=by kernel_rfl
theorem y6:lC Tryz.prog 29=some (uw (List.replicate 16 0)):=by kernel_rfl
theorem oM:lC Tryz.prog 31=some zR:=by kernel_rfl
theorem bt_:lC Tryz.prog 33=some (([.bool false] ++ [.bool false] ++ (List.replicate 16 (.int .u32 0))) ++ ([.bool false] ++ [.bool false] ++ (List.replicate 16 (.int .u32 0)))):=by kernel_rfl
theorem hy_:lC Tryz.prog 69=some ((List.replicate 3 (.int .i64 0)) ++ (List.replicate 4 (.int .i64 0))):=by kernel_rfl
theorem si_:lC Tryz.prog 71=some (((List.replicate 3 (.int .i64 0)) ++ (List.replicate 4 (.int .i64 0))) ++ ((List.replicate 3 (.int .i64 0)) ++ (List.replicate 4 (.int .i64 0)))):=by kernel_rfl
theorem bu_:lC Tryz.prog 73=some [.slice none 0 0]:=by kernel_rfl
theorem sg_:lC Tryz.prog 162=some (uw (List.replicate 32 0)):=by kernel_rfl
theorem sh_:lC Tryz.prog 254=some (uw (List.replicate 17 0)):=by kernel_rfl
theorem sU_:lC Tryz.prog 4=some (aW [cb false]):=by kernel_rfl
theorem y9:lC Tryz.prog 23=some (aW [ci .i64 0,ci .i64 0,ci .i64 0]):=by kernel_rfl
theorem sj_:lC Tryz.prog 25=some (aW [ci .i64 0,ci .i64 0,ci .i64 0,ci .i64 0,ci .i64 0,ci .i64 0,ci .i64 0,ci .i64 0]):=by kernel_rfl
theorem gT:lC Tryz.prog 31=some (aW [pI I0]):=by kernel_rfl
theorem oR:lC Tryz.prog 33=some (aW [pI I0,pI I0]):=by kernel_rfl
theorem uW:lC Tryz.prog 35=some (aW [pI I0,pI I0,pI I0,pI I0,pI I0,pI I0]):=by kernel_rfl
theorem GR:lC Tryz.prog 37=some (aW [ci .i64 0,ci .i64 0,pI I0,pI I0,pI I0,pI I0,pI I0,pI I0,pI I0,pI I0,pI I0,pI I0,pI I0,pI I0]):=by kernel_rfl
theorem sk_:lC Tryz.prog 38=some (aW [ci .i64 0]):=by kernel_rfl
theorem D2:lC Tryz.prog 52=some (aW [pI I0,pI I0,pI I0,pI I0,pI I0,pI I0,pI I0,pI I0,pI I0,pI I0,pI I0,pI I0]):=by kernel_rfl
theorem RJ:lC Tryz.prog 67=some (aW [ci .i64 0,ci .i64 0,ci .i64 0,ci .i64 0]):=by kernel_rfl
theorem RK:lC Tryz.prog 69=some (aW [ci .i64 0,ci .i64 0,ci .i64 0,ci .i64 0,ci .i64 0,ci .i64 0,ci .i64 0]):=by kernel_rfl
theorem dq_:lC Tryz.prog 71=some (aW [ci .i64 0,ci .i64 0,ci .i64 0,ci .i64 0,ci .i64 0,ci .i64 0,ci .i64 0,ci .i64 0,ci .i64 0,ci .i64 0,ci .i64 0,ci .i64 0,ci .i64 0,ci .i64 0]):=by kernel_rfl
theorem sl_:lC Tryz.prog 72=some (aW [csl none 0 0]):=by kernel_rfl
theorem sm_:lC Tryz.prog 73=some (aW [csl none 0 0]):=by kernel_rfl
theorem sn_:lC Tryz.prog 80=some (aW [csl none 0 0]):=by kernel_rfl
theorem qF_:lC Tryz.prog 126=some (aW [pI I0,pI I0,pI I0,pI I0,pI I0,pI I0,pI I0,pI I0,pI I0,pI I0,pI I0,pI I0]):=by kernel_rfl
theorem FF:lC Tryz.prog 131=some (aW [ci .i64 0,ci .i64 0,ci .i64 0,ci .i64 0]):=by kernel_rfl
theorem QA:lC Tryz.prog 146=some (aW [pI I0,pI I0,pI I0]):=by kernel_rfl
theorem bv_:lC Tryz.prog 151=some (aW [csl none 0 0,csl none 0 0,csl none 0 0]):=by kernel_rfl
theorem qG_:lC Tryz.prog 175=some (aW [qV_]):=by kernel_rfl
theorem FG:lC Tryz.prog 201=some (aW [csl none 0 0,csl none 0 0,csl none 0 0,csl none 0 0]):=by kernel_rfl
theorem XZ:lC Tryz.prog 206=some (aW [csl none 0 0,csl none 0 0,csl none 0 0,csl none 0 0,csl none 0 0,csl none 0 0,csl none 0 0,csl none 0 0,csl none 0 0]):=by kernel_rfl
theorem SP:lC Tryz.prog 268=some (aW [ci .i64 0,ci .i64 0,ci .i64 0,ci .i64 0,ci .i64 0,ci .i64 0,ci .i64 0,ci .i64 0,ci .i64 0]):=by kernel_rfl
open Go Go.Kn Go.Num
def vS0 (r:(A3 W)×W):Value:=.tuple #[AV [ci .i64 r.1.x.1,ci .i64 r.1.y.1,ci .i64 r.1.z.1],.int .i64 r.2.1]
def vS1 (r:(A4 W)×Bool):Value:=.tuple #[AV [ci .i64 r.1.x.1,ci .i64 r.1.y.1,ci .i64 r.1.z.1,ci .i64 r.1.t.1],.bool r.2]
def vS2 (r:Bool):Value:=.bool r
def vS3 (r:Bool×W):Value:=.tuple #[.bool r.1,.int .i64 r.2.1]
def vS4 (r:I):Value:=AV [pI r]
def vS5 (r:I×I):Value:=.tuple #[AV [pI r.1],AV [pI r.2]]
def vS6 (r:I×W):Value:=.tuple #[AV [pI r.1],.int .i64 r.2.1]
def vS7 (r:Rt):Value:=AV [pI r.n,pI r.d]
def vS8 (r:W):Value:=.int .i64 r.1
end Go.Proofs.YtkjjponijamaoaaGreatDoor
namespace Go.Num
open Go Go.Kn
def wJ (a:I):I :=
  bif a.1.good then ((E (Z.of (sgn (!a.1.neg) (val a.1.w))))) else ((E Z.bad))
def wH (a:I):I :=
  bif a.1.good then ((E (Z.of (sgn false (val a.1.w))))) else ((E Z.bad))
def tQ (a:I):W :=
  bif (!a.1.good||((((dl (val a.1.w)).length:Nat):Int)==0)) then ((wl 0)) else (bif a.1.neg then ((wl (-1))) else ((wl 1)))
def sK (a:I) (b:I):I :=
  bif ((lJ a.1)&&((lJ b.1)&&((hZ b).1 != 0))) then ((E (Z.of (W.fdiv (hZ a) (hZ b)).1))) else (bif (!a.1.good||(!b.1.good||((((dl (val b.1.w)).length:Nat):Int)==0))) then ((E Z.bad)) else (bif ((a.1.neg != b.1.neg)&&decide (0<(((dl ((val a.1.w) % (val b.1.w))).length:Nat):Int))) then ((E (Z.of (sgn (a.1.neg != b.1.neg) (((val a.1.w) / (val b.1.w))+1))))) else ((E (Z.of (sgn (a.1.neg != b.1.neg) ((val a.1.w) / (val b.1.w))))))))
def F_ratio_one :I :=
  let q0:I:=(E (Z.of 1))
  q0
def AI :Rt :=
  let q0:I:=(E Z.bad)
  let q1:I:=F_ratio_one
  (⟨q0,q1⟩:Rt)
def pP (a:I):Bool :=
  (!a.1.bad&&a.1.valid)
def cE (a:Rt):Bool :=
  ((pP a.n)&&((pP a.d)&&(decide (0<(Z.signW a.d.dec).1)&&decide ((E (Z.gcd a.n.dec a.d.dec))=F_ratio_one))))
def dJ (a:I) (b:I):Rt :=
  bif (!(pP a)||(!(pP b)||((Z.signW b.dec).1==0))) then (AI) else (bif decide ((Z.signW b.dec).1<0) then ((⟨(E (Z.quo a.dec (Z.neg (Z.gcd a.dec b.dec)))),(E (Z.quo b.dec (Z.neg (Z.gcd a.dec b.dec))))⟩:Rt)) else ((⟨(E (Z.quo a.dec (Z.gcd a.dec b.dec))),(E (Z.quo b.dec (Z.gcd a.dec b.dec)))⟩:Rt)))
def oN (a:I):Rt :=
  (dJ a F_ratio_one)
def dK (a:W):Rt :=
  (oN (E (Z.of a.1)))
def wS (a:Rt):Rt :=
  bif (cE a) then ((⟨(E (Z.neg a.n.dec)),a.d⟩:Rt)) else (AI)
def eZ (a:Rt) (b:Rt):Rt :=
  bif (!(cE a)||(!(cE b))) then (AI) else (let r15:I:=(E (Z.add (Z.mul a.n.dec (Z.quo b.d.dec (Z.gcd a.d.dec b.d.dec))) (Z.mul b.n.dec (Z.quo a.d.dec (Z.gcd a.d.dec b.d.dec)))))
  let r16:Rt:=(dJ r15 (E (Z.mul (Z.quo a.d.dec (Z.gcd a.d.dec b.d.dec)) b.d.dec)))
  r16)
def fJ (a:Rt) (b:Rt):Rt :=
  (eZ a (wS b))
def eE (a:Rt) (b:Rt):Rt :=
  bif (!(cE a)||(!(cE b))) then (AI) else (let r26:I:=(E (Z.mul ((dJ a.n b.d).n).dec ((dJ b.n a.d).n).dec))
  let r27:I:=(E (Z.mul ((dJ a.n b.d).d).dec ((dJ b.n a.d).d).dec))
  bif (r26.1.bad||r27.1.bad) then (AI) else ((⟨r26,r27⟩:Rt)))
def F_skewbackref04_one :I :=
  let q0:I:=(E (Z.of 1))
  q0
def pR :Rt :=
  let q0:I:=(E Z.bad)
  let q1:I:=F_skewbackref04_one
  (⟨q0,q1⟩:Rt)
def cJ (a:I) (b:I):Rt :=
  bif (!a.1.good||(!b.1.good||((Z.signW b.dec).1==0))) then (pR) else (bif decide ((Z.signW b.dec).1<0) then ((⟨(E (Z.quo a.dec (Z.neg (Z.gcd a.dec b.dec)))),(E (Z.quo b.dec (Z.neg (Z.gcd a.dec b.dec))))⟩:Rt)) else ((⟨(E (Z.quo a.dec (Z.gcd a.dec b.dec))),(E (Z.quo b.dec (Z.gcd a.dec b.dec)))⟩:Rt)))
def aE (a:W):Rt :=
  let r2:Rt:=(cJ (E (Z.of a.1)) F_skewbackref04_one)
  r2
def j5 (a:(A3 I)):(A3 W)×W :=
  bif (E (Z.gcd (Z.gcd (Z.gcd (Z.of 0) a.x.dec) a.y.dec) a.z.dec)).1.bad then (((⟨(wl 0),(wl 0),(wl 0)⟩:(A3 W)),(wl 30))) else (bif ((Z.signW (Z.gcd (Z.gcd (Z.gcd (Z.of 0) a.x.dec) a.y.dec) a.z.dec)).1==0) then (((⟨(wl 0),(wl 0),(wl 0)⟩:(A3 W)),(wl 31))) else (let r11:I:=(E (Z.quo a.x.dec (Z.gcd (Z.gcd (Z.gcd (Z.of 0) a.x.dec) a.y.dec) a.z.dec)))
  bif (!r11.dec.small.2||(decide (2305843009213693952≤(Z.smallW r11.dec).1)||decide ((Z.smallW r11.dec).1≤(-2305843009213693952)))) then (((⟨(wl 0),(wl 0),(wl 0)⟩:(A3 W)),(wl 30))) else (let r19:I:=(E (Z.quo a.y.dec (Z.gcd (Z.gcd (Z.gcd (Z.of 0) a.x.dec) a.y.dec) a.z.dec)))
  bif (!r19.dec.small.2||(decide (2305843009213693952≤(Z.smallW r19.dec).1)||decide ((Z.smallW r19.dec).1≤(-2305843009213693952)))) then (((⟨(wl 0),(wl 0),(wl 0)⟩:(A3 W)),(wl 30))) else (let r27:I:=(E (Z.quo a.z.dec (Z.gcd (Z.gcd (Z.gcd (Z.of 0) a.x.dec) a.y.dec) a.z.dec)))
  bif (!r27.dec.small.2||(decide (2305843009213693952≤(Z.smallW r27.dec).1)||decide ((Z.smallW r27.dec).1≤(-2305843009213693952)))) then (((⟨(wl 0),(wl 0),(wl 0)⟩:(A3 W)),(wl 30))) else (((⟨(Z.smallW r11.dec),(Z.smallW r19.dec),(Z.smallW r27.dec)⟩:(A3 W)),(wl 0)))))))
def qG (a:(A3 W)):(A3 Rt) :=
  (⟨(dK a.x),(dK a.y),(dK a.z)⟩:(A3 Rt))
def oD (a:(A3 Rt)) (b:(A3 Rt)):Rt :=
  let r5:Rt:=(eZ (dK (wl 0)) (eE a.x b.x))
  let r6:Rt:=(eZ r5 (eE a.y b.y))
  let r7:Rt:=(eZ r6 (eE a.z b.z))
  r7
def dC (a:(A3 Rt)) (b:(A3 Rt)):(A3 Rt) :=
  let r4:Rt:=(fJ (eE a.y b.z) (eE a.z b.y))
  let r5:Rt:=(fJ (eE a.z b.x) (eE a.x b.z))
  let r6:Rt:=(fJ (eE a.x b.y) (eE a.y b.x))
  (⟨r4,r5,r6⟩:(A3 Rt))
def rU (a:(A3 Rt)) (b:(A3 Rt)):(A3 Rt) :=
  (⟨(eZ a.x b.x),(eZ a.y b.y),(eZ a.z b.z)⟩:(A3 Rt))
def lQ (a:(A3 Rt)) (b:(A3 Rt)):(A3 Rt) :=
  (⟨(fJ a.x b.x),(fJ a.y b.y),(fJ a.z b.z)⟩:(A3 Rt))
def qU (a:Rt) (b:(A3 Rt)):(A3 Rt) :=
  (⟨(eE a b.x),(eE a b.y),(eE a b.z)⟩:(A3 Rt))
def fM (a:(A3 W)):(A3 Rt) :=
  (⟨(aE a.x),(aE a.y),(aE a.z)⟩:(A3 Rt))
def rN (a:I):I :=
  a
def xU (a:I):Bool :=
  (!a.1.bad&&a.1.valid)
def F_poly_bad :(List I) :=
  let q0:I:=(E Z.bad)
  [q0]
def qH (n:Int) (f:Nat→I) (o:I→I):Nat→(List I)→Nat→(List I×Nat) ⊕ ((List I))
  | 0,out,i=>.inl (out,i)
  | k0+1,out,i=>bif decide (((i:Nat):Int)<(((n).toNat:Nat):Int)) then (bif (xU (o (f i))) then ((qH n f o k0 (out ++ [(o (f i))]) (i+1))) else (.inr (F_poly_bad))) else (.inl (out,i))
def qK (n:Int) (f:Nat→I) (o:I→I) (out:List I) (i:Nat):Nat→(List I)→List I
  | 0,cut=>cut
  | k1+1,cut=>bif (decide (0<(((cut).length:Nat):Int))&&((Z.signW (cut.getD ((cut).length - 1) I0).dec).1==0)) then ((qK n f o out i k1 (cut.take ((cut).length - 1)))) else (cut)
def oX (n:Int) (f:Nat→I) (o:I→I):(List I) :=
  sm (fun (s_:List I×Nat)=>let out:List I:=s_.1
  let i:Nat:=s_.2
  ap (fun (s:List I)=>let cut:List I:=s
  bif decide (25<(((cut).length:Nat):Int)) then (F_poly_bad) else (cut)) (qK n f o out i ((out.length+1)) out)) (fun r=>r) (qH n f o ((n.toNat+1)) ([]:List I) 0)
def sG (n:Int) (f:Nat→Go.Num.W) (o:Go.Num.W→I):Nat→(List I)→Nat→(List I×Nat) ⊕ ((List I))
  | 0,out,i=>.inl (out,i)
  | k0+1,out,i=>bif decide (((i:Nat):Int)<(((n).toNat:Nat):Int)) then (bif (xU (o (f i))) then ((sG n f o k0 (out ++ [(o (f i))]) (i+1))) else (.inr (F_poly_bad))) else (.inl (out,i))
def sH (n:Int) (f:Nat→Go.Num.W) (o:Go.Num.W→I) (out:List I) (i:Nat):Nat→(List I)→List I
  | 0,cut=>cut
  | k1+1,cut=>bif (decide (0<(((cut).length:Nat):Int))&&((Z.signW (cut.getD ((cut).length - 1) I0).dec).1==0)) then ((sH n f o out i k1 (cut.take ((cut).length - 1)))) else (cut)
def vH (n:Int) (f:Nat→Go.Num.W) (o:Go.Num.W→I):(List I) :=
  sm (fun (s_:List I×Nat)=>let out:List I:=s_.1
  let i:Nat:=s_.2
  ap (fun (s:List I)=>let cut:List I:=s
  bif decide (25<(((cut).length:Nat):Int)) then (F_poly_bad) else (cut)) (sH n f o out i ((out.length+1)) out)) (fun r=>r) (sG n f o ((n.toNat+1)) ([]:List I) 0)
def sU (l:(List I)) (f:I→Bool):Nat→Nat→(Nat) ⊕ (W)
  | 0,i=>.inl i
  | k0+1,i=>bif decide (((i:Nat):Int)<(((l).length:Nat):Int)) then (bif (f (l.getD i I0)) then (.inr ((W.cv ((i:Nat):Int)))) else ((sU l f k0 (i+1)))) else (.inl i)
def B5 (l:(List I)) (f:I→Bool):W :=
  sm (fun (s:Nat)=>let i:Nat:=s
  (wl (-1))) (fun r=>r) (sU l f ((l.length+1)) 0)
def AH (l:(List I)) (f:I→Bool):Bool :=
  (decide (0≤(B5 l f).1))
def CO (a:I):Bool :=
  (!(xU a))
def eJ (p:(List I)):Bool :=
  (AH p (fun (y:I)=>(CO y)))
def rM (l:(List Rt)) (f:Rt→Bool):Nat→Nat→(Nat) ⊕ (W)
  | 0,i=>.inl i
  | k0+1,i=>bif decide (((i:Nat):Int)<(((l).length:Nat):Int)) then (bif (f (l.getD i Rt0)) then (.inr ((W.cv ((i:Nat):Int)))) else ((rM l f k0 (i+1)))) else (.inl i)
def xS (l:(List Rt)) (f:Rt→Bool):W :=
  sm (fun (s:Nat)=>let i:Nat:=s
  (wl (-1))) (fun r=>r) (rM l f ((l.length+1)) 0)
def qS (l:(List Rt)) (f:Rt→Bool):Bool :=
  (decide (0≤(xS l f).1))
def tC (a:Rt):Bool :=
  (!(cE a))
def nH (l:(List Rt)):Bool :=
  (!(qS l (fun (y:Rt)=>(tC y))))
def zT (k:Nat) (l:(List I)):I :=
  (l.getD k I0)
def kE (l:(List I)):(List I) :=
  (oX (((l).length:Nat):Int) (fun (y:Nat)=>(zT y l)) (fun (y:I)=>(rN y)))
def EY (k:Nat) (l:(List W)):W :=
  (l.getD k W.z)
def eU (l:(List W)):(List I) :=
  (vH (((l).length:Nat):Int) (fun (y:Nat)=>(EY y l)) (fun (y:Go.Num.W)=>(E (Z.of y.1))))
def o9 (p:(List I)) (k:Int):I :=
  bif (decide (k<0)||decide ((((p).length:Nat):Int)≤k)) then (I0) else ((p.getD ((k).toNat) I0))
def zU (k:Nat) (f:I→I→I) (p:(List I)) (q:(List I)):I :=
  (f (o9 p ((k:Nat):Int)) (o9 q ((k:Nat):Int)))
def oI (p:(List I)) (q:(List I)) (f:I→I→I):(List I) :=
  bif ((eJ p)||(eJ q)) then (F_poly_bad) else ((oX (((max ((p).length) ((q).length)):Nat):Int) (fun (y:Nat)=>(zU y f p q)) (fun (y:I)=>(rN y))))
def cY (p:(List I)) (q:(List I)):(List I) :=
  (oI p q (fun (y:I) (z:I)=>(E (Z.add y.dec z.dec))))
def oT (p:(List I)) (q:(List I)):(List I) :=
  (oI p q (fun (y:I) (z:I)=>(E (Z.sub y.dec z.dec))))
def kK (k:Nat) (q:(List I)) (p:(List I)):Nat→Nat→I→Nat×I
  | 0,i,mb2=>(i,mb2)
  | k0+1,i,mb2=>bif decide (((i:Nat):Int)≤(min ((k:Nat):Int) ((((p).length:Nat):Int) - 1))) then ((kK k q p k0 (i+1) (E (Z.add mb2.dec (Z.mul (p.getD i I0).dec (q.getD (k - i) I0).dec))))) else ((i,mb2))
def tK (k:Nat) (q:(List I)) (p:(List I)):I :=
  ap (fun (s:Nat×I)=>let i:Nat:=s.1
  let mb2:I:=s.2
  mb2) (kK k q p ((k+2)) ((((((k:Nat):Int) - (((q).length:Nat):Int))+1)).toNat) I0)
def cI (p:(List I)) (q:(List I)):(List I) :=
  bif ((eJ p)||(eJ q)) then (F_poly_bad) else (bif (((((p).length:Nat):Int)==0)||((((q).length:Nat):Int)==0)) then (([]:List I)) else ((oX (((((p).length+(q).length):Nat):Int) - 1) (fun (y:Nat)=>(tK y q p)) (fun (y:I)=>(rN y)))))
def yN (a:I) (b:I) (n:I):I :=
  (E (Z.mul a.dec n.dec))
def dS (p:(List I)) (n:I):(List I) :=
  bif (xU n) then ((oI p ([]:List I) (fun (y:I) (z:I)=>(yN y z n)))) else (F_poly_bad)
def qD (l:(List I)):List I→I→I
  | [],mb2=>mb2
  | x0 :: l0,mb2=>(qD l l0 (E (Z.gcd mb2.dec x0.dec)))
def fO (l:(List I)):I :=
  ap (fun (s:I)=>let mb2:I:=s
  mb2) (qD l l I0)
def vC (a:I) (b:I) (n:I):I :=
  (E (Z.quo a.dec n.dec))
def gW (p:(List I)):(List I) :=
  (oI p ([]:List I) (fun (y:I) (z:I)=>(vC y z (fO p))))
def pM (d:I) (n:Int):Nat→(List I)→List I
  | 0,out=>out
  | k0+1,out=>bif decide ((((out).length:Nat):Int)<n) then ((pM d n k0 (out ++ [(E (Z.mul (out.getD ((out).length - 1) I0).dec d.dec))]))) else (out)
def iM (d:I) (n:Int):(List I) :=
  ap (fun (s:List I)=>let out:List I:=s
  out) (pM d n ((n.toNat+1)) [(E (Z.of 1))])
def o7 (p:(List I)) (x:Rt):Nat→Int→I→Int×I
  | 0,i,mb3=>(i,mb3)
  | k0+1,i,mb3=>bif decide (0≤i) then (let r25:I:=(E (Z.mul (p.getD ((i).toNat) I0).dec ((iM x.d (((p).length:Nat):Int)).getD (((p).length - 1) - (i).toNat) I0).dec))
  (o7 p x k0 (i - 1) (E (Z.add (Z.mul mb3.dec x.n.dec) r25.dec)))) else ((i,mb3))
def kH (p:(List I)) (x:Rt):I×I :=
  bif ((eJ p)||(!(nH [x]))) then (((E Z.bad),(E (Z.of 1)))) else (ap (fun (s:Int×I)=>let i:Int:=s.1
  let mb3:I:=s.2
  (mb3,((iM x.d (((p).length:Nat):Int)).getD ((((((p).length:Nat):Int) - 1)).toNat) I0))) (o7 p x ((p.length+1)) ((((p).length:Nat):Int) - 1) I0))
def kW (p:(List I)) (x:Rt):W×Bool :=
  ((Z.signW ((kH p x).1).dec),(!((kH p x).1).1.bad))
def vN (n:Int) (i:Int):Nat→Int→I→Int×I
  | 0,j,mb1=>(j,mb1)
  | k0+1,j,mb1=>bif decide (j≤n) then ((vN n i k0 (j+1) (E (Z.mul mb1.dec (Z.of j))))) else ((j,mb1))
def qE (n:Int) (i:Int) (j:Int) (mb1:I):Nat→(List I)→Nat→I→List I×Nat×I
  | 0,out,k,mb1_1=>(out,k,mb1_1)
  | k1+1,out,k,mb1_1=>bif decide (((k:Nat):Int)<(i+1)) then (bif decide (((k:Nat):Int)<n) then (let r22:I:=(E (Z.quo (Z.mul mb1_1.dec (Z.of (i - ((k:Nat):Int)))) (Z.of (n - ((k:Nat):Int)))))
  (qE n i j mb1 k1 (out ++ [mb1_1]) (k+1) r22)) else ((qE n i j mb1 k1 (out ++ [mb1_1]) (k+1) mb1_1))) else ((out,k,mb1_1))
def iH (n:Int) (i:Int):(List I) :=
  ap (fun (s_:Int×I)=>let j:Int:=s_.1
  let mb1:I:=s_.2
  ap (fun (s:List I×Nat×I)=>let out:List I:=s.1
  let k:Nat:=s.2.1
  let mb1_1:I:=s.2.2
  out) (qE n i j mb1 (((i+1).toNat+1)) ([]:List I) 0 mb1)) (vN n i ((n.toNat+1)) 2 (E (Z.of 1)))
structure Pose where
  x:A3 W
  q:A4 W
structure Path where
  from_:Pose
  to_:Pose
structure A6 (α:Type) where
  x0:α
  x1:α
  x2:α
  x3:α
  x4:α
  x5:α
structure Rope where
  a:W
  b:W
  p:A3 W
  q:A3 W
structure End where
  n:W
  v:A3 W
structure Pull where
  a:W
  b:W
  p:A3 Rt
  q:A3 Rt
structure Spot where
  x:A3 Rt
  e:W
structure Pulled where
  p:Pull
  e:W
structure Cols where
  a:A6 Rt
  b:A6 Rt
  e:W
structure Times where
  l:List Rt
  e:W
structure Paths where
  l:List Path
  e:W
structure Done where
  w:I
  e:W
structure Moving where
  n:A3 (List I)
  s:List I
structure Curve where
  p:List I
  e:W
def bG:Pose:=⟨⟨W.z,W.z,W.z⟩,⟨W.z,W.z,W.z,W.z⟩⟩
def iD:El Pose:=⟨7,fun p=>[ci .i64 p.x.x.1,ci .i64 p.x.y.1,ci .i64 p.x.z.1,ci .i64 p.q.x.1,ci .i64 p.q.y.1,ci .i64 p.q.z.1,ci .i64 p.q.t.1],fun _=>rfl⟩
def tN:El Path:=⟨14,fun p=>[ci .i64 p.from_.x.x.1,ci .i64 p.from_.x.y.1,ci .i64 p.from_.x.z.1,ci .i64 p.from_.q.x.1,ci .i64 p.from_.q.y.1,ci .i64 p.from_.q.z.1,ci .i64 p.from_.q.t.1,ci .i64 p.to_.x.x.1,ci .i64 p.to_.x.y.1,ci .i64 p.to_.x.z.1,ci .i64 p.to_.q.x.1,ci .i64 p.to_.q.y.1,ci .i64 p.to_.q.z.1,ci .i64 p.to_.q.t.1],fun _=>rfl⟩
def rL (l:(List I)) (f:I→Bool):Nat→Nat→(Nat) ⊕ (W)
  | 0,i=>.inl i
  | k0+1,i=>bif decide (((i:Nat):Int)<(((l).length:Nat):Int)) then (bif (f (l.getD i I0)) then (.inr ((W.cv ((i:Nat):Int)))) else ((rL l f k0 (i+1)))) else (.inl i)
def AS (l:(List I)) (f:I→Bool):W :=
  sm (fun (s:Nat)=>let i:Nat:=s
  (wl (-1))) (fun r=>r) (rL l f ((l.length+1)) 0)
def zM (l:(List I)) (f:I→Bool):Bool :=
  (decide (0≤(AS l f).1))
def pO (a:W) (b:W):Rt :=
  let r2:Rt:=(dJ (E (Z.of a.1)) (E (Z.of b.1)))
  r2
def tP (l:(List W)) (x0:W) (l0:List W) (o:W):Nat→W→W→W×W
  | 0,p,q=>(p,q)
  | k1+1,p,q=>bif (q.1 != 0) then ((tP l x0 l0 o k1 q (W.rem p q))) else ((p,q))
def rX (l:(List W)):List W→W→W
  | [],o=>o
  | x0 :: l0,o=>ap (fun (s:W×W)=>let p:W:=s.1
  let q:W:=s.2
  (rX l l0 p)) (tP l x0 l0 o ((W.max x0 (W.neg x0)).1.natAbs+1) o (W.max x0 (W.neg x0)))
def fL (l:(List W)):W :=
  ap (fun (s:W)=>let o:W:=s
  o) (rX l l (wl 0))
def yC (a:(A4 W)):Bool :=
  bif (decide (64<(W.max a.x (W.neg a.x)).1)||((a.x.1==(W.neg a.x).1)&&(a.x.1 != 0))) then (false) else (bif (decide (64<(W.max a.y (W.neg a.y)).1)||((a.y.1==(W.neg a.y).1)&&(a.y.1 != 0))) then (false) else (bif (decide (64<(W.max a.z (W.neg a.z)).1)||((a.z.1==(W.neg a.z).1)&&(a.z.1 != 0))) then (false) else (bif (decide (64<(W.max a.t (W.neg a.t)).1)||((a.t.1==(W.neg a.t).1)&&(a.t.1 != 0))) then (false) else (true))))
def i6 (a:(A4 W)):(A4 W)×Bool :=
  bif ((fL [a.x,a.y,a.z,a.t]).1==0) then (((⟨(wl 0),(wl 0),(wl 0),(wl 0)⟩:(A4 W)),false)) else (bif (a.x.1 != 0) then (let r6:W:=(bif decide (a.x.1<0) then (W.neg (fL [a.x,a.y,a.z,a.t])) else (fL [a.x,a.y,a.z,a.t]))
  ((⟨(W.quo a.x r6),(W.quo a.y r6),(W.quo a.z r6),(W.quo a.t r6)⟩:(A4 W)),true)) else (bif (a.y.1 != 0) then (let r11:W:=(bif decide (a.y.1<0) then (W.neg (fL [a.x,a.y,a.z,a.t])) else (fL [a.x,a.y,a.z,a.t]))
  ((⟨(W.quo a.x r11),(W.quo a.y r11),(W.quo a.z r11),(W.quo a.t r11)⟩:(A4 W)),true)) else (bif (a.z.1 != 0) then (let r16:W:=(bif decide (a.z.1<0) then (W.neg (fL [a.x,a.y,a.z,a.t])) else (fL [a.x,a.y,a.z,a.t]))
  ((⟨(W.quo a.x r16),(W.quo a.y r16),(W.quo a.z r16),(W.quo a.t r16)⟩:(A4 W)),true)) else (bif (a.t.1 != 0) then (let r21:W:=(bif decide (a.t.1<0) then (W.neg (fL [a.x,a.y,a.z,a.t])) else (fL [a.x,a.y,a.z,a.t]))
  ((⟨(W.quo a.x r21),(W.quo a.y r21),(W.quo a.z r21),(W.quo a.t r21)⟩:(A4 W)),true)) else (((⟨(W.quo a.x (fL [a.x,a.y,a.z,a.t])),(W.quo a.y (fL [a.x,a.y,a.z,a.t])),(W.quo a.z (fL [a.x,a.y,a.z,a.t])),(W.quo a.t (fL [a.x,a.y,a.z,a.t]))⟩:(A4 W)),true))))))
def zA (a:(A4 W)):Bool :=
  bif (yC a) then (let r3:(A4 W):=(i6 a).1
  ((i6 a).2&&(decide (r3.x.1=a.x.1)&&(decide (r3.y.1=a.y.1)&&(decide (r3.z.1=a.z.1)&&decide (r3.t.1=a.t.1)))))) else (false)
def yO (a:(List W)):Nat→W→Nat→W×Nat
  | 0,o,i=>(o,i)
  | k0+1,o,i=>bif decide (((i+1:Nat):Int)<(((a).length:Nat):Int)) then ((yO a k0 (W.add o (W.mul (a.getD i W.z) (a.getD (i+1) W.z))) (i+2))) else ((o,i))
def cV (a:(List W)):W :=
  ap (fun (s:W×Nat)=>let o:W:=s.1
  let i:Nat:=s.2
  o) (yO a (a.length+1) (wl 0) 0)
def qX (a:(A4 W)):(A9 W) :=
  (⟨(cV [a.x,a.x,a.y,a.y,(W.neg a.z),a.z,(W.neg a.t),a.t]),(W.mul (wl 2) (cV [a.y,a.z,(W.neg a.x),a.t])),(W.mul (wl 2) (cV [a.y,a.t,a.x,a.z])),(W.mul (wl 2) (cV [a.y,a.z,a.x,a.t])),(cV [a.x,a.x,(W.neg a.y),a.y,a.z,a.z,(W.neg a.t),a.t]),(W.mul (wl 2) (cV [a.z,a.t,(W.neg a.x),a.y])),(W.mul (wl 2) (cV [a.y,a.t,(W.neg a.x),a.z])),(W.mul (wl 2) (cV [a.z,a.t,a.x,a.y])),(cV [a.x,a.x,(W.neg a.y),a.y,(W.neg a.z),a.z,a.t,a.t])⟩:(A9 W))
def sW (a:(A4 W)) (b:(A3 W)):(A3 W) :=
  let r4:(A9 W):=(qX a)
  (⟨(cV [r4.x0,b.x,r4.x1,b.y,r4.x2,b.z]),(cV [r4.x3,b.x,r4.x4,b.y,r4.x5,b.z]),(cV [r4.x6,b.x,r4.x7,b.y,r4.x8,b.z])⟩:(A3 W))
def vJ (a:(A4 W)) (b:(A4 W)):W :=
  (cV [a.x,b.x,a.y,b.y,a.z,b.z,a.t,b.t])
def uF (a:(A4 W)):W :=
  (vJ a a)
def uD (a:(A4 W)) (b:(A3 W)):(A3 Rt) :=
  let r5:Rt:=(pO ((sW a b).x) (uF a))
  let r6:Rt:=(pO ((sW a b).y) (uF a))
  let r7:Rt:=(pO ((sW a b).z) (uF a))
  (⟨r5,r6,r7⟩:(A3 Rt))
def kQ (a:Pose):W :=
  bif (decide (140737488355328≤a.x.x.1)||decide (a.x.x.1≤(-140737488355328))) then ((wl 1)) else (bif (decide (140737488355328≤a.x.y.1)||decide (a.x.y.1≤(-140737488355328))) then ((wl 1)) else (bif (decide (140737488355328≤a.x.z.1)||decide (a.x.z.1≤(-140737488355328))) then ((wl 1)) else (bif (zA a.q) then ((wl 0)) else ((wl 1)))))
def tO (a:Path):W :=
  bif (((kQ a.from_).1 != 0)||((kQ a.to_).1 != 0)) then ((wl 1)) else ((wl 0))
def rE (a:Pose) (b:(A3 W)):(A3 Rt) :=
  let r4:(A3 Rt):=(qG a.x)
  let r5:(A3 Rt):=(uD a.q b)
  let r6:(A3 Rt):=(rU r4 r5)
  r6
def bR (h:Path):(A4 (List I)) :=
  bif decide ((vJ h.from_.q h.to_.q).1<0) then ((⟨(eU [h.from_.q.x,(W.sub (W.mul (wl (-1)) h.to_.q.x) h.from_.q.x)]),(eU [h.from_.q.y,(W.sub (W.mul (wl (-1)) h.to_.q.y) h.from_.q.y)]),(eU [h.from_.q.z,(W.sub (W.mul (wl (-1)) h.to_.q.z) h.from_.q.z)]),(eU [h.from_.q.t,(W.sub (W.mul (wl (-1)) h.to_.q.t) h.from_.q.t)])⟩:(A4 (List I)))) else ((⟨(eU [h.from_.q.x,(W.sub (W.mul (wl 1) h.to_.q.x) h.from_.q.x)]),(eU [h.from_.q.y,(W.sub (W.mul (wl 1) h.to_.q.y) h.from_.q.y)]),(eU [h.from_.q.z,(W.sub (W.mul (wl 1) h.to_.q.z) h.from_.q.z)]),(eU [h.from_.q.t,(W.sub (W.mul (wl 1) h.to_.q.t) h.from_.q.t)])⟩:(A4 (List I))))
def gE (n:W) (l0:(List I)) (l1:(List I)) (l2:(List I)) (l3:(List I)):(List I) :=
  (dS (cY (cY ([]:List I) (cI l0 l1)) (cI l2 l3)) (E (Z.of n.1)))
def wL (n:W) (l0:(List I)) (l1:(List I)) (l2:(List I)) (l3:(List I)) (l4:(List I)) (l5:(List I)) (l6:(List I)) (l7:(List I)):(List I) :=
  (dS (cY (cY (cY (cY ([]:List I) (cI l0 l1)) (cI l2 l3)) (cI l4 l5)) (cI l6 l7)) (E (Z.of n.1)))
def pN (h:Path):(List I) :=
  (wL (wl 1) ((bR h).x) ((bR h).x) ((bR h).y) ((bR h).y) ((bR h).z) ((bR h).z) ((bR h).t) ((bR h).t))
def l9 (x:(List I)) (y:(List I)) (z:(List I)) (u:(List I)):(List I) :=
  (oT (gE (wl 1) x x y y) (gE (wl 1) z z u u))
end Go.Num

