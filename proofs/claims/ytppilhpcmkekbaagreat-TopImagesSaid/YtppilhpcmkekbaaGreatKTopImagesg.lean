/- Parts of the proof. -/
import Derived.Test.YtppilhpcmkekbaaGreatKTopImagesf
set_option linter.unusedSimpArgs false
set_option linter.unusedVariables false
set_option linter.unusedSectionVars false
set_option maxRecDepth 100000
set_option maxHeartbeats 16000000
namespace Go.Proofs.YtppilhpcmkekbaaGreat
open Go.Proofs.Tryz
section
section
open Go.RowKit
theorem GU(W:World):(isAgg 3).run prog W= .ok false W:=by kernel_rfl
theorem Kz(W:World):(Go.sizeOf 3).run prog W= .ok 1 W:=by kernel_rfl
theorem ag4(W:World):(isAgg 4).run prog W= .ok false W:=by kernel_rfl
theorem sz4(W:World):(Go.sizeOf 4).run prog W= .ok 1 W:=by kernel_rfl
theorem Fg(W:World):(isAgg 22).run prog W= .ok false W:=by kernel_rfl
theorem Lh(W:World):(Go.sizeOf 22).run prog W= .ok 1 W:=by kernel_rfl
theorem Lm(W:World):(isAgg 23).run prog W= .ok false W:=by kernel_rfl
theorem ag6(W:World):(Go.sizeOf 23).run prog W= .ok 1 W:=by kernel_rfl
theorem MO(W:World):(isAgg 25).run prog W= .ok true W:=by kernel_rfl
theorem Jg(W:World):(Go.sizeOf 25).run prog W= .ok 2 W:=by kernel_rfl
theorem IU(a:Addr)(W:World):(Instr.fieldAt 25 (.pointer (some a)) 0).run prog W= .ok (.pointer (some (a.add 0))) W:=by kernel_rfl
theorem Gg(a:Addr)(W:World):(Instr.fieldAt 25 (.pointer (some a)) 1).run prog W= .ok (.pointer (some (a.add 1))) W:=by kernel_rfl
theorem GR(W:World):(isAgg 26).run prog W= .ok false W:=by kernel_rfl
theorem GV(W:World):(Go.sizeOf 26).run prog W= .ok 1 W:=by kernel_rfl
theorem arS(a:Addr)(W:World):(Instr.fieldAt 34 (.pointer (some a)) 0).run prog W= .ok (.pointer (some (a.add 0))) W:=by kernel_rfl
theorem asM(a:Addr)(W:World):(Instr.fieldAt 34 (.pointer (some a)) 1).run prog W= .ok (.pointer (some (a.add 1))) W:=by kernel_rfl
theorem arl(a:Addr)(W:World):(Instr.fieldAt 34 (.pointer (some a)) 2).run prog W= .ok (.pointer (some (a.add 2))) W:=by kernel_rfl
theorem Kt(W:World):(isAgg 36).run prog W= .ok false W:=by kernel_rfl
theorem ahJ(W:World):(isAgg 46).run prog W= .ok true W:=by kernel_rfl
theorem aaG(W:World):(Go.sizeOf 46).run prog W= .ok 3 W:=by kernel_rfl
theorem anB(a:Addr)(W:World):(Instr.fieldAt 46 (.pointer (some a)) 0).run prog W= .ok (.pointer (some (a.add 0))) W:=by kernel_rfl
theorem anq(a:Addr)(W:World):(Instr.fieldAt 46 (.pointer (some a)) 1).run prog W= .ok (.pointer (some (a.add 1))) W:=by kernel_rfl
theorem asV(a:Addr)(W:World):(Instr.fieldAt 46 (.pointer (some a)) 2).run prog W= .ok (.pointer (some (a.add 2))) W:=by kernel_rfl
theorem JE(W:World):(isAgg 55).run prog W= .ok false W:=by kernel_rfl
theorem amb(W:World):(Go.sizeOf 55).run prog W= .ok 1 W:=by kernel_rfl
theorem UC(W:World):(isAgg 72).run prog W= .ok true W:=by kernel_rfl
theorem SN(W:World):(Go.sizeOf 72).run prog W= .ok 2 W:=by kernel_rfl
theorem abH(a:Addr)(W:World):(Instr.fieldAt 72 (.pointer (some a)) 0).run prog W= .ok (.pointer (some (a.add 0))) W:=by kernel_rfl
theorem aeA(a:Addr)(W:World):(Instr.fieldAt 72 (.pointer (some a)) 1).run prog W= .ok (.pointer (some (a.add 1))) W:=by kernel_rfl
theorem Om(W:World):(isAgg 73).run prog W= .ok false W:=by kernel_rfl
theorem atj(W:World):(Go.sizeOf 73).run prog W= .ok 1 W:=by kernel_rfl
theorem Xe(W:World):(isAgg 77).run prog W= .ok true W:=by kernel_rfl
theorem JR(W:World):(Go.sizeOf 77).run prog W= .ok 2 W:=by kernel_rfl
theorem Iz(a:Addr)(W:World):(Instr.fieldAt 77 (.pointer (some a)) 0).run prog W= .ok (.pointer (some (a.add 0))) W:=by kernel_rfl
theorem Nc(a:Addr)(W:World):(Instr.fieldAt 77 (.pointer (some a)) 1).run prog W= .ok (.pointer (some (a.add 1))) W:=by kernel_rfl
theorem H6(W:World):(isAgg 79).run prog W= .ok true W:=by kernel_rfl
theorem G5(W:World):(Go.sizeOf 79).run prog W= .ok 1 W:=by kernel_rfl
theorem Ou(a:Addr)(W:World):(Instr.fieldAt 79 (.pointer (some a)) 0).run prog W= .ok (.pointer (some (a.add 0))) W:=by kernel_rfl
theorem ap1(W:World):(isAgg 100).run prog W= .ok true W:=by kernel_rfl
theorem aiy(W:World):(Go.sizeOf 100).run prog W= .ok 2 W:=by kernel_rfl
theorem aeB(a:Addr)(W:World):(Instr.fieldAt 100 (.pointer (some a)) 0).run prog W= .ok (.pointer (some (a.add 0))) W:=by kernel_rfl
theorem Ws(a:Addr)(W:World):(Instr.fieldAt 100 (.pointer (some a)) 1).run prog W= .ok (.pointer (some (a.add 1))) W:=by kernel_rfl
theorem acU(W:World):(isAgg 102).run prog W= .ok false W:=by kernel_rfl
theorem KU(W:World):(isAgg 103).run prog W= .ok true W:=by kernel_rfl
theorem IC(W:World):(Go.sizeOf 103).run prog W= .ok 8 W:=by kernel_rfl
theorem avw(W:World):(isAgg 104).run prog W= .ok true W:=by kernel_rfl
theorem avM(W:World):(Go.sizeOf 104).run prog W= .ok 32 W:=by kernel_rfl
theorem adF(a:Addr)(W:World):(Instr.fieldAt 106 (.pointer (some a)) 0).run prog W= .ok (.pointer (some (a.add 0))) W:=by kernel_rfl
theorem ait(W:World):(isAgg 107).run prog W= .ok false W:=by kernel_rfl
theorem anC(W:World):(isAgg 108).run prog W= .ok false W:=by kernel_rfl
theorem auA(W:World):(Go.sizeOf 108).run prog W= .ok 1 W:=by kernel_rfl
theorem PN(W:World):(isAgg 109).run prog W= .ok false W:=by kernel_rfl
theorem Wq(a:Addr)(W:World):(Instr.fieldAt 111 (.pointer (some a)) 0).run prog W= .ok (.pointer (some (a.add 0))) W:=by kernel_rfl
theorem Z9(a:Addr)(W:World):(Instr.fieldAt 111 (.pointer (some a)) 1).run prog W= .ok (.pointer (some (a.add 1))) W:=by kernel_rfl
theorem Yh(a:Addr)(W:World):(Instr.fieldAt 111 (.pointer (some a)) 2).run prog W= .ok (.pointer (some (a.add 2))) W:=by kernel_rfl
theorem Pz(a:Addr)(W:World):(Instr.fieldAt 111 (.pointer (some a)) 3).run prog W= .ok (.pointer (some (a.add 3))) W:=by kernel_rfl
theorem aah(a:Addr)(W:World):(Instr.fieldAt 111 (.pointer (some a)) 4).run prog W= .ok (.pointer (some (a.add 35))) W:=by kernel_rfl
theorem aay(a:Addr)(W:World):(Instr.fieldAt 111 (.pointer (some a)) 5).run prog W= .ok (.pointer (some (a.add 36))) W:=by kernel_rfl
theorem aez(a:Addr)(W:World):(Instr.fieldAt 111 (.pointer (some a)) 6).run prog W= .ok (.pointer (some (a.add 37))) W:=by kernel_rfl
theorem UA(a:Addr)(W:World):(Instr.fieldAt 111 (.pointer (some a)) 7).run prog W= .ok (.pointer (some (a.add 38))) W:=by kernel_rfl
theorem adh(W:World):(isAgg 113).run prog W= .ok true W:=by kernel_rfl
theorem TA(W:World):(Go.sizeOf 113).run prog W= .ok 2 W:=by kernel_rfl
theorem aan(a:Addr)(W:World):(Instr.fieldAt 113 (.pointer (some a)) 0).run prog W= .ok (.pointer (some (a.add 0))) W:=by kernel_rfl
theorem akV(W:World):(isAgg 115).run prog W= .ok true W:=by kernel_rfl
theorem abL(W:World):(Go.sizeOf 115).run prog W= .ok 6 W:=by kernel_rfl
theorem aey(a:Addr)(W:World):(Instr.fieldAt 115 (.pointer (some a)) 1).run prog W= .ok (.pointer (some (a.add 2))) W:=by kernel_rfl
theorem aae(a:Addr)(W:World):(Instr.fieldAt 115 (.pointer (some a)) 2).run prog W= .ok (.pointer (some (a.add 3))) W:=by kernel_rfl
theorem anW(a:Addr)(W:World):(Instr.fieldAt 115 (.pointer (some a)) 3).run prog W= .ok (.pointer (some (a.add 4))) W:=by kernel_rfl
theorem aav(a:Addr)(W:World):(Instr.fieldAt 115 (.pointer (some a)) 4).run prog W= .ok (.pointer (some (a.add 5))) W:=by kernel_rfl
theorem KW(W:World):(isAgg 127).run prog W= .ok false W:=by kernel_rfl
theorem avv(W:World):(Go.sizeOf 127).run prog W= .ok 1 W:=by kernel_rfl
theorem Vo(W:World):(isAgg 128).run prog W= .ok false W:=by kernel_rfl
theorem atN(W:World):(Go.sizeOf 128).run prog W= .ok 1 W:=by kernel_rfl
theorem aad(a:Addr)(W:World):(Instr.fieldAt 130 (.pointer (some a)) 0).run prog W= .ok (.pointer (some (a.add 0))) W:=by kernel_rfl
theorem apc(a:Addr)(W:World):(Instr.fieldAt 130 (.pointer (some a)) 1).run prog W= .ok (.pointer (some (a.add 1))) W:=by kernel_rfl
theorem aiS(a:Addr)(W:World):(Instr.fieldAt 130 (.pointer (some a)) 2).run prog W= .ok (.pointer (some (a.add 2))) W:=by kernel_rfl
theorem aee(a:Addr)(W:World):(Instr.fieldAt 130 (.pointer (some a)) 3).run prog W= .ok (.pointer (some (a.add 3))) W:=by kernel_rfl
theorem V4(a:Addr)(W:World):(Instr.fieldAt 130 (.pointer (some a)) 4).run prog W= .ok (.pointer (some (a.add 4))) W:=by kernel_rfl
theorem adT(a:Addr)(W:World):(Instr.fieldAt 130 (.pointer (some a)) 5).run prog W= .ok (.pointer (some (a.add 5))) W:=by kernel_rfl
theorem RJ(W:World):(isAgg 155).run prog W= .ok false W:=by kernel_rfl
theorem au8(W:World):(Go.sizeOf 155).run prog W= .ok 1 W:=by kernel_rfl
theorem adO(a:Addr)(W:World):(Instr.fieldAt 157 (.pointer (some a)) 0).run prog W= .ok (.pointer (some (a.add 0))) W:=by kernel_rfl
theorem PE(a:Addr)(W:World):(Instr.fieldAt 157 (.pointer (some a)) 1).run prog W= .ok (.pointer (some (a.add 1))) W:=by kernel_rfl
theorem aiZ(a:Addr)(W:World):(Instr.fieldAt 157 (.pointer (some a)) 2).run prog W= .ok (.pointer (some (a.add 2))) W:=by kernel_rfl
theorem RP(a:Addr)(W:World):(Instr.fieldAt 157 (.pointer (some a)) 3).run prog W= .ok (.pointer (some (a.add 3))) W:=by kernel_rfl
theorem adH(a:Addr)(W:World):(Instr.fieldAt 157 (.pointer (some a)) 4).run prog W= .ok (.pointer (some (a.add 4))) W:=by kernel_rfl
theorem aal(a:Addr)(W:World):(Instr.fieldAt 157 (.pointer (some a)) 5).run prog W= .ok (.pointer (some (a.add 5))) W:=by kernel_rfl
theorem VX(a:Addr)(W:World):(Instr.fieldAt 157 (.pointer (some a)) 6).run prog W= .ok (.pointer (some (a.add 6))) W:=by kernel_rfl
theorem aef(a:Addr)(W:World):(Instr.fieldAt 157 (.pointer (some a)) 7).run prog W= .ok (.pointer (some (a.add 7))) W:=by kernel_rfl
theorem WI(a:Addr)(W:World):(Instr.fieldAt 157 (.pointer (some a)) 8).run prog W= .ok (.pointer (some (a.add 8))) W:=by kernel_rfl
theorem amE(W:World):(isAgg 185).run prog W= .ok false W:=by kernel_rfl
theorem aax(a:Addr)(W:World):(Instr.fieldAt 191 (.pointer (some a)) 0).run prog W= .ok (.pointer (some (a.add 0))) W:=by kernel_rfl
theorem Uz(a:Addr)(W:World):(Instr.fieldAt 191 (.pointer (some a)) 1).run prog W= .ok (.pointer (some (a.add 1))) W:=by kernel_rfl
theorem PD(a:Addr)(W:World):(Instr.fieldAt 193 (.pointer (some a)) 0).run prog W= .ok (.pointer (some (a.add 0))) W:=by kernel_rfl
theorem aau(a:Addr)(W:World):(Instr.fieldAt 193 (.pointer (some a)) 1).run prog W= .ok (.pointer (some (a.add 1))) W:=by kernel_rfl
theorem TT(a:Addr)(W:World):(Instr.fieldAt 193 (.pointer (some a)) 2).run prog W= .ok (.pointer (some (a.add 2))) W:=by kernel_rfl
theorem aiD(a:Addr)(W:World):(Instr.fieldAt 199 (.pointer (some a)) 4).run prog W= .ok (.pointer (some (a.add 4))) W:=by kernel_rfl
theorem auD(W:World):(isAgg 203).run prog W= .ok true W:=by kernel_rfl
theorem atq(W:World):(Go.sizeOf 203).run prog W= .ok 32 W:=by kernel_rfl
theorem EY(W:World):(isAgg 205).run prog W= .ok true W:=by kernel_rfl
theorem DF(W:World):(Go.sizeOf 205).run prog W= .ok 2 W:=by kernel_rfl
theorem ad7(a:Addr)(W:World):(Instr.fieldAt 205 (.pointer (some a)) 0).run prog W= .ok (.pointer (some (a.add 0))) W:=by kernel_rfl
theorem aiP(a:Addr)(W:World):(Instr.fieldAt 205 (.pointer (some a)) 1).run prog W= .ok (.pointer (some (a.add 1))) W:=by kernel_rfl
theorem Iy(W:World):(isAgg 209).run prog W= .ok true W:=by kernel_rfl
theorem EC(W:World):(Go.sizeOf 209).run prog W= .ok 3 W:=by kernel_rfl
theorem Oy(a:Addr)(W:World):(Instr.fieldAt 209 (.pointer (some a)) 0).run prog W= .ok (.pointer (some (a.add 0))) W:=by kernel_rfl
theorem apk(a:Addr)(W:World):(Instr.fieldAt 209 (.pointer (some a)) 1).run prog W= .ok (.pointer (some (a.add 1))) W:=by kernel_rfl
theorem ad2(a:Addr)(W:World):(Instr.fieldAt 209 (.pointer (some a)) 2).run prog W= .ok (.pointer (some (a.add 2))) W:=by kernel_rfl
theorem PW(W:World):(isAgg 214).run prog W= .ok true W:=by kernel_rfl
theorem GY(W:World):(Go.sizeOf 214).run prog W= .ok 9 W:=by kernel_rfl
theorem MG(a:Addr)(W:World):(Instr.fieldAt 214 (.pointer (some a)) 0).run prog W= .ok (.pointer (some (a.add 0))) W:=by kernel_rfl
theorem aiO(a:Addr)(W:World):(Instr.fieldAt 214 (.pointer (some a)) 1).run prog W= .ok (.pointer (some (a.add 1))) W:=by kernel_rfl
theorem TP(W:World):(isAgg 217).run prog W= .ok true W:=by kernel_rfl
theorem QJ(W:World):(Go.sizeOf 217).run prog W= .ok 16 W:=by kernel_rfl
theorem ND(a:Addr)(W:World):(Instr.fieldAt 220 (.pointer (some a)) 0).run prog W= .ok (.pointer (some (a.add 0))) W:=by kernel_rfl
theorem NC(a:Addr)(W:World):(Instr.fieldAt 220 (.pointer (some a)) 1).run prog W= .ok (.pointer (some (a.add 1))) W:=by kernel_rfl
theorem Yu(a:Addr)(W:World):(Instr.fieldAt 220 (.pointer (some a)) 2).run prog W= .ok (.pointer (some (a.add 10))) W:=by kernel_rfl
theorem aak(a:Addr)(W:World):(Instr.fieldAt 220 (.pointer (some a)) 3).run prog W= .ok (.pointer (some (a.add 11))) W:=by kernel_rfl
theorem aiL(W:World):(isAgg 236).run prog W= .ok false W:=by kernel_rfl
theorem aeK(a:Addr)(W:World):(Instr.fieldAt 238 (.pointer (some a)) 0).run prog W= .ok (.pointer (some (a.add 0))) W:=by kernel_rfl
theorem aen(a:Addr)(W:World):(Instr.fieldAt 238 (.pointer (some a)) 1).run prog W= .ok (.pointer (some (a.add 1))) W:=by kernel_rfl
theorem ZW(a:Addr)(W:World):(Instr.fieldAt 238 (.pointer (some a)) 2).run prog W= .ok (.pointer (some (a.add 2))) W:=by kernel_rfl
theorem XI(a:Addr)(W:World):(Instr.fieldAt 238 (.pointer (some a)) 3).run prog W= .ok (.pointer (some (a.add 3))) W:=by kernel_rfl
theorem Z4(a:Addr)(W:World):(Instr.fieldAt 238 (.pointer (some a)) 4).run prog W= .ok (.pointer (some (a.add 4))) W:=by kernel_rfl
theorem aqb(W:World):(isAgg 245).run prog W= .ok true W:=by kernel_rfl
theorem anG(W:World):(Go.sizeOf 245).run prog W= .ok 8 W:=by kernel_rfl
theorem WX(W:World):(isAgg 254).run prog W= .ok false W:=by kernel_rfl
theorem atP(W:World):(isAgg 259).run prog W= .ok false W:=by kernel_rfl
theorem RY(a:Addr)(W:World):(Instr.fieldAt 265 (.pointer (some a)) 0).run prog W= .ok (.pointer (some (a.add 0))) W:=by kernel_rfl
theorem anZ(a:Addr)(W:World):(Instr.fieldAt 265 (.pointer (some a)) 1).run prog W= .ok (.pointer (some (a.add 1))) W:=by kernel_rfl
theorem apt(a:Addr)(W:World):(Instr.fieldAt 265 (.pointer (some a)) 2).run prog W= .ok (.pointer (some (a.add 2))) W:=by kernel_rfl
theorem aqW(W:World):(Go.sizeOf 287).run prog W= .ok 2 W:=by kernel_rfl
theorem aiQ(a:Addr)(W:World):(Instr.fieldAt 306 (.pointer (some a)) 0).run prog W= .ok (.pointer (some (a.add 0))) W:=by kernel_rfl
theorem aiJ(a:Addr)(W:World):(Instr.fieldAt 306 (.pointer (some a)) 1).run prog W= .ok (.pointer (some (a.add 1))) W:=by kernel_rfl
theorem Rx(a:Addr)(W:World):(Instr.fieldAt 306 (.pointer (some a)) 2).run prog W= .ok (.pointer (some (a.add 2))) W:=by kernel_rfl
theorem at6(W:World):(isAgg 309).run prog W= .ok true W:=by kernel_rfl
theorem XR(W:World):(Go.sizeOf 309).run prog W= .ok 2 W:=by kernel_rfl
theorem aeE(a:Addr)(W:World):(Instr.fieldAt 309 (.pointer (some a)) 0).run prog W= .ok (.pointer (some (a.add 0))) W:=by kernel_rfl
theorem Yn(a:Addr)(W:World):(Instr.fieldAt 309 (.pointer (some a)) 1).run prog W= .ok (.pointer (some (a.add 1))) W:=by kernel_rfl
theorem OL(W:World):(isAgg 311).run prog W= .ok false W:=by kernel_rfl
theorem OU(a:Addr)(W:World):(Instr.fieldAt 314 (.pointer (some a)) 0).run prog W= .ok (.pointer (some (a.add 0))) W:=by kernel_rfl
theorem OC(a:Addr)(W:World):(Instr.fieldAt 314 (.pointer (some a)) 1).run prog W= .ok (.pointer (some (a.add 32))) W:=by kernel_rfl
theorem Ql(W:World):(isAgg 324).run prog W= .ok true W:=by kernel_rfl
theorem OX(W:World):(Go.sizeOf 324).run prog W= .ok 2 W:=by kernel_rfl
theorem ajd(W:World):(isAgg 327).run prog W= .ok false W:=by kernel_rfl
theorem alf(W:World):(isAgg 328).run prog W= .ok false W:=by kernel_rfl
theorem aiU(a:Addr)(W:World):(Instr.fieldAt 330 (.pointer (some a)) 0).run prog W= .ok (.pointer (some (a.add 0))) W:=by kernel_rfl
theorem aoB(a:Addr)(W:World):(Instr.fieldAt 330 (.pointer (some a)) 1).run prog W= .ok (.pointer (some (a.add 1))) W:=by kernel_rfl
theorem apu(a:Addr)(W:World):(Instr.fieldAt 330 (.pointer (some a)) 2).run prog W= .ok (.pointer (some (a.add 2))) W:=by kernel_rfl
theorem ZV(a:Addr)(W:World):(Instr.fieldAt 330 (.pointer (some a)) 3).run prog W= .ok (.pointer (some (a.add 3))) W:=by kernel_rfl
theorem Qu(a:Addr)(W:World):(Instr.fieldAt 330 (.pointer (some a)) 4).run prog W= .ok (.pointer (some (a.add 4))) W:=by kernel_rfl
theorem adI(a:Addr)(W:World):(Instr.fieldAt 330 (.pointer (some a)) 5).run prog W= .ok (.pointer (some (a.add 5))) W:=by kernel_rfl
theorem av3(W:World):(isAgg 333).run prog W= .ok true W:=by kernel_rfl
theorem awo(W:World):(Go.sizeOf 333).run prog W= .ok 2 W:=by kernel_rfl
theorem La(a:Addr)(W:World):(Instr.fieldAt 336 (.pointer (some a)) 0).run prog W= .ok (.pointer (some (a.add 0))) W:=by kernel_rfl
theorem aac(a:Addr)(W:World):(Instr.fieldAt 336 (.pointer (some a)) 1).run prog W= .ok (.pointer (some (a.add 1))) W:=by kernel_rfl
theorem aiI(a:Addr)(W:World):(Instr.fieldAt 336 (.pointer (some a)) 2).run prog W= .ok (.pointer (some (a.add 2))) W:=by kernel_rfl
theorem GI:Inf prog 3 (.int .i64 0) 1 8:=JA Ak
theorem Nl:Inf prog 4 (.bool false) 1 1:=JA Ak
theorem UU:Inf prog 22 (.slice none 0 0) 1 24:=JA Ak
theorem O6:Inf prog 25 (.agg [.slice none 0 0,.slice none 0 0].toArray) 2 48:=JA Ak
theorem Ig:Inf prog 26 (.int .u64 0) 1 8:=JA Ak
theorem aqn:Inf prog 46 (.agg [.bool false,.int .i64 0,.int .i64 0].toArray) 3 24:=JA Ak
theorem aqU:Inf prog 72 (.agg [.int .i64 0,.int .i64 0].toArray) 2 16:=JA Ak
theorem avm:Inf prog 73 (.pointer none) 1 8:=JA Ak
theorem LV:Inf prog 77 (.agg [.slice none 0 0,.slice none 0 0].toArray) 2 48:=JA Ak
theorem acy:Inf prog 79 (.agg [.int .i64 0].toArray) 1 8:=JA Ak
theorem ahv:Inf prog 100 (.agg [.int .i64 0,.slice none 0 0].toArray) 2 32:=JA Ak
theorem Vg:Inf prog 103 (.agg [.int .i64 0,.int .i64 0,.int .i64 0,.int .i64 0,.int .i64 0,.int .i64 0,.int .i64 0,.int .i64 0].toArray) 8 64:=JA Ak
theorem Xt:Inf prog 113 (.agg [.int .i64 0,.int .u64 0].toArray) 2 16:=JA Ak
theorem adN:Inf prog 115 (.agg [.int .i64 0,.int .u64 0,.int .i64 0,.pointer none,.pointer none,.slice none 0 0].toArray) 6 64:=JA Ak
theorem arJ:Inf prog 127 (.map none) 1 8:=JA Ak
theorem ar9:Inf prog 155 (.slice none 0 0) 1 24:=JA Ak
theorem arM:Inf prog 203 (.agg [.int .i64 0,.int .i64 0,.int .i64 0,.int .i64 0,.int .i64 0,.int .i64 0,.int .i64 0,.int .i64 0,.int .i64 0,.int .i64 0,.int .i64 0,.int .i64 0,.int .i64 0,.int .i64 0,.int .i64 0,.int .i64 0,.int .i64 0,.int .i64 0,.int .i64 0,.int .i64 0,.int .i64 0,.int .i64 0,.int .i64 0,.int .i64 0,.int .i64 0,.int .i64 0,.int .i64 0,.int .i64 0,.int .i64 0,.int .i64 0,.int .i64 0,.int .i64 0].toArray) 32 256:=JA Ak
theorem FK:Inf prog 205 (.agg [.int .i64 0,.int .i64 0].toArray) 2 16:=JA Ak
theorem J9:Inf prog 209 (.agg [.int .i64 0,.int .i64 0,.int .i64 0].toArray) 3 24:=JA Ak
theorem IX:Inf prog 214 (.agg [.int .u64 0,.int .i64 0,.int .i64 0,.int .i64 0,.int .i64 0,.int .i64 0,.int .i64 0,.int .i64 0,.int .i64 0].toArray) 9 72:=JA Ak
theorem ahq:Inf prog 217 (.agg [.int .u64 0,.int .u64 0,.int .u64 0,.int .u64 0,.int .u64 0,.int .u64 0,.int .u64 0,.int .u64 0,.int .u64 0,.int .u64 0,.int .u64 0,.int .u64 0,.int .u64 0,.int .u64 0,.int .u64 0,.int .u64 0].toArray) 16 128:=JA Ak
theorem amc:Inf prog 245 (.agg [.int .u64 0,.int .u64 0,.int .u64 0,.int .u64 0,.int .u64 0,.int .u64 0,.int .u64 0,.int .u64 0].toArray) 8 64:=JA Ak
theorem alj:Inf prog 287 (.agg [.int .i64 0,.int .i64 0].toArray) 2 16:=JA Ak
theorem aaZ:Inf prog 309 (.agg [.int .i64 0,.int .i64 0].toArray) 2 16:=JA Ak
theorem amZ:Inf prog 324 (.agg [.int .i64 0,.int .i64 0].toArray) 2 16:=JA Ak
theorem awQ(W:World):(Instr.build 25 ([]:List (Nat×Value)).toArray).run prog W= .ok (.agg ([(.slice none 0 0),(.slice none 0 0)]:List Value).toArray) W:=by kernel_rfl
theorem TU(z0:Int)(z1:Int)(z2:Int)(W:World):(Instr.build 34 ([(0,.int .i64 z0),(1,.int .u64 z1),(2,.int .i64 z2)]:List (Nat×Value)).toArray).run prog W= .ok (.agg ([(.int .i64 z0),(.int .u64 z1),(.int .i64 z2)]:List Value).toArray) W:=by kernel_rfl
theorem aul(W:World):(Instr.build 72 ([]:List (Nat×Value)).toArray).run prog W= .ok (.agg ([(.int .i64 0),(.int .i64 0)]:List Value).toArray) W:=by kernel_rfl
theorem asB(z1:Int)(W:World):(Instr.build 72 ([(1,.int .i64 z1)]:List (Nat×Value)).toArray).run prog W= .ok (.agg ([(.int .i64 0),(.int .i64 z1)]:List Value).toArray) W:=by kernel_rfl
theorem ar0(z1:Option Addr)(l1 c1:Nat)(W:World):(Instr.build 77 ([(1,.slice z1 l1 c1)]:List (Nat×Value)).toArray).run prog W= .ok (.agg ([(.slice none 0 0),(.slice z1 l1 c1)]:List Value).toArray) W:=by kernel_rfl
theorem XF(z0:Int)(W:World):(Instr.build 79 ([(0,.int .i64 z0)]:List (Nat×Value)).toArray).run prog W= .ok (.agg ([(.int .i64 z0)]:List Value).toArray) W:=by kernel_rfl
theorem ZH(z0:Option Addr)(z1:Option Addr)(z2:Option Addr)(z4:Option Addr)(z6:Option Addr)(W:World):(Instr.build 111 ([(0,.pointer z0),(1,.pointer z1),(2,.pointer z2),(4,.pointer z4),(6,.pointer z6)]:List (Nat×Value)).toArray).run prog W= .ok (.agg ([(.pointer z0),(.pointer z1),(.pointer z2),(.int .i64 0),(.int .i64 0),(.int .i64 0),(.int .i64 0),(.int .i64 0),(.int .i64 0),(.int .i64 0),(.int .i64 0),(.int .i64 0),(.int .i64 0),(.int .i64 0),(.int .i64 0),(.int .i64 0),(.int .i64 0),(.int .i64 0),(.int .i64 0),(.int .i64 0),(.int .i64 0),(.int .i64 0),(.int .i64 0),(.int .i64 0),(.int .i64 0),(.int .i64 0),(.int .i64 0),(.int .i64 0),(.int .i64 0),(.int .i64 0),(.int .i64 0),(.int .i64 0),(.int .i64 0),(.int .i64 0),(.int .i64 0),(.pointer z4),(.pointer none),(.pointer z6),(.bool false)]:List Value).toArray) W:=by kernel_rfl
theorem apR(W:World):(Instr.build 113 ([]:List (Nat×Value)).toArray).run prog W= .ok (.agg ([(.int .i64 0),(.int .u64 0)]:List Value).toArray) W:=by kernel_rfl
theorem aj3(z0:Int)(z1:Int)(W:World):(Instr.build 113 ([(0,.int .i64 z0),(1,.int .u64 z1)]:List (Nat×Value)).toArray).run prog W= .ok (.agg ([(.int .i64 z0),(.int .u64 z1)]:List Value).toArray) W:=by kernel_rfl
theorem ach(av8 atg:Value)(Ve:Value)(z3:Option Addr)(z4:Option Addr)(l4 c4:Nat)(W:World):(Instr.build 115 ([(0,.agg [av8,atg].toArray),(1,.agg [Ve].toArray),(3,.pointer z3),(4,.slice z4 l4 c4)]:List (Nat×Value)).toArray).run prog W= .ok (.agg ([av8,atg,Ve,(.pointer none),(.pointer z3),(.slice z4 l4 c4)]:List Value).toArray) W:=by kernel_rfl
theorem aff(z0:Option Addr)(Ve:Value)(z3:Option Nat)(W:World):(Instr.build 130 ([(0,.pointer z0),(1,.agg [Ve].toArray),(3,.map z3)]:List (Nat×Value)).toArray).run prog W= .ok (.agg ([(.pointer z0),Ve,(.slice none 0 0),(.map z3),(.slice none 0 0),(.bool false),(.int .i64 0),(.int .i64 0)]:List Value).toArray) W:=by kernel_rfl
theorem Eb(z0:Option Addr)(l0 c0:Nat)(z1:Option Addr)(l1 c1:Nat)(z2:Option Addr)(l2 c2:Nat)(z3:Option Addr)(l3 c3:Nat)(z4:Option Addr)(l4 c4:Nat)(W:World):(Instr.build 157 ([(0,.slice z0 l0 c0),(1,.slice z1 l1 c1),(2,.slice z2 l2 c2),(3,.slice z3 l3 c3),(4,.slice z4 l4 c4)]:List (Nat×Value)).toArray).run prog W= .ok (.agg ([(.slice z0 l0 c0),(.slice z1 l1 c1),(.slice z2 l2 c2),(.slice z3 l3 c3),(.slice z4 l4 c4),(.int .i64 0),(.int .i64 0),(.bool false),(.bool false)]:List Value).toArray) W:=by kernel_rfl
theorem aj2(z0:Option Addr)(z1:Option Addr)(W:World):(Instr.build 191 ([(0,.pointer z0),(1,.pointer z1)]:List (Nat×Value)).toArray).run prog W= .ok (.agg ([(.pointer z0),(.pointer z1)]:List Value).toArray) W:=by kernel_rfl
theorem akM(z0:Option Addr)(l0 c0:Nat)(z1:Int)(W:World):(Instr.build 193 ([(0,.slice z0 l0 c0),(1,.int .i64 z1)]:List (Nat×Value)).toArray).run prog W= .ok (.agg ([(.slice z0 l0 c0),(.int .i64 z1),(.int .i64 0)]:List Value).toArray) W:=by kernel_rfl
theorem abW(W:World):(Instr.build 205 ([]:List (Nat×Value)).toArray).run prog W= .ok (.agg ([(.int .i64 0),(.int .i64 0)]:List Value).toArray) W:=by kernel_rfl
theorem acQ(z0:Int)(z1:Int)(W:World):(Instr.build 205 ([(0,.int .i64 z0),(1,.int .i64 z1)]:List (Nat×Value)).toArray).run prog W= .ok (.agg ([(.int .i64 z0),(.int .i64 z1)]:List Value).toArray) W:=by kernel_rfl
theorem awp(W:World):(Instr.build 209 ([]:List (Nat×Value)).toArray).run prog W= .ok (.agg ([(.int .i64 0),(.int .i64 0),(.int .i64 0)]:List Value).toArray) W:=by kernel_rfl
theorem ads(z0:Int)(z1:Int)(W:World):(Instr.build 209 ([(0,.int .i64 z0),(1,.int .i64 z1)]:List (Nat×Value)).toArray).run prog W= .ok (.agg ([(.int .i64 z0),(.int .i64 z1),(.int .i64 0)]:List Value).toArray) W:=by kernel_rfl
theorem acE(z0:Int)(z2:Int)(W:World):(Instr.build 209 ([(0,.int .i64 z0),(2,.int .i64 z2)]:List (Nat×Value)).toArray).run prog W= .ok (.agg ([(.int .i64 z0),(.int .i64 0),(.int .i64 z2)]:List Value).toArray) W:=by kernel_rfl
theorem atH(W:World):(Instr.build 214 ([]:List (Nat×Value)).toArray).run prog W= .ok (.agg ([(.int .u64 0),(.int .i64 0),(.int .i64 0),(.int .i64 0),(.int .i64 0),(.int .i64 0),(.int .i64 0),(.int .i64 0),(.int .i64 0)]:List Value).toArray) W:=by kernel_rfl
theorem aoC(z0:Int)(W:World):(Instr.build 214 ([(0,.int .u64 z0)]:List (Nat×Value)).toArray).run prog W= .ok (.agg ([(.int .u64 z0),(.int .i64 0),(.int .i64 0),(.int .i64 0),(.int .i64 0),(.int .i64 0),(.int .i64 0),(.int .i64 0),(.int .i64 0)]:List Value).toArray) W:=by kernel_rfl
theorem Ky(z0:Int)(Ve amV anv al7 alh anr ams amR:Value)(W:World):(Instr.build 214 ([(0,.int .u64 z0),(1,.agg [Ve,amV,anv,al7,alh,anr,ams,amR].toArray)]:List (Nat×Value)).toArray).run prog W= .ok (.agg ([(.int .u64 z0),Ve,amV,anv,al7,alh,anr,ams,amR]:List Value).toArray) W:=by kernel_rfl
theorem acj(z0:Option Addr)(Ve amV anv al7 alh anr ams amR awe:Value)(z2:Int)(avg atK aus awh atF aue auP awy:Value)(W:World):(Instr.build 220 ([(0,.pointer z0),(1,.agg [Ve,amV,anv,al7,alh,anr,ams,amR,awe].toArray),(2,.int .i64 z2),(3,.agg [avg,atK,aus,awh,atF,aue,auP,awy].toArray)]:List (Nat×Value)).toArray).run prog W= .ok (.agg ([(.pointer z0),Ve,amV,anv,al7,alh,anr,ams,amR,awe,(.int .i64 z2),avg,atK,aus,awh,atF,aue,auP,awy]:List Value).toArray) W:=by kernel_rfl
theorem ZL(z0:Option Addr)(z1:Option Addr)(alT:Value)(z3:Option Addr)(z4:Option Addr)(W:World):(Instr.build 238 ([(0,.pointer z0),(1,.pointer z1),(2,.agg [alT].toArray),(3,.pointer z3),(4,.pointer z4)]:List (Nat×Value)).toArray).run prog W= .ok (.agg ([(.pointer z0),(.pointer z1),alT,(.pointer z3),(.pointer z4)]:List Value).toArray) W:=by kernel_rfl
theorem ae7(z0:Option Addr)(z1:Option Addr)(alT:Value)(W:World):(Instr.build 265 ([(0,.pointer z0),(1,.pointer z1),(2,.agg [alT].toArray)]:List (Nat×Value)).toArray).run prog W= .ok (.agg ([(.pointer z0),(.pointer z1),alT]:List Value).toArray) W:=by kernel_rfl
theorem ZG(z0:Option Addr)(z1:Option Addr)(z2:Option Addr)(z3:Option Addr)(z5:Int)(W:World):(Instr.build 274 ([(0,.pointer z0),(1,.pointer z1),(2,.pointer z2),(3,.pointer z3),(5,.int .i64 z5)]:List (Nat×Value)).toArray).run prog W= .ok (.agg ([(.pointer z0),(.pointer z1),(.pointer z2),(.pointer z3),(.bool false),(.int .i64 z5)]:List Value).toArray) W:=by kernel_rfl
theorem afk(z0:Option Addr)(z1:Option Addr)(z2:Int)(W:World):(Instr.build 276 ([(0,.pointer z0),(1,.pointer z1),(2,.int .i64 z2)]:List (Nat×Value)).toArray).run prog W= .ok (.agg ([(.pointer z0),(.pointer z1),(.int .i64 z2),(.slice none 0 0)]:List Value).toArray) W:=by kernel_rfl
theorem acF(z0:Int)(z1:Int)(W:World):(Instr.build 287 ([(0,.int .i64 z0),(1,.int .i64 z1)]:List (Nat×Value)).toArray).run prog W= .ok (.agg ([(.int .i64 z0),(.int .i64 z1)]:List Value).toArray) W:=by kernel_rfl
theorem afH(z0:Option Addr)(Ve:Value)(z2:Option Addr)(l2 c2:Nat)(W:World):(Instr.build 306 ([(0,.pointer z0),(1,.agg [Ve].toArray),(2,.slice z2 l2 c2)]:List (Nat×Value)).toArray).run prog W= .ok (.agg ([(.pointer z0),Ve,(.slice z2 l2 c2)]:List Value).toArray) W:=by kernel_rfl
theorem acO(z0:Int)(z1:Int)(W:World):(Instr.build 309 ([(0,.int .i64 z0),(1,.int .i64 z1)]:List (Nat×Value)).toArray).run prog W= .ok (.agg ([(.int .i64 z0),(.int .i64 z1)]:List Value).toArray) W:=by kernel_rfl
theorem apO(z1:Option Nat)(W:World):(Instr.build 314 ([(1,.map z1)]:List (Nat×Value)).toArray).run prog W= .ok (.agg ([(.slice none 0 0),(.slice none 0 0),(.slice none 0 0),(.slice none 0 0),(.slice none 0 0),(.slice none 0 0),(.slice none 0 0),(.slice none 0 0),(.slice none 0 0),(.slice none 0 0),(.slice none 0 0),(.slice none 0 0),(.slice none 0 0),(.slice none 0 0),(.slice none 0 0),(.slice none 0 0),(.slice none 0 0),(.slice none 0 0),(.slice none 0 0),(.slice none 0 0),(.slice none 0 0),(.slice none 0 0),(.slice none 0 0),(.slice none 0 0),(.slice none 0 0),(.slice none 0 0),(.slice none 0 0),(.slice none 0 0),(.slice none 0 0),(.slice none 0 0),(.slice none 0 0),(.slice none 0 0),(.map z1)]:List Value).toArray) W:=by kernel_rfl
theorem apL(z1:Int)(W:World):(Instr.build 317 ([(1,.int .i64 z1)]:List (Nat×Value)).toArray).run prog W= .ok (.agg ([(.slice none 0 0),(.int .i64 z1),(.int .i64 0)]:List Value).toArray) W:=by kernel_rfl
theorem TN(z0:Int)(z1:Int)(W:World):(Instr.build 324 ([(0,.int .i64 z0),(1,.int .i64 z1)]:List (Nat×Value)).toArray).run prog W= .ok (.agg ([(.int .i64 z0),(.int .i64 z1)]:List Value).toArray) W:=by kernel_rfl
theorem ZF(z0:Option Addr)(Ve:Value)(z2:Option Addr)(l2 c2:Nat)(z3:Option Nat)(z5:Option Nat)(W:World):(Instr.build 330 ([(0,.pointer z0),(1,.agg [Ve].toArray),(2,.slice z2 l2 c2),(3,.map z3),(5,.map z5)]:List (Nat×Value)).toArray).run prog W= .ok (.agg ([(.pointer z0),Ve,(.slice z2 l2 c2),(.map z3),(.slice none 0 0),(.map z5)]:List Value).toArray) W:=by kernel_rfl
theorem an7(z0:Int)(W:World):(Instr.build 333 ([(0,.int .i64 z0)]:List (Nat×Value)).toArray).run prog W= .ok (.agg ([(.int .i64 z0),(.int .i64 0)]:List Value).toArray) W:=by kernel_rfl
theorem ajB(z0:Int)(z1:Int)(W:World):(Instr.build 333 ([(0,.int .i64 z0),(1,.int .i64 z1)]:List (Nat×Value)).toArray).run prog W= .ok (.agg ([(.int .i64 z0),(.int .i64 z1)]:List Value).toArray) W:=by kernel_rfl
theorem agm(z0:Option Nat)(z1:Option Nat)(z2:Int)(W:World):(Instr.build 336 ([(0,.map z0),(1,.map z1),(2,.int .i64 z2)]:List (Nat×Value)).toArray).run prog W= .ok (.agg ([(.map z0),(.map z1),(.int .i64 z2)]:List Value).toArray) W:=by kernel_rfl
theorem mixed:prog.follows .mixedOrders=true:=by kernel_rfl
theorem ca5:CP prog 5:=CQ func5
theorem ca6:CP prog 6:=CQ func6
theorem ca7:CP prog 7:=CQ func7
theorem ca8:CP prog 8:=CQ func8
theorem ca9:CP prog 9:=CQ func9
theorem awP:CP prog 10:=CQ func10
theorem axS:CP prog 11:=CQ func11
theorem avn:CP prog 12:=CQ func12
theorem arO:CP prog 13:=CQ func13
theorem awK:CP prog 14:=CQ func14
theorem ax1:CP prog 15:=CQ func15
theorem axt:CP prog 16:=CQ func16
theorem agY:CP prog 27:=CQ func27
theorem avr:CP prog 28:=CQ func28
theorem axG:CP prog 29:=CQ func29
theorem ajF:CP prog 30:=CQ func30
theorem apq:CP prog 31:=CQ func31
theorem axk:CP prog 32:=CQ func32
theorem akf:CP prog 33:=CQ func33
theorem awM:CP prog 34:=CQ func34
theorem axh:CP prog 35:=CQ func35
theorem auE:CP prog 36:=CQ func36
theorem awt:CP prog 37:=CQ func37
theorem ayg:CP prog 38:=CQ func38
theorem Vj:CP prog 39:=CQ func39
theorem aq6:CP prog 40:=CQ func40
theorem ash:CP prog 41:=CQ func41
theorem axC:CP prog 42:=CQ func42
theorem axK:CP prog 43:=CQ func43
theorem aj1:CP prog 44:=CQ func44
theorem ava:CP prog 45:=CQ func45
theorem axx:CP prog 46:=CQ func46
theorem awN:CP prog 47:=CQ func47
theorem axB:CP prog 48:=CQ func48
theorem aw8:CP prog 49:=CQ func49
theorem axz:CP prog 50:=CQ func50
theorem auT:CP prog 51:=CQ func51
theorem anc:CP prog 52:=CQ func52
theorem PV:CP prog 53:=CQ func53
theorem ax5:CP prog 54:=CQ func54
theorem arK:CP prog 56:=CQ func56
theorem ajf:CP prog 57:=CQ func57
theorem axV:CP prog 58:=CQ func58
theorem aq0:CP prog 59:=CQ func59
theorem awZ:CP prog 60:=CQ func60
theorem awV:CP prog 61:=CQ func61
theorem atl:CP prog 62:=CQ func62
theorem asR:CP prog 63:=CQ func63
theorem ao9:CP prog 64:=CQ func64
theorem apl:CP prog 65:=CQ func65
theorem axf:CP prog 72:=CQ func72
theorem axQ:CP prog 73:=CQ func73
theorem awO:CP prog 74:=CQ func74
theorem aoo:CP prog 83:=CQ func83
theorem U0:CP prog 84:=CQ func84
theorem ajs:CP prog 86:=CQ func86
theorem avX:CP prog 87:=CQ func87
theorem aos:CP prog 91:=CQ func91
theorem awf:CP prog 92:=CQ func92
theorem axp:CP prog 93:=CQ func93
theorem ayp:CP prog 94:=CQ func94
theorem apn:CP prog 95:=CQ func95
theorem au6:CP prog 96:=CQ func96
theorem axq:CP prog 97:=CQ func97
theorem axR:CP prog 98:=CQ func98
theorem amm:CP prog 100:=CQ func100
theorem avJ:CP prog 101:=CQ func101
theorem awd:CP prog 102:=CQ func102
theorem auC:CP prog 103:=CQ func103
theorem aiM:CP prog 104:=CQ func104
theorem au3:CP prog 106:=CQ func106
theorem au9:CP prog 107:=CQ func107
theorem afe:CP prog 108:=CQ func108
theorem auB:CP prog 109:=CQ func109
theorem aqF:CP prog 110:=CQ func110
theorem auH:CP prog 111:=CQ func111
theorem atx:CP prog 113:=CQ func113
theorem awq:CP prog 114:=CQ func114
theorem auY:CP prog 115:=CQ func115
theorem awE:CP prog 116:=CQ func116
theorem atT:CP prog 117:=CQ func117
theorem QX:CP prog 118:=CQ func118
theorem ath:CP prog 119:=CQ func119
theorem aum:CP prog 120:=CQ func120
theorem auK:CP prog 121:=CQ func121
theorem aqs:CP prog 122:=CQ func122
theorem adz:CP prog 123:=CQ func123
theorem Zg:CP prog 124:=CQ func124
theorem Zv:CP prog 125:=CQ func125
theorem aqc:CP prog 126:=CQ func126
theorem awn:CP prog 127:=CQ func127
theorem avH:CP prog 128:=CQ func128
theorem Ym:CP prog 129:=CQ func129
theorem WT:CP prog 130:=CQ func130
theorem aqt:CP prog 131:=CQ func131
theorem aqz:CP prog 132:=CQ func132
theorem RZ:CP prog 133:=CQ func133
theorem MB:CP prog 134:=CQ func134
theorem aqD:CP prog 135:=CQ func135
theorem aiK:CP prog 136:=CQ func136
theorem afo:CP prog 137:=CQ func137
theorem UK:CP prog 138:=CQ func138
theorem XQ:CP prog 139:=CQ func139
theorem aa2:CP prog 140:=CQ func140
theorem amX:CP prog 142:=CQ func142
theorem aqo:CP prog 143:=CQ func143
theorem ap3:CP prog 144:=CQ func144
theorem awG:CP prog 145:=CQ func145
theorem auG:CP prog 146:=CQ func146
theorem aaI:CP prog 152:=CQ func152
theorem Zn:CP prog 155:=CQ func155
theorem alx:CP prog 156:=CQ func156
theorem auO:CP prog 157:=CQ func157
theorem aqT:CP prog 158:=CQ func158
theorem avF:CP prog 160:=CQ func160
theorem JM:CP prog 161:=CQ func161
theorem OJ:CP prog 162:=CQ func162
theorem UL:CP prog 163:=CQ func163
theorem afD:CP prog 164:=CQ func164
theorem avO:CP prog 165:=CQ func165
theorem ap5:CP prog 166:=CQ func166
theorem anQ:CP prog 170:=CQ func170
theorem avI:CP prog 172:=CQ func172
theorem aqa:CP prog 173:=CQ func173
theorem auM:CP prog 174:=CQ func174
theorem WV:CP prog 175:=CQ func175
theorem afb:CP prog 176:=CQ func176
theorem awi:CP prog 177:=CQ func177
theorem av1:CP prog 178:=CQ func178
theorem aqE:CP prog 179:=CQ func179
theorem aqQ:CP prog 180:=CQ func180
theorem aqr:CP prog 181:=CQ func181
theorem auS:CP prog 182:=CQ func182
theorem awC:CP prog 183:=CQ func183
theorem Qn:CP prog 184:=CQ func184
theorem aiE:CP prog 185:=CQ func185
theorem ap':CP prog 186:=CQ func186
theorem apZ:CP prog 187:=CQ func187
theorem at7:CP prog 188:=CQ func188
theorem aqI:CP prog 189:=CQ func189
theorem aqG:CP prog 190:=CQ func190
theorem auj:CP prog 191:=CQ func191
theorem acG:CP prog 193:=CQ func193
theorem anO:CP prog 194:=CQ func194
theorem Zo:CP prog 197:=CQ func197
theorem Xd:CP prog 201:=CQ func201
theorem afd:CP prog 202:=CQ func202
theorem aqO:CP prog 203:=CQ func203
theorem X3:CP prog 204:=CQ func204
theorem ak7:CP prog 205:=CQ func205
theorem aiN:CP prog 206:=CQ func206
theorem auh:CP prog 207:=CQ func207
theorem als:CP prog 217:=CQ func217
theorem avl:CP prog 218:=CQ func218
theorem aun:CP prog 220:=CQ func220
theorem avE:CP prog 221:=CQ func221
theorem abn:CP prog 222:=CQ func222
theorem aqC:CP prog 223:=CQ func223
theorem aqg:CP prog 226:=CQ func226
theorem aqN:CP prog 227:=CQ func227
theorem avx:CP prog 228:=CQ func228
theorem atv:CP prog 231:=CQ func231
theorem alp:CP prog 235:=CQ func235
theorem ang:CP prog 236:=CQ func236
theorem atw:CP prog 237:=CQ func237
theorem aqL:CP prog 238:=CQ func238
theorem awF:CP prog 239:=CQ func239
theorem atS:CP prog 240:=CQ func240
theorem ato:CP prog 241:=CQ func241
theorem aug:CP prog 242:=CQ func242
theorem av2:CP prog 243:=CQ func243
theorem aqp:CP prog 244:=CQ func244
theorem aqh:CP prog 251:=CQ func251
theorem avN:CP prog 252:=CQ func252
theorem auQ:CP prog 261:=CQ func261
theorem akX:CP prog 263:=CQ func263
theorem amG:CP prog 264:=CQ func264
theorem VR:CP prog 265:=CQ func265
theorem aqf:CP prog 269:=CQ func269
theorem ap2:CP prog 271:=CQ func271
theorem aqS:CP prog 272:=CQ func272
theorem am9:CP prog 273:=CQ func273
theorem avo:CP prog 274:=CQ func274
theorem aud:CP prog 275:=CQ func275
theorem ah4:CP prog 276:=CQ func276
theorem amh:CP prog 277:=CQ func277
theorem aur:CP prog 281:=CQ func281
theorem agl:CP prog 282:=CQ func282
theorem aqM:CP prog 289:=CQ func289
end
end
section
section
open Go.RowKit
end
end
section
section
open Go.RowKit
def kN:KC prog 3 Int:=kI prog 3 underlying3
abbrev IL:=List (Int×Int)
def SC(p bS bE:Nat)(S E:IL)(lim:Int):List Fp:=
 [blk p [.map (some bS),.map (some bE),.int .i64 lim] 336,mp kN (Value.int .i64) bS S,mp kN (Value.int .i64) bE E]
theorem auc(lim:Int)(w:World)(h:0≤lim):Calls prog 241 [.int .i64 lim].toArray w fun e w'=>∃p bS bE,e= .returned (.pointer (some ⟨p,0,none⟩))∧Heap w [] (SC p bS bE [] [] lim) w':=by
 have H:=Heap.nil w
 refine BM 9 func241 O (Aw (EX O (Au (Aw (agR kN (Value.int .i64) H O ?_)))))
 intro b1 _ H';clear H;have H:=H';clear H'
 refine agR kN (Value.int .i64) H O ?_
 intro b2 _ H';clear H;have H:=H';clear H'
 refine Az O (Hf O O (ZB (c:=lim) O O zJ) (AL (FP (agm _ _ _) O) (DU H O O fun p8 _ H=>uq ?_)))
 exact⟨p8,b1,b2,rfl,H.order [0,2,1] rfl rfl⟩
section
variable{p bS bE:Nat}{S E:IL}{lim:Int}{w:World}
theorem ala(hE:DW (SC p bS bE S E lim) w)(s n:Int)(hs:0≤s∧s≤100000∧0≤n∧n≤100000):
 Calls prog 277 [.pointer (some ⟨p,0,none⟩),.int .i64 s,.int .i64 n].toArray w fun e w'=>e= .returned (.tuple #[])∧Heap w (ids (SC p bS bE S E lim)) (SC p bS bE (Lp S s n) (Lp E (s+n) s) lim) w':=by
 have H:=Heap.start hE
 have gd1:kN.Gd s:=⟨Y,Y⟩
 have gd2:kN.Gd (s+n):=⟨Y,Y⟩
 obtain⟨v1,hv1⟩:∃v,((Ij S s).map (Value.int .i64)).getD (.int .i64 0)=v:=⟨_,rfl⟩
 obtain⟨v2,hv2⟩:∃v,((Ij E (s+n)).map (Value.int .i64)).getD (.int .i64 0)=v:=⟨_,rfl⟩
 unfold SC at H⊢
 generalize ids _=I at*
 refine BM 24 func277 O ?_
 refine Gu mixed ?_;replace H:=H.drew
 refine bJ ?_
 refine Eo 2 O O O (fun _ hS=>CB O La) trivial (Eo 4 O O O (fun _ hS=>BP (v:= .int _ _) O) trivial (Eo 5 O O O (fun _ hS=>BP (v:= .pointer _) O) trivial (Eo 6 O O O (fun _ hS=>ES O) trivial (Eo 7 O O O (fun _ hS=>CB O aac) trivial (Eo 9 O O O (fun _ hS=>BP (v:= .int _ _) O) trivial (Eo 10 O O O (fun _ hS=>BP (v:= .int _ _) O) trivial (Eo 11 O O O (fun _ hS=>Dk O O (wI Y)) trivial (Eo 12 O O O (fun _ hS=>BP (v:= .int _ _) O) trivial (Eo 13 O O O (fun _ hS=>BP (v:= .int _ _) O) trivial ?_)))))))))
 refine D6 3 8 ?_ ?_
 ·refine BO O (BD H 0 O O O KW (aj ?_))
  refine Bd 8 O (BD H 0 O O O KW (aj ?_))
  refine Bd 14 O (apv H 1 O O O O (gd1) (hv1) underlying127 (JL GI) ?_)
  clear H;intro axc _ H;simp only[Bv,Nat.reduceAdd]at H
  refine vK ?_
  clear H;refine ayJ fun _ H=>?_
  refine aj ?_
  refine Bd 17 O (apv H 2 O O O O (gd2) (hv2) underlying127 (JL GI) ?_)
  clear H;intro axD _ H;simp only[Bv,Nat.reduceAdd]at H
  refine vC ?_
  clear H;refine ayJ fun _ H=>?_
  refine aj ?_
  refine CJ (fin0 O ?_)
  exact⟨rfl,H⟩
 ·refine BO O (BD H 0 O O O KW (qx ?_))
  refine BD H 0 O O O KW (aj ?_)
  refine Bd 14 O (apv H 1 O O O O (gd1) (hv1) underlying127 (JL GI) ?_)
  clear H;intro axc _ H;simp only[Bv,Nat.reduceAdd]at H
  refine vK ?_
  clear H;refine ayJ fun _ H=>?_
  refine aj ?_
  refine Bd 17 O (apv H 2 O O O O (gd2) (hv2) underlying127 (JL GI) ?_)
  clear H;intro axD _ H;simp only[Bv,Nat.reduceAdd]at H
  refine vC ?_
  clear H;refine ayJ fun _ H=>?_
  refine aj ?_
  refine CJ (fin0 O ?_)
  exact⟨rfl,H⟩
theorem ad6(hE:DW (SC p bS bE S E lim) w)(s k:Int)(hs:0≤s∧s≤100000)(hk:Ij S s=some k)(hk2:0≤k∧k≤100000):
 Calls prog 276 [.pointer (some ⟨p,0,none⟩),.int .i64 s].toArray w fun e w'=>e= .returned (.tuple #[])∧Heap w (ids (SC p bS bE S E lim)) (SC p bS bE (Uu S s) (Uu E (s+k)) lim) w':=by
 have H:=Heap.start hE
 have gd1:kN.Gd s:=⟨Y,Y⟩
 have gd2:kN.Gd (s+k):=⟨Y,Y⟩
 unfold SC at H⊢
 generalize ids _=I at*
 refine BM 21 func276 O (AP (abM 12 mixed Ak H O O (aP ?_)))
 refine BK (fun _ H=>CB O aac) (BK (fun _ H=>Ef H 0 O O O KW) (eG ?_))
 refine aP ?_
 refine BK (fun _ H=>CB O La) (BK (fun _ H=>Ef H 0 O O O KW) (eG ?_))
 refine BK (fun _ H=>TF H 1 O O O (gd1) (hk) underlying127 (JL GI) O) (BK (fun _ H=>Dk O O (wI Y)) (H8 ?_))
 clear H;intro _ H
 refine auq H 2 O O O O (gd2) underlying127 ?_
 clear H;refine ayJ fun _ H=>?_
 refine Au (sN ?_)
 refine BR O La (xY ?_)
 refine auq H 1 O O O O (gd1) underlying127 ?_
 clear H;refine ayJ fun _ H=>?_
 refine AA (fin0 O ?_)
 exact⟨rfl,H⟩
end
end
end
section
namespace Rn
abbrev IL:=List (Int×Int)
theorem get_mem:∀{l:IL} {a v:Int},Ij l a=some v→(a,v)∈l
 | [],a,v,h=>by cases h
 |x::l,a,v,h=>by
  rw[Ij]at h
  split at h
  ·rename_i e
   injection h with h
   subst h
   rw[←e]
   simp
  ·exact Ee _ (get_mem h)
theorem Qw{l:IL}(hn:(l.map Prod.fst).Nodup){a v:Int}(h:(a,v)∈l):Ij l a=some v:=by
 obtain⟨i,hi,e⟩:=DY.1 h
 have:=(Xn l i (a,v) (by rw[Ar hi,e]) hn).1
 exact this
theorem MI:∀{l:IL} (hn:(l.map Prod.fst).Nodup) (a:Int) (p:Int×Int),p∈Uu l a↔p∈l∧p.1≠a
 | [],_,a,p=>by simp[Uu]
 |x::l,hn,a,p=>by
  simp only[Dx,GH]at hn
  unfold Uu
  split
  ·rename_i e
   subst e
   constructor
   ·intro h
    refine⟨Ee _ h,fun e=>hn.1 ?_⟩
    rw[←e];exact NK (f:=Prod.fst) h
   ·rintro⟨h1,h2⟩
    rcases Dq.1 h1 with rfl|h1
    ·exact absurd rfl h2
    ·exact h1
  ·rename_i e
   rw[Dq,MI hn.2 a p,Dq]
   constructor
   ·rintro(rfl|⟨h1,h2⟩)
    ·exact⟨.inl rfl,e⟩
    ·exact⟨.inr h1,h2⟩
   ·rintro⟨h1|h1,h2⟩
    ·exact .inl h1
    ·exact .inr ⟨h1,h2⟩
theorem ah8:∀(l:IL) (a:Int),((Uu l a).map Prod.fst).Sublist (l.map Prod.fst)
 | [],_=>List.Sublist.refl _
 |x::l,a=>by
  unfold Uu
  split
  ·exact List.sublist_cons_self _ _
  ·exact(ah8 l a).cons_cons _
theorem alX{l:IL}(hn:(l.map Prod.fst).Nodup)(a:Int):((Uu l a).map Prod.fst).Nodup:=List.Nodup.sublist (ah8 l a) hn
theorem aiY{l:IL}{a:Int}(h:Ij l a=none)(v:Int):Lp l a v=l++ [(a,v)]:=(VH l a ((J8 _ _).1 h)).2.1 v
structure Ok (S E:IL) (lim:Int) (fb:Int→Prop):Prop where
 ndS:(S.map Prod.fst).Nodup
 ndE:(E.map Prod.fst).Nodup
 bd:∀s k,(s,k)∈S→1≤s∧1≤k∧s+k≤lim
 en:∀e s,(e,s)∈E↔∃k,(s,k)∈S∧e=s+k
 cov:∀b,fb b↔∃s k,(s,k)∈S∧s≤b∧b<s+k
 sep:∀s k q l,(s,k)∈S→(q,l)∈S→s<q→s+k<q
theorem Ok.nil(lim:Int):Ok [] [] lim fun _=>False:=⟨J,J,J,J,J,J⟩
theorem Ok.congr{S E:IL}{lim:Int}{fb fb2:Int→Prop}(h:Ok S E lim fb)(e:∀b,fb b↔fb2 b):Ok S E lim fb2:=⟨h.ndS,h.ndE,h.bd,h.en,fun b=>(e b).symm.trans (h.cov b),h.sep⟩
theorem Ok.uniq{S E:IL}{lim:Int}{fb:Int→Prop}(h:Ok S E lim fb){s k q l b:Int}(h1:(s,k)∈S)(h2:(q,l)∈S)(hb1:s≤b∧b<s+k)(hb2:q≤b∧b<q+l):s=q∧k=l:=by
 have e:s=q:=by
  rcases MJ s q with hl|hl|hl
  ·have:=h.sep _ _ _ _ h1 h2 hl;omega
  ·exact hl
  ·have:=h.sep _ _ _ _ h2 h1 hl;omega
 subst e
 have:=(Qw h.ndS h1).symm.trans (Qw h.ndS h2)
 injection this with this
 exact⟨rfl,this⟩
theorem Ok.drop{S E:IL}{lim:Int}{fb:Int→Prop}(h:Ok S E lim fb){s k:Int}(hs:(s,k)∈S):Ok (Uu S s) (Uu E (s+k)) lim fun b=>fb b∧¬(s≤b∧b<s+k):=by
 have hk:=h.bd s k hs
 refine⟨alX h.ndS _,alX h.ndE _,fun a b hm=>h.bd a b ((MI h.ndS _ _).1 hm).1,fun e a=>?_,fun b=>?_,fun a b c d h1 h2=>h.sep a b c d ((MI h.ndS _ _).1 h1).1 ((MI h.ndS _ _).1 h2).1⟩
 ·rw[MI h.ndE,h.en]
  constructor
  ·rintro⟨⟨l,h1,rfl⟩,h2⟩
   refine⟨l,(MI h.ndS _ _).2 ⟨h1,fun e=>?_⟩,rfl⟩
   simp only at e h2
   subst e
   have:=(Qw h.ndS h1).symm.trans (Qw h.ndS hs)
   injection this with this
   omega
  ·rintro⟨l,h1,rfl⟩
   obtain⟨h3,h4⟩:=(MI h.ndS _ _).1 h1
   refine⟨⟨l,h3,rfl⟩,fun e=>h4 ?_⟩
   have hl:=h.bd a l h3
   exact(h.uniq h3 hs (b:=a+l-1) Y (by simp only at e;omega)).1
 ·rw[h.cov]
  constructor
  ·rintro⟨⟨a,l,h1,h2⟩,h3⟩
   refine⟨a,l,(MI h.ndS _ _).2 ⟨h1,fun e=>h3 ?_⟩,h2⟩
   simp only at e
   subst e
   have:=(Qw h.ndS h1).symm.trans (Qw h.ndS hs)
   injection this with this
   omega
  ·rintro⟨a,l,h1,h2⟩
   obtain⟨h3,h4⟩:=(MI h.ndS _ _).1 h1
   exact⟨⟨a,l,h3,h2⟩,fun hb=>h4 (h.uniq h3 hs h2 hb).1⟩
theorem Ok.add{S E:IL}{lim:Int}{fb:Int→Prop}(h:Ok S E lim fb){s n:Int}(hs:1≤s∧1≤n∧s+n≤lim)(hf:∀b,s≤b→b<s+n→¬fb b)(h1:Ij E s=none)(h2:Ij S (s+n)=none):
 Ok (Lp S s n) (Lp E (s+n) s) lim fun b=>fb b∨s≤b∧b<s+n:=by
 have n1:Ij S s=none:=(J8 _ _).2 fun p hp e=>by
  obtain⟨a,k⟩:=p
  simp only at e
  subst e
  have:=h.bd a k hp
  exact hf a Y Y ((h.cov a).2 ⟨a,k,hp,Y⟩)
 have lo:∀a k,(a,k)∈S→a<s→a+k<s:=fun a k hp hl=>by
  have hb:=h.bd a k hp
  rcases MJ (a+k) s with h3|h3|h3
  ·exact h3
  ·exact absurd ((h.en s a).2 ⟨k,hp,h3.symm⟩) (fun hm=>(J8 _ _).1 h1 _ hm rfl)
  ·exact absurd ((h.cov s).2 ⟨a,k,hp,Y⟩) (hf s Y Y)
 have hi:∀a k,(a,k)∈S→s<a→s+n<a:=fun a k hp hl=>by
  have hb:=h.bd a k hp
  rcases MJ (s+n) a with h3|h3|h3
  ·exact h3
  ·exact absurd h3.symm ((J8 _ _).1 h2 (a,k) hp)
  ·exact absurd ((h.cov a).2 ⟨a,k,hp,Y⟩) (hf a Y Y)
 have ne:∀a k,(a,k)∈S→a≠s:=fun a k hp e=>(J8 _ _).1 n1 _ hp e
 have n2:Ij E (s+n)=none:=(J8 _ _).2 fun p hp e=>by
  obtain⟨e1,a⟩:=p
  simp only at e
  subst e
  obtain⟨k,h3,h4⟩:=(h.en _ _).1 hp
  have hb:=h.bd a k h3
  have:=ne a k h3
  by_cases hl:a<s
  ·have:=lo a k h3 hl;omega
  ·have:=hi a k h3 Y;omega
 rw[aiY n1,aiY n2]
 have mS:∀a k,(a,k)∈S++ [(s,n)]↔(a,k)∈S∨a=s∧k=n:=fun a k=>by simp
 refine⟨?_,?_,fun a k hp=>?_,fun e a=>?_,fun b=>?_,fun a k q l h3 h4 hl=>?_⟩
 ·rw[BU,CS]
  refine⟨h.ndS,J,fun x hx y hy e=>?_⟩
  obtain⟨⟨a,k⟩,hp,rfl⟩:=BX.1 hx
  simp at hy
  exact ne a k hp (by rw[←hy];exact e)
 ·rw[BU,CS]
  refine⟨h.ndE,J,fun x hx y hy e=>?_⟩
  obtain⟨p,hp,rfl⟩:=BX.1 hx
  simp at hy
  exact(J8 _ _).1 n2 p hp (by rw[←hy];exact e)
 ·rcases(mS a k).1 hp with h3|⟨rfl,rfl⟩
  ·exact h.bd a k h3
  ·exact hs
 ·rw[BJ,h.en]
  constructor
  ·rintro(⟨k,h3,h4⟩|h3)
   ·exact⟨k,(mS a k).2 (.inl h3),h4⟩
   ·simp at h3
    exact⟨n,(mS a n).2 (.inr ⟨h3.2,rfl⟩),by rw[h3.1,h3.2]⟩
  ·rintro⟨k,h3,h4⟩
   rcases(mS a k).1 h3 with h5|⟨rfl,rfl⟩
   ·exact .inl ⟨k,h5,h4⟩
   ·exact .inr (by simp[h4])
 ·rw[h.cov]
  constructor
  ·rintro(⟨a,k,h3,h4⟩|h3)
   ·exact⟨a,k,(mS a k).2 (.inl h3),h4⟩
   ·exact⟨s,n,(mS s n).2 (.inr ⟨rfl,rfl⟩),h3⟩
  ·rintro⟨a,k,h3,h4⟩
   rcases(mS a k).1 h3 with h5|⟨rfl,rfl⟩
   ·exact .inl ⟨a,k,h5,h4⟩
   ·exact .inr h4
 ·rcases(mS a k).1 h3 with h5|⟨rfl,rfl⟩
  ·rcases(mS q l).1 h4 with h6|⟨rfl,rfl⟩
   ·exact h.sep a k q l h5 h6 hl
   ·exact lo a k h5 hl
  ·rcases(mS q l).1 h4 with h6|⟨rfl,rfl⟩
   ·exact hi q l h6 hl
   ·omega
end Rn
end
section
section
open Go.RowKit
abbrev YS(p:Nat):Value:= .pointer (some ⟨p,0,none⟩)
section
variable{p bS bE:Nat}{S E:IL}{lim:Int}{fb:Int→Prop}{w:World}
theorem avL(hE:DW (SC p bS bE S E lim) w)(hO:Rn.Ok S E lim fb)(hl:lim≤100000)(b:Int):
 Calls prog 275 [YS p,.int .i64 b].toArray w fun e w'=>(∃q,e= .returned (.bool q)∧(q=true↔fb b))∧Only [] w w':=by
 obtain⟨es,clock,M⟩:=hE.ag' 1 rfl
 have HR:=Heap.start hE
 have H:=Heap.nil w
 unfold SC at HR
 generalize ids _=I at*
 refine BM 27 func275 O (qU ?_)
 refine AP (wP ?_)
 refine ami M H O O underlying127 ?_
 intro r _ H';clear H;have H:=H';clear H'
 refine Au (E8 ?_)
 refine Ec (fun z f W=>∃(lb:List ((Int×Int)×Bool)) (cur:Option (Int×Int)) (out:IL),z=(mleft lb).length∧lb.map (·.1)=S∧(out++mleft lb).Perm S∧(∀x∈out,¬(x.1≤b∧b<x.1+x.2))∧f 1= .int .i64 b∧f 11=YS r∧Heap w [] [mri kN (Value.int .i64) es clock bS r lb cur] W) _ ⟨S.map fun p=>(p,true),none,[],rfl,by rw[Ja];exact TS S,by rw[YT];exact QT _,J,rfl,rfl,H⟩ ?_
 clear H
 rintro z f W ⟨lb,cur,out,rfl,hlb,hpm,hno,f1,f11,H⟩
 obtain⟨f,rfl⟩:=VT f1 f11
 clear f1 f11
 by_cases hlm:mleft lb=[]
 ·rw[hlm,Du]at hpm
  refine wW ?_
  refine Aw (gZ ?_)
  refine⟨⟨false,rfl,?_⟩,H.only⟩
  constructor
  ·intro h;cases h
  ·intro h
   obtain⟨s,k,hm,h1⟩:=(hO.cov b).1 h
   exact absurd h1 (hno (s,k) (hpm.mem_iff.2 hm))
 ·refine Aw (agP M H 0 (hlm) O O O ?_)
  clear H;intro j q _ hq gq H;simp only[Bv,Nat.reduceAdd]at H
  refine xK ?_
  have hfs:=acY hq
  have hml:=(Pg lb j q hq).length_eq
  have hp:=Pg lb j q hq
  have hqS:q∈S:=by rw[←hlb];exact NK (f:=fun x:(Int×Int)×Bool=>x.1) (A8 hq)
  have hbd:=hO.bd q.1 q.2 hqS
  rw[Em]at hml
  have aeh:((out++ [q])++mleft (lb.set j (q,false))).Perm S:=by
   rw[DI]
   exact(O4 out hp.symm).trans hpm
  by_cases h1:q.1≤b
  ·by_cases h2:b<q.1+q.2
   ·refine xR ?_
    refine AX 20 O (Df O O Y) (ED O O (wG ?_))
    refine Fe (CX (Fe (CX (bQ ?_))))
    exact⟨⟨true,rfl,by simp only[true_iff];exact(hO.cov b).2 ⟨q.1,q.2,hqS,h1,h2⟩⟩,H.only⟩
   ·refine xR ?_
    refine AX 20 O (CO O O Y) (ED O O (Au (DX O (Bj (Dh (CU ?_))))))
    refine⟨_,_,?_,rfl,lb.set j (q,false),some q,out++ [q],rfl,by rw[hfs];exact hlb,aeh,fun x hx=>?_,rfl,rfl,H⟩
    ·omega
    ·rcases BJ.1 hx with hx|hx
     ·exact hno x hx
     ·rw[Bf.1 hx];omega
  ·refine DR (Az O (uI ?_))
   refine Cc 20 O O (Cc 20 O O (Cc 20 O O (Cc 20 O O (Cc 20 O O (Dp O O (Au (DX O (Bj (Dh (CU ?_))))))))))
   refine⟨_,_,?_,rfl,lb.set j (q,false),some q,out++ [q],rfl,by rw[hfs];exact hlb,aeh,fun x hx=>?_,rfl,rfl,H⟩
   ·omega
   ·rcases BJ.1 hx with hx|hx
    ·exact hno x hx
    ·rw[Bf.1 hx];omega
end
end
end
section
section
open Go.RowKit
theorem Rn.apQ{S E:IL}{lim:Int}{fb:Int→Prop}(h:Rn.Ok S E lim fb){s b:Int}(hg:Ij E s=some b):∃k,(b,k)∈S∧s=b+k:=(h.en s b).1 (Rn.get_mem hg)
section
variable{p bS bE:Nat}{S E:IL}{lim:Int}{fb:Int→Prop}{w:World}
theorem arU(hE:DW (SC p bS bE S E lim) w)(hO:Rn.Ok S E lim fb)(hl:lim≤10000)(s n:Int)(hs:1≤s∧1≤n∧s+n≤lim)(hf:∀b,s≤b→b<s+n→¬fb b):
 Calls prog 242 [YS p,.int .i64 s,.int .i64 n].toArray w fun e w'=>e= .returned (.int .i64 0)∧∃S' E',Rn.Ok S' E' lim (fun b=>fb b∨s≤b∧b<s+n)∧Heap w (ids (SC p bS bE S E lim)) (SC p bS bE S' E' lim) w':=by
 have H:=Heap.start hE
 generalize ids (SC p bS bE S E lim)=I at*
 refine BM 95 func242 O (Aw (bM ?_))
 refine AX 15 O (Fz O) (AX 15 O (CO O O Y) (Dp O O (BL O (AX 19 O (Fz O) (AX 19 O (MQ O) (AX 19 O (ES O) (AX 19 O (CB O aiI) (AX 19 O (Ef H 0 O O O GU) (AX 19 O (F7 O O Y) (Dp O O (BL O (AX 27 O (Fz O) (AX 27 O (MQ O) ?_)))))))))))))
 refine AX 27 O (ES O) (AX 27 O (CB O aiI) (AX 27 O (Ef H 0 O O O GU) (AX 27 O (Fz O) (AX 27 O (FH O O (wI Y)) (AX 27 O (ER O O Y) (fE ?_))))))
 refine fJ ?_
 refine AQ O (Au (E8 ?_))
 refine Ec (fun z f W=>∃i:Nat,(i:Int)≤n∧z=n.toNat-i∧f 0=YS p∧f 1= .int .i64 s∧f 2= .int .i64 n∧f 7= .int .i64 (s+i)∧Heap w I (SC p bS bE S E lim) W) n.toNat ⟨0,Y,rfl,rfl,rfl,rfl,by rw[Int.natCast_zero,Int.add_zero];rfl,H⟩ ?_
 clear H
 rintro z f W ⟨i,hi,rfl,f0,f1,f2,f7,H⟩
 obtain⟨f,rfl⟩:=Ih f0 f1 f2 f7
 clear f0 f1 f2 f7
 by_cases hin:(i:Int)<n
 ·refine fJ ?_
  refine Az O (nI ?_)
  refine eX ?_
  refine jl ?_
  refine s_call O (avL H.ents hO Y (s+i)) (aud O) ?_
  rintro e W1 ⟨⟨q,rfl,hq⟩,H'⟩
  refine⟨_,rfl,?_⟩
  have H:=H.same H';clear H';obtain rfl:q=false:=by(cases q with|false=>rfl|true=>exact absurd (hq.1 rfl) (hf _ Y Y))
  refine Au (DX O (Bj (jy ?_)))
  exact⟨_,_,Y,rfl,i+1,Y,rfl,rfl,rfl,rfl,by rw[show s+(i+1:Nat)=s+i+1 by omega];rfl,H⟩
 ·refine fJ ?_
  refine Az O (nI ?_)
  refine kH ?_
  refine AP (AP ?_)
  refine Jj (fun f W=>∃(q:Bool) (v:Int),f 0=YS p∧f 1= .int .i64 s∧f 2= .int .i64 n∧f 8= .int .i64 v∧f 9= .bool q∧(Ij E s=if q=true then some v else none)∧Heap w I (SC p bS bE S E lim) W) ?_ ?_
  ·have gd:kN.Gd s:=⟨Y,Y⟩
   cases hg:Ij E s with
   |none=>
    refine sN ?_
    refine BR O aac (xY ?_)
    refine AL (ail H 2 O O O (gd) (hg) underlying127 (JL GI)) (aX ?_)
    refine AA (Dt ?_)
    exact⟨false,0,rfl,rfl,rfl,rfl,rfl,rfl,H⟩
   |some v=>
    refine sN ?_
    refine BR O aac (xY ?_)
    refine AL (aiT H 2 O O O (gd) (hg) underlying127 (JL GI) O) (aX ?_)
    refine AA (Dt ?_)
    exact⟨true,v,rfl,rfl,rfl,rfl,rfl,rfl,H⟩
  clear H
  rintro f W ⟨q,v,f0,f1,f2,f8,f9,hq,H⟩
  obtain⟨f,rfl⟩:=Lr f0 f1 f2 f8 f9
  clear f0 f1 f2 f8 f9
  refine AO (Aw (BL O (Au ?_)))
  refine Jj (fun f W=>∃(S1 E1:IL) (fb1:Int→Prop) (s1 n1:Int),f 0=YS p∧f 1= .int .i64 s1∧f 2= .int .i64 n1∧Rn.Ok S1 E1 lim fb1∧(∀b,fb1 b∨s1≤b∧b<s1+n1↔fb b∨s≤b∧b<s+n)∧(∀b,s1≤b→b<s1+n1→¬fb1 b)∧Ij E1 s1=none∧1≤s1∧1≤n1∧s1+n1≤lim∧Heap w I (SC p bS bE S1 E1 lim) W) ?_ ?_
  ·cases q with
   |false=>
    refine DX O (Bj (Dt ?_))
    exact⟨S,E,fb,s,n,rfl,rfl,rfl,hO,fun b=>Iff.rfl,hf,hq,hs.1,hs.2.1,hs.2.2,H⟩
   |true=>
    obtain⟨k,hkS,hk⟩:=Rn.apQ hO hq
    have hkb:=hO.bd v k hkS
    have hgk:=Rn.Qw hO.ndS hkS
    have gd:kN.Gd v:=⟨Y,Y⟩
    refine EI O (eY ?_)
    refine BR O La (xY ?_)
    refine AL (TF H 1 O O O (gd) (hgk) underlying127 (JL GI) O) (rU ?_)
    refine s_call O (ad6 H.ents v k Y hgk Y) (ah4 O) ?_
    rintro e W1 ⟨rfl,H'⟩
    refine⟨_,rfl,?_⟩
    have H:=H.step (A:=SC p bS bE S E lim) (L:=[]) H' (fun i hi=>hi);clear H';simp only[Du]at H
    refine Au (DR (Az O (Az O (nI ?_))))
    refine AQ O (AQ O (AA (Dt ?_)))
    have Qm:=hO.drop hkS
    refine⟨_,_,_,v,n+k,rfl,rfl,rfl,Qm,fun b=>?_,fun b h1 h2 h3=>?_,?_,Y,Y,Y,H⟩
    ·constructor
     ·rintro(⟨h1,_⟩|h1)
      ·exact .inl h1
      ·by_cases h2:b<s
       ·exact .inl ((hO.cov b).2 ⟨v,k,hkS,Y⟩)
       ·exact .inr Y
     ·rintro(h1|h1)
      ·by_cases h2:v≤b∧b<v+k
       ·exact .inr Y
       ·exact .inl ⟨h1,h2⟩
      ·exact .inr Y
    ·by_cases h4:b<s
     ·exact h3.2 Y
     ·exact hf b Y Y h3.1
    ·refine(J8 _ _).2 fun x hx e=>?_
     obtain⟨e1,a⟩:=x
     simp only at e
     rw[e]at hx
     obtain⟨l,h5,h6⟩:=(Qm.en _ _).1 hx
     have h7:=(Rn.MI hO.ndS _ _).1 h5
     have h8:=hO.bd a l h7.1
     have:=hO.sep a l v k h7.1 hkS Y
     omega
  clear H hO hf hq hs
  rintro f W ⟨S1,E1,fb1,s1,n1,f0,f1,f2,hO,heq,hf,hg1,hs1,hn1,hsn,H⟩
  obtain⟨f,rfl⟩:=OE f0 f1 f2
  clear f0 f1 f2
  refine AO (AP (AP ?_))
  refine Jj (fun f W=>∃(q:Bool) (v:Int),f 0=YS p∧f 1= .int .i64 s1∧f 2= .int .i64 n1∧f 11= .int .i64 v∧f 12= .bool q∧(Ij S1 (s1+n1)=if q=true then some v else none)∧Heap w I (SC p bS bE S1 E1 lim) W) ?_ ?_
  ·have gd:kN.Gd (s1+n1):=⟨Y,Y⟩
   cases hg:Ij S1 (s1+n1)with
   |none=>
    refine sN ?_
    refine BR O La (xY ?_)
    refine nI ?_
    refine AL (ail H 1 O O O (gd) (hg) underlying127 (JL GI)) (aX ?_)
    refine AA (Dt ?_)
    exact⟨false,0,rfl,rfl,rfl,rfl,rfl,rfl,H⟩
   |some v=>
    refine sN ?_
    refine BR O La (xY ?_)
    refine nI ?_
    refine AL (aiT H 1 O O O (gd) (hg) underlying127 (JL GI) O) (aX ?_)
    refine AA (Dt ?_)
    exact⟨true,v,rfl,rfl,rfl,rfl,rfl,rfl,H⟩
  clear H
  rintro f W ⟨q,v,f0,f1,f2,f11,f12,hq,H⟩
  obtain⟨f,rfl⟩:=Lr f0 f1 f2 f11 f12
  clear f0 f1 f2 f11 f12
  cases q with
  |false=>
   refine AO (Aw (BL O (dX ?_)))
   refine jl ?_
   refine Az O (s_call O (ala H.ents s1 n1 Y) (amh O) ?_)
   rintro e W1 ⟨rfl,H'⟩
   refine⟨_,rfl,?_⟩
   have H:=H.step (A:=SC p bS bE S1 E1 lim) (L:=[]) H' (fun i hi=>hi);clear H';simp only[Du]at H
   refine xX ?_
   exact⟨rfl,_,_,(hO.add ⟨hs1,hn1,hsn⟩ hf hg1 hq).congr heq,H⟩
  |true=>
   have hvS:=Rn.get_mem hq
   have hvb:=hO.bd _ _ hvS
   have Qm:=hO.drop hvS
   refine AO (Aw (BL O (Au (EI O (jl ?_)))))
   refine nI ?_
   refine s_call O (ad6 H.ents (s1+n1) v Y hq Y) (ah4 O) ?_
   rintro e W1 ⟨rfl,H'⟩
   refine⟨_,rfl,?_⟩
   have H:=H.step (A:=SC p bS bE S1 E1 lim) (L:=[]) H' (fun i hi=>hi);clear H';simp only[Du]at H
   refine Au (DR (Az O (nI ?_)))
   refine rU ?_
   refine Az O (s_call O (ala H.ents s1 (n1+v) Y) (amh O) ?_)
   rintro e W1 ⟨rfl,H'⟩
   refine⟨_,rfl,?_⟩
   have H:=H.step (A:=SC p bS bE _ _ lim) (L:=[]) H' (fun i hi=>hi);clear H';simp only[Du]at H
   refine xX ?_
   refine⟨rfl,_,_,(Qm.add ⟨hs1,Y,Y⟩ (fun b h1 h2 h3=>?_) ?_ ?_).congr fun b=>?_,H⟩
   ·by_cases h4:b<s1+n1
    ·exact hf b h1 h4 h3.1
    ·exact h3.2 Y
   ·refine(J8 _ _).2 fun x hx e=>?_
    obtain⟨e1,a⟩:=x
    exact(J8 _ _).1 hg1 _ ((Rn.MI hO.ndE _ _).1 hx).1 e
   ·refine(J8 _ _).2 fun x hx e=>?_
    obtain⟨a,l⟩:=x
    simp only at e
    have h7:=(Rn.MI hO.ndS _ _).1 hx
    have h8:=hO.bd a l h7.1
    have:=hO.sep _ _ a l hvS h7.1 Y
    omega
   ·rw[←heq b]
    constructor
    ·rintro(⟨h1,_⟩|h1)
     ·exact .inl h1
     ·by_cases h2:b<s1+n1
      ·exact .inr Y
      ·exact .inl ((hO.cov b).2 ⟨_,_,hvS,Y⟩)
    ·rintro(h1|h1)
     ·by_cases h2:s1+n1≤b∧b<s1+n1+v
      ·exact .inr Y
      ·exact .inl ⟨h1,h2⟩
     ·exact .inr Y
end
end
end
section
section
open Go.RowKit
def Rn.Best(S:IL)(out:IL)(n b:Int):Prop:=(b= -1∧∀x∈out,x.2<n)∨∃k,(b,k)∈S∧n≤k
section
variable{p bS bE:Nat}{S E:IL}{lim:Int}{fb:Int→Prop}{w:World}
theorem arQ(hE:DW (SC p bS bE S E lim) w)(hO:Rn.Ok S E lim fb)(hl:lim≤10000)(n:Int)(hn:1≤n∧n≤10000):
 Calls prog 261 [YS p,.int .i64 n].toArray w fun e w'=>
  ((∀s k,(s,k)∈S→k<n)∧e= .returned (.tuple #[.int .i64 0,.int .i64 4])∧Only [] w w')∨
  ∃s S' E',1≤s∧s+n≤lim∧(∀b,s≤b→b<s+n→fb b)∧Rn.Ok S' E' lim (fun b=>fb b∧¬(s≤b∧b<s+n))∧e= .returned (.tuple #[.int .i64 s,.int .i64 0])∧Heap w (ids (SC p bS bE S E lim)) (SC p bS bE S' E' lim) w':=by
 obtain⟨es,clock,M⟩:=hE.ag' 1 rfl
 have HR:=Heap.start hE
 have H:=Heap.nil w
 refine BM 78 func261 O (Aw (AQ O (jk ?_)))
 refine AL (CO O O Y) (dX ?_)
 refine Aw (qw ?_)
 refine wP ?_
 refine ami M H O O underlying127 ?_
 intro r _ H';clear H;have H:=H';clear H'
 refine Au (E8 ?_)
 refine Ec (fun z f W=>∃(lb:List ((Int×Int)×Bool)) (cur:Option (Int×Int)) (out:IL) (b:Int),z=(mleft lb).length∧lb.map (·.1)=S∧(out++mleft lb).Perm S∧Rn.Best S out n b∧f 0=YS p∧f 1= .int .i64 n∧f 6= .int .i64 b∧f 16=YS r∧Heap w [] [mri kN (Value.int .i64) es clock bS r lb cur] W) _ ⟨S.map fun p=>(p,true),none,[],-1,rfl,by rw[Ja];exact TS S,by rw[YT];exact QT _,.inl ⟨rfl,J⟩,rfl,rfl,rfl,rfl,H⟩ ?_
 clear H
 rintro z f W ⟨lb,cur,out,b,rfl,hlb,hpm,hB,f0,f1,f6,f16,H⟩
 obtain⟨f,rfl⟩:=Ih f0 f1 f6 f16
 clear f0 f1 f6 f16
 by_cases hlm:mleft lb=[]
 ·rw[hlm,Du]at hpm
  rcases hB with⟨rfl,hno⟩|⟨k,hk,hkn⟩
  ·refine wW ?_
   refine fJ ?_
   refine AL (Df O O Y) (ql ?_)
   refine uD ?_
   exact .inl ⟨fun s k h=>hno (s,k) (hpm.mem_iff.2 h),rfl,H.only⟩
  ·have hkb:=hO.bd b k hk
   have hgk:=Rn.Qw hO.ndS hk
   have gd:kN.Gd b:=⟨Y,Y⟩
   have Qm:=hO.drop hk
   refine wW ?_
   refine fJ ?_
   refine AL (CO O O Y) (dX ?_)
   refine wP ?_
   refine Az O (AL (TF (HR.same H.only) 1 O O O (gd) (hgk) underlying127 (JL GI) O) (qw ?_))
   replace H:=HR.same H.only
   generalize hI:ids (SC p bS bE S E lim)=I at*
   by_cases hc:n<k
   ·refine DR (BF O (Az O (s_call O (ad6 H.ents b k Y hgk Y) (ah4 O) ?_)))
    rintro e W1 ⟨rfl,H'⟩
    refine⟨_,rfl,?_⟩
    have H:=H.step (A:=SC p bS bE S E lim) (L:=[]) H' (fun i hi=>hi);clear H';simp only[Du]at H
    refine Au (fJ ?_)
    refine Az O (AL (Jl O O Y) (Au (EI O (DR (BF O (Az O (nI ?_)))))))
    refine Az O (Az O (nK ?_))
    refine s_call O (ala H.ents (b+n) (k-n) Y) (amh O) ?_
    rintro e W1 ⟨rfl,H'⟩
    refine⟨_,rfl,?_⟩
    have H:=H.step (A:=SC p bS bE _ _ lim) (L:=[]) H' (fun i hi=>hi);clear H';simp only[Du]at H
    refine Au (Aw (Az O (pI ?_)))
    refine .inr ⟨b,_,_,Y,Y,fun x h1 h2=>(hO.cov x).2 ⟨b,k,hk,Y⟩,(Qm.add ⟨Y,Y,Y⟩ (fun x h1 h2 h3=>h3.2 Y) ?_ ?_).congr fun x=>?_,rfl,H⟩
    ·refine(J8 _ _).2 fun x hx e=>?_
     obtain⟨e1,a⟩:=x
     simp only at e
     rw[e]at hx
     obtain⟨l,h5,h6⟩:=(Qm.en _ _).1 hx
     have h7:=(Rn.MI hO.ndS _ _).1 h5
     have h8:=hO.bd a l h7.1
     exact h7.2 (hO.uniq h7.1 hk (b:=b+n-1) Y Y).1
    ·refine(J8 _ _).2 fun x hx e=>?_
     obtain⟨a,l⟩:=x
     simp only at e
     have h7:=(Rn.MI hO.ndS _ _).1 hx
     have h8:=hO.bd a l h7.1
     have:=hO.sep _ _ a l hk h7.1 Y
     omega
    ·constructor
     ·rintro(⟨h1,h2⟩|h1)
      ·exact⟨h1,Y⟩
      ·exact⟨(hO.cov x).2 ⟨b,k,hk,Y⟩,Y⟩
     ·rintro⟨h1,h2⟩
      by_cases h3:b≤x∧x<b+k
      ·exact .inr Y
      ·exact .inl ⟨h1,h3⟩
   ·obtain rfl:k=n:=Y
    refine DR (BF O (Az O (s_call O (ad6 H.ents b k Y hgk Y) (ah4 O) ?_)))
    rintro e W1 ⟨rfl,H'⟩
    refine⟨_,rfl,?_⟩
    have H:=H.step (A:=SC p bS bE S E lim) (L:=[]) H' (fun i hi=>hi);clear H';simp only[Du]at H
    refine Au (fJ ?_)
    refine Az O (xU ?_)
    refine Az O (pI ?_)
    exact .inr ⟨b,_,_,Y,Y,fun x h1 h2=>(hO.cov x).2 ⟨b,k,hk,Y⟩,Qm,rfl,H⟩
 ·refine Aw (agP M H 0 (hlm) O O O ?_)
  clear H;intro j q _ hq gq H;simp only[Bv,Nat.reduceAdd]at H
  refine xK ?_
  have hfs:=acY hq
  have hml:=(Pg lb j q hq).length_eq
  have hp:=Pg lb j q hq
  have hqS:q∈S:=by rw[←hlb];exact NK (f:=fun x:(Int×Int)×Bool=>x.1) (A8 hq)
  have hbd:=hO.bd q.1 q.2 hqS
  rw[Em]at hml
  have aeh:((out++ [q])++mleft (lb.set j (q,false))).Perm S:=by
   rw[DI]
   exact(O4 out hp.symm).trans hpm
  have ajl:(lb.set j (q,false)).map (·.1)=S:=by rw[hfs];exact hlb
  by_cases h1:n≤q.2
  ·have hyes:Rn.Best S (out++ [q]) n q.1:= .inr ⟨q.2,hqS,h1⟩
   rcases hB with⟨rfl,hno⟩|⟨k,hk,hkn⟩
   ·refine DR (Az O (kK ?_))
    refine AX 25 O (Fz O) (AX 25 O (Df O O Y) (AX 25 O (WU O) (Cc 28 O O (Cc 28 O O (Cc 28 O O (Cc 28 O O (Cc 28 O O (Cc 28 O O (Cc 28 O O (Cc 28 O O (AX 25 O (HY (v:= .bool _) O O) (jW ?_))))))))))))
    refine Au (EI O (DR (Az O (AQ O (AA (Dh (CU ?_)))))))
    exact⟨_,_,Y,rfl,_,some q,out++ [q],q.1,rfl,ajl,aeh,hyes,rfl,rfl,rfl,rfl,H⟩
   ·have hkb:=hO.bd b k hk
    have hgk:=Rn.Qw hO.ndS hk
    have gd:kN.Gd b:=⟨Y,Y⟩
    have hold:Rn.Best S (out++ [q]) n b:= .inr ⟨k,hk,hkn⟩
    by_cases h2:q.2<k
    ·refine DR (Az O (kK ?_))
     refine AX 25 O (Fz O) (AX 25 O (CO O O Y) (AX 25 O (WU O) (AX 28 O (Fz O) (AX 28 O (MQ O) (AX 28 O (ES O) (AX 28 O (CB O La) (AX 28 O (Ef (HR.same H.only) 0 O O O KW) (AX 28 O (Fz O) (AX 28 O (TF (HR.same H.only) 1 O O O (gd) (hgk) underlying127 (JL GI) O) (AX 28 O (Df O O Y) (AX 25 O (Ku (v:= .bool _) O O) (jW ?_))))))))))))
     refine Au (EI O (DR (Az O (AQ O (AA (Dh (CU ?_)))))))
     exact⟨_,_,Y,rfl,_,some q,out++ [q],q.1,rfl,ajl,aeh,hyes,rfl,rfl,rfl,rfl,H⟩
    ·by_cases h3:q.2=k
     ·by_cases h4:q.1<b
      ·refine vU ?_
       refine AX 47 O (Df O O Y) (AX 38 O (HY (v:= .bool _) O O) (AX 25 O (Ku (v:= .bool _) O O) (ED O O (Au (EI O (DR (Az O (AQ O (AA (Dh (CU ?_)))))))))))
       exact⟨_,_,Y,rfl,_,some q,out++ [q],q.1,rfl,ajl,aeh,hyes,rfl,rfl,rfl,rfl,H⟩
      ·refine vU ?_
       refine AX 47 O (CO O O Y) (AX 38 O (HY (v:= .bool _) O O) (AX 25 O (Ku (v:= .bool _) O O) (ED O O (Au (DX O (Bj (Dh (CU ?_))))))))
       exact⟨_,_,Y,rfl,_,some q,out++ [q],b,rfl,ajl,aeh,hold,rfl,rfl,rfl,rfl,H⟩
     ·refine DR (Az O (kK ?_))
      refine bg ?_
      refine AX 38 O (Fb O O Y) (AX 38 O (WU O) (Cc 47 O O (Cc 47 O O (Cc 47 O O (AX 38 O (Ku (v:= .bool _) O O) (AX 25 O (Ku (v:= .bool _) O O) (ED O O (Au (DX O (Bj (Dh (CU ?_))))))))))))
      exact⟨_,_,Y,rfl,_,some q,out++ [q],b,rfl,ajl,aeh,hold,rfl,rfl,rfl,rfl,H⟩
  ·have hold:Rn.Best S (out++ [q]) n b:=by
    rcases hB with⟨rfl,hno⟩|h
    ·refine .inl ⟨rfl,fun x hx=>?_⟩
     rcases BJ.1 hx with hx|hx
     ·exact hno x hx
     ·rw[Bf.1 hx];omega
    ·exact .inr h
   refine DR (Az O (uI ?_))
   refine Cc 25 O O (Cc 25 O O (Cc 25 O O (Iq 28 O (Iq 28 O (Iq 28 O (Iq 28 O (Iq 28 O (Iq 28 O (Iq 28 O (Iq 28 O (Cc 25 O O (Cc 25 O O (Iq 38 O ?_)))))))))))))
   refine Iq 38 O (Iq 38 O (Iq 38 O (Iq 38 O (Iq 38 O (Iq 38 O (Iq 38 O (Iq 38 O (Iq 47 O (Iq 47 O (Iq 47 O (Iq 38 O (Cc 25 O O (Dp O O ?_)))))))))))))
   refine Au (DX O (Bj (Dh (CU ?_))))
   exact⟨_,_,Y,rfl,_,some q,out++ [q],b,rfl,ajl,aeh,hold,rfl,rfl,rfl,rfl,H⟩
end
end
end
section
namespace Nv
structure D where
 last:List Int
 cache:List Int
 fl:List Int
 dirty:List Bool
 pend:List Bool
 steps:Int
 fuse:Int
 armed:Bool
 dead:Bool
structure Ok (d:D) (m:Nat):Prop where
 hl:d.last.length=8*m
 hc:d.cache.length=8*m
 hf:d.fl.length=8*m
 hd:d.dirty.length=m
 hp:d.pend.length=m
def part(l:List Int)(i:Nat):List Int:=(l.drop (8*i)).take 8
def Io(l:List Int)(i:Nat)(p:List Int):List Int:=l.take (8*i)++p++l.drop (8*i+8)
def load(ws:List Int)(m:Nat):D:=⟨ws,ws,List.replicate ws.length 0,List.replicate m false,List.replicate m false,0,0,false,false⟩
def stops(d:D):Bool:=d.dead||(d.armed&&d.fuse==0)
def stepped(d:D):D:={d with fuse:=IntKind.i64.wrap (d.fuse-1),steps:=IntKind.i64.wrap (d.steps+1)}
def killed(d:D):D:={d with dead:=true}
def put(d:D)(a:Nat)(v:Int):D:={d with cache:=d.cache.set a v,dirty:=d.dirty.set (a/8) true}
def flushed(d:D)(i:Nat):D:={d with pend:=d.pend.set i true,fl:=Io d.fl i (part d.cache i)}
def same(a b:List Int):Bool:=decide (a=b)
def EF(d:D)(i:Nat):D:=
 if d.pend.getD i false=true then{d with last:=Io d.last i (part d.fl i),pend:=d.pend.set i false,dirty:=d.dirty.set i (!same (part d.fl i) (part d.cache i))}else d
def FZ(d:D):Nat→D
 |0=>d
 |k+1=>EF (FZ d k) k
def store(d:D)(m:Nat)(a v:Int):D×Int:=
 if 0≤a∧a<8*(m:Int)then(if stops d=true then(killed d,3)else(put (stepped d) a.toNat v,0))else(d,2)
def flush(d:D)(m:Nat)(l:Int):D×Int:=
 if 0≤l∧l<(m:Int)then(if stops d=true then(killed d,3)else(if d.dirty.getD l.toNat false=true then flushed (stepped d) l.toNat else stepped d,0))else(d,2)
def fence(d:D)(m:Nat):D×Int:=if stops d=true then(killed d,3)else(FZ (stepped d) m,0)
def get(l:List Int)(a:Int):Int:=if 0≤a∧a<(l.length:Int)then l.getD a.toNat 0 else 0
def Ed(d:D)(m:Nat)(i:Nat):Nat→D×Int
 |0=>(d,0)
 |k+1=>if(flush d m (i:Int)).2=0 then Ed (flush d m (i:Int)).1 m (i+1) k else flush d m (i:Int)
def persist(d:D)(m:Nat)(a n:Int):D×Int:=
 if a<0∨n<0∨8*(m:Int)<a∨8*(m:Int)-a<n then(d,2)
 else if n=0 then fence d m
 else
  if(Ed d m (a/8).toNat (((a+n-1)/8).toNat+1-(a/8).toNat)).2=0 then fence (Ed d m (a/8).toNat (((a+n-1)/8).toNat+1-(a/8).toNat)).1 m
  else Ed d m (a/8).toNat (((a+n-1)/8).toNat+1-(a/8).toNat)
theorem OQ{l p:List Int}{i:Nat}(h:8*i+8≤l.length)(hp:p.length=8):(Io l i p).length=l.length:=by simp[Io];omega
theorem Ji{l:List Int}{i:Nat}(h:8*i+8≤l.length):(part l i).length=8:=by simp[part];omega
theorem Ok.killed{d:D}{m:Nat}(h:Ok d m):Ok (killed d) m:=⟨h.hl,h.hc,h.hf,h.hd,h.hp⟩
theorem Ok.stepped{d:D}{m:Nat}(h:Ok d m):Ok (stepped d) m:=⟨h.hl,h.hc,h.hf,h.hd,h.hp⟩
theorem Ok.put{d:D}{m:Nat}(h:Ok d m)(a:Nat)(v:Int):Ok (put d a v) m:=⟨h.hl,by simp[Nv.put,h.hc],h.hf,by simp[Nv.put,h.hd],h.hp⟩
theorem Ok.flushed{d:D}{m:Nat}(h:Ok d m){i:Nat}(hi:i<m):Ok (flushed d i) m:=
 ⟨h.hl,h.hc,by simp only[Nv.flushed];rw[OQ (by rw[h.hf];omega) (Ji (by rw[h.hc];omega)),h.hf],h.hd,by simp[Nv.flushed,h.hp]⟩
theorem Ok.EF{d:D}{m:Nat}(h:Ok d m){i:Nat}(hi:i<m):Ok (EF d i) m:=by
 unfold Nv.EF
 split
 ·exact⟨by simp only;rw[OQ (by rw[h.hl];omega) (Ji (by rw[h.hf];omega)),h.hl],h.hc,h.hf,by simp[h.hd],by simp[h.hp]⟩
 ·exact h
theorem Ok.FZ{d:D}{m:Nat}(h:Ok d m):∀k,k≤m→Ok (FZ d k) m
 |0,_=>h
 |k+1,hk=>(Ok.FZ h k Y).EF Y
theorem Ok.store{d:D}{m:Nat}(h:Ok d m)(a v:Int):Ok (store d m a v).1 m:=by
 unfold Nv.store;split
 ·split
  ·exact h.killed
  ·exact h.stepped.put _ _
 ·exact h
theorem Ok.flush{d:D}{m:Nat}(h:Ok d m)(l:Int):Ok (flush d m l).1 m:=by
 unfold Nv.flush;split
 ·split
  ·exact h.killed
  ·split
   ·exact h.stepped.flushed Y
   ·exact h.stepped
 ·exact h
theorem Ok.fence{d:D}{m:Nat}(h:Ok d m):Ok (fence d m).1 m:=by
 unfold Nv.fence;split
 ·exact h.killed
 ·exact h.stepped.FZ m (Bg _)
theorem Ok.Ed{m:Nat}:∀(k i:Nat) (d:D),Ok d m→Ok (Ed d m i k).1 m
 |0,_,_,h=>h
 |k+1,i,d,h=>by
  unfold Nv.Ed;split
  ·exact Ok.Ed k _ _ (h.flush _)
  ·exact h.flush _
theorem Ok.persist{d:D}{m:Nat}(h:Ok d m)(a n:Int):Ok (persist d m a n).1 m:=by
 unfold Nv.persist;split
 ·exact h
 ·split
  ·exact h.fence
  ·split
   ·exact(Ok.Ed _ _ _ h).fence
   ·exact Ok.Ed _ _ _ h
theorem aaT(d:D)(i:Nat):(EF d i).fl=d.fl∧(EF d i).cache=d.cache∧(EF d i).steps=d.steps∧(EF d i).fuse=d.fuse∧(EF d i).armed=d.armed∧(EF d i).dead=d.dead:=by
 unfold EF;split<;>simp
theorem Ut(d:D):∀k,(FZ d k).fl=d.fl∧(FZ d k).cache=d.cache∧(FZ d k).steps=d.steps∧(FZ d k).fuse=d.fuse∧(FZ d k).armed=d.armed∧(FZ d k).dead=d.dead
 |0=>by simp[FZ]
 |k+1=>by
  obtain⟨h1,h2,h3,h4,h5,h6⟩:=aaT (FZ d k) k
  obtain⟨g1,g2,g3,g4,g5,g6⟩:=Ut d k
  exact⟨h1.trans g1,h2.trans g2,h3.trans g3,h4.trans g4,h5.trans g5,h6.trans g6⟩
end Nv
end
section
section
open Go.RowKit
abbrev ptr(b:Nat):Value:= .pointer (some ⟨b,0,none⟩)
end
end
section
section
open Go.RowKit
structure Geo where
 p:Nat
 bl:Nat
 bc:Nat
 bf:Nat
 bd:Nat
 bp:Nat
 cl:Nat
 cc:Nat
 cf:Nat
 cd:Nat
 cp:Nat
def Gt(g:Geo)(d:Nv.D):List Value:=
 [.slice (some ⟨g.bl,0,none⟩) d.last.length g.cl,.slice (some ⟨g.bc,0,none⟩) d.cache.length g.cc,.slice (some ⟨g.bf,0,none⟩) d.fl.length g.cf,.slice (some ⟨g.bd,0,none⟩) d.dirty.length g.cd,.slice (some ⟨g.bp,0,none⟩) d.pend.length g.cp,
  .int .i64 d.steps,.int .i64 d.fuse,.bool d.armed,.bool d.dead]
def Dz(g:Geo)(d:Nv.D):List Fp:=
 [blk g.p (Gt g d) 157,vec (Value.int .u64) g.bl d.last 26,vec (Value.int .u64) g.bc d.cache 26,vec (Value.int .u64) g.bf d.fl 26,vec Value.bool g.bd d.dirty 4,vec Value.bool g.bp d.pend 4]
theorem abd(g:Geo)(d:Nv.D)(w:World)(hE:DW (Dz g d) w)(hs:Nv.stops d=true):
 Calls prog 222 [ptr g.p].toArray w fun e w'=>e= .returned (.bool false)∧Heap w (ids (Dz g d)) (Dz g (Nv.killed d)) w':=by
 have H:=Heap.start hE
 generalize hF:ids (Dz g d)=F at H⊢
 unfold Dz Gt at H
 by_cases h:d.dead=true
 ·rw[h]at H
  refine BM 37 func222 O (qU ?_)
  refine AP (eY ?_)
  refine BR O WI (BD H 0 O O O ag4 (BL O (xH ?_)))
  refine Iq 12 O (Iq 12 O (Iq 12 O (Iq 12 O (Iq 12 O (Cc 7 O O (ED O O (Au (EI O (eY ?_)))))))))
  refine BR O WI (Ic (u:= .bool _) H 0 O O O O O O sz4 ?_)
  clear H;refine ayJ fun _ H=>?_
  refine Au (qU ?_)
  refine BH (CX (bQ ?_))
  exact⟨rfl,H⟩
 ·have h1:d.dead=false:=by simpa using h
  have h2:d.armed=true∧d.fuse=0:=by simpa [Nv.stops,h1]using hs
  rw[h1,h2.1,h2.2]at H
  refine rX ?_
  refine AX 12 O (Fv O O Y) (AX 7 O (HY (v:= .bool _) O O) (Dp O O (Au (EI O (eY ?_)))))
  refine BR O WI (Ic (u:= .bool _) H 0 O O O O O O sz4 ?_)
  clear H;refine ayJ fun _ H=>?_
  refine Au (qU ?_)
  refine BH (CX (bQ ?_))
  refine⟨rfl,?_⟩
  unfold Dz Gt Nv.killed
  rw[h2.1,h2.2]
  exact H
theorem VU(g:Geo)(d:Nv.D)(w:World)(hE:DW (Dz g d) w)(hs:Nv.stops d=false):
 Calls prog 222 [ptr g.p].toArray w fun e w'=>e= .returned (.bool true)∧Heap w (ids (Dz g d)) (Dz g (Nv.stepped d)) w':=by
 have H:=Heap.start hE
 generalize hF:ids (Dz g d)=F at H⊢
 unfold Dz Gt at H
 have h1:d.dead=false∧(d.armed=true→¬d.fuse=0):=by simpa [Nv.stops]using hs
 obtain⟨h1,h2⟩:=h1
 rw[h1]at H
 by_cases h3:d.armed=true
 ·have h4:¬d.fuse=0:=h2 h3
  rw[h3]at H
  refine rX ?_
  refine AX 12 O (Fb O O Y) (AX 7 O (HY (v:= .bool _) O O) (fE ?_))
  refine eY ?_
  refine BR O VX (mQ ?_)
  refine AL (FH O O O) (Dl O (BR O VX (jh ?_)))
  clear H;refine ayJ fun _ H=>?_
  refine uX ?_
  refine BR O aal (mQ ?_)
  refine AL (Dk O O O) (Dl O (BR O aal (jh ?_)))
  clear H;refine ayJ fun _ H=>?_
  refine Au (Aw (gZ ?_))
  refine⟨rfl,?_⟩
  unfold Dz Gt Nv.stepped
  rw[h1,h3]
  exact H
 ·have h3:d.armed=false:=by simpa using h3
  rw[h3]at H
  refine BM 37 func222 O (qU ?_)
  refine jq ?_
  refine Cc 12 O O (Cc 12 O O (Cc 12 O O (Cc 12 O O (Cc 12 O O (AX 7 O (Ku (v:= .bool _) O O) (fE ?_))))))
  refine eY ?_
  refine BR O VX (mQ ?_)
  refine AL (FH O O O) (Dl O (BR O VX (jh ?_)))
  clear H;refine ayJ fun _ H=>?_
  refine uX ?_
  refine BR O aal (mQ ?_)
  refine AL (Dk O O O) (Dl O (BR O aal (jh ?_)))
  clear H;refine ayJ fun _ H=>?_
  refine Au (Aw (gZ ?_))
  refine⟨rfl,?_⟩
  unfold Dz Gt Nv.stepped
  rw[h1,h3]
  exact H
end
end
section
section
open Go.RowKit
structure Wi (g:Geo) (m:Nat):Prop where
 l:8*m≤g.cl∧g.cl≤9223372036854775807
 c:8*m≤g.cc∧g.cc≤9223372036854775807
 f:8*m≤g.cf∧g.cf≤9223372036854775807
 d:m≤g.cd∧g.cd≤9223372036854775807
 p:m≤g.cp∧g.cp≤9223372036854775807
theorem acS(b c i:Nat)(l:Nat)(P:Option Addr)(w:World)(h:8*i+8≤c∧c≤9223372036854775807):
 Calls prog 86 [.pointer P,.slice (some ⟨b,0,none⟩) l c,.int .i64 i].toArray w fun e w'=>e= .returned (.slice (some ⟨b,8*i,none⟩) 8 (c-8*i))∧Only [] w w':=by
 have H:=Heap.nil w
 refine BM 14 func86 O (Aw (En O (Au (Aw (CY O (Az O (AL (Yf O O (wI Y)) (nI ?_))))))))
 refine AL (Yf O O (wI Y)) (AL (aut (i:=8*i) (j:=8*i+8) O O O Y Y Y underlying55 GV) (oZ ?_))
 refine⟨?_,H.only⟩
 have h1:¬c=8*i:=Y
 rw[if_neg h1,show 8*i+8-8*i=8 from by omega,Jh,DT]
theorem YO(g:Geo)(d:Nv.D)(m:Nat)(a v:Int)(w:World)(hE:DW (Dz g d) w)(ho:Nv.Ok d m)(hm:m≤100000):
 Calls prog 161 [ptr g.p,.int .i64 a,.int .u64 v].toArray w fun e w'=>e= .returned (.int .i64 (Nv.store d m a v).2)∧Heap w (ids (Dz g d)) (Dz g (Nv.store d m a v).1) w':=by
 have H0:=Heap.start hE
 have hc:=ho.hc
 by_cases hin:0≤a∧a<8*(m:Int)
 ·by_cases hs:Nv.stops d=true
  ·have er:Nv.store d m a v=(Nv.killed d,3):=by rw[Nv.store,if_pos hin,if_pos hs]
   rw[er]
   generalize hF:ids (Dz g d)=F at H0⊢
   have H:=H0
   unfold Dz Gt at H
   refine uw ?_
   refine AX 10 O (F7 O O Y) (Dp O O (BN O (Au (DX O (Aw (BF O (s_call O (abd g d _ H0.ents hs) (abn O) ?_)))))))
   rintro e W1 ⟨rfl,H'⟩
   refine⟨_,rfl,?_⟩
   have H:=H0.whole H'
   refine AL (Jm O) (lU ?_)
   exact⟨rfl,H⟩
  ·have hs:Nv.stops d=false:=by simpa using hs
   have er:Nv.store d m a v=(Nv.put (Nv.stepped d) a.toNat v,0):=by rw[Nv.store,if_pos hin,if_neg (by simp[hs])]
   rw[er]
   obtain⟨i,rfl⟩:∃i:Nat,a=(i:Int):=⟨a.toNat,Y⟩
   rw[Bz]
   have hd:=ho.hd
   generalize hF:ids (Dz g d)=F at H0⊢
   have H:=H0
   unfold Dz Gt at H
   refine uw ?_
   refine AX 10 O (F7 O O Y) (Dp O O (BN O (Au (DX O (Aw (sZ ?_))))))
   rintro e W1 ⟨rfl,H'⟩
   refine⟨_,rfl,?_⟩
   have H:=H0.whole H';unfold Dz Gt Nv.stepped at H;simp only at H
   refine AL (EM O) (uQ ?_)
   refine eY ?_
   refine BR O PE (BD H 0 O O O JE (Az O (Az O (AL (FC O O O Y underlying55 GV) (adG (u:= .int _ _) H 2 O O O O O Y (fun _=>rfl) GV ?_)))))
   clear H;refine ayJ fun _ H=>?_
   refine uX ?_
   refine BR O RP (BD H 0 O O O RJ (Az O (AL (Rf O O Y (wI Y)) (AL (FC (i:=i/8) O O Y Y underlying155 sz4) (adG (u:= .bool _) H 4 O O O O O Y (fun _=>rfl) sz4 ?_)))))
   clear H;refine ayJ fun _ H=>?_
   refine xX ?_
   refine⟨rfl,?_⟩
   unfold Dz Gt Nv.put Nv.stepped
   simpa using H
 ·have er:Nv.store d m a v=(d,2):=by rw[Nv.store,if_neg hin]
  rw[er]
  generalize hF:ids (Dz g d)=F at H0⊢
  have H:=H0
  unfold Dz Gt at H
  by_cases h1:a<0
  ·refine BM 37 func161 O (Aw (kU ?_))
   refine AL (Df O O Y) (BL O (Cc 10 O O (Cc 10 O O (Cc 10 O O (Cc 10 O O (Cc 10 O O (Cc 10 O O (Cc 10 O O (ED O O (lU ?_))))))))))
   exact⟨rfl,H⟩
  ·refine uw ?_
   refine AX 10 O (G8 O O Y) (Dp O O (lU ?_))
   exact⟨rfl,H⟩
end
end
section
section
open Go.RowKit
theorem ZQ(g:Geo)(d:Nv.D)(a:Int)(w:World)(hE:DW (Dz g d) w):
 Calls prog 133 [ptr g.p,.int .i64 a].toArray w fun e w'=>e= .returned (.int .u64 (Nv.get d.cache a))∧Only [] w w':=by
 have H:=Heap.start hE
 generalize hF:ids (Dz g d)=F at H
 unfold Dz Gt at H
 unfold Nv.get
 by_cases hin:0≤a∧a<(d.cache.length:Int)
 ·rw[if_pos hin]
  obtain⟨i,rfl⟩:∃i:Nat,a=(i:Int):=⟨a.toNat,Y⟩
  rw[Bz]
  refine nY ?_
  refine AX 7 O (F7 O O Y) (fE ?_)
  refine eY ?_
  refine BR O PE (BD H 0 O O O JE (Az O (AL (FC O O O Y underlying55 GV) (AL (Nq H 2 O O (agJ Y) GR) (fH ?_)))))
  exact⟨rfl,Only.refl _ _⟩
 ·rw[if_neg hin]
  by_cases h1:a<0
  ·refine BM 23 func133 O (Aw (pz ?_))
   refine xH ?_
   refine Cc 7 O O (Cc 7 O O (ED O O (fV ?_)))
   exact⟨rfl,Only.refl _ _⟩
  ·refine nY ?_
   refine AX 7 O (G8 O O Y) (Dp O O (fV ?_))
   exact⟨rfl,Only.refl _ _⟩
theorem Ze(g:Geo)(d:Nv.D)(w:World)(hE:DW (Dz g d) w):
 Calls prog 53 [ptr g.p].toArray w fun e w'=>e= .returned (.int .i64 d.cache.length)∧Only [] w w':=by
 have H:=Heap.start hE
 generalize hF:ids (Dz g d)=F at H
 unfold Dz Gt at H
 refine BM 8 func53 O (Aw (AQ O (uX ?_)))
 refine BR O PE (BD H 0 O O O JE (Di O underlying55 (fH ?_)))
 exact⟨rfl,Only.refl _ _⟩
theorem anH(g:Geo)(d:Nv.D)(m:Nat)(a:Int)(w:World)(hE:DW (Dz g d) w)(ho:Nv.Ok d m)(hg:Wi g m)(hm:m≤100000):
 Calls prog 226 [ptr g.p,.int .i64 a].toArray w fun e w'=>e= .returned (.int .i64 (Nv.flush d m a).2)∧Heap w (ids (Dz g d)) (Dz g (Nv.flush d m a).1) w':=by
 have H0:=Heap.start hE
 have hd:=ho.hd
 by_cases hin:0≤a∧a<(m:Int)
 ·by_cases hs:Nv.stops d=true
  ·have er:Nv.flush d m a=(Nv.killed d,3):=by rw[Nv.flush,if_pos hin,if_pos hs]
   rw[er]
   generalize hF:ids (Dz g d)=F at H0⊢
   have H:=H0
   unfold Dz Gt at H
   refine oP ?_
   refine Au (DX O (Aw (BF O (s_call O (abd g d _ H0.ents hs) (abn O) ?_))))
   rintro e W1 ⟨rfl,H'⟩
   refine⟨_,rfl,?_⟩
   have H:=H0.whole H'
   refine AL (Jm O) (lU ?_)
   exact⟨rfl,H⟩
  ·have hs:Nv.stops d=false:=by simpa using hs
   obtain⟨i,rfl⟩:∃i:Nat,a=(i:Int):=⟨a.toNat,Y⟩
   have er:Nv.flush d m i=(if d.dirty.getD i false=true then Nv.flushed (Nv.stepped d) i else Nv.stepped d,0):=by rw[Nv.flush,if_pos hin,if_neg (by simp[hs]),Bz]
   rw[er]
   have hp:=ho.hp
   have hc:=ho.hc
   have hf:=ho.hf
   generalize hF:ids (Dz g d)=F at H0⊢
   have H:=H0
   unfold Dz Gt at H
   by_cases hdi:d.dirty.getD i false=true
   ·have aw4:d.dirty[i]? =some true:=by rw[agJ Y];exact congrArg some hdi
    rw[if_pos hdi]
    have hgc:=hg.c
    have hgf:=hg.f
    refine oP ?_
    refine Au (DX O (Aw (sZ ?_)))
    rintro e W1 ⟨rfl,H'⟩
    refine⟨_,rfl,?_⟩
    have H:=H0.whole H';unfold Dz Gt Nv.stepped at H;simp only at H
    refine vw ?_
    refine Au (EI O (uz ?_))
    clear H;refine ayJ fun _ H=>?_
    refine Au (abM 14 mixed Ak H O O (iU ?_))
    refine BK (fun _ H=>CB O aiZ) (mM ?_)
    refine Np O O (fun _ H=>acS g.bf g.cf i _ _ _ Y) (ajs O) (iU ?_)
    refine BK (fun _ H=>CB O PE) (mM ?_)
    refine Np O O (fun _ H=>acS g.bc g.cc i _ _ _ Y) (ajs O) (H8 ?_)
    clear H;intro _ H
    refine avs (enc:=(Value.int .u64)) H 3 2 O O O O O (fun _=>rfl) Y underlying55 Ig ?_
    clear H;refine ayJ fun _ H=>?_
    refine xX ?_
    refine⟨rfl,?_⟩
    unfold Dz Gt Nv.flushed Nv.stepped
    have e:Nv.Io d.fl i (Nv.part d.cache i)=d.fl.take (8*i)++((d.cache.drop (8*i)).take 8++d.fl.drop (8*i+8)):=by simp[Nv.Io,Nv.part]
    have hl:(Nv.Io d.fl i (Nv.part d.cache i)).length=d.fl.length:=Nv.OQ Y (Nv.Ji Y)
    rw[←e]at H
    simp only[hl,He]
    exact H
   ·have aw4:d.dirty[i]? =some false:=by
     rw[agJ Y]
     have:d.dirty.getD i default=false:=by simpa using hdi
     rw[this]
    rw[if_neg hdi]
    refine oP ?_
    refine Au (DX O (Aw (sZ ?_)))
    rintro e W1 ⟨rfl,H'⟩
    refine⟨_,rfl,?_⟩
    have H:=H0.whole H';unfold Dz Gt Nv.stepped at H;simp only at H
    refine vw ?_
    refine dX ?_
    refine Aw (fH ?_)
    refine⟨rfl,?_⟩
    unfold Dz Gt Nv.stepped
    exact H
 ·have er:Nv.flush d m a=(d,2):=by rw[Nv.flush,if_neg hin]
  rw[er]
  generalize hF:ids (Dz g d)=F at H0⊢
  have H:=H0
  unfold Dz Gt at H
  by_cases h1:a<0
  ·refine BM 49 func226 O (Aw (kU ?_))
   refine AL (Df O O Y) (BL O (pY ?_))
   refine ED O O (lU ?_)
   exact⟨rfl,H⟩
  ·refine BM 49 func226 O (Aw (kU ?_))
   refine fD ?_
   refine AX 8 O (G8 O O Y) (Dp O O (lU ?_))
   exact⟨rfl,H⟩
end
end
section
section
open Go.RowKit
theorem am4{xs ys:List Int}{k:Nat}(h:∀i,i<k→xs.getD i default=ys.getD i default)(hx:xs.length=k)(hy:ys.length=k):xs=ys:=by
 apply FU Y
 intro i h1 h2
 have:=h i Y
 simpa [Ba,Ar h1,Ar h2]using this
theorem arG(b o c b2 o2 c2 n:Nat)(xs ys:List Int)(w:World)(hx:Cells w b o xs .u64)(hy:Cells w b2 o2 ys .u64)(lx:xs.length=n)(ly:ys.length=n)(hn:n≤1000000):
 Calls prog 194 [.slice (some ⟨b,o,none⟩) n c,.slice (some ⟨b2,o2,none⟩) n c2].toArray w fun e w'=>e= .returned (.bool (Nv.same xs ys))∧Only [] w w':=by
 have H:=Heap.nil w
 refine uN ?_
 refine Ec (fun m f W=>∃k:Nat,k≤n∧m=n-k∧(∀i,i<k→xs.getD i default=ys.getD i default)∧f 0= .slice (some ⟨b,o,none⟩) n c∧f 1= .slice (some ⟨b2,o2,none⟩) n c2∧f 12= .int .i64 n∧f 13= .int .i64 k∧Heap w [] [] W) n ⟨0,Y,Y,Y,rfl,rfl,rfl,rfl,H⟩ ?_
 clear H
 rintro m f W ⟨k,hk,rfl,hall,h0,h1,h2,h3,H⟩
 obtain⟨f,rfl⟩:=Ih h0 h1 h2 h3
 clear h0 h1 h2 h3
 by_cases hlt:k<n
 ·have cx:=hx k _ (agJ Y)
  have cy:=hy k _ (agJ Y)
  by_cases he:xs.getD k default=ys.getD k default
  ·refine lW ?_
   refine qw ?_
   refine kY ?_
   refine BK (fun _ H=>Dc O O Y) (H8 ?_)
   clear H;intro _ H
   refine AO (nM ?_)
   refine⟨_,_,?_,rfl,k+1,Y,rfl,fun i hi=>?_,rfl,rfl,rfl,rfl,H⟩
   ·omega
   ·by_cases hik:i=k
    ·subst hik;exact he
    ·exact hall i Y
  ·refine lW ?_
   refine qw ?_
   refine kY ?_
   refine BK (fun _ H=>Hl O O Y) (H8 ?_)
   clear H;intro _ H
   refine rO ?_
   refine⟨?_,H.only⟩
   rw[Nv.same,decide_eq_false (fun h=>he (by rw[h]))]
 ·obtain rfl:k=n:=Y
  refine uS ?_
  refine gZ ?_
  refine⟨?_,H.only⟩
  rw[Nv.same,decide_eq_true (am4 hall lx ly)]
end
end
section
section
open Go.RowKit
theorem Nh(A:Addr)(n c:Nat)(zs:List Int)(w:World)(hz:Gm (Value.int .u64) w [] (some A) zs)(hl:zs.length=n)(hn:n≤1000000):
 Calls prog 84 [.slice (some A) n c].toArray w fun e w'=>∃b c',e= .returned (.slice (some ⟨b,0,none⟩) n c')∧(n≤c'∧c'≤9223372036854775807)∧Heap w [] [vec (Value.int .u64) b zs 26] w':=by
 have H:=Heap.nil w
 refine wL ?_
 intro _ _ H';clear H;have H:=H';clear H'
 refine CY O (agQ (enc:=(Value.int .u64)) (xs:=[]) H 0 O O O O (hz) (hl) (fun _=>rfl) Y underlying55 Ig O ?_)
 clear H;intro A' c' _ hA H;simp only[Bv,Nat.reduceAdd]at H
 refine oZ ?_
 obtain⟨b,rfl⟩:=hA J
 rw[DT]at H
 refine⟨b,c',by rw[DT],?_⟩
 by_cases h0:0<n
 ·obtain⟨b',c2,e1,e2,e3,H2⟩:=ai' H h0
  injection e1 with e4 _ e5
  injection e4 with e4
  injection e4 with e4
  subst e4;subst e5
  unfold maxLen at e3
  exact⟨⟨e2,e3⟩,H2⟩
 ·obtain rfl:n=0:=Y
  obtain rfl:zs=[]:=BZ hl
  have ho:=H.IK 0 rfl
  have hb:(0≤c'∧c'≤9223372036854775807):=by
   rcases ho.2 with⟨e,_⟩|⟨q,cap,cur,e,_,_,_,hcm,_⟩
   ·cases e
   ·injection e with _ _ e;subst e;unfold maxLen at hcm;omega
  exact⟨hb,fun E hE=>by(rw[Bf.1 hE];exact fun h=>absurd rfl h),by simp[ids,vec],by simp[ids,vec],H.only⟩
theorem ap0(b c m:Nat)(ws:List Int)(w:World)(hE:DW [vec (Value.int .u64) b ws 26] w)(hl:ws.length=8*m)(hm:m≤100000)(hc:8*m≤c∧c≤9223372036854775807):
 Calls prog 87 [.slice (some ⟨b,0,none⟩) (8*m) c].toArray w fun e w'=>∃g,e= .returned (ptr g.p)∧Wi g m∧Heap w (ids [vec (Value.int .u64) b ws 26]) (Dz g (Nv.load ws m)) w':=by
 have H:=Heap.start hE
 generalize hF:ids [vec (Value.int .u64) b ws 26]=F at H⊢
 refine BM 19 func87 O (Aw (EX O (Au (Aw (dV ?_)))))
 refine AL (Rf O O Y (wI Y)) (qw ?_)
 refine Jj (fun f' W'=>∃p bc cc bf bd bp,(8*m≤cc∧cc≤9223372036854775807)∧f' 2=ptr p∧Heap w F [blk p [.slice (some ⟨b,0,none⟩) (8*m) c,.slice (some ⟨bc,0,none⟩) (8*m) cc,.slice (some ⟨bf,0,none⟩) (8*m) (8*m),.slice (some ⟨bd,0,none⟩) m m,.slice (some ⟨bp,0,none⟩) m m,.int .i64 0,.int .i64 0,.bool false,.bool false] 157,vec Value.bool bp (List.replicate m false) 4,vec Value.bool bd (List.replicate m false) 4,vec (Value.int .u64) bf (List.replicate (8*m) 0) 26,vec (Value.int .u64) bc ws 26,vec (Value.int .u64) b ws 26] W') ?_ ?_
 ·have HR:=H;clear H;have H:=HR.tree;refine awS mixed ?_
  refine Dj 0 O O O (fun _ hS=>BP (v:= .slice _ _ _) O) H.only (Dj 1 O O O (fun _ hS=>BP (v:= .slice _ _ _) O) H.only (Dj 3 O O O (fun _ hS=>BP (v:= .slice _ _ _) O) H.only (Dj 4 O O O (fun _ hS=>Ey O underlying55) H.only (Dj 6 O O O (fun _ hS=>BP (v:= .int _ _) O) H.only (Dj 8 O O O (fun _ hS=>BP (v:= .int _ _) O) H.only ?_)))))
  refine atp 2 5 7 9 Ak ?_ ?_ ?_ ?_
  ·refine BO O (aZ ?_)
   rintro e W1 ⟨bc,cc,rfl,hcc,H'⟩
   refine⟨_,rfl,?_⟩
   have H:=H.more H';clear H'
   refine mP ?_
   refine TM 5 7 9 Ak ?_ ?_ ?_
   ·refine BO O (bG ?_)
    intro bf _ H';clear H;have H:=H';clear H'
    refine mP ?_
    refine D6 7 9 ?_ ?_
    ·refine oV ?_
     intro bd _ H';clear H;have H:=H';clear H'
     refine tJ ?_
     intro bp _ H';clear H;have H:=H';clear H'
     refine qX ?_
     refine DU H O O fun ZM _ H=>qI ?_
     have H:=HR.more H;clear HR;simp only[Bv]at H
     refine Dt ?_
     exact⟨_,_,_,_,_,_,hcc,rfl,H⟩
    ·refine oV ?_
     intro bp _ H';clear H;have H:=H';clear H'
     refine sV ?_
     intro bd _ H';clear H;have H:=H';clear H'
     refine qX ?_
     refine DU H O O fun ZM _ H=>qI ?_
     replace H:=H.pick 4 rfl;simp only[Bv]at H
     replace H:=H.pick 4 rfl;simp only[Bv]at H
     replace H:=H.pick 3 rfl;simp only[Bv]at H
     replace H:=H.pick 4 rfl;simp only[Bv]at H
     replace H:=H.pick 4 rfl;simp only[Bv]at H
     have H:=HR.more H;clear HR;simp only[Bv]at H
     refine Dt ?_
     exact⟨_,_,_,_,_,_,hcc,rfl,H⟩
   ·refine oV ?_
    intro bd _ H';clear H;have H:=H';clear H'
    refine mP ?_
    refine D6 5 9 ?_ ?_
    ·refine BO O (bG ?_)
     intro bf _ H';clear H;have H:=H';clear H'
     refine tJ ?_
     intro bp _ H';clear H;have H:=H';clear H'
     refine qX ?_
     refine DU H O O fun ZM _ H=>qI ?_
     replace H:=H.pick 4 rfl;simp only[Bv]at H
     replace H:=H.pick 3 rfl;simp only[Bv]at H
     replace H:=H.pick 4 rfl;simp only[Bv]at H
     replace H:=H.pick 4 rfl;simp only[Bv]at H
     replace H:=H.pick 4 rfl;simp only[Bv]at H
     have H:=HR.more H;clear HR;simp only[Bv]at H
     refine Dt ?_
     exact⟨_,_,_,_,_,_,hcc,rfl,H⟩
    ·refine oV ?_
     intro bp _ H';clear H;have H:=H';clear H'
     refine rZ ?_
     intro bf _ H';clear H;have H:=H';clear H'
     refine qX ?_
     refine DU H O O fun ZM _ H=>qI ?_
     replace H:=H.pick 4 rfl;simp only[Bv]at H
     replace H:=H.pick 2 rfl;simp only[Bv]at H
     replace H:=H.pick 4 rfl;simp only[Bv]at H
     replace H:=H.pick 4 rfl;simp only[Bv]at H
     replace H:=H.pick 4 rfl;simp only[Bv]at H
     have H:=HR.more H;clear HR;simp only[Bv]at H
     refine Dt ?_
     exact⟨_,_,_,_,_,_,hcc,rfl,H⟩
   ·refine oV ?_
    intro bp _ H';clear H;have H:=H';clear H'
    refine mP ?_
    refine D6 5 7 ?_ ?_
    ·refine BO O (bG ?_)
     intro bf _ H';clear H;have H:=H';clear H'
     refine sV ?_
     intro bd _ H';clear H;have H:=H';clear H'
     refine qX ?_
     refine DU H O O fun ZM _ H=>qI ?_
     replace H:=H.pick 4 rfl;simp only[Bv]at H
     replace H:=H.pick 3 rfl;simp only[Bv]at H
     replace H:=H.pick 3 rfl;simp only[Bv]at H
     replace H:=H.pick 4 rfl;simp only[Bv]at H
     replace H:=H.pick 4 rfl;simp only[Bv]at H
     have H:=HR.more H;clear HR;simp only[Bv]at H
     refine Dt ?_
     exact⟨_,_,_,_,_,_,hcc,rfl,H⟩
    ·refine oV ?_
     intro bd _ H';clear H;have H:=H';clear H'
     refine rZ ?_
     intro bf _ H';clear H;have H:=H';clear H'
     refine qX ?_
     refine DU H O O fun ZM _ H=>qI ?_
     replace H:=H.pick 4 rfl;simp only[Bv]at H
     replace H:=H.pick 2 rfl;simp only[Bv]at H
     replace H:=H.pick 3 rfl;simp only[Bv]at H
     replace H:=H.pick 4 rfl;simp only[Bv]at H
     replace H:=H.pick 4 rfl;simp only[Bv]at H
     have H:=HR.more H;clear HR;simp only[Bv]at H
     refine Dt ?_
     exact⟨_,_,_,_,_,_,hcc,rfl,H⟩
  ·refine BO O (bG ?_)
   intro bf _ H';clear H;have H:=H';clear H'
   refine mP ?_
   refine TM 2 7 9 Ak ?_ ?_ ?_
   ·refine BO O (aZ ?_)
    rintro e W1 ⟨bc,cc,rfl,hcc,H'⟩
    refine⟨_,rfl,?_⟩
    have H:=H.more H';clear H'
    refine mP ?_
    refine D6 7 9 ?_ ?_
    ·refine oV ?_
     intro bd _ H';clear H;have H:=H';clear H'
     refine tJ ?_
     intro bp _ H';clear H;have H:=H';clear H'
     refine qX ?_
     refine DU H O O fun ZM _ H=>qI ?_
     replace H:=H.pick 3 rfl;simp only[Bv]at H
     replace H:=H.pick 4 rfl;simp only[Bv]at H
     replace H:=H.pick 4 rfl;simp only[Bv]at H
     replace H:=H.pick 4 rfl;simp only[Bv]at H
     replace H:=H.pick 4 rfl;simp only[Bv]at H
     have H:=HR.more H;clear HR;simp only[Bv]at H
     refine Dt ?_
     exact⟨_,_,_,_,_,_,hcc,rfl,H⟩
    ·refine oV ?_
     intro bp _ H';clear H;have H:=H';clear H'
     refine sV ?_
     intro bd _ H';clear H;have H:=H';clear H'
     refine qX ?_
     refine DU H O O fun ZM _ H=>qI ?_
     replace H:=H.pick 3 rfl;simp only[Bv]at H
     replace H:=H.pick 4 rfl;simp only[Bv]at H
     replace H:=H.pick 3 rfl;simp only[Bv]at H
     replace H:=H.pick 4 rfl;simp only[Bv]at H
     replace H:=H.pick 4 rfl;simp only[Bv]at H
     have H:=HR.more H;clear HR;simp only[Bv]at H
     refine Dt ?_
     exact⟨_,_,_,_,_,_,hcc,rfl,H⟩
   ·refine oV ?_
    intro bd _ H';clear H;have H:=H';clear H'
    refine mP ?_
    refine D6 2 9 ?_ ?_
    ·refine BO O (aZ ?_)
     rintro e W1 ⟨bc,cc,rfl,hcc,H'⟩
     refine⟨_,rfl,?_⟩
     have H:=H.more H';clear H'
     refine tJ ?_
     intro bp _ H';clear H;have H:=H';clear H'
     refine qX ?_
     refine DU H O O fun ZM _ H=>qI ?_
     replace H:=H.pick 2 rfl;simp only[Bv]at H
     replace H:=H.pick 4 rfl;simp only[Bv]at H
     replace H:=H.pick 4 rfl;simp only[Bv]at H
     replace H:=H.pick 4 rfl;simp only[Bv]at H
     replace H:=H.pick 4 rfl;simp only[Bv]at H
     have H:=HR.more H;clear HR;simp only[Bv]at H
     refine Dt ?_
     exact⟨_,_,_,_,_,_,hcc,rfl,H⟩
    ·refine oV ?_
     intro bp _ H';clear H;have H:=H';clear H'
     refine rQ ?_
     rintro e W1 ⟨bc,cc,rfl,hcc,H'⟩
     refine⟨_,rfl,?_⟩
     have H:=H.more H';clear H'
     refine qX ?_
     refine DU H O O fun ZM _ H=>qI ?_
     replace H:=H.pick 1 rfl;simp only[Bv]at H
     replace H:=H.pick 4 rfl;simp only[Bv]at H
     replace H:=H.pick 4 rfl;simp only[Bv]at H
     replace H:=H.pick 4 rfl;simp only[Bv]at H
     replace H:=H.pick 4 rfl;simp only[Bv]at H
     have H:=HR.more H;clear HR;simp only[Bv]at H
     refine Dt ?_
     exact⟨_,_,_,_,_,_,hcc,rfl,H⟩
   ·refine oV ?_
    intro bp _ H';clear H;have H:=H';clear H'
    refine mP ?_
    refine D6 2 7 ?_ ?_
    ·refine BO O (aZ ?_)
     rintro e W1 ⟨bc,cc,rfl,hcc,H'⟩
     refine⟨_,rfl,?_⟩
     have H:=H.more H';clear H'
     refine sV ?_
     intro bd _ H';clear H;have H:=H';clear H'
     refine qX ?_
     refine DU H O O fun ZM _ H=>qI ?_
     replace H:=H.pick 2 rfl;simp only[Bv]at H
     replace H:=H.pick 4 rfl;simp only[Bv]at H
     replace H:=H.pick 3 rfl;simp only[Bv]at H
     replace H:=H.pick 4 rfl;simp only[Bv]at H
     replace H:=H.pick 4 rfl;simp only[Bv]at H
     have H:=HR.more H;clear HR;simp only[Bv]at H
     refine Dt ?_
     exact⟨_,_,_,_,_,_,hcc,rfl,H⟩
    ·refine oV ?_
     intro bd _ H';clear H;have H:=H';clear H'
     refine rQ ?_
     rintro e W1 ⟨bc,cc,rfl,hcc,H'⟩
     refine⟨_,rfl,?_⟩
     have H:=H.more H';clear H'
     refine qX ?_
     refine DU H O O fun ZM _ H=>qI ?_
     replace H:=H.pick 1 rfl;simp only[Bv]at H
     replace H:=H.pick 4 rfl;simp only[Bv]at H
     replace H:=H.pick 3 rfl;simp only[Bv]at H
     replace H:=H.pick 4 rfl;simp only[Bv]at H
     replace H:=H.pick 4 rfl;simp only[Bv]at H
     have H:=HR.more H;clear HR;simp only[Bv]at H
     refine Dt ?_
     exact⟨_,_,_,_,_,_,hcc,rfl,H⟩
  ·refine oV ?_
   intro bd _ H';clear H;have H:=H';clear H'
   refine mP ?_
   refine TM 2 5 9 Ak ?_ ?_ ?_
   ·refine BO O (aZ ?_)
    rintro e W1 ⟨bc,cc,rfl,hcc,H'⟩
    refine⟨_,rfl,?_⟩
    have H:=H.more H';clear H'
    refine mP ?_
    refine D6 5 9 ?_ ?_
    ·refine BO O (bG ?_)
     intro bf _ H';clear H;have H:=H';clear H'
     refine tJ ?_
     intro bp _ H';clear H;have H:=H';clear H'
     refine qX ?_
     refine DU H O O fun ZM _ H=>qI ?_
     replace H:=H.pick 3 rfl;simp only[Bv]at H
     replace H:=H.pick 3 rfl;simp only[Bv]at H
     replace H:=H.pick 4 rfl;simp only[Bv]at H
     replace H:=H.pick 4 rfl;simp only[Bv]at H
     replace H:=H.pick 4 rfl;simp only[Bv]at H
     have H:=HR.more H;clear HR;simp only[Bv]at H
     refine Dt ?_
     exact⟨_,_,_,_,_,_,hcc,rfl,H⟩
    ·refine oV ?_
     intro bp _ H';clear H;have H:=H';clear H'
     refine rZ ?_
     intro bf _ H';clear H;have H:=H';clear H'
     refine qX ?_
     refine DU H O O fun ZM _ H=>qI ?_
     replace H:=H.pick 3 rfl;simp only[Bv]at H
     replace H:=H.pick 2 rfl;simp only[Bv]at H
     replace H:=H.pick 4 rfl;simp only[Bv]at H
     replace H:=H.pick 4 rfl;simp only[Bv]at H
     replace H:=H.pick 4 rfl;simp only[Bv]at H
     have H:=HR.more H;clear HR;simp only[Bv]at H
     refine Dt ?_
     exact⟨_,_,_,_,_,_,hcc,rfl,H⟩
   ·refine BO O (bG ?_)
    intro bf _ H';clear H;have H:=H';clear H'
    refine mP ?_
    refine D6 2 9 ?_ ?_
    ·refine BO O (aZ ?_)
     rintro e W1 ⟨bc,cc,rfl,hcc,H'⟩
     refine⟨_,rfl,?_⟩
     have H:=H.more H';clear H'
     refine tJ ?_
     intro bp _ H';clear H;have H:=H';clear H'
     refine qX ?_
     refine DU H O O fun ZM _ H=>qI ?_
     replace H:=H.pick 2 rfl;simp only[Bv]at H
     replace H:=H.pick 3 rfl;simp only[Bv]at H
     replace H:=H.pick 4 rfl;simp only[Bv]at H
     replace H:=H.pick 4 rfl;simp only[Bv]at H
     replace H:=H.pick 4 rfl;simp only[Bv]at H
     have H:=HR.more H;clear HR;simp only[Bv]at H
     refine Dt ?_
     exact⟨_,_,_,_,_,_,hcc,rfl,H⟩
    ·refine oV ?_
     intro bp _ H';clear H;have H:=H';clear H'
     refine rQ ?_
     rintro e W1 ⟨bc,cc,rfl,hcc,H'⟩
     refine⟨_,rfl,?_⟩
     have H:=H.more H';clear H'
     refine qX ?_
     refine DU H O O fun ZM _ H=>qI ?_
     replace H:=H.pick 1 rfl;simp only[Bv]at H
     replace H:=H.pick 3 rfl;simp only[Bv]at H
     replace H:=H.pick 4 rfl;simp only[Bv]at H
     replace H:=H.pick 4 rfl;simp only[Bv]at H
     replace H:=H.pick 4 rfl;simp only[Bv]at H
     have H:=HR.more H;clear HR;simp only[Bv]at H
     refine Dt ?_
     exact⟨_,_,_,_,_,_,hcc,rfl,H⟩
   ·refine oV ?_
    intro bp _ H';clear H;have H:=H';clear H'
    refine mP ?_
    refine D6 2 5 ?_ ?_
    ·refine BO O (aZ ?_)
     rintro e W1 ⟨bc,cc,rfl,hcc,H'⟩
     refine⟨_,rfl,?_⟩
     have H:=H.more H';clear H'
     refine rZ ?_
     intro bf _ H';clear H;have H:=H';clear H'
     refine qX ?_
     refine DU H O O fun ZM _ H=>qI ?_
     replace H:=H.pick 2 rfl;simp only[Bv]at H
     replace H:=H.pick 2 rfl;simp only[Bv]at H
     replace H:=H.pick 4 rfl;simp only[Bv]at H
     replace H:=H.pick 4 rfl;simp only[Bv]at H
     replace H:=H.pick 4 rfl;simp only[Bv]at H
     have H:=HR.more H;clear HR;simp only[Bv]at H
     refine Dt ?_
     exact⟨_,_,_,_,_,_,hcc,rfl,H⟩
    ·refine BO O (bG ?_)
     intro bf _ H';clear H;have H:=H';clear H'
     refine rQ ?_
     rintro e W1 ⟨bc,cc,rfl,hcc,H'⟩
     refine⟨_,rfl,?_⟩
     have H:=H.more H';clear H'
     refine qX ?_
     refine DU H O O fun ZM _ H=>qI ?_
     replace H:=H.pick 1 rfl;simp only[Bv]at H
     replace H:=H.pick 2 rfl;simp only[Bv]at H
     replace H:=H.pick 4 rfl;simp only[Bv]at H
     replace H:=H.pick 4 rfl;simp only[Bv]at H
     replace H:=H.pick 4 rfl;simp only[Bv]at H
     have H:=HR.more H;clear HR;simp only[Bv]at H
     refine Dt ?_
     exact⟨_,_,_,_,_,_,hcc,rfl,H⟩
  ·refine oV ?_
   intro bp _ H';clear H;have H:=H';clear H'
   refine mP ?_
   refine TM 2 5 7 Ak ?_ ?_ ?_
   ·refine BO O (aZ ?_)
    rintro e W1 ⟨bc,cc,rfl,hcc,H'⟩
    refine⟨_,rfl,?_⟩
    have H:=H.more H';clear H'
    refine mP ?_
    refine D6 5 7 ?_ ?_
    ·refine BO O (bG ?_)
     intro bf _ H';clear H;have H:=H';clear H'
     refine sV ?_
     intro bd _ H';clear H;have H:=H';clear H'
     refine qX ?_
     refine DU H O O fun ZM _ H=>qI ?_
     replace H:=H.pick 3 rfl;simp only[Bv]at H
     replace H:=H.pick 3 rfl;simp only[Bv]at H
     replace H:=H.pick 3 rfl;simp only[Bv]at H
     replace H:=H.pick 4 rfl;simp only[Bv]at H
     replace H:=H.pick 4 rfl;simp only[Bv]at H
     have H:=HR.more H;clear HR;simp only[Bv]at H
     refine Dt ?_
     exact⟨_,_,_,_,_,_,hcc,rfl,H⟩
    ·refine oV ?_
     intro bd _ H';clear H;have H:=H';clear H'
     refine rZ ?_
     intro bf _ H';clear H;have H:=H';clear H'
     refine qX ?_
     refine DU H O O fun ZM _ H=>qI ?_
     replace H:=H.pick 3 rfl;simp only[Bv]at H
     replace H:=H.pick 2 rfl;simp only[Bv]at H
     replace H:=H.pick 3 rfl;simp only[Bv]at H
     replace H:=H.pick 4 rfl;simp only[Bv]at H
     replace H:=H.pick 4 rfl;simp only[Bv]at H
     have H:=HR.more H;clear HR;simp only[Bv]at H
     refine Dt ?_
     exact⟨_,_,_,_,_,_,hcc,rfl,H⟩
   ·refine BO O (bG ?_)
    intro bf _ H';clear H;have H:=H';clear H'
    refine mP ?_
    refine D6 2 7 ?_ ?_
    ·refine BO O (aZ ?_)
     rintro e W1 ⟨bc,cc,rfl,hcc,H'⟩
     refine⟨_,rfl,?_⟩
     have H:=H.more H';clear H'
     refine sV ?_
     intro bd _ H';clear H;have H:=H';clear H'
     refine qX ?_
     refine DU H O O fun ZM _ H=>qI ?_
     replace H:=H.pick 2 rfl;simp only[Bv]at H
     replace H:=H.pick 3 rfl;simp only[Bv]at H
     replace H:=H.pick 3 rfl;simp only[Bv]at H
     replace H:=H.pick 4 rfl;simp only[Bv]at H
     replace H:=H.pick 4 rfl;simp only[Bv]at H
     have H:=HR.more H;clear HR;simp only[Bv]at H
     refine Dt ?_
     exact⟨_,_,_,_,_,_,hcc,rfl,H⟩
    ·refine oV ?_
     intro bd _ H';clear H;have H:=H';clear H'
     refine rQ ?_
     rintro e W1 ⟨bc,cc,rfl,hcc,H'⟩
     refine⟨_,rfl,?_⟩
     have H:=H.more H';clear H'
     refine qX ?_
     refine DU H O O fun ZM _ H=>qI ?_
     replace H:=H.pick 1 rfl;simp only[Bv]at H
     replace H:=H.pick 3 rfl;simp only[Bv]at H
     replace H:=H.pick 3 rfl;simp only[Bv]at H
     replace H:=H.pick 4 rfl;simp only[Bv]at H
     replace H:=H.pick 4 rfl;simp only[Bv]at H
     have H:=HR.more H;clear HR;simp only[Bv]at H
     refine Dt ?_
     exact⟨_,_,_,_,_,_,hcc,rfl,H⟩
   ·refine oV ?_
    intro bd _ H';clear H;have H:=H';clear H'
    refine mP ?_
    refine D6 2 5 ?_ ?_
    ·refine BO O (aZ ?_)
     rintro e W1 ⟨bc,cc,rfl,hcc,H'⟩
     refine⟨_,rfl,?_⟩
     have H:=H.more H';clear H'
     refine rZ ?_
     intro bf _ H';clear H;have H:=H';clear H'
     refine qX ?_
     refine DU H O O fun ZM _ H=>qI ?_
     replace H:=H.pick 2 rfl;simp only[Bv]at H
     replace H:=H.pick 2 rfl;simp only[Bv]at H
     replace H:=H.pick 3 rfl;simp only[Bv]at H
     replace H:=H.pick 4 rfl;simp only[Bv]at H
     replace H:=H.pick 4 rfl;simp only[Bv]at H
     have H:=HR.more H;clear HR;simp only[Bv]at H
     refine Dt ?_
     exact⟨_,_,_,_,_,_,hcc,rfl,H⟩
    ·refine BO O (bG ?_)
     intro bf _ H';clear H;have H:=H';clear H'
     refine rQ ?_
     rintro e W1 ⟨bc,cc,rfl,hcc,H'⟩
     refine⟨_,rfl,?_⟩
     have H:=H.more H';clear H'
     refine qX ?_
     refine DU H O O fun ZM _ H=>qI ?_
     replace H:=H.pick 1 rfl;simp only[Bv]at H
     replace H:=H.pick 2 rfl;simp only[Bv]at H
     replace H:=H.pick 3 rfl;simp only[Bv]at H
     replace H:=H.pick 4 rfl;simp only[Bv]at H
     replace H:=H.pick 4 rfl;simp only[Bv]at H
     have H:=HR.more H;clear HR;simp only[Bv]at H
     refine Dt ?_
     exact⟨_,_,_,_,_,_,hcc,rfl,H⟩
 clear H
 rintro f' W ⟨p,bc,cc,bf,bd,bp,hcc,h2,H⟩
 obtain⟨f',rfl⟩:=aqx h2
 refine AO (jr ?_)
 refine⟨⟨p,b,bc,bf,bd,bp,c,cc,8*m,m,m⟩,rfl,⟨hc,hcc,by simp;omega,by simp;omega,by simp;omega⟩,?_⟩
 unfold Dz Gt Nv.load
 simp only[hl,CV]
 refine H.perm (List.Perm.cons _ ?_)
 exact(List.reverse_perm [vec (Value.int .u64) b ws 26,vec (Value.int .u64) bc ws 26,vec (Value.int .u64) bf (List.replicate (8*m) 0) 26,vec Value.bool bd (List.replicate m false) 4,vec Value.bool bp (List.replicate m false) 4])
theorem nUp(n:Int)(w:World)(h: -9223372036854775808≤n∧n≤9223372036854775807):
 Calls prog 100 [.int .i64 n,.int .i64 8].toArray w fun e w'=>e= .returned (.int .i64 (((n.toNat+7)/8:Nat):Int))∧Only [] w w':=by
 have H:=Heap.nil w
 by_cases h0:n≤0
 ·refine BM 16 func100 O (Aw (jk ?_))
  refine AL (YH O O Y) (BL O (Cc 7 O O (Cc 7 O O (ED O O (fV ?_)))))
  exact⟨by rw[show((n.toNat+7)/8:Nat)=0 from by omega];rfl,H.only⟩
 ·refine BM 16 func100 O (Aw (jk ?_))
  refine AL (aa3 O O Y) (BL O (AX 7 O (Fz O) (AX 7 O (aa3 O O Y) (fE ?_))))
  refine Aw (Az O (nK ?_))
  refine Az O (AL (Rf O O Y (wI Y)) (dI ?_))
  refine fH ?_
  exact⟨FB Y,H.only⟩
theorem ax4(g:Geo)(d:Nv.D)(m:Nat)(w:World)(hE:DW (Dz g d) w)(ho:Nv.Ok d m)(hm:m≤100000):
 Calls prog 47 [ptr g.p].toArray w fun e w'=>∃b c',e= .returned (.slice (some ⟨b,0,none⟩) (8*m) c')∧(8*m≤c'∧c'≤9223372036854775807)∧Heap w [] [vec (Value.int .u64) b d.last 26] w':=by
 have HR:=Heap.start hE
 have H:=Heap.nil w
 have hl:=ho.hl
 generalize hF:ids (Dz g d)=F at HR
 unfold Dz Gt at HR
 rw[hl]at HR
 refine BM 8 func47 O (Aw (En O (uX ?_)))
 refine BR O adO (BD (HR.same H.only) 0 O O O JE (s_call O (Nh _ _ _ d.last _ (fun _=>⟨_,_,rfl,J,HR.Md 1 O⟩) Y Y) (U0 O) ?_))
 rintro e W1 ⟨b,c',rfl,hc,H'⟩
 refine⟨_,rfl,?_⟩
 have H:=H.more H';clear H'
 refine oZ ?_
 exact⟨b,c',rfl,hc,H⟩
theorem nNew(n:Int)(w:World)(h: -9223372036854775808≤n∧n≤500000):
 Calls prog 32 [.int .i64 n].toArray w fun e w'=>∃g,e= .returned (ptr g.p)∧Wi g ((n.toNat+7)/8)∧Heap w [] (Dz g (Nv.load (List.replicate (8*((n.toNat+7)/8)) 0) ((n.toNat+7)/8))) w':=by
 have H:=Heap.nil w
 have hq:(n.toNat+7)/8≤100000:=Y
 have hU:=nUp n w Y
 generalize(n.toNat+7)/8=m at hq hU⊢
 refine BM 10 func32 O (Aw (EX O (Au (Aw (Az O (BI H O (hU) (amm O) fun W1 H=>oG ?_))))))
 refine AL (Yf O O (wI Y)) (bG ?_)
 intro b _ H';clear H;have H:=H';clear H'
 refine s_call O (ap0 b (8*m) m _ _ H.ents J hq Y) (avX O) ?_
 rintro e W1 ⟨g,rfl,hg,H'⟩
 refine⟨_,rfl,?_⟩
 have H:=H.whole H';clear H'
 refine uq ?_
 exact⟨g,rfl,hg,H⟩
theorem avp(A:Option Addr)(n c:Nat)(zs:List Int)(w:World)(hz:Gm (Value.int .u64) w [] A zs)(hl:zs.length=n)(hn:n≤500000):
 Calls prog 46 [.slice A n c].toArray w fun e w'=>∃g,e= .returned (ptr g.p)∧Wi g ((n+7)/8)∧Heap w [] (Dz g (Nv.load (zs++List.replicate (8*((n+7)/8)-n) 0) ((n+7)/8))) w':=by
 have H:=Heap.nil w
 have hq:(n+7)/8≤100000∧n≤8*((n+7)/8):=Y
 have hU:=nUp n w Y
 rw[Bz]at hU
 generalize(n+7)/8=m at hq hU⊢
 refine BM 14 func46 O (Aw (EX O (Au (Aw (dV ?_)))))
 refine BI H O (hU) (amm O) fun W1 H=>AL (Yf O O (wI Y)) (bG ?_)
 intro b _ H';clear H;have H:=H';clear H'
 refine En O (Au (Aw (CY O (CY O ?_))))
 refine atL (enc:=(Value.int .u64)) H 0 O O O O (hz) (hl) (fun _=>rfl) (by first|omega|(simp;omega)) underlying55 Ig ?_
 clear H;refine ayJ fun _ H=>?_
 refine Au (Aw (CY O (s_call O (ap0 b (8*m) m _ _ H.ents Af hq.1 Y) (avX O) ?_)))
 rintro e W1 ⟨g,rfl,hg,H'⟩
 refine⟨_,rfl,?_⟩
 have H:=H.whole H';clear H'
 refine uq ?_
 refine⟨g,rfl,hg,?_⟩
 rw[List.drop_replicate]at H
 exact H
end
end
end Go.Proofs.YtppilhpcmkekbaaGreat
