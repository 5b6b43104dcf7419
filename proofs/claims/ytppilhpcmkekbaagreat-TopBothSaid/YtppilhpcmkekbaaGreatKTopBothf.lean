/- Parts of the proof. -/
import Derived.Test.YtppilhpcmkekbaaGreatKTopBothe
set_option linter.unusedSimpArgs false
set_option linter.unusedVariables false
set_option linter.unusedSectionVars false
set_option maxRecDepth 100000
set_option maxHeartbeats 16000000
namespace Go.Proofs.YtppilhpcmkekbaaGreat
open Go.Proofs.Tryz
section
section
open Go.RowKit
theorem FM(W:World):(isAgg 3).run prog W= .ok false W:=by kernel_rfl
theorem Ji(W:World):(Go.sizeOf 3).run prog W= .ok 1 W:=by kernel_rfl
theorem Zi(W:World):(isAgg 4).run prog W= .ok false W:=by kernel_rfl
theorem sz4(W:World):(Go.sizeOf 4).run prog W= .ok 1 W:=by kernel_rfl
theorem ag5(W:World):(isAgg 5).run prog W= .ok false W:=by kernel_rfl
theorem sz5(W:World):(Go.sizeOf 5).run prog W= .ok 1 W:=by kernel_rfl
theorem KQ(W:World):(isAgg 22).run prog W= .ok false W:=by kernel_rfl
theorem OE(W:World):(Go.sizeOf 22).run prog W= .ok 1 W:=by kernel_rfl
theorem Gh(W:World):(isAgg 26).run prog W= .ok false W:=by kernel_rfl
theorem MB(W:World):(Go.sizeOf 26).run prog W= .ok 1 W:=by kernel_rfl
theorem KO(W:World):(isAgg 29).run prog W= .ok false W:=by kernel_rfl
theorem ar4(a:Addr)(W:World):(Instr.fieldAt 34 (.pointer (some a)) 0).run prog W= .ok (.pointer (some (a.add 0))) W:=by kernel_rfl
theorem arh(a:Addr)(W:World):(Instr.fieldAt 34 (.pointer (some a)) 1).run prog W= .ok (.pointer (some (a.add 1))) W:=by kernel_rfl
theorem arI(a:Addr)(W:World):(Instr.fieldAt 34 (.pointer (some a)) 2).run prog W= .ok (.pointer (some (a.add 2))) W:=by kernel_rfl
theorem J7(W:World):(isAgg 36).run prog W= .ok false W:=by kernel_rfl
theorem abR(W:World):(isAgg 51).run prog W= .ok false W:=by kernel_rfl
theorem aoI(W:World):(isAgg 52).run prog W= .ok false W:=by kernel_rfl
theorem O4(W:World):(isAgg 55).run prog W= .ok false W:=by kernel_rfl
theorem axE(W:World):(isAgg 58).run prog W= .ok true W:=by kernel_rfl
theorem aqy(W:World):(Go.sizeOf 58).run prog W= .ok 3 W:=by kernel_rfl
theorem ase(a:Addr)(W:World):(Instr.fieldAt 58 (.pointer (some a)) 0).run prog W= .ok (.pointer (some (a.add 0))) W:=by kernel_rfl
theorem NY(a:Addr)(W:World):(Instr.fieldAt 58 (.pointer (some a)) 1).run prog W= .ok (.pointer (some (a.add 1))) W:=by kernel_rfl
theorem alm(a:Addr)(W:World):(Instr.fieldAt 58 (.pointer (some a)) 2).run prog W= .ok (.pointer (some (a.add 2))) W:=by kernel_rfl
theorem OT(W:World):(isAgg 72).run prog W= .ok true W:=by kernel_rfl
theorem NW(W:World):(Go.sizeOf 72).run prog W= .ok 2 W:=by kernel_rfl
theorem abD(a:Addr)(W:World):(Instr.fieldAt 72 (.pointer (some a)) 0).run prog W= .ok (.pointer (some (a.add 0))) W:=by kernel_rfl
theorem aeM(a:Addr)(W:World):(Instr.fieldAt 72 (.pointer (some a)) 1).run prog W= .ok (.pointer (some (a.add 1))) W:=by kernel_rfl
theorem PZ(W:World):(isAgg 73).run prog W= .ok false W:=by kernel_rfl
theorem awd(W:World):(Go.sizeOf 73).run prog W= .ok 1 W:=by kernel_rfl
theorem Ic(W:World):(isAgg 79).run prog W= .ok true W:=by kernel_rfl
theorem He(W:World):(Go.sizeOf 79).run prog W= .ok 1 W:=by kernel_rfl
theorem QU(a:Addr)(W:World):(Instr.fieldAt 79 (.pointer (some a)) 0).run prog W= .ok (.pointer (some (a.add 0))) W:=by kernel_rfl
theorem Y9(W:World):(isAgg 102).run prog W= .ok false W:=by kernel_rfl
theorem Kz(W:World):(isAgg 103).run prog W= .ok true W:=by kernel_rfl
theorem Iw(W:World):(Go.sizeOf 103).run prog W= .ok 8 W:=by kernel_rfl
theorem avk(W:World):(isAgg 104).run prog W= .ok true W:=by kernel_rfl
theorem asP(W:World):(Go.sizeOf 104).run prog W= .ok 32 W:=by kernel_rfl
theorem aee(a:Addr)(W:World):(Instr.fieldAt 106 (.pointer (some a)) 0).run prog W= .ok (.pointer (some (a.add 0))) W:=by kernel_rfl
theorem abB(W:World):(isAgg 107).run prog W= .ok false W:=by kernel_rfl
theorem aiR(W:World):(isAgg 108).run prog W= .ok false W:=by kernel_rfl
theorem atJ(W:World):(Go.sizeOf 108).run prog W= .ok 1 W:=by kernel_rfl
theorem Ig(W:World):(isAgg 109).run prog W= .ok false W:=by kernel_rfl
theorem Rh(a:Addr)(W:World):(Instr.fieldAt 111 (.pointer (some a)) 0).run prog W= .ok (.pointer (some (a.add 0))) W:=by kernel_rfl
theorem ZV(a:Addr)(W:World):(Instr.fieldAt 111 (.pointer (some a)) 1).run prog W= .ok (.pointer (some (a.add 1))) W:=by kernel_rfl
theorem TK(a:Addr)(W:World):(Instr.fieldAt 111 (.pointer (some a)) 2).run prog W= .ok (.pointer (some (a.add 2))) W:=by kernel_rfl
theorem NQ(a:Addr)(W:World):(Instr.fieldAt 111 (.pointer (some a)) 3).run prog W= .ok (.pointer (some (a.add 3))) W:=by kernel_rfl
theorem XD(a:Addr)(W:World):(Instr.fieldAt 111 (.pointer (some a)) 4).run prog W= .ok (.pointer (some (a.add 35))) W:=by kernel_rfl
theorem Yn(a:Addr)(W:World):(Instr.fieldAt 111 (.pointer (some a)) 5).run prog W= .ok (.pointer (some (a.add 36))) W:=by kernel_rfl
theorem adD(a:Addr)(W:World):(Instr.fieldAt 111 (.pointer (some a)) 6).run prog W= .ok (.pointer (some (a.add 37))) W:=by kernel_rfl
theorem Qs(a:Addr)(W:World):(Instr.fieldAt 111 (.pointer (some a)) 7).run prog W= .ok (.pointer (some (a.add 38))) W:=by kernel_rfl
theorem adk(W:World):(isAgg 113).run prog W= .ok true W:=by kernel_rfl
theorem SY(W:World):(Go.sizeOf 113).run prog W= .ok 2 W:=by kernel_rfl
theorem Z7(a:Addr)(W:World):(Instr.fieldAt 113 (.pointer (some a)) 0).run prog W= .ok (.pointer (some (a.add 0))) W:=by kernel_rfl
theorem akV(W:World):(isAgg 115).run prog W= .ok true W:=by kernel_rfl
theorem aaW(W:World):(Go.sizeOf 115).run prog W= .ok 6 W:=by kernel_rfl
theorem aev(a:Addr)(W:World):(Instr.fieldAt 115 (.pointer (some a)) 1).run prog W= .ok (.pointer (some (a.add 2))) W:=by kernel_rfl
theorem aas(a:Addr)(W:World):(Instr.fieldAt 115 (.pointer (some a)) 2).run prog W= .ok (.pointer (some (a.add 3))) W:=by kernel_rfl
theorem anu(a:Addr)(W:World):(Instr.fieldAt 115 (.pointer (some a)) 3).run prog W= .ok (.pointer (some (a.add 4))) W:=by kernel_rfl
theorem aaf(a:Addr)(W:World):(Instr.fieldAt 115 (.pointer (some a)) 4).run prog W= .ok (.pointer (some (a.add 5))) W:=by kernel_rfl
theorem Nw(W:World):(isAgg 127).run prog W= .ok false W:=by kernel_rfl
theorem WB(W:World):(isAgg 128).run prog W= .ok false W:=by kernel_rfl
theorem IB(a:Addr)(W:World):(Instr.fieldAt 143 (.pointer (some a)) 0).run prog W= .ok (.pointer (some (a.add 0))) W:=by kernel_rfl
theorem Qh(a:Addr)(W:World):(Instr.fieldAt 143 (.pointer (some a)) 1).run prog W= .ok (.pointer (some (a.add 1))) W:=by kernel_rfl
theorem RJ(W:World):(isAgg 155).run prog W= .ok false W:=by kernel_rfl
theorem aeB(a:Addr)(W:World):(Instr.fieldAt 157 (.pointer (some a)) 0).run prog W= .ok (.pointer (some (a.add 0))) W:=by kernel_rfl
theorem Ox(a:Addr)(W:World):(Instr.fieldAt 157 (.pointer (some a)) 1).run prog W= .ok (.pointer (some (a.add 1))) W:=by kernel_rfl
theorem aeh(a:Addr)(W:World):(Instr.fieldAt 157 (.pointer (some a)) 2).run prog W= .ok (.pointer (some (a.add 2))) W:=by kernel_rfl
theorem Qp(a:Addr)(W:World):(Instr.fieldAt 157 (.pointer (some a)) 3).run prog W= .ok (.pointer (some (a.add 3))) W:=by kernel_rfl
theorem Yj(a:Addr)(W:World):(Instr.fieldAt 157 (.pointer (some a)) 4).run prog W= .ok (.pointer (some (a.add 4))) W:=by kernel_rfl
theorem ZX(a:Addr)(W:World):(Instr.fieldAt 157 (.pointer (some a)) 5).run prog W= .ok (.pointer (some (a.add 5))) W:=by kernel_rfl
theorem VB(a:Addr)(W:World):(Instr.fieldAt 157 (.pointer (some a)) 6).run prog W= .ok (.pointer (some (a.add 6))) W:=by kernel_rfl
theorem ad5(a:Addr)(W:World):(Instr.fieldAt 157 (.pointer (some a)) 7).run prog W= .ok (.pointer (some (a.add 7))) W:=by kernel_rfl
theorem Wh(a:Addr)(W:World):(Instr.fieldAt 157 (.pointer (some a)) 8).run prog W= .ok (.pointer (some (a.add 8))) W:=by kernel_rfl
theorem Ws(W:World):(isAgg 161).run prog W= .ok true W:=by kernel_rfl
theorem Jk(W:World):(Go.sizeOf 161).run prog W= .ok 4 W:=by kernel_rfl
theorem KZ(a:Addr)(W:World):(Instr.fieldAt 161 (.pointer (some a)) 0).run prog W= .ok (.pointer (some (a.add 0))) W:=by kernel_rfl
theorem LU(a:Addr)(W:World):(Instr.fieldAt 161 (.pointer (some a)) 1).run prog W= .ok (.pointer (some (a.add 1))) W:=by kernel_rfl
theorem Hy(a:Addr)(W:World):(Instr.fieldAt 161 (.pointer (some a)) 2).run prog W= .ok (.pointer (some (a.add 2))) W:=by kernel_rfl
theorem Ue(a:Addr)(W:World):(Instr.fieldAt 161 (.pointer (some a)) 3).run prog W= .ok (.pointer (some (a.add 3))) W:=by kernel_rfl
theorem Xt(W:World):(isAgg 185).run prog W= .ok false W:=by kernel_rfl
theorem aad(a:Addr)(W:World):(Instr.fieldAt 191 (.pointer (some a)) 0).run prog W= .ok (.pointer (some (a.add 0))) W:=by kernel_rfl
theorem TU(a:Addr)(W:World):(Instr.fieldAt 191 (.pointer (some a)) 1).run prog W= .ok (.pointer (some (a.add 1))) W:=by kernel_rfl
theorem O9(a:Addr)(W:World):(Instr.fieldAt 193 (.pointer (some a)) 0).run prog W= .ok (.pointer (some (a.add 0))) W:=by kernel_rfl
theorem XM(a:Addr)(W:World):(Instr.fieldAt 193 (.pointer (some a)) 1).run prog W= .ok (.pointer (some (a.add 1))) W:=by kernel_rfl
theorem TN(a:Addr)(W:World):(Instr.fieldAt 193 (.pointer (some a)) 2).run prog W= .ok (.pointer (some (a.add 2))) W:=by kernel_rfl
theorem aaw(W:World):(isAgg 194).run prog W= .ok false W:=by kernel_rfl
theorem aip(W:World):(isAgg 196).run prog W= .ok false W:=by kernel_rfl
theorem XA(a:Addr)(W:World):(Instr.fieldAt 199 (.pointer (some a)) 1).run prog W= .ok (.pointer (some (a.add 1))) W:=by kernel_rfl
theorem aaj(a:Addr)(W:World):(Instr.fieldAt 199 (.pointer (some a)) 2).run prog W= .ok (.pointer (some (a.add 2))) W:=by kernel_rfl
theorem an'(a:Addr)(W:World):(Instr.fieldAt 199 (.pointer (some a)) 3).run prog W= .ok (.pointer (some (a.add 3))) W:=by kernel_rfl
theorem Po(a:Addr)(W:World):(Instr.fieldAt 199 (.pointer (some a)) 4).run prog W= .ok (.pointer (some (a.add 4))) W:=by kernel_rfl
theorem XQ(a:Addr)(W:World):(Instr.fieldAt 199 (.pointer (some a)) 5).run prog W= .ok (.pointer (some (a.add 5))) W:=by kernel_rfl
theorem X7(a:Addr)(W:World):(Instr.fieldAt 199 (.pointer (some a)) 6).run prog W= .ok (.pointer (some (a.add 6))) W:=by kernel_rfl
theorem Fa(W:World):(isAgg 205).run prog W= .ok true W:=by kernel_rfl
theorem DV(W:World):(Go.sizeOf 205).run prog W= .ok 2 W:=by kernel_rfl
theorem anS(a:Addr)(W:World):(Instr.fieldAt 205 (.pointer (some a)) 0).run prog W= .ok (.pointer (some (a.add 0))) W:=by kernel_rfl
theorem Ir(W:World):(isAgg 209).run prog W= .ok true W:=by kernel_rfl
theorem Eu(W:World):(Go.sizeOf 209).run prog W= .ok 3 W:=by kernel_rfl
theorem KX(a:Addr)(W:World):(Instr.fieldAt 209 (.pointer (some a)) 0).run prog W= .ok (.pointer (some (a.add 0))) W:=by kernel_rfl
theorem aic(a:Addr)(W:World):(Instr.fieldAt 209 (.pointer (some a)) 1).run prog W= .ok (.pointer (some (a.add 1))) W:=by kernel_rfl
theorem aec(a:Addr)(W:World):(Instr.fieldAt 209 (.pointer (some a)) 2).run prog W= .ok (.pointer (some (a.add 2))) W:=by kernel_rfl
theorem PD(W:World):(isAgg 214).run prog W= .ok true W:=by kernel_rfl
theorem GN(W:World):(Go.sizeOf 214).run prog W= .ok 9 W:=by kernel_rfl
theorem LX(a:Addr)(W:World):(Instr.fieldAt 214 (.pointer (some a)) 0).run prog W= .ok (.pointer (some (a.add 0))) W:=by kernel_rfl
theorem ahU(a:Addr)(W:World):(Instr.fieldAt 214 (.pointer (some a)) 1).run prog W= .ok (.pointer (some (a.add 1))) W:=by kernel_rfl
theorem Ti(W:World):(isAgg 217).run prog W= .ok true W:=by kernel_rfl
theorem QE(W:World):(Go.sizeOf 217).run prog W= .ok 16 W:=by kernel_rfl
theorem Na(a:Addr)(W:World):(Instr.fieldAt 220 (.pointer (some a)) 0).run prog W= .ok (.pointer (some (a.add 0))) W:=by kernel_rfl
theorem Nk(a:Addr)(W:World):(Instr.fieldAt 220 (.pointer (some a)) 1).run prog W= .ok (.pointer (some (a.add 1))) W:=by kernel_rfl
theorem Xo(a:Addr)(W:World):(Instr.fieldAt 220 (.pointer (some a)) 2).run prog W= .ok (.pointer (some (a.add 10))) W:=by kernel_rfl
theorem XO(a:Addr)(W:World):(Instr.fieldAt 220 (.pointer (some a)) 3).run prog W= .ok (.pointer (some (a.add 11))) W:=by kernel_rfl
theorem KY(a:Addr)(W:World):(Instr.fieldAt 228 (.pointer (some a)) 0).run prog W= .ok (.pointer (some (a.add 0))) W:=by kernel_rfl
theorem aeL(a:Addr)(W:World):(Instr.fieldAt 228 (.pointer (some a)) 1).run prog W= .ok (.pointer (some (a.add 1))) W:=by kernel_rfl
theorem abo(W:World):(isAgg 236).run prog W= .ok false W:=by kernel_rfl
theorem Qk(a:Addr)(W:World):(Instr.fieldAt 238 (.pointer (some a)) 0).run prog W= .ok (.pointer (some (a.add 0))) W:=by kernel_rfl
theorem aeR(a:Addr)(W:World):(Instr.fieldAt 238 (.pointer (some a)) 1).run prog W= .ok (.pointer (some (a.add 1))) W:=by kernel_rfl
theorem TL(a:Addr)(W:World):(Instr.fieldAt 238 (.pointer (some a)) 2).run prog W= .ok (.pointer (some (a.add 2))) W:=by kernel_rfl
theorem Pm(a:Addr)(W:World):(Instr.fieldAt 238 (.pointer (some a)) 3).run prog W= .ok (.pointer (some (a.add 3))) W:=by kernel_rfl
theorem VQ(a:Addr)(W:World):(Instr.fieldAt 238 (.pointer (some a)) 4).run prog W= .ok (.pointer (some (a.add 4))) W:=by kernel_rfl
theorem apg(W:World):(isAgg 245).run prog W= .ok true W:=by kernel_rfl
theorem anh(W:World):(Go.sizeOf 245).run prog W= .ok 8 W:=by kernel_rfl
theorem PO(W:World):(isAgg 254).run prog W= .ok false W:=by kernel_rfl
theorem apm(W:World):(isAgg 259).run prog W= .ok false W:=by kernel_rfl
theorem La(a:Addr)(W:World):(Instr.fieldAt 265 (.pointer (some a)) 0).run prog W= .ok (.pointer (some (a.add 0))) W:=by kernel_rfl
theorem aij(a:Addr)(W:World):(Instr.fieldAt 265 (.pointer (some a)) 1).run prog W= .ok (.pointer (some (a.add 1))) W:=by kernel_rfl
theorem ao2(a:Addr)(W:World):(Instr.fieldAt 265 (.pointer (some a)) 2).run prog W= .ok (.pointer (some (a.add 2))) W:=by kernel_rfl
theorem afe(W:World):(isAgg 271).run prog W= .ok false W:=by kernel_rfl
theorem XP(a:Addr)(W:World):(Instr.fieldAt 274 (.pointer (some a)) 0).run prog W= .ok (.pointer (some (a.add 0))) W:=by kernel_rfl
theorem O8(a:Addr)(W:World):(Instr.fieldAt 274 (.pointer (some a)) 1).run prog W= .ok (.pointer (some (a.add 1))) W:=by kernel_rfl
theorem Ry(a:Addr)(W:World):(Instr.fieldAt 274 (.pointer (some a)) 2).run prog W= .ok (.pointer (some (a.add 2))) W:=by kernel_rfl
theorem XI(a:Addr)(W:World):(Instr.fieldAt 274 (.pointer (some a)) 3).run prog W= .ok (.pointer (some (a.add 3))) W:=by kernel_rfl
theorem Xq(a:Addr)(W:World):(Instr.fieldAt 274 (.pointer (some a)) 4).run prog W= .ok (.pointer (some (a.add 4))) W:=by kernel_rfl
theorem aam(a:Addr)(W:World):(Instr.fieldAt 274 (.pointer (some a)) 5).run prog W= .ok (.pointer (some (a.add 5))) W:=by kernel_rfl
theorem Ul(a:Addr)(W:World):(Instr.fieldAt 276 (.pointer (some a)) 0).run prog W= .ok (.pointer (some (a.add 0))) W:=by kernel_rfl
theorem aik(a:Addr)(W:World):(Instr.fieldAt 276 (.pointer (some a)) 1).run prog W= .ok (.pointer (some (a.add 1))) W:=by kernel_rfl
theorem TM(a:Addr)(W:World):(Instr.fieldAt 276 (.pointer (some a)) 2).run prog W= .ok (.pointer (some (a.add 2))) W:=by kernel_rfl
theorem adV(a:Addr)(W:World):(Instr.fieldAt 276 (.pointer (some a)) 3).run prog W= .ok (.pointer (some (a.add 3))) W:=by kernel_rfl
theorem aqo(W:World):(Go.sizeOf 287).run prog W= .ok 2 W:=by kernel_rfl
theorem aiM(a:Addr)(W:World):(Instr.fieldAt 306 (.pointer (some a)) 0).run prog W= .ok (.pointer (some (a.add 0))) W:=by kernel_rfl
theorem air(a:Addr)(W:World):(Instr.fieldAt 306 (.pointer (some a)) 1).run prog W= .ok (.pointer (some (a.add 1))) W:=by kernel_rfl
theorem Rf(a:Addr)(W:World):(Instr.fieldAt 306 (.pointer (some a)) 2).run prog W= .ok (.pointer (some (a.add 2))) W:=by kernel_rfl
theorem avR(W:World):(isAgg 309).run prog W= .ok true W:=by kernel_rfl
theorem Yk(W:World):(Go.sizeOf 309).run prog W= .ok 2 W:=by kernel_rfl
theorem ad3(a:Addr)(W:World):(Instr.fieldAt 309 (.pointer (some a)) 0).run prog W= .ok (.pointer (some (a.add 0))) W:=by kernel_rfl
theorem Xv(a:Addr)(W:World):(Instr.fieldAt 309 (.pointer (some a)) 1).run prog W= .ok (.pointer (some (a.add 1))) W:=by kernel_rfl
theorem Ky(W:World):(isAgg 311).run prog W= .ok false W:=by kernel_rfl
theorem L8(a:Addr)(W:World):(Instr.fieldAt 314 (.pointer (some a)) 0).run prog W= .ok (.pointer (some (a.add 0))) W:=by kernel_rfl
theorem KD(a:Addr)(W:World):(Instr.fieldAt 314 (.pointer (some a)) 1).run prog W= .ok (.pointer (some (a.add 32))) W:=by kernel_rfl
theorem LP(a:Addr)(W:World):(Instr.fieldAt 317 (.pointer (some a)) 0).run prog W= .ok (.pointer (some (a.add 0))) W:=by kernel_rfl
theorem ah5(a:Addr)(W:World):(Instr.fieldAt 317 (.pointer (some a)) 1).run prog W= .ok (.pointer (some (a.add 1))) W:=by kernel_rfl
theorem aef(a:Addr)(W:World):(Instr.fieldAt 317 (.pointer (some a)) 2).run prog W= .ok (.pointer (some (a.add 2))) W:=by kernel_rfl
theorem MC(W:World):(isAgg 324).run prog W= .ok true W:=by kernel_rfl
theorem KL(W:World):(Go.sizeOf 324).run prog W= .ok 2 W:=by kernel_rfl
theorem aif(W:World):(isAgg 327).run prog W= .ok false W:=by kernel_rfl
theorem aky(W:World):(isAgg 328).run prog W= .ok false W:=by kernel_rfl
theorem ahW(a:Addr)(W:World):(Instr.fieldAt 330 (.pointer (some a)) 0).run prog W= .ok (.pointer (some (a.add 0))) W:=by kernel_rfl
theorem aoX(a:Addr)(W:World):(Instr.fieldAt 330 (.pointer (some a)) 1).run prog W= .ok (.pointer (some (a.add 1))) W:=by kernel_rfl
theorem aoG(a:Addr)(W:World):(Instr.fieldAt 330 (.pointer (some a)) 2).run prog W= .ok (.pointer (some (a.add 2))) W:=by kernel_rfl
theorem aak(a:Addr)(W:World):(Instr.fieldAt 330 (.pointer (some a)) 3).run prog W= .ok (.pointer (some (a.add 3))) W:=by kernel_rfl
theorem Qr(a:Addr)(W:World):(Instr.fieldAt 330 (.pointer (some a)) 4).run prog W= .ok (.pointer (some (a.add 4))) W:=by kernel_rfl
theorem adB(a:Addr)(W:World):(Instr.fieldAt 330 (.pointer (some a)) 5).run prog W= .ok (.pointer (some (a.add 5))) W:=by kernel_rfl
theorem atf(W:World):(isAgg 333).run prog W= .ok true W:=by kernel_rfl
theorem atO(W:World):(Go.sizeOf 333).run prog W= .ok 2 W:=by kernel_rfl
theorem KE(a:Addr)(W:World):(Instr.fieldAt 336 (.pointer (some a)) 0).run prog W= .ok (.pointer (some (a.add 0))) W:=by kernel_rfl
theorem ZY(a:Addr)(W:World):(Instr.fieldAt 336 (.pointer (some a)) 1).run prog W= .ok (.pointer (some (a.add 1))) W:=by kernel_rfl
theorem aie(a:Addr)(W:World):(Instr.fieldAt 336 (.pointer (some a)) 2).run prog W= .ok (.pointer (some (a.add 2))) W:=by kernel_rfl
theorem JH:Inf prog 3 (.int .i64 0) 1 8:=KU Aw
theorem Nb:Inf prog 4 (.bool false) 1 1:=KU Aw
theorem S9:Inf prog 22 (.slice none 0 0) 1 24:=KU Aw
theorem GH:Inf prog 26 (.int .u64 0) 1 8:=KU Aw
theorem ata:Inf prog 58 (.agg [.int .i64 0,.int .u64 0,.int .u64 0].toArray) 3 24:=KU Aw
theorem aiG:Inf prog 72 (.agg [.int .i64 0,.int .i64 0].toArray) 2 16:=KU Aw
theorem afn:Inf prog 79 (.agg [.int .i64 0].toArray) 1 8:=KU Aw
theorem U0:Inf prog 103 (.agg [.int .i64 0,.int .i64 0,.int .i64 0,.int .i64 0,.int .i64 0,.int .i64 0,.int .i64 0,.int .i64 0].toArray) 8 64:=KU Aw
theorem Xd:Inf prog 113 (.agg [.int .i64 0,.int .u64 0].toArray) 2 16:=KU Aw
theorem aeS:Inf prog 115 (.agg [.int .i64 0,.int .u64 0,.int .i64 0,.pointer none,.pointer none,.slice none 0 0].toArray) 6 64:=KU Aw
theorem JG:Inf prog 161 (.agg [.int .i64 0,.int .i64 0,.int .u64 0,.int .u64 0].toArray) 4 32:=KU Aw
theorem G8:Inf prog 205 (.agg [.int .i64 0,.int .i64 0].toArray) 2 16:=KU Aw
theorem Jf:Inf prog 209 (.agg [.int .i64 0,.int .i64 0,.int .i64 0].toArray) 3 24:=KU Aw
theorem IQ:Inf prog 214 (.agg [.int .u64 0,.int .i64 0,.int .i64 0,.int .i64 0,.int .i64 0,.int .i64 0,.int .i64 0,.int .i64 0,.int .i64 0].toArray) 9 72:=KU Aw
theorem agI:Inf prog 217 (.agg [.int .u64 0,.int .u64 0,.int .u64 0,.int .u64 0,.int .u64 0,.int .u64 0,.int .u64 0,.int .u64 0,.int .u64 0,.int .u64 0,.int .u64 0,.int .u64 0,.int .u64 0,.int .u64 0,.int .u64 0,.int .u64 0].toArray) 16 128:=KU Aw
theorem amc:Inf prog 245 (.agg [.int .u64 0,.int .u64 0,.int .u64 0,.int .u64 0,.int .u64 0,.int .u64 0,.int .u64 0,.int .u64 0].toArray) 8 64:=KU Aw
theorem amj:Inf prog 287 (.agg [.int .i64 0,.int .i64 0].toArray) 2 16:=KU Aw
theorem aat:Inf prog 309 (.agg [.int .i64 0,.int .i64 0].toArray) 2 16:=KU Aw
theorem adz:Inf prog 324 (.agg [.int .i64 0,.int .i64 0].toArray) 2 16:=KU Aw
theorem aaz(z0:Int)(z1:Int)(z2:Int)(W:World):(Instr.build 34 ([(0,.int .i64 z0),(1,.int .u64 z1),(2,.int .i64 z2)]:List (Nat×Value)).toArray).run prog W= .ok (.agg ([(.int .i64 z0),(.int .u64 z1),(.int .i64 z2)]:List Value).toArray) W:=by kernel_rfl
theorem av'(W:World):(Instr.build 72 ([]:List (Nat×Value)).toArray).run prog W= .ok (.agg ([(.int .i64 0),(.int .i64 0)]:List Value).toArray) W:=by kernel_rfl
theorem alG(z0:Int)(W:World):(Instr.build 72 ([(0,.int .i64 z0)]:List (Nat×Value)).toArray).run prog W= .ok (.agg ([(.int .i64 z0),(.int .i64 0)]:List Value).toArray) W:=by kernel_rfl
theorem afp(z0:Int)(z1:Int)(W:World):(Instr.build 72 ([(0,.int .i64 z0),(1,.int .i64 z1)]:List (Nat×Value)).toArray).run prog W= .ok (.agg ([(.int .i64 z0),(.int .i64 z1)]:List Value).toArray) W:=by kernel_rfl
theorem YT(z0:Int)(W:World):(Instr.build 79 ([(0,.int .i64 z0)]:List (Nat×Value)).toArray).run prog W= .ok (.agg ([(.int .i64 z0)]:List Value).toArray) W:=by kernel_rfl
theorem Zv(z0:Option Addr)(z1:Option Addr)(z2:Option Addr)(z4:Option Addr)(z6:Option Addr)(W:World):(Instr.build 111 ([(0,.pointer z0),(1,.pointer z1),(2,.pointer z2),(4,.pointer z4),(6,.pointer z6)]:List (Nat×Value)).toArray).run prog W= .ok (.agg ([(.pointer z0),(.pointer z1),(.pointer z2),(.int .i64 0),(.int .i64 0),(.int .i64 0),(.int .i64 0),(.int .i64 0),(.int .i64 0),(.int .i64 0),(.int .i64 0),(.int .i64 0),(.int .i64 0),(.int .i64 0),(.int .i64 0),(.int .i64 0),(.int .i64 0),(.int .i64 0),(.int .i64 0),(.int .i64 0),(.int .i64 0),(.int .i64 0),(.int .i64 0),(.int .i64 0),(.int .i64 0),(.int .i64 0),(.int .i64 0),(.int .i64 0),(.int .i64 0),(.int .i64 0),(.int .i64 0),(.int .i64 0),(.int .i64 0),(.int .i64 0),(.int .i64 0),(.pointer z4),(.pointer none),(.pointer z6),(.bool false)]:List Value).toArray) W:=by kernel_rfl
theorem apv(W:World):(Instr.build 113 ([]:List (Nat×Value)).toArray).run prog W= .ok (.agg ([(.int .i64 0),(.int .u64 0)]:List Value).toArray) W:=by kernel_rfl
theorem aj'(z0:Int)(z1:Int)(W:World):(Instr.build 113 ([(0,.int .i64 z0),(1,.int .u64 z1)]:List (Nat×Value)).toArray).run prog W= .ok (.agg ([(.int .i64 z0),(.int .u64 z1)]:List Value).toArray) W:=by kernel_rfl
theorem abW(avD atT:Value)(XL:Value)(z3:Option Addr)(z4:Option Addr)(l4 c4:Nat)(W:World):(Instr.build 115 ([(0,.agg [avD,atT].toArray),(1,.agg [XL].toArray),(3,.pointer z3),(4,.slice z4 l4 c4)]:List (Nat×Value)).toArray).run prog W= .ok (.agg ([avD,atT,XL,(.pointer none),(.pointer z3),(.slice z4 l4 c4)]:List Value).toArray) W:=by kernel_rfl
theorem ajI(z0:Option Addr)(z1:Int)(W:World):(Instr.build 143 ([(0,.pointer z0),(1,.int .i64 z1)]:List (Nat×Value)).toArray).run prog W= .ok (.agg ([(.pointer z0),(.int .i64 z1)]:List Value).toArray) W:=by kernel_rfl
theorem D6(z0:Option Addr)(l0 c0:Nat)(z1:Option Addr)(l1 c1:Nat)(z2:Option Addr)(l2 c2:Nat)(z3:Option Addr)(l3 c3:Nat)(z4:Option Addr)(l4 c4:Nat)(W:World):(Instr.build 157 ([(0,.slice z0 l0 c0),(1,.slice z1 l1 c1),(2,.slice z2 l2 c2),(3,.slice z3 l3 c3),(4,.slice z4 l4 c4)]:List (Nat×Value)).toArray).run prog W= .ok (.agg ([(.slice z0 l0 c0),(.slice z1 l1 c1),(.slice z2 l2 c2),(.slice z3 l3 c3),(.slice z4 l4 c4),(.int .i64 0),(.int .i64 0),(.bool false),(.bool false)]:List Value).toArray) W:=by kernel_rfl
theorem auL(W:World):(Instr.build 161 ([]:List (Nat×Value)).toArray).run prog W= .ok (.agg ([(.int .i64 0),(.int .i64 0),(.int .u64 0),(.int .u64 0)]:List Value).toArray) W:=by kernel_rfl
theorem ajO(z2:Int)(z3:Int)(W:World):(Instr.build 161 ([(2,.int .u64 z2),(3,.int .u64 z3)]:List (Nat×Value)).toArray).run prog W= .ok (.agg ([(.int .i64 0),(.int .i64 0),(.int .u64 z2),(.int .u64 z3)]:List Value).toArray) W:=by kernel_rfl
theorem ajH(z0:Option Addr)(z1:Option Addr)(W:World):(Instr.build 191 ([(0,.pointer z0),(1,.pointer z1)]:List (Nat×Value)).toArray).run prog W= .ok (.agg ([(.pointer z0),(.pointer z1)]:List Value).toArray) W:=by kernel_rfl
theorem ai4(z0:Option Addr)(l0 c0:Nat)(z1:Int)(W:World):(Instr.build 193 ([(0,.slice z0 l0 c0),(1,.int .i64 z1)]:List (Nat×Value)).toArray).run prog W= .ok (.agg ([(.slice z0 l0 c0),(.int .i64 z1),(.int .i64 0)]:List Value).toArray) W:=by kernel_rfl
theorem abb(W:World):(Instr.build 205 ([]:List (Nat×Value)).toArray).run prog W= .ok (.agg ([(.int .i64 0),(.int .i64 0)]:List Value).toArray) W:=by kernel_rfl
theorem ajT(z0:Int)(z1:Int)(W:World):(Instr.build 205 ([(0,.int .i64 z0),(1,.int .i64 z1)]:List (Nat×Value)).toArray).run prog W= .ok (.agg ([(.int .i64 z0),(.int .i64 z1)]:List Value).toArray) W:=by kernel_rfl
theorem ap0(W:World):(Instr.build 209 ([]:List (Nat×Value)).toArray).run prog W= .ok (.agg ([(.int .i64 0),(.int .i64 0),(.int .i64 0)]:List Value).toArray) W:=by kernel_rfl
theorem adh(z0:Int)(z1:Int)(W:World):(Instr.build 209 ([(0,.int .i64 z0),(1,.int .i64 z1)]:List (Nat×Value)).toArray).run prog W= .ok (.agg ([(.int .i64 z0),(.int .i64 z1),(.int .i64 0)]:List Value).toArray) W:=by kernel_rfl
theorem acW(z0:Int)(z2:Int)(W:World):(Instr.build 209 ([(0,.int .i64 z0),(2,.int .i64 z2)]:List (Nat×Value)).toArray).run prog W= .ok (.agg ([(.int .i64 z0),(.int .i64 0),(.int .i64 z2)]:List Value).toArray) W:=by kernel_rfl
theorem atP(W:World):(Instr.build 214 ([]:List (Nat×Value)).toArray).run prog W= .ok (.agg ([(.int .u64 0),(.int .i64 0),(.int .i64 0),(.int .i64 0),(.int .i64 0),(.int .i64 0),(.int .i64 0),(.int .i64 0),(.int .i64 0)]:List Value).toArray) W:=by kernel_rfl
theorem aoH(z0:Int)(W:World):(Instr.build 214 ([(0,.int .u64 z0)]:List (Nat×Value)).toArray).run prog W= .ok (.agg ([(.int .u64 z0),(.int .i64 0),(.int .i64 0),(.int .i64 0),(.int .i64 0),(.int .i64 0),(.int .i64 0),(.int .i64 0),(.int .i64 0)]:List Value).toArray) W:=by kernel_rfl
theorem J6(z0:Int)(XL amg akO amf alZ amF akF akr:Value)(W:World):(Instr.build 214 ([(0,.int .u64 z0),(1,.agg [XL,amg,akO,amf,alZ,amF,akF,akr].toArray)]:List (Nat×Value)).toArray).run prog W= .ok (.agg ([(.int .u64 z0),XL,amg,akO,amf,alZ,amF,akF,akr]:List Value).toArray) W:=by kernel_rfl
theorem ab4(z0:Option Addr)(XL amg akO amf alZ amF akF akr aui:Value)(z2:Int)(asL avU au8 atz aup auq atM au1:Value)(W:World):(Instr.build 220 ([(0,.pointer z0),(1,.agg [XL,amg,akO,amf,alZ,amF,akF,akr,aui].toArray),(2,.int .i64 z2),(3,.agg [asL,avU,au8,atz,aup,auq,atM,au1].toArray)]:List (Nat×Value)).toArray).run prog W= .ok (.agg ([(.pointer z0),XL,amg,akO,amf,alZ,amF,akF,akr,aui,(.int .i64 z2),asL,avU,au8,atz,aup,auq,atM,au1]:List Value).toArray) W:=by kernel_rfl
theorem aj9(z0:Option Addr)(z1:Int)(W:World):(Instr.build 228 ([(0,.pointer z0),(1,.int .i64 z1)]:List (Nat×Value)).toArray).run prog W= .ok (.agg ([(.pointer z0),(.int .i64 z1)]:List Value).toArray) W:=by kernel_rfl
theorem ZP(z0:Option Addr)(z1:Option Addr)(alu:Value)(z3:Option Addr)(z4:Option Addr)(W:World):(Instr.build 238 ([(0,.pointer z0),(1,.pointer z1),(2,.agg [alu].toArray),(3,.pointer z3),(4,.pointer z4)]:List (Nat×Value)).toArray).run prog W= .ok (.agg ([(.pointer z0),(.pointer z1),alu,(.pointer z3),(.pointer z4)]:List Value).toArray) W:=by kernel_rfl
theorem afW(z0:Option Addr)(z1:Option Addr)(alu:Value)(W:World):(Instr.build 265 ([(0,.pointer z0),(1,.pointer z1),(2,.agg [alu].toArray)]:List (Nat×Value)).toArray).run prog W= .ok (.agg ([(.pointer z0),(.pointer z1),alu]:List Value).toArray) W:=by kernel_rfl
theorem Zx(z0:Option Addr)(z1:Option Addr)(z2:Option Addr)(z3:Option Addr)(z5:Int)(W:World):(Instr.build 274 ([(0,.pointer z0),(1,.pointer z1),(2,.pointer z2),(3,.pointer z3),(5,.int .i64 z5)]:List (Nat×Value)).toArray).run prog W= .ok (.agg ([(.pointer z0),(.pointer z1),(.pointer z2),(.pointer z3),(.bool false),(.int .i64 z5)]:List Value).toArray) W:=by kernel_rfl
theorem afs(z0:Option Addr)(z1:Option Addr)(z2:Int)(W:World):(Instr.build 276 ([(0,.pointer z0),(1,.pointer z1),(2,.int .i64 z2)]:List (Nat×Value)).toArray).run prog W= .ok (.agg ([(.pointer z0),(.pointer z1),(.int .i64 z2),(.slice none 0 0)]:List Value).toArray) W:=by kernel_rfl
theorem acd(z0:Int)(z1:Int)(W:World):(Instr.build 287 ([(0,.int .i64 z0),(1,.int .i64 z1)]:List (Nat×Value)).toArray).run prog W= .ok (.agg ([(.int .i64 z0),(.int .i64 z1)]:List Value).toArray) W:=by kernel_rfl
theorem afY(z0:Option Addr)(XL:Value)(z2:Option Addr)(l2 c2:Nat)(W:World):(Instr.build 306 ([(0,.pointer z0),(1,.agg [XL].toArray),(2,.slice z2 l2 c2)]:List (Nat×Value)).toArray).run prog W= .ok (.agg ([(.pointer z0),XL,(.slice z2 l2 c2)]:List Value).toArray) W:=by kernel_rfl
theorem acQ(z0:Int)(z1:Int)(W:World):(Instr.build 309 ([(0,.int .i64 z0),(1,.int .i64 z1)]:List (Nat×Value)).toArray).run prog W= .ok (.agg ([(.int .i64 z0),(.int .i64 z1)]:List Value).toArray) W:=by kernel_rfl
theorem anm(z1:Option Nat)(W:World):(Instr.build 314 ([(1,.map z1)]:List (Nat×Value)).toArray).run prog W= .ok (.agg ([(.slice none 0 0),(.slice none 0 0),(.slice none 0 0),(.slice none 0 0),(.slice none 0 0),(.slice none 0 0),(.slice none 0 0),(.slice none 0 0),(.slice none 0 0),(.slice none 0 0),(.slice none 0 0),(.slice none 0 0),(.slice none 0 0),(.slice none 0 0),(.slice none 0 0),(.slice none 0 0),(.slice none 0 0),(.slice none 0 0),(.slice none 0 0),(.slice none 0 0),(.slice none 0 0),(.slice none 0 0),(.slice none 0 0),(.slice none 0 0),(.slice none 0 0),(.slice none 0 0),(.slice none 0 0),(.slice none 0 0),(.slice none 0 0),(.slice none 0 0),(.slice none 0 0),(.slice none 0 0),(.map z1)]:List Value).toArray) W:=by kernel_rfl
theorem an6(z1:Int)(W:World):(Instr.build 317 ([(1,.int .i64 z1)]:List (Nat×Value)).toArray).run prog W= .ok (.agg ([(.slice none 0 0),(.int .i64 z1),(.int .i64 0)]:List Value).toArray) W:=by kernel_rfl
theorem Nh(z0:Int)(z1:Int)(W:World):(Instr.build 324 ([(0,.int .i64 z0),(1,.int .i64 z1)]:List (Nat×Value)).toArray).run prog W= .ok (.agg ([(.int .i64 z0),(.int .i64 z1)]:List Value).toArray) W:=by kernel_rfl
theorem ZJ(z0:Option Addr)(XL:Value)(z2:Option Addr)(l2 c2:Nat)(z3:Option Nat)(z5:Option Nat)(W:World):(Instr.build 330 ([(0,.pointer z0),(1,.agg [XL].toArray),(2,.slice z2 l2 c2),(3,.map z3),(5,.map z5)]:List (Nat×Value)).toArray).run prog W= .ok (.agg ([(.pointer z0),XL,(.slice z2 l2 c2),(.map z3),(.slice none 0 0),(.map z5)]:List Value).toArray) W:=by kernel_rfl
theorem aoL(z0:Int)(W:World):(Instr.build 333 ([(0,.int .i64 z0)]:List (Nat×Value)).toArray).run prog W= .ok (.agg ([(.int .i64 z0),(.int .i64 0)]:List Value).toArray) W:=by kernel_rfl
theorem aj8(z0:Int)(z1:Int)(W:World):(Instr.build 333 ([(0,.int .i64 z0),(1,.int .i64 z1)]:List (Nat×Value)).toArray).run prog W= .ok (.agg ([(.int .i64 z0),(.int .i64 z1)]:List Value).toArray) W:=by kernel_rfl
theorem afb(z0:Option Nat)(z1:Option Nat)(z2:Int)(W:World):(Instr.build 336 ([(0,.map z0),(1,.map z1),(2,.int .i64 z2)]:List (Nat×Value)).toArray).run prog W= .ok (.agg ([(.map z0),(.map z1),(.int .i64 z2)]:List Value).toArray) W:=by kernel_rfl
theorem mixed:prog.follows .mixedOrders=true:=by kernel_rfl
theorem ca5:CJ prog 5:=CP func5
theorem ca7:CJ prog 7:=CP func7
theorem aqI:CJ prog 11:=CP func11
theorem au':CJ prog 12:=CP func12
theorem as6:CJ prog 17:=CP func17
theorem axp:CJ prog 18:=CP func18
theorem avo:CJ prog 19:=CP func19
theorem awT:CJ prog 20:=CP func20
theorem auJ:CJ prog 21:=CP func21
theorem awr:CJ prog 22:=CP func22
theorem awQ:CJ prog 23:=CP func23
theorem aob:CJ prog 24:=CP func24
theorem auI:CJ prog 25:=CP func25
theorem auu:CJ prog 26:=CP func26
theorem aqz:CJ prog 27:=CP func27
theorem amO:CJ prog 28:=CP func28
theorem awC:CJ prog 29:=CP func29
theorem asw:CJ prog 31:=CP func31
theorem axm:CJ prog 32:=CP func32
theorem am1:CJ prog 33:=CP func33
theorem axy:CJ prog 34:=CP func34
theorem ao1:CJ prog 38:=CP func38
theorem am':CJ prog 40:=CP func40
theorem aoT:CJ prog 42:=CP func42
theorem axb:CJ prog 50:=CP func50
theorem au6:CJ prog 51:=CP func51
theorem alJ:CJ prog 52:=CP func52
theorem Qq:CJ prog 53:=CP func53
theorem axk:CJ prog 54:=CP func54
theorem aq4:CJ prog 56:=CP func56
theorem ZO:CJ prog 57:=CP func57
theorem awI:CJ prog 62:=CP func62
theorem as3:CJ prog 63:=CP func63
theorem awy:CJ prog 66:=CP func66
theorem avZ:CJ prog 67:=CP func67
theorem arP:CJ prog 69:=CP func69
theorem akw:CJ prog 70:=CP func70
theorem abC:CJ prog 71:=CP func71
theorem as5:CJ prog 72:=CP func72
theorem aqZ:CJ prog 73:=CP func73
theorem atY:CJ prog 74:=CP func74
theorem auS:CJ prog 75:=CP func75
theorem aww:CJ prog 76:=CP func76
theorem aqC:CJ prog 78:=CP func78
theorem aoF:CJ prog 79:=CP func79
theorem avQ:CJ prog 80:=CP func80
theorem anY:CJ prog 81:=CP func81
theorem av7:CJ prog 82:=CP func82
theorem amU:CJ prog 83:=CP func83
theorem Vr:CJ prog 84:=CP func84
theorem awL:CJ prog 85:=CP func85
theorem ab2:CJ prog 86:=CP func86
theorem aqD:CJ prog 87:=CP func87
theorem RY:CJ prog 88:=CP func88
theorem awM:CJ prog 89:=CP func89
theorem awU:CJ prog 90:=CP func90
theorem ak':CJ prog 91:=CP func91
theorem avL:CJ prog 92:=CP func92
theorem awp:CJ prog 93:=CP func93
theorem auz:CJ prog 94:=CP func94
theorem amP:CJ prog 95:=CP func95
theorem arR:CJ prog 96:=CP func96
theorem asr:CJ prog 97:=CP func97
theorem aov:CJ prog 98:=CP func98
theorem apf:CJ prog 100:=CP func100
theorem ati:CJ prog 101:=CP func101
theorem atl:CJ prog 102:=CP func102
theorem ato:CJ prog 103:=CP func103
theorem apX:CJ prog 104:=CP func104
theorem aul:CJ prog 106:=CP func106
theorem agm:CJ prog 108:=CP func108
theorem asT:CJ prog 109:=CP func109
theorem aqk:CJ prog 110:=CP func110
theorem auK:CJ prog 111:=CP func111
theorem atF:CJ prog 113:=CP func113
theorem atX:CJ prog 114:=CP func114
theorem avK:CJ prog 115:=CP func115
theorem at6:CJ prog 116:=CP func116
theorem au5:CJ prog 117:=CP func117
theorem ah9:CJ prog 118:=CP func118
theorem atH:CJ prog 119:=CP func119
theorem avx:CJ prog 120:=CP func120
theorem akZ:CJ prog 121:=CP func121
theorem apw:CJ prog 122:=CP func122
theorem acZ:CJ prog 123:=CP func123
theorem Qb:CJ prog 124:=CP func124
theorem Tc:CJ prog 127:=CP func127
theorem X3:CJ prog 129:=CP func129
theorem WH:CJ prog 130:=CP func130
theorem atU:CJ prog 131:=CP func131
theorem avy:CJ prog 132:=CP func132
theorem SG:CJ prog 133:=CP func133
theorem MO:CJ prog 134:=CP func134
theorem aqb:CJ prog 135:=CP func135
theorem aiE:CJ prog 136:=CP func136
theorem ak4:CJ prog 137:=CP func137
theorem Vy:CJ prog 138:=CP func138
theorem acS:CJ prog 139:=CP func139
theorem aiN:CJ prog 140:=CP func140
theorem atZ:CJ prog 141:=CP func141
theorem ada:CJ prog 142:=CP func142
theorem apj:CJ prog 143:=CP func143
theorem apU:CJ prog 144:=CP func144
theorem auU:CJ prog 145:=CP func145
theorem auw:CJ prog 146:=CP func146
theorem Vh:CJ prog 147:=CP func147
theorem aln:CJ prog 148:=CP func148
theorem aay:CJ prog 149:=CP func149
theorem atC:CJ prog 150:=CP func150
theorem atg:CJ prog 151:=CP func151
theorem UD:CJ prog 152:=CP func152
theorem Zc:CJ prog 155:=CP func155
theorem am0:CJ prog 156:=CP func156
theorem avn:CJ prog 157:=CP func157
theorem ap':CJ prog 158:=CP func158
theorem auR:CJ prog 159:=CP func159
theorem asR:CJ prog 160:=CP func160
theorem JI:CJ prog 161:=CP func161
theorem Oo:CJ prog 162:=CP func162
theorem Uz:CJ prog 163:=CP func163
theorem aff:CJ prog 164:=CP func164
theorem avC:CJ prog 165:=CP func165
theorem apn:CJ prog 166:=CP func166
theorem aun:CJ prog 167:=CP func167
theorem alN:CJ prog 170:=CP func170
theorem asM:CJ prog 172:=CP func172
theorem apC:CJ prog 173:=CP func173
theorem au4:CJ prog 174:=CP func174
theorem Wq:CJ prog 175:=CP func175
theorem agb:CJ prog 176:=CP func176
theorem avI:CJ prog 177:=CP func177
theorem avG:CJ prog 178:=CP func178
theorem aqh:CJ prog 179:=CP func179
theorem apr:CJ prog 180:=CP func180
theorem apo:CJ prog 181:=CP func181
theorem auF:CJ prog 182:=CP func182
theorem auP:CJ prog 183:=CP func183
theorem apL:CJ prog 184:=CP func184
theorem acz:CJ prog 185:=CP func185
theorem acX:CJ prog 186:=CP func186
theorem ap1:CJ prog 187:=CP func187
theorem aue:CJ prog 188:=CP func188
theorem ap2:CJ prog 189:=CP func189
theorem al4:CJ prog 190:=CP func190
theorem avp:CJ prog 194:=CP func194
theorem Uy:CJ prog 197:=CP func197
theorem Wx:CJ prog 201:=CP func201
theorem afO:CJ prog 202:=CP func202
theorem apx:CJ prog 203:=CP func203
theorem UE:CJ prog 204:=CP func204
theorem alM:CJ prog 205:=CP func205
theorem aiS:CJ prog 206:=CP func206
theorem apq:CJ prog 207:=CP func207
theorem aqj:CJ prog 208:=CP func208
theorem atS:CJ prog 209:=CP func209
theorem aqf:CJ prog 210:=CP func210
theorem avz:CJ prog 211:=CP func211
theorem avw:CJ prog 212:=CP func212
theorem auD:CJ prog 213:=CP func213
theorem aiu:CJ prog 214:=CP func214
theorem als:CJ prog 217:=CP func217
theorem asU:CJ prog 218:=CP func218
theorem avN:CJ prog 220:=CP func220
theorem atm:CJ prog 221:=CP func221
theorem aa0:CJ prog 222:=CP func222
theorem apZ:CJ prog 223:=CP func223
theorem ap7:CJ prog 226:=CP func226
theorem aqt:CJ prog 227:=CP func227
theorem auT:CJ prog 228:=CP func228
theorem ak3:CJ prog 229:=CP func229
theorem avc:CJ prog 230:=CP func230
theorem aqi:CJ prog 231:=CP func231
theorem akH:CJ prog 235:=CP func235
theorem alD:CJ prog 236:=CP func236
theorem asV:CJ prog 237:=CP func237
theorem ap9:CJ prog 238:=CP func238
theorem au9:CJ prog 239:=CP func239
theorem auf:CJ prog 240:=CP func240
theorem avA:CJ prog 241:=CP func241
theorem aph:CJ prog 242:=CP func242
theorem atw:CJ prog 243:=CP func243
theorem apt:CJ prog 244:=CP func244
theorem apJ:CJ prog 251:=CP func251
theorem avu:CJ prog 252:=CP func252
theorem auQ:CJ prog 253:=CP func253
theorem as2:CJ prog 254:=CP func254
theorem apS:CJ prog 255:=CP func255
theorem ain:CJ prog 256:=CP func256
theorem ap8:CJ prog 257:=CP func257
theorem auC:CJ prog 258:=CP func258
theorem atW:CJ prog 259:=CP func259
theorem apI:CJ prog 260:=CP func260
theorem avr:CJ prog 261:=CP func261
theorem ah7:CJ prog 263:=CP func263
theorem aku:CJ prog 264:=CP func264
theorem UC:CJ prog 265:=CP func265
theorem Ze:CJ prog 269:=CP func269
theorem apM:CJ prog 270:=CP func270
theorem aqv:CJ prog 271:=CP func271
theorem aqs:CJ prog 272:=CP func272
theorem aki:CJ prog 273:=CP func273
theorem apD:CJ prog 274:=CP func274
theorem ava:CJ prog 275:=CP func275
theorem aia:CJ prog 276:=CP func276
theorem akU:CJ prog 277:=CP func277
theorem akK:CJ prog 278:=CP func278
theorem ap4:CJ prog 279:=CP func279
theorem apF:CJ prog 280:=CP func280
theorem at7:CJ prog 281:=CP func281
theorem agj:CJ prog 282:=CP func282
theorem apK:CJ prog 285:=CP func285
theorem acB:CJ prog 287:=CP func287
theorem apT:CJ prog 289:=CP func289
theorem avi:CJ prog 301:=CP func301
theorem atp:CJ prog 302:=CP func302
end
end
section
section
open Go.RowKit
end
end
section
section
open Go.RowKit
def kN:KC prog 3 Int:=kI prog 3 underlying3
abbrev IL:=List (Int×Int)
def RI(p bS bE:Nat)(S E:IL)(lim:Int):List FU:=
 [blk p [.map (some bS),.map (some bE),.int .i64 lim] 336,mp kN (Value.int .i64) bS S,mp kN (Value.int .i64) bE E]
theorem atu(lim:Int)(w:World)(h:0≤lim):Calls prog 241 [.int .i64 lim].toArray w fun e w'=>∃p bS bE,e= .returned (.pointer (some ⟨p,0,none⟩))∧Heap w [] (RI p bS bE [] [] lim) w':=by
 have H:=Heap.nil w
 refine BO 9 func241 O (AP (Fb O (AO (AP (aj2 kN (Value.int .i64) H O ?_)))))
 intro b1 _ H';clear H;have H:=H';clear H'
 refine aj2 kN (Value.int .i64) H O ?_
 intro b2 _ H';clear H;have H:=H';clear H'
 refine AQ O (Hu O O (Xr (c:=lim) O O zW) (AV (FI (afb _ _ _) O) (D9 H O O fun p8 _ H=>sQ ?_)))
 exact⟨p8,b1,b2,rfl,H.order [0,2,1] rfl rfl⟩
section
variable{p bS bE:Nat}{S E:IL}{lim:Int}{w:World}
theorem alp(hE:Dj (RI p bS bE S E lim) w)(s n:Int)(hs:0≤s∧s≤100000∧0≤n∧n≤100000):
 Calls prog 277 [.pointer (some ⟨p,0,none⟩),.int .i64 s,.int .i64 n].toArray w fun e w'=>e= .returned (.tuple #[])∧Heap w (ids (RI p bS bE S E lim)) (RI p bS bE (JX S s n) (JX E (s+n) s) lim) w':=by
 have H:=Heap.start hE
 have gd1:kN.Gd s:=⟨Y,Y⟩
 have gd2:kN.Gd (s+n):=⟨Y,Y⟩
 obtain⟨v1,hv1⟩:∃v,((FZ S s).map (Value.int .i64)).getD (.int .i64 0)=v:=⟨_,rfl⟩
 obtain⟨v2,hv2⟩:∃v,((FZ E (s+n)).map (Value.int .i64)).getD (.int .i64 0)=v:=⟨_,rfl⟩
 unfold RI at H⊢
 generalize ids _=I at*
 refine BO 24 func277 O ?_
 refine G5 mixed ?_;replace H:=H.drew
 refine aN ?_
 refine EC 2 O O O (fun _ hS=>Cm O KE) trivial (iW ?_)
 refine EC 5 O O O (fun _ hS=>Cc (v:= .pointer _) O) trivial (EC 6 O O O (fun _ hS=>DT O) trivial (EC 7 O O O (fun _ hS=>Cm O ZY) trivial (EC 9 O O O (fun _ hS=>Cc (v:= .int _ _) O) trivial (EC 10 O O O (fun _ hS=>Cc (v:= .int _ _) O) trivial (EC 11 O O O (fun _ hS=>Dq O O (wI Y)) trivial (EC 12 O O O (fun _ hS=>Cc (v:= .int _ _) O) trivial (EC 13 O O O (fun _ hS=>Cc (v:= .int _ _) O) trivial ?_)))))))
 refine Et 3 8 ?_ ?_
 ·refine CB O (BG H 0 O O O Nw (rY ?_))
  refine BG H 0 O O O Nw (ak ?_)
  refine BD 14 O (aoN H 1 O O O O (gd1) (hv1) underlying127 (IY JH) ?_)
  clear H;intro awg _ H;simp only[Bv,Nat.reduceAdd]at H
  refine uD ?_
  clear H;refine axS fun _ H=>?_
  refine ak ?_
  refine BD 17 O (aoN H 2 O O O O (gd2) (hv2) underlying127 (IY JH) ?_)
  clear H;intro axv _ H;simp only[Bv,Nat.reduceAdd]at H
  refine uw ?_
  clear H;refine axS fun _ H=>?_
  refine ak ?_
  refine CU (fin0 O ?_)
  exact⟨rfl,H⟩
 ·refine CB O (BG H 0 O O O Nw (lY ?_))
  refine BG H 0 O O O Nw (ak ?_)
  refine BD 14 O (aoN H 1 O O O O (gd1) (hv1) underlying127 (IY JH) ?_)
  clear H;intro awg _ H;simp only[Bv,Nat.reduceAdd]at H
  refine uD ?_
  clear H;refine axS fun _ H=>?_
  refine ak ?_
  refine BD 17 O (aoN H 2 O O O O (gd2) (hv2) underlying127 (IY JH) ?_)
  clear H;intro axv _ H;simp only[Bv,Nat.reduceAdd]at H
  refine uw ?_
  clear H;refine axS fun _ H=>?_
  refine ak ?_
  refine CU (fin0 O ?_)
  exact⟨rfl,H⟩
theorem ad7(hE:Dj (RI p bS bE S E lim) w)(s k:Int)(hs:0≤s∧s≤100000)(hk:FZ S s=some k)(hk2:0≤k∧k≤100000):
 Calls prog 276 [.pointer (some ⟨p,0,none⟩),.int .i64 s].toArray w fun e w'=>e= .returned (.tuple #[])∧Heap w (ids (RI p bS bE S E lim)) (RI p bS bE (NH S s) (NH E (s+k)) lim) w':=by
 have H:=Heap.start hE
 have gd1:kN.Gd s:=⟨Y,Y⟩
 have gd2:kN.Gd (s+k):=⟨Y,Y⟩
 unfold RI at H⊢
 generalize ids _=I at*
 refine BO 21 func276 O (A8 (XT 12 mixed Aw H O O (ay ?_)))
 refine BZ (fun _ H=>Cm O ZY) (BZ (fun _ H=>DR H 0 O O O Nw) (bK ?_))
 refine ay ?_
 refine BZ (fun _ H=>Cm O KE) (BZ (fun _ H=>DR H 0 O O O Nw) (bK ?_))
 refine BZ (fun _ H=>Rx H 1 O O O (gd1) (hk) underlying127 (IY JH) O) (BZ (fun _ H=>Dq O O (wI Y)) (Iy ?_))
 clear H;intro _ H
 refine aoJ H 2 O O O O (gd2) underlying127 ?_
 clear H;refine axS fun _ H=>?_
 refine AO (jw ?_)
 refine BI O KE (BG H 0 O O O Nw (AQ O (aoJ H 1 O O O O (gd1) underlying127 ?_)))
 clear H;refine axS fun _ H=>?_
 refine AZ (fin0 O ?_)
 exact⟨rfl,H⟩
end
end
end
section
namespace Rn
abbrev IL:=List (Int×Int)
theorem get_mem:∀{l:IL} {a v:Int},FZ l a=some v→(a,v)∈l
 | [],a,v,h=>by cases h
 |x::l,a,v,h=>by
  rw[FZ]at h
  split at h
  ·rename_i e
   injection h with h
   subst h
   rw[←e]
   simp
  ·exact DZ _ (get_mem h)
theorem MX{l:IL}(hn:(l.map Prod.fst).Nodup){a v:Int}(h:(a,v)∈l):FZ l a=some v:=by
 obtain⟨i,hi,e⟩:=Gg.1 h
 have:=(WY l i (a,v) (by rw[Ba hi,e]) hn).1
 exact this
theorem I7:∀{l:IL} (hn:(l.map Prod.fst).Nodup) (a:Int) (p:Int×Int),p∈NH l a↔p∈l∧p.1≠a
 | [],_,a,p=>by simp[NH]
 |x::l,hn,a,p=>by
  simp only[DJ,HY]at hn
  unfold NH
  split
  ·rename_i e
   subst e
   constructor
   ·intro h
    refine⟨DZ _ h,fun e=>hn.1 ?_⟩
    rw[←e];exact NI (f:=Prod.fst) h
   ·rintro⟨h1,h2⟩
    rcases Dh.1 h1 with rfl|h1
    ·exact absurd rfl h2
    ·exact h1
  ·rename_i e
   rw[Dh,I7 hn.2 a p,Dh]
   constructor
   ·rintro(rfl|⟨h1,h2⟩)
    ·exact⟨.inl rfl,e⟩
    ·exact⟨.inr h1,h2⟩
   ·rintro⟨h1|h1,h2⟩
    ·exact .inl h1
    ·exact .inr ⟨h1,h2⟩
theorem aiA:∀(l:IL) (a:Int),((NH l a).map Prod.fst).Sublist (l.map Prod.fst)
 | [],_=>List.Sublist.refl _
 |x::l,a=>by
  unfold NH
  split
  ·exact List.sublist_cons_self _ _
  ·exact(aiA l a).cons_cons _
theorem amr{l:IL}(hn:(l.map Prod.fst).Nodup)(a:Int):((NH l a).map Prod.fst).Nodup:=List.Nodup.sublist (aiA l a) hn
theorem aiK{l:IL}{a:Int}(h:FZ l a=none)(v:Int):JX l a v=l++ [(a,v)]:=(Ur l a ((IE _ _).1 h)).2.1 v
structure Ok (S E:IL) (lim:Int) (fb:Int→Prop):Prop where
 ndS:(S.map Prod.fst).Nodup
 ndE:(E.map Prod.fst).Nodup
 bd:∀s k,(s,k)∈S→1≤s∧1≤k∧s+k≤lim
 en:∀e s,(e,s)∈E↔∃k,(s,k)∈S∧e=s+k
 cov:∀b,fb b↔∃s k,(s,k)∈S∧s≤b∧b<s+k
 sep:∀s k q l,(s,k)∈S→(q,l)∈S→s<q→s+k<q
theorem Ok.nil(lim:Int):Ok [] [] lim fun _=>False:=⟨J,J,J,J,J,J⟩
theorem Ok.congr{S E:IL}{lim:Int}{fb fb2:Int→Prop}(h:Ok S E lim fb)(e:∀b,fb b↔fb2 b):Ok S E lim fb2:=⟨h.ndS,h.ndE,h.bd,h.en,fun b=>(e b).symm.trans (h.cov b),h.sep⟩
theorem Ok.uniq{S E:IL}{lim:Int}{fb:Int→Prop}(h:Ok S E lim fb){s k q l b:Int}(h1:(s,k)∈S)(h2:(q,l)∈S)(hb1:s≤b∧b<s+k)(hb2:q≤b∧b<q+l):s=q∧k=l:=by
 have e:s=q:=by
  rcases LQ s q with hl|hl|hl
  ·have:=h.sep _ _ _ _ h1 h2 hl;omega
  ·exact hl
  ·have:=h.sep _ _ _ _ h2 h1 hl;omega
 subst e
 have:=(MX h.ndS h1).symm.trans (MX h.ndS h2)
 injection this with this
 exact⟨rfl,this⟩
theorem Ok.drop{S E:IL}{lim:Int}{fb:Int→Prop}(h:Ok S E lim fb){s k:Int}(hs:(s,k)∈S):Ok (NH S s) (NH E (s+k)) lim fun b=>fb b∧¬(s≤b∧b<s+k):=by
 have hk:=h.bd s k hs
 refine⟨amr h.ndS _,amr h.ndE _,fun a b hm=>h.bd a b ((I7 h.ndS _ _).1 hm).1,fun e a=>?_,fun b=>?_,fun a b c d h1 h2=>h.sep a b c d ((I7 h.ndS _ _).1 h1).1 ((I7 h.ndS _ _).1 h2).1⟩
 ·rw[I7 h.ndE,h.en]
  constructor
  ·rintro⟨⟨l,h1,rfl⟩,h2⟩
   refine⟨l,(I7 h.ndS _ _).2 ⟨h1,fun e=>?_⟩,rfl⟩
   simp only at e h2
   subst e
   have:=(MX h.ndS h1).symm.trans (MX h.ndS hs)
   injection this with this
   omega
  ·rintro⟨l,h1,rfl⟩
   obtain⟨h3,h4⟩:=(I7 h.ndS _ _).1 h1
   refine⟨⟨l,h3,rfl⟩,fun e=>h4 ?_⟩
   have hl:=h.bd a l h3
   exact(h.uniq h3 hs (b:=a+l-1) Y (by simp only at e;omega)).1
 ·rw[h.cov]
  constructor
  ·rintro⟨⟨a,l,h1,h2⟩,h3⟩
   refine⟨a,l,(I7 h.ndS _ _).2 ⟨h1,fun e=>h3 ?_⟩,h2⟩
   simp only at e
   subst e
   have:=(MX h.ndS h1).symm.trans (MX h.ndS hs)
   injection this with this
   omega
  ·rintro⟨a,l,h1,h2⟩
   obtain⟨h3,h4⟩:=(I7 h.ndS _ _).1 h1
   exact⟨⟨a,l,h3,h2⟩,fun hb=>h4 (h.uniq h3 hs h2 hb).1⟩
theorem Ok.add{S E:IL}{lim:Int}{fb:Int→Prop}(h:Ok S E lim fb){s n:Int}(hs:1≤s∧1≤n∧s+n≤lim)(hf:∀b,s≤b→b<s+n→¬fb b)(h1:FZ E s=none)(h2:FZ S (s+n)=none):
 Ok (JX S s n) (JX E (s+n) s) lim fun b=>fb b∨s≤b∧b<s+n:=by
 have n1:FZ S s=none:=(IE _ _).2 fun p hp e=>by
  obtain⟨a,k⟩:=p
  simp only at e
  subst e
  have:=h.bd a k hp
  exact hf a Y Y ((h.cov a).2 ⟨a,k,hp,Y⟩)
 have lo:∀a k,(a,k)∈S→a<s→a+k<s:=fun a k hp hl=>by
  have hb:=h.bd a k hp
  rcases LQ (a+k) s with h3|h3|h3
  ·exact h3
  ·exact absurd ((h.en s a).2 ⟨k,hp,h3.symm⟩) (fun hm=>(IE _ _).1 h1 _ hm rfl)
  ·exact absurd ((h.cov s).2 ⟨a,k,hp,Y⟩) (hf s Y Y)
 have hi:∀a k,(a,k)∈S→s<a→s+n<a:=fun a k hp hl=>by
  have hb:=h.bd a k hp
  rcases LQ (s+n) a with h3|h3|h3
  ·exact h3
  ·exact absurd h3.symm ((IE _ _).1 h2 (a,k) hp)
  ·exact absurd ((h.cov a).2 ⟨a,k,hp,Y⟩) (hf a Y Y)
 have ne:∀a k,(a,k)∈S→a≠s:=fun a k hp e=>(IE _ _).1 n1 _ hp e
 have n2:FZ E (s+n)=none:=(IE _ _).2 fun p hp e=>by
  obtain⟨e1,a⟩:=p
  simp only at e
  subst e
  obtain⟨k,h3,h4⟩:=(h.en _ _).1 hp
  have hb:=h.bd a k h3
  have:=ne a k h3
  by_cases hl:a<s
  ·have:=lo a k h3 hl;omega
  ·have:=hi a k h3 Y;omega
 rw[aiK n1,aiK n2]
 have mS:∀a k,(a,k)∈S++ [(s,n)]↔(a,k)∈S∨a=s∧k=n:=fun a k=>by simp
 refine⟨?_,?_,fun a k hp=>?_,fun e a=>?_,fun b=>?_,fun a k q l h3 h4 hl=>?_⟩
 ·rw[EY,C9]
  refine⟨h.ndS,J,fun x hx y hy e=>?_⟩
  obtain⟨⟨a,k⟩,hp,rfl⟩:=DN.1 hx
  simp at hy
  exact ne a k hp (by rw[←hy];exact e)
 ·rw[EY,C9]
  refine⟨h.ndE,J,fun x hx y hy e=>?_⟩
  obtain⟨p,hp,rfl⟩:=DN.1 hx
  simp at hy
  exact(IE _ _).1 n2 p hp (by rw[←hy];exact e)
 ·rcases(mS a k).1 hp with h3|⟨rfl,rfl⟩
  ·exact h.bd a k h3
  ·exact hs
 ·rw[Ci,h.en]
  constructor
  ·rintro(⟨k,h3,h4⟩|h3)
   ·exact⟨k,(mS a k).2 (.inl h3),h4⟩
   ·simp at h3
    exact⟨n,(mS a n).2 (.inr ⟨h3.2,rfl⟩),by rw[h3.1,h3.2]⟩
  ·rintro⟨k,h3,h4⟩
   rcases(mS a k).1 h3 with h5|⟨rfl,rfl⟩
   ·exact .inl ⟨k,h5,h4⟩
   ·exact .inr (by simp[h4])
 ·rw[h.cov]
  constructor
  ·rintro(⟨a,k,h3,h4⟩|h3)
   ·exact⟨a,k,(mS a k).2 (.inl h3),h4⟩
   ·exact⟨s,n,(mS s n).2 (.inr ⟨rfl,rfl⟩),h3⟩
  ·rintro⟨a,k,h3,h4⟩
   rcases(mS a k).1 h3 with h5|⟨rfl,rfl⟩
   ·exact .inl ⟨a,k,h5,h4⟩
   ·exact .inr h4
 ·rcases(mS a k).1 h3 with h5|⟨rfl,rfl⟩
  ·rcases(mS q l).1 h4 with h6|⟨rfl,rfl⟩
   ·exact h.sep a k q l h5 h6 hl
   ·exact lo a k h5 hl
  ·rcases(mS q l).1 h4 with h6|⟨rfl,rfl⟩
   ·exact hi q l h6 hl
   ·omega
end Rn
end
section
section
open Go.RowKit
abbrev Y8(p:Nat):Value:= .pointer (some ⟨p,0,none⟩)
section
variable{p bS bE:Nat}{S E:IL}{lim:Int}{fb:Int→Prop}{w:World}
theorem as9(hE:Dj (RI p bS bE S E lim) w)(hO:Rn.Ok S E lim fb)(hl:lim≤100000)(b:Int):
 Calls prog 275 [Y8 p,.int .i64 b].toArray w fun e w'=>(∃q,e= .returned (.bool q)∧(q=true↔fb b))∧Only [] w w':=by
 obtain⟨es,clock,M⟩:=hE.ag8 1 rfl
 have HR:=Heap.start hE
 have H:=Heap.nil w
 unfold RI at HR
 generalize ids _=I at*
 refine BO 27 func275 O (uV ?_)
 refine jW ?_
 refine BI O KE (BG (HR.same H.only) 0 O O O Nw (am3 M H O O underlying127 ?_))
 intro r _ H';clear H;have H:=H';clear H'
 refine AO (E8 ?_)
 refine EO (fun z f W=>∃(lb:List ((Int×Int)×Bool)) (cur:Option (Int×Int)) (out:IL),z=(mleft lb).length∧lb.map (·.1)=S∧(out++mleft lb).Perm S∧(∀x∈out,¬(x.1≤b∧b<x.1+x.2))∧f 1= .int .i64 b∧f 11=Y8 r∧Heap w [] [mri kN (Value.int .i64) es clock bS r lb cur] W) _ ⟨S.map fun p=>(p,true),none,[],rfl,by rw[Oq];exact TI S,by rw[YV];exact QB _,J,rfl,rfl,H⟩ ?_
 clear H
 rintro z f W ⟨lb,cur,out,rfl,hlb,hpm,hno,f1,f11,H⟩
 obtain⟨f,rfl⟩:=LZ f1 f11
 clear f1 f11
 by_cases hlm:mleft lb=[]
 ·rw[hlm,Dl]at hpm
  refine wR ?_
  refine AP (iP ?_)
  refine⟨⟨false,rfl,?_⟩,H.only⟩
  constructor
  ·intro h;cases h
  ·intro h
   obtain⟨s,k,hm,h1⟩:=(hO.cov b).1 h
   exact absurd h1 (hno (s,k) (hpm.mem_iff.2 hm))
 ·refine AP (ag2 M H 0 (hlm) O O O ?_)
  clear H;intro j q _ hq gq H;simp only[Bv,Nat.reduceAdd]at H
  refine jR ?_
  refine AO (A8 (EF O (Bj (AX (E8 (AP (AV (ak6 M H 0 O O) (bJ ?_))))))))
  refine AO (A8 ?_)
  have hfs:=adu hq
  have hml:=(OX lb j q hq).length_eq
  have hp:=OX lb j q hq
  have hqS:q∈S:=by rw[←hlb];exact NI (f:=fun x:(Int×Int)×Bool=>x.1) (BP hq)
  have hbd:=hO.bd q.1 q.2 hqS
  rw[Es]at hml
  have adF:((out++ [q])++mleft (lb.set j (q,false))).Perm S:=by
   rw[EK]
   exact(OI out hp.symm).trans hpm
  by_cases h1:q.1≤b
  ·by_cases h2:b<q.1+q.2
   ·refine sJ ?_
    refine Bo 20 O (Gm O) (Bo 20 O (Gm O) (Bo 20 O (Gm O) (Bo 20 O (Dq O O (wI Y)) (Bo 20 O (DI O O Y) (EZ O O (oV ?_))))))
    refine BH O (AO (BM (F8 (Dx (F8 (Dx (dG ?_)))))))
    exact⟨⟨true,rfl,by simp only[true_iff];exact(hO.cov b).2 ⟨q.1,q.2,hqS,h1,h2⟩⟩,H.only⟩
   ·refine sJ ?_
    refine Bo 20 O (Gm O) (Bo 20 O (Gm O) (Bo 20 O (Gm O) (Bo 20 O (Dq O O (wI Y)) (Bo 20 O (Di O O Y) (EZ O O (AO (DC O (Bj (CS (Dk ?_))))))))))
    refine⟨_,_,?_,rfl,lb.set j (q,false),some q,out++ [q],rfl,by rw[hfs];exact hlb,adF,fun x hx=>?_,rfl,rfl,H⟩
    ·omega
    ·rcases Ci.1 hx with hx|hx
     ·exact hno x hx
     ·rw[Bz.1 hx];omega
  ·refine DF (AQ O (AQ O (AV (Fz O O Y) (BX O (Df 20 O O (Df 20 O O (Df 20 O O (Df 20 O O (Df 20 O O (DW O O (AO (DC O (Bj ?_)))))))))))))
   refine CS (Dk ?_)
   refine⟨_,_,?_,rfl,lb.set j (q,false),some q,out++ [q],rfl,by rw[hfs];exact hlb,adF,fun x hx=>?_,rfl,rfl,H⟩
   ·omega
   ·rcases Ci.1 hx with hx|hx
    ·exact hno x hx
    ·rw[Bz.1 hx];omega
end
end
end
section
section
open Go.RowKit
theorem Rn.aoC{S E:IL}{lim:Int}{fb:Int→Prop}(h:Rn.Ok S E lim fb){s b:Int}(hg:FZ E s=some b):∃k,(b,k)∈S∧s=b+k:=(h.en s b).1 (Rn.get_mem hg)
section
variable{p bS bE:Nat}{S E:IL}{lim:Int}{fb:Int→Prop}{w:World}
theorem ame(hE:Dj (RI p bS bE S E lim) w)(hO:Rn.Ok S E lim fb)(hl:lim≤10000)(s n:Int)(hs:1≤s∧1≤n∧s+n≤lim)(hf:∀b,s≤b→b<s+n→¬fb b):
 Calls prog 242 [Y8 p,.int .i64 s,.int .i64 n].toArray w fun e w'=>e= .returned (.int .i64 0)∧∃S' E',Rn.Ok S' E' lim (fun b=>fb b∨s≤b∧b<s+n)∧Heap w (ids (RI p bS bE S E lim)) (RI p bS bE S' E' lim) w':=by
 have H:=Heap.start hE
 generalize ids (RI p bS bE S E lim)=I at*
 refine BO 95 func242 O (AP (bV ?_))
 refine Bo 15 O (Gm O) (Bo 15 O (Di O O Y) (DW O O (BX O (Bo 19 O (Gm O) (Bo 19 O (Ls O) (Bo 19 O (DT O) (Bo 19 O (Cm O aie) (Bo 19 O (DR H 0 O O O FM) (Bo 19 O (Fz O O Y) (DW O O (BX O (Bo 27 O (Gm O) (Bo 27 O (Ls O) ?_)))))))))))))
 refine Bo 27 O (DT O) (Bo 27 O (Cm O aie) (Bo 27 O (DR H 0 O O O FM) (Bo 27 O (Gm O) (Bo 27 O (Gu O O (wI Y)) (Bo 27 O (Jy O O Y) (gQ ?_))))))
 refine iQ ?_
 refine AY O (AO (E8 ?_))
 refine EO (fun z f W=>∃i:Nat,(i:Int)≤n∧z=n.toNat-i∧f 0=Y8 p∧f 1= .int .i64 s∧f 2= .int .i64 n∧f 7= .int .i64 (s+i)∧Heap w I (RI p bS bE S E lim) W) n.toNat ⟨0,Y,rfl,rfl,rfl,rfl,by rw[Int.natCast_zero,Int.add_zero];rfl,H⟩ ?_
 clear H
 rintro z f W ⟨i,hi,rfl,f0,f1,f2,f7,H⟩
 obtain⟨f,rfl⟩:=Jj f0 f1 f2 f7
 clear f0 f1 f2 f7
 by_cases hin:(i:Int)<n
 ·refine iQ ?_
  refine AQ O (mZ ?_)
  refine fC ?_
  refine eH ?_
  refine s_call O (as9 H.ents hO Y (s+i)) (ava O) ?_
  rintro e W1 ⟨⟨q,rfl,hq⟩,H'⟩
  refine⟨_,rfl,?_⟩
  have H:=H.same H';clear H';obtain rfl:q=false:=by(cases q with|false=>rfl|true=>exact absurd (hq.1 rfl) (hf _ Y Y))
  refine xJ ?_
  exact⟨_,_,Y,rfl,i+1,Y,rfl,rfl,rfl,rfl,by rw[show s+(i+1:Nat)=s+i+1 by omega];rfl,H⟩
 ·refine iQ ?_
  refine AQ O (mZ ?_)
  refine og ?_
  refine A8 (A8 ?_)
  refine Gl (fun f W=>∃(q:Bool) (v:Int),f 0=Y8 p∧f 1= .int .i64 s∧f 2= .int .i64 n∧f 8= .int .i64 v∧f 9= .bool q∧(FZ E s=if q=true then some v else none)∧Heap w I (RI p bS bE S E lim) W) ?_ ?_
  ·have gd:kN.Gd s:=⟨Y,Y⟩
   cases hg:FZ E s with
   |none=>
    refine jw ?_
    refine BI O ZY (BG H 0 O O O Nw (AQ O (AV (agr H 2 O O O (gd) (hg) underlying127 (IY JH)) (aF ?_))))
    refine AZ (Dp ?_)
    exact⟨false,0,rfl,rfl,rfl,rfl,rfl,rfl,H⟩
   |some v=>
    refine jw ?_
    refine BI O ZY (BG H 0 O O O Nw (AQ O (AV (afI H 2 O O O (gd) (hg) underlying127 (IY JH) O) (aF ?_))))
    refine AZ (Dp ?_)
    exact⟨true,v,rfl,rfl,rfl,rfl,rfl,rfl,H⟩
  clear H
  rintro f W ⟨q,v,f0,f1,f2,f8,f9,hq,H⟩
  obtain⟨f,rfl⟩:=OJ f0 f1 f2 f8 f9
  clear f0 f1 f2 f8 f9
  refine AX (AP (BX O (AO ?_)))
  refine Gl (fun f W=>∃(S1 E1:IL) (fb1:Int→Prop) (s1 n1:Int),f 0=Y8 p∧f 1= .int .i64 s1∧f 2= .int .i64 n1∧Rn.Ok S1 E1 lim fb1∧(∀b,fb1 b∨s1≤b∧b<s1+n1↔fb b∨s≤b∧b<s+n)∧(∀b,s1≤b→b<s1+n1→¬fb1 b)∧FZ E1 s1=none∧1≤s1∧1≤n1∧s1+n1≤lim∧Heap w I (RI p bS bE S1 E1 lim) W) ?_ ?_
  ·cases q with
   |false=>
    refine DC O (Bj (Dp ?_))
    exact⟨S,E,fb,s,n,rfl,rfl,rfl,hO,fun b=>Iff.rfl,hf,hq,hs.1,hs.2.1,hs.2.2,H⟩
   |true=>
    obtain⟨k,hkS,hk⟩:=Rn.aoC hO hq
    have hkb:=hO.bd v k hkS
    have hgk:=Rn.MX hO.ndS hkS
    have gd:kN.Gd v:=⟨Y,Y⟩
    refine EF O (dL ?_)
    refine BI O KE (BG H 0 O O O Nw (AQ O (AV (Rx H 1 O O O (gd) (hgk) underlying127 (IY JH) O) (AY O (AO (eH ?_))))))
    refine s_call O (ad7 H.ents v k Y hgk Y) (aia O) ?_
    rintro e W1 ⟨rfl,H'⟩
    refine⟨_,rfl,?_⟩
    have H:=H.step (A:=RI p bS bE S E lim) (L:=[]) H' (fun i hi=>hi);clear H';simp only[Dl]at H
    refine AO (DF (AQ O (AQ O (mZ ?_))))
    refine AY O (AY O (AZ (Dp ?_)))
    have hO1:=hO.drop hkS
    refine⟨_,_,_,v,n+k,rfl,rfl,rfl,hO1,fun b=>?_,fun b h1 h2 h3=>?_,?_,Y,Y,Y,H⟩
    ·constructor
     ·rintro(⟨h1,_⟩|h1)
      ·exact .inl h1
      ·by_cases h2:b<s
       ·exact .inl ((hO.cov b).2 ⟨v,k,hkS,Y⟩)
       ·exact .inr Y
     ·rintro(h1|h1)
      ·by_cases h2:v≤b∧b<v+k
       ·exact .inr Y
       ·exact .inl ⟨h1,h2⟩
      ·exact .inr Y
    ·by_cases h4:b<s
     ·exact h3.2 Y
     ·exact hf b Y Y h3.1
    ·refine(IE _ _).2 fun x hx e=>?_
     obtain⟨e1,a⟩:=x
     simp only at e
     rw[e]at hx
     obtain⟨l,h5,h6⟩:=(hO1.en _ _).1 hx
     have h7:=(Rn.I7 hO.ndS _ _).1 h5
     have h8:=hO.bd a l h7.1
     have:=hO.sep a l v k h7.1 hkS Y
     omega
  clear H hO hf hq hs
  rintro f W ⟨S1,E1,fb1,s1,n1,f0,f1,f2,hO,heq,hf,hg1,hs1,hn1,hsn,H⟩
  obtain⟨f,rfl⟩:=KI f0 f1 f2
  clear f0 f1 f2
  refine AX (A8 (A8 ?_))
  refine Gl (fun f W=>∃(q:Bool) (v:Int),f 0=Y8 p∧f 1= .int .i64 s1∧f 2= .int .i64 n1∧f 11= .int .i64 v∧f 12= .bool q∧(FZ S1 (s1+n1)=if q=true then some v else none)∧Heap w I (RI p bS bE S1 E1 lim) W) ?_ ?_
  ·have gd:kN.Gd (s1+n1):=⟨Y,Y⟩
   cases hg:FZ S1 (s1+n1)with
   |none=>
    refine jw ?_
    refine BI O KE (BG H 0 O O O Nw (AQ O (mZ ?_)))
    refine AV (agr H 1 O O O (gd) (hg) underlying127 (IY JH)) (aF ?_)
    refine AZ (Dp ?_)
    exact⟨false,0,rfl,rfl,rfl,rfl,rfl,rfl,H⟩
   |some v=>
    refine jw ?_
    refine BI O KE (BG H 0 O O O Nw (AQ O (mZ ?_)))
    refine AV (afI H 1 O O O (gd) (hg) underlying127 (IY JH) O) (aF ?_)
    refine AZ (Dp ?_)
    exact⟨true,v,rfl,rfl,rfl,rfl,rfl,rfl,H⟩
  clear H
  rintro f W ⟨q,v,f0,f1,f2,f11,f12,hq,H⟩
  obtain⟨f,rfl⟩:=OJ f0 f1 f2 f11 f12
  clear f0 f1 f2 f11 f12
  cases q with
  |false=>
   refine AX (AP (BX O (dK ?_)))
   refine eH ?_
   refine AQ O (s_call O (alp H.ents s1 n1 Y) (akU O) ?_)
   rintro e W1 ⟨rfl,H'⟩
   refine⟨_,rfl,?_⟩
   have H:=H.step (A:=RI p bS bE S1 E1 lim) (L:=[]) H' (fun i hi=>hi);clear H';simp only[Dl]at H
   refine AO (uP ?_)
   exact⟨rfl,_,_,(hO.add ⟨hs1,hn1,hsn⟩ hf hg1 hq).congr heq,H⟩
  |true=>
   have hvS:=Rn.get_mem hq
   have hvb:=hO.bd _ _ hvS
   have hO1:=hO.drop hvS
   refine AX (AP (BX O (AO (EF O (eH ?_)))))
   refine mZ ?_
   refine s_call O (ad7 H.ents (s1+n1) v Y hq Y) (aia O) ?_
   rintro e W1 ⟨rfl,H'⟩
   refine⟨_,rfl,?_⟩
   have H:=H.step (A:=RI p bS bE S1 E1 lim) (L:=[]) H' (fun i hi=>hi);clear H';simp only[Dl]at H
   refine AO (DF (AQ O (mZ ?_)))
   refine AY O (AO (eH ?_))
   refine AQ O (s_call O (alp H.ents s1 (n1+v) Y) (akU O) ?_)
   rintro e W1 ⟨rfl,H'⟩
   refine⟨_,rfl,?_⟩
   have H:=H.step (A:=RI p bS bE _ _ lim) (L:=[]) H' (fun i hi=>hi);clear H';simp only[Dl]at H
   refine AO (uP ?_)
   refine⟨rfl,_,_,(hO1.add ⟨hs1,Y,Y⟩ (fun b h1 h2 h3=>?_) ?_ ?_).congr fun b=>?_,H⟩
   ·by_cases h4:b<s1+n1
    ·exact hf b h1 h4 h3.1
    ·exact h3.2 Y
   ·refine(IE _ _).2 fun x hx e=>?_
    obtain⟨e1,a⟩:=x
    exact(IE _ _).1 hg1 _ ((Rn.I7 hO.ndE _ _).1 hx).1 e
   ·refine(IE _ _).2 fun x hx e=>?_
    obtain⟨a,l⟩:=x
    simp only at e
    have h7:=(Rn.I7 hO.ndS _ _).1 hx
    have h8:=hO.bd a l h7.1
    have:=hO.sep _ _ a l hvS h7.1 Y
    omega
   ·rw[←heq b]
    constructor
    ·rintro(⟨h1,_⟩|h1)
     ·exact .inl h1
     ·by_cases h2:b<s1+n1
      ·exact .inr Y
      ·exact .inl ((hO.cov b).2 ⟨_,_,hvS,Y⟩)
    ·rintro(h1|h1)
     ·by_cases h2:s1+n1≤b∧b<s1+n1+v
      ·exact .inr Y
      ·exact .inl ⟨h1,h2⟩
     ·exact .inr Y
end
end
end
section
section
open Go.RowKit
def Rn.Best(S:IL)(out:IL)(n b:Int):Prop:=(b= -1∧∀x∈out,x.2<n)∨∃k,(b,k)∈S∧n≤k
section
variable{p bS bE:Nat}{S E:IL}{lim:Int}{fb:Int→Prop}{w:World}
theorem aq7(hE:Dj (RI p bS bE S E lim) w)(hO:Rn.Ok S E lim fb)(hl:lim≤10000)(n:Int)(hn:1≤n∧n≤10000):
 Calls prog 261 [Y8 p,.int .i64 n].toArray w fun e w'=>
  ((∀s k,(s,k)∈S→k<n)∧e= .returned (.tuple #[.int .i64 0,.int .i64 4])∧Only [] w w')∨
  ∃s S' E',1≤s∧s+n≤lim∧(∀b,s≤b→b<s+n→fb b)∧Rn.Ok S' E' lim (fun b=>fb b∧¬(s≤b∧b<s+n))∧e= .returned (.tuple #[.int .i64 s,.int .i64 0])∧Heap w (ids (RI p bS bE S E lim)) (RI p bS bE S' E' lim) w':=by
 obtain⟨es,clock,M⟩:=hE.ag8 1 rfl
 have HR:=Heap.start hE
 have H:=Heap.nil w
 refine BO 78 func261 O (AP (kG ?_))
 refine iQ ?_
 refine AV (Di O O Y) (dK ?_)
 refine oM ?_
 refine jW ?_
 refine BI O KE (BG (HR.same H.only) 0 O O O Nw (am3 M H O O underlying127 ?_))
 intro r _ H';clear H;have H:=H';clear H'
 refine AO (E8 ?_)
 refine EO (fun z f W=>∃(lb:List ((Int×Int)×Bool)) (cur:Option (Int×Int)) (out:IL) (b:Int),z=(mleft lb).length∧lb.map (·.1)=S∧(out++mleft lb).Perm S∧Rn.Best S out n b∧f 0=Y8 p∧f 1= .int .i64 n∧f 6= .int .i64 b∧f 16=Y8 r∧Heap w [] [mri kN (Value.int .i64) es clock bS r lb cur] W) _ ⟨S.map fun p=>(p,true),none,[],-1,rfl,by rw[Oq];exact TI S,by rw[YV];exact QB _,.inl ⟨rfl,J⟩,rfl,rfl,rfl,rfl,H⟩ ?_
 clear H
 rintro z f W ⟨lb,cur,out,b,rfl,hlb,hpm,hB,f0,f1,f6,f16,H⟩
 obtain⟨f,rfl⟩:=Jj f0 f1 f6 f16
 clear f0 f1 f6 f16
 by_cases hlm:mleft lb=[]
 ·rw[hlm,Dl]at hpm
  rcases hB with⟨rfl,hno⟩|⟨k,hk,hkn⟩
  ·refine wR ?_
   refine iQ ?_
   refine AV (DI O O Y) (oV ?_)
   refine nC ?_
   exact .inl ⟨fun s k h=>hno (s,k) (hpm.mem_iff.2 h),rfl,H.only⟩
  ·have hkb:=hO.bd b k hk
   have hgk:=Rn.MX hO.ndS hk
   have gd:kN.Gd b:=⟨Y,Y⟩
   have hO1:=hO.drop hk
   refine wR ?_
   refine iQ ?_
   refine AV (Di O O Y) (dK ?_)
   refine dL ?_
   refine BI O KE (BG (HR.same H.only) 0 O O O Nw (AQ O (AV (Rx (HR.same H.only) 1 O O O (gd) (hgk) underlying127 (IY JH) O) (AY O (AO (A8 ?_))))))
   replace H:=HR.same H.only
   generalize hI:ids (RI p bS bE S E lim)=I at*
   by_cases hc:n<k
   ·refine DF (Bg O (AQ O (s_call O (ad7 H.ents b k Y hgk Y) (aia O) ?_)))
    rintro e W1 ⟨rfl,H'⟩
    refine⟨_,rfl,?_⟩
    have H:=H.step (A:=RI p bS bE S E lim) (L:=[]) H' (fun i hi=>hi);clear H';simp only[Dl]at H
    refine AO (iQ ?_)
    refine AQ O (AV (Oz O O Y) (AO (EF O (DF (Bg O (AQ O (mZ ?_)))))))
    refine AQ O (AQ O (mD ?_))
    refine s_call O (alp H.ents (b+n) (k-n) Y) (akU O) ?_
    rintro e W1 ⟨rfl,H'⟩
    refine⟨_,rfl,?_⟩
    have H:=H.step (A:=RI p bS bE _ _ lim) (L:=[]) H' (fun i hi=>hi);clear H';simp only[Dl]at H
    refine AO (AP (AQ O (nS ?_)))
    refine .inr ⟨b,_,_,Y,Y,fun x h1 h2=>(hO.cov x).2 ⟨b,k,hk,Y⟩,(hO1.add ⟨Y,Y,Y⟩ (fun x h1 h2 h3=>h3.2 Y) ?_ ?_).congr fun x=>?_,rfl,H⟩
    ·refine(IE _ _).2 fun x hx e=>?_
     obtain⟨e1,a⟩:=x
     simp only at e
     rw[e]at hx
     obtain⟨l,h5,h6⟩:=(hO1.en _ _).1 hx
     have h7:=(Rn.I7 hO.ndS _ _).1 h5
     have h8:=hO.bd a l h7.1
     exact h7.2 (hO.uniq h7.1 hk (b:=b+n-1) Y Y).1
    ·refine(IE _ _).2 fun x hx e=>?_
     obtain⟨a,l⟩:=x
     simp only at e
     have h7:=(Rn.I7 hO.ndS _ _).1 hx
     have h8:=hO.bd a l h7.1
     have:=hO.sep _ _ a l hk h7.1 Y
     omega
    ·constructor
     ·rintro(⟨h1,h2⟩|h1)
      ·exact⟨h1,Y⟩
      ·exact⟨(hO.cov x).2 ⟨b,k,hk,Y⟩,Y⟩
     ·rintro⟨h1,h2⟩
      by_cases h3:b≤x∧x<b+k
      ·exact .inr Y
      ·exact .inl ⟨h1,h3⟩
   ·obtain rfl:k=n:=Y
    refine DF (Bg O (AQ O (s_call O (ad7 H.ents b k Y hgk Y) (aia O) ?_)))
    rintro e W1 ⟨rfl,H'⟩
    refine⟨_,rfl,?_⟩
    have H:=H.step (A:=RI p bS bE S E lim) (L:=[]) H' (fun i hi=>hi);clear H';simp only[Dl]at H
    refine AO (iQ ?_)
    refine AQ O (AV (Jy O O Y) (dK ?_))
    refine AP (AQ O (nS ?_))
    exact .inr ⟨b,_,_,Y,Y,fun x h1 h2=>(hO.cov x).2 ⟨b,k,hk,Y⟩,hO1,rfl,H⟩
 ·refine AP (ag2 M H 0 (hlm) O O O ?_)
  clear H;intro j q _ hq gq H;simp only[Bv,Nat.reduceAdd]at H
  refine jR ?_
  refine AO (A8 (EF O (Bj (AX (E8 (AP (AV (ak6 M H 0 O O) (bJ ?_))))))))
  refine AO (A8 ?_)
  have hfs:=adu hq
  have hml:=(OX lb j q hq).length_eq
  have hp:=OX lb j q hq
  have hqS:q∈S:=by rw[←hlb];exact NI (f:=fun x:(Int×Int)×Bool=>x.1) (BP hq)
  have hbd:=hO.bd q.1 q.2 hqS
  rw[Es]at hml
  have adF:((out++ [q])++mleft (lb.set j (q,false))).Perm S:=by
   rw[EK]
   exact(OI out hp.symm).trans hpm
  have ajC:(lb.set j (q,false)).map (·.1)=S:=by rw[hfs];exact hlb
  by_cases h1:n≤q.2
  ·have hyes:Rn.Best S (out++ [q]) n q.1:= .inr ⟨q.2,hqS,h1⟩
   rcases hB with⟨rfl,hno⟩|⟨k,hk,hkn⟩
   ·refine sJ ?_
    refine Bo 25 O (Gm O) (Bo 25 O (DI O O Y) (Bo 25 O (Yq O) (Df 28 O O (Df 28 O O (Df 28 O O (Df 28 O O (Df 28 O O (Df 28 O O (Df 28 O O (Df 28 O O (Bo 25 O (Iz (v:= .bool _) O O) (jO ?_))))))))))))
    refine AO (EF O (DF (AQ O (AY O (AZ (CS (Dk ?_)))))))
    exact⟨_,_,Y,rfl,_,some q,out++ [q],q.1,rfl,ajC,adF,hyes,rfl,rfl,rfl,rfl,H⟩
   ·have hkb:=hO.bd b k hk
    have hgk:=Rn.MX hO.ndS hk
    have gd:kN.Gd b:=⟨Y,Y⟩
    have hold:Rn.Best S (out++ [q]) n b:= .inr ⟨k,hk,hkn⟩
    by_cases h2:q.2<k
    ·refine sJ ?_
     refine Bo 25 O (Gm O) (Bo 25 O (Di O O Y) (Bo 25 O (Yq O) (Bo 28 O (Gm O) (Bo 28 O (Ls O) (Bo 28 O (DT O) (Bo 28 O (Cm O KE) (Bo 28 O (DR (HR.same H.only) 0 O O O Nw) (Bo 28 O (Gm O) (Bo 28 O (Rx (HR.same H.only) 1 O O O (gd) (hgk) underlying127 (IY JH) O) (Bo 28 O (DI O O Y) (Bo 25 O (LV (v:= .bool _) O O) (jO ?_))))))))))))
     refine AO (EF O (DF (AQ O (AY O (AZ (CS (Dk ?_)))))))
     exact⟨_,_,Y,rfl,_,some q,out++ [q],q.1,rfl,ajC,adF,hyes,rfl,rfl,rfl,rfl,H⟩
    ·by_cases h3:q.2=k
     ·by_cases h4:q.1<b
      ·refine wH ?_
       refine Bo 47 O (DI O O Y) (Bo 38 O (Iz (v:= .bool _) O O) (Bo 25 O (LV (v:= .bool _) O O) (EZ O O (AO (EF O (DF (AQ O (AY O (AZ (CS (Dk ?_)))))))))))
       exact⟨_,_,Y,rfl,_,some q,out++ [q],q.1,rfl,ajC,adF,hyes,rfl,rfl,rfl,rfl,H⟩
      ·refine wH ?_
       refine Bo 47 O (Di O O Y) (Bo 38 O (Iz (v:= .bool _) O O) (Bo 25 O (LV (v:= .bool _) O O) (EZ O O (AO (DC O (Bj (CS (Dk ?_))))))))
       exact⟨_,_,Y,rfl,_,some q,out++ [q],b,rfl,ajC,adF,hold,rfl,rfl,rfl,rfl,H⟩
     ·refine sJ ?_
      refine aZ ?_
      refine Bo 38 O (D5 O O Y) (Bo 38 O (Yq O) (Df 47 O O (Df 47 O O (Df 47 O O (Bo 38 O (LV (v:= .bool _) O O) (Bo 25 O (LV (v:= .bool _) O O) (EZ O O (AO (DC O (Bj (CS (Dk ?_))))))))))))
      exact⟨_,_,Y,rfl,_,some q,out++ [q],b,rfl,ajC,adF,hold,rfl,rfl,rfl,rfl,H⟩
  ·have hold:Rn.Best S (out++ [q]) n b:=by
    rcases hB with⟨rfl,hno⟩|h
    ·refine .inl ⟨rfl,fun x hx=>?_⟩
     rcases Ci.1 hx with hx|hx
     ·exact hno x hx
     ·rw[Bz.1 hx];omega
    ·exact .inr h
   refine DF (AQ O (AQ O (AV (Fz O O Y) (BX O (Df 25 O O (Df 25 O O (Df 25 O O (Je 28 O (Je 28 O (Je 28 O (Je 28 O (Je 28 O (Je 28 O ?_)))))))))))))
   refine Je 28 O (Je 28 O (Df 25 O O (Df 25 O O (Je 38 O (Je 38 O (Je 38 O (Je 38 O (Je 38 O (Je 38 O (Je 38 O (Je 38 O (Je 38 O (Je 47 O ?_)))))))))))))
   refine Je 47 O (Je 47 O (Je 38 O (Df 25 O O (DW O O (AO (DC O (Bj (CS (Dk ?_)))))))))
   exact⟨_,_,Y,rfl,_,some q,out++ [q],b,rfl,ajC,adF,hold,rfl,rfl,rfl,rfl,H⟩
end
end
end
section
namespace Nv
structure D where
 last:List Int
 cache:List Int
 fl:List Int
 dirty:List Bool
 pend:List Bool
 steps:Int
 fuse:Int
 armed:Bool
 dead:Bool
structure Ok (d:D) (m:Nat):Prop where
 hl:d.last.length=8*m
 hc:d.cache.length=8*m
 hf:d.fl.length=8*m
 hd:d.dirty.length=m
 hp:d.pend.length=m
def part(l:List Int)(i:Nat):List Int:=(l.drop (8*i)).take 8
def GR(l:List Int)(i:Nat)(p:List Int):List Int:=l.take (8*i)++p++l.drop (8*i+8)
def load(ws:List Int)(m:Nat):D:=⟨ws,ws,List.replicate ws.length 0,List.replicate m false,List.replicate m false,0,0,false,false⟩
def stops(d:D):Bool:=d.dead||(d.armed&&d.fuse==0)
def stepped(d:D):D:={d with fuse:=IntKind.i64.wrap (d.fuse-1),steps:=IntKind.i64.wrap (d.steps+1)}
def killed(d:D):D:={d with dead:=true}
def put(d:D)(a:Nat)(v:Int):D:={d with cache:=d.cache.set a v,dirty:=d.dirty.set (a/8) true}
def flushed(d:D)(i:Nat):D:={d with pend:=d.pend.set i true,fl:=GR d.fl i (part d.cache i)}
def same(a b:List Int):Bool:=decide (a=b)
def ED(d:D)(i:Nat):D:=
 if d.pend.getD i false=true then{d with last:=GR d.last i (part d.fl i),pend:=d.pend.set i false,dirty:=d.dirty.set i (!same (part d.fl i) (part d.cache i))}else d
def FW(d:D):Nat→D
 |0=>d
 |k+1=>ED (FW d k) k
def store(d:D)(m:Nat)(a v:Int):D×Int:=
 if 0≤a∧a<8*(m:Int)then(if stops d=true then(killed d,3)else(put (stepped d) a.toNat v,0))else(d,2)
def flush(d:D)(m:Nat)(l:Int):D×Int:=
 if 0≤l∧l<(m:Int)then(if stops d=true then(killed d,3)else(if d.dirty.getD l.toNat false=true then flushed (stepped d) l.toNat else stepped d,0))else(d,2)
def fence(d:D)(m:Nat):D×Int:=if stops d=true then(killed d,3)else(FW (stepped d) m,0)
def get(l:List Int)(a:Int):Int:=if 0≤a∧a<(l.length:Int)then l.getD a.toNat 0 else 0
def FX(l:List Bool):Nat→List Int
 |0=> []
 |k+1=>if l.getD k false=true then FX l k++ [(k:Int)]else FX l k
def QN(d:D)(out:List Int)(line:Nat)(c:Int):List Int:=
 if c%3=1 then(if d.pend.getD line false=true then GR out line (part d.fl line)else out)
 else if c%3=2 then GR out line (part d.cache line)else out
def Jp(d:D)(ls:List Int)(cs:List Int):Nat→List Int
 |0=>d.last
 |k+1=>if k<ls.length∧k<cs.length then QN d (Jp d ls cs k) (ls.getD k 0).toNat (cs.getD k 0)else Jp d ls cs k
def D8(d:D)(m:Nat)(i:Nat):Nat→D×Int
 |0=>(d,0)
 |k+1=>if(flush d m (i:Int)).2=0 then D8 (flush d m (i:Int)).1 m (i+1) k else flush d m (i:Int)
def persist(d:D)(m:Nat)(a n:Int):D×Int:=
 if a<0∨n<0∨8*(m:Int)<a∨8*(m:Int)-a<n then(d,2)
 else if n=0 then fence d m
 else
  if(D8 d m (a/8).toNat (((a+n-1)/8).toNat+1-(a/8).toNat)).2=0 then fence (D8 d m (a/8).toNat (((a+n-1)/8).toNat+1-(a/8).toNat)).1 m
  else D8 d m (a/8).toNat (((a+n-1)/8).toNat+1-(a/8).toNat)
theorem Jd{l p:List Int}{i:Nat}(h:8*i+8≤l.length)(hp:p.length=8):(GR l i p).length=l.length:=by simp[GR];omega
theorem GU{l:List Int}{i:Nat}(h:8*i+8≤l.length):(part l i).length=8:=by simp[part];omega
theorem Ok.killed{d:D}{m:Nat}(h:Ok d m):Ok (killed d) m:=⟨h.hl,h.hc,h.hf,h.hd,h.hp⟩
theorem Ok.stepped{d:D}{m:Nat}(h:Ok d m):Ok (stepped d) m:=⟨h.hl,h.hc,h.hf,h.hd,h.hp⟩
theorem Ok.put{d:D}{m:Nat}(h:Ok d m)(a:Nat)(v:Int):Ok (put d a v) m:=⟨h.hl,by simp[Nv.put,h.hc],h.hf,by simp[Nv.put,h.hd],h.hp⟩
theorem Ok.flushed{d:D}{m:Nat}(h:Ok d m){i:Nat}(hi:i<m):Ok (flushed d i) m:=
 ⟨h.hl,h.hc,by simp only[Nv.flushed];rw[Jd (by rw[h.hf];omega) (GU (by rw[h.hc];omega)),h.hf],h.hd,by simp[Nv.flushed,h.hp]⟩
theorem Ok.ED{d:D}{m:Nat}(h:Ok d m){i:Nat}(hi:i<m):Ok (ED d i) m:=by
 unfold Nv.ED
 split
 ·exact⟨by simp only;rw[Jd (by rw[h.hl];omega) (GU (by rw[h.hf];omega)),h.hl],h.hc,h.hf,by simp[h.hd],by simp[h.hp]⟩
 ·exact h
theorem Ok.FW{d:D}{m:Nat}(h:Ok d m):∀k,k≤m→Ok (FW d k) m
 |0,_=>h
 |k+1,hk=>(Ok.FW h k Y).ED Y
theorem Ok.store{d:D}{m:Nat}(h:Ok d m)(a v:Int):Ok (store d m a v).1 m:=by
 unfold Nv.store;split
 ·split
  ·exact h.killed
  ·exact h.stepped.put _ _
 ·exact h
theorem Ok.flush{d:D}{m:Nat}(h:Ok d m)(l:Int):Ok (flush d m l).1 m:=by
 unfold Nv.flush;split
 ·split
  ·exact h.killed
  ·split
   ·exact h.stepped.flushed Y
   ·exact h.stepped
 ·exact h
theorem Ok.fence{d:D}{m:Nat}(h:Ok d m):Ok (fence d m).1 m:=by
 unfold Nv.fence;split
 ·exact h.killed
 ·exact h.stepped.FW m (BF _)
theorem Ok.D8{m:Nat}:∀(k i:Nat) (d:D),Ok d m→Ok (D8 d m i k).1 m
 |0,_,_,h=>h
 |k+1,i,d,h=>by
  unfold Nv.D8;split
  ·exact Ok.D8 k _ _ (h.flush _)
  ·exact h.flush _
theorem Ok.persist{d:D}{m:Nat}(h:Ok d m)(a n:Int):Ok (persist d m a n).1 m:=by
 unfold Nv.persist;split
 ·exact h
 ·split
  ·exact h.fence
  ·split
   ·exact(Ok.D8 _ _ _ h).fence
   ·exact Ok.D8 _ _ _ h
theorem Xm(d:D)(ls cs:List Int)(k:Nat):Jp d ls cs (k+1)=if k<ls.length∧k<cs.length then QN d (Jp d ls cs k) (ls.getD k 0).toNat (cs.getD k 0)else Jp d ls cs k:=rfl
theorem Yh(d:D)(ls cs:List Int)(j:Nat)(h:ls.length≤j∨cs.length≤j):∀q,Jp d ls cs (j+q)=Jp d ls cs j
 |0=>rfl
 |q+1=>by rw[←IZ,Jp,if_neg Y];exact Yh d ls cs j h q
theorem PE(l:List Bool):∀(k:Nat) (j:Nat) (z:Int),(FX l k)[j]? =some z→∃i:Nat,z=(i:Int)∧i<k∧l.getD i false=true
 |0,j,z,h=>by simp[FX]at h
 |k+1,j,z,h=>by
  unfold FX at h
  split at h
  ·rename_i hk
   rw[List.getElem?_append]at h
   split at h
   ·obtain⟨i,e,hi,hd⟩:=PE l k j z h
    exact⟨i,e,Y,hd⟩
   ·rw[List.getElem?_singleton]at h
    split at h
    ·injection h with h;exact⟨k,h.symm,Y,hk⟩
    ·cases h
  ·obtain⟨i,e,hi,hd⟩:=PE l k j z h
   exact⟨i,e,Y,hd⟩
theorem ZF{d:D}{m:Nat}(ho:Ok d m){out:List Int}(h:out.length=8*m){i:Nat}(hi:i<m)(c:Int):(QN d out i c).length=8*m:=by
 unfold QN
 have h1:=ho.hf;have h2:=ho.hc
 split
 ·split
  ·rw[Jd Y (GU Y),h]
  ·exact h
 ·split
  ·rw[Jd Y (GU Y),h]
  ·exact h
theorem abn(d:D)(i:Nat):(ED d i).fl=d.fl∧(ED d i).cache=d.cache∧(ED d i).steps=d.steps∧(ED d i).fuse=d.fuse∧(ED d i).armed=d.armed∧(ED d i).dead=d.dead:=by
 unfold ED;split<;>simp
theorem Uj(d:D):∀k,(FW d k).fl=d.fl∧(FW d k).cache=d.cache∧(FW d k).steps=d.steps∧(FW d k).fuse=d.fuse∧(FW d k).armed=d.armed∧(FW d k).dead=d.dead
 |0=>by simp[FW]
 |k+1=>by
  obtain⟨h1,h2,h3,h4,h5,h6⟩:=abn (FW d k) k
  obtain⟨g1,g2,g3,g4,g5,g6⟩:=Uj d k
  exact⟨h1.trans g1,h2.trans g2,h3.trans g3,h4.trans g4,h5.trans g5,h6.trans g6⟩
end Nv
end
section
section
open Go.RowKit
abbrev ptr(b:Nat):Value:= .pointer (some ⟨b,0,none⟩)
end
end
section
section
open Go.RowKit
structure Geo where
 p:Nat
 bl:Nat
 bc:Nat
 bf:Nat
 bd:Nat
 bp:Nat
 cl:Nat
 cc:Nat
 cf:Nat
 cd:Nat
 cp:Nat
def Gq(g:Geo)(d:Nv.D):List Value:=
 [.slice (some ⟨g.bl,0,none⟩) d.last.length g.cl,.slice (some ⟨g.bc,0,none⟩) d.cache.length g.cc,.slice (some ⟨g.bf,0,none⟩) d.fl.length g.cf,.slice (some ⟨g.bd,0,none⟩) d.dirty.length g.cd,.slice (some ⟨g.bp,0,none⟩) d.pend.length g.cp,
  .int .i64 d.steps,.int .i64 d.fuse,.bool d.armed,.bool d.dead]
def Dy(g:Geo)(d:Nv.D):List FU:=
 [blk g.p (Gq g d) 157,vec (Value.int .u64) g.bl d.last 26,vec (Value.int .u64) g.bc d.cache 26,vec (Value.int .u64) g.bf d.fl 26,vec Value.bool g.bd d.dirty 4,vec Value.bool g.bp d.pend 4]
theorem aa4(g:Geo)(d:Nv.D)(w:World)(hE:Dj (Dy g d) w)(hs:Nv.stops d=true):
 Calls prog 222 [ptr g.p].toArray w fun e w'=>e= .returned (.bool false)∧Heap w (ids (Dy g d)) (Dy g (Nv.killed d)) w':=by
 have H:=Heap.start hE
 generalize hF:ids (Dy g d)=F at H⊢
 unfold Dy Gq at H
 by_cases h:d.dead=true
 ·rw[h]at H
  refine BO 37 func222 O (uV ?_)
  refine jW ?_
  refine BI O Wh (BG H 0 O O O Zi (BX O (xq ?_)))
  refine Je 12 O (Je 12 O (Je 12 O (Je 12 O (Je 12 O (Df 7 O O (EZ O O (AO (EF O (dL ?_)))))))))
  refine BI O Wh (tK ?_)
  clear H;refine axS fun _ H=>?_
  refine AO (mX ?_)
  exact⟨rfl,H⟩
 ·have h1:d.dead=false:=by simpa using h
  have h2:d.armed=true∧d.fuse=0:=by simpa [Nv.stops,h1]using hs
  rw[h1,h2.1,h2.2]at H
  refine vg ?_
  refine Bo 12 O (D7 O O Y) (Bo 7 O (Iz (v:= .bool _) O O) (DW O O (AO (EF O (dL ?_)))))
  refine BI O Wh (tK ?_)
  clear H;refine axS fun _ H=>?_
  refine AO (mX ?_)
  refine⟨rfl,?_⟩
  unfold Dy Gq Nv.killed
  rw[h2.1,h2.2]
  exact H
theorem VU(g:Geo)(d:Nv.D)(w:World)(hE:Dj (Dy g d) w)(hs:Nv.stops d=false):
 Calls prog 222 [ptr g.p].toArray w fun e w'=>e= .returned (.bool true)∧Heap w (ids (Dy g d)) (Dy g (Nv.stepped d)) w':=by
 have H:=Heap.start hE
 generalize hF:ids (Dy g d)=F at H⊢
 unfold Dy Gq at H
 have h1:d.dead=false∧(d.armed=true→¬d.fuse=0):=by simpa [Nv.stops]using hs
 obtain⟨h1,h2⟩:=h1
 rw[h1]at H
 by_cases h3:d.armed=true
 ·have h4:¬d.fuse=0:=h2 h3
  rw[h3]at H
  refine vg ?_
  refine Bo 12 O (D5 O O Y) (Bo 7 O (Iz (v:= .bool _) O O) (gQ ?_))
  refine dL ?_
  refine BI O VB (fV ?_)
  refine AV (Gu O O O) (BU O (BI O VB (dI ?_)))
  clear H;refine axS fun _ H=>?_
  refine uj ?_
  refine BI O ZX (fV ?_)
  refine AV (Dq O O O) (BU O (BI O ZX (dI ?_)))
  clear H;refine axS fun _ H=>?_
  refine AO (AP (iP ?_))
  refine⟨rfl,?_⟩
  unfold Dy Gq Nv.stepped
  rw[h1,h3]
  exact H
 ·have h3:d.armed=false:=by simpa using h3
  rw[h3]at H
  refine BO 37 func222 O (uV ?_)
  refine A8 (iE ?_)
  refine Df 12 O O (Df 12 O O (Df 12 O O (Df 12 O O (Df 12 O O (Bo 7 O (LV (v:= .bool _) O O) (gQ ?_))))))
  refine dL ?_
  refine BI O VB (fV ?_)
  refine AV (Gu O O O) (BU O (BI O VB (dI ?_)))
  clear H;refine axS fun _ H=>?_
  refine uj ?_
  refine BI O ZX (fV ?_)
  refine AV (Dq O O O) (BU O (BI O ZX (dI ?_)))
  clear H;refine axS fun _ H=>?_
  refine AO (AP (iP ?_))
  refine⟨rfl,?_⟩
  unfold Dy Gq Nv.stepped
  rw[h1,h3]
  exact H
end
end
section
section
open Go.RowKit
structure Q5 (g:Geo) (m:Nat):Prop where
 l:8*m≤g.cl∧g.cl≤9223372036854775807
 c:8*m≤g.cc∧g.cc≤9223372036854775807
 f:8*m≤g.cf∧g.cf≤9223372036854775807
 d:m≤g.cd∧g.cd≤9223372036854775807
 p:m≤g.cp∧g.cp≤9223372036854775807
theorem WG(b c i:Nat)(l:Nat)(P:Option Addr)(w:World)(h:8*i+8≤c∧c≤9223372036854775807):
 Calls prog 86 [.pointer P,.slice (some ⟨b,0,none⟩) l c,.int .i64 i].toArray w fun e w'=>e= .returned (.slice (some ⟨b,8*i,none⟩) 8 (c-8*i))∧Only [] w w':=by
 have H:=Heap.nil w
 refine BO 14 func86 O (AP (EM O (AO (AP (Dz O (AQ O (AV (Ya O O (wI Y)) (mZ ?_))))))))
 refine AV (Ya O O (wI Y)) (AV (aty (i:=8*i) (j:=8*i+8) O O O Y Y Y underlying55 MB) (rW ?_))
 refine⟨?_,H.only⟩
 have h1:¬c=8*i:=Y
 rw[if_neg h1,show 8*i+8-8*i=8 from by omega,GY,EH]
theorem YO(g:Geo)(d:Nv.D)(m:Nat)(a v:Int)(w:World)(hE:Dj (Dy g d) w)(ho:Nv.Ok d m)(hm:m≤100000):
 Calls prog 161 [ptr g.p,.int .i64 a,.int .u64 v].toArray w fun e w'=>e= .returned (.int .i64 (Nv.store d m a v).2)∧Heap w (ids (Dy g d)) (Dy g (Nv.store d m a v).1) w':=by
 have H0:=Heap.start hE
 have hc:=ho.hc
 by_cases hin:0≤a∧a<8*(m:Int)
 ·by_cases hs:Nv.stops d=true
  ·have er:Nv.store d m a v=(Nv.killed d,3):=by rw[Nv.store,if_pos hin,if_pos hs]
   rw[er]
   generalize hF:ids (Dy g d)=F at H0⊢
   have H:=H0
   unfold Dy Gq at H
   refine xC ?_
   refine s_call O (aa4 g d _ H0.ents hs) (aa0 O) ?_
   rintro e W1 ⟨rfl,H'⟩
   refine⟨_,rfl,?_⟩
   have H:=H0.whole H'
   refine AV (Ib O) (jT ?_)
   exact⟨rfl,H⟩
  ·have hs:Nv.stops d=false:=by simpa using hs
   have er:Nv.store d m a v=(Nv.put (Nv.stepped d) a.toNat v,0):=by rw[Nv.store,if_pos hin,if_neg (by simp[hs])]
   rw[er]
   obtain⟨i,rfl⟩:∃i:Nat,a=(i:Int):=⟨a.toNat,Y⟩
   rw[BJ]
   have hd:=ho.hd
   generalize hF:ids (Dy g d)=F at H0⊢
   have H:=H0
   unfold Dy Gq at H
   refine xC ?_
   refine xk ?_
   rintro e W1 ⟨rfl,H'⟩
   refine⟨_,rfl,?_⟩
   have H:=H0.whole H';unfold Dy Gq Nv.stepped at H;simp only at H
   refine AV (Ea O) (uO ?_)
   refine dL ?_
   refine BI O Ox (BG H 0 O O O O4 (AQ O (AQ O (AV (H8 O O O Y underlying55 MB) (ahs (u:= .int _ _) H 2 O O O O O Y (fun _=>rfl) MB ?_)))))
   clear H;refine axS fun _ H=>?_
   refine uj ?_
   refine BI O Qp (BG H 0 O O O RJ (AQ O (AV (SI O O Y (wI Y)) (AV (H8 (i:=i/8) O O Y Y underlying155 sz4) (ahs (u:= .bool _) H 4 O O O O O Y (fun _=>rfl) sz4 ?_)))))
   clear H;refine axS fun _ H=>?_
   refine AO (uP ?_)
   refine⟨rfl,?_⟩
   unfold Dy Gq Nv.put Nv.stepped
   simpa using H
 ·have er:Nv.store d m a v=(d,2):=by rw[Nv.store,if_neg hin]
  rw[er]
  generalize hF:ids (Dy g d)=F at H0⊢
  have H:=H0
  unfold Dy Gq at H
  by_cases h1:a<0
  ·refine BO 37 func161 O (AP (iZ ?_))
   refine AV (DI O O Y) (BX O (Df 10 O O (Df 10 O O (Df 10 O O (Df 10 O O (Df 10 O O (Df 10 O O (Df 10 O O (EZ O O (jT ?_))))))))))
   exact⟨rfl,H⟩
  ·refine BO 37 func161 O (AP (iZ ?_))
   refine gZ ?_
   refine Bo 10 O (GI O O Y) (DW O O (jT ?_))
   exact⟨rfl,H⟩
end
end
section
section
open Go.RowKit
theorem aaM(g:Geo)(d:Nv.D)(a:Int)(w:World)(hE:Dj (Dy g d) w):
 Calls prog 133 [ptr g.p,.int .i64 a].toArray w fun e w'=>e= .returned (.int .u64 (Nv.get d.cache a))∧Only [] w w':=by
 have H:=Heap.start hE
 generalize hF:ids (Dy g d)=F at H
 unfold Dy Gq at H
 unfold Nv.get
 by_cases hin:0≤a∧a<(d.cache.length:Int)
 ·rw[if_pos hin]
  obtain⟨i,rfl⟩:∃i:Nat,a=(i:Int):=⟨a.toNat,Y⟩
  rw[BJ]
  refine um ?_
  refine Bo 7 O (Fz O O Y) (gQ ?_)
  refine dL ?_
  refine BI O Ox (BG H 0 O O O O4 (AQ O (AV (H8 O O O Y underlying55 MB) (AV (Td H 2 O O (Xg Y) Gh) (eu ?_)))))
  exact⟨rfl,Only.refl _ _⟩
 ·rw[if_neg hin]
  by_cases h1:a<0
  ·refine BO 23 func133 O (AP (qG ?_))
   refine xq ?_
   refine Df 7 O O (Df 7 O O (EZ O O (gG ?_)))
   exact⟨rfl,Only.refl _ _⟩
  ·refine um ?_
   refine Bo 7 O (GI O O Y) (DW O O (gG ?_))
   exact⟨rfl,Only.refl _ _⟩
theorem Zw(g:Geo)(d:Nv.D)(w:World)(hE:Dj (Dy g d) w):
 Calls prog 53 [ptr g.p].toArray w fun e w'=>e= .returned (.int .i64 d.cache.length)∧Only [] w w':=by
 have H:=Heap.start hE
 generalize hF:ids (Dy g d)=F at H
 unfold Dy Gq at H
 refine BO 8 func53 O (oM ?_)
 refine dL ?_
 refine BI O Ox (BG H 0 O O O O4 (Eb O underlying55 (eu ?_)))
 exact⟨rfl,Only.refl _ _⟩
theorem ana(g:Geo)(d:Nv.D)(m:Nat)(a:Int)(w:World)(hE:Dj (Dy g d) w)(ho:Nv.Ok d m)(hg:Q5 g m)(hm:m≤100000):
 Calls prog 226 [ptr g.p,.int .i64 a].toArray w fun e w'=>e= .returned (.int .i64 (Nv.flush d m a).2)∧Heap w (ids (Dy g d)) (Dy g (Nv.flush d m a).1) w':=by
 have H0:=Heap.start hE
 have hd:=ho.hd
 by_cases hin:0≤a∧a<(m:Int)
 ·by_cases hs:Nv.stops d=true
  ·have er:Nv.flush d m a=(Nv.killed d,3):=by rw[Nv.flush,if_pos hin,if_pos hs]
   rw[er]
   generalize hF:ids (Dy g d)=F at H0⊢
   have H:=H0
   unfold Dy Gq at H
   refine qV ?_
   refine s_call O (aa4 g d _ H0.ents hs) (aa0 O) ?_
   rintro e W1 ⟨rfl,H'⟩
   refine⟨_,rfl,?_⟩
   have H:=H0.whole H'
   refine AV (Ib O) (jT ?_)
   exact⟨rfl,H⟩
  ·have hs:Nv.stops d=false:=by simpa using hs
   obtain⟨i,rfl⟩:∃i:Nat,a=(i:Int):=⟨a.toNat,Y⟩
   have er:Nv.flush d m i=(if d.dirty.getD i false=true then Nv.flushed (Nv.stepped d) i else Nv.stepped d,0):=by rw[Nv.flush,if_pos hin,if_neg (by simp[hs]),BJ]
   rw[er]
   have hp:=ho.hp
   have hc:=ho.hc
   have hf:=ho.hf
   generalize hF:ids (Dy g d)=F at H0⊢
   have H:=H0
   unfold Dy Gq at H
   by_cases hdi:d.dirty.getD i false=true
   ·have awk:d.dirty[i]? =some true:=by rw[Xg Y];exact congrArg some hdi
    rw[if_pos hdi]
    have hgc:=hg.c
    have hgf:=hg.f
    refine qV ?_
    refine xk ?_
    rintro e W1 ⟨rfl,H'⟩
    refine⟨_,rfl,?_⟩
    have H:=H0.whole H';unfold Dy Gq Nv.stepped at H;simp only at H
    refine uX ?_
    refine AO (EF O (dL ?_))
    refine wo ?_
    clear H;refine axS fun _ H=>?_
    refine AO (XT 14 mixed Aw H O O (dW ?_))
    refine ay ?_
    refine BZ (fun _ H=>Cm O aeh) (uH ?_)
    refine LH O O (fun _ H=>WG g.bf g.cf i _ _ _ Y) (ab2 O) (dW ?_)
    refine ay ?_
    refine BZ (fun _ H=>Cm O Ox) (uH ?_)
    refine LH O O (fun _ H=>WG g.bc g.cc i _ _ _ Y) (ab2 O) (Iy ?_)
    clear H;intro _ H
    refine au0 (enc:=(Value.int .u64)) H 3 2 O O O O O (fun _=>rfl) Y underlying55 GH ?_
    clear H;refine axS fun _ H=>?_
    refine AO (uP ?_)
    refine⟨rfl,?_⟩
    unfold Dy Gq Nv.flushed Nv.stepped
    have e:Nv.GR d.fl i (Nv.part d.cache i)=d.fl.take (8*i)++((d.cache.drop (8*i)).take 8++d.fl.drop (8*i+8)):=by simp[Nv.GR,Nv.part]
    have hl:(Nv.GR d.fl i (Nv.part d.cache i)).length=d.fl.length:=Nv.Jd Y (Nv.GU Y)
    rw[←e]at H
    simp only[hl,Hz]
    exact H
   ·have awk:d.dirty[i]? =some false:=by
     rw[Xg Y]
     have:d.dirty.getD i default=false:=by simpa using hdi
     rw[this]
    rw[if_neg hdi]
    refine qV ?_
    refine xk ?_
    rintro e W1 ⟨rfl,H'⟩
    refine⟨_,rfl,?_⟩
    have H:=H0.whole H';unfold Dy Gq Nv.stepped at H;simp only at H
    refine uX ?_
    refine dK ?_
    refine uP ?_
    refine⟨rfl,?_⟩
    unfold Dy Gq Nv.stepped
    exact H
 ·have er:Nv.flush d m a=(d,2):=by rw[Nv.flush,if_neg hin]
  rw[er]
  generalize hF:ids (Dy g d)=F at H0⊢
  have H:=H0
  unfold Dy Gq at H
  by_cases h1:a<0
  ·refine BO 49 func226 O (AP (iZ ?_))
   refine AV (DI O O Y) (BX O (pz ?_))
   refine EZ O O (jT ?_)
   exact⟨rfl,H⟩
  ·refine BO 49 func226 O (AP (iZ ?_))
   refine dZ ?_
   refine Bo 8 O (GI O O Y) (DW O O (jT ?_))
   exact⟨rfl,H⟩
end
end
section
section
open Go.RowKit
theorem alO{xs ys:List Int}{k:Nat}(h:∀i,i<k→xs.getD i default=ys.getD i default)(hx:xs.length=k)(hy:ys.length=k):xs=ys:=by
 apply JK Y
 intro i h1 h2
 have:=h i Y
 simpa [BN,Ba h1,Ba h2]using this
theorem arA(b o c b2 o2 c2 n:Nat)(xs ys:List Int)(w:World)(hx:Cells w b o xs .u64)(hy:Cells w b2 o2 ys .u64)(lx:xs.length=n)(ly:ys.length=n)(hn:n≤1000000):
 Calls prog 194 [.slice (some ⟨b,o,none⟩) n c,.slice (some ⟨b2,o2,none⟩) n c2].toArray w fun e w'=>e= .returned (.bool (Nv.same xs ys))∧Only [] w w':=by
 have H:=Heap.nil w
 refine BO 26 func194 O (uV ?_)
 refine A8 (AP (Dz O (Eb O underlying55 (Dz O (Eb O underlying55 (AV (Dc O O Y) (dK ?_)))))))
 refine A8 (AP (Dz O (Eb O underlying55 (xH ?_))))
 refine EO (fun m f W=>∃k:Nat,k≤n∧m=n-k∧(∀i,i<k→xs.getD i default=ys.getD i default)∧f 0= .slice (some ⟨b,o,none⟩) n c∧f 1= .slice (some ⟨b2,o2,none⟩) n c2∧f 12= .int .i64 n∧f 13= .int .i64 k∧Heap w [] [] W) n ⟨0,Y,Y,Y,rfl,rfl,rfl,rfl,H⟩ ?_
 clear H
 rintro m f W ⟨k,hk,rfl,hall,h0,h1,h2,h3,H⟩
 obtain⟨f,rfl⟩:=Jj h0 h1 h2 h3
 clear h0 h1 h2 h3
 by_cases hlt:k<n
 ·have cx:=hx k _ (Xg Y)
  have cy:=hy k _ (Xg Y)
  by_cases he:xs.getD k default=ys.getD k default
  ·refine nR ?_
   refine AO (A8 (jv ?_))
   refine BZ (fun _ H=>Dc O O Y) (Iy ?_)
   clear H;intro _ H
   refine AX (o8 ?_)
   refine⟨_,_,?_,rfl,k+1,Y,rfl,fun i hi=>?_,rfl,rfl,rfl,rfl,H⟩
   ·omega
   ·by_cases hik:i=k
    ·subst hik;exact he
    ·exact hall i Y
  ·refine nR ?_
   refine AO (A8 (jv ?_))
   refine BZ (fun _ H=>Jr O O Y) (Iy ?_)
   clear H;intro _ H
   refine AX (EF O (uV ?_))
   refine kL ?_
   refine dG ?_
   refine⟨?_,H.only⟩
   rw[Nv.same,decide_eq_false (fun h=>he (by rw[h]))]
 ·obtain rfl:k=n:=Y
  refine oh ?_
  refine iP ?_
  refine⟨?_,H.only⟩
  rw[Nv.same,decide_eq_true (alO hall lx ly)]
end
end
section
section
open Go.RowKit
theorem MI(A:Addr)(n c:Nat)(zs:List Int)(w:World)(hz:I5 (Value.int .u64) w [] (some A) zs)(hl:zs.length=n)(hn:n≤1000000):
 Calls prog 84 [.slice (some A) n c].toArray w fun e w'=>∃b c',e= .returned (.slice (some ⟨b,0,none⟩) n c')∧(n≤c'∧c'≤9223372036854775807)∧Heap w [] [vec (Value.int .u64) b zs 26] w':=by
 have H:=Heap.nil w
 refine BO 8 func84 O (AP (EM O (AO (A8 (AP (Dz O (AV (agq O O underlying55) (dK ?_))))))))
 refine AP (acy 1 Y H O underlying55 GH ?_)
 intro _ _ H';clear H;have H:=H';clear H'
 refine Dz O (ak1 (enc:=(Value.int .u64)) (xs:=[]) H 0 O O O O (hz) (hl) (fun _=>rfl) Y underlying55 GH O ?_)
 clear H;intro A' c' _ hA H;simp only[Bv,Nat.reduceAdd]at H
 refine rW ?_
 obtain⟨b,rfl⟩:=hA J
 rw[EH]at H
 refine⟨b,c',by rw[EH],?_⟩
 by_cases h0:0<n
 ·obtain⟨b',c2,e1,e2,e3,H2⟩:=aib H h0
  injection e1 with e4 _ e5
  injection e4 with e4
  injection e4 with e4
  subst e4;subst e5
  unfold maxLen at e3
  exact⟨⟨e2,e3⟩,H2⟩
 ·obtain rfl:n=0:=Y
  obtain rfl:zs=[]:=DU hl
  have ho:=H.JE 0 rfl
  have hb:(0≤c'∧c'≤9223372036854775807):=by
   rcases ho.2 with⟨e,_⟩|⟨q,cap,cur,e,_,_,_,hcm,_⟩
   ·cases e
   ·injection e with _ _ e;subst e;unfold maxLen at hcm;omega
  exact⟨hb,fun E hE=>by(rw[Bz.1 hE];exact fun h=>absurd rfl h),by simp[ids,vec],by simp[ids,vec],H.only⟩
theorem ang(b c m:Nat)(ws:List Int)(w:World)(hE:Dj [vec (Value.int .u64) b ws 26] w)(hl:ws.length=8*m)(hm:m≤100000)(hc:8*m≤c∧c≤9223372036854775807):
 Calls prog 87 [.slice (some ⟨b,0,none⟩) (8*m) c].toArray w fun e w'=>∃g,e= .returned (ptr g.p)∧Q5 g m∧Heap w (ids [vec (Value.int .u64) b ws 26]) (Dy g (Nv.load ws m)) w':=by
 have H:=Heap.start hE
 generalize hF:ids [vec (Value.int .u64) b ws 26]=F at H⊢
 refine BO 19 func87 O (AP (Fb O (AO (AP (Dz O (Eb O underlying55 (AV (SI O O Y (wI Y)) (AY O (AO (A8 ?_))))))))))
 refine Gl (fun f' W'=>∃p bc cc bf bd bp,(8*m≤cc∧cc≤9223372036854775807)∧f' 2=ptr p∧Heap w F [blk p [.slice (some ⟨b,0,none⟩) (8*m) c,.slice (some ⟨bc,0,none⟩) (8*m) cc,.slice (some ⟨bf,0,none⟩) (8*m) (8*m),.slice (some ⟨bd,0,none⟩) m m,.slice (some ⟨bp,0,none⟩) m m,.int .i64 0,.int .i64 0,.bool false,.bool false] 157,vec Value.bool bp (List.replicate m false) 4,vec Value.bool bd (List.replicate m false) 4,vec (Value.int .u64) bf (List.replicate (8*m) 0) 26,vec (Value.int .u64) bc ws 26,vec (Value.int .u64) b ws 26] W') ?_ ?_
 ·have HR:=H;clear H;have H:=HR.tree;refine axA mixed ?_
  refine CZ 0 O O O (fun _ hS=>Cc (v:= .slice _ _ _) O) H.only (CZ 1 O O O (fun _ hS=>Cc (v:= .slice _ _ _) O) H.only (CZ 3 O O O (fun _ hS=>Cc (v:= .slice _ _ _) O) H.only (CZ 4 O O O (fun _ hS=>Gw O underlying55) H.only (CZ 6 O O O (fun _ hS=>Cc (v:= .int _ _) O) H.only (CZ 8 O O O (fun _ hS=>Cc (v:= .int _ _) O) H.only ?_)))))
  refine atx 2 5 7 9 Aw ?_ ?_ ?_ ?_
  ·refine CB O (aY ?_)
   rintro e W1 ⟨bc,cc,rfl,hcc,H'⟩
   refine⟨_,rfl,?_⟩
   have H:=H.more H';clear H'
   refine mP ?_
   refine Vw 5 7 9 Aw ?_ ?_ ?_
   ·refine CB O (bG ?_)
    intro bf _ H';clear H;have H:=H';clear H'
    refine mP ?_
    refine Et 7 9 ?_ ?_
    ·refine oL ?_
     intro bd _ H';clear H;have H:=H';clear H'
     refine rH ?_
     intro bp _ H';clear H;have H:=H';clear H'
     refine aC ?_
     refine D9 H O O fun ZL _ H=>qO ?_
     have H:=HR.more H;clear HR;simp only[Bv]at H
     refine Dp ?_
     exact⟨_,_,_,_,_,_,hcc,rfl,H⟩
    ·refine oL ?_
     intro bp _ H';clear H;have H:=H';clear H'
     refine rE ?_
     intro bd _ H';clear H;have H:=H';clear H'
     refine aC ?_
     refine D9 H O O fun ZL _ H=>qO ?_
     replace H:=H.pick 4 rfl;simp only[Bv]at H
     replace H:=H.pick 4 rfl;simp only[Bv]at H
     replace H:=H.pick 3 rfl;simp only[Bv]at H
     replace H:=H.pick 4 rfl;simp only[Bv]at H
     replace H:=H.pick 4 rfl;simp only[Bv]at H
     have H:=HR.more H;clear HR;simp only[Bv]at H
     refine Dp ?_
     exact⟨_,_,_,_,_,_,hcc,rfl,H⟩
   ·refine oL ?_
    intro bd _ H';clear H;have H:=H';clear H'
    refine mP ?_
    refine Et 5 9 ?_ ?_
    ·refine CB O (bG ?_)
     intro bf _ H';clear H;have H:=H';clear H'
     refine rH ?_
     intro bp _ H';clear H;have H:=H';clear H'
     refine aC ?_
     refine D9 H O O fun ZL _ H=>qO ?_
     replace H:=H.pick 4 rfl;simp only[Bv]at H
     replace H:=H.pick 3 rfl;simp only[Bv]at H
     replace H:=H.pick 4 rfl;simp only[Bv]at H
     replace H:=H.pick 4 rfl;simp only[Bv]at H
     replace H:=H.pick 4 rfl;simp only[Bv]at H
     have H:=HR.more H;clear HR;simp only[Bv]at H
     refine Dp ?_
     exact⟨_,_,_,_,_,_,hcc,rfl,H⟩
    ·refine oL ?_
     intro bp _ H';clear H;have H:=H';clear H'
     refine qY ?_
     intro bf _ H';clear H;have H:=H';clear H'
     refine aC ?_
     refine D9 H O O fun ZL _ H=>qO ?_
     replace H:=H.pick 4 rfl;simp only[Bv]at H
     replace H:=H.pick 2 rfl;simp only[Bv]at H
     replace H:=H.pick 4 rfl;simp only[Bv]at H
     replace H:=H.pick 4 rfl;simp only[Bv]at H
     replace H:=H.pick 4 rfl;simp only[Bv]at H
     have H:=HR.more H;clear HR;simp only[Bv]at H
     refine Dp ?_
     exact⟨_,_,_,_,_,_,hcc,rfl,H⟩
   ·refine oL ?_
    intro bp _ H';clear H;have H:=H';clear H'
    refine mP ?_
    refine Et 5 7 ?_ ?_
    ·refine CB O (bG ?_)
     intro bf _ H';clear H;have H:=H';clear H'
     refine rE ?_
     intro bd _ H';clear H;have H:=H';clear H'
     refine aC ?_
     refine D9 H O O fun ZL _ H=>qO ?_
     replace H:=H.pick 4 rfl;simp only[Bv]at H
     replace H:=H.pick 3 rfl;simp only[Bv]at H
     replace H:=H.pick 3 rfl;simp only[Bv]at H
     replace H:=H.pick 4 rfl;simp only[Bv]at H
     replace H:=H.pick 4 rfl;simp only[Bv]at H
     have H:=HR.more H;clear HR;simp only[Bv]at H
     refine Dp ?_
     exact⟨_,_,_,_,_,_,hcc,rfl,H⟩
    ·refine oL ?_
     intro bd _ H';clear H;have H:=H';clear H'
     refine qY ?_
     intro bf _ H';clear H;have H:=H';clear H'
     refine aC ?_
     refine D9 H O O fun ZL _ H=>qO ?_
     replace H:=H.pick 4 rfl;simp only[Bv]at H
     replace H:=H.pick 2 rfl;simp only[Bv]at H
     replace H:=H.pick 3 rfl;simp only[Bv]at H
     replace H:=H.pick 4 rfl;simp only[Bv]at H
     replace H:=H.pick 4 rfl;simp only[Bv]at H
     have H:=HR.more H;clear HR;simp only[Bv]at H
     refine Dp ?_
     exact⟨_,_,_,_,_,_,hcc,rfl,H⟩
  ·refine CB O (bG ?_)
   intro bf _ H';clear H;have H:=H';clear H'
   refine mP ?_
   refine Vw 2 7 9 Aw ?_ ?_ ?_
   ·refine CB O (aY ?_)
    rintro e W1 ⟨bc,cc,rfl,hcc,H'⟩
    refine⟨_,rfl,?_⟩
    have H:=H.more H';clear H'
    refine mP ?_
    refine Et 7 9 ?_ ?_
    ·refine oL ?_
     intro bd _ H';clear H;have H:=H';clear H'
     refine rH ?_
     intro bp _ H';clear H;have H:=H';clear H'
     refine aC ?_
     refine D9 H O O fun ZL _ H=>qO ?_
     replace H:=H.pick 3 rfl;simp only[Bv]at H
     replace H:=H.pick 4 rfl;simp only[Bv]at H
     replace H:=H.pick 4 rfl;simp only[Bv]at H
     replace H:=H.pick 4 rfl;simp only[Bv]at H
     replace H:=H.pick 4 rfl;simp only[Bv]at H
     have H:=HR.more H;clear HR;simp only[Bv]at H
     refine Dp ?_
     exact⟨_,_,_,_,_,_,hcc,rfl,H⟩
    ·refine oL ?_
     intro bp _ H';clear H;have H:=H';clear H'
     refine rE ?_
     intro bd _ H';clear H;have H:=H';clear H'
     refine aC ?_
     refine D9 H O O fun ZL _ H=>qO ?_
     replace H:=H.pick 3 rfl;simp only[Bv]at H
     replace H:=H.pick 4 rfl;simp only[Bv]at H
     replace H:=H.pick 3 rfl;simp only[Bv]at H
     replace H:=H.pick 4 rfl;simp only[Bv]at H
     replace H:=H.pick 4 rfl;simp only[Bv]at H
     have H:=HR.more H;clear HR;simp only[Bv]at H
     refine Dp ?_
     exact⟨_,_,_,_,_,_,hcc,rfl,H⟩
   ·refine oL ?_
    intro bd _ H';clear H;have H:=H';clear H'
    refine mP ?_
    refine Et 2 9 ?_ ?_
    ·refine CB O (aY ?_)
     rintro e W1 ⟨bc,cc,rfl,hcc,H'⟩
     refine⟨_,rfl,?_⟩
     have H:=H.more H';clear H'
     refine rH ?_
     intro bp _ H';clear H;have H:=H';clear H'
     refine aC ?_
     refine D9 H O O fun ZL _ H=>qO ?_
     replace H:=H.pick 2 rfl;simp only[Bv]at H
     replace H:=H.pick 4 rfl;simp only[Bv]at H
     replace H:=H.pick 4 rfl;simp only[Bv]at H
     replace H:=H.pick 4 rfl;simp only[Bv]at H
     replace H:=H.pick 4 rfl;simp only[Bv]at H
     have H:=HR.more H;clear HR;simp only[Bv]at H
     refine Dp ?_
     exact⟨_,_,_,_,_,_,hcc,rfl,H⟩
    ·refine oL ?_
     intro bp _ H';clear H;have H:=H';clear H'
     refine qU ?_
     rintro e W1 ⟨bc,cc,rfl,hcc,H'⟩
     refine⟨_,rfl,?_⟩
     have H:=H.more H';clear H'
     refine aC ?_
     refine D9 H O O fun ZL _ H=>qO ?_
     replace H:=H.pick 1 rfl;simp only[Bv]at H
     replace H:=H.pick 4 rfl;simp only[Bv]at H
     replace H:=H.pick 4 rfl;simp only[Bv]at H
     replace H:=H.pick 4 rfl;simp only[Bv]at H
     replace H:=H.pick 4 rfl;simp only[Bv]at H
     have H:=HR.more H;clear HR;simp only[Bv]at H
     refine Dp ?_
     exact⟨_,_,_,_,_,_,hcc,rfl,H⟩
   ·refine oL ?_
    intro bp _ H';clear H;have H:=H';clear H'
    refine mP ?_
    refine Et 2 7 ?_ ?_
    ·refine CB O (aY ?_)
     rintro e W1 ⟨bc,cc,rfl,hcc,H'⟩
     refine⟨_,rfl,?_⟩
     have H:=H.more H';clear H'
     refine rE ?_
     intro bd _ H';clear H;have H:=H';clear H'
     refine aC ?_
     refine D9 H O O fun ZL _ H=>qO ?_
     replace H:=H.pick 2 rfl;simp only[Bv]at H
     replace H:=H.pick 4 rfl;simp only[Bv]at H
     replace H:=H.pick 3 rfl;simp only[Bv]at H
     replace H:=H.pick 4 rfl;simp only[Bv]at H
     replace H:=H.pick 4 rfl;simp only[Bv]at H
     have H:=HR.more H;clear HR;simp only[Bv]at H
     refine Dp ?_
     exact⟨_,_,_,_,_,_,hcc,rfl,H⟩
    ·refine oL ?_
     intro bd _ H';clear H;have H:=H';clear H'
     refine qU ?_
     rintro e W1 ⟨bc,cc,rfl,hcc,H'⟩
     refine⟨_,rfl,?_⟩
     have H:=H.more H';clear H'
     refine aC ?_
     refine D9 H O O fun ZL _ H=>qO ?_
     replace H:=H.pick 1 rfl;simp only[Bv]at H
     replace H:=H.pick 4 rfl;simp only[Bv]at H
     replace H:=H.pick 3 rfl;simp only[Bv]at H
     replace H:=H.pick 4 rfl;simp only[Bv]at H
     replace H:=H.pick 4 rfl;simp only[Bv]at H
     have H:=HR.more H;clear HR;simp only[Bv]at H
     refine Dp ?_
     exact⟨_,_,_,_,_,_,hcc,rfl,H⟩
  ·refine oL ?_
   intro bd _ H';clear H;have H:=H';clear H'
   refine mP ?_
   refine Vw 2 5 9 Aw ?_ ?_ ?_
   ·refine CB O (aY ?_)
    rintro e W1 ⟨bc,cc,rfl,hcc,H'⟩
    refine⟨_,rfl,?_⟩
    have H:=H.more H';clear H'
    refine mP ?_
    refine Et 5 9 ?_ ?_
    ·refine CB O (bG ?_)
     intro bf _ H';clear H;have H:=H';clear H'
     refine rH ?_
     intro bp _ H';clear H;have H:=H';clear H'
     refine aC ?_
     refine D9 H O O fun ZL _ H=>qO ?_
     replace H:=H.pick 3 rfl;simp only[Bv]at H
     replace H:=H.pick 3 rfl;simp only[Bv]at H
     replace H:=H.pick 4 rfl;simp only[Bv]at H
     replace H:=H.pick 4 rfl;simp only[Bv]at H
     replace H:=H.pick 4 rfl;simp only[Bv]at H
     have H:=HR.more H;clear HR;simp only[Bv]at H
     refine Dp ?_
     exact⟨_,_,_,_,_,_,hcc,rfl,H⟩
    ·refine oL ?_
     intro bp _ H';clear H;have H:=H';clear H'
     refine qY ?_
     intro bf _ H';clear H;have H:=H';clear H'
     refine aC ?_
     refine D9 H O O fun ZL _ H=>qO ?_
     replace H:=H.pick 3 rfl;simp only[Bv]at H
     replace H:=H.pick 2 rfl;simp only[Bv]at H
     replace H:=H.pick 4 rfl;simp only[Bv]at H
     replace H:=H.pick 4 rfl;simp only[Bv]at H
     replace H:=H.pick 4 rfl;simp only[Bv]at H
     have H:=HR.more H;clear HR;simp only[Bv]at H
     refine Dp ?_
     exact⟨_,_,_,_,_,_,hcc,rfl,H⟩
   ·refine CB O (bG ?_)
    intro bf _ H';clear H;have H:=H';clear H'
    refine mP ?_
    refine Et 2 9 ?_ ?_
    ·refine CB O (aY ?_)
     rintro e W1 ⟨bc,cc,rfl,hcc,H'⟩
     refine⟨_,rfl,?_⟩
     have H:=H.more H';clear H'
     refine rH ?_
     intro bp _ H';clear H;have H:=H';clear H'
     refine aC ?_
     refine D9 H O O fun ZL _ H=>qO ?_
     replace H:=H.pick 2 rfl;simp only[Bv]at H
     replace H:=H.pick 3 rfl;simp only[Bv]at H
     replace H:=H.pick 4 rfl;simp only[Bv]at H
     replace H:=H.pick 4 rfl;simp only[Bv]at H
     replace H:=H.pick 4 rfl;simp only[Bv]at H
     have H:=HR.more H;clear HR;simp only[Bv]at H
     refine Dp ?_
     exact⟨_,_,_,_,_,_,hcc,rfl,H⟩
    ·refine oL ?_
     intro bp _ H';clear H;have H:=H';clear H'
     refine qU ?_
     rintro e W1 ⟨bc,cc,rfl,hcc,H'⟩
     refine⟨_,rfl,?_⟩
     have H:=H.more H';clear H'
     refine aC ?_
     refine D9 H O O fun ZL _ H=>qO ?_
     replace H:=H.pick 1 rfl;simp only[Bv]at H
     replace H:=H.pick 3 rfl;simp only[Bv]at H
     replace H:=H.pick 4 rfl;simp only[Bv]at H
     replace H:=H.pick 4 rfl;simp only[Bv]at H
     replace H:=H.pick 4 rfl;simp only[Bv]at H
     have H:=HR.more H;clear HR;simp only[Bv]at H
     refine Dp ?_
     exact⟨_,_,_,_,_,_,hcc,rfl,H⟩
   ·refine oL ?_
    intro bp _ H';clear H;have H:=H';clear H'
    refine mP ?_
    refine Et 2 5 ?_ ?_
    ·refine CB O (aY ?_)
     rintro e W1 ⟨bc,cc,rfl,hcc,H'⟩
     refine⟨_,rfl,?_⟩
     have H:=H.more H';clear H'
     refine qY ?_
     intro bf _ H';clear H;have H:=H';clear H'
     refine aC ?_
     refine D9 H O O fun ZL _ H=>qO ?_
     replace H:=H.pick 2 rfl;simp only[Bv]at H
     replace H:=H.pick 2 rfl;simp only[Bv]at H
     replace H:=H.pick 4 rfl;simp only[Bv]at H
     replace H:=H.pick 4 rfl;simp only[Bv]at H
     replace H:=H.pick 4 rfl;simp only[Bv]at H
     have H:=HR.more H;clear HR;simp only[Bv]at H
     refine Dp ?_
     exact⟨_,_,_,_,_,_,hcc,rfl,H⟩
    ·refine CB O (bG ?_)
     intro bf _ H';clear H;have H:=H';clear H'
     refine qU ?_
     rintro e W1 ⟨bc,cc,rfl,hcc,H'⟩
     refine⟨_,rfl,?_⟩
     have H:=H.more H';clear H'
     refine aC ?_
     refine D9 H O O fun ZL _ H=>qO ?_
     replace H:=H.pick 1 rfl;simp only[Bv]at H
     replace H:=H.pick 2 rfl;simp only[Bv]at H
     replace H:=H.pick 4 rfl;simp only[Bv]at H
     replace H:=H.pick 4 rfl;simp only[Bv]at H
     replace H:=H.pick 4 rfl;simp only[Bv]at H
     have H:=HR.more H;clear HR;simp only[Bv]at H
     refine Dp ?_
     exact⟨_,_,_,_,_,_,hcc,rfl,H⟩
  ·refine oL ?_
   intro bp _ H';clear H;have H:=H';clear H'
   refine mP ?_
   refine Vw 2 5 7 Aw ?_ ?_ ?_
   ·refine CB O (aY ?_)
    rintro e W1 ⟨bc,cc,rfl,hcc,H'⟩
    refine⟨_,rfl,?_⟩
    have H:=H.more H';clear H'
    refine mP ?_
    refine Et 5 7 ?_ ?_
    ·refine CB O (bG ?_)
     intro bf _ H';clear H;have H:=H';clear H'
     refine rE ?_
     intro bd _ H';clear H;have H:=H';clear H'
     refine aC ?_
     refine D9 H O O fun ZL _ H=>qO ?_
     replace H:=H.pick 3 rfl;simp only[Bv]at H
     replace H:=H.pick 3 rfl;simp only[Bv]at H
     replace H:=H.pick 3 rfl;simp only[Bv]at H
     replace H:=H.pick 4 rfl;simp only[Bv]at H
     replace H:=H.pick 4 rfl;simp only[Bv]at H
     have H:=HR.more H;clear HR;simp only[Bv]at H
     refine Dp ?_
     exact⟨_,_,_,_,_,_,hcc,rfl,H⟩
    ·refine oL ?_
     intro bd _ H';clear H;have H:=H';clear H'
     refine qY ?_
     intro bf _ H';clear H;have H:=H';clear H'
     refine aC ?_
     refine D9 H O O fun ZL _ H=>qO ?_
     replace H:=H.pick 3 rfl;simp only[Bv]at H
     replace H:=H.pick 2 rfl;simp only[Bv]at H
     replace H:=H.pick 3 rfl;simp only[Bv]at H
     replace H:=H.pick 4 rfl;simp only[Bv]at H
     replace H:=H.pick 4 rfl;simp only[Bv]at H
     have H:=HR.more H;clear HR;simp only[Bv]at H
     refine Dp ?_
     exact⟨_,_,_,_,_,_,hcc,rfl,H⟩
   ·refine CB O (bG ?_)
    intro bf _ H';clear H;have H:=H';clear H'
    refine mP ?_
    refine Et 2 7 ?_ ?_
    ·refine CB O (aY ?_)
     rintro e W1 ⟨bc,cc,rfl,hcc,H'⟩
     refine⟨_,rfl,?_⟩
     have H:=H.more H';clear H'
     refine rE ?_
     intro bd _ H';clear H;have H:=H';clear H'
     refine aC ?_
     refine D9 H O O fun ZL _ H=>qO ?_
     replace H:=H.pick 2 rfl;simp only[Bv]at H
     replace H:=H.pick 3 rfl;simp only[Bv]at H
     replace H:=H.pick 3 rfl;simp only[Bv]at H
     replace H:=H.pick 4 rfl;simp only[Bv]at H
     replace H:=H.pick 4 rfl;simp only[Bv]at H
     have H:=HR.more H;clear HR;simp only[Bv]at H
     refine Dp ?_
     exact⟨_,_,_,_,_,_,hcc,rfl,H⟩
    ·refine oL ?_
     intro bd _ H';clear H;have H:=H';clear H'
     refine qU ?_
     rintro e W1 ⟨bc,cc,rfl,hcc,H'⟩
     refine⟨_,rfl,?_⟩
     have H:=H.more H';clear H'
     refine aC ?_
     refine D9 H O O fun ZL _ H=>qO ?_
     replace H:=H.pick 1 rfl;simp only[Bv]at H
     replace H:=H.pick 3 rfl;simp only[Bv]at H
     replace H:=H.pick 3 rfl;simp only[Bv]at H
     replace H:=H.pick 4 rfl;simp only[Bv]at H
     replace H:=H.pick 4 rfl;simp only[Bv]at H
     have H:=HR.more H;clear HR;simp only[Bv]at H
     refine Dp ?_
     exact⟨_,_,_,_,_,_,hcc,rfl,H⟩
   ·refine oL ?_
    intro bd _ H';clear H;have H:=H';clear H'
    refine mP ?_
    refine Et 2 5 ?_ ?_
    ·refine CB O (aY ?_)
     rintro e W1 ⟨bc,cc,rfl,hcc,H'⟩
     refine⟨_,rfl,?_⟩
     have H:=H.more H';clear H'
     refine qY ?_
     intro bf _ H';clear H;have H:=H';clear H'
     refine aC ?_
     refine D9 H O O fun ZL _ H=>qO ?_
     replace H:=H.pick 2 rfl;simp only[Bv]at H
     replace H:=H.pick 2 rfl;simp only[Bv]at H
     replace H:=H.pick 3 rfl;simp only[Bv]at H
     replace H:=H.pick 4 rfl;simp only[Bv]at H
     replace H:=H.pick 4 rfl;simp only[Bv]at H
     have H:=HR.more H;clear HR;simp only[Bv]at H
     refine Dp ?_
     exact⟨_,_,_,_,_,_,hcc,rfl,H⟩
    ·refine CB O (bG ?_)
     intro bf _ H';clear H;have H:=H';clear H'
     refine qU ?_
     rintro e W1 ⟨bc,cc,rfl,hcc,H'⟩
     refine⟨_,rfl,?_⟩
     have H:=H.more H';clear H'
     refine aC ?_
     refine D9 H O O fun ZL _ H=>qO ?_
     replace H:=H.pick 1 rfl;simp only[Bv]at H
     replace H:=H.pick 2 rfl;simp only[Bv]at H
     replace H:=H.pick 3 rfl;simp only[Bv]at H
     replace H:=H.pick 4 rfl;simp only[Bv]at H
     replace H:=H.pick 4 rfl;simp only[Bv]at H
     have H:=HR.more H;clear HR;simp only[Bv]at H
     refine Dp ?_
     exact⟨_,_,_,_,_,_,hcc,rfl,H⟩
 clear H
 rintro f' W ⟨p,bc,cc,bf,bd,bp,hcc,h2,H⟩
 obtain⟨f',rfl⟩:=aci h2
 refine AX (iD ?_)
 refine⟨⟨p,b,bc,bf,bd,bp,c,cc,8*m,m,m⟩,rfl,⟨hc,hcc,by simp;omega,by simp;omega,by simp;omega⟩,?_⟩
 unfold Dy Gq Nv.load
 simp only[hl,Dn]
 refine H.perm (List.Perm.cons _ ?_)
 exact(List.reverse_perm [vec (Value.int .u64) b ws 26,vec (Value.int .u64) bc ws 26,vec (Value.int .u64) bf (List.replicate (8*m) 0) 26,vec Value.bool bd (List.replicate m false) 4,vec Value.bool bp (List.replicate m false) 4])
theorem nUp(n:Int)(w:World)(h: -9223372036854775808≤n∧n≤9223372036854775807):
 Calls prog 100 [.int .i64 n,.int .i64 8].toArray w fun e w'=>e= .returned (.int .i64 (((n.toNat+7)/8:Nat):Int))∧Only [] w w':=by
 have H:=Heap.nil w
 by_cases h0:n≤0
 ·refine BO 16 func100 O (AP (lV ?_))
  refine AV (YU O O Y) (BX O (Df 7 O O (Df 7 O O (EZ O O (gG ?_)))))
  exact⟨by rw[show((n.toNat+7)/8:Nat)=0 from by omega];rfl,H.only⟩
 ·refine BO 16 func100 O (AP (lV ?_))
  refine AV (aaJ O O Y) (BX O (Bo 7 O (Gm O) (Bo 7 O (aaJ O O Y) (gQ ?_))))
  refine AP (AQ O (mD ?_))
  refine AQ O (AV (SI O O Y (wI Y)) (dw ?_))
  refine eu ?_
  exact⟨FK Y,H.only⟩
theorem nNew(n:Int)(w:World)(h: -9223372036854775808≤n∧n≤500000):
 Calls prog 32 [.int .i64 n].toArray w fun e w'=>∃g,e= .returned (ptr g.p)∧Q5 g ((n.toNat+7)/8)∧Heap w [] (Dy g (Nv.load (List.replicate (8*((n.toNat+7)/8)) 0) ((n.toNat+7)/8))) w':=by
 have H:=Heap.nil w
 have hq:(n.toNat+7)/8≤100000:=Y
 have hU:=nUp n w Y
 generalize(n.toNat+7)/8=m at hq hU⊢
 refine BO 10 func32 O (AP (Fb O (AO (AP (AQ O (BL H O (hU) (apf O) fun W1 H=>xK ?_))))))
 refine AV (Ya O O (wI Y)) (bG ?_)
 intro b _ H';clear H;have H:=H';clear H'
 refine s_call O (ang b (8*m) m _ _ H.ents J hq Y) (aqD O) ?_
 rintro e W1 ⟨g,rfl,hg,H'⟩
 refine⟨_,rfl,?_⟩
 have H:=H.whole H';clear H'
 refine sQ ?_
 exact⟨g,rfl,hg,H⟩
end
end
end Go.Proofs.YtppilhpcmkekbaaGreat
