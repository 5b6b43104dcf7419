/- Parts of the proof. -/
import Derived.Deep.RegionHeld3
import Derived.Test.YtppilhpcmkekbaaGreatKTopBothc
set_option linter.unusedSimpArgs false
set_option linter.unusedVariables false
set_option linter.unusedSectionVars false
set_option maxRecDepth 100000
set_option maxHeartbeats 16000000
namespace Go.Proofs.YtppilhpcmkekbaaGreat
open Go.Proofs.Tryz
section
section
open Go.RowKit
theorem afu:(prog.info? 217).isSome=true:=by kernel_rfl
theorem Gv.OM{W:World}{b:Nat}{cs:Array Value}{T:TypeId}(h:Ko W b cs T)(off m:Nat)(hm:off+m≤cs.size):Gv W W.heap.size (some ⟨b,off,none⟩) m ((cs.toList.drop off).take m):=by
 refine⟨by simp;omega,fun _=>⟨b,off,rfl,h.lt,fun j u hu=>?_⟩⟩
 have hj:j<m:=by
  have:=(BK.1 hu).1
  simp at this;omega
 rw[ES hj,EW]at hu
 exact h.cell (off+j) u (by simpa using hu)
theorem ae0(E a b c d n:Int)(hE:0≤E∧E≤18446744073709551615)(ha:0≤a∧a≤131071)(hb:0≤b∧b≤131071)(hc:0≤c∧c≤131071)(hd:0≤d∧d≤131071)(hn:0≤n∧n≤1):Ints .u64 [E,a,b,c,d,n,0]:=by
 intro x hx
 simp at hx
 apply wf_u64
 rcases hx with rfl|rfl|rfl|rfl|rfl|rfl|rfl<;>omega
theorem am5(E r0 r1 r2 r3 r4 r5 r6 r7:Int)(w:World)(hE:0≤E∧E≤18446744073709551615)(hR:∀r∈[r0,r1,r2,r3,r4,r5,r6,r7],I64 r)(h:St.Ia E [r0,r1,r2,r3,r4,r5,r6,r7]=false):
 Calls prog 228 #[.agg #[.int .u64 E,.int .i64 r0,.int .i64 r1,.int .i64 r2,.int .i64 r3,.int .i64 r4,.int .i64 r5,.int .i64 r6,.int .i64 r7]] w fun e w'=>e= .returned (.agg #[.int .u64 0,.int .u64 0,.int .u64 0,.int .u64 0,.int .u64 0,.int .u64 0,.int .u64 0,.int .u64 0,.int .u64 0,.int .u64 0,.int .u64 0,.int .u64 0,.int .u64 0,.int .u64 0,.int .u64 0,.int .u64 0])∧Below w.heap.size w w':=by
 have HRR:=Lib.hid hR
 clear hR
 obtain⟨i16,amL⟩:=I4.1 afu
 have HI:=Lib.hid amL
 clear amL
 have hone:∀v∈(#[.int .u64 0,.int .u64 0,.int .u64 0,.int .u64 0,.int .u64 0,.int .u64 0,.int .u64 0,.int .u64 0,.int .u64 0,.int .u64 0,.int .u64 0,.int .u64 0,.int .u64 0,.int .u64 0,.int .u64 0,.int .u64 0]:Array Value).toList,v.oneCell'=true:=by simp[Value.oneCell']
 have ak2:=Lib.hid hone
 clear hone
 have X:=Lib.hid (((Ko.new w #[.int .u64 E,.int .i64 r0,.int .i64 r1,.int .i64 r2,.int .i64 r3,.int .i64 r4,.int .i64 r5,.int .i64 r6,.int .i64 r7] 214).alloc (.cells #[.int .u64 0,.int .u64 0,.int .u64 0,.int .u64 0,.int .u64 0,.int .u64 0,.int .u64 0,.int .u64 0,.int .u64 0,.int .u64 0,.int .u64 0,.int .u64 0,.int .u64 0,.int .u64 0,.int .u64 0,.int .u64 0] 217)).alloc (.cells #[.int .u64 0,.int .u64 0,.int .u64 0,.int .u64 0,.int .u64 0,.int .u64 0,.int .u64 0,.int .u64 0,.int .u64 0,.int .u64 0,.int .u64 0,.int .u64 0,.int .u64 0,.int .u64 0,.int .u64 0,.int .u64 0] 217))
 have R:=Lib.hid ((Ko.new1 w (.cells #[.int .u64 E,.int .i64 r0,.int .i64 r1,.int .i64 r2,.int .i64 r3,.int .i64 r4,.int .i64 r5,.int .i64 r6,.int .i64 r7] 214) #[.int .u64 0,.int .u64 0,.int .u64 0,.int .u64 0,.int .u64 0,.int .u64 0,.int .u64 0,.int .u64 0,.int .u64 0,.int .u64 0,.int .u64 0,.int .u64 0,.int .u64 0,.int .u64 0,.int .u64 0,.int .u64 0] 217).alloc (.cells #[.int .u64 0,.int .u64 0,.int .u64 0,.int .u64 0,.int .u64 0,.int .u64 0,.int .u64 0,.int .u64 0,.int .u64 0,.int .u64 0,.int .u64 0,.int .u64 0,.int .u64 0,.int .u64 0,.int .u64 0,.int .u64 0] 217))
 have AL:=Lib.hid (Ko.new2 w (.cells #[.int .u64 E,.int .i64 r0,.int .i64 r1,.int .i64 r2,.int .i64 r3,.int .i64 r4,.int .i64 r5,.int .i64 r6,.int .i64 r7] 214) (.cells #[.int .u64 0,.int .u64 0,.int .u64 0,.int .u64 0,.int .u64 0,.int .u64 0,.int .u64 0,.int .u64 0,.int .u64 0,.int .u64 0,.int .u64 0,.int .u64 0,.int .u64 0,.int .u64 0,.int .u64 0,.int .u64 0] 217) #[.int .u64 0,.int .u64 0,.int .u64 0,.int .u64 0,.int .u64 0,.int .u64 0,.int .u64 0,.int .u64 0,.int .u64 0,.int .u64 0,.int .u64 0,.int .u64 0,.int .u64 0,.int .u64 0,.int .u64 0,.int .u64 0] 217)
 have hB:Below w.heap.size w (((w.alloc (.cells #[.int .u64 E,.int .i64 r0,.int .i64 r1,.int .i64 r2,.int .i64 r3,.int .i64 r4,.int .i64 r5,.int .i64 r6,.int .i64 r7] 214)).alloc (.cells #[.int .u64 0,.int .u64 0,.int .u64 0,.int .u64 0,.int .u64 0,.int .u64 0,.int .u64 0,.int .u64 0,.int .u64 0,.int .u64 0,.int .u64 0,.int .u64 0,.int .u64 0,.int .u64 0,.int .u64 0,.int .u64 0] 217)).alloc (.cells #[.int .u64 0,.int .u64 0,.int .u64 0,.int .u64 0,.int .u64 0,.int .u64 0,.int .u64 0,.int .u64 0,.int .u64 0,.int .u64 0,.int .u64 0,.int .u64 0,.int .u64 0,.int .u64 0,.int .u64 0,.int .u64 0] 217)):=(((Below.refl _ _).alloc (BF _) _).alloc J _).alloc Am _
 go_enter func228,Tryz.ntmps228
 go_wp2_with (first
  |(go_at_call 249;refine(PI _ _ _ _ _ _ _ _ _ _ hE HRR.out).mono ?_;rintro e w1 ⟨rfl,hb1⟩;have X1:=X.out.below hb1 X.out.lt;have R1:=R.out.below hb1 R.out.lt;have O1:=AL.out.below hb1 AL.out.lt;have hB1:=hB.trans (hb1.mono hB.size))
  |(refine wpList_load_row (P:=prog) rfl 217 (.tmp 3) rfl (w.heap.size+1+1) rfl _ #[.int .u64 0,.int .u64 0,.int .u64 0,.int .u64 0,.int .u64 0,.int .u64 0,.int .u64 0,.int .u64 0,.int .u64 0,.int .u64 0,.int .u64 0,.int .u64 0,.int .u64 0,.int .u64 0,.int .u64 0,.int .u64 0] (0,0) _ O1 underlying217 rfl Aw ?_)
  |(refine wpList_store_row (P:=prog) rfl 217 (.tmp 2) (.tmp 10) rfl (w.heap.size+1) _ #[.int .u64 0,.int .u64 0,.int .u64 0,.int .u64 0,.int .u64 0,.int .u64 0,.int .u64 0,.int .u64 0,.int .u64 0,.int .u64 0,.int .u64 0,.int .u64 0,.int .u64 0,.int .u64 0,.int .u64 0,.int .u64 0] _ rfl rfl R1 rfl HI.out Aw ak2.out ?_))
 exact bodyPost_ret (v:= .agg #[.int .u64 0,.int .u64 0,.int .u64 0,.int .u64 0,.int .u64 0,.int .u64 0,.int .u64 0,.int .u64 0,.int .u64 0,.int .u64 0,.int .u64 0,.int .u64 0,.int .u64 0,.int .u64 0,.int .u64 0,.int .u64 0]) (results_cell_row rfl _ _ (w.heap.size+1) _ #[.int .u64 0,.int .u64 0,.int .u64 0,.int .u64 0,.int .u64 0,.int .u64 0,.int .u64 0,.int .u64 0,.int .u64 0,.int .u64 0,.int .u64 0,.int .u64 0,.int .u64 0,.int .u64 0,.int .u64 0,.int .u64 0] (0,0) _ rfl (setRow_heap _ _ _ _ _ _ R1) underlying217 rfl Aw) rfl ⟨rfl,below_setRow hB1 (by first|omega|(simp;done)) _⟩
theorem Y4(E r0 r1 r2 r3 r4 r5 r6 r7:Int)(w:World)(hE:0≤E∧E≤18446744073709551615)(hE0:0<E)(hr0:0≤r0∧r0≤131071)(hr1:0≤r1∧r1≤131071)(hr2:0≤r2∧r2≤131071)(hr3:0≤r3∧r3≤131071)(hr4:0≤r4∧r4≤131071)(hr5:0≤r5∧r5≤131071)(hr6:0≤r6∧r6≤131071)(hr7:0≤r7∧r7≤131071):
 Calls prog 228 #[.agg #[.int .u64 E,.int .i64 r0,.int .i64 r1,.int .i64 r2,.int .i64 r3,.int .i64 r4,.int .i64 r5,.int .i64 r6,.int .i64 r7]] w fun e w'=>e= .returned (.agg #[.int .u64 E,.int .u64 r0,.int .u64 r1,.int .u64 r2,.int .u64 r3,.int .u64 0,.int .u64 0,.int .u64 (St.QF E r0 r1 r2 r3),.int .u64 E,.int .u64 r4,.int .u64 r5,.int .u64 r6,.int .u64 r7,.int .u64 1,.int .u64 0,.int .u64 (St.QZ E r4 r5 r6 r7)])∧Below w.heap.size w w':=by
 have hRb:St.okR [r0,r1,r2,r3,r4,r5,r6,r7]:=by
  intro r hr
  simp at hr
  rcases hr with rfl|rfl|rfl|rfl|rfl|rfl|rfl|rfl<;>assumption
 have hrb:=St.F7 E _ hRb hE0
 have HRR:=Lib.hid (fun r hr=>(⟨by have:=hRb r hr;omega,by have:=hRb r hr;omega⟩:I64 r))
 have S0:=St.aiV E r0 r1 r2 r3
 have S1:=St.ah0 E r4 r5 r6 r7
 have W0:=Lib.hid (ae0 E r0 r1 r2 r3 0 hE hr0 hr1 hr2 hr3 Y)
 have W1:=Lib.hid (ae0 E r4 r5 r6 r7 1 hE hr4 hr5 hr6 hr7 Y)
 clear hRb
 obtain⟨i16,amL⟩:=I4.1 afu
 have HI:=Lib.hid amL
 clear amL
 have hone:∀v∈(#[.int .u64 E,.int .u64 r0,.int .u64 r1,.int .u64 r2,.int .u64 r3,.int .u64 0,.int .u64 0,.int .u64 (St.QF E r0 r1 r2 r3),.int .u64 E,.int .u64 r4,.int .u64 r5,.int .u64 r6,.int .u64 r7,.int .u64 1,.int .u64 0,.int .u64 (St.QZ E r4 r5 r6 r7)]:Array Value).toList,v.oneCell'=true:=by simp[Value.oneCell']
 have ak2:=Lib.hid hone
 clear hone
 have X:=Lib.hid (((Ko.new w #[.int .u64 E,.int .i64 r0,.int .i64 r1,.int .i64 r2,.int .i64 r3,.int .i64 r4,.int .i64 r5,.int .i64 r6,.int .i64 r7] 214).alloc (.cells #[.int .u64 0,.int .u64 0,.int .u64 0,.int .u64 0,.int .u64 0,.int .u64 0,.int .u64 0,.int .u64 0,.int .u64 0,.int .u64 0,.int .u64 0,.int .u64 0,.int .u64 0,.int .u64 0,.int .u64 0,.int .u64 0] 217)).alloc (.cells #[.int .u64 0,.int .u64 0,.int .u64 0,.int .u64 0,.int .u64 0,.int .u64 0,.int .u64 0,.int .u64 0,.int .u64 0,.int .u64 0,.int .u64 0,.int .u64 0,.int .u64 0,.int .u64 0,.int .u64 0,.int .u64 0] 217))
 have R:=Lib.hid ((Ko.new1 w (.cells #[.int .u64 E,.int .i64 r0,.int .i64 r1,.int .i64 r2,.int .i64 r3,.int .i64 r4,.int .i64 r5,.int .i64 r6,.int .i64 r7] 214) #[.int .u64 0,.int .u64 0,.int .u64 0,.int .u64 0,.int .u64 0,.int .u64 0,.int .u64 0,.int .u64 0,.int .u64 0,.int .u64 0,.int .u64 0,.int .u64 0,.int .u64 0,.int .u64 0,.int .u64 0,.int .u64 0] 217).alloc (.cells #[.int .u64 0,.int .u64 0,.int .u64 0,.int .u64 0,.int .u64 0,.int .u64 0,.int .u64 0,.int .u64 0,.int .u64 0,.int .u64 0,.int .u64 0,.int .u64 0,.int .u64 0,.int .u64 0,.int .u64 0,.int .u64 0] 217))
 have AL:=Lib.hid (Ko.new2 w (.cells #[.int .u64 E,.int .i64 r0,.int .i64 r1,.int .i64 r2,.int .i64 r3,.int .i64 r4,.int .i64 r5,.int .i64 r6,.int .i64 r7] 214) (.cells #[.int .u64 0,.int .u64 0,.int .u64 0,.int .u64 0,.int .u64 0,.int .u64 0,.int .u64 0,.int .u64 0,.int .u64 0,.int .u64 0,.int .u64 0,.int .u64 0,.int .u64 0,.int .u64 0,.int .u64 0,.int .u64 0] 217) #[.int .u64 0,.int .u64 0,.int .u64 0,.int .u64 0,.int .u64 0,.int .u64 0,.int .u64 0,.int .u64 0,.int .u64 0,.int .u64 0,.int .u64 0,.int .u64 0,.int .u64 0,.int .u64 0,.int .u64 0,.int .u64 0] 217)
 have hB:Below w.heap.size w (((w.alloc (.cells #[.int .u64 E,.int .i64 r0,.int .i64 r1,.int .i64 r2,.int .i64 r3,.int .i64 r4,.int .i64 r5,.int .i64 r6,.int .i64 r7] 214)).alloc (.cells #[.int .u64 0,.int .u64 0,.int .u64 0,.int .u64 0,.int .u64 0,.int .u64 0,.int .u64 0,.int .u64 0,.int .u64 0,.int .u64 0,.int .u64 0,.int .u64 0,.int .u64 0,.int .u64 0,.int .u64 0,.int .u64 0] 217)).alloc (.cells #[.int .u64 0,.int .u64 0,.int .u64 0,.int .u64 0,.int .u64 0,.int .u64 0,.int .u64 0,.int .u64 0,.int .u64 0,.int .u64 0,.int .u64 0,.int .u64 0,.int .u64 0,.int .u64 0,.int .u64 0,.int .u64 0] 217)):=(((Below.refl _ _).alloc (BF _) _).alloc J _).alloc Am _
 go_enter func228,Tryz.ntmps228
 go_wp2_with (first
  |(go_at_call 249;refine(PI _ _ _ _ _ _ _ _ _ _ hE HRR.out).mono ?_;rintro e w1 ⟨rfl,hb1⟩;have X1:=X.out.below hb1 X.out.lt;have R1:=R.out.below hb1 R.out.lt;have O1:=AL.out.below hb1 AL.out.lt;have hB1:=hB.trans (hb1.mono hB.size)))
 have ac0:=O1.cell 0 _ rfl
 have af0:=O1.frozen 0
 have ac1:=O1.cell 1 _ rfl
 have af1:=O1.frozen 1
 have ac2:=O1.cell 2 _ rfl
 have af2:=O1.frozen 2
 have ac3:=O1.cell 3 _ rfl
 have af3:=O1.frozen 3
 have ac4:=O1.cell 4 _ rfl
 have af4:=O1.frozen 4
 have ac5:=O1.cell 5 _ rfl
 have af5:=O1.frozen 5
 have ac6:=O1.cell 6 _ rfl
 have af6:=O1.frozen 6
 have ac7:=O1.cell 7 _ rfl
 have af7:=O1.frozen 7
 have ac8:=O1.cell 8 _ rfl
 have af8:=O1.frozen 8
 have ac9:=O1.cell 9 _ rfl
 have af9:=O1.frozen 9
 have awc:=O1.cell 10 _ rfl
 have awX:=O1.frozen 10
 have awD:=O1.cell 11 _ rfl
 have axj:=O1.frozen 11
 have axi:=O1.cell 12 _ rfl
 have axo:=O1.frozen 12
 have awl:=O1.cell 13 _ rfl
 have axt:=O1.frozen 13
 have awF:=O1.cell 14 _ rfl
 have awh:=O1.frozen 14
 have av6:=O1.cell 15 _ rfl
 have awZ:=O1.frozen 15
 have x0:=X1.cell 0 _ rfl
 have x1:=X1.cell 1 _ rfl
 have x2:=X1.cell 2 _ rfl
 have x3:=X1.cell 3 _ rfl
 have x4:=X1.cell 4 _ rfl
 have x5:=X1.cell 5 _ rfl
 have x6:=X1.cell 6 _ rfl
 have x7:=X1.cell 7 _ rfl
 have x8:=X1.cell 8 _ rfl
 refine wp_loop_rounds 3 (vS ?_)
 go_wp2_with fail
 refine wp_loop_rounds 5 (vS ?_)
 go_wp2_with fail
 refine vS ?_
 go_wp2_with fail
 refine vS ?_
 go_wp2_with fail
 refine vS ?_
 go_wp2_with fail
 refine vS ?_
 go_wp2_with fail
 have Oa:Ko _ (w.heap.size+1+1) #[.int .u64 E,.int .u64 r0,.int .u64 r1,.int .u64 r2,.int .u64 r3,.int .u64 0,.int .u64 0,.int .u64 0,.int .u64 0,.int .u64 0,.int .u64 0,.int .u64 0,.int .u64 0,.int .u64 0,.int .u64 0,.int .u64 0] 217:=((((((O1).set 0 (.int .u64 E)).set 1 (.int .u64 r0)).set 2 (.int .u64 r1)).set 3 (.int .u64 r2)).set 4 (.int .u64 r3)).set 5 (.int .u64 0)
 have agN:=(((((((Below.refl (w.heap.size+1+1) w1)).setCell (p:=⟨w.heap.size+1+1,0,none⟩) (BF _) (.int .u64 E)).setCell (p:=⟨w.heap.size+1+1,1,none⟩) (BF _) (.int .u64 r0)).setCell (p:=⟨w.heap.size+1+1,2,none⟩) (BF _) (.int .u64 r1)).setCell (p:=⟨w.heap.size+1+1,3,none⟩) (BF _) (.int .u64 r2)).setCell (p:=⟨w.heap.size+1+1,4,none⟩) (BF _) (.int .u64 r3)).setCell (p:=⟨w.heap.size+1+1,5,none⟩) (BF _) (.int .u64 0)
 refine(GL _ 7 _ [E,r0,r1,r2,r3,0,0] _ _ (Gv.OM Oa 0 7 J) W0.out Y (BF _)).mono ?_
 rintro e w2 ⟨rfl,hba⟩
 rw[show Cr.more 0 (By.bytes [E,r0,r1,r2,r3,0,0])=St.QF E r0 r1 r2 r3 from rfl]
 have Wl:=Oa.below hba Oa.lt
 have Xa':=(X1.below agN Y).below hba (X1.below agN Y).lt
 have Ra':=(R1.below agN Y).below hba (R1.below agN Y).lt
 have atN:=(hB1.trans (agN.mono Y)).trans (hba.mono (hB1.trans (agN.mono Y)).size)
 clear agN hba
 clear ac0 af0 ac1 af1 ac2 af2 ac3 af3 ac4 af4 ac5 af5 ac6 af6 ac7 af7 ac8 af8 ac9 af9 awc awX awD axj axi axo awl axt awF awh av6 awZ x0 x1 x2 x3 x4 x5 x6 x7 x8
 have bc0:=Wl.cell 0 _ rfl
 have bf0:=Wl.frozen 0
 have bc1:=Wl.cell 1 _ rfl
 have bf1:=Wl.frozen 1
 have bc2:=Wl.cell 2 _ rfl
 have bf2:=Wl.frozen 2
 have bc3:=Wl.cell 3 _ rfl
 have bf3:=Wl.frozen 3
 have bc4:=Wl.cell 4 _ rfl
 have bf4:=Wl.frozen 4
 have bc5:=Wl.cell 5 _ rfl
 have bf5:=Wl.frozen 5
 have bc6:=Wl.cell 6 _ rfl
 have bf6:=Wl.frozen 6
 have bc7:=Wl.cell 7 _ rfl
 have bf7:=Wl.frozen 7
 have bc8:=Wl.cell 8 _ rfl
 have bf8:=Wl.frozen 8
 have bc9:=Wl.cell 9 _ rfl
 have bf9:=Wl.frozen 9
 have awo:=Wl.cell 10 _ rfl
 have awz:=Wl.frozen 10
 have aw4:=Wl.cell 11 _ rfl
 have axd:=Wl.frozen 11
 have awS:=Wl.cell 12 _ rfl
 have awj:=Wl.frozen 12
 have aw7:=Wl.cell 13 _ rfl
 have axf:=Wl.frozen 13
 have aw6:=Wl.cell 14 _ rfl
 have aw8:=Wl.frozen 14
 have awf:=Wl.cell 15 _ rfl
 have avW:=Wl.frozen 15
 have y0:=Xa'.cell 0 _ rfl
 have y1:=Xa'.cell 1 _ rfl
 have y2:=Xa'.cell 2 _ rfl
 have y3:=Xa'.cell 3 _ rfl
 have y4:=Xa'.cell 4 _ rfl
 have y5:=Xa'.cell 5 _ rfl
 have y6:=Xa'.cell 6 _ rfl
 have y7:=Xa'.cell 7 _ rfl
 have y8:=Xa'.cell 8 _ rfl
 go_wp2_with fail
 refine vS ?_
 go_wp2_with fail
 refine wp_loop_rounds 5 (vS ?_)
 go_wp2_with fail
 refine vS ?_
 go_wp2_with fail
 refine vS ?_
 go_wp2_with fail
 refine vS ?_
 go_wp2_with fail
 refine vS ?_
 go_wp2_with fail
 have Ob:Ko _ (w.heap.size+1+1) #[.int .u64 E,.int .u64 r0,.int .u64 r1,.int .u64 r2,.int .u64 r3,.int .u64 0,.int .u64 0,.int .u64 (St.QF E r0 r1 r2 r3),.int .u64 E,.int .u64 r4,.int .u64 r5,.int .u64 r6,.int .u64 r7,.int .u64 1,.int .u64 0,.int .u64 0] 217:=(((((((Wl).set 7 (.int .u64 (St.QF E r0 r1 r2 r3))).set 8 (.int .u64 E)).set 9 (.int .u64 r4)).set 10 (.int .u64 r5)).set 11 (.int .u64 r6)).set 12 (.int .u64 r7)).set 13 (.int .u64 1)
 have aht:=((((((((Below.refl (w.heap.size+1+1) w2)).setCell (p:=⟨w.heap.size+1+1,7,none⟩) (BF _) (.int .u64 (St.QF E r0 r1 r2 r3))).setCell (p:=⟨w.heap.size+1+1,8,none⟩) (BF _) (.int .u64 E)).setCell (p:=⟨w.heap.size+1+1,9,none⟩) (BF _) (.int .u64 r4)).setCell (p:=⟨w.heap.size+1+1,10,none⟩) (BF _) (.int .u64 r5)).setCell (p:=⟨w.heap.size+1+1,11,none⟩) (BF _) (.int .u64 r6)).setCell (p:=⟨w.heap.size+1+1,12,none⟩) (BF _) (.int .u64 r7)).setCell (p:=⟨w.heap.size+1+1,13,none⟩) (BF _) (.int .u64 1)
 refine(GL _ 7 _ [E,r4,r5,r6,r7,1,0] _ _ (Gv.OM Ob 8 7 J) W1.out Y (BF _)).mono ?_
 rintro e w3 ⟨rfl,hbb⟩
 rw[show Cr.more 0 (By.bytes [E,r4,r5,r6,r7,1,0])=St.QZ E r4 r5 r6 r7 from rfl]
 have Ob':=Ob.below hbb Ob.lt
 have Xb':=(Xa'.below aht Y).below hbb (Xa'.below aht Y).lt
 have Rb':=(Ra'.below aht Y).below hbb (Ra'.below aht Y).lt
 have axh:=(atN.trans (aht.mono Y)).trans (hbb.mono (atN.trans (aht.mono Y)).size)
 clear aht hbb
 clear bc0 bf0 bc1 bf1 bc2 bf2 bc3 bf3 bc4 bf4 bc5 bf5 bc6 bf6 bc7 bf7 bc8 bf8 bc9 bf9 awo awz aw4 axd awS awj aw7 axf aw6 aw8 awf avW y0 y1 y2 y3 y4 y5 y6 y7 y8
 have zc:=Ob'.cell 15 _ rfl
 have zf:=Ob'.frozen 15
 have Oc:Ko _ (w.heap.size+1+1) #[.int .u64 E,.int .u64 r0,.int .u64 r1,.int .u64 r2,.int .u64 r3,.int .u64 0,.int .u64 0,.int .u64 (St.QF E r0 r1 r2 r3),.int .u64 E,.int .u64 r4,.int .u64 r5,.int .u64 r6,.int .u64 r7,.int .u64 1,.int .u64 0,.int .u64 (St.QZ E r4 r5 r6 r7)] 217:=Ob'.set 15 (.int .u64 (St.QZ E r4 r5 r6 r7))
 have avT:=(Below.refl (w.heap.size+1+1) w3).setCell (p:=⟨w.heap.size+1+1,15,none⟩) (BF _) (.int .u64 (St.QZ E r4 r5 r6 r7))
 have Rc:=Rb'.below avT Y
 have hBc:=axh.trans (avT.mono Y)
 go_wp2_with fail
 refine vS ?_
 go_wp2_with (first
  |(refine wpList_load_row (P:=prog) rfl 217 (.tmp 3) rfl (w.heap.size+1+1) rfl _ #[.int .u64 E,.int .u64 r0,.int .u64 r1,.int .u64 r2,.int .u64 r3,.int .u64 0,.int .u64 0,.int .u64 (St.QF E r0 r1 r2 r3),.int .u64 E,.int .u64 r4,.int .u64 r5,.int .u64 r6,.int .u64 r7,.int .u64 1,.int .u64 0,.int .u64 (St.QZ E r4 r5 r6 r7)] (0,0) _ Oc underlying217 rfl Aw ?_)
  |(refine wpList_store_row (P:=prog) rfl 217 (.tmp 2) (.tmp 51) rfl (w.heap.size+1) _ #[.int .u64 E,.int .u64 r0,.int .u64 r1,.int .u64 r2,.int .u64 r3,.int .u64 0,.int .u64 0,.int .u64 (St.QF E r0 r1 r2 r3),.int .u64 E,.int .u64 r4,.int .u64 r5,.int .u64 r6,.int .u64 r7,.int .u64 1,.int .u64 0,.int .u64 (St.QZ E r4 r5 r6 r7)] _ rfl rfl Rc rfl HI.out Aw ak2.out ?_))
 exact bodyPost_ret (v:= .agg #[.int .u64 E,.int .u64 r0,.int .u64 r1,.int .u64 r2,.int .u64 r3,.int .u64 0,.int .u64 0,.int .u64 (St.QF E r0 r1 r2 r3),.int .u64 E,.int .u64 r4,.int .u64 r5,.int .u64 r6,.int .u64 r7,.int .u64 1,.int .u64 0,.int .u64 (St.QZ E r4 r5 r6 r7)]) (results_cell_row rfl _ _ (w.heap.size+1) _ #[.int .u64 E,.int .u64 r0,.int .u64 r1,.int .u64 r2,.int .u64 r3,.int .u64 0,.int .u64 0,.int .u64 (St.QF E r0 r1 r2 r3),.int .u64 E,.int .u64 r4,.int .u64 r5,.int .u64 r6,.int .u64 r7,.int .u64 1,.int .u64 0,.int .u64 (St.QZ E r4 r5 r6 r7)] (0,0) _ rfl (setRow_heap _ _ _ _ _ _ Rc) underlying217 rfl Aw) rfl ⟨rfl,below_setRow hBc (by first|omega|(simp;done)) _⟩
end
end
section
section
open Go.RowKit
end
end
section
section
open Go.RowKit
end
end
end Go.Proofs.YtppilhpcmkekbaaGreat
