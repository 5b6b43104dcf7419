/- Parts of the proof. -/
import Derived.Test.YtppilhpcmkekbaaGreatKTopBothj
set_option linter.unusedSimpArgs false
set_option linter.unusedVariables false
set_option linter.unusedSectionVars false
set_option maxRecDepth 100000
set_option maxHeartbeats 16000000
namespace Go.Proofs.YtppilhpcmkekbaaGreat
open Go.Proofs.Tryz
section
section
open Go.RowKit
def FT(x:Int):Prop:=0≤x∧x≤18446744073709551615
theorem VA(a b c d e f g:Int)(ha:FT a)(hb:FT b)(hc:FT c)(hd:FT d)(he:FT e)(hf:FT f)(hg:FT g):Ints .u64 [a,b,c,d,e,f,g]:=by
 intro x hx
 simp at hx
 apply wf_u64
 rcases hx with rfl|rfl|rfl|rfl|rfl|rfl|rfl<;>assumption
theorem aha(l0 l1 l2 l3 l4 l5 l6 l7 l8 l9 l10 G9 l12 I9 I8 l15:Int)(w:World)(hl0:FT l0)(hl1:FT l1)(hl2:FT l2)(hl3:FT l3)(hl4:FT l4)(hl5:FT l5)(hl6:FT l6)(hl7:FT l7)(hl8:FT l8)(hl9:FT l9)(Vk:FT l10)(UW:FT G9)(hl12:FT l12)(YK:FT I9)(YZ:FT I8)(aiW:FT l15)(hne:l7≠St.Ej l0 l1 l2 l3 l4 l5 l6):
 Calls prog 201 #[.agg #[.int .u64 l0,.int .u64 l1,.int .u64 l2,.int .u64 l3,.int .u64 l4,.int .u64 l5,.int .u64 l6,.int .u64 l7,.int .u64 l8,.int .u64 l9,.int .u64 l10,.int .u64 G9,.int .u64 l12,.int .u64 I9,.int .u64 I8,.int .u64 l15]] w fun e w'=>e= .returned (.tuple #[.agg #[.int .u64 0,.int .i64 0,.int .i64 0,.int .i64 0,.int .i64 0,.int .i64 0,.int .i64 0,.int .i64 0,.int .i64 0],.int .i64 25])∧Below w.heap.size w w':=by
 have d0:(l7 !=St.Ej l0 l1 l2 l3 l4 l5 l6)=true:=by rw[bne_iff_ne];exact hne
 clear hne
 have W0:=Lib.hid (VA l0 l1 l2 l3 l4 l5 l6 hl0 hl1 hl2 hl3 hl4 hl5 hl6)
 have W1:=Lib.hid (VA l8 l9 l10 G9 l12 I9 I8 hl8 hl9 Vk UW hl12 YK YZ)
 have b0:=St.NT l0 l1 l2 l3 l4 l5 l6
 have b1:=St.NT l8 l9 l10 G9 l12 I9 I8
 have q0:IntKind.u64.wrap (St.Ej l0 l1 l2 l3 l4 l5 l6)=St.Ej l0 l1 l2 l3 l4 l5 l6:=by rw[IntKind.wrap_u64];omega
 have q1:IntKind.u64.wrap (St.Ej l8 l9 l10 G9 l12 I9 I8)=St.Ej l8 l9 l10 G9 l12 I9 I8:=by rw[IntKind.wrap_u64];omega
 have X:=Lib.hid ((Ko.new w #[.int .u64 l0,.int .u64 l1,.int .u64 l2,.int .u64 l3,.int .u64 l4,.int .u64 l5,.int .u64 l6,.int .u64 l7,.int .u64 l8,.int .u64 l9,.int .u64 l10,.int .u64 G9,.int .u64 l12,.int .u64 I9,.int .u64 I8,.int .u64 l15] 217).alloc (.cells #[.int .u64 0,.int .i64 0,.int .i64 0,.int .i64 0,.int .i64 0,.int .i64 0,.int .i64 0,.int .i64 0,.int .i64 0] 214))
 have R:=Lib.hid (Ko.new1 w (.cells #[.int .u64 l0,.int .u64 l1,.int .u64 l2,.int .u64 l3,.int .u64 l4,.int .u64 l5,.int .u64 l6,.int .u64 l7,.int .u64 l8,.int .u64 l9,.int .u64 l10,.int .u64 G9,.int .u64 l12,.int .u64 I9,.int .u64 I8,.int .u64 l15] 217) #[.int .u64 0,.int .i64 0,.int .i64 0,.int .i64 0,.int .i64 0,.int .i64 0,.int .i64 0,.int .i64 0,.int .i64 0] 214)
 have hB:Below w.heap.size w ((w.alloc (.cells #[.int .u64 l0,.int .u64 l1,.int .u64 l2,.int .u64 l3,.int .u64 l4,.int .u64 l5,.int .u64 l6,.int .u64 l7,.int .u64 l8,.int .u64 l9,.int .u64 l10,.int .u64 G9,.int .u64 l12,.int .u64 I9,.int .u64 I8,.int .u64 l15] 217)).alloc (.cells #[.int .u64 0,.int .i64 0,.int .i64 0,.int .i64 0,.int .i64 0,.int .i64 0,.int .i64 0,.int .i64 0,.int .i64 0] 214)):=((Below.refl _ _).alloc (BF _) _).alloc J _
 generalize hZ:((w.alloc (.cells #[.int .u64 l0,.int .u64 l1,.int .u64 l2,.int .u64 l3,.int .u64 l4,.int .u64 l5,.int .u64 l6,.int .u64 l7,.int .u64 l8,.int .u64 l9,.int .u64 l10,.int .u64 G9,.int .u64 l12,.int .u64 I9,.int .u64 I8,.int .u64 l15] 217)).alloc (.cells #[.int .u64 0,.int .i64 0,.int .i64 0,.int .i64 0,.int .i64 0,.int .i64 0,.int .i64 0,.int .i64 0,.int .i64 0] 214))=Z at*
 have x7:=X.out.cell 7 _ rfl
 go_enter func201,Tryz.ntmps201
 go_wp2_with fail
 refine wp_loop_rounds 3 (vS ?_)
 go_wp2_with fail
 go_region_held3 (fun W=>W.cell? ⟨w.heap.size,7,none⟩=some (.int .u64 l7)∧Below Z.heap.size Z W)
  (first|assumption|exact⟨x7,(Below.refl _ _).drew⟩)
  (first
   |(go_at_call 44;refine(GL _ 7 _ [l0,l1,l2,l3,l4,l5,l6] _ _ ((Gv.OM X.out 0 7 J).below (by assumption:_∧Below _ _ _).2) W0.out Y (by assumption:_∧Below _ _ _).2.size).mono ?_;rintro e w5 ⟨rfl,hb5⟩;rw[show Cr.more 0 (By.bytes [l0,l1,l2,l3,l4,l5,l6])=St.Ej l0 l1 l2 l3 l4 l5 l6 from rfl];have hS:=(by assumption:_∧Below _ _ _);have hS':=And.intro ((hb5.cell (cell_lt hS.1)).trans hS.1) (hS.2.trans (hb5.mono hS.2.size))))
 have aa':=(by assumption:_∧Below Z.heap.size Z _)
 have Xw5:=X.out.below aa'.2 X.out.lt
 have ZR:=R.out.below aa'.2 R.out.lt
 have Bw5:=hB.trans (aa'.2.mono hB.size)
 have r0:=ZR.cell 0 _ rfl
 have r1:=ZR.cell 1 _ rfl
 have r2:=ZR.cell 2 _ rfl
 have r3:=ZR.cell 3 _ rfl
 have r4:=ZR.cell 4 _ rfl
 have r5:=ZR.cell 5 _ rfl
 have r6:=ZR.cell 6 _ rfl
 have r7:=ZR.cell 7 _ rfl
 have r8:=ZR.cell 8 _ rfl
 have f0:=ZR.frozen 0
 have f1:=ZR.frozen 1
 have f2:=ZR.frozen 2
 have f3:=ZR.frozen 3
 have f4:=ZR.frozen 4
 have f5:=ZR.frozen 5
 have f6:=ZR.frozen 6
 have f7:=ZR.frozen 7
 have f8:=ZR.frozen 8
 go_wp2_with fail
 exact bodyPost_ret (v:= .tuple #[.agg #[.int .u64 0,.int .i64 0,.int .i64 0,.int .i64 0,.int .i64 0,.int .i64 0,.int .i64 0,.int .i64 0,.int .i64 0],.int .i64 25]) Ag rfl ⟨rfl,(((((((((Bw5).setCell J _).setCell J _).setCell J _).setCell J _).setCell J _).setCell J _).setCell J _).setCell J _).setCell J _⟩
theorem agL(l0 l1 l2 l3 l4 l5 l6 l8 l9 l10 G9 l12 I9 I8 l15:Int)(w:World)(hl0:FT l0)(hl1:FT l1)(hl2:FT l2)(hl3:FT l3)(hl4:FT l4)(hl5:FT l5)(hl6:FT l6)(hl8:FT l8)(hl9:FT l9)(Vk:FT l10)(UW:FT G9)(hl12:FT l12)(YK:FT I9)(YZ:FT I8)(aiW:FT l15)(hne:l15≠St.Ej l8 l9 l10 G9 l12 I9 I8):
 Calls prog 201 #[.agg #[.int .u64 l0,.int .u64 l1,.int .u64 l2,.int .u64 l3,.int .u64 l4,.int .u64 l5,.int .u64 l6,.int .u64 (St.Ej l0 l1 l2 l3 l4 l5 l6),.int .u64 l8,.int .u64 l9,.int .u64 l10,.int .u64 G9,.int .u64 l12,.int .u64 I9,.int .u64 I8,.int .u64 l15]] w fun e w'=>e= .returned (.tuple #[.agg #[.int .u64 0,.int .i64 0,.int .i64 0,.int .i64 0,.int .i64 0,.int .i64 0,.int .i64 0,.int .i64 0,.int .i64 0],.int .i64 25])∧Below w.heap.size w w':=by
 have d1:(l15 !=St.Ej l8 l9 l10 G9 l12 I9 I8)=true:=by rw[bne_iff_ne];exact hne
 clear hne
 have W0:=Lib.hid (VA l0 l1 l2 l3 l4 l5 l6 hl0 hl1 hl2 hl3 hl4 hl5 hl6)
 have W1:=Lib.hid (VA l8 l9 l10 G9 l12 I9 I8 hl8 hl9 Vk UW hl12 YK YZ)
 have b0:=St.NT l0 l1 l2 l3 l4 l5 l6
 have b1:=St.NT l8 l9 l10 G9 l12 I9 I8
 have q0:IntKind.u64.wrap (St.Ej l0 l1 l2 l3 l4 l5 l6)=St.Ej l0 l1 l2 l3 l4 l5 l6:=by rw[IntKind.wrap_u64];omega
 have q1:IntKind.u64.wrap (St.Ej l8 l9 l10 G9 l12 I9 I8)=St.Ej l8 l9 l10 G9 l12 I9 I8:=by rw[IntKind.wrap_u64];omega
 have X:=Lib.hid ((Ko.new w #[.int .u64 l0,.int .u64 l1,.int .u64 l2,.int .u64 l3,.int .u64 l4,.int .u64 l5,.int .u64 l6,.int .u64 (St.Ej l0 l1 l2 l3 l4 l5 l6),.int .u64 l8,.int .u64 l9,.int .u64 l10,.int .u64 G9,.int .u64 l12,.int .u64 I9,.int .u64 I8,.int .u64 l15] 217).alloc (.cells #[.int .u64 0,.int .i64 0,.int .i64 0,.int .i64 0,.int .i64 0,.int .i64 0,.int .i64 0,.int .i64 0,.int .i64 0] 214))
 have R:=Lib.hid (Ko.new1 w (.cells #[.int .u64 l0,.int .u64 l1,.int .u64 l2,.int .u64 l3,.int .u64 l4,.int .u64 l5,.int .u64 l6,.int .u64 (St.Ej l0 l1 l2 l3 l4 l5 l6),.int .u64 l8,.int .u64 l9,.int .u64 l10,.int .u64 G9,.int .u64 l12,.int .u64 I9,.int .u64 I8,.int .u64 l15] 217) #[.int .u64 0,.int .i64 0,.int .i64 0,.int .i64 0,.int .i64 0,.int .i64 0,.int .i64 0,.int .i64 0,.int .i64 0] 214)
 have hB:Below w.heap.size w ((w.alloc (.cells #[.int .u64 l0,.int .u64 l1,.int .u64 l2,.int .u64 l3,.int .u64 l4,.int .u64 l5,.int .u64 l6,.int .u64 (St.Ej l0 l1 l2 l3 l4 l5 l6),.int .u64 l8,.int .u64 l9,.int .u64 l10,.int .u64 G9,.int .u64 l12,.int .u64 I9,.int .u64 I8,.int .u64 l15] 217)).alloc (.cells #[.int .u64 0,.int .i64 0,.int .i64 0,.int .i64 0,.int .i64 0,.int .i64 0,.int .i64 0,.int .i64 0,.int .i64 0] 214)):=((Below.refl _ _).alloc (BF _) _).alloc J _
 generalize hZ:((w.alloc (.cells #[.int .u64 l0,.int .u64 l1,.int .u64 l2,.int .u64 l3,.int .u64 l4,.int .u64 l5,.int .u64 l6,.int .u64 (St.Ej l0 l1 l2 l3 l4 l5 l6),.int .u64 l8,.int .u64 l9,.int .u64 l10,.int .u64 G9,.int .u64 l12,.int .u64 I9,.int .u64 I8,.int .u64 l15] 217)).alloc (.cells #[.int .u64 0,.int .i64 0,.int .i64 0,.int .i64 0,.int .i64 0,.int .i64 0,.int .i64 0,.int .i64 0,.int .i64 0] 214))=Z at*
 have x7:=X.out.cell 7 _ rfl
 go_enter func201,Tryz.ntmps201
 go_wp2_with fail
 refine wp_loop_rounds 3 (vS ?_)
 go_wp2_with fail
 go_region_held3 (fun W=>W.cell? ⟨w.heap.size,7,none⟩=some (.int .u64 (St.Ej l0 l1 l2 l3 l4 l5 l6))∧Below Z.heap.size Z W)
  (first|assumption|exact⟨x7,(Below.refl _ _).drew⟩)
  (first
   |(go_at_call 44;refine(GL _ 7 _ [l0,l1,l2,l3,l4,l5,l6] _ _ ((Gv.OM X.out 0 7 J).below (by assumption:_∧Below _ _ _).2) W0.out Y (by assumption:_∧Below _ _ _).2.size).mono ?_;rintro e w5 ⟨rfl,hb5⟩;rw[show Cr.more 0 (By.bytes [l0,l1,l2,l3,l4,l5,l6])=St.Ej l0 l1 l2 l3 l4 l5 l6 from rfl];have hS:=(by assumption:_∧Below _ _ _);have hS':=And.intro ((hb5.cell (cell_lt hS.1)).trans hS.1) (hS.2.trans (hb5.mono hS.2.size))))
 have aa':=(by assumption:_∧Below Z.heap.size Z _)
 have Xw5:=X.out.below aa'.2 X.out.lt
 have ZR:=R.out.below aa'.2 R.out.lt
 have Bw5:=hB.trans (aa'.2.mono hB.size)
 have x15:=Xw5.cell 15 _ rfl
 go_wp2_with fail
 refine vS ?_
 go_wp2_with fail
 go_region_held3 (fun W=>W.cell? ⟨w.heap.size,15,none⟩=some (.int .u64 l15)∧Below w5.heap.size w5 W)
  (first|assumption|exact⟨x15,(Below.refl _ _).drew⟩)
  (first
   |(go_at_call 44;refine(GL _ 7 _ [l8,l9,l10,G9,l12,I9,I8] _ _ ((Gv.OM Xw5 8 7 J).below (by assumption:_∧Below _ _ _).2) W1.out Y (by assumption:_∧Below _ _ _).2.size).mono ?_;rintro e w6 ⟨rfl,hb5⟩;rw[show Cr.more 0 (By.bytes [l8,l9,l10,G9,l12,I9,I8])=St.Ej l8 l9 l10 G9 l12 I9 I8 from rfl];have hS:=(by assumption:_∧Below _ _ _);have hS':=And.intro ((hb5.cell (cell_lt hS.1)).trans hS.1) (hS.2.trans (hb5.mono hS.2.size))))
 have agO:=(by assumption:_∧Below w5.heap.size w5 _)
 have Xw6:=Xw5.below agO.2 Xw5.lt
 have Rw6:=ZR.below agO.2 ZR.lt
 have Bw6:=Bw5.trans (agO.2.mono Bw5.size)
 have r0:=Rw6.cell 0 _ rfl
 have r1:=Rw6.cell 1 _ rfl
 have r2:=Rw6.cell 2 _ rfl
 have r3:=Rw6.cell 3 _ rfl
 have r4:=Rw6.cell 4 _ rfl
 have r5:=Rw6.cell 5 _ rfl
 have r6:=Rw6.cell 6 _ rfl
 have r7:=Rw6.cell 7 _ rfl
 have r8:=Rw6.cell 8 _ rfl
 have f0:=Rw6.frozen 0
 have f1:=Rw6.frozen 1
 have f2:=Rw6.frozen 2
 have f3:=Rw6.frozen 3
 have f4:=Rw6.frozen 4
 have f5:=Rw6.frozen 5
 have f6:=Rw6.frozen 6
 have f7:=Rw6.frozen 7
 have f8:=Rw6.frozen 8
 go_wp2_with fail
 exact bodyPost_ret (v:= .tuple #[.agg #[.int .u64 0,.int .i64 0,.int .i64 0,.int .i64 0,.int .i64 0,.int .i64 0,.int .i64 0,.int .i64 0,.int .i64 0],.int .i64 25]) Ag rfl ⟨rfl,(((((((((Bw6).setCell J _).setCell J _).setCell J _).setCell J _).setCell J _).setCell J _).setCell J _).setCell J _).setCell J _⟩
end
end
end Go.Proofs.YtppilhpcmkekbaaGreat
