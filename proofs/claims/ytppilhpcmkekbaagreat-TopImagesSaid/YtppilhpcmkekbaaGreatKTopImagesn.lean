/- Parts of the proof. -/
import Derived.Test.YtppilhpcmkekbaaGreatKTopImagesj
set_option linter.unusedSimpArgs false
set_option linter.unusedVariables false
set_option linter.unusedSectionVars false
set_option maxRecDepth 100000
set_option maxHeartbeats 16000000
namespace Go.Proofs.YtppilhpcmkekbaaGreat
open Go.Proofs.Tryz
section
section
open Go.RowKit
def FX(x:Int):Prop:=0≤x∧x≤18446744073709551615
theorem VW(a b c d e f g:Int)(ha:FX a)(hb:FX b)(hc:FX c)(hd:FX d)(he:FX e)(hf:FX f)(hg:FX g):Ints .u64 [a,b,c,d,e,f,g]:=by
 intro x hx
 simp at hx
 apply wf_u64
 rcases hx with rfl|rfl|rfl|rfl|rfl|rfl|rfl<;>assumption
theorem ag2(l0 l1 l2 l3 l4 l5 l6 l7 l8 l9 l10 Ht l12 I7 I9 l15:Int)(w:World)(hl0:FX l0)(hl1:FX l1)(hl2:FX l2)(hl3:FX l3)(hl4:FX l4)(hl5:FX l5)(hl6:FX l6)(hl7:FX l7)(hl8:FX l8)(hl9:FX l9)(VL:FX l10)(VG:FX Ht)(hl12:FX l12)(YL:FX I7)(Y6:FX I9)(ajo:FX l15)(hne:l7≠St.Es l0 l1 l2 l3 l4 l5 l6):
 Calls prog 201 #[.agg #[.int .u64 l0,.int .u64 l1,.int .u64 l2,.int .u64 l3,.int .u64 l4,.int .u64 l5,.int .u64 l6,.int .u64 l7,.int .u64 l8,.int .u64 l9,.int .u64 l10,.int .u64 Ht,.int .u64 l12,.int .u64 I7,.int .u64 I9,.int .u64 l15]] w fun e w'=>e= .returned (.tuple #[.agg #[.int .u64 0,.int .i64 0,.int .i64 0,.int .i64 0,.int .i64 0,.int .i64 0,.int .i64 0,.int .i64 0,.int .i64 0],.int .i64 25])∧Below w.heap.size w w':=by
 have d0:(l7 !=St.Es l0 l1 l2 l3 l4 l5 l6)=true:=by rw[bne_iff_ne];exact hne
 clear hne
 have W0:=Lib.hid (VW l0 l1 l2 l3 l4 l5 l6 hl0 hl1 hl2 hl3 hl4 hl5 hl6)
 have W1:=Lib.hid (VW l8 l9 l10 Ht l12 I7 I9 hl8 hl9 VL VG hl12 YL Y6)
 have b0:=St.N8 l0 l1 l2 l3 l4 l5 l6
 have b1:=St.N8 l8 l9 l10 Ht l12 I7 I9
 have q0:IntKind.u64.wrap (St.Es l0 l1 l2 l3 l4 l5 l6)=St.Es l0 l1 l2 l3 l4 l5 l6:=by rw[IntKind.wrap_u64];omega
 have q1:IntKind.u64.wrap (St.Es l8 l9 l10 Ht l12 I7 I9)=St.Es l8 l9 l10 Ht l12 I7 I9:=by rw[IntKind.wrap_u64];omega
 have X:=Lib.hid ((KE.new w #[.int .u64 l0,.int .u64 l1,.int .u64 l2,.int .u64 l3,.int .u64 l4,.int .u64 l5,.int .u64 l6,.int .u64 l7,.int .u64 l8,.int .u64 l9,.int .u64 l10,.int .u64 Ht,.int .u64 l12,.int .u64 I7,.int .u64 I9,.int .u64 l15] 217).alloc (.cells #[.int .u64 0,.int .i64 0,.int .i64 0,.int .i64 0,.int .i64 0,.int .i64 0,.int .i64 0,.int .i64 0,.int .i64 0] 214))
 have R:=Lib.hid (KE.new1 w (.cells #[.int .u64 l0,.int .u64 l1,.int .u64 l2,.int .u64 l3,.int .u64 l4,.int .u64 l5,.int .u64 l6,.int .u64 l7,.int .u64 l8,.int .u64 l9,.int .u64 l10,.int .u64 Ht,.int .u64 l12,.int .u64 I7,.int .u64 I9,.int .u64 l15] 217) #[.int .u64 0,.int .i64 0,.int .i64 0,.int .i64 0,.int .i64 0,.int .i64 0,.int .i64 0,.int .i64 0,.int .i64 0] 214)
 have hB:Below w.heap.size w ((w.alloc (.cells #[.int .u64 l0,.int .u64 l1,.int .u64 l2,.int .u64 l3,.int .u64 l4,.int .u64 l5,.int .u64 l6,.int .u64 l7,.int .u64 l8,.int .u64 l9,.int .u64 l10,.int .u64 Ht,.int .u64 l12,.int .u64 I7,.int .u64 I9,.int .u64 l15] 217)).alloc (.cells #[.int .u64 0,.int .i64 0,.int .i64 0,.int .i64 0,.int .i64 0,.int .i64 0,.int .i64 0,.int .i64 0,.int .i64 0] 214)):=((Below.refl _ _).alloc (Bg _) _).alloc J _
 generalize hZ:((w.alloc (.cells #[.int .u64 l0,.int .u64 l1,.int .u64 l2,.int .u64 l3,.int .u64 l4,.int .u64 l5,.int .u64 l6,.int .u64 l7,.int .u64 l8,.int .u64 l9,.int .u64 l10,.int .u64 Ht,.int .u64 l12,.int .u64 I7,.int .u64 I9,.int .u64 l15] 217)).alloc (.cells #[.int .u64 0,.int .i64 0,.int .i64 0,.int .i64 0,.int .i64 0,.int .i64 0,.int .i64 0,.int .i64 0,.int .i64 0] 214))=Z at*
 have x7:=X.out.cell 7 _ rfl
 go_enter func201,Tryz.ntmps201
 go_wp2_with fail
 refine wp_loop_rounds 3 (wE ?_)
 go_wp2_with fail
 go_region_held3 (fun W=>W.cell? ⟨w.heap.size,7,none⟩=some (.int .u64 l7)∧Below Z.heap.size Z W)
  (first|assumption|exact⟨x7,(Below.refl _ _).drew⟩)
  (first
   |(go_at_call 44;refine(Gx _ 7 _ [l0,l1,l2,l3,l4,l5,l6] _ _ ((Gv.Pq X.out 0 7 J).below (by assumption:_∧Below _ _ _).2) W0.out Y (by assumption:_∧Below _ _ _).2.size).mono ?_;rintro e w5 ⟨rfl,hb5⟩;rw[show Cr.more 0 (By.bytes [l0,l1,l2,l3,l4,l5,l6])=St.Es l0 l1 l2 l3 l4 l5 l6 from rfl];have hS:=(by assumption:_∧Below _ _ _);have hS':=And.intro ((hb5.cell (cell_lt hS.1)).trans hS.1) (hS.2.trans (hb5.mono hS.2.size))))
 have aaO:=(by assumption:_∧Below Z.heap.size Z _)
 have Xw5:=X.out.below aaO.2 X.out.lt
 have ZT:=R.out.below aaO.2 R.out.lt
 have Bw5:=hB.trans (aaO.2.mono hB.size)
 have r0:=ZT.cell 0 _ rfl
 have r1:=ZT.cell 1 _ rfl
 have r2:=ZT.cell 2 _ rfl
 have r3:=ZT.cell 3 _ rfl
 have r4:=ZT.cell 4 _ rfl
 have r5:=ZT.cell 5 _ rfl
 have r6:=ZT.cell 6 _ rfl
 have r7:=ZT.cell 7 _ rfl
 have r8:=ZT.cell 8 _ rfl
 have f0:=ZT.frozen 0
 have f1:=ZT.frozen 1
 have f2:=ZT.frozen 2
 have f3:=ZT.frozen 3
 have f4:=ZT.frozen 4
 have f5:=ZT.frozen 5
 have f6:=ZT.frozen 6
 have f7:=ZT.frozen 7
 have f8:=ZT.frozen 8
 go_wp2_with fail
 exact bodyPost_ret (v:= .tuple #[.agg #[.int .u64 0,.int .i64 0,.int .i64 0,.int .i64 0,.int .i64 0,.int .i64 0,.int .i64 0,.int .i64 0,.int .i64 0],.int .i64 25]) Aa rfl ⟨rfl,(((((((((Bw5).setCell J _).setCell J _).setCell J _).setCell J _).setCell J _).setCell J _).setCell J _).setCell J _).setCell J _⟩
theorem aho(l0 l1 l2 l3 l4 l5 l6 l8 l9 l10 Ht l12 I7 I9 l15:Int)(w:World)(hl0:FX l0)(hl1:FX l1)(hl2:FX l2)(hl3:FX l3)(hl4:FX l4)(hl5:FX l5)(hl6:FX l6)(hl8:FX l8)(hl9:FX l9)(VL:FX l10)(VG:FX Ht)(hl12:FX l12)(YL:FX I7)(Y6:FX I9)(ajo:FX l15)(hne:l15≠St.Es l8 l9 l10 Ht l12 I7 I9):
 Calls prog 201 #[.agg #[.int .u64 l0,.int .u64 l1,.int .u64 l2,.int .u64 l3,.int .u64 l4,.int .u64 l5,.int .u64 l6,.int .u64 (St.Es l0 l1 l2 l3 l4 l5 l6),.int .u64 l8,.int .u64 l9,.int .u64 l10,.int .u64 Ht,.int .u64 l12,.int .u64 I7,.int .u64 I9,.int .u64 l15]] w fun e w'=>e= .returned (.tuple #[.agg #[.int .u64 0,.int .i64 0,.int .i64 0,.int .i64 0,.int .i64 0,.int .i64 0,.int .i64 0,.int .i64 0,.int .i64 0],.int .i64 25])∧Below w.heap.size w w':=by
 have d1:(l15 !=St.Es l8 l9 l10 Ht l12 I7 I9)=true:=by rw[bne_iff_ne];exact hne
 clear hne
 have W0:=Lib.hid (VW l0 l1 l2 l3 l4 l5 l6 hl0 hl1 hl2 hl3 hl4 hl5 hl6)
 have W1:=Lib.hid (VW l8 l9 l10 Ht l12 I7 I9 hl8 hl9 VL VG hl12 YL Y6)
 have b0:=St.N8 l0 l1 l2 l3 l4 l5 l6
 have b1:=St.N8 l8 l9 l10 Ht l12 I7 I9
 have q0:IntKind.u64.wrap (St.Es l0 l1 l2 l3 l4 l5 l6)=St.Es l0 l1 l2 l3 l4 l5 l6:=by rw[IntKind.wrap_u64];omega
 have q1:IntKind.u64.wrap (St.Es l8 l9 l10 Ht l12 I7 I9)=St.Es l8 l9 l10 Ht l12 I7 I9:=by rw[IntKind.wrap_u64];omega
 have X:=Lib.hid ((KE.new w #[.int .u64 l0,.int .u64 l1,.int .u64 l2,.int .u64 l3,.int .u64 l4,.int .u64 l5,.int .u64 l6,.int .u64 (St.Es l0 l1 l2 l3 l4 l5 l6),.int .u64 l8,.int .u64 l9,.int .u64 l10,.int .u64 Ht,.int .u64 l12,.int .u64 I7,.int .u64 I9,.int .u64 l15] 217).alloc (.cells #[.int .u64 0,.int .i64 0,.int .i64 0,.int .i64 0,.int .i64 0,.int .i64 0,.int .i64 0,.int .i64 0,.int .i64 0] 214))
 have R:=Lib.hid (KE.new1 w (.cells #[.int .u64 l0,.int .u64 l1,.int .u64 l2,.int .u64 l3,.int .u64 l4,.int .u64 l5,.int .u64 l6,.int .u64 (St.Es l0 l1 l2 l3 l4 l5 l6),.int .u64 l8,.int .u64 l9,.int .u64 l10,.int .u64 Ht,.int .u64 l12,.int .u64 I7,.int .u64 I9,.int .u64 l15] 217) #[.int .u64 0,.int .i64 0,.int .i64 0,.int .i64 0,.int .i64 0,.int .i64 0,.int .i64 0,.int .i64 0,.int .i64 0] 214)
 have hB:Below w.heap.size w ((w.alloc (.cells #[.int .u64 l0,.int .u64 l1,.int .u64 l2,.int .u64 l3,.int .u64 l4,.int .u64 l5,.int .u64 l6,.int .u64 (St.Es l0 l1 l2 l3 l4 l5 l6),.int .u64 l8,.int .u64 l9,.int .u64 l10,.int .u64 Ht,.int .u64 l12,.int .u64 I7,.int .u64 I9,.int .u64 l15] 217)).alloc (.cells #[.int .u64 0,.int .i64 0,.int .i64 0,.int .i64 0,.int .i64 0,.int .i64 0,.int .i64 0,.int .i64 0,.int .i64 0] 214)):=((Below.refl _ _).alloc (Bg _) _).alloc J _
 generalize hZ:((w.alloc (.cells #[.int .u64 l0,.int .u64 l1,.int .u64 l2,.int .u64 l3,.int .u64 l4,.int .u64 l5,.int .u64 l6,.int .u64 (St.Es l0 l1 l2 l3 l4 l5 l6),.int .u64 l8,.int .u64 l9,.int .u64 l10,.int .u64 Ht,.int .u64 l12,.int .u64 I7,.int .u64 I9,.int .u64 l15] 217)).alloc (.cells #[.int .u64 0,.int .i64 0,.int .i64 0,.int .i64 0,.int .i64 0,.int .i64 0,.int .i64 0,.int .i64 0,.int .i64 0] 214))=Z at*
 have x7:=X.out.cell 7 _ rfl
 go_enter func201,Tryz.ntmps201
 go_wp2_with fail
 refine wp_loop_rounds 3 (wE ?_)
 go_wp2_with fail
 go_region_held3 (fun W=>W.cell? ⟨w.heap.size,7,none⟩=some (.int .u64 (St.Es l0 l1 l2 l3 l4 l5 l6))∧Below Z.heap.size Z W)
  (first|assumption|exact⟨x7,(Below.refl _ _).drew⟩)
  (first
   |(go_at_call 44;refine(Gx _ 7 _ [l0,l1,l2,l3,l4,l5,l6] _ _ ((Gv.Pq X.out 0 7 J).below (by assumption:_∧Below _ _ _).2) W0.out Y (by assumption:_∧Below _ _ _).2.size).mono ?_;rintro e w5 ⟨rfl,hb5⟩;rw[show Cr.more 0 (By.bytes [l0,l1,l2,l3,l4,l5,l6])=St.Es l0 l1 l2 l3 l4 l5 l6 from rfl];have hS:=(by assumption:_∧Below _ _ _);have hS':=And.intro ((hb5.cell (cell_lt hS.1)).trans hS.1) (hS.2.trans (hb5.mono hS.2.size))))
 have aaO:=(by assumption:_∧Below Z.heap.size Z _)
 have Xw5:=X.out.below aaO.2 X.out.lt
 have ZT:=R.out.below aaO.2 R.out.lt
 have Bw5:=hB.trans (aaO.2.mono hB.size)
 have x15:=Xw5.cell 15 _ rfl
 go_wp2_with fail
 refine wE ?_
 go_wp2_with fail
 go_region_held3 (fun W=>W.cell? ⟨w.heap.size,15,none⟩=some (.int .u64 l15)∧Below w5.heap.size w5 W)
  (first|assumption|exact⟨x15,(Below.refl _ _).drew⟩)
  (first
   |(go_at_call 44;refine(Gx _ 7 _ [l8,l9,l10,Ht,l12,I7,I9] _ _ ((Gv.Pq Xw5 8 7 J).below (by assumption:_∧Below _ _ _).2) W1.out Y (by assumption:_∧Below _ _ _).2.size).mono ?_;rintro e w6 ⟨rfl,hb5⟩;rw[show Cr.more 0 (By.bytes [l8,l9,l10,Ht,l12,I7,I9])=St.Es l8 l9 l10 Ht l12 I7 I9 from rfl];have hS:=(by assumption:_∧Below _ _ _);have hS':=And.intro ((hb5.cell (cell_lt hS.1)).trans hS.1) (hS.2.trans (hb5.mono hS.2.size))))
 have ahg:=(by assumption:_∧Below w5.heap.size w5 _)
 have Xw6:=Xw5.below ahg.2 Xw5.lt
 have Rw6:=ZT.below ahg.2 ZT.lt
 have Bw6:=Bw5.trans (ahg.2.mono Bw5.size)
 have r0:=Rw6.cell 0 _ rfl
 have r1:=Rw6.cell 1 _ rfl
 have r2:=Rw6.cell 2 _ rfl
 have r3:=Rw6.cell 3 _ rfl
 have r4:=Rw6.cell 4 _ rfl
 have r5:=Rw6.cell 5 _ rfl
 have r6:=Rw6.cell 6 _ rfl
 have r7:=Rw6.cell 7 _ rfl
 have r8:=Rw6.cell 8 _ rfl
 have f0:=Rw6.frozen 0
 have f1:=Rw6.frozen 1
 have f2:=Rw6.frozen 2
 have f3:=Rw6.frozen 3
 have f4:=Rw6.frozen 4
 have f5:=Rw6.frozen 5
 have f6:=Rw6.frozen 6
 have f7:=Rw6.frozen 7
 have f8:=Rw6.frozen 8
 go_wp2_with fail
 exact bodyPost_ret (v:= .tuple #[.agg #[.int .u64 0,.int .i64 0,.int .i64 0,.int .i64 0,.int .i64 0,.int .i64 0,.int .i64 0,.int .i64 0,.int .i64 0],.int .i64 25]) Aa rfl ⟨rfl,(((((((((Bw6).setCell J _).setCell J _).setCell J _).setCell J _).setCell J _).setCell J _).setCell J _).setCell J _).setCell J _⟩
end
end
end Go.Proofs.YtppilhpcmkekbaaGreat
