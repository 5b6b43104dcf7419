/- Parts of the proof. -/
import Derived.Test.YtppilhpcmkekbaaGreatKTopBothc
set_option linter.unusedSimpArgs false
set_option linter.unusedVariables false
set_option linter.unusedSectionVars false
set_option maxRecDepth 100000
set_option maxHeartbeats 16000000
namespace Go.Proofs.YtppilhpcmkekbaaGreat
open Go.Proofs.Tryz
section
section
open Go.RowKit
theorem ah3(xs ys:List Int)(hx:xs.length=8)(hy:ys.length=8)(W:World):(Op.equalIn 10000 245 (.agg (xs.map (Value.int .u64)).toArray) (.agg (ys.map (Value.int .u64)).toArray)).run prog W= .ok (eqB xs ys) W:=by
 obtain⟨i0,hi0,_⟩:=info_parts afm
 exact TA W 9998 underlying245 underlying26 hi0 Aw xs ys hx hy
theorem s10{Z W:World}{x s:Nat}{T T':TypeId}{c0 c1 c2 c3 c4 c5 c6 c7 a0 a1:Value}(X:Ko Z x #[c0,c1,c2,c3,c4,c5,c6,c7] T)(S:Ko Z s #[a0,a1] T')(h:Below Z.heap.size Z W):
 W.cell? ⟨s,0,none⟩=some a0∧W.cell? ⟨s,1,none⟩=some a1∧W.cell? ⟨x,0,none⟩=some c0∧W.cell? ⟨x,1,none⟩=some c1∧W.cell? ⟨x,2,none⟩=some c2∧W.cell? ⟨x,3,none⟩=some c3∧W.cell? ⟨x,4,none⟩=some c4∧W.cell? ⟨x,5,none⟩=some c5∧W.cell? ⟨x,6,none⟩=some c6∧W.cell? ⟨x,7,none⟩=some c7∧Below Z.heap.size Z W:=by
 have X':=X.below h X.lt
 have S':=S.below h S.lt
 exact⟨S'.cell 0 _ rfl,S'.cell 1 _ rfl,X'.cell 0 _ rfl,X'.cell 1 _ rfl,X'.cell 2 _ rfl,X'.cell 3 _ rfl,X'.cell 4 _ rfl,X'.cell 5 _ rfl,X'.cell 6 _ rfl,X'.cell 7 _ rfl,h⟩
theorem aop(l2 l3:Int)(w:World)(h2:0≤l2∧l2≤18446744073709551615)(h3:0≤l3∧l3≤18446744073709551615)(g1:2≤l2)(g2:l2≤256):
 Calls prog 235 #[.agg #[.int .u64 8390047168116913201,.int .u64 1,.int .u64 l2,.int .u64 l3,.int .u64 0,.int .u64 0,.int .u64 0,.int .u64 (Su.Ej 1 l2 l3 0 0 0)]] w fun e w'=>e= .returned (.tuple #[.agg #[.int .i64 l2,.int .u64 l3],.int .i64 0])∧Below w.heap.size w w':=by
 have hwf:=Lib.hid (X9 8390047168116913201 1 l2 l3 0 0 0 Y Y h2 h3 Y Y Y)
 have hsb:=Su.NT 1 l2 l3 0 0 0
 have hsw:IntKind.u64.wrap (Su.Ej 1 l2 l3 0 0 0)=Su.Ej 1 l2 l3 0 0 0:=by rw[IntKind.wrap_u64];omega
 have hrb:=Su.F7 l2 g1 g2
 have heq:=ah3 [8390047168116913201,1,l2,l3,0,0,0,Su.crc l2 l3] [8390047168116913201,1,l2,l3,0,0,0,Su.Ej 1 l2 l3 0 0 0] rfl rfl
 rw[ahI [8390047168116913201,1,l2,l3,0,0,0,Su.crc l2 l3] [8390047168116913201,1,l2,l3,0,0,0,Su.Ej 1 l2 l3 0 0 0] rfl]at heq
 simp only[DJ,Ef]at heq
 have X:=Lib.hid ((Ko.new w #[.int .u64 8390047168116913201,.int .u64 1,.int .u64 l2,.int .u64 l3,.int .u64 0,.int .u64 0,.int .u64 0,.int .u64 (Su.Ej 1 l2 l3 0 0 0)] 245).alloc (.cells #[.int .i64 0,.int .u64 0] 113))
 have R:=Lib.hid (Ko.new1 w (.cells #[.int .u64 8390047168116913201,.int .u64 1,.int .u64 l2,.int .u64 l3,.int .u64 0,.int .u64 0,.int .u64 0,.int .u64 (Su.Ej 1 l2 l3 0 0 0)] 245) #[.int .i64 0,.int .u64 0] 113)
 have hB:Below w.heap.size w ((w.alloc (.cells #[.int .u64 8390047168116913201,.int .u64 1,.int .u64 l2,.int .u64 l3,.int .u64 0,.int .u64 0,.int .u64 0,.int .u64 (Su.Ej 1 l2 l3 0 0 0)] 245)).alloc (.cells #[.int .i64 0,.int .u64 0] 113)):=((Below.refl _ _).alloc (BF _) _).alloc J _
 generalize hZ:((w.alloc (.cells #[.int .u64 8390047168116913201,.int .u64 1,.int .u64 l2,.int .u64 l3,.int .u64 0,.int .u64 0,.int .u64 0,.int .u64 (Su.Ej 1 l2 l3 0 0 0)] 245)).alloc (.cells #[.int .i64 0,.int .u64 0] 113))=Z at*
 have x0:=X.out.cell 0 _ rfl
 have x7:=X.out.cell 7 _ rfl
 go_enter func235,Tryz.ntmps235
 go_wp2_with fail
 go_region_held3 (fun W=>W.cell? ⟨w.heap.size,7,none⟩=some (.int .u64 (Su.Ej 1 l2 l3 0 0 0))∧Below Z.heap.size Z W)
  (first|assumption|exact⟨x7,(Below.refl _ _).drew⟩)
  (first
   |(go_at_call 44;refine(GL _ 7 8 [8390047168116913201,1,l2,l3,0,0,0] _ _ ((Gv.Yv X.out 7 J).below (by assumption:_∧Below _ _ _).2) hwf.out Y (by assumption:_∧Below _ _ _).2.size).mono ?_;rintro e w5 ⟨rfl,hb5⟩;rw[show Cr.more 0 (By.bytes [8390047168116913201,1,l2,l3,0,0,0])=Su.Ej 1 l2 l3 0 0 0 from rfl];have hS:=(by assumption:_∧Below _ _ _);have hS':=And.intro ((hb5.cell (cell_lt hS.1)).trans hS.1) (hS.2.trans (hb5.mono hS.2.size))))
 have hS':=(by assumption:_∧Below _ _ _)
 have R5:=R.out.below hS'.2 R.out.lt
 have X5:=X.out.below hS'.2 X.out.lt
 have x2:=X5.cell 2 _ rfl
 have x3:=X5.cell 3 _ rfl
 have hB5:=hB.trans (hS'.2.mono hB.size)
 have R6:=R5.alloc (.cells #[.int .i64 l2,.int .u64 l3] 113)
 have X6:=X5.alloc (.cells #[.int .i64 l2,.int .u64 l3] 113)
 have S6:=Ko.new w5 #[.int .i64 l2,.int .u64 l3] 113
 have hB6:=hB5.alloc hB5.size (.cells #[.int .i64 l2,.int .u64 l3] 113)
 have YD:=s10 X6 S6 (Below.refl _ _).drew
 clear x0 x7 hS' hB5
 go_wp2_with fail
 refine wp_region_held_drew (S:=fun W=>W.cell? ⟨w5.heap.size,0,none⟩=some (.int .i64 l2)∧W.cell? ⟨w5.heap.size,1,none⟩=some (.int .u64 l3)∧W.cell? ⟨w.heap.size,0,none⟩=some (.int .u64 8390047168116913201)∧W.cell? ⟨w.heap.size,1,none⟩=some (.int .u64 1)∧W.cell? ⟨w.heap.size,2,none⟩=some (.int .u64 l2)∧W.cell? ⟨w.heap.size,3,none⟩=some (.int .u64 l3)∧W.cell? ⟨w.heap.size,4,none⟩=some (.int .u64 0)∧W.cell? ⟨w.heap.size,5,none⟩=some (.int .u64 0)∧W.cell? ⟨w.heap.size,6,none⟩=some (.int .u64 0)∧W.cell? ⟨w.heap.size,7,none⟩=some (.int .u64 (Su.Ej 1 l2 l3 0 0 0))∧Below (w5.alloc (.cells #[.int .i64 l2,.int .u64 l3] 113)).heap.size (w5.alloc (.cells #[.int .i64 l2,.int .u64 l3] 113)) W) Aw ?_ (fun hHeld=>?_)
 ·(try dsimp only)
  (first|assumption|exact YD)
 refine aA ?_
 refine wpAnyH_ready (rs:=[3]) Aw J (AllReadyH.cons O (fun K hK=>?_) AllReadyH.nil)
 (try go_simp)
 have hS:=(by assumption:_∧_∧_∧_∧_∧_∧_∧_∧_∧_∧Below _ _ _).2.2.2.2.2.2.2.2.2.2
 refine(QV _ _ Y Y).mono ?_
 rintro e w7 ⟨rfl,hb7⟩
 have RZ:=hS.trans (hb7.mono hS.size)
 have hS':=s10 X6 S6 RZ
 clear hb7 hS
 refine hK.out _ _ ?_ (fun hHeld=>?_)
 ·(try dsimp only)
  (first|assumption|exact YD)
 clear hK K
 refine ah ?_
 refine aI ?_
 refine ah ?_
 refine dD ?_
 refine sW ?_
 refine aJ ?_
 refine ah ?_
 refine wpAnyH_ready (rs:=[7]) Aw J (AllReadyH.cons O (fun K hK=>?_) AllReadyH.nil)
 (try go_simp)
 refine(aaT _ _ _ Y Y Y Y).mono ?_
 rintro e w8 ⟨rfl,hb8⟩
 have ahu:=RZ.trans (hb8.mono RZ.size)
 have hS':=s10 X6 S6 ahu
 clear hb8
 refine hK.out _ _ ?_ (fun hHeld=>?_)
 ·(try dsimp only)
  (first|assumption|exact YD)
 clear hK K
 refine dO ?_
 refine wpAnyH_done Aw ?_ _
 have Yu:=(by assumption:_∧_∧_∧_∧_∧_∧_∧_∧_∧_∧Below _ _ _).2.2.2.2.2.2.2.2.2.2
 have RE:=R6.below Yu R6.lt
 have SE:=S6.below Yu S6.lt
 have r0:=RE.cell 0 _ rfl
 have r1:=RE.cell 1 _ rfl
 have f0:=RE.frozen 0
 have f1:=RE.frozen 1
 have s0:=SE.cell 0 _ rfl
 have s1:=SE.cell 1 _ rfl
 have hBE:=hB6.trans (Yu.mono hB6.size)
 go_wp2_with fail
 exact bodyPost_ret (v:= .tuple #[.agg #[.int .i64 l2,.int .u64 l3],.int .i64 0]) Ad rfl ⟨rfl,(hBE.setCell J _).setCell J _⟩
theorem adb(l1 l2 l3 l4 l5 l6:Int)(w:World)(h1:0≤l1∧l1≤18446744073709551615)(h2:0≤l2∧l2≤18446744073709551615)(h3:0≤l3∧l3≤18446744073709551615)(h4:0≤l4∧l4≤18446744073709551615)(h5:0≤l5∧l5≤18446744073709551615)(h6:0≤l6∧l6≤18446744073709551615)(g1:l2<2∨256<l2)(g2:l2≤1073741824):
 Calls prog 235 #[.agg #[.int .u64 8390047168116913201,.int .u64 l1,.int .u64 l2,.int .u64 l3,.int .u64 l4,.int .u64 l5,.int .u64 l6,.int .u64 (Su.Ej l1 l2 l3 l4 l5 l6)]] w fun e w'=>e= .returned (.tuple #[.agg #[.int .i64 0,.int .u64 0],.int .i64 26])∧Below w.heap.size w w':=by
 have hwf:=Lib.hid (X9 8390047168116913201 l1 l2 l3 l4 l5 l6 Y h1 h2 h3 h4 h5 h6)
 have hsb:=Su.NT l1 l2 l3 l4 l5 l6
 have hsw:IntKind.u64.wrap (Su.Ej l1 l2 l3 l4 l5 l6)=Su.Ej l1 l2 l3 l4 l5 l6:=by rw[IntKind.wrap_u64];omega
 have hrb:=Su.Jo l2 g1
 clear g1
 have X:=Lib.hid ((Ko.new w #[.int .u64 8390047168116913201,.int .u64 l1,.int .u64 l2,.int .u64 l3,.int .u64 l4,.int .u64 l5,.int .u64 l6,.int .u64 (Su.Ej l1 l2 l3 l4 l5 l6)] 245).alloc (.cells #[.int .i64 0,.int .u64 0] 113))
 have R:=Lib.hid (Ko.new1 w (.cells #[.int .u64 8390047168116913201,.int .u64 l1,.int .u64 l2,.int .u64 l3,.int .u64 l4,.int .u64 l5,.int .u64 l6,.int .u64 (Su.Ej l1 l2 l3 l4 l5 l6)] 245) #[.int .i64 0,.int .u64 0] 113)
 have hB:Below w.heap.size w ((w.alloc (.cells #[.int .u64 8390047168116913201,.int .u64 l1,.int .u64 l2,.int .u64 l3,.int .u64 l4,.int .u64 l5,.int .u64 l6,.int .u64 (Su.Ej l1 l2 l3 l4 l5 l6)] 245)).alloc (.cells #[.int .i64 0,.int .u64 0] 113)):=((Below.refl _ _).alloc (BF _) _).alloc J _
 generalize hZ:((w.alloc (.cells #[.int .u64 8390047168116913201,.int .u64 l1,.int .u64 l2,.int .u64 l3,.int .u64 l4,.int .u64 l5,.int .u64 l6,.int .u64 (Su.Ej l1 l2 l3 l4 l5 l6)] 245)).alloc (.cells #[.int .i64 0,.int .u64 0] 113))=Z at*
 have x0:=X.out.cell 0 _ rfl
 have x7:=X.out.cell 7 _ rfl
 go_enter func235,Tryz.ntmps235
 go_wp2_with fail
 go_region_held3 (fun W=>W.cell? ⟨w.heap.size,7,none⟩=some (.int .u64 (Su.Ej l1 l2 l3 l4 l5 l6))∧Below Z.heap.size Z W)
  (first|assumption|exact⟨x7,(Below.refl _ _).drew⟩)
  (first
   |(go_at_call 44;refine(GL _ 7 8 [8390047168116913201,l1,l2,l3,l4,l5,l6] _ _ ((Gv.Yv X.out 7 J).below (by assumption:_∧Below _ _ _).2) hwf.out Y (by assumption:_∧Below _ _ _).2.size).mono ?_;rintro e w5 ⟨rfl,hb5⟩;rw[show Cr.more 0 (By.bytes [8390047168116913201,l1,l2,l3,l4,l5,l6])=Su.Ej l1 l2 l3 l4 l5 l6 from rfl];have hS:=(by assumption:_∧Below _ _ _);have hS':=And.intro ((hb5.cell (cell_lt hS.1)).trans hS.1) (hS.2.trans (hb5.mono hS.2.size))))
 have hS':=(by assumption:_∧Below _ _ _)
 have R5:=R.out.below hS'.2 R.out.lt
 have X5:=X.out.below hS'.2 X.out.lt
 have x2:=X5.cell 2 _ rfl
 have x3:=X5.cell 3 _ rfl
 have hB5:=hB.trans (hS'.2.mono hB.size)
 have R6:=R5.alloc (.cells #[.int .i64 l2,.int .u64 l3] 113)
 have X6:=X5.alloc (.cells #[.int .i64 l2,.int .u64 l3] 113)
 have S6:=Ko.new w5 #[.int .i64 l2,.int .u64 l3] 113
 have hB6:=hB5.alloc hB5.size (.cells #[.int .i64 l2,.int .u64 l3] 113)
 have YD:=s10 X6 S6 (Below.refl _ _).drew
 clear x0 x7 hS' hB5
 go_wp2_with fail
 refine wp_region_held_drew (S:=fun W=>W.cell? ⟨w5.heap.size,0,none⟩=some (.int .i64 l2)∧W.cell? ⟨w5.heap.size,1,none⟩=some (.int .u64 l3)∧W.cell? ⟨w.heap.size,0,none⟩=some (.int .u64 8390047168116913201)∧W.cell? ⟨w.heap.size,1,none⟩=some (.int .u64 l1)∧W.cell? ⟨w.heap.size,2,none⟩=some (.int .u64 l2)∧W.cell? ⟨w.heap.size,3,none⟩=some (.int .u64 l3)∧W.cell? ⟨w.heap.size,4,none⟩=some (.int .u64 l4)∧W.cell? ⟨w.heap.size,5,none⟩=some (.int .u64 l5)∧W.cell? ⟨w.heap.size,6,none⟩=some (.int .u64 l6)∧W.cell? ⟨w.heap.size,7,none⟩=some (.int .u64 (Su.Ej l1 l2 l3 l4 l5 l6))∧Below (w5.alloc (.cells #[.int .i64 l2,.int .u64 l3] 113)).heap.size (w5.alloc (.cells #[.int .i64 l2,.int .u64 l3] 113)) W) Aw ?_ (fun hHeld=>?_)
 ·(try dsimp only)
  (first|assumption|exact YD)
 refine aA ?_
 refine wpAnyH_ready (rs:=[3]) Aw J (AllReadyH.cons O (fun K hK=>?_) AllReadyH.nil)
 (try go_simp)
 have hS:=(by assumption:_∧_∧_∧_∧_∧_∧_∧_∧_∧_∧Below _ _ _).2.2.2.2.2.2.2.2.2.2
 refine(QV _ _ Y Y).mono ?_
 rintro e w7 ⟨rfl,hb7⟩
 have RZ:=hS.trans (hb7.mono hS.size)
 have hS':=s10 X6 S6 RZ
 clear hb7 hS
 refine hK.out _ _ ?_ (fun hHeld=>?_)
 ·(try dsimp only)
  (first|assumption|exact YD)
 clear hK K
 refine aQ ?_
 refine wpAnyH_done Aw ?_ _
 have Yu:=(by assumption:_∧_∧_∧_∧_∧_∧_∧_∧_∧_∧Below _ _ _).2.2.2.2.2.2.2.2.2.2
 have RE:=R6.below Yu R6.lt
 have SE:=S6.below Yu S6.lt
 have r0:=RE.cell 0 _ rfl
 have r1:=RE.cell 1 _ rfl
 have f0:=RE.frozen 0
 have f1:=RE.frozen 1
 have s0:=SE.cell 0 _ rfl
 have s1:=SE.cell 1 _ rfl
 have hBE:=hB6.trans (Yu.mono hB6.size)
 go_wp2_with fail
 exact bodyPost_ret (v:= .tuple #[.agg #[.int .i64 0,.int .u64 0],.int .i64 26]) Ad rfl ⟨rfl,(hBE.setCell J _).setCell J _⟩
theorem aj6(l1 l2 l3 l4 l5 l6:Int)(w:World)(h1:0≤l1∧l1≤18446744073709551615)(h2:0≤l2∧l2≤18446744073709551615)(h3:0≤l3∧l3≤18446744073709551615)(h4:0≤l4∧l4≤18446744073709551615)(h5:0≤l5∧l5≤18446744073709551615)(h6:0≤l6∧l6≤18446744073709551615)(g1:1073741824<l2):
 Calls prog 235 #[.agg #[.int .u64 8390047168116913201,.int .u64 l1,.int .u64 l2,.int .u64 l3,.int .u64 l4,.int .u64 l5,.int .u64 l6,.int .u64 (Su.Ej l1 l2 l3 l4 l5 l6)]] w fun e w'=>e= .returned (.tuple #[.agg #[.int .i64 0,.int .u64 0],.int .i64 26])∧Below w.heap.size w w':=by
 have hwf:=Lib.hid (X9 8390047168116913201 l1 l2 l3 l4 l5 l6 Y h1 h2 h3 h4 h5 h6)
 have hsb:=Su.NT l1 l2 l3 l4 l5 l6
 have hsw:IntKind.u64.wrap (Su.Ej l1 l2 l3 l4 l5 l6)=Su.Ej l1 l2 l3 l4 l5 l6:=by rw[IntKind.wrap_u64];omega
 have hrb:=Su.Jo 1073741824 (.inr Y)
 have X:=Lib.hid ((Ko.new w #[.int .u64 8390047168116913201,.int .u64 l1,.int .u64 l2,.int .u64 l3,.int .u64 l4,.int .u64 l5,.int .u64 l6,.int .u64 (Su.Ej l1 l2 l3 l4 l5 l6)] 245).alloc (.cells #[.int .i64 0,.int .u64 0] 113))
 have R:=Lib.hid (Ko.new1 w (.cells #[.int .u64 8390047168116913201,.int .u64 l1,.int .u64 l2,.int .u64 l3,.int .u64 l4,.int .u64 l5,.int .u64 l6,.int .u64 (Su.Ej l1 l2 l3 l4 l5 l6)] 245) #[.int .i64 0,.int .u64 0] 113)
 have hB:Below w.heap.size w ((w.alloc (.cells #[.int .u64 8390047168116913201,.int .u64 l1,.int .u64 l2,.int .u64 l3,.int .u64 l4,.int .u64 l5,.int .u64 l6,.int .u64 (Su.Ej l1 l2 l3 l4 l5 l6)] 245)).alloc (.cells #[.int .i64 0,.int .u64 0] 113)):=((Below.refl _ _).alloc (BF _) _).alloc J _
 generalize hZ:((w.alloc (.cells #[.int .u64 8390047168116913201,.int .u64 l1,.int .u64 l2,.int .u64 l3,.int .u64 l4,.int .u64 l5,.int .u64 l6,.int .u64 (Su.Ej l1 l2 l3 l4 l5 l6)] 245)).alloc (.cells #[.int .i64 0,.int .u64 0] 113))=Z at*
 have x0:=X.out.cell 0 _ rfl
 have x7:=X.out.cell 7 _ rfl
 go_enter func235,Tryz.ntmps235
 go_wp2_with fail
 go_region_held3 (fun W=>W.cell? ⟨w.heap.size,7,none⟩=some (.int .u64 (Su.Ej l1 l2 l3 l4 l5 l6))∧Below Z.heap.size Z W)
  (first|assumption|exact⟨x7,(Below.refl _ _).drew⟩)
  (first
   |(go_at_call 44;refine(GL _ 7 8 [8390047168116913201,l1,l2,l3,l4,l5,l6] _ _ ((Gv.Yv X.out 7 J).below (by assumption:_∧Below _ _ _).2) hwf.out Y (by assumption:_∧Below _ _ _).2.size).mono ?_;rintro e w5 ⟨rfl,hb5⟩;rw[show Cr.more 0 (By.bytes [8390047168116913201,l1,l2,l3,l4,l5,l6])=Su.Ej l1 l2 l3 l4 l5 l6 from rfl];have hS:=(by assumption:_∧Below _ _ _);have hS':=And.intro ((hb5.cell (cell_lt hS.1)).trans hS.1) (hS.2.trans (hb5.mono hS.2.size))))
 have hS':=(by assumption:_∧Below _ _ _)
 have R5:=R.out.below hS'.2 R.out.lt
 have X5:=X.out.below hS'.2 X.out.lt
 have x2:=X5.cell 2 _ rfl
 have x3:=X5.cell 3 _ rfl
 have hB5:=hB.trans (hS'.2.mono hB.size)
 have R6:=R5.alloc (.cells #[.int .i64 1073741824,.int .u64 l3] 113)
 have X6:=X5.alloc (.cells #[.int .i64 1073741824,.int .u64 l3] 113)
 have S6:=Ko.new w5 #[.int .i64 1073741824,.int .u64 l3] 113
 have hB6:=hB5.alloc hB5.size (.cells #[.int .i64 1073741824,.int .u64 l3] 113)
 have YD:=s10 X6 S6 (Below.refl _ _).drew
 clear x0 x7 hS' hB5
 go_wp2_with fail
 refine wp_region_held_drew (S:=fun W=>W.cell? ⟨w5.heap.size,0,none⟩=some (.int .i64 1073741824)∧W.cell? ⟨w5.heap.size,1,none⟩=some (.int .u64 l3)∧W.cell? ⟨w.heap.size,0,none⟩=some (.int .u64 8390047168116913201)∧W.cell? ⟨w.heap.size,1,none⟩=some (.int .u64 l1)∧W.cell? ⟨w.heap.size,2,none⟩=some (.int .u64 l2)∧W.cell? ⟨w.heap.size,3,none⟩=some (.int .u64 l3)∧W.cell? ⟨w.heap.size,4,none⟩=some (.int .u64 l4)∧W.cell? ⟨w.heap.size,5,none⟩=some (.int .u64 l5)∧W.cell? ⟨w.heap.size,6,none⟩=some (.int .u64 l6)∧W.cell? ⟨w.heap.size,7,none⟩=some (.int .u64 (Su.Ej l1 l2 l3 l4 l5 l6))∧Below (w5.alloc (.cells #[.int .i64 1073741824,.int .u64 l3] 113)).heap.size (w5.alloc (.cells #[.int .i64 1073741824,.int .u64 l3] 113)) W) Aw ?_ (fun hHeld=>?_)
 ·(try dsimp only)
  (first|assumption|exact YD)
 refine aA ?_
 refine wpAnyH_ready (rs:=[3]) Aw J (AllReadyH.cons O (fun K hK=>?_) AllReadyH.nil)
 (try go_simp)
 have hS:=(by assumption:_∧_∧_∧_∧_∧_∧_∧_∧_∧_∧Below _ _ _).2.2.2.2.2.2.2.2.2.2
 refine(QV _ _ Y Y).mono ?_
 rintro e w7 ⟨rfl,hb7⟩
 have RZ:=hS.trans (hb7.mono hS.size)
 have hS':=s10 X6 S6 RZ
 clear hb7 hS
 refine hK.out _ _ ?_ (fun hHeld=>?_)
 ·(try dsimp only)
  (first|assumption|exact YD)
 clear hK K
 refine aQ ?_
 refine wpAnyH_done Aw ?_ _
 have Yu:=(by assumption:_∧_∧_∧_∧_∧_∧_∧_∧_∧_∧Below _ _ _).2.2.2.2.2.2.2.2.2.2
 have RE:=R6.below Yu R6.lt
 have SE:=S6.below Yu S6.lt
 have r0:=RE.cell 0 _ rfl
 have r1:=RE.cell 1 _ rfl
 have f0:=RE.frozen 0
 have f1:=RE.frozen 1
 have s0:=SE.cell 0 _ rfl
 have s1:=SE.cell 1 _ rfl
 have hBE:=hB6.trans (Yu.mono hB6.size)
 go_wp2_with fail
 exact bodyPost_ret (v:= .tuple #[.agg #[.int .i64 0,.int .u64 0],.int .i64 26]) Ad rfl ⟨rfl,(hBE.setCell J _).setCell J _⟩
theorem akY(l1 l2 l3 l4 l5 l6:Int)(w:World)(h1:0≤l1∧l1≤18446744073709551615)(h2:0≤l2∧l2≤18446744073709551615)(h3:0≤l3∧l3≤18446744073709551615)(h4:0≤l4∧l4≤18446744073709551615)(h5:0≤l5∧l5≤18446744073709551615)(h6:0≤l6∧l6≤18446744073709551615)(g1:2≤l2)(g2:l2≤256)(g3:¬Su.okB l1 l2 l4 l5 l6):
 Calls prog 235 #[.agg #[.int .u64 8390047168116913201,.int .u64 l1,.int .u64 l2,.int .u64 l3,.int .u64 l4,.int .u64 l5,.int .u64 l6,.int .u64 (Su.Ej l1 l2 l3 l4 l5 l6)]] w fun e w'=>e= .returned (.tuple #[.agg #[.int .i64 0,.int .u64 0],.int .i64 26])∧Below w.heap.size w w':=by
 have hwf:=Lib.hid (X9 8390047168116913201 l1 l2 l3 l4 l5 l6 Y h1 h2 h3 h4 h5 h6)
 have hsb:=Su.NT l1 l2 l3 l4 l5 l6
 have hsw:IntKind.u64.wrap (Su.Ej l1 l2 l3 l4 l5 l6)=Su.Ej l1 l2 l3 l4 l5 l6:=by rw[IntKind.wrap_u64];omega
 have hrb:=Su.F7 l2 g1 g2
 have hne:eqB [8390047168116913201,1,l2,l3,0,0,0,Su.crc l2 l3] [8390047168116913201,l1,l2,l3,l4,l5,l6,Su.Ej l1 l2 l3 l4 l5 l6]=false:=by
  apply aqN
  intro h
  simp only[P5]at h
  exact g3 ⟨h.2.1.symm,h.2.2.2.2.1.symm,h.2.2.2.2.2.1.symm,h.2.2.2.2.2.2.1.symm,g1,g2⟩
 have heq:=ah3 [8390047168116913201,1,l2,l3,0,0,0,Su.crc l2 l3] [8390047168116913201,l1,l2,l3,l4,l5,l6,Su.Ej l1 l2 l3 l4 l5 l6] rfl rfl
 rw[hne]at heq
 simp only[DJ,Ef]at heq
 clear g3 hne
 have X:=Lib.hid ((Ko.new w #[.int .u64 8390047168116913201,.int .u64 l1,.int .u64 l2,.int .u64 l3,.int .u64 l4,.int .u64 l5,.int .u64 l6,.int .u64 (Su.Ej l1 l2 l3 l4 l5 l6)] 245).alloc (.cells #[.int .i64 0,.int .u64 0] 113))
 have R:=Lib.hid (Ko.new1 w (.cells #[.int .u64 8390047168116913201,.int .u64 l1,.int .u64 l2,.int .u64 l3,.int .u64 l4,.int .u64 l5,.int .u64 l6,.int .u64 (Su.Ej l1 l2 l3 l4 l5 l6)] 245) #[.int .i64 0,.int .u64 0] 113)
 have hB:Below w.heap.size w ((w.alloc (.cells #[.int .u64 8390047168116913201,.int .u64 l1,.int .u64 l2,.int .u64 l3,.int .u64 l4,.int .u64 l5,.int .u64 l6,.int .u64 (Su.Ej l1 l2 l3 l4 l5 l6)] 245)).alloc (.cells #[.int .i64 0,.int .u64 0] 113)):=((Below.refl _ _).alloc (BF _) _).alloc J _
 generalize hZ:((w.alloc (.cells #[.int .u64 8390047168116913201,.int .u64 l1,.int .u64 l2,.int .u64 l3,.int .u64 l4,.int .u64 l5,.int .u64 l6,.int .u64 (Su.Ej l1 l2 l3 l4 l5 l6)] 245)).alloc (.cells #[.int .i64 0,.int .u64 0] 113))=Z at*
 have x0:=X.out.cell 0 _ rfl
 have x7:=X.out.cell 7 _ rfl
 go_enter func235,Tryz.ntmps235
 go_wp2_with fail
 go_region_held3 (fun W=>W.cell? ⟨w.heap.size,7,none⟩=some (.int .u64 (Su.Ej l1 l2 l3 l4 l5 l6))∧Below Z.heap.size Z W)
  (first|assumption|exact⟨x7,(Below.refl _ _).drew⟩)
  (first
   |(go_at_call 44;refine(GL _ 7 8 [8390047168116913201,l1,l2,l3,l4,l5,l6] _ _ ((Gv.Yv X.out 7 J).below (by assumption:_∧Below _ _ _).2) hwf.out Y (by assumption:_∧Below _ _ _).2.size).mono ?_;rintro e w5 ⟨rfl,hb5⟩;rw[show Cr.more 0 (By.bytes [8390047168116913201,l1,l2,l3,l4,l5,l6])=Su.Ej l1 l2 l3 l4 l5 l6 from rfl];have hS:=(by assumption:_∧Below _ _ _);have hS':=And.intro ((hb5.cell (cell_lt hS.1)).trans hS.1) (hS.2.trans (hb5.mono hS.2.size))))
 have hS':=(by assumption:_∧Below _ _ _)
 have R5:=R.out.below hS'.2 R.out.lt
 have X5:=X.out.below hS'.2 X.out.lt
 have x2:=X5.cell 2 _ rfl
 have x3:=X5.cell 3 _ rfl
 have hB5:=hB.trans (hS'.2.mono hB.size)
 have R6:=R5.alloc (.cells #[.int .i64 l2,.int .u64 l3] 113)
 have X6:=X5.alloc (.cells #[.int .i64 l2,.int .u64 l3] 113)
 have S6:=Ko.new w5 #[.int .i64 l2,.int .u64 l3] 113
 have hB6:=hB5.alloc hB5.size (.cells #[.int .i64 l2,.int .u64 l3] 113)
 have YD:=s10 X6 S6 (Below.refl _ _).drew
 clear x0 x7 hS' hB5
 go_wp2_with fail
 refine wp_region_held_drew (S:=fun W=>W.cell? ⟨w5.heap.size,0,none⟩=some (.int .i64 l2)∧W.cell? ⟨w5.heap.size,1,none⟩=some (.int .u64 l3)∧W.cell? ⟨w.heap.size,0,none⟩=some (.int .u64 8390047168116913201)∧W.cell? ⟨w.heap.size,1,none⟩=some (.int .u64 l1)∧W.cell? ⟨w.heap.size,2,none⟩=some (.int .u64 l2)∧W.cell? ⟨w.heap.size,3,none⟩=some (.int .u64 l3)∧W.cell? ⟨w.heap.size,4,none⟩=some (.int .u64 l4)∧W.cell? ⟨w.heap.size,5,none⟩=some (.int .u64 l5)∧W.cell? ⟨w.heap.size,6,none⟩=some (.int .u64 l6)∧W.cell? ⟨w.heap.size,7,none⟩=some (.int .u64 (Su.Ej l1 l2 l3 l4 l5 l6))∧Below (w5.alloc (.cells #[.int .i64 l2,.int .u64 l3] 113)).heap.size (w5.alloc (.cells #[.int .i64 l2,.int .u64 l3] 113)) W) Aw ?_ (fun hHeld=>?_)
 ·(try dsimp only)
  (first|assumption|exact YD)
 refine aA ?_
 refine wpAnyH_ready (rs:=[3]) Aw J (AllReadyH.cons O (fun K hK=>?_) AllReadyH.nil)
 (try go_simp)
 have hS:=(by assumption:_∧_∧_∧_∧_∧_∧_∧_∧_∧_∧Below _ _ _).2.2.2.2.2.2.2.2.2.2
 refine(QV _ _ Y Y).mono ?_
 rintro e w7 ⟨rfl,hb7⟩
 have RZ:=hS.trans (hb7.mono hS.size)
 have hS':=s10 X6 S6 RZ
 clear hb7 hS
 refine hK.out _ _ ?_ (fun hHeld=>?_)
 ·(try dsimp only)
  (first|assumption|exact YD)
 clear hK K
 refine ah ?_
 refine aI ?_
 refine ah ?_
 refine dD ?_
 refine sW ?_
 refine aJ ?_
 refine ah ?_
 refine wpAnyH_ready (rs:=[7]) Aw J (AllReadyH.cons O (fun K hK=>?_) AllReadyH.nil)
 (try go_simp)
 refine(aaT _ _ _ Y Y Y Y).mono ?_
 rintro e w8 ⟨rfl,hb8⟩
 have ahu:=RZ.trans (hb8.mono RZ.size)
 have hS':=s10 X6 S6 ahu
 clear hb8
 refine hK.out _ _ ?_ (fun hHeld=>?_)
 ·(try dsimp only)
  (first|assumption|exact YD)
 clear hK K
 refine dO ?_
 refine wpAnyH_done Aw ?_ _
 have Yu:=(by assumption:_∧_∧_∧_∧_∧_∧_∧_∧_∧_∧Below _ _ _).2.2.2.2.2.2.2.2.2.2
 have RE:=R6.below Yu R6.lt
 have SE:=S6.below Yu S6.lt
 have r0:=RE.cell 0 _ rfl
 have r1:=RE.cell 1 _ rfl
 have f0:=RE.frozen 0
 have f1:=RE.frozen 1
 have s0:=SE.cell 0 _ rfl
 have s1:=SE.cell 1 _ rfl
 have hBE:=hB6.trans (Yu.mono hB6.size)
 go_wp2_with fail
 exact bodyPost_ret (v:= .tuple #[.agg #[.int .i64 0,.int .u64 0],.int .i64 26]) Ad rfl ⟨rfl,(hBE.setCell J _).setCell J _⟩
end
end
section
section
open Go.RowKit
theorem s8{Z W:World}{x:Nat}{T:TypeId}{c0 c1 c2 c3 c4 c5 c6 c7:Value}(X:Ko Z x #[c0,c1,c2,c3,c4,c5,c6,c7] T)(h:Below Z.heap.size Z W):
 W.cell? ⟨x,0,none⟩=some c0∧W.cell? ⟨x,1,none⟩=some c1∧W.cell? ⟨x,2,none⟩=some c2∧W.cell? ⟨x,3,none⟩=some c3∧W.cell? ⟨x,4,none⟩=some c4∧W.cell? ⟨x,5,none⟩=some c5∧W.cell? ⟨x,6,none⟩=some c6∧W.cell? ⟨x,7,none⟩=some c7∧Below Z.heap.size Z W:=by
 have X':=X.below h X.lt
 exact⟨X'.cell 0 _ rfl,X'.cell 1 _ rfl,X'.cell 2 _ rfl,X'.cell 3 _ rfl,X'.cell 4 _ rfl,X'.cell 5 _ rfl,X'.cell 6 _ rfl,X'.cell 7 _ rfl,h⟩
end
end
section
section
open Go.RowKit
def Ui(x:Int):Prop:=0≤x∧x≤18446744073709551615
theorem amd(l0 l1 l2 l3 l4 l5 l6 l7:Int)(w:World)(h0:Ui l0)(h1:Ui l1)(h2:Ui l2)(h3:Ui l3)(h4:Ui l4)(h5:Ui l5)(h6:Ui l6)(h7:Ui l7):
 Calls prog 235 #[.agg #[.int .u64 l0,.int .u64 l1,.int .u64 l2,.int .u64 l3,.int .u64 l4,.int .u64 l5,.int .u64 l6,.int .u64 l7]] w fun e w'=>e= .returned (.tuple #[.agg #[.int .i64 (Su.Qj l0 l1 l2 l3 l4 l5 l6 l7),.int .u64 (Su.abT l0 l1 l2 l3 l4 l5 l6 l7)],.int .i64 (Su.MJ l0 l1 l2 l3 l4 l5 l6 l7)])∧Below w.heap.size w w':=by
 by_cases c0:l0=8390047168116913201
 ·subst c0
  by_cases c7:l7=Su.Ej l1 l2 l3 l4 l5 l6
  ·subst c7
   by_cases c:Su.okB l1 l2 l4 l5 l6
   ·obtain⟨e1,e2,e3⟩:=Su.alB l1 l2 l3 l4 l5 l6 c
    rw[e1,e2,e3]
    obtain⟨rfl,rfl,rfl,rfl,c1,c2⟩:=c
    exact aop l2 l3 w h2 h3 c1 c2
   ·obtain⟨e1,e2,e3⟩:=Su.aju l1 l2 l3 l4 l5 l6 c
    rw[e1,e2,e3]
    rcases(show l2<2∨(2≤l2∧l2≤256)∨(256<l2∧l2≤1073741824)∨1073741824<l2 from by omega)with g|⟨g,g'⟩|⟨g,g'⟩|g
    ·exact adb l1 l2 l3 l4 l5 l6 w h1 h2 h3 h4 h5 h6 (.inl g) Y
    ·exact akY l1 l2 l3 l4 l5 l6 w h1 h2 h3 h4 h5 h6 g g' c
    ·exact adb l1 l2 l3 l4 l5 l6 w h1 h2 h3 h4 h5 h6 (.inr g) g'
    ·exact aj6 l1 l2 l3 l4 l5 l6 w h1 h2 h3 h4 h5 h6 g
  ·obtain⟨e1,e2,e3⟩:=Su.anj l1 l2 l3 l4 l5 l6 l7 c7
   rw[e1,e2,e3]
   exact alR l1 l2 l3 l4 l5 l6 l7 w h1 h2 h3 h4 h5 h6 c7
 ·obtain⟨e1,e2,e3⟩:=Su.ajQ l0 l1 l2 l3 l4 l5 l6 l7 c0
  rw[e1,e2,e3]
  exact agX l0 l1 l2 l3 l4 l5 l6 l7 w c0
end
end
end Go.Proofs.YtppilhpcmkekbaaGreat
