/- Parts of the proof. -/
import Derived.Deep.RegionHeld3
import Derived.LoopN
import Derived.Test.YtppilhpcmkekbaaGreatKTopImagesb
set_option linter.unusedSimpArgs false
set_option linter.unusedVariables false
set_option linter.unusedSectionVars false
set_option maxRecDepth 100000
set_option maxHeartbeats 16000000
namespace Go.Proofs.YtppilhpcmkekbaaGreat
open Go.Proofs.Tryz
section
section
open Go.RowKit
abbrev WO:Value:=(.agg #[.int .u32 0,.int .u32 498536548,.int .u32 997073096,.int .u32 651767980,.int .u32 1994146192,.int .u32 1802195444,.int .u32 1303535960,.int .u32 1342533948,.int .u32 3988292384,.int .u32 4027552580,.int .u32 3604390888,.int .u32 3412177804,.int .u32 2607071920,.int .u32 2262029012,.int .u32 2685067896,.int .u32 3183342108])
theorem aru(w:World):(Instr.index 326 WO (.int .u8 0)).run prog w= .ok (.int .u32 0) w:=by kernel_rfl
theorem arV(w:World):(Instr.index 326 WO (.int .u8 1)).run prog w= .ok (.int .u32 498536548) w:=by kernel_rfl
theorem ar7(w:World):(Instr.index 326 WO (.int .u8 2)).run prog w= .ok (.int .u32 997073096) w:=by kernel_rfl
theorem asU(w:World):(Instr.index 326 WO (.int .u8 3)).run prog w= .ok (.int .u32 651767980) w:=by kernel_rfl
theorem aq2(w:World):(Instr.index 326 WO (.int .u8 4)).run prog w= .ok (.int .u32 1994146192) w:=by kernel_rfl
theorem asN(w:World):(Instr.index 326 WO (.int .u8 5)).run prog w= .ok (.int .u32 1802195444) w:=by kernel_rfl
theorem ar6(w:World):(Instr.index 326 WO (.int .u8 6)).run prog w= .ok (.int .u32 1303535960) w:=by kernel_rfl
theorem asx(w:World):(Instr.index 326 WO (.int .u8 7)).run prog w= .ok (.int .u32 1342533948) w:=by kernel_rfl
theorem as2(w:World):(Instr.index 326 WO (.int .u8 8)).run prog w= .ok (.int .u32 3988292384) w:=by kernel_rfl
theorem asK(w:World):(Instr.index 326 WO (.int .u8 9)).run prog w= .ok (.int .u32 4027552580) w:=by kernel_rfl
theorem aoG(w:World):(Instr.index 326 WO (.int .u8 10)).run prog w= .ok (.int .u32 3604390888) w:=by kernel_rfl
theorem aoa(w:World):(Instr.index 326 WO (.int .u8 11)).run prog w= .ok (.int .u32 3412177804) w:=by kernel_rfl
theorem anS(w:World):(Instr.index 326 WO (.int .u8 12)).run prog w= .ok (.int .u32 2607071920) w:=by kernel_rfl
theorem aoD(w:World):(Instr.index 326 WO (.int .u8 13)).run prog w= .ok (.int .u32 2262029012) w:=by kernel_rfl
theorem apP(w:World):(Instr.index 326 WO (.int .u8 14)).run prog w= .ok (.int .u32 2685067896) w:=by kernel_rfl
theorem aoq(w:World):(Instr.index 326 WO (.int .u8 15)).run prog w= .ok (.int .u32 3183342108) w:=by kernel_rfl
theorem akn(i:Int)(w:World)(h1:0≤i)(h2:i≤255)(hc:i%16=0):
 Calls prog 234 #[.int .u8 i] w fun e w'=>e= .returned (.int .u32 (Cr.Ir i))∧w=w':=by
 have hb:bits .and .u8 i 15=0:=by rw[u8_and15 (x:=i) h1 Y,hc]
 have hv:Cr.Ir i=0:=by unfold Cr.Ir;rw[hc];decide
 have hx:=aru
 rw[hv]
 clear hv hc
 go_enter func234,Tryz.ntmps234
 go_wp2_with fail
 go_ret
 exact⟨rfl,rfl⟩
theorem ajq(i:Int)(w:World)(h1:0≤i)(h2:i≤255)(hc:i%16=1):
 Calls prog 234 #[.int .u8 i] w fun e w'=>e= .returned (.int .u32 (Cr.Ir i))∧w=w':=by
 have hb:bits .and .u8 i 15=1:=by rw[u8_and15 (x:=i) h1 Y,hc]
 have hv:Cr.Ir i=498536548:=by unfold Cr.Ir;rw[hc];decide
 have hx:=arV
 rw[hv]
 clear hv hc
 go_enter func234,Tryz.ntmps234
 go_wp2_with fail
 go_ret
 exact⟨rfl,rfl⟩
theorem ajT(i:Int)(w:World)(h1:0≤i)(h2:i≤255)(hc:i%16=2):
 Calls prog 234 #[.int .u8 i] w fun e w'=>e= .returned (.int .u32 (Cr.Ir i))∧w=w':=by
 have hb:bits .and .u8 i 15=2:=by rw[u8_and15 (x:=i) h1 Y,hc]
 have hv:Cr.Ir i=997073096:=by unfold Cr.Ir;rw[hc];decide
 have hx:=ar7
 rw[hv]
 clear hv hc
 go_enter func234,Tryz.ntmps234
 go_wp2_with fail
 go_ret
 exact⟨rfl,rfl⟩
theorem ajS(i:Int)(w:World)(h1:0≤i)(h2:i≤255)(hc:i%16=3):
 Calls prog 234 #[.int .u8 i] w fun e w'=>e= .returned (.int .u32 (Cr.Ir i))∧w=w':=by
 have hb:bits .and .u8 i 15=3:=by rw[u8_and15 (x:=i) h1 Y,hc]
 have hv:Cr.Ir i=651767980:=by unfold Cr.Ir;rw[hc];decide
 have hx:=asU
 rw[hv]
 clear hv hc
 go_enter func234,Tryz.ntmps234
 go_wp2_with fail
 go_ret
 exact⟨rfl,rfl⟩
theorem aj9(i:Int)(w:World)(h1:0≤i)(h2:i≤255)(hc:i%16=4):
 Calls prog 234 #[.int .u8 i] w fun e w'=>e= .returned (.int .u32 (Cr.Ir i))∧w=w':=by
 have hb:bits .and .u8 i 15=4:=by rw[u8_and15 (x:=i) h1 Y,hc]
 have hv:Cr.Ir i=1994146192:=by unfold Cr.Ir;rw[hc];decide
 have hx:=aq2
 rw[hv]
 clear hv hc
 go_enter func234,Tryz.ntmps234
 go_wp2_with fail
 go_ret
 exact⟨rfl,rfl⟩
theorem akg(i:Int)(w:World)(h1:0≤i)(h2:i≤255)(hc:i%16=5):
 Calls prog 234 #[.int .u8 i] w fun e w'=>e= .returned (.int .u32 (Cr.Ir i))∧w=w':=by
 have hb:bits .and .u8 i 15=5:=by rw[u8_and15 (x:=i) h1 Y,hc]
 have hv:Cr.Ir i=1802195444:=by unfold Cr.Ir;rw[hc];decide
 have hx:=asN
 rw[hv]
 clear hv hc
 go_enter func234,Tryz.ntmps234
 go_wp2_with fail
 go_ret
 exact⟨rfl,rfl⟩
theorem akI(i:Int)(w:World)(h1:0≤i)(h2:i≤255)(hc:i%16=6):
 Calls prog 234 #[.int .u8 i] w fun e w'=>e= .returned (.int .u32 (Cr.Ir i))∧w=w':=by
 have hb:bits .and .u8 i 15=6:=by rw[u8_and15 (x:=i) h1 Y,hc]
 have hv:Cr.Ir i=1303535960:=by unfold Cr.Ir;rw[hc];decide
 have hx:=ar6
 rw[hv]
 clear hv hc
 go_enter func234,Tryz.ntmps234
 go_wp2_with fail
 go_ret
 exact⟨rfl,rfl⟩
theorem ako(i:Int)(w:World)(h1:0≤i)(h2:i≤255)(hc:i%16=7):
 Calls prog 234 #[.int .u8 i] w fun e w'=>e= .returned (.int .u32 (Cr.Ir i))∧w=w':=by
 have hb:bits .and .u8 i 15=7:=by rw[u8_and15 (x:=i) h1 Y,hc]
 have hv:Cr.Ir i=1342533948:=by unfold Cr.Ir;rw[hc];decide
 have hx:=asx
 rw[hv]
 clear hv hc
 go_enter func234,Tryz.ntmps234
 go_wp2_with fail
 go_ret
 exact⟨rfl,rfl⟩
theorem akw(i:Int)(w:World)(h1:0≤i)(h2:i≤255)(hc:i%16=8):
 Calls prog 234 #[.int .u8 i] w fun e w'=>e= .returned (.int .u32 (Cr.Ir i))∧w=w':=by
 have hb:bits .and .u8 i 15=8:=by rw[u8_and15 (x:=i) h1 Y,hc]
 have hv:Cr.Ir i=3988292384:=by unfold Cr.Ir;rw[hc];decide
 have hx:=as2
 rw[hv]
 clear hv hc
 go_enter func234,Tryz.ntmps234
 go_wp2_with fail
 go_ret
 exact⟨rfl,rfl⟩
theorem ajL(i:Int)(w:World)(h1:0≤i)(h2:i≤255)(hc:i%16=9):
 Calls prog 234 #[.int .u8 i] w fun e w'=>e= .returned (.int .u32 (Cr.Ir i))∧w=w':=by
 have hb:bits .and .u8 i 15=9:=by rw[u8_and15 (x:=i) h1 Y,hc]
 have hv:Cr.Ir i=4027552580:=by unfold Cr.Ir;rw[hc];decide
 have hx:=asK
 rw[hv]
 clear hv hc
 go_enter func234,Tryz.ntmps234
 go_wp2_with fail
 go_ret
 exact⟨rfl,rfl⟩
theorem ahh(i:Int)(w:World)(h1:0≤i)(h2:i≤255)(hc:i%16=10):
 Calls prog 234 #[.int .u8 i] w fun e w'=>e= .returned (.int .u32 (Cr.Ir i))∧w=w':=by
 have hb:bits .and .u8 i 15=10:=by rw[u8_and15 (x:=i) h1 Y,hc]
 have hv:Cr.Ir i=3604390888:=by unfold Cr.Ir;rw[hc];decide
 have hx:=aoG
 rw[hv]
 clear hv hc
 go_enter func234,Tryz.ntmps234
 go_wp2_with fail
 go_ret
 exact⟨rfl,rfl⟩
theorem ahH(i:Int)(w:World)(h1:0≤i)(h2:i≤255)(hc:i%16=11):
 Calls prog 234 #[.int .u8 i] w fun e w'=>e= .returned (.int .u32 (Cr.Ir i))∧w=w':=by
 have hb:bits .and .u8 i 15=11:=by rw[u8_and15 (x:=i) h1 Y,hc]
 have hv:Cr.Ir i=3412177804:=by unfold Cr.Ir;rw[hc];decide
 have hx:=aoa
 rw[hv]
 clear hv hc
 go_enter func234,Tryz.ntmps234
 go_wp2_with fail
 go_ret
 exact⟨rfl,rfl⟩
theorem agt(i:Int)(w:World)(h1:0≤i)(h2:i≤255)(hc:i%16=12):
 Calls prog 234 #[.int .u8 i] w fun e w'=>e= .returned (.int .u32 (Cr.Ir i))∧w=w':=by
 have hb:bits .and .u8 i 15=12:=by rw[u8_and15 (x:=i) h1 Y,hc]
 have hv:Cr.Ir i=2607071920:=by unfold Cr.Ir;rw[hc];decide
 have hx:=anS
 rw[hv]
 clear hv hc
 go_enter func234,Tryz.ntmps234
 go_wp2_with fail
 go_ret
 exact⟨rfl,rfl⟩
theorem ags(i:Int)(w:World)(h1:0≤i)(h2:i≤255)(hc:i%16=13):
 Calls prog 234 #[.int .u8 i] w fun e w'=>e= .returned (.int .u32 (Cr.Ir i))∧w=w':=by
 have hb:bits .and .u8 i 15=13:=by rw[u8_and15 (x:=i) h1 Y,hc]
 have hv:Cr.Ir i=2262029012:=by unfold Cr.Ir;rw[hc];decide
 have hx:=aoD
 rw[hv]
 clear hv hc
 go_enter func234,Tryz.ntmps234
 go_wp2_with fail
 go_ret
 exact⟨rfl,rfl⟩
theorem ahI(i:Int)(w:World)(h1:0≤i)(h2:i≤255)(hc:i%16=14):
 Calls prog 234 #[.int .u8 i] w fun e w'=>e= .returned (.int .u32 (Cr.Ir i))∧w=w':=by
 have hb:bits .and .u8 i 15=14:=by rw[u8_and15 (x:=i) h1 Y,hc]
 have hv:Cr.Ir i=2685067896:=by unfold Cr.Ir;rw[hc];decide
 have hx:=apP
 rw[hv]
 clear hv hc
 go_enter func234,Tryz.ntmps234
 go_wp2_with fail
 go_ret
 exact⟨rfl,rfl⟩
theorem agA(i:Int)(w:World)(h1:0≤i)(h2:i≤255)(hc:i%16=15):
 Calls prog 234 #[.int .u8 i] w fun e w'=>e= .returned (.int .u32 (Cr.Ir i))∧w=w':=by
 have hb:bits .and .u8 i 15=15:=by rw[u8_and15 (x:=i) h1 Y,hc]
 have hv:Cr.Ir i=3183342108:=by unfold Cr.Ir;rw[hc];decide
 have hx:=aoq
 rw[hv]
 clear hv hc
 go_enter func234,Tryz.ntmps234
 go_wp2_with fail
 go_ret
 exact⟨rfl,rfl⟩
theorem table_any(i:Int)(w:World)(h1:0≤i)(h2:i≤255):
 Calls prog 234 #[.int .u8 i] w fun e w'=>e= .returned (.int .u32 (Cr.Ir i))∧w=w':=by
 rcases(show i%16=0∨i%16=1∨i%16=2∨i%16=3∨i%16=4∨i%16=5∨i%16=6∨i%16=7∨i%16=8∨i%16=9∨i%16=10∨i%16=11∨i%16=12∨i%16=13∨i%16=14∨i%16=15 from by omega)with
  h|h|h|h|h|h|h|h|h|h|h|h|h|h|h|h
 ·exact akn i w h1 h2 h
 ·exact ajq i w h1 h2 h
 ·exact ajT i w h1 h2 h
 ·exact ajS i w h1 h2 h
 ·exact aj9 i w h1 h2 h
 ·exact akg i w h1 h2 h
 ·exact akI i w h1 h2 h
 ·exact ako i w h1 h2 h
 ·exact akw i w h1 h2 h
 ·exact ajL i w h1 h2 h
 ·exact ahh i w h1 h2 h
 ·exact ahH i w h1 h2 h
 ·exact agt i w h1 h2 h
 ·exact ags i w h1 h2 h
 ·exact ahI i w h1 h2 h
 ·exact agA i w h1 h2 h
end
end
section
section
open Go.RowKit
theorem anM(s:Int)(A:Option Addr)(len cap:Nat)(xs:List Int)(B:Nat)(w:World)(h1:0≤s)(h2:s≤4294967295)(hr:Gv w B A len (xs.map (Value.int .u8)))(hi:Ints .u8 xs)(hl:len≤9223372036854775807):
 Calls prog 171 #[.int .u32 s,.slice A len cap] w fun e w'=>e= .returned (.int .u32 (Cr.more s xs))∧w=w':=by
 have hb:∀b∈xs,0≤b∧b≤255:=fun b hb=>bounds_u8 (hi b hb)
 have HB:=Lib.hid hb
 have HI:=Lib.hid hi
 have HR:=Lib.hid hr
 have hlen:xs.length=len:=by simpa using hr.1
 have HL:=Lib.hid hlen
 clear hb hi hr hlen
 have hn:=Cr.agi s h1 h2
 have hfin:=Lib.hid (Cr.aj7 s xs h1 h2 HB.out)
 go_enter func171,Tryz.ntmps171
 go_wp2_with fail
 go_loop [0,6,11] (fun s' _u t=>∃j:Nat,j≤len∧t= .int .i64 j∧s'= .int .u32 (Cr.run (4294967295-s) (xs.take j))) (fun _ _ t=>len-(intOf t).toNat)
 case atStart=>exact⟨0,Y,rfl,rfl⟩
 case round=>
  obtain⟨j,hj,rfl,rfl⟩:=hrel
  have hbd:=Cr.agC (xs.take j) (4294967295-s) Y Y (fun b hb=>HB.out b (G7 hb))
  by_cases hlt:j<len
  ·obtain⟨b,off,z,rfl,hbl,hz,hwz,hc⟩:=HR.out.int HI.out hlt
   have hzb:=bounds_u8 hwz
   have HN:=Lib.hid (Cr.amw (4294967295-s) (xs.take j) z)
   have HT:=Lib.hid (UD hz)
   clear hz hwz
   generalize Cr.run (4294967295-s) (xs.take j)=r at*
   have hh:=Cr.SV r z hbd.1 hbd.2 hzb.1 hzb.2
   obtain⟨s1,hs1⟩:∃s1,bits .xor .u32 (Cr.Ir (bits .xor .u8 (r%256) z)) (r/16)=s1:=⟨_,rfl⟩
   have hsb:=Cr.ape r z s1 hbd.1 hbd.2 hzb.1 hzb.2 hs1
   have hcode:=Cr.ajX r z s1 hbd.1 hbd.2 hzb.1 hzb.2 hs1
   have hh2:=(Cr.SV s1 (z/16) hsb.1 hsb.2 Y Y).2
   have hh1:=hh.2
   clear hh
   have t1:=Cr.apM (bits .xor .u8 (r%256) z)
   go_wp2_with (first
   |(go_at_call 234;refine(table_any _ _ Y Y).mono ?_;rintro e w' ⟨rfl,rfl⟩))
   go_round
   case rel=>exact⟨j+1,Y,by go_num,by rw[HT.out,HN.out]⟩
   case measure=>simp[intOf];omega
  ·go_wp2_with fail
   go_ret
   exact⟨FB (by rw[←hfin.out];congr 2;rw[Ez (by rw[HL.out];omega)]),rfl⟩
theorem sum_any(A:Option Addr)(len cap:Nat)(xs:List Int)(B:Nat)(w:World)(hr:Gv w B A len (xs.map (Value.int .u8)))(hi:Ints .u8 xs)(hl:len≤9223372036854775807):
 Calls prog 112 #[.slice A len cap] w fun e w'=>e= .returned (.int .u32 (Cr.more 0 xs))∧w=w':=by
 go_enter func112,Tryz.ntmps112
 go_wp2_with fail
 refine(anM 0 A len cap xs B _ Y Y hr hi hl).mono ?_
 rintro e w' ⟨rfl,rfl⟩
 go_wp2_with fail
 go_ret
 exact⟨rfl,rfl⟩
end
end
section
section
open Go.RowKit
theorem Gx(A:Option Addr)(len cap:Nat)(xs:List Int)(B:Nat)(w:World)(hr:Gv w B A len (xs.map (Value.int .u64)))(hi:Ints .u64 xs)(hl:len≤1099511627776)(hB:B≤w.heap.size):
 Calls prog 44 #[.slice A len cap] w fun e w'=>e= .returned (.int .u32 (Cr.more 0 (By.bytes xs)))∧Below w.heap.size w w':=by
 go_enter func44,Tryz.ntmps44
 go_wp2_with fail
 refine(acX A len cap xs B _ hr hi hl hB).mono ?_
 rintro e w1 ⟨v,rfl,hown,hb⟩
 obtain⟨A',c',rfl,hc1,hc2,_⟩:=ajN hown
 go_wp2_with fail
 refine(sum_any A' (8*len) c' (By.bytes xs) _ _ (Gv.asu hown) (fun z hz=>wf_u8 (By.PY xs z hz)) Y).mono ?_
 rintro e w' ⟨rfl,rfl⟩
 go_wp2_with fail
 go_ret
 exact⟨rfl,hb⟩
theorem aow(w:World)(T:TypeId)(x y:Int):Gv (w.alloc (.cells #[.int .u64 x,.int .u64 y] T)) (w.heap.size+1) (some ⟨w.heap.size,0,none⟩) 2 ([x,y].map (Value.int .u64)):=by
 have h:=Gv.of_block (heap_alloc_new w (.cells #[.int .u64 x,.int .u64 y] T)) J (m:=2) rfl
 simpa using h
theorem XK(n p:Int)(w:World)(h1:0≤n)(h2:n≤4294967295)(p1: -9223372036854775808≤p)(p2:p≤9223372036854775807):
 Calls prog 225 #[.int .u32 n,.int .i64 p] w fun e w'=>e= .returned (.int .u64 (Sl.sealed n p))∧Below w.heap.size w w':=by
 obtain⟨q,hq⟩:∃q,IntKind.u64.wrap p=q:=⟨_,rfl⟩
 have hqb:0≤q∧q≤18446744073709551615:=by rw[←hq,IntKind.wrap_u64];omega
 have HQ:=Lib.hid hq
 have hcb:=Sl.Sr n q
 have hfin:=Lib.hid (Sl.aks n p q h1 h2 hq)
 go_enter func225,Tryz.ntmps225
 go_wp2_with fail
 refine(Gx _ 2 2 [n,q] _ _ (aow w _ n q) (by intro z hz;simp at hz;rcases hz with O|rfl<;>exact wf_u64 Y) Y J).mono ?_
 rintro e w1 ⟨rfl,hb⟩
 go_wp2_with fail
 go_ret
 exact⟨FB hfin.out,((Below.refl _ _).alloc (Bg _) _).trans (hb.mono J)⟩
theorem open_any(x p:Int)(w:World)(h1:0≤x)(h2:x≤18446744073709551615)(p1: -9223372036854775808≤p)(p2:p≤9223372036854775807):
 Calls prog 199 #[.int .u64 x,.int .i64 p] w fun e w'=>e= .returned (.tuple #[.int .u32 (Sl.adx x p),.bool (Sl.LX x p)])∧Below w.heap.size w w':=by
 cases hob:Sl.LX x p
 ·have hon:=Sl.aa9 x p hob
  have ho:=Sl.ak9 x p hob
  rw[hon]
  clear hob hon
  go_enter func199,Tryz.ntmps199
  go_wp2_with (first|(go_at_call 225;refine(XK _ _ _ Y Y Y Y).mono ?_;rintro e w1 ⟨rfl,hb⟩))
  go_ret2
  exact⟨rfl,hb⟩
 ·have hon:=Sl.Wv x p hob
  have ho:=Sl.ajk x p hob
  rw[hon]
  clear hob hon
  go_enter func199,Tryz.ntmps199
  go_wp2_with (first|(go_at_call 225;refine(XK _ _ _ Y Y Y Y).mono ?_;rintro e w1 ⟨rfl,hb⟩))
  go_ret2
  exact⟨rfl,hb⟩
end
end
section
section
open Go.RowKit
theorem Xb{W w1:World}(hb:Below W.heap.size W w1):(∀b o,b<W.heap.size→w1.cell? ⟨b,o,none⟩=W.cell? ⟨b,o,none⟩)∧(∀b o,b<W.heap.size→w1.frozen? ⟨b,o,none⟩=W.frozen? ⟨b,o,none⟩):=
 ⟨fun b o h=>hb.cell (p:=⟨b,o,none⟩) h,fun b o h=>hb.frozen (p:=⟨b,o,none⟩) h⟩
theorem UO(w:World)(o:Obj)(p:Addr)(h:p.block<w.heap.size):(w.alloc o).frozen? p=w.frozen? p:=((Below.refl w.heap.size w).alloc (Bg _) o).frozen h
theorem amy(w:World)(p d:Value)(T:TypeId):(w.alloc (.cells #[p,d] T)).cell? ⟨w.heap.size,0,none⟩=some p∧(w.alloc (.cells #[p,d] T)).cell? ⟨w.heap.size,1,none⟩=some d∧Below w.heap.size w (w.alloc (.cells #[p,d] T)):=
 ⟨by rw[Joins.cell_of_block (heap_alloc_new w _)];rfl,by rw[Joins.cell_of_block (heap_alloc_new w _)];rfl,(Below.refl _ _).alloc (Bg _) _⟩
theorem Qz(p d:Int)(w:World)(h1: -9223372036854775808≤p)(h2:p≤9223372036854775807)(h3: -9223372036854775808≤d)(h4:d≤9223372036854775807):
 Calls prog 155 #[.agg #[.int .i64 p,.int .i64 d]] w fun e w'=>e= .returned (.int .i64 (Cl.size p d))∧Below w.heap.size w w':=by
 rcases(show(p<0∨p>63∨d<0∨d>16384)∨(0≤p∧p≤63∧0≤d∧d≤16384)from by omega)with c|⟨c1,c2,c3,c4⟩
 ·have e:=Cl.QU p d c
  have e1:=e.1
  have e2:=e.2
  clear e c
  go_enter func155,Tryz.ntmps155
  go_wp2_with (first
   |(go_at_call 215;refine(size_any _ _ _ Y Y Y Y).mono ?_;rintro e w' ⟨rfl,rfl⟩))
  go_ret
  exact⟨FB e1.symm,by(repeat (first|exact Below.refl _ _|(refine Below.alloc ?_ Ag _)))⟩
 ·have e:=Cl.LY p d c1 c2 c3 c4
  have e1:=Lib.hid e.1
  have e2:=e.2
  clear e
  go_enter func155,Tryz.ntmps155
  go_wp2_with (first
   |(go_at_call 215;refine(size_any _ _ _ Y Y Y Y).mono ?_;rintro e w' ⟨rfl,rfl⟩))
  go_ret
  exact⟨rfl,by(repeat (first|exact Below.refl _ _|(refine Below.alloc ?_ Ag _)))⟩
theorem abP(p d at_:Int)(w:World)(h1: -9223372036854775808≤p)(h2:p≤9223372036854775807)(h3: -9223372036854775808≤d)(h4:d≤9223372036854775807)(a1: -9223372036854775808≤at_)(a2:at_≤9223372036854775807):
 Calls prog 220 #[.agg #[.int .i64 p,.int .i64 d],.int .i64 at_] w fun e w'=>e= .returned (.int .u64 (Oh.enc p d at_))∧Below w.heap.size w w':=by
 have hK:=amy w (.int .i64 p) (.int .i64 d) 205
 rcases(show(p<0∨p>63∨d<0∨d>16384)∨(0≤p∧p≤63∧0≤d∧d≤16384)from by omega)with c|⟨c1,c2,c3,c4⟩
 ·have e:=Lib.hid (Oh.V5 p d at_ c)
  have es:=(Cl.QU p d c).1
  clear c
  go_enter func220,Tryz.ntmps220
  go_wp2_with (first
   |(go_at_call 155;refine(Qz _ _ _ Y Y Y Y).mono ?_;rintro e w' ⟨rfl,hb'⟩;first|(replace hK:=I5 hb' hK)|(replace hK:=I5 hb' (IY _ hK))|(replace hK:=I5 hb' (IY _ (IY _ hK)))|(replace hK:=I5 hb' (Ul hK));clear hb'))
  go_ret
  exact⟨FB e.out.symm,hK.2.2⟩
 ·have e:=Lib.hid (Oh.Rh p d at_ c1 c2 c3 c4)
  have es:=Cl.LY p d c1 c2 c3 c4
  have es1:=es.1
  have es2:(1+p+d==0)=false:=by simp;omega
  have eo:=Oh.avZ p d c1 c2 c3 c4
  have eo1:=eo.1
  have eo2:=eo.2
  clear es eo
  go_enter func220,Tryz.ntmps220
  go_wp2_with (first
   |(go_at_call 155;refine(Qz _ _ _ Y Y Y Y).mono ?_;rintro e w' ⟨rfl,hb'⟩;first|(replace hK:=I5 hb' hK)|(replace hK:=I5 hb' (IY _ hK))|(replace hK:=I5 hb' (IY _ (IY _ hK)))|(replace hK:=I5 hb' (Ul hK));clear hb')
   |(go_at_call 224;refine(put_any _ _ _ _ _ Y Y Y Y Y Y Y Y).mono ?_;rintro e w' ⟨rfl,rfl⟩)
   |(go_at_call 225;refine(XK _ _ _ Y Y Y Y).mono ?_;rintro e w' ⟨rfl,hb'⟩;first|(replace hK:=I5 hb' hK)|(replace hK:=I5 hb' (IY _ hK))|(replace hK:=I5 hb' (IY _ (IY _ hK)))|(replace hK:=I5 hb' (Ul hK));clear hb'))
  go_ret
  exact⟨FB e.out.symm,hK.2.2⟩
theorem anu(at_ x:Int)(w:World)(a1: -9223372036854775808≤at_)(a2:at_≤9223372036854775807)(h1:0≤x)(h2:x≤18446744073709551615):
 Calls prog 205 #[.int .i64 at_,.int .u64 x] w fun e w'=>e= .returned (.tuple #[.agg #[.int .i64 (Oh.decP x at_),.int .i64 (Oh.Tt x at_)],.int .i64 (Oh.MZ x at_)])∧Below w.heap.size w w':=by
 have hr:=Oh.aec x
 have hg:=Oh.adD x
 have hg1:=hg.1
 have hg2:=hg.2
 clear hg
 cases ho:Sl.LX x at_
 ·have e:=Oh.Uj x at_ ho
  rw[e.1,e.2.1,e.2.2]
  have on:=Sl.aa9 x at_ ho
  clear e
  go_enter func205,Tryz.ntmps205
  go_wp2_with fail
  refine vF ?_
  rintro e w1 ⟨rfl,hb⟩
  obtain⟨hc,hf⟩:=Xb hb
  have hz:w.heap.size<w1.heap.size:=by have:=hb.size;simp at this;omega
  have hB:Below w.heap.size w w1:=((Below.refl _ _).alloc (Bg _) _).trans (hb.mono J)
  go_wp2_with (first
   |(go_at_call 200;refine(get_any _ _ _ _ Y Y Y Y Y Y).mono ?_;rintro e w' ⟨rfl,rfl⟩))
  exact bodyPost_ret (v:= .tuple #[.agg #[.int .i64 0,.int .i64 0],.int .i64 25]) (by simp[results,go_sem,Tryz.results205,hc]) rfl ⟨rfl,(hB.setCell (Bg _) _).setCell (Bg _) _⟩
 ·have on:=Sl.Wv x at_ ho
  by_cases hq:Oh.enc (Oh.TL x) (Oh.SX x) at_=x
  ·have e:=Oh.QC x at_ ho hq
   rw[e.1,e.2.1,e.2.2]
   have hq2:(Oh.enc (Oh.TL x) (Oh.SX x) at_ !=x)=false:=by simpa using hq
   clear e hq
   go_enter func205,Tryz.ntmps205
   go_wp2_with fail
   refine vF ?_
   rintro e w1 ⟨rfl,hb⟩
   obtain⟨hc,hf⟩:=Xb hb
   have hz:w.heap.size<w1.heap.size:=by have:=hb.size;simp at this;omega
   have hB:Below w.heap.size w w1:=((Below.refl _ _).alloc (Bg _) _).trans (hb.mono J)
   go_wp2_with (first
   |(go_at_call 200;refine(get_any _ _ _ _ Y Y Y Y Y Y).mono ?_;rintro e w' ⟨rfl,rfl⟩))
   refine(abP _ _ _ _ Y Y Y Y Y Y).mono ?_
   rintro e w2 ⟨rfl,hb2⟩
   obtain⟨hc2,hf2⟩:=Xb hb2
   have hz2:w1.heap.size<w2.heap.size:=by have:=hb2.size;first|omega|(simp at this;omega)
   go_wp2_with fail
   have hB2:Below w.heap.size w w2:=(hB.alloc Y _).trans (hb2.mono Af)
   have q0:w2.cell? ⟨w.heap.size,0,none⟩=some (.int .i64 0):=by rw[hc2 _ _ Af,World.cell?_alloc_lt _ _ _ zX,hc _ _ J];simp
   have q1:w2.cell? ⟨w.heap.size,1,none⟩=some (.int .i64 0):=by rw[hc2 _ _ Af,World.cell?_alloc_lt _ _ _ zX,hc _ _ J];simp
   exact bodyPost_ret (v:= .tuple #[.agg #[.int .i64 (Oh.TL x),.int .i64 (Oh.SX x)],.int .i64 0]) (by simp[results,go_sem,Tryz.results205,q0,q1]) rfl ⟨rfl,(hB2.setCell (Bg _) _).setCell (Bg _) _⟩
  ·have e:=Oh.WE x at_ ho hq
   rw[e.1,e.2.1,e.2.2]
   have hq2:(Oh.enc (Oh.TL x) (Oh.SX x) at_ !=x)=true:=by simpa using hq
   clear e hq
   go_enter func205,Tryz.ntmps205
   go_wp2_with fail
   refine vF ?_
   rintro e w1 ⟨rfl,hb⟩
   obtain⟨hc,hf⟩:=Xb hb
   have hz:w.heap.size<w1.heap.size:=by have:=hb.size;simp at this;omega
   have hB:Below w.heap.size w w1:=((Below.refl _ _).alloc (Bg _) _).trans (hb.mono J)
   go_wp2_with (first
   |(go_at_call 200;refine(get_any _ _ _ _ Y Y Y Y Y Y).mono ?_;rintro e w' ⟨rfl,rfl⟩))
   refine(abP _ _ _ _ Y Y Y Y Y Y).mono ?_
   rintro e w2 ⟨rfl,hb2⟩
   obtain⟨hc2,hf2⟩:=Xb hb2
   have hz2:w1.heap.size<w2.heap.size:=by have:=hb2.size;first|omega|(simp at this;omega)
   go_wp2_with fail
   have hB2:Below w.heap.size w w2:=(hB.alloc Y _).trans (hb2.mono Af)
   have q0:w2.cell? ⟨w.heap.size,0,none⟩=some (.int .i64 0):=by rw[hc2 _ _ Af,World.cell?_alloc_lt _ _ _ zX,hc _ _ J];simp
   have q1:w2.cell? ⟨w.heap.size,1,none⟩=some (.int .i64 0):=by rw[hc2 _ _ Af,World.cell?_alloc_lt _ _ _ zX,hc _ _ J];simp
   exact bodyPost_ret (v:= .tuple #[.agg #[.int .i64 0,.int .i64 0],.int .i64 26]) (by simp[results,go_sem,Tryz.results205,q0,q1]) rfl ⟨rfl,(hB2.setCell (Bg _) _).setCell (Bg _) _⟩
end
end
section
section
open Go.RowKit
theorem ajz(p d i:Int)(w:World)(p1:0≤p)(p2:p≤63)(d1:0≤d)(d2:d≤16384)(h1: -100000≤i)(h2:i≤100000):
 Calls prog 252 #[.agg #[.int .i64 p,.int .i64 d],.int .i64 i] w fun e w'=>e= .returned (.tuple #[.int .i64 (1+p+i),.bool (Oh.inB i d)])∧Below w.heap.size w w':=by
 have hK:=amy w (.int .i64 p) (.int .i64 d) 205
 rcases(show i<0∨(0≤i∧i<d)∨(0≤i∧d≤i)from by omega)with c|⟨c1,c2⟩|⟨c1,c2⟩
 ·have e:=Lib.hid (Oh.adM i d (.inl c))
  have g:decide (0≤i)=false:=by simp;omega
  go_enter func252,Tryz.ntmps252
  go_wp2_with fail
  go_quiet (fail)
  go_wp2_with fail
  go_ret2
  exact⟨UE rfl e.out.symm,below_drewN hK.2.2 _⟩
 ·have e:=Lib.hid (Oh.aap i d c1 c2)
  go_enter func252,Tryz.ntmps252
  go_wp2_with fail
  go_quiet (fail)
  go_wp2_with fail
  go_ret2
  exact⟨UE rfl (by rw[e.out]),below_drewN hK.2.2 _⟩
 ·have e:=Lib.hid (Oh.adM i d (.inr c2))
  go_enter func252,Tryz.ntmps252
  go_wp2_with fail
  go_quiet (fail)
  go_wp2_with fail
  go_ret2
  exact⟨UE rfl (by rw[e.out];first|rfl|(simp;done)|(simp;omega)),below_drewN hK.2.2 _⟩
theorem anf(p d i:Int)(w:World)(p1:0≤p)(p2:p≤63)(d1:0≤d)(d2:d≤16384)(h1: -100000≤i)(h2:i≤100000):
 Calls prog 251 #[.agg #[.int .i64 p,.int .i64 d],.int .i64 i] w fun e w'=>e= .returned (.tuple #[.int .i64 (1+i),.bool (Oh.inB i p)])∧Below w.heap.size w w':=by
 have hK:=amy w (.int .i64 p) (.int .i64 d) 205
 rcases(show i<0∨(0≤i∧i<p)∨(0≤i∧p≤i)from by omega)with c|⟨c1,c2⟩|⟨c1,c2⟩
 ·have e:=Lib.hid (Oh.adM i p (.inl c))
  have g:decide (0≤i)=false:=by simp;omega
  go_enter func251,Tryz.ntmps251
  go_wp2_with fail
  go_quiet (fail)
  go_wp2_with fail
  go_ret2
  exact⟨UE rfl e.out.symm,below_drewN hK.2.2 _⟩
 ·have e:=Lib.hid (Oh.aap i p c1 c2)
  go_enter func251,Tryz.ntmps251
  go_wp2_with fail
  go_quiet (fail)
  go_wp2_with fail
  go_ret2
  exact⟨UE rfl (by rw[e.out]),below_drewN hK.2.2 _⟩
 ·have e:=Lib.hid (Oh.adM i p (.inr c2))
  go_enter func251,Tryz.ntmps251
  go_wp2_with fail
  go_quiet (fail)
  go_wp2_with fail
  go_ret2
  exact⟨UE rfl (by rw[e.out];first|rfl|(simp;done)|(simp;omega)),below_drewN hK.2.2 _⟩
end
end
section
section
open Go.RowKit
theorem Xw(p d:Int)(w:World)(h1: -9223372036854775808≤p)(h2:p≤9223372036854775807)(h3: -9223372036854775808≤d)(h4:d≤9223372036854775807):
 Calls prog 129 #[.agg #[.int .i64 p,.int .i64 d]] w fun e w'=>e= .returned (.tuple #[.int .i64 (Cl.WQ (Cl.size p d)),.bool (Cl.ofB (Cl.size p d))])∧Below w.heap.size w w':=by
 have hs:=Cl.aat p d
 have hK:=amy w (.int .i64 p) (.int .i64 d) 205
 go_enter func129,Tryz.ntmps129
 go_wp2_with (first
  |(go_at_call 155;refine(Qz _ _ _ Y Y Y Y).mono ?_;rintro e w' ⟨rfl,hb'⟩;first|(replace hK:=I5 hb' hK)|(replace hK:=I5 hb' (IY _ hK))|(replace hK:=I5 hb' (IY _ (IY _ hK)))|(replace hK:=I5 hb' (Ul hK));clear hb')
  |(go_at_call 196;refine(ar' _ _ Y Y).mono ?_;rintro e w' ⟨rfl,hb'⟩;first|(replace hK:=I5 hb' hK)|(replace hK:=I5 hb' (IY _ hK))|(replace hK:=I5 hb' (IY _ (IY _ hK)))|(replace hK:=I5 hb' (Ul hK));clear hb'))
 go_ret2
 exact⟨rfl,hK.2.2⟩
def Oh.need(n:Int):Int:=if n<1 then 0 else(n+511)/512
theorem Oh.aoM(n:Int)(h:0≤n)(h2:n≤100000):Bt.up n 512=Oh.need n:=by
 unfold Oh.need
 by_cases c:n<1
 ·rw[if_pos c,Bt.agM n 512 Y]
 ·unfold Bt.up;rw[if_neg c,if_neg Y];omega
def Oh.blocks(p d:Int):Int:=if Cl.ofB (Cl.size p d)then 0 else Oh.need (Cl.size p d)
theorem Oh.aeM(p d:Int)(h:Cl.ofB (Cl.size p d)=true):Oh.blocks p d=0:=by unfold Oh.blocks;rw[if_pos h]
theorem Oh.aes(p d:Int)(h:Cl.ofB (Cl.size p d)=false):Oh.blocks p d=Oh.need (Cl.size p d):=by unfold Oh.blocks;rw[if_neg (by simp[h])]
theorem aeY(p d:Int)(w:World)(h1: -9223372036854775808≤p)(h2:p≤9223372036854775807)(h3: -9223372036854775808≤d)(h4:d≤9223372036854775807):
 Calls prog 130 #[.agg #[.int .i64 p,.int .i64 d]] w fun e w'=>e= .returned (.int .i64 (Oh.blocks p d))∧Below w.heap.size w w':=by
 have hs:=Cl.aat p d
 have hK:=amy w (.int .i64 p) (.int .i64 d) 205
 cases hb:Cl.ofB (Cl.size p d)
 ·have eb:=Lib.hid ((Oh.aes p d hb).trans (Oh.aoM _ Y Y).symm)
  go_enter func130,Tryz.ntmps130
  go_wp2_with (first
   |(go_at_call 129;refine(Xw _ _ _ Y Y Y Y).mono ?_;rintro e w' ⟨rfl,hb'⟩;first|(replace hK:=I5 hb' hK)|(replace hK:=I5 hb' (IY _ hK))|(replace hK:=I5 hb' (IY _ (IY _ hK)))|(replace hK:=I5 hb' (Ul hK));clear hb')
   |(go_at_call 155;refine(Qz _ _ _ Y Y Y Y).mono ?_;rintro e w' ⟨rfl,hb'⟩;first|(replace hK:=I5 hb' hK)|(replace hK:=I5 hb' (IY _ hK))|(replace hK:=I5 hb' (IY _ (IY _ hK)))|(replace hK:=I5 hb' (Ul hK));clear hb')
   |(go_at_call 100;refine(adU _ _ _ Y Y Y Y).mono ?_;rintro e w' ⟨rfl,rfl⟩))
  go_ret
  exact⟨FB eb.out.symm,hK.2.2⟩
 ·have eb:=Lib.hid (Oh.aeM p d hb)
  go_enter func130,Tryz.ntmps130
  go_wp2_with (first
   |(go_at_call 129;refine(Xw _ _ _ Y Y Y Y).mono ?_;rintro e w' ⟨rfl,hb'⟩;first|(replace hK:=I5 hb' hK)|(replace hK:=I5 hb' (IY _ hK))|(replace hK:=I5 hb' (IY _ (IY _ hK)))|(replace hK:=I5 hb' (Ul hK));clear hb')
   |(go_at_call 155;refine(Qz _ _ _ Y Y Y Y).mono ?_;rintro e w' ⟨rfl,hb'⟩;first|(replace hK:=I5 hb' hK)|(replace hK:=I5 hb' (IY _ hK))|(replace hK:=I5 hb' (IY _ (IY _ hK)))|(replace hK:=I5 hb' (Ul hK));clear hb')
   |(go_at_call 100;refine(adU _ _ _ Y Y Y Y).mono ?_;rintro e w' ⟨rfl,rfl⟩))
  go_ret
  exact⟨FB eb.out.symm,hK.2.2⟩
end
end
section
section
open Go.RowKit
theorem avS(w:World)(a b c:Value)(T:TypeId):(w.alloc (.cells #[a,b,c] T)).cell? ⟨w.heap.size,0,none⟩=some a∧(w.alloc (.cells #[a,b,c] T)).cell? ⟨w.heap.size,1,none⟩=some b∧(w.alloc (.cells #[a,b,c] T)).cell? ⟨w.heap.size,2,none⟩=some c∧Below w.heap.size w (w.alloc (.cells #[a,b,c] T)):=
 aoY a b c T (Below.refl _ _)
theorem Xy(k c l:Int)(w:World)(h1: -9223372036854775808≤k)(h2:k≤9223372036854775807)(h3: -9223372036854775808≤c)(h4:c≤9223372036854775807)(h5: -9223372036854775808≤l)(h6:l≤9223372036854775807):
 Calls prog 223 #[.agg #[.int .i64 k,.int .i64 c,.int .i64 l]] w fun e w'=>e= .returned (.bool (Bh.right k c l))∧Below w.heap.size w w':=by
 have hK:=avS w (.int .i64 k) (.int .i64 c) (.int .i64 l) 209
 rcases(show k=0∨k=1∨k=2∨k=3∨(k≠0∧k≠1∧k≠2∧k≠3)from by omega)with rfl|rfl|rfl|rfl|⟨k0,k1,k2,k3⟩
 ·rcases(show(c=0∧l=0)∨c≠0∨(c=0∧l≠0)from by omega)with⟨rfl,rfl⟩|hc|⟨rfl,hl⟩
  ·have z:=Bh.EO 0 0 0 Y
   go_enter func223,Tryz.ntmps223
   go_wp2_with fail
   go_ret
   exact⟨FN Ah,by(repeat (first|exact Below.refl _ _|(refine Below.alloc ?_ Ag _)))⟩
  ·have z:=(show(c==0)=false from by simpa using hc)
   go_enter func223,Tryz.ntmps223
   go_wp2_with fail
   go_ret
   exact⟨FN Ah,by(repeat (first|exact Below.refl _ _|(refine Below.alloc ?_ Ag _)))⟩
  ·have z:=(show(l==0)=false from by simpa using hl)
   go_enter func223,Tryz.ntmps223
   go_wp2_with fail
   go_ret
   exact⟨FN Ah,by(repeat (first|exact Below.refl _ _|(refine Below.alloc ?_ Ag _)))⟩
 ·rcases(show(c<0∨32≤c)∨(0≤c∧c<32∧l=0)∨(0≤c∧c<32∧l≠0)from by omega)with hc|⟨c1,c2,rfl⟩|⟨c1,c2,hl⟩
  ·have z:=Cl.Ju c hc
   go_enter func223,Tryz.ntmps223
   go_wp2_with (first
   |(go_at_call 197;refine(Jv _ _ Y Y).mono ?_;rintro e w' ⟨rfl,rfl⟩))
   go_ret
   exact⟨FN Ah,by(repeat (first|exact Below.refl _ _|(refine Below.alloc ?_ Ag _)))⟩
  ·have z:=Cl.FY c c1 c2
   go_enter func223,Tryz.ntmps223
   go_wp2_with (first
   |(go_at_call 197;refine(Jv _ _ Y Y).mono ?_;rintro e w' ⟨rfl,rfl⟩))
   go_ret
   exact⟨FN Ah,by(repeat (first|exact Below.refl _ _|(refine Below.alloc ?_ Ag _)))⟩
  ·have z:=Cl.FY c c1 c2
   have z2:=(show(l==0)=false from by simpa using hl)
   go_enter func223,Tryz.ntmps223
   go_wp2_with (first
   |(go_at_call 197;refine(Jv _ _ Y Y).mono ?_;rintro e w' ⟨rfl,rfl⟩))
   go_ret
   exact⟨FN Ah,by(repeat (first|exact Below.refl _ _|(refine Below.alloc ?_ Ag _)))⟩
 ·rcases(show c≠0∨(c=0∧l<1)∨(c=0∧1≤l∧l≤255)∨(c=0∧1≤l∧255<l)from by omega)with hc|⟨rfl,hl⟩|⟨rfl,l1,l2⟩|⟨rfl,l1,l2⟩
  ·have z:=(show(c==0)=false from by simpa using hc)
   go_enter func223,Tryz.ntmps223
   go_wp2_with fail
   go_ret
   exact⟨FN Ah,by(repeat (first|exact Below.refl _ _|(refine Below.alloc ?_ Ag _)))⟩
  ·have z:=(show decide (1≤l)=false from by simp;omega)
   go_enter func223,Tryz.ntmps223
   go_wp2_with fail
   go_ret
   exact⟨FN Ah,by(repeat (first|exact Below.refl _ _|(refine Below.alloc ?_ Ag _)))⟩
  ·have z:=l1
   go_enter func223,Tryz.ntmps223
   go_wp2_with fail
   go_ret
   exact⟨FN Ah,by(repeat (first|exact Below.refl _ _|(refine Below.alloc ?_ Ag _)))⟩
  ·have z:=(show decide (l<256)=false from by simp;omega)
   go_enter func223,Tryz.ntmps223
   go_wp2_with fail
   go_ret
   exact⟨FN Ah,by(repeat (first|exact Below.refl _ _|(refine Below.alloc ?_ Ag _)))⟩
 ·rcases(show c≠0∨(c=0∧l<1)∨(c=0∧1≤l∧l≤255)∨(c=0∧1≤l∧255<l)from by omega)with hc|⟨rfl,hl⟩|⟨rfl,l1,l2⟩|⟨rfl,l1,l2⟩
  ·have z:=(show(c==0)=false from by simpa using hc)
   go_enter func223,Tryz.ntmps223
   go_wp2_with fail
   go_ret
   exact⟨FN Ah,by(repeat (first|exact Below.refl _ _|(refine Below.alloc ?_ Ag _)))⟩
  ·have z:=(show decide (1≤l)=false from by simp;omega)
   go_enter func223,Tryz.ntmps223
   go_wp2_with fail
   go_ret
   exact⟨FN Ah,by(repeat (first|exact Below.refl _ _|(refine Below.alloc ?_ Ag _)))⟩
  ·have z:=l1
   go_enter func223,Tryz.ntmps223
   go_wp2_with fail
   go_ret
   exact⟨FN Ah,by(repeat (first|exact Below.refl _ _|(refine Below.alloc ?_ Ag _)))⟩
  ·have z:=(show decide (l<256)=false from by simp;omega)
   go_enter func223,Tryz.ntmps223
   go_wp2_with fail
   go_ret
   exact⟨FN Ah,by(repeat (first|exact Below.refl _ _|(refine Below.alloc ?_ Ag _)))⟩
 ·have z:=k0
  have z1:=(show(k==1)=false from by simpa using k1)
  have z2:=(show(k==2)=false from by simpa using k2)
  have z3:=(show(k==3)=false from by simpa using k3)
  have z0:=(show(k==0)=false from by simpa using k0)
  go_enter func223,Tryz.ntmps223
  go_wp2_with fail
  go_ret
  exact⟨FN Ah,by(repeat (first|exact Below.refl _ _|(refine Below.alloc ?_ Ag _)))⟩
end
end
section
section
open Go.RowKit
def Bh.atB(b:Int):Int:=IntKind.i64.wrap (256+b)
theorem Bh.ah7(b:Int):IntKind.i64.wrap (256+b)=Bh.atB b:=rfl
theorem Bh.alY(b:Int): -9223372036854775808≤Bh.atB b∧Bh.atB b≤9223372036854775807:=by
 unfold Bh.atB;rw[IntKind.wrap_i64];omega
theorem aaN(b k c l:Int)(w:World)(b1: -9223372036854775808≤b)(b2:b≤9223372036854775807)(h1: -9223372036854775808≤k)(h2:k≤9223372036854775807)(h3: -9223372036854775808≤c)(h4:c≤9223372036854775807)(h5: -9223372036854775808≤l)(h6:l≤9223372036854775807):
 Calls prog 162 #[.int .i64 b,.agg #[.int .i64 k,.int .i64 c,.int .i64 l]] w fun e w'=>e= .returned (.int .u64 (Bh.enc k c l (Bh.atB b)))∧Below w.heap.size w w':=by
 have hK:=avS w (.int .i64 k) (.int .i64 c) (.int .i64 l) 209
 have ha:=Bh.alY b
 have hat:=Bh.ah7 b
 cases hr:Bh.right k c l
 ·have e:=Lib.hid (Bh.V5 k c l (Bh.atB b) hr)
  go_enter func162,Tryz.ntmps162
  go_wp2_with (first
   |(go_at_call 223;refine(Xy _ _ _ _ Y Y Y Y Y Y).mono ?_;rintro e w' ⟨rfl,hb'⟩;first|(replace hK:=TD hb' hK)|(replace hK:=TD hb' (UH _ hK))|(replace hK:=TD hb' (UH _ (UH _ hK)))|(replace hK:=TD hb' (ahy hK));clear hb'))
  go_ret
  exact⟨FB e.out.symm,hK.2.2.2⟩
 ·have e:=Lib.hid (Bh.Rh k c l (Bh.atB b) hr)
  obtain⟨k0,k1,c0,c1,l0,l1⟩:=Bh.Ti k c l hr
  obtain⟨p1,p2,p3⟩:=Bh.avt k c l k0 k1 c0 Y l0 l1
  go_enter func162,Tryz.ntmps162
  go_wp2_with (first
   |(go_at_call 223;refine(Xy _ _ _ _ Y Y Y Y Y Y).mono ?_;rintro e w' ⟨rfl,hb'⟩;first|(replace hK:=TD hb' hK)|(replace hK:=TD hb' (UH _ hK))|(replace hK:=TD hb' (UH _ (UH _ hK)))|(replace hK:=TD hb' (ahy hK));clear hb')
   |(go_at_call 224;refine(put_any _ _ _ _ _ Y Y Y Y Y Y Y Y).mono ?_;rintro e w' ⟨rfl,rfl⟩)
   |(go_at_call 225;refine(XK _ _ _ Y Y Y Y).mono ?_;rintro e w' ⟨rfl,hb'⟩;first|(replace hK:=TD hb' hK)|(replace hK:=TD hb' (UH _ hK))|(replace hK:=TD hb' (UH _ (UH _ hK)))|(replace hK:=TD hb' (ahy hK));clear hb'))
  go_ret
  exact⟨FB e.out.symm,hK.2.2.2⟩
end
end
section
section
open Go.RowKit
theorem alC(b x:Int)(w:World)(a1: -9223372036854775808≤b)(a2:b≤9223372036854775807)(h1:0≤x)(h2:x≤18446744073709551615):
 Calls prog 132 #[.int .i64 b,.int .u64 x] w fun e w'=>e= .returned (.tuple #[.agg #[.int .i64 (Bh.aeG x (Bh.atB b)),.int .i64 (Bh.aeQ x (Bh.atB b)),.int .i64 (Bh.aeg x (Bh.atB b))],.int .i64 (Bh.MZ x (Bh.atB b))])∧Below w.heap.size w w':=by
 have hr:=Bh.aec x
 have ha:=Bh.alY b
 have hat:=Bh.ah7 b
 have hg:=Bh.adD x
 obtain⟨hg1,hg2,hg3⟩:=hg
 cases ho:Sl.LX x (Bh.atB b)
 ·obtain⟨e1,e2,e3,e4⟩:=Bh.Uj x (Bh.atB b) ho
  rw[e1,e2,e3,e4]
  clear e1 e2 e3 e4
  have on:=Sl.aa9 x (Bh.atB b) ho
  go_enter func132,Tryz.ntmps132
  go_wp2_with fail
  refine vF ?_
  rintro e w1 ⟨rfl,hb⟩
  obtain⟨hc,hf⟩:=Xb hb
  have hz:w.heap.size<w1.heap.size:=by have:=hb.size;simp at this;omega
  have hB:Below w.heap.size w w1:=((Below.refl _ _).alloc (Bg _) _).trans (hb.mono J)
  go_wp2_with (first
   |(go_at_call 200;refine(get_any _ _ _ _ Y Y Y Y Y Y).mono ?_;rintro e w' ⟨rfl,rfl⟩))
  exact bodyPost_ret (v:= .tuple #[.agg #[.int .i64 0,.int .i64 0,.int .i64 0],.int .i64 25]) (by simp[results,go_sem,Tryz.results132,hc]) rfl ⟨rfl,((hB.setCell (Bg _) _).setCell (Bg _) _).setCell (Bg _) _⟩
 ·have on:=Sl.Wv x (Bh.atB b) ho
  by_cases hq:Bh.enc (Bh.SK x) (Bh.TB x) (Bh.S9 x) (Bh.atB b)=x
  ·have hq2:(Bh.enc (Bh.SK x) (Bh.TB x) (Bh.S9 x) (Bh.atB b) !=x)=false:=by simpa using hq
   obtain⟨e1,e2,e3,e4⟩:=Bh.QC x (Bh.atB b) ho hq
   rw[e1,e2,e3,e4]
   clear e1 e2 e3 e4
   clear hq
   go_enter func132,Tryz.ntmps132
   go_wp2_with fail
   refine vF ?_
   rintro e w1 ⟨rfl,hb⟩
   obtain⟨hc,hf⟩:=Xb hb
   have hz:w.heap.size<w1.heap.size:=by have:=hb.size;simp at this;omega
   have hB:Below w.heap.size w w1:=((Below.refl _ _).alloc (Bg _) _).trans (hb.mono J)
   go_wp2_with (first
   |(go_at_call 200;refine(get_any _ _ _ _ Y Y Y Y Y Y).mono ?_;rintro e w' ⟨rfl,rfl⟩))
   refine(aaN _ _ _ _ _ Y Y Y Y Y Y Y Y).mono ?_
   rintro e w2 ⟨rfl,hb2⟩
   obtain⟨hc2,hf2⟩:=Xb hb2
   have hz2:w1.heap.size<w2.heap.size:=by have:=hb2.size;first|omega|(simp at this;omega)
   have q0:w2.cell? ⟨w.heap.size,0,none⟩=some (.int .i64 0):=by rw[hc2 _ _ Af,World.cell?_alloc_lt _ _ _ zX,hc _ _ J];simp
   have q1:w2.cell? ⟨w.heap.size,1,none⟩=some (.int .i64 0):=by rw[hc2 _ _ Af,World.cell?_alloc_lt _ _ _ zX,hc _ _ J];simp
   have q2:w2.cell? ⟨w.heap.size,2,none⟩=some (.int .i64 0):=by rw[hc2 _ _ Af,World.cell?_alloc_lt _ _ _ zX,hc _ _ J];simp
   have r0:w2.cell? ⟨w1.heap.size,0,none⟩=some (.int .i64 (Bh.SK x)):=by rw[hc2 _ _ J];simp
   have r1:w2.cell? ⟨w1.heap.size,1,none⟩=some (.int .i64 (Bh.TB x)):=by rw[hc2 _ _ J];simp
   have r2:w2.cell? ⟨w1.heap.size,2,none⟩=some (.int .i64 (Bh.S9 x)):=by rw[hc2 _ _ J];simp
   have f0:∀o,w2.frozen? ⟨w.heap.size,o,none⟩=false:=fun o=>by rw[hf2 _ _ Af,UO _ _ _ zX,hf _ _ J];simp
   have hB2:Below w.heap.size w w2:=(hB.alloc Y _).trans (hb2.mono Af)
   clear hc hf hc2 hf2
   go_wp2_with fail
   exact bodyPost_ret (v:= .tuple #[.agg #[.int .i64 (Bh.SK x),.int .i64 (Bh.TB x),.int .i64 (Bh.S9 x)],.int .i64 0]) (by simp[results,go_sem,Tryz.results132,q0,q1,q2]) rfl ⟨rfl,((hB2.setCell (Bg _) _).setCell (Bg _) _).setCell (Bg _) _⟩
  ·have hq2:(Bh.enc (Bh.SK x) (Bh.TB x) (Bh.S9 x) (Bh.atB b) !=x)=true:=by simpa using hq
   obtain⟨e1,e2,e3,e4⟩:=Bh.WE x (Bh.atB b) ho hq
   rw[e1,e2,e3,e4]
   clear e1 e2 e3 e4
   clear hq
   go_enter func132,Tryz.ntmps132
   go_wp2_with fail
   refine vF ?_
   rintro e w1 ⟨rfl,hb⟩
   obtain⟨hc,hf⟩:=Xb hb
   have hz:w.heap.size<w1.heap.size:=by have:=hb.size;simp at this;omega
   have hB:Below w.heap.size w w1:=((Below.refl _ _).alloc (Bg _) _).trans (hb.mono J)
   go_wp2_with (first
   |(go_at_call 200;refine(get_any _ _ _ _ Y Y Y Y Y Y).mono ?_;rintro e w' ⟨rfl,rfl⟩))
   refine(aaN _ _ _ _ _ Y Y Y Y Y Y Y Y).mono ?_
   rintro e w2 ⟨rfl,hb2⟩
   obtain⟨hc2,hf2⟩:=Xb hb2
   have hz2:w1.heap.size<w2.heap.size:=by have:=hb2.size;first|omega|(simp at this;omega)
   have q0:w2.cell? ⟨w.heap.size,0,none⟩=some (.int .i64 0):=by rw[hc2 _ _ Af,World.cell?_alloc_lt _ _ _ zX,hc _ _ J];simp
   have q1:w2.cell? ⟨w.heap.size,1,none⟩=some (.int .i64 0):=by rw[hc2 _ _ Af,World.cell?_alloc_lt _ _ _ zX,hc _ _ J];simp
   have q2:w2.cell? ⟨w.heap.size,2,none⟩=some (.int .i64 0):=by rw[hc2 _ _ Af,World.cell?_alloc_lt _ _ _ zX,hc _ _ J];simp
   have r0:w2.cell? ⟨w1.heap.size,0,none⟩=some (.int .i64 (Bh.SK x)):=by rw[hc2 _ _ J];simp
   have r1:w2.cell? ⟨w1.heap.size,1,none⟩=some (.int .i64 (Bh.TB x)):=by rw[hc2 _ _ J];simp
   have r2:w2.cell? ⟨w1.heap.size,2,none⟩=some (.int .i64 (Bh.S9 x)):=by rw[hc2 _ _ J];simp
   have f0:∀o,w2.frozen? ⟨w.heap.size,o,none⟩=false:=fun o=>by rw[hf2 _ _ Af,UO _ _ _ zX,hf _ _ J];simp
   have hB2:Below w.heap.size w w2:=(hB.alloc Y _).trans (hb2.mono Af)
   clear hc hf hc2 hf2
   go_wp2_with fail
   exact bodyPost_ret (v:= .tuple #[.agg #[.int .i64 0,.int .i64 0,.int .i64 0],.int .i64 26]) (by simp[results,go_sem,Tryz.results132,q0,q1,q2]) rfl ⟨rfl,((hB2.setCell (Bg _) _).setCell (Bg _) _).setCell (Bg _) _⟩
end
end
section
section
open Go.RowKit
def I64(x:Int):Prop:= -9223372036854775808≤x∧x≤9223372036854775807
theorem al4(r0 r1 r2 r3 r4 r5 r6 r7:Int)(k:Nat)(hk:k<8)(w:World):∃r,[r0,r1,r2,r3,r4,r5,r6,r7][k]? =some r∧(Instr.index 103 (.agg #[.int .i64 r0,.int .i64 r1,.int .i64 r2,.int .i64 r3,.int .i64 r4,.int .i64 r5,.int .i64 r6,.int .i64 r7]) (.int .i64 (k:Int))).run prog w= .ok (.int .i64 r) w:=by
 obtain⟨i0,hi0,_⟩:=info_parts ae5
 obtain⟨r,hr⟩:∃r,[r0,r1,r2,r3,r4,r5,r6,r7][k]? =some r:=⟨_,Ar hk⟩
 refine⟨r,hr,Vu w underlying103 underlying3 Ak hi0 _ .i64 k _ Y Y ?_⟩
 have e:(#[.int .i64 r0,.int .i64 r1,.int .i64 r2,.int .i64 r3,.int .i64 r4,.int .i64 r5,.int .i64 r6,.int .i64 r7]:Array Value)=([r0,r1,r2,r3,r4,r5,r6,r7].map (Value.int .i64)).toArray:=rfl
 rw[e,Bz,Fq,BG,hr];rfl
theorem asb(r0 r1 r2 r3 r4 r5 r6 r7:Int)(h:∀r∈[r0,r1,r2,r3,r4,r5,r6,r7],I64 r)(k:Nat)(r:Int)(hr: [r0,r1,r2,r3,r4,r5,r6,r7][k]? =some r):I64 r:=h r (A8 hr)
theorem PU(E r0 r1 r2 r3 r4 r5 r6 r7:Int)(w:World)(hE:0≤E∧E≤18446744073709551615)(hR:∀r∈[r0,r1,r2,r3,r4,r5,r6,r7],I64 r):
 Calls prog 249 #[.agg #[.int .u64 E,.int .i64 r0,.int .i64 r1,.int .i64 r2,.int .i64 r3,.int .i64 r4,.int .i64 r5,.int .i64 r6,.int .i64 r7]] w fun e w'=>e= .returned (.bool (St.Fh E [r0,r1,r2,r3,r4,r5,r6,r7]))∧Below w.heap.size w w':=by
 have HR:=Lib.hid hR
 have HA:=Lib.hid (al4 r0 r1 r2 r3 r4 r5 r6 r7)
 clear hR
 go_enter func249,Tryz.ntmps249
 go_wp2_with fail
 go_loop [4,7] (fun _r t=>∃k:Nat,k≤8∧t= .int .i64 k∧St.okR ([r0,r1,r2,r3,r4,r5,r6,r7].take k)) (fun _ t=>8-(intOf t).toNat)
 case atStart=>exact⟨0,Y,rfl,by intro x hx;simp at hx⟩
 case round=>
  obtain⟨k,hk,rfl,hok⟩:=hrel
  have hok:=Lib.hid hok
  by_cases hlt:k<8
  ·obtain⟨r,hr,hidx⟩:=HA.out k hlt (w.alloc (.cells #[.int .u64 E,.int .i64 r0,.int .i64 r1,.int .i64 r2,.int .i64 r3,.int .i64 r4,.int .i64 r5,.int .i64 r6,.int .i64 r7] 214))
   have hb:=asb _ _ _ _ _ _ _ _ HR.out k r hr
   unfold I64 at hb
   have hr:=Lib.hid hr
   by_cases h1:0≤r∧r≤131071
   ·have hs:=Lib.hid (St.acd _ k r hr.out hok.out h1)
    go_wp2_with fail
    go_round
    case rel=>exact⟨k+1,Y,by go_num,hs.out⟩
    case measure=>simp[intOf]<;>omega
   ·have ev:=Lib.hid (St.Ju E _ (fun h=>St.aoS _ k r hr.out h1 h.1))
    rcases(show r<0∨(0≤r∧131071<r)from by omega)with g|⟨g1,g2⟩
    all_goals
     clear h1
     go_wp2_with fail
     go_ret
     exact⟨FN ev.out.symm,(Below.refl _ _).alloc (Bg _) _⟩
  ·obtain rfl:k=8:=Y
   by_cases h1:0<E
   ·have ev:=Lib.hid (St.FY E _ hok.out h1)
    go_wp2_with fail
    go_ret
    exact⟨by first|exact FN ev.out.symm|(apply FN;rw[show([r0,r1,r2,r3,r4,r5,r6,r7].take 8)=[r0,r1,r2,r3,r4,r5,r6,r7]from rfl]at ev;rw[ev.out];simp;omega),(Below.refl _ _).alloc (Bg _) _⟩
   ·have ev:=Lib.hid (St.Ju E [r0,r1,r2,r3,r4,r5,r6,r7] (fun h=>h1 h.2))
    go_wp2_with fail
    go_ret
    exact⟨by first|exact FN ev.out.symm|(apply FN;rw[ev.out];simp;omega),(Below.refl _ _).alloc (Bg _) _⟩
end
end
section
section
open Go.RowKit
theorem asE(b id:Int)(b1:0≤b)(b2:b≤1073741824)(i1:0≤id)(i2:id≤18446744073709551615):Ints .u64 (Su.row b id):=by
 intro x hx
 unfold Su.row at hx
 simp at hx
 apply wf_u64
 rcases hx with rfl|rfl|rfl|rfl|rfl<;>omega
theorem ao7:(prog.info? 245).isSome=true:=by kernel_rfl
theorem abT(b id:Int)(w:World)(b1:0≤b)(b2:b≤1073741824)(i1:0≤id)(i2:id≤18446744073709551615):
 Calls prog 165 #[.agg #[.int .i64 b,.int .u64 id]] w fun e w'=>e= .returned (.agg #[.int .u64 8390047168116913201,.int .u64 1,.int .u64 b,.int .u64 id,.int .u64 0,.int .u64 0,.int .u64 0,.int .u64 (Su.crc b id)])∧Below w.heap.size w w':=by
 have hwf:=Lib.hid (asE b id b1 b2 i1 i2)
 have hcb:=Su.agr b id
 have hone:∀v∈(#[.int .u64 8390047168116913201,.int .u64 1,.int .u64 b,.int .u64 id,.int .u64 0,.int .u64 0,.int .u64 0,.int .u64 (Su.crc b id)]:Array Value).toList,v.oneCell'=true:=by simp[Value.oneCell']
 have amu:=Lib.hid hone
 clear hone
 obtain⟨i8,hi8⟩:=Jd.1 ao7
 have HI8:=Lib.hid hi8
 clear hi8
 have R:=Lib.hid ((KE.new1 w (.cells #[.int .i64 b,.int .u64 id] 113) #[.int .u64 0,.int .u64 0,.int .u64 0,.int .u64 0,.int .u64 0,.int .u64 0,.int .u64 0,.int .u64 0] 245).alloc (.cells #[.int .u64 8390047168116913201,.int .u64 1,.int .u64 b,.int .u64 id,.int .u64 0,.int .u64 0,.int .u64 0,.int .u64 0] 245))
 have L:=Lib.hid (KE.new2 w (.cells #[.int .i64 b,.int .u64 id] 113) (.cells #[.int .u64 0,.int .u64 0,.int .u64 0,.int .u64 0,.int .u64 0,.int .u64 0,.int .u64 0,.int .u64 0] 245) #[.int .u64 8390047168116913201,.int .u64 1,.int .u64 b,.int .u64 id,.int .u64 0,.int .u64 0,.int .u64 0,.int .u64 0] 245)
 have hB:Below w.heap.size w (((w.alloc (.cells #[.int .i64 b,.int .u64 id] 113)).alloc (.cells #[.int .u64 0,.int .u64 0,.int .u64 0,.int .u64 0,.int .u64 0,.int .u64 0,.int .u64 0,.int .u64 0] 245)).alloc (.cells #[.int .u64 8390047168116913201,.int .u64 1,.int .u64 b,.int .u64 id,.int .u64 0,.int .u64 0,.int .u64 0,.int .u64 0] 245)):=(((Below.refl _ _).alloc (Bg _) _).alloc J _).alloc Af _
 go_enter func165,Tryz.ntmps165
 go_wp2_with fail
 refine(Gx _ 7 8 (Su.row b id) _ _ (Gv.Zb L.out 7 J) hwf.out Y (Bg _)).mono ?_
 rintro e w3 ⟨rfl,hb3⟩
 rw[show Cr.more 0 (By.bytes (Su.row b id))=Su.crc b id from rfl]
 have L3:=L.out.below hb3 L.out.lt
 have R3:=R.out.below hb3 R.out.lt
 have hB3:=hB.trans (hb3.mono hB.size)
 have hc7:=L3.cell 7 _ rfl
 have hf7:=L3.frozen 7
 have L4:=Lib.hid (L3.set 7 (.int .u64 (Su.crc b id)))
 have R4:=Lib.hid (R3.other ⟨w.heap.size+1+1,7,none⟩ (.int .u64 (Su.crc b id)) J)
 have hB4:=Lib.hid (hB3.setCell (p:=⟨w.heap.size+1+1,7,none⟩) (by first|(simp;done)|(simp;omega)) (.int .u64 (Su.crc b id)))
 go_wp2_with (first
  |(refine wpList_load_row (P:=prog) rfl 245 (.tmp 3) rfl (w.heap.size+1+1) rfl _ #[.int .u64 8390047168116913201,.int .u64 1,.int .u64 b,.int .u64 id,.int .u64 0,.int .u64 0,.int .u64 0,.int .u64 (Su.crc b id)] (0,0) _ L4.out underlying245 rfl Ak ?_)
  |(refine wpList_store_row (P:=prog) rfl 245 (.tmp 2) (.tmp 14) rfl (w.heap.size+1) _ #[.int .u64 8390047168116913201,.int .u64 1,.int .u64 b,.int .u64 id,.int .u64 0,.int .u64 0,.int .u64 0,.int .u64 (Su.crc b id)] _ rfl rfl R4.out rfl HI8.out Ak amu.out ?_))
 exact bodyPost_ret (v:= .agg #[.int .u64 8390047168116913201,.int .u64 1,.int .u64 b,.int .u64 id,.int .u64 0,.int .u64 0,.int .u64 0,.int .u64 (Su.crc b id)]) (results_cell_row rfl _ _ (w.heap.size+1) _ #[.int .u64 8390047168116913201,.int .u64 1,.int .u64 b,.int .u64 id,.int .u64 0,.int .u64 0,.int .u64 0,.int .u64 (Su.crc b id)] (0,0) _ rfl (setRow_heap _ _ _ _ _ _ R4.out) underlying245 rfl Ak) rfl ⟨rfl,below_setRow hB4.out (by first|omega|(simp;done)|(simp;omega)) _⟩
end
end
section
section
open Go.RowKit
theorem QY(b:Int)(w:World)(b1: -9223372036854775808≤b)(b2:b≤9223372036854775807):
 Calls prog 31 #[.agg #[.int .i64 b]] w fun e w'=>e= .returned (.bool (Su.Fh b))∧Below w.heap.size w w':=by
 rcases(show b<2∨256<b∨(2≤b∧b≤256)from by omega)with h|h|⟨h,h2⟩
 ·have e:=Lib.hid (Su.Ju b (.inl h))
  go_enter func31,Tryz.ntmps31
  go_wp2
  go_ret
  exact⟨by first|exact FN e.out.symm|(apply FN;rw[e.out];simp;done)|(apply FN;rw[e.out];simp;omega),(Below.refl _ _).alloc (Bg _) _⟩
 ·have e:=Lib.hid (Su.Ju b (.inr h))
  go_enter func31,Tryz.ntmps31
  go_wp2
  go_ret
  exact⟨by first|exact FN e.out.symm|(apply FN;rw[e.out];simp;done)|(apply FN;rw[e.out];simp;omega),(Below.refl _ _).alloc (Bg _) _⟩
 ·have e:=Lib.hid (Su.FY b h h2)
  go_enter func31,Tryz.ntmps31
  go_wp2
  go_ret
  exact⟨by first|exact FN e.out.symm|(apply FN;rw[e.out];simp;done)|(apply FN;rw[e.out];simp;omega),(Below.refl _ _).alloc (Bg _) _⟩
theorem Ya(l0 l1 l2 l3 l4 l5 l6:Int)(h0:0≤l0∧l0≤18446744073709551615)(h1:0≤l1∧l1≤18446744073709551615)(h2:0≤l2∧l2≤18446744073709551615)(h3:0≤l3∧l3≤18446744073709551615)(h4:0≤l4∧l4≤18446744073709551615)(h5:0≤l5∧l5≤18446744073709551615)(h6:0≤l6∧l6≤18446744073709551615):Ints .u64 [l0,l1,l2,l3,l4,l5,l6]:=by
 intro x hx
 simp at hx
 apply wf_u64
 rcases hx with rfl|rfl|rfl|rfl|rfl|rfl|rfl<;>assumption
theorem agX(l0 l1 l2 l3 l4 l5 l6 l7:Int)(w:World)(h:l0≠8390047168116913201):
 Calls prog 235 #[.agg #[.int .u64 l0,.int .u64 l1,.int .u64 l2,.int .u64 l3,.int .u64 l4,.int .u64 l5,.int .u64 l6,.int .u64 l7]] w fun e w'=>e= .returned (.tuple #[.agg #[.int .i64 0,.int .u64 0],.int .i64 24])∧Below w.heap.size w w':=by
 have d0:(l0 !=8390047168116913201)=true:=by rw[bne_iff_ne];exact h
 clear h
 go_enter func235,Tryz.ntmps235
 go_wp2_with fail
 exact bodyPost_ret (v:= .tuple #[.agg #[.int .i64 0,.int .u64 0],.int .i64 24]) (by simp[results,go_sem,Tryz.results235]) rfl ⟨rfl,by first|exact((Below.refl _ _).alloc (Bg _) _).alloc J _|exact((((Below.refl _ _).alloc (Bg _) _).alloc J _).setCell J _).setCell J _⟩
theorem amg(l1 l2 l3 l4 l5 l6 l7:Int)(w:World)(h1:0≤l1∧l1≤18446744073709551615)(h2:0≤l2∧l2≤18446744073709551615)(h3:0≤l3∧l3≤18446744073709551615)(h4:0≤l4∧l4≤18446744073709551615)(h5:0≤l5∧l5≤18446744073709551615)(h6:0≤l6∧l6≤18446744073709551615)(h:l7≠Su.Es l1 l2 l3 l4 l5 l6):
 Calls prog 235 #[.agg #[.int .u64 8390047168116913201,.int .u64 l1,.int .u64 l2,.int .u64 l3,.int .u64 l4,.int .u64 l5,.int .u64 l6,.int .u64 l7]] w fun e w'=>e= .returned (.tuple #[.agg #[.int .i64 0,.int .u64 0],.int .i64 25])∧Below w.heap.size w w':=by
 have d0:(l7 !=Su.Es l1 l2 l3 l4 l5 l6)=true:=by rw[bne_iff_ne];exact h
 have hwf:=Lib.hid (Ya 8390047168116913201 l1 l2 l3 l4 l5 l6 Y h1 h2 h3 h4 h5 h6)
 have hsb:=Su.N8 l1 l2 l3 l4 l5 l6
 have hsw:IntKind.u64.wrap (Su.Es l1 l2 l3 l4 l5 l6)=Su.Es l1 l2 l3 l4 l5 l6:=by rw[IntKind.wrap_u64];omega
 clear h
 have X:=Lib.hid ((KE.new w #[.int .u64 8390047168116913201,.int .u64 l1,.int .u64 l2,.int .u64 l3,.int .u64 l4,.int .u64 l5,.int .u64 l6,.int .u64 l7] 245).alloc (.cells #[.int .i64 0,.int .u64 0] 113))
 have R:=Lib.hid (KE.new1 w (.cells #[.int .u64 8390047168116913201,.int .u64 l1,.int .u64 l2,.int .u64 l3,.int .u64 l4,.int .u64 l5,.int .u64 l6,.int .u64 l7] 245) #[.int .i64 0,.int .u64 0] 113)
 have hB:Below w.heap.size w ((w.alloc (.cells #[.int .u64 8390047168116913201,.int .u64 l1,.int .u64 l2,.int .u64 l3,.int .u64 l4,.int .u64 l5,.int .u64 l6,.int .u64 l7] 245)).alloc (.cells #[.int .i64 0,.int .u64 0] 113)):=((Below.refl _ _).alloc (Bg _) _).alloc J _
 generalize hZ:((w.alloc (.cells #[.int .u64 8390047168116913201,.int .u64 l1,.int .u64 l2,.int .u64 l3,.int .u64 l4,.int .u64 l5,.int .u64 l6,.int .u64 l7] 245)).alloc (.cells #[.int .i64 0,.int .u64 0] 113))=Z at*
 have x0:=X.out.cell 0 _ rfl
 have x7:=X.out.cell 7 _ rfl
 go_enter func235,Tryz.ntmps235
 go_wp2_with fail
 go_region_held3 (fun W=>W.cell? ⟨w.heap.size,7,none⟩=some (.int .u64 l7)∧Below Z.heap.size Z W)
  (first|assumption|exact⟨x7,(Below.refl _ _).drew⟩)
  (first
   |(go_at_call 44;refine(Gx _ 7 8 [8390047168116913201,l1,l2,l3,l4,l5,l6] _ _ ((Gv.Zb X.out 7 J).below (by assumption:_∧Below _ _ _).2) hwf.out Y (by assumption:_∧Below _ _ _).2.size).mono ?_;rintro e w5 ⟨rfl,hb5⟩;rw[show Cr.more 0 (By.bytes [8390047168116913201,l1,l2,l3,l4,l5,l6])=Su.Es l1 l2 l3 l4 l5 l6 from rfl];have hS:=(by assumption:_∧Below _ _ _);have hS':=And.intro ((hb5.cell (cell_lt hS.1)).trans hS.1) (hS.2.trans (hb5.mono hS.2.size))))
 have hS':=(by assumption:_∧Below _ _ _)
 have R5:=R.out.below hS'.2 R.out.lt
 have r0:=R5.cell 0 _ rfl
 have r1:=R5.cell 1 _ rfl
 have f0:=R5.frozen 0
 have f1:=R5.frozen 1
 have hB5:=hB.trans (hS'.2.mono hB.size)
 go_wp2_with fail
 exact bodyPost_ret (v:= .tuple #[.agg #[.int .i64 0,.int .u64 0],.int .i64 25]) zW rfl ⟨rfl,(hB5.setCell J _).setCell J _⟩
end
end
end Go.Proofs.YtppilhpcmkekbaaGreat
