/- Parts of the proof. -/
import Derived.Deep.RegionHeld3
import Derived.LoopN
import Derived.Test.YtppilhpcmkekbaaGreatKTopBothb
set_option linter.unusedSimpArgs false
set_option linter.unusedVariables false
set_option linter.unusedSectionVars false
set_option maxRecDepth 100000
set_option maxHeartbeats 16000000
namespace Go.Proofs.YtppilhpcmkekbaaGreat
open Go.Proofs.Tryz
section
section
open Go.RowKit
abbrev Wp:Value:=(.agg #[.int .u32 0,.int .u32 498536548,.int .u32 997073096,.int .u32 651767980,.int .u32 1994146192,.int .u32 1802195444,.int .u32 1303535960,.int .u32 1342533948,.int .u32 3988292384,.int .u32 4027552580,.int .u32 3604390888,.int .u32 3412177804,.int .u32 2607071920,.int .u32 2262029012,.int .u32 2685067896,.int .u32 3183342108])
theorem aqX(w:World):(Instr.index 326 Wp (.int .u8 0)).run prog w= .ok (.int .u32 0) w:=by kernel_rfl
theorem asF(w:World):(Instr.index 326 Wp (.int .u8 1)).run prog w= .ok (.int .u32 498536548) w:=by kernel_rfl
theorem arp(w:World):(Instr.index 326 Wp (.int .u8 2)).run prog w= .ok (.int .u32 997073096) w:=by kernel_rfl
theorem ar0(w:World):(Instr.index 326 Wp (.int .u8 3)).run prog w= .ok (.int .u32 651767980) w:=by kernel_rfl
theorem aqW(w:World):(Instr.index 326 Wp (.int .u8 4)).run prog w= .ok (.int .u32 1994146192) w:=by kernel_rfl
theorem asz(w:World):(Instr.index 326 Wp (.int .u8 5)).run prog w= .ok (.int .u32 1802195444) w:=by kernel_rfl
theorem aqF(w:World):(Instr.index 326 Wp (.int .u8 6)).run prog w= .ok (.int .u32 1303535960) w:=by kernel_rfl
theorem aq3(w:World):(Instr.index 326 Wp (.int .u8 7)).run prog w= .ok (.int .u32 1342533948) w:=by kernel_rfl
theorem ara(w:World):(Instr.index 326 Wp (.int .u8 8)).run prog w= .ok (.int .u32 3988292384) w:=by kernel_rfl
theorem ar9(w:World):(Instr.index 326 Wp (.int .u8 9)).run prog w= .ok (.int .u32 4027552580) w:=by kernel_rfl
theorem ao5(w:World):(Instr.index 326 Wp (.int .u8 10)).run prog w= .ok (.int .u32 3604390888) w:=by kernel_rfl
theorem aoS(w:World):(Instr.index 326 Wp (.int .u8 11)).run prog w= .ok (.int .u32 3412177804) w:=by kernel_rfl
theorem an4(w:World):(Instr.index 326 Wp (.int .u8 12)).run prog w= .ok (.int .u32 2607071920) w:=by kernel_rfl
theorem aoe(w:World):(Instr.index 326 Wp (.int .u8 13)).run prog w= .ok (.int .u32 2262029012) w:=by kernel_rfl
theorem aoq(w:World):(Instr.index 326 Wp (.int .u8 14)).run prog w= .ok (.int .u32 2685067896) w:=by kernel_rfl
theorem aoz(w:World):(Instr.index 326 Wp (.int .u8 15)).run prog w= .ok (.int .u32 3183342108) w:=by kernel_rfl
theorem ai7(i:Int)(w:World)(h1:0≤i)(h2:i≤255)(hc:i%16=0):
 Calls prog 234 #[.int .u8 i] w fun e w'=>e= .returned (.int .u32 (Cr.Il i))∧w=w':=by
 have hb:bits .and .u8 i 15=0:=by rw[u8_and15 (x:=i) h1 Y,hc]
 have hv:Cr.Il i=0:=by unfold Cr.Il;rw[hc];decide
 have hx:=aqX
 rw[hv]
 clear hv hc
 go_enter func234,Tryz.ntmps234
 go_wp2_with fail
 go_ret
 exact⟨rfl,rfl⟩
theorem ajx(i:Int)(w:World)(h1:0≤i)(h2:i≤255)(hc:i%16=1):
 Calls prog 234 #[.int .u8 i] w fun e w'=>e= .returned (.int .u32 (Cr.Il i))∧w=w':=by
 have hb:bits .and .u8 i 15=1:=by rw[u8_and15 (x:=i) h1 Y,hc]
 have hv:Cr.Il i=498536548:=by unfold Cr.Il;rw[hc];decide
 have hx:=asF
 rw[hv]
 clear hv hc
 go_enter func234,Tryz.ntmps234
 go_wp2_with fail
 go_ret
 exact⟨rfl,rfl⟩
theorem ajo(i:Int)(w:World)(h1:0≤i)(h2:i≤255)(hc:i%16=2):
 Calls prog 234 #[.int .u8 i] w fun e w'=>e= .returned (.int .u32 (Cr.Il i))∧w=w':=by
 have hb:bits .and .u8 i 15=2:=by rw[u8_and15 (x:=i) h1 Y,hc]
 have hv:Cr.Il i=997073096:=by unfold Cr.Il;rw[hc];decide
 have hx:=arp
 rw[hv]
 clear hv hc
 go_enter func234,Tryz.ntmps234
 go_wp2_with fail
 go_ret
 exact⟨rfl,rfl⟩
theorem ajm(i:Int)(w:World)(h1:0≤i)(h2:i≤255)(hc:i%16=3):
 Calls prog 234 #[.int .u8 i] w fun e w'=>e= .returned (.int .u32 (Cr.Il i))∧w=w':=by
 have hb:bits .and .u8 i 15=3:=by rw[u8_and15 (x:=i) h1 Y,hc]
 have hv:Cr.Il i=651767980:=by unfold Cr.Il;rw[hc];decide
 have hx:=ar0
 rw[hv]
 clear hv hc
 go_enter func234,Tryz.ntmps234
 go_wp2_with fail
 go_ret
 exact⟨rfl,rfl⟩
theorem ajh(i:Int)(w:World)(h1:0≤i)(h2:i≤255)(hc:i%16=4):
 Calls prog 234 #[.int .u8 i] w fun e w'=>e= .returned (.int .u32 (Cr.Il i))∧w=w':=by
 have hb:bits .and .u8 i 15=4:=by rw[u8_and15 (x:=i) h1 Y,hc]
 have hv:Cr.Il i=1994146192:=by unfold Cr.Il;rw[hc];decide
 have hx:=aqW
 rw[hv]
 clear hv hc
 go_enter func234,Tryz.ntmps234
 go_wp2_with fail
 go_ret
 exact⟨rfl,rfl⟩
theorem ai6(i:Int)(w:World)(h1:0≤i)(h2:i≤255)(hc:i%16=5):
 Calls prog 234 #[.int .u8 i] w fun e w'=>e= .returned (.int .u32 (Cr.Il i))∧w=w':=by
 have hb:bits .and .u8 i 15=5:=by rw[u8_and15 (x:=i) h1 Y,hc]
 have hv:Cr.Il i=1802195444:=by unfold Cr.Il;rw[hc];decide
 have hx:=asz
 rw[hv]
 clear hv hc
 go_enter func234,Tryz.ntmps234
 go_wp2_with fail
 go_ret
 exact⟨rfl,rfl⟩
theorem aj7(i:Int)(w:World)(h1:0≤i)(h2:i≤255)(hc:i%16=6):
 Calls prog 234 #[.int .u8 i] w fun e w'=>e= .returned (.int .u32 (Cr.Il i))∧w=w':=by
 have hb:bits .and .u8 i 15=6:=by rw[u8_and15 (x:=i) h1 Y,hc]
 have hv:Cr.Il i=1303535960:=by unfold Cr.Il;rw[hc];decide
 have hx:=aqF
 rw[hv]
 clear hv hc
 go_enter func234,Tryz.ntmps234
 go_wp2_with fail
 go_ret
 exact⟨rfl,rfl⟩
theorem ajf(i:Int)(w:World)(h1:0≤i)(h2:i≤255)(hc:i%16=7):
 Calls prog 234 #[.int .u8 i] w fun e w'=>e= .returned (.int .u32 (Cr.Il i))∧w=w':=by
 have hb:bits .and .u8 i 15=7:=by rw[u8_and15 (x:=i) h1 Y,hc]
 have hv:Cr.Il i=1342533948:=by unfold Cr.Il;rw[hc];decide
 have hx:=aq3
 rw[hv]
 clear hv hc
 go_enter func234,Tryz.ntmps234
 go_wp2_with fail
 go_ret
 exact⟨rfl,rfl⟩
theorem ajn(i:Int)(w:World)(h1:0≤i)(h2:i≤255)(hc:i%16=8):
 Calls prog 234 #[.int .u8 i] w fun e w'=>e= .returned (.int .u32 (Cr.Il i))∧w=w':=by
 have hb:bits .and .u8 i 15=8:=by rw[u8_and15 (x:=i) h1 Y,hc]
 have hv:Cr.Il i=3988292384:=by unfold Cr.Il;rw[hc];decide
 have hx:=ara
 rw[hv]
 clear hv hc
 go_enter func234,Tryz.ntmps234
 go_wp2_with fail
 go_ret
 exact⟨rfl,rfl⟩
theorem ajP(i:Int)(w:World)(h1:0≤i)(h2:i≤255)(hc:i%16=9):
 Calls prog 234 #[.int .u8 i] w fun e w'=>e= .returned (.int .u32 (Cr.Il i))∧w=w':=by
 have hb:bits .and .u8 i 15=9:=by rw[u8_and15 (x:=i) h1 Y,hc]
 have hv:Cr.Il i=4027552580:=by unfold Cr.Il;rw[hc];decide
 have hx:=ar9
 rw[hv]
 clear hv hc
 go_enter func234,Tryz.ntmps234
 go_wp2_with fail
 go_ret
 exact⟨rfl,rfl⟩
theorem agY(i:Int)(w:World)(h1:0≤i)(h2:i≤255)(hc:i%16=10):
 Calls prog 234 #[.int .u8 i] w fun e w'=>e= .returned (.int .u32 (Cr.Il i))∧w=w':=by
 have hb:bits .and .u8 i 15=10:=by rw[u8_and15 (x:=i) h1 Y,hc]
 have hv:Cr.Il i=3604390888:=by unfold Cr.Il;rw[hc];decide
 have hx:=ao5
 rw[hv]
 clear hv hc
 go_enter func234,Tryz.ntmps234
 go_wp2_with fail
 go_ret
 exact⟨rfl,rfl⟩
theorem agP(i:Int)(w:World)(h1:0≤i)(h2:i≤255)(hc:i%16=11):
 Calls prog 234 #[.int .u8 i] w fun e w'=>e= .returned (.int .u32 (Cr.Il i))∧w=w':=by
 have hb:bits .and .u8 i 15=11:=by rw[u8_and15 (x:=i) h1 Y,hc]
 have hv:Cr.Il i=3412177804:=by unfold Cr.Il;rw[hc];decide
 have hx:=aoS
 rw[hv]
 clear hv hc
 go_enter func234,Tryz.ntmps234
 go_wp2_with fail
 go_ret
 exact⟨rfl,rfl⟩
theorem ahn(i:Int)(w:World)(h1:0≤i)(h2:i≤255)(hc:i%16=12):
 Calls prog 234 #[.int .u8 i] w fun e w'=>e= .returned (.int .u32 (Cr.Il i))∧w=w':=by
 have hb:bits .and .u8 i 15=12:=by rw[u8_and15 (x:=i) h1 Y,hc]
 have hv:Cr.Il i=2607071920:=by unfold Cr.Il;rw[hc];decide
 have hx:=an4
 rw[hv]
 clear hv hc
 go_enter func234,Tryz.ntmps234
 go_wp2_with fail
 go_ret
 exact⟨rfl,rfl⟩
theorem ahp(i:Int)(w:World)(h1:0≤i)(h2:i≤255)(hc:i%16=13):
 Calls prog 234 #[.int .u8 i] w fun e w'=>e= .returned (.int .u32 (Cr.Il i))∧w=w':=by
 have hb:bits .and .u8 i 15=13:=by rw[u8_and15 (x:=i) h1 Y,hc]
 have hv:Cr.Il i=2262029012:=by unfold Cr.Il;rw[hc];decide
 have hx:=aoe
 rw[hv]
 clear hv hc
 go_enter func234,Tryz.ntmps234
 go_wp2_with fail
 go_ret
 exact⟨rfl,rfl⟩
theorem ahw(i:Int)(w:World)(h1:0≤i)(h2:i≤255)(hc:i%16=14):
 Calls prog 234 #[.int .u8 i] w fun e w'=>e= .returned (.int .u32 (Cr.Il i))∧w=w':=by
 have hb:bits .and .u8 i 15=14:=by rw[u8_and15 (x:=i) h1 Y,hc]
 have hv:Cr.Il i=2685067896:=by unfold Cr.Il;rw[hc];decide
 have hx:=aoq
 rw[hv]
 clear hv hc
 go_enter func234,Tryz.ntmps234
 go_wp2_with fail
 go_ret
 exact⟨rfl,rfl⟩
theorem aho(i:Int)(w:World)(h1:0≤i)(h2:i≤255)(hc:i%16=15):
 Calls prog 234 #[.int .u8 i] w fun e w'=>e= .returned (.int .u32 (Cr.Il i))∧w=w':=by
 have hb:bits .and .u8 i 15=15:=by rw[u8_and15 (x:=i) h1 Y,hc]
 have hv:Cr.Il i=3183342108:=by unfold Cr.Il;rw[hc];decide
 have hx:=aoz
 rw[hv]
 clear hv hc
 go_enter func234,Tryz.ntmps234
 go_wp2_with fail
 go_ret
 exact⟨rfl,rfl⟩
theorem table_any(i:Int)(w:World)(h1:0≤i)(h2:i≤255):
 Calls prog 234 #[.int .u8 i] w fun e w'=>e= .returned (.int .u32 (Cr.Il i))∧w=w':=by
 rcases(show i%16=0∨i%16=1∨i%16=2∨i%16=3∨i%16=4∨i%16=5∨i%16=6∨i%16=7∨i%16=8∨i%16=9∨i%16=10∨i%16=11∨i%16=12∨i%16=13∨i%16=14∨i%16=15 from by omega)with
  h|h|h|h|h|h|h|h|h|h|h|h|h|h|h|h
 ·exact ai7 i w h1 h2 h
 ·exact ajx i w h1 h2 h
 ·exact ajo i w h1 h2 h
 ·exact ajm i w h1 h2 h
 ·exact ajh i w h1 h2 h
 ·exact ai6 i w h1 h2 h
 ·exact aj7 i w h1 h2 h
 ·exact ajf i w h1 h2 h
 ·exact ajn i w h1 h2 h
 ·exact ajP i w h1 h2 h
 ·exact agY i w h1 h2 h
 ·exact agP i w h1 h2 h
 ·exact ahn i w h1 h2 h
 ·exact ahp i w h1 h2 h
 ·exact ahw i w h1 h2 h
 ·exact aho i w h1 h2 h
end
end
section
section
open Go.RowKit
theorem ako(s:Int)(A:Option Addr)(len cap:Nat)(xs:List Int)(B:Nat)(w:World)(h1:0≤s)(h2:s≤4294967295)(hr:Gv w B A len (xs.map (Value.int .u8)))(hi:Ints .u8 xs)(hl:len≤9223372036854775807):
 Calls prog 171 #[.int .u32 s,.slice A len cap] w fun e w'=>e= .returned (.int .u32 (Cr.more s xs))∧w=w':=by
 have hb:∀b∈xs,0≤b∧b≤255:=fun b hb=>bounds_u8 (hi b hb)
 have HB:=Lib.hid hb
 have HI:=Lib.hid hi
 have HR:=Lib.hid hr
 have hlen:xs.length=len:=by simpa using hr.1
 have HL:=Lib.hid hlen
 clear hb hi hr hlen
 have hn:=Cr.afi s h1 h2
 have hfin:=Lib.hid (Cr.ajG s xs h1 h2 HB.out)
 go_enter func171,Tryz.ntmps171
 go_wp2_with fail
 go_loop [0,6,11] (fun s' _u t=>∃j:Nat,j≤len∧t= .int .i64 j∧s'= .int .u32 (Cr.run (4294967295-s) (xs.take j))) (fun _ _ t=>len-(intOf t).toNat)
 case atStart=>exact⟨0,Y,rfl,rfl⟩
 case round=>
  obtain⟨j,hj,rfl,rfl⟩:=hrel
  have hbd:=Cr.agZ (xs.take j) (4294967295-s) Y Y (fun b hb=>HB.out b (Jb hb))
  by_cases hlt:j<len
  ·obtain⟨b,off,z,rfl,hbl,hz,hwz,hc⟩:=HR.out.int HI.out hlt
   have hzb:=bounds_u8 hwz
   have HN:=Lib.hid (Cr.akX (4294967295-s) (xs.take j) z)
   have HT:=Lib.hid (Um hz)
   clear hz hwz
   generalize Cr.run (4294967295-s) (xs.take j)=r at*
   have hh:=Cr.Tq r z hbd.1 hbd.2 hzb.1 hzb.2
   obtain⟨s1,hs1⟩:∃s1,bits .xor .u32 (Cr.Il (bits .xor .u8 (r%256) z)) (r/16)=s1:=⟨_,rfl⟩
   have hsb:=Cr.aoE r z s1 hbd.1 hbd.2 hzb.1 hzb.2 hs1
   have hcode:=Cr.ajB r z s1 hbd.1 hbd.2 hzb.1 hzb.2 hs1
   have hh2:=(Cr.Tq s1 (z/16) hsb.1 hsb.2 Y Y).2
   have hh1:=hh.2
   clear hh
   have t1:=Cr.aoy (bits .xor .u8 (r%256) z)
   go_wp2_with (first
   |(go_at_call 234;refine(table_any _ _ Y Y).mono ?_;rintro e w' ⟨rfl,rfl⟩))
   go_round
   case rel=>exact⟨j+1,Y,by go_num,by rw[HT.out,HN.out]⟩
   case measure=>simp[intOf];omega
  ·go_wp2_with fail
   go_ret
   exact⟨FK (by rw[←hfin.out];congr 2;rw[Fp (by rw[HL.out];omega)]),rfl⟩
theorem sum_any(A:Option Addr)(len cap:Nat)(xs:List Int)(B:Nat)(w:World)(hr:Gv w B A len (xs.map (Value.int .u8)))(hi:Ints .u8 xs)(hl:len≤9223372036854775807):
 Calls prog 112 #[.slice A len cap] w fun e w'=>e= .returned (.int .u32 (Cr.more 0 xs))∧w=w':=by
 go_enter func112,Tryz.ntmps112
 go_wp2_with fail
 refine(ako 0 A len cap xs B _ Y Y hr hi hl).mono ?_
 rintro e w' ⟨rfl,rfl⟩
 go_wp2_with fail
 go_ret
 exact⟨rfl,rfl⟩
end
end
section
section
open Go.RowKit
theorem GL(A:Option Addr)(len cap:Nat)(xs:List Int)(B:Nat)(w:World)(hr:Gv w B A len (xs.map (Value.int .u64)))(hi:Ints .u64 xs)(hl:len≤1099511627776)(hB:B≤w.heap.size):
 Calls prog 44 #[.slice A len cap] w fun e w'=>e= .returned (.int .u32 (Cr.more 0 (By.bytes xs)))∧Below w.heap.size w w':=by
 go_enter func44,Tryz.ntmps44
 go_wp2_with fail
 refine(aj3 A len cap xs B _ hr hi hl hB).mono ?_
 rintro e w1 ⟨v,rfl,hown,hb⟩
 obtain⟨A',c',rfl,hc1,hc2,_⟩:=ajd hown
 go_wp2_with fail
 refine(sum_any A' (8*len) c' (By.bytes xs) _ _ (Gv.aq2 hown) (fun z hz=>wf_u8 (By.Qz xs z hz)) Y).mono ?_
 rintro e w' ⟨rfl,rfl⟩
 go_wp2_with fail
 go_ret
 exact⟨rfl,hb⟩
theorem aoQ(w:World)(T:TypeId)(x y:Int):Gv (w.alloc (.cells #[.int .u64 x,.int .u64 y] T)) (w.heap.size+1) (some ⟨w.heap.size,0,none⟩) 2 ([x,y].map (Value.int .u64)):=by
 have h:=Gv.of_block (heap_alloc_new w (.cells #[.int .u64 x,.int .u64 y] T)) J (m:=2) rfl
 simpa using h
theorem XE(n p:Int)(w:World)(h1:0≤n)(h2:n≤4294967295)(p1: -9223372036854775808≤p)(p2:p≤9223372036854775807):
 Calls prog 225 #[.int .u32 n,.int .i64 p] w fun e w'=>e= .returned (.int .u64 (Sl.sealed n p))∧Below w.heap.size w w':=by
 obtain⟨q,hq⟩:∃q,IntKind.u64.wrap p=q:=⟨_,rfl⟩
 have hqb:0≤q∧q≤18446744073709551615:=by rw[←hq,IntKind.wrap_u64];omega
 have HQ:=Lib.hid hq
 have hcb:=Sl.WW n q
 have hfin:=Lib.hid (Sl.ajK n p q h1 h2 hq)
 go_enter func225,Tryz.ntmps225
 go_wp2_with fail
 refine(GL _ 2 2 [n,q] _ _ (aoQ w _ n q) (by intro z hz;simp at hz;rcases hz with O|rfl<;>exact wf_u64 Y) Y J).mono ?_
 rintro e w1 ⟨rfl,hb⟩
 go_wp2_with fail
 go_ret
 exact⟨FK hfin.out,((Below.refl _ _).alloc (BF _) _).trans (hb.mono J)⟩
theorem open_any(x p:Int)(w:World)(h1:0≤x)(h2:x≤18446744073709551615)(p1: -9223372036854775808≤p)(p2:p≤9223372036854775807):
 Calls prog 199 #[.int .u64 x,.int .i64 p] w fun e w'=>e= .returned (.tuple #[.int .u32 (Sl.acj x p),.bool (Sl.Lh x p)])∧Below w.heap.size w w':=by
 cases hob:Sl.Lh x p
 ·have hon:=Sl.aaH x p hob
  have ho:=Sl.alW x p hob
  rw[hon]
  clear hob hon
  go_enter func199,Tryz.ntmps199
  go_wp2_with (first|(go_at_call 225;refine(XE _ _ _ Y Y Y Y).mono ?_;rintro e w1 ⟨rfl,hb⟩))
  go_ret2
  exact⟨rfl,hb⟩
 ·have hon:=Sl.VZ x p hob
  have ho:=Sl.ajF x p hob
  rw[hon]
  clear hob hon
  go_enter func199,Tryz.ntmps199
  go_wp2_with (first|(go_at_call 225;refine(XE _ _ _ Y Y Y Y).mono ?_;rintro e w1 ⟨rfl,hb⟩))
  go_ret2
  exact⟨rfl,hb⟩
end
end
section
section
open Go.RowKit
theorem WE{W w1:World}(hb:Below W.heap.size W w1):(∀b o,b<W.heap.size→w1.cell? ⟨b,o,none⟩=W.cell? ⟨b,o,none⟩)∧(∀b o,b<W.heap.size→w1.frozen? ⟨b,o,none⟩=W.frozen? ⟨b,o,none⟩):=
 ⟨fun b o h=>hb.cell (p:=⟨b,o,none⟩) h,fun b o h=>hb.frozen (p:=⟨b,o,none⟩) h⟩
theorem Ux(w:World)(o:Obj)(p:Addr)(h:p.block<w.heap.size):(w.alloc o).frozen? p=w.frozen? p:=((Below.refl w.heap.size w).alloc (BF _) o).frozen h
theorem al1(w:World)(p d:Value)(T:TypeId):(w.alloc (.cells #[p,d] T)).cell? ⟨w.heap.size,0,none⟩=some p∧(w.alloc (.cells #[p,d] T)).cell? ⟨w.heap.size,1,none⟩=some d∧Below w.heap.size w (w.alloc (.cells #[p,d] T)):=
 ⟨by rw[Joins.cell_of_block (heap_alloc_new w _)];rfl,by rw[Joins.cell_of_block (heap_alloc_new w _)];rfl,(Below.refl _ _).alloc (BF _) _⟩
theorem Qx(p d:Int)(w:World)(h1: -9223372036854775808≤p)(h2:p≤9223372036854775807)(h3: -9223372036854775808≤d)(h4:d≤9223372036854775807):
 Calls prog 155 #[.agg #[.int .i64 p,.int .i64 d]] w fun e w'=>e= .returned (.int .i64 (Cl.size p d))∧Below w.heap.size w w':=by
 rcases(show(p<0∨p>63∨d<0∨d>16384)∨(0≤p∧p≤63∧0≤d∧d≤16384)from by omega)with c|⟨c1,c2,c3,c4⟩
 ·have e:=Cl.QG p d c
  have e1:=e.1
  have e2:=e.2
  clear e c
  go_enter func155,Tryz.ntmps155
  go_wp2_with (first
   |(go_at_call 215;refine(size_any _ _ _ Y Y Y Y).mono ?_;rintro e w' ⟨rfl,rfl⟩))
  go_ret
  exact⟨FK e1.symm,by(repeat (first|exact Below.refl _ _|(refine Below.alloc ?_ Ap _)))⟩
 ·have e:=Cl.Ns p d c1 c2 c3 c4
  have e1:=Lib.hid e.1
  have e2:=e.2
  clear e
  go_enter func155,Tryz.ntmps155
  go_wp2_with (first
   |(go_at_call 215;refine(size_any _ _ _ Y Y Y Y).mono ?_;rintro e w' ⟨rfl,rfl⟩))
  go_ret
  exact⟨rfl,by(repeat (first|exact Below.refl _ _|(refine Below.alloc ?_ Ap _)))⟩
theorem abH(p d at_:Int)(w:World)(h1: -9223372036854775808≤p)(h2:p≤9223372036854775807)(h3: -9223372036854775808≤d)(h4:d≤9223372036854775807)(a1: -9223372036854775808≤at_)(a2:at_≤9223372036854775807):
 Calls prog 220 #[.agg #[.int .i64 p,.int .i64 d],.int .i64 at_] w fun e w'=>e= .returned (.int .u64 (Oh.enc p d at_))∧Below w.heap.size w w':=by
 have hK:=al1 w (.int .i64 p) (.int .i64 d) 205
 rcases(show(p<0∨p>63∨d<0∨d>16384)∨(0≤p∧p≤63∧0≤d∧d≤16384)from by omega)with c|⟨c1,c2,c3,c4⟩
 ·have e:=Lib.hid (Oh.VN p d at_ c)
  have es:=(Cl.QG p d c).1
  clear c
  go_enter func220,Tryz.ntmps220
  go_wp2_with (first
   |(go_at_call 155;refine(Qx _ _ _ Y Y Y Y).mono ?_;rintro e w' ⟨rfl,hb'⟩;first|(replace hK:=IW hb' hK)|(replace hK:=IW hb' (IV _ hK))|(replace hK:=IW hb' (IV _ (IV _ hK)))|(replace hK:=IW hb' (Us hK));clear hb'))
  go_ret
  exact⟨FK e.out.symm,hK.2.2⟩
 ·have e:=Lib.hid (Oh.QW p d at_ c1 c2 c3 c4)
  have es:=Cl.Ns p d c1 c2 c3 c4
  have es1:=es.1
  have es2:(1+p+d==0)=false:=by simp;omega
  have eo:=Oh.avv p d c1 c2 c3 c4
  have eo1:=eo.1
  have eo2:=eo.2
  clear es eo
  go_enter func220,Tryz.ntmps220
  go_wp2_with (first
   |(go_at_call 155;refine(Qx _ _ _ Y Y Y Y).mono ?_;rintro e w' ⟨rfl,hb'⟩;first|(replace hK:=IW hb' hK)|(replace hK:=IW hb' (IV _ hK))|(replace hK:=IW hb' (IV _ (IV _ hK)))|(replace hK:=IW hb' (Us hK));clear hb')
   |(go_at_call 224;refine(put_any _ _ _ _ _ Y Y Y Y Y Y Y Y).mono ?_;rintro e w' ⟨rfl,rfl⟩)
   |(go_at_call 225;refine(XE _ _ _ Y Y Y Y).mono ?_;rintro e w' ⟨rfl,hb'⟩;first|(replace hK:=IW hb' hK)|(replace hK:=IW hb' (IV _ hK))|(replace hK:=IW hb' (IV _ (IV _ hK)))|(replace hK:=IW hb' (Us hK));clear hb'))
  go_ret
  exact⟨FK e.out.symm,hK.2.2⟩
theorem akx(at_ x:Int)(w:World)(a1: -9223372036854775808≤at_)(a2:at_≤9223372036854775807)(h1:0≤x)(h2:x≤18446744073709551615):
 Calls prog 205 #[.int .i64 at_,.int .u64 x] w fun e w'=>e= .returned (.tuple #[.agg #[.int .i64 (Oh.decP x at_),.int .i64 (Oh.Tn x at_)],.int .i64 (Oh.MJ x at_)])∧Below w.heap.size w w':=by
 have hr:=Oh.aeC x
 have hg:=Oh.adP x
 have hg1:=hg.1
 have hg2:=hg.2
 clear hg
 cases ho:Sl.Lh x at_
 ·have e:=Oh.TY x at_ ho
  rw[e.1,e.2.1,e.2.2]
  have on:=Sl.aaH x at_ ho
  clear e
  go_enter func205,Tryz.ntmps205
  go_wp2_with fail
  refine uI ?_
  rintro e w1 ⟨rfl,hb⟩
  obtain⟨hc,hf⟩:=WE hb
  have hz:w.heap.size<w1.heap.size:=by have:=hb.size;simp at this;omega
  have hB:Below w.heap.size w w1:=((Below.refl _ _).alloc (BF _) _).trans (hb.mono J)
  go_wp2_with (first
   |(go_at_call 200;refine(get_any _ _ _ _ Y Y Y Y Y Y).mono ?_;rintro e w' ⟨rfl,rfl⟩))
  exact bodyPost_ret (v:= .tuple #[.agg #[.int .i64 0,.int .i64 0],.int .i64 25]) (by simp[results,go_sem,Tryz.results205,hc]) rfl ⟨rfl,(hB.setCell (BF _) _).setCell (BF _) _⟩
 ·have on:=Sl.VZ x at_ ho
  by_cases hq:Oh.enc (Oh.SV x) (Oh.SN x) at_=x
  ·have e:=Oh.Qw x at_ ho hq
   rw[e.1,e.2.1,e.2.2]
   have hq2:(Oh.enc (Oh.SV x) (Oh.SN x) at_ !=x)=false:=by simpa using hq
   clear e hq
   go_enter func205,Tryz.ntmps205
   go_wp2_with fail
   refine uI ?_
   rintro e w1 ⟨rfl,hb⟩
   obtain⟨hc,hf⟩:=WE hb
   have hz:w.heap.size<w1.heap.size:=by have:=hb.size;simp at this;omega
   have hB:Below w.heap.size w w1:=((Below.refl _ _).alloc (BF _) _).trans (hb.mono J)
   go_wp2_with (first
   |(go_at_call 200;refine(get_any _ _ _ _ Y Y Y Y Y Y).mono ?_;rintro e w' ⟨rfl,rfl⟩))
   refine(abH _ _ _ _ Y Y Y Y Y Y).mono ?_
   rintro e w2 ⟨rfl,hb2⟩
   obtain⟨hc2,hf2⟩:=WE hb2
   have hz2:w1.heap.size<w2.heap.size:=by have:=hb2.size;first|omega|(simp at this;omega)
   go_wp2_with fail
   have hB2:Below w.heap.size w w2:=(hB.alloc Y _).trans (hb2.mono Am)
   have q0:w2.cell? ⟨w.heap.size,0,none⟩=some (.int .i64 0):=by rw[hc2 _ _ Am,World.cell?_alloc_lt _ _ _ Ae,hc _ _ J];simp
   have q1:w2.cell? ⟨w.heap.size,1,none⟩=some (.int .i64 0):=by rw[hc2 _ _ Am,World.cell?_alloc_lt _ _ _ Ae,hc _ _ J];simp
   exact bodyPost_ret (v:= .tuple #[.agg #[.int .i64 (Oh.SV x),.int .i64 (Oh.SN x)],.int .i64 0]) (by simp[results,go_sem,Tryz.results205,q0,q1]) rfl ⟨rfl,(hB2.setCell (BF _) _).setCell (BF _) _⟩
  ·have e:=Oh.VD x at_ ho hq
   rw[e.1,e.2.1,e.2.2]
   have hq2:(Oh.enc (Oh.SV x) (Oh.SN x) at_ !=x)=true:=by simpa using hq
   clear e hq
   go_enter func205,Tryz.ntmps205
   go_wp2_with fail
   refine uI ?_
   rintro e w1 ⟨rfl,hb⟩
   obtain⟨hc,hf⟩:=WE hb
   have hz:w.heap.size<w1.heap.size:=by have:=hb.size;simp at this;omega
   have hB:Below w.heap.size w w1:=((Below.refl _ _).alloc (BF _) _).trans (hb.mono J)
   go_wp2_with (first
   |(go_at_call 200;refine(get_any _ _ _ _ Y Y Y Y Y Y).mono ?_;rintro e w' ⟨rfl,rfl⟩))
   refine(abH _ _ _ _ Y Y Y Y Y Y).mono ?_
   rintro e w2 ⟨rfl,hb2⟩
   obtain⟨hc2,hf2⟩:=WE hb2
   have hz2:w1.heap.size<w2.heap.size:=by have:=hb2.size;first|omega|(simp at this;omega)
   go_wp2_with fail
   have hB2:Below w.heap.size w w2:=(hB.alloc Y _).trans (hb2.mono Am)
   have q0:w2.cell? ⟨w.heap.size,0,none⟩=some (.int .i64 0):=by rw[hc2 _ _ Am,World.cell?_alloc_lt _ _ _ Ae,hc _ _ J];simp
   have q1:w2.cell? ⟨w.heap.size,1,none⟩=some (.int .i64 0):=by rw[hc2 _ _ Am,World.cell?_alloc_lt _ _ _ Ae,hc _ _ J];simp
   exact bodyPost_ret (v:= .tuple #[.agg #[.int .i64 0,.int .i64 0],.int .i64 26]) (by simp[results,go_sem,Tryz.results205,q0,q1]) rfl ⟨rfl,(hB2.setCell (BF _) _).setCell (BF _) _⟩
end
end
section
section
open Go.RowKit
theorem ai8(p d i:Int)(w:World)(p1:0≤p)(p2:p≤63)(d1:0≤d)(d2:d≤16384)(h1: -100000≤i)(h2:i≤100000):
 Calls prog 252 #[.agg #[.int .i64 p,.int .i64 d],.int .i64 i] w fun e w'=>e= .returned (.tuple #[.int .i64 (1+p+i),.bool (Oh.inB i d)])∧Below w.heap.size w w':=by
 have hK:=al1 w (.int .i64 p) (.int .i64 d) 205
 rcases(show i<0∨(0≤i∧i<d)∨(0≤i∧d≤i)from by omega)with c|⟨c1,c2⟩|⟨c1,c2⟩
 ·have e:=Lib.hid (Oh.adE i d (.inl c))
  have g:decide (0≤i)=false:=by simp;omega
  go_enter func252,Tryz.ntmps252
  go_wp2_with fail
  go_quiet (fail)
  go_wp2_with fail
  go_ret2
  exact⟨Ut rfl e.out.symm,below_drewN hK.2.2 _⟩
 ·have e:=Lib.hid (Oh.aae i d c1 c2)
  go_enter func252,Tryz.ntmps252
  go_wp2_with fail
  go_quiet (fail)
  go_wp2_with fail
  go_ret2
  exact⟨Ut rfl (by rw[e.out]),below_drewN hK.2.2 _⟩
 ·have e:=Lib.hid (Oh.adE i d (.inr c2))
  go_enter func252,Tryz.ntmps252
  go_wp2_with fail
  go_quiet (fail)
  go_wp2_with fail
  go_ret2
  exact⟨Ut rfl (by rw[e.out];first|rfl|(simp;done)|(simp;omega)),below_drewN hK.2.2 _⟩
theorem ak7(p d i:Int)(w:World)(p1:0≤p)(p2:p≤63)(d1:0≤d)(d2:d≤16384)(h1: -100000≤i)(h2:i≤100000):
 Calls prog 251 #[.agg #[.int .i64 p,.int .i64 d],.int .i64 i] w fun e w'=>e= .returned (.tuple #[.int .i64 (1+i),.bool (Oh.inB i p)])∧Below w.heap.size w w':=by
 have hK:=al1 w (.int .i64 p) (.int .i64 d) 205
 rcases(show i<0∨(0≤i∧i<p)∨(0≤i∧p≤i)from by omega)with c|⟨c1,c2⟩|⟨c1,c2⟩
 ·have e:=Lib.hid (Oh.adE i p (.inl c))
  have g:decide (0≤i)=false:=by simp;omega
  go_enter func251,Tryz.ntmps251
  go_wp2_with fail
  go_quiet (fail)
  go_wp2_with fail
  go_ret2
  exact⟨Ut rfl e.out.symm,below_drewN hK.2.2 _⟩
 ·have e:=Lib.hid (Oh.aae i p c1 c2)
  go_enter func251,Tryz.ntmps251
  go_wp2_with fail
  go_quiet (fail)
  go_wp2_with fail
  go_ret2
  exact⟨Ut rfl (by rw[e.out]),below_drewN hK.2.2 _⟩
 ·have e:=Lib.hid (Oh.adE i p (.inr c2))
  go_enter func251,Tryz.ntmps251
  go_wp2_with fail
  go_quiet (fail)
  go_wp2_with fail
  go_ret2
  exact⟨Ut rfl (by rw[e.out];first|rfl|(simp;done)|(simp;omega)),below_drewN hK.2.2 _⟩
end
end
section
section
open Go.RowKit
theorem Xf(p d:Int)(w:World)(h1: -9223372036854775808≤p)(h2:p≤9223372036854775807)(h3: -9223372036854775808≤d)(h4:d≤9223372036854775807):
 Calls prog 129 #[.agg #[.int .i64 p,.int .i64 d]] w fun e w'=>e= .returned (.tuple #[.int .i64 (Cl.Yo (Cl.size p d)),.bool (Cl.ofB (Cl.size p d))])∧Below w.heap.size w w':=by
 have hs:=Cl.ZT p d
 have hK:=al1 w (.int .i64 p) (.int .i64 d) 205
 go_enter func129,Tryz.ntmps129
 go_wp2_with (first
  |(go_at_call 155;refine(Qx _ _ _ Y Y Y Y).mono ?_;rintro e w' ⟨rfl,hb'⟩;first|(replace hK:=IW hb' hK)|(replace hK:=IW hb' (IV _ hK))|(replace hK:=IW hb' (IV _ (IV _ hK)))|(replace hK:=IW hb' (Us hK));clear hb')
  |(go_at_call 196;refine(aqG _ _ Y Y).mono ?_;rintro e w' ⟨rfl,hb'⟩;first|(replace hK:=IW hb' hK)|(replace hK:=IW hb' (IV _ hK))|(replace hK:=IW hb' (IV _ (IV _ hK)))|(replace hK:=IW hb' (Us hK));clear hb'))
 go_ret2
 exact⟨rfl,hK.2.2⟩
def Oh.need(n:Int):Int:=if n<1 then 0 else(n+511)/512
theorem Oh.an1(n:Int)(h:0≤n)(h2:n≤100000):Bt.up n 512=Oh.need n:=by
 unfold Oh.need
 by_cases c:n<1
 ·rw[if_pos c,Bt.ag7 n 512 Y]
 ·unfold Bt.up;rw[if_neg c,if_neg Y];omega
def Oh.blocks(p d:Int):Int:=if Cl.ofB (Cl.size p d)then 0 else Oh.need (Cl.size p d)
theorem Oh.adR(p d:Int)(h:Cl.ofB (Cl.size p d)=true):Oh.blocks p d=0:=by unfold Oh.blocks;rw[if_pos h]
theorem Oh.aeP(p d:Int)(h:Cl.ofB (Cl.size p d)=false):Oh.blocks p d=Oh.need (Cl.size p d):=by unfold Oh.blocks;rw[if_neg (by simp[h])]
theorem agB(p d:Int)(w:World)(h1: -9223372036854775808≤p)(h2:p≤9223372036854775807)(h3: -9223372036854775808≤d)(h4:d≤9223372036854775807):
 Calls prog 130 #[.agg #[.int .i64 p,.int .i64 d]] w fun e w'=>e= .returned (.int .i64 (Oh.blocks p d))∧Below w.heap.size w w':=by
 have hs:=Cl.ZT p d
 have hK:=al1 w (.int .i64 p) (.int .i64 d) 205
 cases hb:Cl.ofB (Cl.size p d)
 ·have eb:=Lib.hid ((Oh.aeP p d hb).trans (Oh.an1 _ Y Y).symm)
  go_enter func130,Tryz.ntmps130
  go_wp2_with (first
   |(go_at_call 129;refine(Xf _ _ _ Y Y Y Y).mono ?_;rintro e w' ⟨rfl,hb'⟩;first|(replace hK:=IW hb' hK)|(replace hK:=IW hb' (IV _ hK))|(replace hK:=IW hb' (IV _ (IV _ hK)))|(replace hK:=IW hb' (Us hK));clear hb')
   |(go_at_call 155;refine(Qx _ _ _ Y Y Y Y).mono ?_;rintro e w' ⟨rfl,hb'⟩;first|(replace hK:=IW hb' hK)|(replace hK:=IW hb' (IV _ hK))|(replace hK:=IW hb' (IV _ (IV _ hK)))|(replace hK:=IW hb' (Us hK));clear hb')
   |(go_at_call 100;refine(ag6 _ _ _ Y Y Y Y).mono ?_;rintro e w' ⟨rfl,rfl⟩))
  go_ret
  exact⟨FK eb.out.symm,hK.2.2⟩
 ·have eb:=Lib.hid (Oh.adR p d hb)
  go_enter func130,Tryz.ntmps130
  go_wp2_with (first
   |(go_at_call 129;refine(Xf _ _ _ Y Y Y Y).mono ?_;rintro e w' ⟨rfl,hb'⟩;first|(replace hK:=IW hb' hK)|(replace hK:=IW hb' (IV _ hK))|(replace hK:=IW hb' (IV _ (IV _ hK)))|(replace hK:=IW hb' (Us hK));clear hb')
   |(go_at_call 155;refine(Qx _ _ _ Y Y Y Y).mono ?_;rintro e w' ⟨rfl,hb'⟩;first|(replace hK:=IW hb' hK)|(replace hK:=IW hb' (IV _ hK))|(replace hK:=IW hb' (IV _ (IV _ hK)))|(replace hK:=IW hb' (Us hK));clear hb')
   |(go_at_call 100;refine(ag6 _ _ _ Y Y Y Y).mono ?_;rintro e w' ⟨rfl,rfl⟩))
  go_ret
  exact⟨FK eb.out.symm,hK.2.2⟩
end
end
section
section
open Go.RowKit
theorem as7(w:World)(a b c:Value)(T:TypeId):(w.alloc (.cells #[a,b,c] T)).cell? ⟨w.heap.size,0,none⟩=some a∧(w.alloc (.cells #[a,b,c] T)).cell? ⟨w.heap.size,1,none⟩=some b∧(w.alloc (.cells #[a,b,c] T)).cell? ⟨w.heap.size,2,none⟩=some c∧Below w.heap.size w (w.alloc (.cells #[a,b,c] T)):=
 aoO a b c T (Below.refl _ _)
theorem WI(k c l:Int)(w:World)(h1: -9223372036854775808≤k)(h2:k≤9223372036854775807)(h3: -9223372036854775808≤c)(h4:c≤9223372036854775807)(h5: -9223372036854775808≤l)(h6:l≤9223372036854775807):
 Calls prog 223 #[.agg #[.int .i64 k,.int .i64 c,.int .i64 l]] w fun e w'=>e= .returned (.bool (Bh.right k c l))∧Below w.heap.size w w':=by
 have hK:=as7 w (.int .i64 k) (.int .i64 c) (.int .i64 l) 209
 rcases(show k=0∨k=1∨k=2∨k=3∨(k≠0∧k≠1∧k≠2∧k≠3)from by omega)with rfl|rfl|rfl|rfl|⟨k0,k1,k2,k3⟩
 ·rcases(show(c=0∧l=0)∨c≠0∨(c=0∧l≠0)from by omega)with⟨rfl,rfl⟩|hc|⟨rfl,hl⟩
  ·have z:=Bh.EI 0 0 0 Y
   go_enter func223,Tryz.ntmps223
   go_wp2_with fail
   go_ret
   exact⟨FN Aq,by(repeat (first|exact Below.refl _ _|(refine Below.alloc ?_ Ap _)))⟩
  ·have z:=(show(c==0)=false from by simpa using hc)
   go_enter func223,Tryz.ntmps223
   go_wp2_with fail
   go_ret
   exact⟨FN Aq,by(repeat (first|exact Below.refl _ _|(refine Below.alloc ?_ Ap _)))⟩
  ·have z:=(show(l==0)=false from by simpa using hl)
   go_enter func223,Tryz.ntmps223
   go_wp2_with fail
   go_ret
   exact⟨FN Aq,by(repeat (first|exact Below.refl _ _|(refine Below.alloc ?_ Ap _)))⟩
 ·rcases(show(c<0∨32≤c)∨(0≤c∧c<32∧l=0)∨(0≤c∧c<32∧l≠0)from by omega)with hc|⟨c1,c2,rfl⟩|⟨c1,c2,hl⟩
  ·have z:=Cl.Jo c hc
   go_enter func223,Tryz.ntmps223
   go_wp2_with (first
   |(go_at_call 197;refine(Jl _ _ Y Y).mono ?_;rintro e w' ⟨rfl,rfl⟩))
   go_ret
   exact⟨FN Aq,by(repeat (first|exact Below.refl _ _|(refine Below.alloc ?_ Ap _)))⟩
  ·have z:=Cl.F7 c c1 c2
   go_enter func223,Tryz.ntmps223
   go_wp2_with (first
   |(go_at_call 197;refine(Jl _ _ Y Y).mono ?_;rintro e w' ⟨rfl,rfl⟩))
   go_ret
   exact⟨FN Aq,by(repeat (first|exact Below.refl _ _|(refine Below.alloc ?_ Ap _)))⟩
  ·have z:=Cl.F7 c c1 c2
   have z2:=(show(l==0)=false from by simpa using hl)
   go_enter func223,Tryz.ntmps223
   go_wp2_with (first
   |(go_at_call 197;refine(Jl _ _ Y Y).mono ?_;rintro e w' ⟨rfl,rfl⟩))
   go_ret
   exact⟨FN Aq,by(repeat (first|exact Below.refl _ _|(refine Below.alloc ?_ Ap _)))⟩
 ·rcases(show c≠0∨(c=0∧l<1)∨(c=0∧1≤l∧l≤255)∨(c=0∧1≤l∧255<l)from by omega)with hc|⟨rfl,hl⟩|⟨rfl,l1,l2⟩|⟨rfl,l1,l2⟩
  ·have z:=(show(c==0)=false from by simpa using hc)
   go_enter func223,Tryz.ntmps223
   go_wp2_with fail
   go_ret
   exact⟨FN Aq,by(repeat (first|exact Below.refl _ _|(refine Below.alloc ?_ Ap _)))⟩
  ·have z:=(show decide (1≤l)=false from by simp;omega)
   go_enter func223,Tryz.ntmps223
   go_wp2_with fail
   go_ret
   exact⟨FN Aq,by(repeat (first|exact Below.refl _ _|(refine Below.alloc ?_ Ap _)))⟩
  ·have z:=l1
   go_enter func223,Tryz.ntmps223
   go_wp2_with fail
   go_ret
   exact⟨FN Aq,by(repeat (first|exact Below.refl _ _|(refine Below.alloc ?_ Ap _)))⟩
  ·have z:=(show decide (l<256)=false from by simp;omega)
   go_enter func223,Tryz.ntmps223
   go_wp2_with fail
   go_ret
   exact⟨FN Aq,by(repeat (first|exact Below.refl _ _|(refine Below.alloc ?_ Ap _)))⟩
 ·rcases(show c≠0∨(c=0∧l<1)∨(c=0∧1≤l∧l≤255)∨(c=0∧1≤l∧255<l)from by omega)with hc|⟨rfl,hl⟩|⟨rfl,l1,l2⟩|⟨rfl,l1,l2⟩
  ·have z:=(show(c==0)=false from by simpa using hc)
   go_enter func223,Tryz.ntmps223
   go_wp2_with fail
   go_ret
   exact⟨FN Aq,by(repeat (first|exact Below.refl _ _|(refine Below.alloc ?_ Ap _)))⟩
  ·have z:=(show decide (1≤l)=false from by simp;omega)
   go_enter func223,Tryz.ntmps223
   go_wp2_with fail
   go_ret
   exact⟨FN Aq,by(repeat (first|exact Below.refl _ _|(refine Below.alloc ?_ Ap _)))⟩
  ·have z:=l1
   go_enter func223,Tryz.ntmps223
   go_wp2_with fail
   go_ret
   exact⟨FN Aq,by(repeat (first|exact Below.refl _ _|(refine Below.alloc ?_ Ap _)))⟩
  ·have z:=(show decide (l<256)=false from by simp;omega)
   go_enter func223,Tryz.ntmps223
   go_wp2_with fail
   go_ret
   exact⟨FN Aq,by(repeat (first|exact Below.refl _ _|(refine Below.alloc ?_ Ap _)))⟩
 ·have z:=k0
  have z1:=(show(k==1)=false from by simpa using k1)
  have z2:=(show(k==2)=false from by simpa using k2)
  have z3:=(show(k==3)=false from by simpa using k3)
  have z0:=(show(k==0)=false from by simpa using k0)
  go_enter func223,Tryz.ntmps223
  go_wp2_with fail
  go_ret
  exact⟨FN Aq,by(repeat (first|exact Below.refl _ _|(refine Below.alloc ?_ Ap _)))⟩
end
end
section
section
open Go.RowKit
def Bh.atB(b:Int):Int:=IntKind.i64.wrap (256+b)
theorem Bh.aiF(b:Int):IntKind.i64.wrap (256+b)=Bh.atB b:=rfl
theorem Bh.ald(b:Int): -9223372036854775808≤Bh.atB b∧Bh.atB b≤9223372036854775807:=by
 unfold Bh.atB;rw[IntKind.wrap_i64];omega
theorem aax(b k c l:Int)(w:World)(b1: -9223372036854775808≤b)(b2:b≤9223372036854775807)(h1: -9223372036854775808≤k)(h2:k≤9223372036854775807)(h3: -9223372036854775808≤c)(h4:c≤9223372036854775807)(h5: -9223372036854775808≤l)(h6:l≤9223372036854775807):
 Calls prog 162 #[.int .i64 b,.agg #[.int .i64 k,.int .i64 c,.int .i64 l]] w fun e w'=>e= .returned (.int .u64 (Bh.enc k c l (Bh.atB b)))∧Below w.heap.size w w':=by
 have hK:=as7 w (.int .i64 k) (.int .i64 c) (.int .i64 l) 209
 have ha:=Bh.ald b
 have hat:=Bh.aiF b
 cases hr:Bh.right k c l
 ·have e:=Lib.hid (Bh.VN k c l (Bh.atB b) hr)
  go_enter func162,Tryz.ntmps162
  go_wp2_with (first
   |(go_at_call 223;refine(WI _ _ _ _ Y Y Y Y Y Y).mono ?_;rintro e w' ⟨rfl,hb'⟩;first|(replace hK:=SC hb' hK)|(replace hK:=SC hb' (Uw _ hK))|(replace hK:=SC hb' (Uw _ (Uw _ hK)))|(replace hK:=SC hb' (ag' hK));clear hb'))
  go_ret
  exact⟨FK e.out.symm,hK.2.2.2⟩
 ·have e:=Lib.hid (Bh.QW k c l (Bh.atB b) hr)
  obtain⟨k0,k1,c0,c1,l0,l1⟩:=Bh.SB k c l hr
  obtain⟨p1,p2,p3⟩:=Bh.atc k c l k0 k1 c0 Y l0 l1
  go_enter func162,Tryz.ntmps162
  go_wp2_with (first
   |(go_at_call 223;refine(WI _ _ _ _ Y Y Y Y Y Y).mono ?_;rintro e w' ⟨rfl,hb'⟩;first|(replace hK:=SC hb' hK)|(replace hK:=SC hb' (Uw _ hK))|(replace hK:=SC hb' (Uw _ (Uw _ hK)))|(replace hK:=SC hb' (ag' hK));clear hb')
   |(go_at_call 224;refine(put_any _ _ _ _ _ Y Y Y Y Y Y Y Y).mono ?_;rintro e w' ⟨rfl,rfl⟩)
   |(go_at_call 225;refine(XE _ _ _ Y Y Y Y).mono ?_;rintro e w' ⟨rfl,hb'⟩;first|(replace hK:=SC hb' hK)|(replace hK:=SC hb' (Uw _ hK))|(replace hK:=SC hb' (Uw _ (Uw _ hK)))|(replace hK:=SC hb' (ag' hK));clear hb'))
  go_ret
  exact⟨FK e.out.symm,hK.2.2.2⟩
end
end
section
section
open Go.RowKit
theorem amw(b x:Int)(w:World)(a1: -9223372036854775808≤b)(a2:b≤9223372036854775807)(h1:0≤x)(h2:x≤18446744073709551615):
 Calls prog 132 #[.int .i64 b,.int .u64 x] w fun e w'=>e= .returned (.tuple #[.agg #[.int .i64 (Bh.adC x (Bh.atB b)),.int .i64 (Bh.aeF x (Bh.atB b)),.int .i64 (Bh.aey x (Bh.atB b))],.int .i64 (Bh.MJ x (Bh.atB b))])∧Below w.heap.size w w':=by
 have hr:=Bh.aeC x
 have ha:=Bh.ald b
 have hat:=Bh.aiF b
 have hg:=Bh.adP x
 obtain⟨hg1,hg2,hg3⟩:=hg
 cases ho:Sl.Lh x (Bh.atB b)
 ·obtain⟨e1,e2,e3,e4⟩:=Bh.TY x (Bh.atB b) ho
  rw[e1,e2,e3,e4]
  clear e1 e2 e3 e4
  have on:=Sl.aaH x (Bh.atB b) ho
  go_enter func132,Tryz.ntmps132
  go_wp2_with fail
  refine uI ?_
  rintro e w1 ⟨rfl,hb⟩
  obtain⟨hc,hf⟩:=WE hb
  have hz:w.heap.size<w1.heap.size:=by have:=hb.size;simp at this;omega
  have hB:Below w.heap.size w w1:=((Below.refl _ _).alloc (BF _) _).trans (hb.mono J)
  go_wp2_with (first
   |(go_at_call 200;refine(get_any _ _ _ _ Y Y Y Y Y Y).mono ?_;rintro e w' ⟨rfl,rfl⟩))
  exact bodyPost_ret (v:= .tuple #[.agg #[.int .i64 0,.int .i64 0,.int .i64 0],.int .i64 25]) (by simp[results,go_sem,Tryz.results132,hc]) rfl ⟨rfl,((hB.setCell (BF _) _).setCell (BF _) _).setCell (BF _) _⟩
 ·have on:=Sl.VZ x (Bh.atB b) ho
  by_cases hq:Bh.enc (Bh.Sv x) (Bh.Tm x) (Bh.Tj x) (Bh.atB b)=x
  ·have hq2:(Bh.enc (Bh.Sv x) (Bh.Tm x) (Bh.Tj x) (Bh.atB b) !=x)=false:=by simpa using hq
   obtain⟨e1,e2,e3,e4⟩:=Bh.Qw x (Bh.atB b) ho hq
   rw[e1,e2,e3,e4]
   clear e1 e2 e3 e4
   clear hq
   go_enter func132,Tryz.ntmps132
   go_wp2_with fail
   refine uI ?_
   rintro e w1 ⟨rfl,hb⟩
   obtain⟨hc,hf⟩:=WE hb
   have hz:w.heap.size<w1.heap.size:=by have:=hb.size;simp at this;omega
   have hB:Below w.heap.size w w1:=((Below.refl _ _).alloc (BF _) _).trans (hb.mono J)
   go_wp2_with (first
   |(go_at_call 200;refine(get_any _ _ _ _ Y Y Y Y Y Y).mono ?_;rintro e w' ⟨rfl,rfl⟩))
   refine(aax _ _ _ _ _ Y Y Y Y Y Y Y Y).mono ?_
   rintro e w2 ⟨rfl,hb2⟩
   obtain⟨hc2,hf2⟩:=WE hb2
   have hz2:w1.heap.size<w2.heap.size:=by have:=hb2.size;first|omega|(simp at this;omega)
   have q0:w2.cell? ⟨w.heap.size,0,none⟩=some (.int .i64 0):=by rw[hc2 _ _ Am,World.cell?_alloc_lt _ _ _ Ae,hc _ _ J];simp
   have q1:w2.cell? ⟨w.heap.size,1,none⟩=some (.int .i64 0):=by rw[hc2 _ _ Am,World.cell?_alloc_lt _ _ _ Ae,hc _ _ J];simp
   have q2:w2.cell? ⟨w.heap.size,2,none⟩=some (.int .i64 0):=by rw[hc2 _ _ Am,World.cell?_alloc_lt _ _ _ Ae,hc _ _ J];simp
   have r0:w2.cell? ⟨w1.heap.size,0,none⟩=some (.int .i64 (Bh.Sv x)):=by rw[hc2 _ _ J];simp
   have r1:w2.cell? ⟨w1.heap.size,1,none⟩=some (.int .i64 (Bh.Tm x)):=by rw[hc2 _ _ J];simp
   have r2:w2.cell? ⟨w1.heap.size,2,none⟩=some (.int .i64 (Bh.Tj x)):=by rw[hc2 _ _ J];simp
   have f0:∀o,w2.frozen? ⟨w.heap.size,o,none⟩=false:=fun o=>by rw[hf2 _ _ Am,Ux _ _ _ Ae,hf _ _ J];simp
   have hB2:Below w.heap.size w w2:=(hB.alloc Y _).trans (hb2.mono Am)
   clear hc hf hc2 hf2
   go_wp2_with fail
   exact bodyPost_ret (v:= .tuple #[.agg #[.int .i64 (Bh.Sv x),.int .i64 (Bh.Tm x),.int .i64 (Bh.Tj x)],.int .i64 0]) (by simp[results,go_sem,Tryz.results132,q0,q1,q2]) rfl ⟨rfl,((hB2.setCell (BF _) _).setCell (BF _) _).setCell (BF _) _⟩
  ·have hq2:(Bh.enc (Bh.Sv x) (Bh.Tm x) (Bh.Tj x) (Bh.atB b) !=x)=true:=by simpa using hq
   obtain⟨e1,e2,e3,e4⟩:=Bh.VD x (Bh.atB b) ho hq
   rw[e1,e2,e3,e4]
   clear e1 e2 e3 e4
   clear hq
   go_enter func132,Tryz.ntmps132
   go_wp2_with fail
   refine uI ?_
   rintro e w1 ⟨rfl,hb⟩
   obtain⟨hc,hf⟩:=WE hb
   have hz:w.heap.size<w1.heap.size:=by have:=hb.size;simp at this;omega
   have hB:Below w.heap.size w w1:=((Below.refl _ _).alloc (BF _) _).trans (hb.mono J)
   go_wp2_with (first
   |(go_at_call 200;refine(get_any _ _ _ _ Y Y Y Y Y Y).mono ?_;rintro e w' ⟨rfl,rfl⟩))
   refine(aax _ _ _ _ _ Y Y Y Y Y Y Y Y).mono ?_
   rintro e w2 ⟨rfl,hb2⟩
   obtain⟨hc2,hf2⟩:=WE hb2
   have hz2:w1.heap.size<w2.heap.size:=by have:=hb2.size;first|omega|(simp at this;omega)
   have q0:w2.cell? ⟨w.heap.size,0,none⟩=some (.int .i64 0):=by rw[hc2 _ _ Am,World.cell?_alloc_lt _ _ _ Ae,hc _ _ J];simp
   have q1:w2.cell? ⟨w.heap.size,1,none⟩=some (.int .i64 0):=by rw[hc2 _ _ Am,World.cell?_alloc_lt _ _ _ Ae,hc _ _ J];simp
   have q2:w2.cell? ⟨w.heap.size,2,none⟩=some (.int .i64 0):=by rw[hc2 _ _ Am,World.cell?_alloc_lt _ _ _ Ae,hc _ _ J];simp
   have r0:w2.cell? ⟨w1.heap.size,0,none⟩=some (.int .i64 (Bh.Sv x)):=by rw[hc2 _ _ J];simp
   have r1:w2.cell? ⟨w1.heap.size,1,none⟩=some (.int .i64 (Bh.Tm x)):=by rw[hc2 _ _ J];simp
   have r2:w2.cell? ⟨w1.heap.size,2,none⟩=some (.int .i64 (Bh.Tj x)):=by rw[hc2 _ _ J];simp
   have f0:∀o,w2.frozen? ⟨w.heap.size,o,none⟩=false:=fun o=>by rw[hf2 _ _ Am,Ux _ _ _ Ae,hf _ _ J];simp
   have hB2:Below w.heap.size w w2:=(hB.alloc Y _).trans (hb2.mono Am)
   clear hc hf hc2 hf2
   go_wp2_with fail
   exact bodyPost_ret (v:= .tuple #[.agg #[.int .i64 0,.int .i64 0,.int .i64 0],.int .i64 26]) (by simp[results,go_sem,Tryz.results132,q0,q1,q2]) rfl ⟨rfl,((hB2.setCell (BF _) _).setCell (BF _) _).setCell (BF _) _⟩
end
end
section
section
open Go.RowKit
def I64(x:Int):Prop:= -9223372036854775808≤x∧x≤9223372036854775807
theorem akQ(r0 r1 r2 r3 r4 r5 r6 r7:Int)(k:Nat)(hk:k<8)(w:World):∃r,[r0,r1,r2,r3,r4,r5,r6,r7][k]? =some r∧(Instr.index 103 (.agg #[.int .i64 r0,.int .i64 r1,.int .i64 r2,.int .i64 r3,.int .i64 r4,.int .i64 r5,.int .i64 r6,.int .i64 r7]) (.int .i64 (k:Int))).run prog w= .ok (.int .i64 r) w:=by
 obtain⟨i0,hi0,_⟩:=info_parts afS
 obtain⟨r,hr⟩:∃r,[r0,r1,r2,r3,r4,r5,r6,r7][k]? =some r:=⟨_,Ba hk⟩
 refine⟨r,hr,U4 w underlying103 underlying3 Aw hi0 _ .i64 k _ Y Y ?_⟩
 have e:(#[.int .i64 r0,.int .i64 r1,.int .i64 r2,.int .i64 r3,.int .i64 r4,.int .i64 r5,.int .i64 r6,.int .i64 r7]:Array Value)=([r0,r1,r2,r3,r4,r5,r6,r7].map (Value.int .i64)).toArray:=rfl
 rw[e,BJ,Fe,Cb,hr];rfl
theorem asi(r0 r1 r2 r3 r4 r5 r6 r7:Int)(h:∀r∈[r0,r1,r2,r3,r4,r5,r6,r7],I64 r)(k:Nat)(r:Int)(hr: [r0,r1,r2,r3,r4,r5,r6,r7][k]? =some r):I64 r:=h r (BP hr)
theorem PI(E r0 r1 r2 r3 r4 r5 r6 r7:Int)(w:World)(hE:0≤E∧E≤18446744073709551615)(hR:∀r∈[r0,r1,r2,r3,r4,r5,r6,r7],I64 r):
 Calls prog 249 #[.agg #[.int .u64 E,.int .i64 r0,.int .i64 r1,.int .i64 r2,.int .i64 r3,.int .i64 r4,.int .i64 r5,.int .i64 r6,.int .i64 r7]] w fun e w'=>e= .returned (.bool (St.Ia E [r0,r1,r2,r3,r4,r5,r6,r7]))∧Below w.heap.size w w':=by
 have HR:=Lib.hid hR
 have HA:=Lib.hid (akQ r0 r1 r2 r3 r4 r5 r6 r7)
 clear hR
 go_enter func249,Tryz.ntmps249
 go_wp2_with fail
 go_loop [4,7] (fun _r t=>∃k:Nat,k≤8∧t= .int .i64 k∧St.okR ([r0,r1,r2,r3,r4,r5,r6,r7].take k)) (fun _ t=>8-(intOf t).toNat)
 case atStart=>exact⟨0,Y,rfl,by intro x hx;simp at hx⟩
 case round=>
  obtain⟨k,hk,rfl,hok⟩:=hrel
  have hok:=Lib.hid hok
  by_cases hlt:k<8
  ·obtain⟨r,hr,hidx⟩:=HA.out k hlt (w.alloc (.cells #[.int .u64 E,.int .i64 r0,.int .i64 r1,.int .i64 r2,.int .i64 r3,.int .i64 r4,.int .i64 r5,.int .i64 r6,.int .i64 r7] 214))
   have hb:=asi _ _ _ _ _ _ _ _ HR.out k r hr
   unfold I64 at hb
   have hr:=Lib.hid hr
   by_cases h1:0≤r∧r≤131071
   ·have hs:=Lib.hid (St.abS _ k r hr.out hok.out h1)
    go_wp2_with fail
    go_round
    case rel=>exact⟨k+1,Y,by go_num,hs.out⟩
    case measure=>simp[intOf]<;>omega
   ·have ev:=Lib.hid (St.Jo E _ (fun h=>St.anx _ k r hr.out h1 h.1))
    rcases(show r<0∨(0≤r∧131071<r)from by omega)with g|⟨g1,g2⟩
    all_goals
     clear h1
     go_wp2_with fail
     go_ret
     exact⟨FN ev.out.symm,(Below.refl _ _).alloc (BF _) _⟩
  ·obtain rfl:k=8:=Y
   by_cases h1:0<E
   ·have ev:=Lib.hid (St.F7 E _ hok.out h1)
    go_wp2_with fail
    go_ret
    exact⟨by first|exact FN ev.out.symm|(apply FN;rw[show([r0,r1,r2,r3,r4,r5,r6,r7].take 8)=[r0,r1,r2,r3,r4,r5,r6,r7]from rfl]at ev;rw[ev.out];simp;omega),(Below.refl _ _).alloc (BF _) _⟩
   ·have ev:=Lib.hid (St.Jo E [r0,r1,r2,r3,r4,r5,r6,r7] (fun h=>h1 h.2))
    go_wp2_with fail
    go_ret
    exact⟨by first|exact FN ev.out.symm|(apply FN;rw[ev.out];simp;omega),(Below.refl _ _).alloc (BF _) _⟩
end
end
section
section
open Go.RowKit
theorem arS(b id:Int)(b1:0≤b)(b2:b≤1073741824)(i1:0≤id)(i2:id≤18446744073709551615):Ints .u64 (Su.row b id):=by
 intro x hx
 unfold Su.row at hx
 simp at hx
 apply wf_u64
 rcases hx with rfl|rfl|rfl|rfl|rfl<;>omega
theorem anN:(prog.info? 245).isSome=true:=by kernel_rfl
theorem aaT(b id:Int)(w:World)(b1:0≤b)(b2:b≤1073741824)(i1:0≤id)(i2:id≤18446744073709551615):
 Calls prog 165 #[.agg #[.int .i64 b,.int .u64 id]] w fun e w'=>e= .returned (.agg #[.int .u64 8390047168116913201,.int .u64 1,.int .u64 b,.int .u64 id,.int .u64 0,.int .u64 0,.int .u64 0,.int .u64 (Su.crc b id)])∧Below w.heap.size w w':=by
 have hwf:=Lib.hid (arS b id b1 b2 i1 i2)
 have hcb:=Su.ahb b id
 have hone:∀v∈(#[.int .u64 8390047168116913201,.int .u64 1,.int .u64 b,.int .u64 id,.int .u64 0,.int .u64 0,.int .u64 0,.int .u64 (Su.crc b id)]:Array Value).toList,v.oneCell'=true:=by simp[Value.oneCell']
 have ak2:=Lib.hid hone
 clear hone
 obtain⟨i8,hi8⟩:=I4.1 anN
 have HI8:=Lib.hid hi8
 clear hi8
 have R:=Lib.hid ((Ko.new1 w (.cells #[.int .i64 b,.int .u64 id] 113) #[.int .u64 0,.int .u64 0,.int .u64 0,.int .u64 0,.int .u64 0,.int .u64 0,.int .u64 0,.int .u64 0] 245).alloc (.cells #[.int .u64 8390047168116913201,.int .u64 1,.int .u64 b,.int .u64 id,.int .u64 0,.int .u64 0,.int .u64 0,.int .u64 0] 245))
 have L:=Lib.hid (Ko.new2 w (.cells #[.int .i64 b,.int .u64 id] 113) (.cells #[.int .u64 0,.int .u64 0,.int .u64 0,.int .u64 0,.int .u64 0,.int .u64 0,.int .u64 0,.int .u64 0] 245) #[.int .u64 8390047168116913201,.int .u64 1,.int .u64 b,.int .u64 id,.int .u64 0,.int .u64 0,.int .u64 0,.int .u64 0] 245)
 have hB:Below w.heap.size w (((w.alloc (.cells #[.int .i64 b,.int .u64 id] 113)).alloc (.cells #[.int .u64 0,.int .u64 0,.int .u64 0,.int .u64 0,.int .u64 0,.int .u64 0,.int .u64 0,.int .u64 0] 245)).alloc (.cells #[.int .u64 8390047168116913201,.int .u64 1,.int .u64 b,.int .u64 id,.int .u64 0,.int .u64 0,.int .u64 0,.int .u64 0] 245)):=(((Below.refl _ _).alloc (BF _) _).alloc J _).alloc Am _
 go_enter func165,Tryz.ntmps165
 go_wp2_with fail
 refine(GL _ 7 8 (Su.row b id) _ _ (Gv.Yv L.out 7 J) hwf.out Y (BF _)).mono ?_
 rintro e w3 ⟨rfl,hb3⟩
 rw[show Cr.more 0 (By.bytes (Su.row b id))=Su.crc b id from rfl]
 have L3:=L.out.below hb3 L.out.lt
 have R3:=R.out.below hb3 R.out.lt
 have hB3:=hB.trans (hb3.mono hB.size)
 have hc7:=L3.cell 7 _ rfl
 have hf7:=L3.frozen 7
 have L4:=Lib.hid (L3.set 7 (.int .u64 (Su.crc b id)))
 have R4:=Lib.hid (R3.other ⟨w.heap.size+1+1,7,none⟩ (.int .u64 (Su.crc b id)) J)
 have hB4:=Lib.hid (hB3.setCell (p:=⟨w.heap.size+1+1,7,none⟩) (by first|(simp;done)|(simp;omega)) (.int .u64 (Su.crc b id)))
 go_wp2_with (first
  |(refine wpList_load_row (P:=prog) rfl 245 (.tmp 3) rfl (w.heap.size+1+1) rfl _ #[.int .u64 8390047168116913201,.int .u64 1,.int .u64 b,.int .u64 id,.int .u64 0,.int .u64 0,.int .u64 0,.int .u64 (Su.crc b id)] (0,0) _ L4.out underlying245 rfl Aw ?_)
  |(refine wpList_store_row (P:=prog) rfl 245 (.tmp 2) (.tmp 14) rfl (w.heap.size+1) _ #[.int .u64 8390047168116913201,.int .u64 1,.int .u64 b,.int .u64 id,.int .u64 0,.int .u64 0,.int .u64 0,.int .u64 (Su.crc b id)] _ rfl rfl R4.out rfl HI8.out Aw ak2.out ?_))
 exact bodyPost_ret (v:= .agg #[.int .u64 8390047168116913201,.int .u64 1,.int .u64 b,.int .u64 id,.int .u64 0,.int .u64 0,.int .u64 0,.int .u64 (Su.crc b id)]) (results_cell_row rfl _ _ (w.heap.size+1) _ #[.int .u64 8390047168116913201,.int .u64 1,.int .u64 b,.int .u64 id,.int .u64 0,.int .u64 0,.int .u64 0,.int .u64 (Su.crc b id)] (0,0) _ rfl (setRow_heap _ _ _ _ _ _ R4.out) underlying245 rfl Aw) rfl ⟨rfl,below_setRow hB4.out (by first|omega|(simp;done)|(simp;omega)) _⟩
end
end
section
section
open Go.RowKit
theorem QV(b:Int)(w:World)(b1: -9223372036854775808≤b)(b2:b≤9223372036854775807):
 Calls prog 31 #[.agg #[.int .i64 b]] w fun e w'=>e= .returned (.bool (Su.Ia b))∧Below w.heap.size w w':=by
 rcases(show b<2∨256<b∨(2≤b∧b≤256)from by omega)with h|h|⟨h,h2⟩
 ·have e:=Lib.hid (Su.Jo b (.inl h))
  go_enter func31,Tryz.ntmps31
  go_wp2
  go_ret
  exact⟨by first|exact FN e.out.symm|(apply FN;rw[e.out];simp;done)|(apply FN;rw[e.out];simp;omega),(Below.refl _ _).alloc (BF _) _⟩
 ·have e:=Lib.hid (Su.Jo b (.inr h))
  go_enter func31,Tryz.ntmps31
  go_wp2
  go_ret
  exact⟨by first|exact FN e.out.symm|(apply FN;rw[e.out];simp;done)|(apply FN;rw[e.out];simp;omega),(Below.refl _ _).alloc (BF _) _⟩
 ·have e:=Lib.hid (Su.F7 b h h2)
  go_enter func31,Tryz.ntmps31
  go_wp2
  go_ret
  exact⟨by first|exact FN e.out.symm|(apply FN;rw[e.out];simp;done)|(apply FN;rw[e.out];simp;omega),(Below.refl _ _).alloc (BF _) _⟩
theorem X9(l0 l1 l2 l3 l4 l5 l6:Int)(h0:0≤l0∧l0≤18446744073709551615)(h1:0≤l1∧l1≤18446744073709551615)(h2:0≤l2∧l2≤18446744073709551615)(h3:0≤l3∧l3≤18446744073709551615)(h4:0≤l4∧l4≤18446744073709551615)(h5:0≤l5∧l5≤18446744073709551615)(h6:0≤l6∧l6≤18446744073709551615):Ints .u64 [l0,l1,l2,l3,l4,l5,l6]:=by
 intro x hx
 simp at hx
 apply wf_u64
 rcases hx with rfl|rfl|rfl|rfl|rfl|rfl|rfl<;>assumption
theorem agX(l0 l1 l2 l3 l4 l5 l6 l7:Int)(w:World)(h:l0≠8390047168116913201):
 Calls prog 235 #[.agg #[.int .u64 l0,.int .u64 l1,.int .u64 l2,.int .u64 l3,.int .u64 l4,.int .u64 l5,.int .u64 l6,.int .u64 l7]] w fun e w'=>e= .returned (.tuple #[.agg #[.int .i64 0,.int .u64 0],.int .i64 24])∧Below w.heap.size w w':=by
 have d0:(l0 !=8390047168116913201)=true:=by rw[bne_iff_ne];exact h
 clear h
 go_enter func235,Tryz.ntmps235
 go_wp2_with fail
 exact bodyPost_ret (v:= .tuple #[.agg #[.int .i64 0,.int .u64 0],.int .i64 24]) (by simp[results,go_sem,Tryz.results235]) rfl ⟨rfl,by first|exact((Below.refl _ _).alloc (BF _) _).alloc J _|exact((((Below.refl _ _).alloc (BF _) _).alloc J _).setCell J _).setCell J _⟩
theorem alR(l1 l2 l3 l4 l5 l6 l7:Int)(w:World)(h1:0≤l1∧l1≤18446744073709551615)(h2:0≤l2∧l2≤18446744073709551615)(h3:0≤l3∧l3≤18446744073709551615)(h4:0≤l4∧l4≤18446744073709551615)(h5:0≤l5∧l5≤18446744073709551615)(h6:0≤l6∧l6≤18446744073709551615)(h:l7≠Su.Ej l1 l2 l3 l4 l5 l6):
 Calls prog 235 #[.agg #[.int .u64 8390047168116913201,.int .u64 l1,.int .u64 l2,.int .u64 l3,.int .u64 l4,.int .u64 l5,.int .u64 l6,.int .u64 l7]] w fun e w'=>e= .returned (.tuple #[.agg #[.int .i64 0,.int .u64 0],.int .i64 25])∧Below w.heap.size w w':=by
 have d0:(l7 !=Su.Ej l1 l2 l3 l4 l5 l6)=true:=by rw[bne_iff_ne];exact h
 have hwf:=Lib.hid (X9 8390047168116913201 l1 l2 l3 l4 l5 l6 Y h1 h2 h3 h4 h5 h6)
 have hsb:=Su.NT l1 l2 l3 l4 l5 l6
 have hsw:IntKind.u64.wrap (Su.Ej l1 l2 l3 l4 l5 l6)=Su.Ej l1 l2 l3 l4 l5 l6:=by rw[IntKind.wrap_u64];omega
 clear h
 have X:=Lib.hid ((Ko.new w #[.int .u64 8390047168116913201,.int .u64 l1,.int .u64 l2,.int .u64 l3,.int .u64 l4,.int .u64 l5,.int .u64 l6,.int .u64 l7] 245).alloc (.cells #[.int .i64 0,.int .u64 0] 113))
 have R:=Lib.hid (Ko.new1 w (.cells #[.int .u64 8390047168116913201,.int .u64 l1,.int .u64 l2,.int .u64 l3,.int .u64 l4,.int .u64 l5,.int .u64 l6,.int .u64 l7] 245) #[.int .i64 0,.int .u64 0] 113)
 have hB:Below w.heap.size w ((w.alloc (.cells #[.int .u64 8390047168116913201,.int .u64 l1,.int .u64 l2,.int .u64 l3,.int .u64 l4,.int .u64 l5,.int .u64 l6,.int .u64 l7] 245)).alloc (.cells #[.int .i64 0,.int .u64 0] 113)):=((Below.refl _ _).alloc (BF _) _).alloc J _
 generalize hZ:((w.alloc (.cells #[.int .u64 8390047168116913201,.int .u64 l1,.int .u64 l2,.int .u64 l3,.int .u64 l4,.int .u64 l5,.int .u64 l6,.int .u64 l7] 245)).alloc (.cells #[.int .i64 0,.int .u64 0] 113))=Z at*
 have x0:=X.out.cell 0 _ rfl
 have x7:=X.out.cell 7 _ rfl
 go_enter func235,Tryz.ntmps235
 go_wp2_with fail
 go_region_held3 (fun W=>W.cell? ⟨w.heap.size,7,none⟩=some (.int .u64 l7)∧Below Z.heap.size Z W)
  (first|assumption|exact⟨x7,(Below.refl _ _).drew⟩)
  (first
   |(go_at_call 44;refine(GL _ 7 8 [8390047168116913201,l1,l2,l3,l4,l5,l6] _ _ ((Gv.Yv X.out 7 J).below (by assumption:_∧Below _ _ _).2) hwf.out Y (by assumption:_∧Below _ _ _).2.size).mono ?_;rintro e w5 ⟨rfl,hb5⟩;rw[show Cr.more 0 (By.bytes [8390047168116913201,l1,l2,l3,l4,l5,l6])=Su.Ej l1 l2 l3 l4 l5 l6 from rfl];have hS:=(by assumption:_∧Below _ _ _);have hS':=And.intro ((hb5.cell (cell_lt hS.1)).trans hS.1) (hS.2.trans (hb5.mono hS.2.size))))
 have hS':=(by assumption:_∧Below _ _ _)
 have R5:=R.out.below hS'.2 R.out.lt
 have r0:=R5.cell 0 _ rfl
 have r1:=R5.cell 1 _ rfl
 have f0:=R5.frozen 0
 have f1:=R5.frozen 1
 have hB5:=hB.trans (hS'.2.mono hB.size)
 go_wp2_with fail
 exact bodyPost_ret (v:= .tuple #[.agg #[.int .i64 0,.int .u64 0],.int .i64 25]) Ad rfl ⟨rfl,(hB5.setCell J _).setCell J _⟩
end
end
end Go.Proofs.YtppilhpcmkekbaaGreat
