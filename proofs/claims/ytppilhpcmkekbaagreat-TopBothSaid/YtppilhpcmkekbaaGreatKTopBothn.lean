/- Parts of the proof. -/
import Derived.Deep.Cut
import Derived.Test.YtppilhpcmkekbaaGreatKTopBothm
set_option linter.unusedSimpArgs false
set_option linter.unusedVariables false
set_option linter.unusedSectionVars false
set_option maxRecDepth 100000
set_option maxHeartbeats 16000000
namespace Go.Proofs.YtppilhpcmkekbaaGreat
open Go.Proofs.Tryz
section
section
open Go.RowKit
theorem anW(l0 l1 l2 l3 l4 l5 l6 l7 l8 l9 l10 G9 l12 I9 I8 l15:Int)(k:Nat)(hk:k<8):∃x,[l0,l1,l2,l3,l4,l5,l6,l7,l8,l9,l10,G9,l12,I9,I8,l15][k/4*8+1+k%4]? =some x∧[(St.cap l1),(St.cap l2),(St.cap l3),(St.cap l4),(St.cap l9),(St.cap l10),(St.cap G9),(St.cap l12)][k]? =some (St.cap x):=by
 rcases(show k=0∨k=1∨k=2∨k=3∨k=4∨k=5∨k=6∨k=7 from by omega)with rfl|rfl|rfl|rfl|rfl|rfl|rfl|rfl<;>exact⟨_,rfl,rfl⟩
theorem anp{l0 l1 l2 l3 l4 l5 l6 l7 l8 l9 l10 G9 l12 I9 I8 l15:Int}(hl0:FT l0)(hl1:FT l1)(hl2:FT l2)(hl3:FT l3)(hl4:FT l4)(hl5:FT l5)(hl6:FT l6)(hl7:FT l7)(hl8:FT l8)(hl9:FT l9)(Vk:FT l10)(UW:FT G9)(hl12:FT l12)(YK:FT I9)(YZ:FT I8)(aiW:FT l15):∀x∈[l0,l1,l2,l3,l4,l5,l6,l7,l8,l9,l10,G9,l12,I9,I8,l15],FT x:=by
 intro x hx
 simp only[Dh,Gx,or_false]at hx
 rcases hx with rfl|rfl|rfl|rfl|rfl|rfl|rfl|rfl|rfl|rfl|rfl|rfl|rfl|rfl|rfl|rfl
 ·exact hl0
 ·exact hl1
 ·exact hl2
 ·exact hl3
 ·exact hl4
 ·exact hl5
 ·exact hl6
 ·exact hl7
 ·exact hl8
 ·exact hl9
 ·exact Vk
 ·exact UW
 ·exact hl12
 ·exact YK
 ·exact YZ
 ·exact aiW
def okD(l0 l1 l2 l3 l4 l5 l6 l8 l9 l10 G9 l12 I9 I8:Int):Prop:=St.Ia l0 [l1,l2,l3,l4,l9,l10,G9,l12]=true∧l5=0∧l6=0∧l8=l0∧I9=1∧I8=0
def au3(l0 l1 l2 l3 l4 l5 l6 l8 l9 l10 G9 l12 I9 I8:Int)(V:Value)(C:Int):Prop:=(okD l0 l1 l2 l3 l4 l5 l6 l8 l9 l10 G9 l12 I9 I8∧V= .agg #[.int .u64 l0,.int .i64 l1,.int .i64 l2,.int .i64 l3,.int .i64 l4,.int .i64 l9,.int .i64 l10,.int .i64 G9,.int .i64 l12]∧C=0)∨(¬okD l0 l1 l2 l3 l4 l5 l6 l8 l9 l10 G9 l12 I9 I8∧V= .agg #[.int .u64 0,.int .i64 0,.int .i64 0,.int .i64 0,.int .i64 0,.int .i64 0,.int .i64 0,.int .i64 0,.int .i64 0]∧C=26)
theorem acv(xs ys:List Int)(hx:xs.length=16)(hy:ys.length=16)(W:World):(Op.equalIn 10000 217 (.agg (xs.map (Value.int .u64)).toArray) (.agg (ys.map (Value.int .u64)).toArray)).run prog W= .ok (eqB xs ys) W:=by
 obtain⟨i0,hi0,_⟩:=info_parts afm
 exact TA W 9998 underlying217 underlying26 hi0 Aw xs ys hx hy
theorem s25{Z W:World}{x y:Nat}{T T':TypeId}{c0 c1 c2 c3 c4 c5 c6 c7 c8 d0 d1 d2 d3 d4 d5 d6 d7 d8 d9 d10 d11 d12 d13 d14 d15:Value}(X:Ko Z x #[c0,c1,c2,c3,c4,c5,c6,c7,c8] T)(AA:Ko Z y #[d0,d1,d2,d3,d4,d5,d6,d7,d8,d9,d10,d11,d12,d13,d14,d15] T')(h:Below Z.heap.size Z W):
 W.cell? ⟨x,0,none⟩=some c0∧W.cell? ⟨x,1,none⟩=some c1∧W.cell? ⟨x,2,none⟩=some c2∧W.cell? ⟨x,3,none⟩=some c3∧W.cell? ⟨x,4,none⟩=some c4∧W.cell? ⟨x,5,none⟩=some c5∧W.cell? ⟨x,6,none⟩=some c6∧W.cell? ⟨x,7,none⟩=some c7∧W.cell? ⟨x,8,none⟩=some c8∧W.cell? ⟨y,0,none⟩=some d0∧W.cell? ⟨y,1,none⟩=some d1∧W.cell? ⟨y,2,none⟩=some d2∧W.cell? ⟨y,3,none⟩=some d3∧W.cell? ⟨y,4,none⟩=some d4∧W.cell? ⟨y,5,none⟩=some d5∧W.cell? ⟨y,6,none⟩=some d6∧W.cell? ⟨y,7,none⟩=some d7∧W.cell? ⟨y,8,none⟩=some d8∧W.cell? ⟨y,9,none⟩=some d9∧W.cell? ⟨y,10,none⟩=some d10∧W.cell? ⟨y,11,none⟩=some d11∧W.cell? ⟨y,12,none⟩=some d12∧W.cell? ⟨y,13,none⟩=some d13∧W.cell? ⟨y,14,none⟩=some d14∧W.cell? ⟨y,15,none⟩=some d15∧Below Z.heap.size Z W:=by
 have X':=X.below h X.lt
 have Y':=AA.below h AA.lt
 exact⟨X'.cell 0 _ rfl,X'.cell 1 _ rfl,X'.cell 2 _ rfl,X'.cell 3 _ rfl,X'.cell 4 _ rfl,X'.cell 5 _ rfl,X'.cell 6 _ rfl,X'.cell 7 _ rfl,X'.cell 8 _ rfl,Y'.cell 0 _ rfl,Y'.cell 1 _ rfl,Y'.cell 2 _ rfl,Y'.cell 3 _ rfl,Y'.cell 4 _ rfl,Y'.cell 5 _ rfl,Y'.cell 6 _ rfl,Y'.cell 7 _ rfl,Y'.cell 8 _ rfl,Y'.cell 9 _ rfl,Y'.cell 10 _ rfl,Y'.cell 11 _ rfl,Y'.cell 12 _ rfl,Y'.cell 13 _ rfl,Y'.cell 14 _ rfl,Y'.cell 15 _ rfl,h⟩
theorem aoB(a b c d e f g h:Int)(H:∀r∈[a,b,c,d,e,f,g,h],0≤r)(E:Int)(hr:St.Ia E [St.cap a,St.cap b,St.cap c,St.cap d,St.cap e,St.cap f,St.cap g,St.cap h]=true):∀r∈[a,b,c,d,e,f,g,h],St.cap r=r∧r≤131071:=by
 unfold St.Ia at hr
 simp only[decide_eq_true_eq]at hr
 intro r hm
 have h1:0≤St.cap r∧St.cap r≤131071:=hr.1 _ (NI (f:=St.cap) hm)
 unfold St.cap at*
 split at h1<;>omega
theorem aaB(l0 l1 l2 l3 l4 l5 l6 l8 l9 l10 G9 l12 I9 I8:Int)(w:World)(hl0:FT l0)(hl1:FT l1)(hl2:FT l2)(hl3:FT l3)(hl4:FT l4)(hl5:FT l5)(hl6:FT l6)(hl8:FT l8)(hl9:FT l9)(Vk:FT l10)(UW:FT G9)(hl12:FT l12)(YK:FT I9)(YZ:FT I8)(V:Value)(C:Int)(hV:au3 l0 l1 l2 l3 l4 l5 l6 l8 l9 l10 G9 l12 I9 I8 V C):
 Calls prog 201 #[.agg #[.int .u64 l0,.int .u64 l1,.int .u64 l2,.int .u64 l3,.int .u64 l4,.int .u64 l5,.int .u64 l6,.int .u64 (St.Ej l0 l1 l2 l3 l4 l5 l6),.int .u64 l8,.int .u64 l9,.int .u64 l10,.int .u64 G9,.int .u64 l12,.int .u64 I9,.int .u64 I8,.int .u64 (St.Ej l8 l9 l10 G9 l12 I9 I8)]] w fun e w'=>e= .returned (.tuple #[V,.int .i64 C])∧Below w.heap.size w w':=by
 replace hV:=Lib.hid hV
 have W0:=Lib.hid (VA l0 l1 l2 l3 l4 l5 l6 hl0 hl1 hl2 hl3 hl4 hl5 hl6)
 have W1:=Lib.hid (VA l8 l9 l10 G9 l12 I9 I8 hl8 hl9 Vk UW hl12 YK YZ)
 have b0:=St.NT l0 l1 l2 l3 l4 l5 l6
 have b1:=St.NT l8 l9 l10 G9 l12 I9 I8
 have q0:IntKind.u64.wrap (St.Ej l0 l1 l2 l3 l4 l5 l6)=St.Ej l0 l1 l2 l3 l4 l5 l6:=by rw[IntKind.wrap_u64];omega
 have q1:IntKind.u64.wrap (St.Ej l8 l9 l10 G9 l12 I9 I8)=St.Ej l8 l9 l10 G9 l12 I9 I8:=by rw[IntKind.wrap_u64];omega
 have X:=Lib.hid ((Ko.new w #[.int .u64 l0,.int .u64 l1,.int .u64 l2,.int .u64 l3,.int .u64 l4,.int .u64 l5,.int .u64 l6,.int .u64 (St.Ej l0 l1 l2 l3 l4 l5 l6),.int .u64 l8,.int .u64 l9,.int .u64 l10,.int .u64 G9,.int .u64 l12,.int .u64 I9,.int .u64 I8,.int .u64 (St.Ej l8 l9 l10 G9 l12 I9 I8)] 217).alloc (.cells #[.int .u64 0,.int .i64 0,.int .i64 0,.int .i64 0,.int .i64 0,.int .i64 0,.int .i64 0,.int .i64 0,.int .i64 0] 214))
 have R:=Lib.hid (Ko.new1 w (.cells #[.int .u64 l0,.int .u64 l1,.int .u64 l2,.int .u64 l3,.int .u64 l4,.int .u64 l5,.int .u64 l6,.int .u64 (St.Ej l0 l1 l2 l3 l4 l5 l6),.int .u64 l8,.int .u64 l9,.int .u64 l10,.int .u64 G9,.int .u64 l12,.int .u64 I9,.int .u64 I8,.int .u64 (St.Ej l8 l9 l10 G9 l12 I9 I8)] 217) #[.int .u64 0,.int .i64 0,.int .i64 0,.int .i64 0,.int .i64 0,.int .i64 0,.int .i64 0,.int .i64 0,.int .i64 0] 214)
 have hB:Below w.heap.size w ((w.alloc (.cells #[.int .u64 l0,.int .u64 l1,.int .u64 l2,.int .u64 l3,.int .u64 l4,.int .u64 l5,.int .u64 l6,.int .u64 (St.Ej l0 l1 l2 l3 l4 l5 l6),.int .u64 l8,.int .u64 l9,.int .u64 l10,.int .u64 G9,.int .u64 l12,.int .u64 I9,.int .u64 I8,.int .u64 (St.Ej l8 l9 l10 G9 l12 I9 I8)] 217)).alloc (.cells #[.int .u64 0,.int .i64 0,.int .i64 0,.int .i64 0,.int .i64 0,.int .i64 0,.int .i64 0,.int .i64 0,.int .i64 0] 214)):=((Below.refl _ _).alloc (BF _) _).alloc J _
 generalize hZ:((w.alloc (.cells #[.int .u64 l0,.int .u64 l1,.int .u64 l2,.int .u64 l3,.int .u64 l4,.int .u64 l5,.int .u64 l6,.int .u64 (St.Ej l0 l1 l2 l3 l4 l5 l6),.int .u64 l8,.int .u64 l9,.int .u64 l10,.int .u64 G9,.int .u64 l12,.int .u64 I9,.int .u64 I8,.int .u64 (St.Ej l8 l9 l10 G9 l12 I9 I8)] 217)).alloc (.cells #[.int .u64 0,.int .i64 0,.int .i64 0,.int .i64 0,.int .i64 0,.int .i64 0,.int .i64 0,.int .i64 0,.int .i64 0] 214))=Z at*
 have x7:=X.out.cell 7 _ rfl
 go_enter func201,Tryz.ntmps201
 go_wp2_with fail
 refine wp_loop_rounds 3 (vS ?_)
 go_wp2_with fail
 go_region_held3 (fun W=>W.cell? ⟨w.heap.size,7,none⟩=some (.int .u64 (St.Ej l0 l1 l2 l3 l4 l5 l6))∧Below Z.heap.size Z W)
  (first|assumption|exact⟨x7,(Below.refl _ _).drew⟩)
  (first
   |(go_at_call 44;refine(GL _ 7 _ [l0,l1,l2,l3,l4,l5,l6] _ _ ((Gv.OM X.out 0 7 J).below (by assumption:_∧Below _ _ _).2) W0.out Y (by assumption:_∧Below _ _ _).2.size).mono ?_;rintro e w5 ⟨rfl,hb5⟩;rw[show Cr.more 0 (By.bytes [l0,l1,l2,l3,l4,l5,l6])=St.Ej l0 l1 l2 l3 l4 l5 l6 from rfl];have hS:=(by assumption:_∧Below _ _ _);have hS':=And.intro ((hb5.cell (cell_lt hS.1)).trans hS.1) (hS.2.trans (hb5.mono hS.2.size))))
 have aa':=(by assumption:_∧Below Z.heap.size Z _)
 have Xw5:=X.out.below aa'.2 X.out.lt
 have ZR:=R.out.below aa'.2 R.out.lt
 have Bw5:=hB.trans (aa'.2.mono hB.size)
 have x15:=Xw5.cell 15 _ rfl
 go_wp2_with fail
 refine vS ?_
 go_wp2_with fail
 go_region_held3 (fun W=>W.cell? ⟨w.heap.size,15,none⟩=some (.int .u64 (St.Ej l8 l9 l10 G9 l12 I9 I8))∧Below w5.heap.size w5 W)
  (first|assumption|exact⟨x15,(Below.refl _ _).drew⟩)
  (first
   |(go_at_call 44;refine(GL _ 7 _ [l8,l9,l10,G9,l12,I9,I8] _ _ ((Gv.OM Xw5 8 7 J).below (by assumption:_∧Below _ _ _).2) W1.out Y (by assumption:_∧Below _ _ _).2.size).mono ?_;rintro e w6 ⟨rfl,hb5⟩;rw[show Cr.more 0 (By.bytes [l8,l9,l10,G9,l12,I9,I8])=St.Ej l8 l9 l10 G9 l12 I9 I8 from rfl];have hS:=(by assumption:_∧Below _ _ _);have hS':=And.intro ((hb5.cell (cell_lt hS.1)).trans hS.1) (hS.2.trans (hb5.mono hS.2.size))))
 have agO:=(by assumption:_∧Below w5.heap.size w5 _)
 have Xw6:=Xw5.below agO.2 Xw5.lt
 have Rw6:=ZR.below agO.2 ZR.lt
 have Bw6:=Bw5.trans (agO.2.mono Bw5.size)
 have x0:=Xw6.cell 0 _ rfl
 go_wp2_with fail
 refine vS ?_
 go_wp2_with fail
 have S6:=Ko.new w6 #[.int .u64 l0,.int .i64 0,.int .i64 0,.int .i64 0,.int .i64 0,.int .i64 0,.int .i64 0,.int .i64 0,.int .i64 0] 214
 have X6:=Xw6.alloc (.cells #[.int .u64 l0,.int .i64 0,.int .i64 0,.int .i64 0,.int .i64 0,.int .i64 0,.int .i64 0,.int .i64 0,.int .i64 0] 214)
 have R6:=Rw6.alloc (.cells #[.int .u64 l0,.int .i64 0,.int .i64 0,.int .i64 0,.int .i64 0,.int .i64 0,.int .i64 0,.int .i64 0,.int .i64 0] 214)
 have B6:=Bw6.alloc Bw6.size (.cells #[.int .u64 l0,.int .i64 0,.int .i64 0,.int .i64 0,.int .i64 0,.int .i64 0,.int .i64 0,.int .i64 0,.int .i64 0] 214)
 have hz6:w.heap.size+1<w6.heap.size:=Rw6.lt
 have S6':Ko (w6.alloc (.cells #[.int .u64 l0,.int .i64 0,.int .i64 0,.int .i64 0,.int .i64 0,.int .i64 0,.int .i64 0,.int .i64 0,.int .i64 0] 214)) w6.heap.size (Value.int .u64 l0::(([(St.cap l1),(St.cap l2),(St.cap l3),(St.cap l4),(St.cap l9),(St.cap l10),(St.cap G9),(St.cap l12)].take 0)++List.replicate (8-0) 0).map (Value.int .i64)).toArray 214:=S6
 have HCAP:=Lib.hid (anW (l0) (l1) (l2) (l3) (l4) (l5) (l6) ((St.Ej l0 l1 l2 l3 l4 l5 l6)) (l8) (l9) (l10) (G9) (l12) (I9) (I8) ((St.Ej l8 l9 l10 G9 l12 I9 I8)))
 have HU:=anp hl0 hl1 hl2 hl3 hl4 hl5 hl6 (⟨Y,Y⟩:FT (St.Ej l0 l1 l2 l3 l4 l5 l6)) hl8 hl9 Vk UW hl12 YK YZ (⟨Y,Y⟩:FT (St.Ej l8 l9 l10 G9 l12 I9 I8))
 replace HU:=Lib.hid HU
 clear x0 S6
 go_loopw [7,30] (fun _i t wr=>∃k:Nat,k≤8∧t= .int .i64 k∧Ko wr w6.heap.size (Value.int .u64 l0::(([(St.cap l1),(St.cap l2),(St.cap l3),(St.cap l4),(St.cap l9),(St.cap l10),(St.cap G9),(St.cap l12)].take k)++List.replicate (8-k) 0).map (Value.int .i64)).toArray 214∧Ko wr w.heap.size #[.int .u64 l0,.int .u64 l1,.int .u64 l2,.int .u64 l3,.int .u64 l4,.int .u64 l5,.int .u64 l6,.int .u64 (St.Ej l0 l1 l2 l3 l4 l5 l6),.int .u64 l8,.int .u64 l9,.int .u64 l10,.int .u64 G9,.int .u64 l12,.int .u64 I9,.int .u64 I8,.int .u64 (St.Ej l8 l9 l10 G9 l12 I9 I8)] 217∧Ko wr (w.heap.size+1) #[.int .u64 0,.int .i64 0,.int .i64 0,.int .i64 0,.int .i64 0,.int .i64 0,.int .i64 0,.int .i64 0,.int .i64 0] 214∧Below w.heap.size w wr) (fun _ t _=>8-(intOf t).toNat)
 case atStart=>exact⟨0,Y,rfl,S6',X6,R6,B6⟩
 case round=>
  clear S6' X6 R6 B6
  obtain⟨k,hk,rfl,Sk,Xk,Rk,Bk⟩:=hrel
  by_cases hlt:k<8
  ·obtain⟨x,hx,hcx⟩:=HCAP.out k hlt
   have hux:=HU.out x (BP hx)
   unfold FT at hux
   have hxc:=Xk.cell (k/4*8+1+k%4) (.int .u64 x) (by rw[show(#[.int .u64 l0,.int .u64 l1,.int .u64 l2,.int .u64 l3,.int .u64 l4,.int .u64 l5,.int .u64 l6,.int .u64 (St.Ej l0 l1 l2 l3 l4 l5 l6),.int .u64 l8,.int .u64 l9,.int .u64 l10,.int .u64 G9,.int .u64 l12,.int .u64 I9,.int .u64 I8,.int .u64 (St.Ej l8 l9 l10 G9 l12 I9 I8)]:Array Value)=([l0,l1,l2,l3,l4,l5,l6,(St.Ej l0 l1 l2 l3 l4 l5 l6),l8,l9,l10,G9,l12,I9,I8,(St.Ej l8 l9 l10 G9 l12 I9 I8)].map (Value.int .u64)).toArray from rfl,Fe,Cb,hx];rfl)
   clear hx
   have hlen:([(St.cap l1),(St.cap l2),(St.cap l3),(St.cap l4),(St.cap l9),(St.cap l10),(St.cap G9),(St.cap l12)].take k).length=k:=by rw[Ed];show min k 8=k;omega
   have hset:=Sk.set (1+k) (.int .i64 (St.cap x))
   rw[Bc,show 1+k=k+1 from by omega,Bd,←G7,Xp.alf _ 0 (St.cap x) 8 k hlen hlt,←Um hcx]at hset
   have N1:=Lib.hid hset
   have hsc:=Sk.cell (1+k) (.int .i64 0) (by rw[show 1+k=k+1 from by omega,Fe,E5,Cb,Xp.akz _ _ 8 k hlen hlt];rfl)
   have hsf:=Sk.frozen (1+k)
   have N2:=Lib.hid (Xk.other ⟨w6.heap.size,1+k,none⟩ (.int .i64 (St.cap x)) Am)
   have N3:=Lib.hid (Rk.other ⟨w6.heap.size,1+k,none⟩ (.int .i64 (St.cap x)) Am)
   have N4:=Lib.hid (Bk.setCell (p:=⟨w6.heap.size,1+k,none⟩) Am (.int .i64 (St.cap x)))
   have HC:=Lib.hid (show(if 1099511627776<x then 1099511627776 else x)=St.cap x by unfold St.cap;split<;>split<;>omega)
   clear hset hlen hcx
   go_wp2_with fail
   go_roundw
   case rel=>exact⟨k+1,Y,by go_num,by rw[HC.out];rw[XK 1 k];exact N1.out,by rw[HC.out];exact N2.out,by rw[HC.out];exact N3.out,by rw[HC.out];exact N4.out⟩
   case measure=>simp[intOf]<;>omega
  ·obtain rfl:k=8:=Y
   have S8:Ko wr w6.heap.size #[.int .u64 l0,.int .i64 (St.cap l1),.int .i64 (St.cap l2),.int .i64 (St.cap l3),.int .i64 (St.cap l4),.int .i64 (St.cap l9),.int .i64 (St.cap l10),.int .i64 (St.cap G9),.int .i64 (St.cap l12)] 214:=Sk
   clear Sk
   have ads:∀r∈[(St.cap l1),(St.cap l2),(St.cap l3),(St.cap l4),(St.cap l9),(St.cap l10),(St.cap G9),(St.cap l12)],I64 r:=by
    intro r hr
    simp only[Dh,Gx,or_false]at hr
    have hcb:∀x:Int,0≤x→I64 (St.cap x):=fun x hx=>by unfold I64 St.cap;split<;>omega
    rcases hr with rfl|rfl|rfl|rfl|rfl|rfl|rfl|rfl
    ·exact hcb _ hl1.1
    ·exact hcb _ hl2.1
    ·exact hcb _ hl3.1
    ·exact hcb _ hl4.1
    ·exact hcb _ hl9.1
    ·exact hcb _ Vk.1
    ·exact hcb _ UW.1
    ·exact hcb _ hl12.1
   replace ads:=Lib.hid ads
   cases hrb:St.Ia l0 [(St.cap l1),(St.cap l2),(St.cap l3),(St.cap l4),(St.cap l9),(St.cap l10),(St.cap G9),(St.cap l12)]with
   |false=>
    have hno:¬okD l0 l1 l2 l3 l4 l5 l6 l8 l9 l10 G9 l12 I9 I8:=by
     rintro⟨h,_⟩
     have e: [(St.cap l1),(St.cap l2),(St.cap l3),(St.cap l4),(St.cap l9),(St.cap l10),(St.cap G9),(St.cap l12)]=[l1,l2,l3,l4,l9,l10,G9,l12]:=by
      have q:∀r∈[l1,l2,l3,l4,l9,l10,G9,l12],St.cap r=r:=by
       unfold St.Ia at h
       simp only[decide_eq_true_eq]at h
       intro r hr
       have:=h.1 r hr
       exact St.aqx r Y
      simp only[Dh,Gx,or_false,forall_eq_or_imp,forall_eq]at q
      rw[q.1,q.2.1,q.2.2.1,q.2.2.2.1,q.2.2.2.2.1,q.2.2.2.2.2.1,q.2.2.2.2.2.2.1,q.2.2.2.2.2.2.2]
     rw[e]at hrb
     rw[h]at hrb
     cases hrb
    rcases hV.out with⟨h,_,_⟩|⟨_,rfl,rfl⟩
    ·exact absurd h hno
    clear hno hV
    have abV:=s25 S8 Xk (Below.refl _ _).drew
    go_wp2_with fail
    refine wp_region_held_drew (S:=fun W=>W.cell? ⟨w6.heap.size,0,none⟩=some (.int .u64 l0)∧W.cell? ⟨w6.heap.size,1,none⟩=some (.int .i64 (St.cap l1))∧W.cell? ⟨w6.heap.size,2,none⟩=some (.int .i64 (St.cap l2))∧W.cell? ⟨w6.heap.size,3,none⟩=some (.int .i64 (St.cap l3))∧W.cell? ⟨w6.heap.size,4,none⟩=some (.int .i64 (St.cap l4))∧W.cell? ⟨w6.heap.size,5,none⟩=some (.int .i64 (St.cap l9))∧W.cell? ⟨w6.heap.size,6,none⟩=some (.int .i64 (St.cap l10))∧W.cell? ⟨w6.heap.size,7,none⟩=some (.int .i64 (St.cap G9))∧W.cell? ⟨w6.heap.size,8,none⟩=some (.int .i64 (St.cap l12))∧W.cell? ⟨w.heap.size,0,none⟩=some (.int .u64 l0)∧W.cell? ⟨w.heap.size,1,none⟩=some (.int .u64 l1)∧W.cell? ⟨w.heap.size,2,none⟩=some (.int .u64 l2)∧W.cell? ⟨w.heap.size,3,none⟩=some (.int .u64 l3)∧W.cell? ⟨w.heap.size,4,none⟩=some (.int .u64 l4)∧W.cell? ⟨w.heap.size,5,none⟩=some (.int .u64 l5)∧W.cell? ⟨w.heap.size,6,none⟩=some (.int .u64 l6)∧W.cell? ⟨w.heap.size,7,none⟩=some (.int .u64 (St.Ej l0 l1 l2 l3 l4 l5 l6))∧W.cell? ⟨w.heap.size,8,none⟩=some (.int .u64 l8)∧W.cell? ⟨w.heap.size,9,none⟩=some (.int .u64 l9)∧W.cell? ⟨w.heap.size,10,none⟩=some (.int .u64 l10)∧W.cell? ⟨w.heap.size,11,none⟩=some (.int .u64 G9)∧W.cell? ⟨w.heap.size,12,none⟩=some (.int .u64 l12)∧W.cell? ⟨w.heap.size,13,none⟩=some (.int .u64 I9)∧W.cell? ⟨w.heap.size,14,none⟩=some (.int .u64 I8)∧W.cell? ⟨w.heap.size,15,none⟩=some (.int .u64 (St.Ej l8 l9 l10 G9 l12 I9 I8))∧Below wr.heap.size wr W) Aw ?_ (fun hHeld=>?_)
    ·(try dsimp only)
     (first|assumption|exact abV)
    refine dF ?_
    refine ah ?_
    refine wpAnyH_ready (rs:=[1]) Aw J (AllReadyH.cons O (fun K hK=>?_) AllReadyH.nil)
    (try go_simp)
    have hS:=(by assumption:_∧_∧_∧_∧_∧_∧_∧_∧_∧_∧_∧_∧_∧_∧_∧_∧_∧_∧_∧_∧_∧_∧_∧_∧_∧Below _ _ _).2.2.2.2.2.2.2.2.2.2.2.2.2.2.2.2.2.2.2.2.2.2.2.2.2
    refine(PI _ _ _ _ _ _ _ _ _ _ hl0 ads.out).mono ?_
    rintro e w7 ⟨rfl,hb7⟩
    have RZ:=hS.trans (hb7.mono hS.size)
    have hS':=s25 S8 Xk RZ
    clear hb7 hS
    refine hK.out _ _ ?_ (fun hHeld=>?_)
    ·(try dsimp only)
     (first|assumption|exact abV)
    clear hK K
    refine bY ?_
    first|(refine wpAnyH_take (i:=4) rfl Aw Aw Aw (fun _ _ _ h=>h) (Or.inr ⟨by rfl,rfl⟩) Ar ?_)|(refine wpAnyH_take (i:=4) (v:=?_) rfl Aw Aw Aw (fun _ _ _ h=>h) (Or.inl ⟨by rfl,?_⟩) Ar ?_;rotate_left;(focus (intro w hSw;(try dsimp only at hSw);go_simp;first|done|with_reducible rfl)))|fail
    refine ah ?_
    first|(refine wpAnyH_take (i:=5) rfl Aw Aw Aw (fun _ _ _ h=>h) (Or.inr ⟨by rfl,rfl⟩) Ar ?_)|(refine wpAnyH_take (i:=5) (v:=?_) rfl Aw Aw Aw (fun _ _ _ h=>h) (Or.inl ⟨by rfl,?_⟩) Ar ?_;rotate_left;(focus (intro w hSw;(try dsimp only at hSw);go_simp;first|done|with_reducible rfl)))|fail
    refine ah ?_
    first|(refine wpAnyH_take (i:=6) rfl Aw Aw Aw (fun _ _ _ h=>h) (Or.inr ⟨by rfl,rfl⟩) Ar ?_)|(refine wpAnyH_take (i:=6) (v:=?_) rfl Aw Aw Aw (fun _ _ _ h=>h) (Or.inl ⟨by rfl,?_⟩) Ar ?_;rotate_left;(focus (intro w hSw;(try dsimp only at hSw);go_simp;first|done|with_reducible rfl)))|fail
    refine ah ?_
    first|(refine wpAnyH_take (i:=7) rfl Aw Aw Aw (fun _ _ _ h=>h) (Or.inr ⟨by rfl,rfl⟩) Ar ?_)|(refine wpAnyH_take (i:=7) (v:=?_) rfl Aw Aw Aw (fun _ _ _ h=>h) (Or.inl ⟨by rfl,?_⟩) Ar ?_;rotate_left;(focus (intro w hSw;(try dsimp only at hSw);go_simp;first|done|with_reducible rfl)))|fail
    refine ah ?_
    refine aJ ?_
    refine ah ?_
    refine wpAnyH_done Aw ?_ _
    have Yu:=(by assumption:_∧_∧_∧_∧_∧_∧_∧_∧_∧_∧_∧_∧_∧_∧_∧_∧_∧_∧_∧_∧_∧_∧_∧_∧_∧Below _ _ _).2.2.2.2.2.2.2.2.2.2.2.2.2.2.2.2.2.2.2.2.2.2.2.2.2
    have RE:=Rk.below Yu Rk.lt
    have SE:=S8.below Yu S8.lt
    have BE:=Bk.trans (Yu.mono Bk.size)
    have r0:=RE.cell 0 _ rfl
    have r1:=RE.cell 1 _ rfl
    have r2:=RE.cell 2 _ rfl
    have r3:=RE.cell 3 _ rfl
    have r4:=RE.cell 4 _ rfl
    have r5:=RE.cell 5 _ rfl
    have r6:=RE.cell 6 _ rfl
    have r7:=RE.cell 7 _ rfl
    have r8:=RE.cell 8 _ rfl
    have f0:=RE.frozen 0
    have f1:=RE.frozen 1
    have f2:=RE.frozen 2
    have f3:=RE.frozen 3
    have f4:=RE.frozen 4
    have f5:=RE.frozen 5
    have f6:=RE.frozen 6
    have f7:=RE.frozen 7
    have f8:=RE.frozen 8
    go_wp2_with fail
    exact bodyPost_ret (v:= .tuple #[.agg #[.int .u64 0,.int .i64 0,.int .i64 0,.int .i64 0,.int .i64 0,.int .i64 0,.int .i64 0,.int .i64 0,.int .i64 0],.int .i64 26]) Ag rfl ⟨rfl,(((((((((BE).setCell J _).setCell J _).setCell J _).setCell J _).setCell J _).setCell J _).setCell J _).setCell J _).setCell J _⟩
   |true=>
    have hq:=aoB l1 l2 l3 l4 l9 l10 G9 l12 (by
     intro r hr
     simp only[Dh,Gx,or_false]at hr
     rcases hr with rfl|rfl|rfl|rfl|rfl|rfl|rfl|rfl
     ·exact hl1.1
     ·exact hl2.1
     ·exact hl3.1
     ·exact hl4.1
     ·exact hl9.1
     ·exact Vk.1
     ·exact UW.1
     ·exact hl12.1) l0 hrb
    simp only[Dh,Gx,or_false,forall_eq_or_imp,forall_eq]at hq
    obtain⟨⟨e0,g0⟩,⟨e1,g1⟩,⟨e2,g2⟩,⟨e3,g3⟩,⟨e4,g4⟩,⟨e5,g5⟩,⟨e6,g6⟩,⟨e7,g7⟩⟩:=hq
    rw[e0,e1,e2,e3,e4,e5,e6,e7]at S8 hrb ads
    clear e0 e1 e2 e3 e4 e5 e6 e7
    have hE0:0<l0:=by
     unfold St.Ia at hrb
     simp only[decide_eq_true_eq]at hrb
     exact hrb.2
    have HRB:=Lib.hid hrb
    cases hec:eqB [l0,l1,l2,l3,l4,0,0,(St.QF l0 l1 l2 l3 l4),l0,l9,l10,G9,l12,1,0,(St.QZ l0 l9 l10 G9 l12)] [l0,l1,l2,l3,l4,l5,l6,(St.Ej l0 l1 l2 l3 l4 l5 l6),l8,l9,l10,G9,l12,I9,I8,(St.Ej l8 l9 l10 G9 l12 I9 I8)]with
    |false=>
     have hno:¬okD l0 l1 l2 l3 l4 l5 l6 l8 l9 l10 G9 l12 I9 I8:=by
      rintro⟨_,rfl,rfl,rfl,rfl,rfl⟩
      have:=ahI [l8,l1,l2,l3,l4,0,0,(St.QF l8 l1 l2 l3 l4),l8,l9,l10,G9,l12,1,0,(St.QZ l8 l9 l10 G9 l12)] [l8,l1,l2,l3,l4,0,0,(St.Ej l8 l1 l2 l3 l4 0 0),l8,l9,l10,G9,l12,1,0,(St.Ej l8 l9 l10 G9 l12 1 0)] rfl
      rw[this]at hec
      cases hec
     rcases hV.out with⟨h,_,_⟩|⟨_,rfl,rfl⟩
     ·exact absurd h hno
     clear hno hV
     have heq:=acv [l0,l1,l2,l3,l4,0,0,(St.QF l0 l1 l2 l3 l4),l0,l9,l10,G9,l12,1,0,(St.QZ l0 l9 l10 G9 l12)] [l0,l1,l2,l3,l4,l5,l6,(St.Ej l0 l1 l2 l3 l4 l5 l6),l8,l9,l10,G9,l12,I9,I8,(St.Ej l8 l9 l10 G9 l12 I9 I8)] rfl rfl
     rw[hec]at heq
     simp only[DJ,Ef]at heq
     clear hec
     have abV:=s25 S8 Xk (Below.refl _ _).drew
     go_wp2_with fail
     refine wp_region_held_drew (S:=fun W=>W.cell? ⟨w6.heap.size,0,none⟩=some (.int .u64 l0)∧W.cell? ⟨w6.heap.size,1,none⟩=some (.int .i64 l1)∧W.cell? ⟨w6.heap.size,2,none⟩=some (.int .i64 l2)∧W.cell? ⟨w6.heap.size,3,none⟩=some (.int .i64 l3)∧W.cell? ⟨w6.heap.size,4,none⟩=some (.int .i64 l4)∧W.cell? ⟨w6.heap.size,5,none⟩=some (.int .i64 l9)∧W.cell? ⟨w6.heap.size,6,none⟩=some (.int .i64 l10)∧W.cell? ⟨w6.heap.size,7,none⟩=some (.int .i64 G9)∧W.cell? ⟨w6.heap.size,8,none⟩=some (.int .i64 l12)∧W.cell? ⟨w.heap.size,0,none⟩=some (.int .u64 l0)∧W.cell? ⟨w.heap.size,1,none⟩=some (.int .u64 l1)∧W.cell? ⟨w.heap.size,2,none⟩=some (.int .u64 l2)∧W.cell? ⟨w.heap.size,3,none⟩=some (.int .u64 l3)∧W.cell? ⟨w.heap.size,4,none⟩=some (.int .u64 l4)∧W.cell? ⟨w.heap.size,5,none⟩=some (.int .u64 l5)∧W.cell? ⟨w.heap.size,6,none⟩=some (.int .u64 l6)∧W.cell? ⟨w.heap.size,7,none⟩=some (.int .u64 (St.Ej l0 l1 l2 l3 l4 l5 l6))∧W.cell? ⟨w.heap.size,8,none⟩=some (.int .u64 l8)∧W.cell? ⟨w.heap.size,9,none⟩=some (.int .u64 l9)∧W.cell? ⟨w.heap.size,10,none⟩=some (.int .u64 l10)∧W.cell? ⟨w.heap.size,11,none⟩=some (.int .u64 G9)∧W.cell? ⟨w.heap.size,12,none⟩=some (.int .u64 l12)∧W.cell? ⟨w.heap.size,13,none⟩=some (.int .u64 I9)∧W.cell? ⟨w.heap.size,14,none⟩=some (.int .u64 I8)∧W.cell? ⟨w.heap.size,15,none⟩=some (.int .u64 (St.Ej l8 l9 l10 G9 l12 I9 I8))∧Below wr.heap.size wr W) Aw ?_ (fun hHeld=>?_)
     ·(try dsimp only)
      (first|assumption|exact abV)
     refine dF ?_
     refine ah ?_
     refine wpAnyH_ready (rs:=[1]) Aw J (AllReadyH.cons O (fun K hK=>?_) AllReadyH.nil)
     (try go_simp)
     have hS:=(by assumption:_∧_∧_∧_∧_∧_∧_∧_∧_∧_∧_∧_∧_∧_∧_∧_∧_∧_∧_∧_∧_∧_∧_∧_∧_∧Below _ _ _).2.2.2.2.2.2.2.2.2.2.2.2.2.2.2.2.2.2.2.2.2.2.2.2.2
     refine(PI _ _ _ _ _ _ _ _ _ _ hl0 ads.out).mono ?_
     rintro e w7 ⟨rfl,hb7⟩
     have RZ:=hS.trans (hb7.mono hS.size)
     have hS':=s25 S8 Xk RZ
     clear hb7 hS
     refine hK.out _ _ ?_ (fun hHeld=>?_)
     ·(try dsimp only)
      (first|assumption|exact abV)
     clear hK K
     refine bY ?_
     refine aI ?_
     refine sW ?_
     refine wpAnyH_ready (rs:=[5]) Aw J (AllReadyH.cons O (fun K hK=>?_) AllReadyH.nil)
     (try go_simp)
     refine qQ ?_
     rintro e w8 ⟨rfl,hb8⟩
     have ahu:=RZ.trans (hb8.mono RZ.size)
     have hS':=s25 S8 Xk ahu
     clear hb8
     refine hK.out _ _ ?_ (fun hHeld=>?_)
     ·(try dsimp only)
      (first|assumption|exact abV)
     clear hK K
     refine fM ?_
     refine wpAnyH_done Aw ?_ _
     have Yu:=(by assumption:_∧_∧_∧_∧_∧_∧_∧_∧_∧_∧_∧_∧_∧_∧_∧_∧_∧_∧_∧_∧_∧_∧_∧_∧_∧Below _ _ _).2.2.2.2.2.2.2.2.2.2.2.2.2.2.2.2.2.2.2.2.2.2.2.2.2
     have RE:=Rk.below Yu Rk.lt
     have SE:=S8.below Yu S8.lt
     have BE:=Bk.trans (Yu.mono Bk.size)
     have r0:=RE.cell 0 _ rfl
     have r1:=RE.cell 1 _ rfl
     have r2:=RE.cell 2 _ rfl
     have r3:=RE.cell 3 _ rfl
     have r4:=RE.cell 4 _ rfl
     have r5:=RE.cell 5 _ rfl
     have r6:=RE.cell 6 _ rfl
     have r7:=RE.cell 7 _ rfl
     have r8:=RE.cell 8 _ rfl
     have f0:=RE.frozen 0
     have f1:=RE.frozen 1
     have f2:=RE.frozen 2
     have f3:=RE.frozen 3
     have f4:=RE.frozen 4
     have f5:=RE.frozen 5
     have f6:=RE.frozen 6
     have f7:=RE.frozen 7
     have f8:=RE.frozen 8
     go_wp2_with fail
     exact bodyPost_ret (v:= .tuple #[.agg #[.int .u64 0,.int .i64 0,.int .i64 0,.int .i64 0,.int .i64 0,.int .i64 0,.int .i64 0,.int .i64 0,.int .i64 0],.int .i64 26]) Ag rfl ⟨rfl,(((((((((BE).setCell J _).setCell J _).setCell J _).setCell J _).setCell J _).setCell J _).setCell J _).setCell J _).setCell J _⟩
    |true=>
     have arD: [l0,l1,l2,l3,l4,0,0,(St.QF l0 l1 l2 l3 l4),l0,l9,l10,G9,l12,1,0,(St.QZ l0 l9 l10 G9 l12)]=[l0,l1,l2,l3,l4,l5,l6,(St.Ej l0 l1 l2 l3 l4 l5 l6),l8,l9,l10,G9,l12,I9,I8,(St.Ej l8 l9 l10 G9 l12 I9 I8)]:=by unfold eqB at hec;simpa using hec
     have hyes:okD l0 l1 l2 l3 l4 l5 l6 l8 l9 l10 G9 l12 I9 I8:=by
      simp only[P5]at arD
      have h:=arD
      exact⟨HRB.out,h.2.2.2.2.2.1.symm,h.2.2.2.2.2.2.1.symm,h.2.2.2.2.2.2.2.2.1.symm,h.2.2.2.2.2.2.2.2.2.2.2.2.2.1.symm,h.2.2.2.2.2.2.2.2.2.2.2.2.2.2.1.symm⟩
     rcases hV.out with⟨_,rfl,rfl⟩|⟨h,_,_⟩
     rotate_left
     ·exact absurd hyes h
     clear hyes hV
     have heq:=acv [l0,l1,l2,l3,l4,0,0,(St.QF l0 l1 l2 l3 l4),l0,l9,l10,G9,l12,1,0,(St.QZ l0 l9 l10 G9 l12)] [l0,l1,l2,l3,l4,l5,l6,(St.Ej l0 l1 l2 l3 l4 l5 l6),l8,l9,l10,G9,l12,I9,I8,(St.Ej l8 l9 l10 G9 l12 I9 I8)] rfl rfl
     rw[hec]at heq
     simp only[DJ,Ef]at heq
     clear hec arD
     have abV:=s25 S8 Xk (Below.refl _ _).drew
     go_wp2_with fail
     refine wp_region_held_drew (S:=fun W=>W.cell? ⟨w6.heap.size,0,none⟩=some (.int .u64 l0)∧W.cell? ⟨w6.heap.size,1,none⟩=some (.int .i64 l1)∧W.cell? ⟨w6.heap.size,2,none⟩=some (.int .i64 l2)∧W.cell? ⟨w6.heap.size,3,none⟩=some (.int .i64 l3)∧W.cell? ⟨w6.heap.size,4,none⟩=some (.int .i64 l4)∧W.cell? ⟨w6.heap.size,5,none⟩=some (.int .i64 l9)∧W.cell? ⟨w6.heap.size,6,none⟩=some (.int .i64 l10)∧W.cell? ⟨w6.heap.size,7,none⟩=some (.int .i64 G9)∧W.cell? ⟨w6.heap.size,8,none⟩=some (.int .i64 l12)∧W.cell? ⟨w.heap.size,0,none⟩=some (.int .u64 l0)∧W.cell? ⟨w.heap.size,1,none⟩=some (.int .u64 l1)∧W.cell? ⟨w.heap.size,2,none⟩=some (.int .u64 l2)∧W.cell? ⟨w.heap.size,3,none⟩=some (.int .u64 l3)∧W.cell? ⟨w.heap.size,4,none⟩=some (.int .u64 l4)∧W.cell? ⟨w.heap.size,5,none⟩=some (.int .u64 l5)∧W.cell? ⟨w.heap.size,6,none⟩=some (.int .u64 l6)∧W.cell? ⟨w.heap.size,7,none⟩=some (.int .u64 (St.Ej l0 l1 l2 l3 l4 l5 l6))∧W.cell? ⟨w.heap.size,8,none⟩=some (.int .u64 l8)∧W.cell? ⟨w.heap.size,9,none⟩=some (.int .u64 l9)∧W.cell? ⟨w.heap.size,10,none⟩=some (.int .u64 l10)∧W.cell? ⟨w.heap.size,11,none⟩=some (.int .u64 G9)∧W.cell? ⟨w.heap.size,12,none⟩=some (.int .u64 l12)∧W.cell? ⟨w.heap.size,13,none⟩=some (.int .u64 I9)∧W.cell? ⟨w.heap.size,14,none⟩=some (.int .u64 I8)∧W.cell? ⟨w.heap.size,15,none⟩=some (.int .u64 (St.Ej l8 l9 l10 G9 l12 I9 I8))∧Below wr.heap.size wr W) Aw ?_ (fun hHeld=>?_)
     ·(try dsimp only)
      (first|assumption|exact abV)
     refine dF ?_
     refine ah ?_
     refine wpAnyH_ready (rs:=[1]) Aw J (AllReadyH.cons O (fun K hK=>?_) AllReadyH.nil)
     (try go_simp)
     have hS:=(by assumption:_∧_∧_∧_∧_∧_∧_∧_∧_∧_∧_∧_∧_∧_∧_∧_∧_∧_∧_∧_∧_∧_∧_∧_∧_∧Below _ _ _).2.2.2.2.2.2.2.2.2.2.2.2.2.2.2.2.2.2.2.2.2.2.2.2.2
     refine(PI _ _ _ _ _ _ _ _ _ _ hl0 ads.out).mono ?_
     rintro e w7 ⟨rfl,hb7⟩
     have RZ:=hS.trans (hb7.mono hS.size)
     have hS':=s25 S8 Xk RZ
     clear hb7 hS
     refine hK.out _ _ ?_ (fun hHeld=>?_)
     ·(try dsimp only)
      (first|assumption|exact abV)
     clear hK K
     refine bY ?_
     refine aI ?_
     refine sW ?_
     refine wpAnyH_ready (rs:=[5]) Aw J (AllReadyH.cons O (fun K hK=>?_) AllReadyH.nil)
     (try go_simp)
     refine qQ ?_
     rintro e w8 ⟨rfl,hb8⟩
     have ahu:=RZ.trans (hb8.mono RZ.size)
     have hS':=s25 S8 Xk ahu
     clear hb8
     refine hK.out _ _ ?_ (fun hHeld=>?_)
     ·(try dsimp only)
      (first|assumption|exact abV)
     clear hK K
     refine fM ?_
     refine wpAnyH_done Aw ?_ _
     have Yu:=(by assumption:_∧_∧_∧_∧_∧_∧_∧_∧_∧_∧_∧_∧_∧_∧_∧_∧_∧_∧_∧_∧_∧_∧_∧_∧_∧Below _ _ _).2.2.2.2.2.2.2.2.2.2.2.2.2.2.2.2.2.2.2.2.2.2.2.2.2
     have RE:=Rk.below Yu Rk.lt
     have SE:=S8.below Yu S8.lt
     have BE:=Bk.trans (Yu.mono Bk.size)
     have r0:=RE.cell 0 _ rfl
     have r1:=RE.cell 1 _ rfl
     have r2:=RE.cell 2 _ rfl
     have r3:=RE.cell 3 _ rfl
     have r4:=RE.cell 4 _ rfl
     have r5:=RE.cell 5 _ rfl
     have r6:=RE.cell 6 _ rfl
     have r7:=RE.cell 7 _ rfl
     have r8:=RE.cell 8 _ rfl
     have f0:=RE.frozen 0
     have f1:=RE.frozen 1
     have f2:=RE.frozen 2
     have f3:=RE.frozen 3
     have f4:=RE.frozen 4
     have f5:=RE.frozen 5
     have f6:=RE.frozen 6
     have f7:=RE.frozen 7
     have f8:=RE.frozen 8
     have s0:=SE.cell 0 _ rfl
     have s1:=SE.cell 1 _ rfl
     have s2:=SE.cell 2 _ rfl
     have s3:=SE.cell 3 _ rfl
     have s4:=SE.cell 4 _ rfl
     have s5:=SE.cell 5 _ rfl
     have s6:=SE.cell 6 _ rfl
     have s7:=SE.cell 7 _ rfl
     have s8:=SE.cell 8 _ rfl
     go_wp2_with fail
     exact bodyPost_ret (v:= .tuple #[.agg #[.int .u64 l0,.int .i64 l1,.int .i64 l2,.int .i64 l3,.int .i64 l4,.int .i64 l9,.int .i64 l10,.int .i64 G9,.int .i64 l12],.int .i64 0]) Ag rfl ⟨rfl,(((((((((BE).setCell J _).setCell J _).setCell J _).setCell J _).setCell J _).setCell J _).setCell J _).setCell J _).setCell J _⟩
end
end
section
section
open Go.RowKit
end
end
section
section
open Go.RowKit
def apV(E:Int)(R:List Int):Value:= .agg (Value.int .u64 E::R.map (Value.int .i64)).toArray
end
end
section
section
open Go.RowKit
open Classical in
noncomputable def dC:List Int→Int
 | [l0,l1,l2,l3,l4,l5,l6,l7,l8,l9,l10,G9,l12,I9,I8,l15]=>if l7≠St.Ej l0 l1 l2 l3 l4 l5 l6 then 25 else if l15≠St.Ej l8 l9 l10 G9 l12 I9 I8 then 25 else if okD l0 l1 l2 l3 l4 l5 l6 l8 l9 l10 G9 l12 I9 I8 then 0 else 26
 |_=>0
def dE:List Int→Int
 | [l0,l1,l2,l3,l4,l5,l6,l7,l8,l9,l10,G9,l12,I9,I8,l15]=>l0
 |_=>0
def dR:List Int→List Int
 | [l0,l1,l2,l3,l4,l5,l6,l7,l8,l9,l10,G9,l12,I9,I8,l15]=> [l1,l2,l3,l4,l9,l10,G9,l12]
 |_=> [0,0,0,0,0,0,0,0]
open Classical in
noncomputable def Xj (z:List Int):Int:=if dC z=0 then dE z else 0
open Classical in
noncomputable def dVR (z:List Int):List Int:=if dC z=0 then dR z else [0,0,0,0,0,0,0,0]
theorem Nu{α:Type}{l:List α}(h:l.length=8):∃r0 r1 r2 r3 r4 r5 r6 r7,l=[r0,r1,r2,r3,r4,r5,r6,r7]:=by
 match l,h with
 | [r0,r1,r2,r3,r4,r5,r6,r7],_=>exact⟨r0,r1,r2,r3,r4,r5,r6,r7,rfl⟩
theorem aeJ{α:Type}{l:List α}(h:l.length=16):∃l0 l1 l2 l3 l4 l5 l6 l7 l8 l9 l10 G9 l12 I9 I8 l15,l=[l0,l1,l2,l3,l4,l5,l6,l7,l8,l9,l10,G9,l12,I9,I8,l15]:=by
 match l,h with
 | [l0,l1,l2,l3,l4,l5,l6,l7,l8,l9,l10,G9,l12,I9,I8,l15],_=>exact⟨l0,l1,l2,l3,l4,l5,l6,l7,l8,l9,l10,G9,l12,I9,I8,l15,rfl⟩
theorem aar(z:List Int)(hz:z.length=16):(dVR z).length=8:=by
 obtain⟨l0,l1,l2,l3,l4,l5,l6,l7,l8,l9,l10,G9,l12,I9,I8,l15,rfl⟩:=aeJ hz
 unfold dVR dR
 split<;>rfl
theorem wfU{z:List Int}(h:Ints .u64 z){x:Int}(hx:x∈z):FT x:=by
 have:=h x hx
 simp[Lit.wf,IntKind.min,IntKind.max,IntKind.signed,IntKind.bits]at this
 exact⟨Y,Y⟩
theorem acU(z:List Int)(w:World)(hz:z.length=16)(hw:Ints .u64 z):
 Calls prog 201 #[.agg (z.map (Value.int .u64)).toArray] w fun e w'=>e= .returned (.tuple #[apV (Xj z) (dVR z),.int .i64 (dC z)])∧Below w.heap.size w w':=by
 obtain⟨l0,l1,l2,l3,l4,l5,l6,l7,l8,l9,l10,G9,l12,I9,I8,l15,rfl⟩:=aeJ hz
 have hl0:FT l0:=wfU hw J
 have hl1:FT l1:=wfU hw J
 have hl2:FT l2:=wfU hw J
 have hl3:FT l3:=wfU hw J
 have hl4:FT l4:=wfU hw J
 have hl5:FT l5:=wfU hw J
 have hl6:FT l6:=wfU hw J
 have hl7:FT l7:=wfU hw J
 have hl8:FT l8:=wfU hw J
 have hl9:FT l9:=wfU hw J
 have Vk:FT l10:=wfU hw J
 have UW:FT G9:=wfU hw J
 have hl12:FT l12:=wfU hw J
 have YK:FT I9:=wfU hw J
 have YZ:FT I8:=wfU hw J
 have aiW:FT l15:=wfU hw J
 clear hw hz
 by_cases h0:l7=St.Ej l0 l1 l2 l3 l4 l5 l6
 ·by_cases h1:l15=St.Ej l8 l9 l10 G9 l12 I9 I8
  ·subst h0 h1
   by_cases hok:okD l0 l1 l2 l3 l4 l5 l6 l8 l9 l10 G9 l12 I9 I8
   ·have e:dC [l0,l1,l2,l3,l4,l5,l6,St.Ej l0 l1 l2 l3 l4 l5 l6,l8,l9,l10,G9,l12,I9,I8,St.Ej l8 l9 l10 G9 l12 I9 I8]=0:=by simp[dC,hok]
    rw[Xj,dVR,if_pos e,if_pos e,e]
    exact aaB l0 l1 l2 l3 l4 l5 l6 l8 l9 l10 G9 l12 I9 I8 w hl0 hl1 hl2 hl3 hl4 hl5 hl6 hl8 hl9 Vk UW hl12 YK YZ _ _ (.inl ⟨hok,rfl,rfl⟩)
   ·have e:dC [l0,l1,l2,l3,l4,l5,l6,St.Ej l0 l1 l2 l3 l4 l5 l6,l8,l9,l10,G9,l12,I9,I8,St.Ej l8 l9 l10 G9 l12 I9 I8]=26:=by simp[dC,hok]
    rw[Xj,dVR,e,if_neg Y,if_neg Y]
    exact aaB l0 l1 l2 l3 l4 l5 l6 l8 l9 l10 G9 l12 I9 I8 w hl0 hl1 hl2 hl3 hl4 hl5 hl6 hl8 hl9 Vk UW hl12 YK YZ _ _ (.inr ⟨hok,rfl,rfl⟩)
  ·subst h0
   have e:dC [l0,l1,l2,l3,l4,l5,l6,St.Ej l0 l1 l2 l3 l4 l5 l6,l8,l9,l10,G9,l12,I9,I8,l15]=25:=by simp[dC,h1]
   rw[Xj,dVR,e,if_neg Y,if_neg Y]
   exact agL l0 l1 l2 l3 l4 l5 l6 l8 l9 l10 G9 l12 I9 I8 l15 w hl0 hl1 hl2 hl3 hl4 hl5 hl6 hl8 hl9 Vk UW hl12 YK YZ aiW h1
 ·have e:dC [l0,l1,l2,l3,l4,l5,l6,l7,l8,l9,l10,G9,l12,I9,I8,l15]=25:=by simp[dC,h0]
  rw[Xj,dVR,e,if_neg Y,if_neg Y]
  exact aha l0 l1 l2 l3 l4 l5 l6 l7 l8 l9 l10 G9 l12 I9 I8 l15 w hl0 hl1 hl2 hl3 hl4 hl5 hl6 hl7 hl8 hl9 Vk UW hl12 YK YZ aiW h0
def J3(E:Int):List Int→List Int
 | [r0,r1,r2,r3,r4,r5,r6,r7]=>if St.Ia E [r0,r1,r2,r3,r4,r5,r6,r7]=true then [E,r0,r1,r2,r3,0,0,St.QF E r0 r1 r2 r3,E,r4,r5,r6,r7,1,0,St.QZ E r4 r5 r6 r7]else [0,0,0,0,0,0,0,0,0,0,0,0,0,0,0,0]
 |_=> [0,0,0,0,0,0,0,0,0,0,0,0,0,0,0,0]
theorem aby(E:Int)(R:List Int):(J3 E R).length=16:=by
 unfold J3
 split
 ·split<;>rfl
 ·rfl
theorem abO{E:Int}{r0 r1 r2 r3 r4 r5 r6 r7:Int}(h:St.Ia E [r0,r1,r2,r3,r4,r5,r6,r7]=true):0<E∧(0≤r0∧r0≤131071)∧(0≤r1∧r1≤131071)∧(0≤r2∧r2≤131071)∧(0≤r3∧r3≤131071)∧(0≤r4∧r4≤131071)∧(0≤r5∧r5≤131071)∧(0≤r6∧r6≤131071)∧(0≤r7∧r7≤131071):=by
 unfold St.Ia St.okR at h
 simp only[decide_eq_true_eq,Dh,Gx,or_false,forall_eq_or_imp,forall_eq]at h
 omega
theorem ajl(E:Int)(R:List Int)(w:World)(hl:R.length=8)(hE:FT E)(hR:∀r∈R,I64 r):
 Calls prog 228 #[apV E R] w fun e w'=>e= .returned (.agg ((J3 E R).map (Value.int .u64)).toArray)∧Below w.heap.size w w':=by
 obtain⟨r0,r1,r2,r3,r4,r5,r6,r7,rfl⟩:=Nu hl
 cases hr:St.Ia E [r0,r1,r2,r3,r4,r5,r6,r7]with
 |false=>
  rw[show J3 E [r0,r1,r2,r3,r4,r5,r6,r7]=[0,0,0,0,0,0,0,0,0,0,0,0,0,0,0,0]from by simp[J3,hr]]
  exact am5 E r0 r1 r2 r3 r4 r5 r6 r7 w hE hR hr
 |true=>
  obtain⟨a,b0,b1,b2,b3,b4,b5,b6,b7⟩:=abO hr
  rw[show J3 E [r0,r1,r2,r3,r4,r5,r6,r7]=[E,r0,r1,r2,r3,0,0,St.QF E r0 r1 r2 r3,E,r4,r5,r6,r7,1,0,St.QZ E r4 r5 r6 r7]from by simp[J3,hr]]
  exact Y4 E r0 r1 r2 r3 r4 r5 r6 r7 w hE a b0 b1 b2 b3 b4 b5 b6 b7
end
end
section
section
open Go.RowKit
open Classical in
noncomputable def UR (a b:List Int):Int:=if dC a=0∧(dC b≠0∨Xj b≤Xj a)then 0 else if dC b=0 then 1 else-1
open Classical in
noncomputable def chE (a b:List Int):Int:=if UR a b=0 then Xj a else if UR a b=1 then Xj b else 0
open Classical in
noncomputable def chR (a b:List Int):List Int:=if UR a b=0 then dVR a else if UR a b=1 then dVR b else [0,0,0,0,0,0,0,0]
theorem anE(a b:List Int)(ha:a.length=16)(hb:b.length=16):(chR a b).length=8:=by
 unfold chR
 split
 ·exact aar a ha
 ·split
  ·exact aar b hb
  ·rfl
noncomputable def chI (a b:List Int):Int:=if UR a b=1 then 1 else 0
noncomputable def chB (a b:List Int):Bool:=decide (UR a b≠-1)
theorem ch0{a b:List Int}(h:UR a b=0):chE a b=Xj a∧chR a b=dVR a:=by unfold chE chR;simp[h]
theorem ch1{a b:List Int}(h:UR a b=1):chE a b=Xj b∧chR a b=dVR b:=by unfold chE chR;simp[h]
theorem chn{a b:List Int}(h:UR a b= -1):chE a b=0∧chR a b=[0,0,0,0,0,0,0,0]:=by unfold chE chR;simp[h]
theorem ar1(a b:List Int):UR a b=0∨UR a b=1∨UR a b= -1:=by
 unfold UR
 split
 ·exact .inl rfl
 ·split
  ·exact .inr (.inl rfl)
  ·exact .inr (.inr rfl)
end
end
end Go.Proofs.YtppilhpcmkekbaaGreat
