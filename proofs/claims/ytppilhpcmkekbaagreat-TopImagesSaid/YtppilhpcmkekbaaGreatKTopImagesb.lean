/- Parts of the proof. -/
import Derived.WalkKit
import Derived.Laws.BitsAllLaws
import Derived.BigQuiet
import Derived.Outline
import Derived.Deep.QuietTactic
import Derived.Deep.RegionHeld3
import Derived.RowKit
import Derived.Test.YtppilhpcmkekbaaGreatKTopImagesa
set_option linter.unusedSimpArgs false
set_option linter.unusedVariables false
set_option linter.unusedSectionVars false
set_option maxRecDepth 100000
set_option maxHeartbeats 16000000
namespace Go.Proofs.YtppilhpcmkekbaaGreat
open Go.Proofs.Tryz
abbrev II:=@Classical.byContradiction
section
section
open Go.RowKit
theorem ar'(n:Int)(w:World)(h1: -9223372036854775808≤n)(h2:n≤9223372036854775807):Calls prog 196 #[.int .i64 n] w fun e w'=>e= .returned (.tuple #[.int .i64 (Cl.WQ n),.bool (Cl.ofB n)])∧Below w.heap.size w w':=by
 by_cases c1:n<1
 ·have e:=Lib.hid (Cl.ad1 n (.inl c1))
  have e2:=Lib.hid (Cl.al9 n (.inl c1))
  go_enter func196,Tryz.ntmps196
  go_wp2_with fail
  go_ret2
  exact⟨UE e.out.symm e2.out.symm,Below.refl _ _⟩
 ·by_cases c2:256<n
  ·have e:=Lib.hid (Cl.ad1 n (.inr c2))
   have e2:=Lib.hid (Cl.al9 n (.inr c2))
   go_enter func196,Tryz.ntmps196
   go_wp2_with fail
   refine(afX _).mono ?_
   rintro e w1 ⟨rfl,hb⟩
   go_wp2_with fail
   go_ret2
   exact⟨UE e.out.symm e2.out.symm,hb⟩
  ·have hle:=Lib.hid (Cl.SY n Y Y)
   have e2:=Lib.hid (Cl.aoh n Y Y)
   have h31:=Cl.aif
   go_enter func196,Tryz.ntmps196
   go_wp2_with fail
   refine(afX _).mono ?_
   rintro e w1 ⟨rfl,hb⟩
   go_wp2_with fail
   go_loopw [4,5,6] (fun a b _c wr=>∃lo hi:Int,0≤lo∧lo≤hi∧hi≤31∧a= .int .i64 lo∧b= .int .i64 hi∧Cl.LM n lo∧n≤Cl.words hi∧Below w.heap.size w wr) (fun a b _ _=>(intOf b-intOf a).toNat)
   case atStart=>exact⟨0,31,Y,Y,Y,rfl,rfl,Cl.LM.zero n,Y,hb⟩
   case round=>
    obtain⟨lo,hi,r1,r2,r3,rfl,rfl,hall,hhi,hbe⟩:=hrel
    have hsz:=hbe.size
    by_cases hlt:lo<hi
    ·obtain⟨m,hm⟩:∃m,(lo+hi)/2=m:=⟨_,rfl⟩
     have m1:lo≤m:=Y
     have m2:m<hi:=Y
     by_cases hw:n≤Cl.words m
     ·go_wp2_with (first
       |(go_at_call 198;refine(QE _ _ Y Y).mono ?_;rintro e w2 ⟨rfl,hb2⟩))
      go_roundw
      case rel=>exact⟨lo,m,Y,Y,Y,rfl,rfl,hall,hw,hbe.trans (hb2.mono hsz)⟩
      case measure=>simp[intOf];omega
     ·have hup:=Cl.LM.up (j:=0) (show Cl.words m<n by omega) (show m<32 by omega)
      go_wp2_with (first
       |(go_at_call 198;refine(QE _ _ Y Y).mono ?_;rintro e w2 ⟨rfl,hb2⟩))
      go_roundw
      case rel=>exact⟨m+1,hi,Y,Y,Y,rfl,rfl,hup,hhi,hbe.trans (hb2.mono hsz)⟩
      case measure=>simp[intOf];omega
    ·obtain rfl:lo=hi:=Y
     have hq:=Lib.hid (hle.out.unique (hall.least r1 Y hhi))
     go_wp2_with fail
     go_ret2
     exact⟨UE hq.out.symm e2.out.symm,hbe⟩
theorem size_any(p d:Int)(w:World)(h1: -9223372036854775808≤p)(h2:p≤9223372036854775807)(h3: -9223372036854775808≤d)(h4:d≤9223372036854775807):
 Calls prog 215 #[.int .i64 p,.int .i64 d] w fun e w'=>e= .returned (.tuple #[.int .i64 (Cl.size p d),.int .i64 (Cl.abY p d)])∧w=w':=by
 by_cases c1:p<0
 ·have e:=Lib.hid (Cl.QU p d (.inl c1))
  go_enter func215,Tryz.ntmps215
  go_wp2_with fail
  go_ret2
  exact⟨aaX e.out.1.symm e.out.2.symm,rfl⟩
 ·by_cases c2:p>63
  ·have e:=Lib.hid (Cl.QU p d (.inr (.inl c2)))
   go_enter func215,Tryz.ntmps215
   go_wp2_with fail
   go_ret2
   exact⟨aaX e.out.1.symm e.out.2.symm,rfl⟩
  ·by_cases c3:d<0
   ·have e:=Lib.hid (Cl.QU p d (.inr (.inr (.inl c3))))
    go_enter func215,Tryz.ntmps215
    go_wp2_with fail
    go_ret2
    exact⟨aaX e.out.1.symm e.out.2.symm,rfl⟩
   ·by_cases c4:d>16384
    ·have e:=Lib.hid (Cl.QU p d (.inr (.inr (.inr c4))))
     go_enter func215,Tryz.ntmps215
     go_wp2_with fail
     go_ret2
     exact⟨aaX e.out.1.symm e.out.2.symm,rfl⟩
    ·have e:=Lib.hid (Cl.LY p d Y Y Y Y)
     go_enter func215,Tryz.ntmps215
     go_wp2_with fail
     go_ret2
     exact⟨aaX e.out.1.symm e.out.2.symm,rfl⟩
end
end
section
namespace Cr
open Go Go.RowKit
def step(s:Nat):Nat:=if s%2=1 then(s/2)^^^3988292384 else s/2
def steps:Nat→Nat→Nat
 |0,s=>s
 |n+1,s=>steps n (step s)
theorem adQ(a b k:Nat):(a^^^b)/2^k=a/2^k^^^b/2^k:=by
 rw[←IJ,←IJ,←IJ,Nat.shiftRight_xor_distrib]
theorem ajC:∀a<2,∀b<2,(a^^^b)%2=(a+b)%2:=by decide
theorem ak8(a b:Nat):(a^^^b)%2=(a%2+b%2)%2:=by
 have e:(a^^^b)%2^1=a%2^1^^^b%2^1:=by
  apply Ep
  intro i
  simp only[Ik,N7]
  by_cases h:i<1<;>simp[h]
 have h2:=ajC (a%2) Y (b%2) Y
 rw[←h2,show(2:Nat)=2^1 from rfl,←e,Nat.mod_mod]
theorem axw(a b c d:Nat):(a^^^b)^^^(c^^^d)=(a^^^c)^^^(b^^^d):=by
 rw[KQ,KQ];congr 1;rw[←KQ,XT b c,KQ]
theorem amU(a b:Nat):step (a^^^b)=step a^^^step b:=by
 unfold step
 rw[ak8,show(a^^^b)/2=a/2^^^b/2 from adQ a b 1]
 rcases MS a with ha|ha<;>rcases MS b with hb|hb<;>simp only[ha,hb]<;>simp
 ·rw[KQ]
 ·rw[KQ,XT (b/2),←KQ]
 ·rw[axw,Nat.xor_self,Nat.xor_zero]
theorem aji(n:Nat):∀a b,steps n (a^^^b)=steps n a^^^steps n b:=by
 induction n with
 |zero=>intro a b;rfl
 |succ n ih=>intro a b;rw[steps,amU,ih];rfl
theorem ajM(m n:Nat):∀s,steps (m+n) s=steps n (steps m s):=by
 induction m with
 |zero=>intro s;simp[steps]
 |succ m ih=>intro s;rw[show m+1+n=(m+n)+1 from by omega,steps,ih];rfl
theorem Wj(q:Nat):step (2*q)=q:=by unfold step;rw[if_neg Y];omega
theorem am2(q:Nat):steps 4 (16*q)=q:=by
 show step (step (step (step (16*q))))=q
 rw[show 16*q=2*(8*q)from by omega,Wj,show 8*q=2*(4*q)from by omega,Wj,show 4*q=2*(2*q)from by omega,Wj,Wj]
theorem aoK(s:Nat):s=(16*(s/16))^^^(s%16):=by
 have h:2^4*(s/16)+s%16=2^4*(s/16)|||s%16:=Qy Y _
 have hx:2^4*(s/16)^^^s%16=2^4*(s/16)+s%16:=by
  apply Ep
  intro i
  rw[h,N7,VK,Tn]
  by_cases hi:4≤i
  ·have:(s%16).testBit i=false:=JF (Gh (show s%16<2^4 by omega) (G9 Ae hi))
   rw[this];simp
  ·simp[hi]
 rw[show 16*(s/16)=2^4*(s/16)from rfl,hx]
 omega
def tab(i:Nat):Nat:=steps 4 i
theorem ane(s:Nat):steps 4 s=tab (s%16)^^^(s/16):=by
 conv=>lhs;rw[aoK s]
 rw[aji,am2,XT];rfl
theorem aof(s:Nat)(h:s<4294967296):step s<4294967296:=by
 unfold step
 split
 ·exact LK (n:=32) Y Y
 ·omega
theorem afG(n:Nat):∀s,s<4294967296→steps n s<4294967296:=by
 induction n with
 |zero=>intro s h;exact h
 |succ n ih=>intro s h;exact ih _ (aof s h)
theorem agH(s b:Nat)(hb:b<256):
 tab ((tab ((s^^^b)%16)^^^s/16^^^b/16)%16)^^^(tab ((s^^^b)%16)^^^s/16)/16=steps 8 (s^^^b):=by
 rw[show(8:Nat)=4+4 from rfl,ajM,ane (s^^^b)]
 have e:(s^^^b)/16=s/16^^^b/16:=adQ s b 4
 rw[e,←KQ,ane]
 have e2:(tab ((s^^^b)%16)^^^s/16^^^b/16)/16=(tab ((s^^^b)%16)^^^s/16)/16^^^b/16/16:=adQ _ _ 4
 rw[e2,show b/16/16=0 from by omega,Nat.xor_zero]
def Ir(i:Int):Int:=(tab (i%16).toNat:Nat)
theorem adK(i:Nat)(h:i<16):tab i<4294967296:=afG 4 i Y
theorem apM(i:Int):0≤Ir i∧Ir i≤4294967295:=by
 have:=adK (i%16).toNat Y
 unfold Ir;omega
def byte(s b:Int):Int:=(steps 8 (s.toNat^^^b.toNat):Nat)
theorem aod(s b:Int)(h0:0≤s)(h1:s≤4294967295)(h2:0≤b)(h3:b≤255):0≤byte s b∧byte s b≤4294967295:=by
 have hx:s.toNat^^^b.toNat<4294967296:=LK (n:=32) Y Y
 have:=afG 8 _ hx
 unfold byte;omega
def run(s:Int)(l:List Int):Int:=l.foldl byte s
theorem amw(s:Int)(l:List Int)(b:Int):run s (l++ [b])=byte (run s l) b:=by unfold run;rw[Jq];rfl
theorem agC(l:List Int):∀s:Int,0≤s→s≤4294967295→(∀b∈l,0≤b∧b≤255)→0≤run s l∧run s l≤4294967295:=by
 induction l with
 |nil=>intro s h0 h1 _;exact⟨h0,h1⟩
 |cons b l ih=>
  intro s h0 h1 hb
  have hb0:=hb b J
  have h2:=aod s b h0 h1 hb0.1 hb0.2
  exact ih _ h2.1 h2.2 (fun c hc=>hb c (by simp[hc]))
def more(s:Int)(l:List Int):Int:=4294967295-run (4294967295-s) l
theorem WH(s:Int)(l:List Int)(h0:0≤s)(h1:s≤4294967295)(hb:∀b∈l,0≤b∧b≤255):0≤more s l∧more s l≤4294967295:=by
 have:=agC l (4294967295-s) Y Y hb
 unfold more;omega
theorem aoI(a b:Nat):(a%256^^^b)%16=(a^^^b)%16:=by
 apply Ep
 intro i
 rw[show(16:Nat)=2^4 from rfl,show(256:Nat)=2^8 from rfl,Ik,Ik,N7,N7,Ik]
 by_cases hi:i<4
 ·have:i<8:=Y
  simp[this]
 ·simp[hi]
theorem SV(s b:Int)(h0:0≤s)(h1:s≤4294967295)(h2:0≤b)(h3:b≤255):
 bits .xor .u32 (Ir (bits .xor .u8 (s%256) b)) (s/16)=((tab ((s.toNat^^^b.toNat)%16)^^^s.toNat/16:Nat):Int)∧
 0≤bits .xor .u8 (s%256) b∧bits .xor .u8 (s%256) b≤255:=by
 obtain⟨S,rfl⟩:=Bo h0
 obtain⟨B,rfl⟩:=Bo h2
 have e1:(S:Int)%256=((S%256:Nat):Int):=Y
 rw[e1,u8_xor_nat _ _ Y Y]
 have hlt:S%256^^^B<256:=LK (n:=8) Y Y
 refine⟨?_,Y,Y⟩
 have e2:Ir ((S%256^^^B:Nat):Int)=((tab ((S^^^B)%16):Nat):Int):=by
  unfold Ir
  rw[show(((S%256^^^B:Nat):Int)%16).toNat=(S%256^^^B)%16 from by omega,aoI]
 rw[e2,show((S:Int)/16)=((S/16:Nat):Int)from by omega,u32_xor_nat _ _ (adK _ Y) Y]
 rfl
theorem ajX(s b s1:Int)(h0:0≤s)(h1:s≤4294967295)(h2:0≤b)(h3:b≤255)(e1:bits .xor .u32 (Ir (bits .xor .u8 (s%256) b)) (s/16)=s1):
 bits .xor .u32 (Ir (bits .xor .u8 (s1%256) (b/16))) (s1/16)=byte s b:=by
 have hh:=SV s b h0 h1 h2 h3
 rw[hh.1]at e1
 have hs1:tab ((s.toNat^^^b.toNat)%16)^^^s.toNat/16<4294967296:=LK (n:=32) (adK _ Y) Y
 have h4:=SV s1 (b/16) Y Y Y Y
 rw[h4.1]
 unfold byte
 rw[←agH _ _ Y,←e1,show(b/16).toNat=b.toNat/16 from by omega,Bz]
theorem ape(s b s1:Int)(h0:0≤s)(h1:s≤4294967295)(h2:0≤b)(h3:b≤255)(e1:bits .xor .u32 (Ir (bits .xor .u8 (s%256) b)) (s/16)=s1):0≤s1∧s1≤4294967295:=by
 have hh:=SV s b h0 h1 h2 h3
 rw[hh.1]at e1
 have hs1:tab ((s.toNat^^^b.toNat)%16)^^^s.toNat/16<4294967296:=LK (n:=32) (adK _ Y) Y
 omega
theorem agi(s:Int)(h0:0≤s)(h1:s≤4294967295):bits .xor .u32 IntKind.u32.max s=4294967295-s:=by
 obtain⟨S,rfl⟩:=Bo h0
 have e:IntKind.u32.max=((4294967295:Nat):Int):=by decide
 rw[e,u32_xor_nat _ _ Ae Y]
 have h:4294967295^^^S=2^32-(S+1):=by
  apply Ep
  intro i
  rw[N7,Jz Y,show(4294967295:Nat)=2^32-1 from rfl,MC]
  by_cases hi:i<32
  ·simp[hi]
  ·have:S.testBit i=false:=JF (Gh (show S<2^32 by omega) (G9 Ae Y))
   rw[this];simp[hi]
 rw[h];omega
theorem aj7(s:Int)(l:List Int)(h0:0≤s)(h1:s≤4294967295)(hb:∀b∈l,0≤b∧b≤255):bits .xor .u32 IntKind.u32.max (run (4294967295-s) l)=more s l:=by
 have:=agC l (4294967295-s) Y Y hb
 rw[agi _ this.1 this.2];rfl
end Cr
end
section
namespace Bt
open Go
theorem OM(k:Nat):((2^k:Nat):Int)=(2:Int)^k:=by simp
theorem Z8(k:Nat)(h:k<64):1≤2^k∧2^k≤9223372036854775808:=by
 have a:=Q7 (n:=k)
 have b:(2:Nat)^k≤2^63:=G9 Ae Y
 omega
def maskN(k:Int):Nat:=2^(min k.toNat 64)-1
def mask(k:Int):Int:=(maskN k:Nat)
theorem aeW(k:Int):maskN k<18446744073709551616:=by
 have h:(2:Nat)^(min k.toNat 64)≤2^64:=G9 Ae (Nat.min_le_right _ _)
 have:=Q7 (n:=min k.toNat 64)
 unfold maskN;omega
theorem ZC(k:Int):0≤mask k:=Int.natCast_nonneg _
theorem aia(k:Int):mask k≤18446744073709551615:=by have:=aeW k;unfold mask;omega
theorem amL(k:Int)(h:k≤0):mask k=0:=by
 have:k.toNat=0:=Y
 unfold mask maskN;rw[this];simp
theorem aoL(k:Int)(h:64≤k):mask k=18446744073709551615:=by
 have:min k.toNat 64=64:=Y
 unfold mask maskN;rw[this];decide
theorem akZ(k:Int)(h:0<k)(h2:k<64):IntKind.u64.wrap (IntKind.u64.wrap (2^k.toNat)-1)=mask k:=by
 have e:min k.toNat 64=k.toNat:=Y
 have:=Z8 k.toNat Y
 have c:=OM k.toNat
 unfold mask maskN
 rw[e,IntKind.wrap_u64,IntKind.wrap_u64,←c]
 omega
theorem ab6(k:Int)(i:Nat):(maskN k).testBit i=decide (i<min k.toNat 64):=by
 unfold maskN;exact MC ..
def ofBits(f:Nat→Bool):Nat→Nat
 |0=>0
 |m+1=>ofBits f m+(if f m then 2^m else 0)
theorem YW(f:Nat→Bool)(m:Nat):ofBits f m<2^m:=by
 induction m with
 |zero=>simp[ofBits]
 |succ m ih=>unfold ofBits;split<;>(rw[LG];omega)
theorem OO(f:Nat→Bool)(m i:Nat):(ofBits f m).testBit i=(decide (i<m)&&f i):=by
 induction m with
 |zero=>simp[ofBits]
 |succ m ih=>
  unfold ofBits
  have hl:=YW f m
  have e:ofBits f m+(if f m then 2^m else 0)=2^m*(if f m then 1 else 0)+ofBits f m:=by split<;>omega
  rw[e,Gi _ hl]
  by_cases h:i<m
  ·rw[if_pos h,ih];simp[h,Nat.lt_succ_of_lt h]
  ·rw[if_neg h]
   by_cases h2:i=m
   ·subst h2;cases f i<;>simp
   ·have:¬i<m+1:=Y
    have h3:i-m≠0:=Y
    simp only[this,decide_false,Jf]
    split
    ·obtain⟨j,hj⟩:=Lu h3
     rw[hj,IW];simp
    ·simp
theorem abD(x i:Nat)(h:x<18446744073709551616)(hi:64≤i):x.testBit i=false:=
 JF (Gh h (by have:(2:Nat)^64≤2^i:=G9 Ae hi;simpa using this))
def ao2(x:Nat)(a:Int)(k:Int):Nat:=if 0≤a∧a<64 then(x>>>a.toNat)&&&maskN k else 0
def get(x a k:Int):Int:=(ao2 x.toNat a k:Nat)
theorem ah9(x a k:Int)(h:a<0∨64≤a):get x a k=0:=by unfold get ao2;rw[if_neg Y];rfl
theorem arZ(x a k:Int)(hx:0≤x)(hx2:x≤18446744073709551615)(h:¬a<0)(h2:a<64):
 bits .and .u64 (x/2^a.toNat) (mask k)=get x a k:=by
 obtain⟨X,rfl⟩:=Bo hx
 have e:((X:Int)/2^a.toNat)=((X/2^a.toNat:Nat):Int):=by rw[←OM];exact(Lj ..).symm
 have hl:X/2^a.toNat≤X:=N9 _ _
 rw[e]
 unfold mask
 rw[u64_and_nat _ _ Y (aeW k)]
 unfold get ao2
 rw[if_pos Y,IJ]
 rfl
def akq(x:Nat)(a k:Int)(n:Nat):Nat:=
 if 0≤a∧a<64 then ofBits (fun i=>if a.toNat≤i∧i<a.toNat+k.toNat then n.testBit (i-a.toNat)else x.testBit i) 64 else x
def put(x a k n:Int):Int:=(akq x.toNat a k n.toNat:Nat)
theorem V9(x a k n:Int)(hx:0≤x)(h:a<0∨64≤a):put x a k n=x:=by unfold put akq;rw[if_neg Y];omega
theorem afJ(X:Nat):IntKind.u64.wrap (X:Int)=((X%18446744073709551616:Nat):Int):=by rw[IntKind.wrap_u64];omega
theorem abh(X:Nat)(s:Nat):IntKind.u64.wrap ((X:Int)*2^s)=((X*2^s%18446744073709551616:Nat):Int):=by
 rw[←OM,←GK,afJ]
theorem Vy(X s i:Nat):(X*2^s%18446744073709551616).testBit i=(decide (i<64)&&(decide (s≤i)&&X.testBit (i-s))):=by
 have e:18446744073709551616=2^64:=by decide
 rw[e,Ik,JG,Tn]
theorem VB(x a k n:Int)(hx:0≤x)(hx2:x≤18446744073709551615)(hn:0≤n)(hn2:n≤18446744073709551615)(h:¬a<0)(h2:a<64):
 bits .or .u64 (bits .andNot .u64 x (IntKind.u64.wrap (mask k*2^a.toNat))) (bits .and .u64 (IntKind.u64.wrap (n*2^a.toNat)) (IntKind.u64.wrap (mask k*2^a.toNat)))=put x a k n:=by
 obtain⟨X,rfl⟩:=Bo hx
 obtain⟨N,rfl⟩:=Bo hn
 unfold mask
 rw[abh,abh]
 have hm:maskN k*2^a.toNat%18446744073709551616<18446744073709551616:=QI _ Ae
 have hN:N*2^a.toNat%18446744073709551616<18446744073709551616:=QI _ Ae
 have bm:=fun i=>Vy (maskN k) a.toNat i
 have bN:=fun i=>Vy N a.toNat i
 generalize maskN k*2^a.toNat%18446744073709551616=M at*
 generalize N*2^a.toNat%18446744073709551616=NN at*
 rw[u64_andNot_nat _ _ Y hm,u64_and_nat _ _ hN hm]
 have l1:X&&&(18446744073709551615-M)<18446744073709551616:=QM NW Y
 have l2:NN&&&M<18446744073709551616:=QM NW hN
 rw[u64_or_nat _ _ l1 l2]
 unfold put akq
 rw[if_pos Y]
 congr 1
 apply Ep
 intro i
 rw[OO,VK,LU,LU]
 have e:18446744073709551615-M=2^64-(M+1):=Y
 rw[e,Jz (by simpa using hm),bm,bN,ab6]
 by_cases h64:i<64
 ·by_cases ha:a.toNat≤i
  ·by_cases hk:i<a.toNat+k.toNat
   ·have h1:i-a.toNat<min k.toNat 64:=Y
    simp[h64,ha,hk,h1]
   ·have h1:¬i-a.toNat<min k.toNat 64:=Y
    simp[h64,ha,hk,h1]
  ·simp[h64,ha]
 ·have axr:=abD X i Y Y
  simp[h64,axr]
def fits(n k:Int):Bool:=n.toNat&&&(18446744073709551615-maskN k)==0
def bit(x i:Int):Bool:=x.toNat.testBit i.toNat
def hf(X j:Nat):Int:=((X/2^j:Nat):Int)
end Bt
end
section
namespace By
open Go Go.RowKit
def rest(x:Int)(j:Nat):Int:=((x.toNat/256^j:Nat):Int)
def byteAt(x:Int)(j:Nat):Int:=rest x j%256
def Nu(x:Int)(k:Nat):List Int:=(List.range k).map (byteAt x)
def bytes(xs:List Int):List Int:=xs.flatMap fun x=>Nu x 8
theorem anT(x:Int)(j:Nat)(h:x≤18446744073709551615):0≤rest x j∧rest x j≤18446744073709551615:=by
 have:x.toNat/256^j≤x.toNat:=N9 _ _
 unfold rest
 generalize x.toNat/256^j=r at*
 omega
theorem akH(x:Int)(h:0≤x):rest x 0=x:=by unfold rest;simp;omega
theorem ajJ(x:Int)(j:Nat):rest x j/256=rest x (j+1):=by
 unfold rest
 rw[LG,←Uw]
 generalize x.toNat/256^j=r at*
 omega
theorem ano(x:Int)(j:Nat)(h:0≤x):x/2^(8*j)=rest x j:=by
 obtain⟨X,rfl⟩:=Bo h
 have e:(2:Nat)^(8*j)=256^j:=by rw[Nat.pow_mul]
 unfold rest
 rw[←Bt.OM,e,Bz]
 exact(Lj ..).symm
theorem adf(x:Int)(j:Nat):0≤byteAt x j∧byteAt x j≤255:=by unfold byteAt;omega
theorem adP(x:Int):Nu x 0=[]:=rfl
theorem aeO(x:Int)(k:Nat):Nu x (k+1)=Nu x k++ [byteAt x k]:=by unfold Nu;rw[LW,BU];rfl
theorem Rz(x:Int)(k:Nat):(Nu x k).length=k:=by unfold Nu;simp
theorem agW(xs:List Int)(x:Int):bytes (xs++ [x])=bytes xs++Nu x 8:=by unfold bytes;simp
theorem Wh(xs:List Int):(bytes xs).length=8*xs.length:=by
 induction xs with
 |nil=>rfl
 |cons x xs ih=>unfold bytes at*;rw[FW,Cm,ih,Rz,Em];omega
theorem agx(x:Int)(k:Nat):∀b∈Nu x k,0≤b∧b≤255:=by
 intro b hb
 unfold Nu at hb
 obtain⟨j,_,rfl⟩:=BX.1 hb
 exact adf x j
theorem PY(xs:List Int):∀b∈bytes xs,0≤b∧b≤255:=by
 intro b hb
 unfold bytes at hb
 obtain⟨x,_,hx⟩:=TI.1 hb
 exact agx x 8 b hx
theorem amd(xs:List Int)(b:Int)(k:IntKind):(xs++ [b]).map (Value.int k)=xs.map (Value.int k)++ [.int k b]:=by simp
def low(bs:List Int)(i:Nat):Nat→Int
 |0=>0
 |t+1=>low bs i t+bs.getD (i+t) 0*256^t
def word(bs:List Int)(j:Nat):Int:=low bs (8*j) 8
def words(bs:List Int):List Int:=(List.range ((bs.length+7)/8)).map (word bs)
def Nz(bs:List Int):Prop:=∀b∈bs,0≤b∧b≤255
theorem aiG(bs:List Int)(h:Nz bs)(i:Nat):0≤bs.getD i 0∧bs.getD i 0≤255:=by
 rw[Ba]
 rcases Ie i bs.length with hi|hi
 ·rw[Ar hi];exact h _ (FT hi)
 ·rw[DC hi];simp
theorem agL(bs:List Int)(h:Nz bs)(i t:Nat):0≤low bs i t∧low bs i t<256^t:=by
 induction t with
 |zero=>simp[low]
 |succ t ih=>
  have hb:=aiG bs h (i+t)
  have p:(0:Int)≤256^t:=Int.pow_nonneg Y
  have a:0≤bs.getD (i+t) 0*256^t:=Int.mul_nonneg hb.1 p
  have b:bs.getD (i+t) 0*256^t≤255*256^t:=Po hb.2 p
  rw[low,Int.pow_succ]
  omega
theorem e8:(256:Int)^8=18446744073709551616:=by decide
theorem apN(bs:List Int)(h:Nz bs)(j:Nat):0≤word bs j∧word bs j≤18446744073709551615:=by
 have:=agL bs h (8*j) 8
 rw[e8]at this
 unfold word
 generalize low bs (8*j) 8=q at*
 omega
theorem Tq(bs:List Int):(words bs).length=(bs.length+7)/8:=by simp[words]
theorem words_wf(bs:List Int)(h:Nz bs):∀x∈words bs,0≤x∧x≤18446744073709551615:=by
 intro x hx
 obtain⟨j,_,rfl⟩:=BX.1 hx
 exact apN bs h j
theorem abg(m:Nat):((256^m:Nat):Int)=256^m:=by
 induction m with
 |zero=>rfl
 |succ m ih=>rw[LG,GK,ih,Int.pow_succ];rfl
theorem X7(bs:List Int)(i t n:Nat)(h:i+t≤n):low (bs.take n) i t=low bs i t:=by
 induction t with
 |zero=>rfl
 |succ t ih=>
  rw[low,low,ih Y,Ba,Ba,Et Y]
theorem TQ(bs:List Int)(i t s:Nat)(h:bs.length≤i+s)(hs:s≤t):low bs i t=low bs i s:=by
 induction t with
 |zero=>
  obtain rfl:s=0:=Y
  rfl
 |succ t ih=>
  rcases Ie t s with h1|h1
  ·obtain rfl:s=t+1:=Y
   rfl
  ·rw[low,ih h1,Ba,DC Y];simp
def fill(bs:List Int)(N n:Nat):List Int:=(List.range N).map (word (bs.take n))
theorem akv(bs:List Int)(N:Nat):fill bs N 0=List.replicate N 0:=by
 apply FU
 ·simp[fill]
 ·intro i h1 h2
  simp[fill,word,low]
theorem alP(bs:List Int)(n:Nat)(h:bs.length≤n):fill bs ((bs.length+7)/8) n=words bs:=by
 unfold fill words;rw[Ez h]
theorem an5(bs:List Int)(N n:Nat)(h:n/8<N):(fill bs N n)[n/8]? =some (low bs (8*(n/8)) (n%8)):=by
 have e:word (bs.take n) (n/8)=low bs (8*(n/8)) (n%8):=by
  unfold word
  rw[TQ (bs.take n) (8*(n/8)) 8 (n%8) Af Y,X7 _ _ _ _ Y]
 simp[fill,h,e]
theorem akO(bs:List Int)(N n:Nat)(b:Int)(hb:bs[n]? =some b)(h:n/8<N):
 fill bs N (n+1)=(fill bs N n).set (n/8) (low bs (8*(n/8)) (n%8)+b*256^(n%8)):=by
 apply FU
 ·simp[fill]
 ·intro j h1 h2
  rw[List.getElem_set]
  simp only[fill,Hr,J7]
  by_cases e:n/8=j
  ·subst e
   rw[if_pos rfl]
   unfold word
   rw[TQ (bs.take (n+1)) (8*(n/8)) 8 (n%8+1) Af Y,X7 _ _ _ _ Y,low,Ba,show 8*(n/8)+n%8=n from by omega,hb]
   rfl
  ·rw[if_neg e]
   unfold word
   rcases Ie n (8*j)with g|g
   ·rw[TQ (bs.take (n+1)) (8*j) 8 0 Af Y,TQ (bs.take n) (8*j) 8 0 Af Y];rfl
   ·rw[X7 _ _ _ _ Y,X7 _ _ _ _ Y]
theorem MW(x:Int)(t:Nat):rest x t=byteAt x t+256*rest x (t+1):=by
 have:=ajJ x t
 unfold byteAt;omega
theorem aki(x:Int)(hx:0≤x)(f:Nat→Int)(h:∀t,t<8→f t=byteAt x t):f 0+f 1*256+f 2*65536+f 3*16777216+f 4*4294967296+f 5*1099511627776+f 6*281474976710656+f 7*72057594037927936+18446744073709551616*rest x 8=x:=by
 have h0:=MW x 0
 have h1:=MW x 1
 have h2:=MW x 2
 have h3:=MW x 3
 have h4:=MW x 4
 have h5:=MW x 5
 have h6:=MW x 6
 have h7:=MW x 7
 have hz:=akH x hx
 simp only[DT,Nat.reduceAdd]at h0 h1 h2 h3 h4 h5 h6 h7
 rw[h 0 Y,h 1 Y,h 2 Y,h 3 Y,h 4 Y,h 5 Y,h 6 Y,h 7 Y]
 omega
theorem adi(xs:List Int)(j t:Nat)(x:Int)(hx:xs[j]? =some x)(ht:t<8):(bytes xs)[8*j+t]? =some (byteAt x t):=by
 induction xs generalizing j with
 |nil=>simp at hx
 |cons y ys ih=>
  have e:bytes (y::ys)=Nu y 8++bytes ys:=by unfold bytes;rw[FW]
  rw[e]
  match j with
  |0=>
   simp at hx;subst hx
   rw[Ej (by rw[Rz];omega)]
   simp[Nu,ht]
  |j+1=>
   simp at hx
   rw[D8 (by rw[Rz];omega),Rz,show 8*(j+1)+t-8=8*j+t from by omega]
   exact ih j hx
theorem auU(x:Int)(h:x≤18446744073709551615)(h0:0≤x):rest x 8=0:=by
 unfold rest
 have e:(256:Nat)^8=18446744073709551616:=by decide
 rw[e];omega
theorem ahC(xs:List Int)(j:Nat)(x:Int)(hx:xs[j]? =some x)(h0:0≤x)(h1:x≤18446744073709551615):word (bytes xs) j=x:=by
 have hg:∀t,t<8→(bytes xs).getD (8*j+t) 0=byteAt x t:=by
  intro t ht
  rw[Ba,adi xs j t x hx ht];rfl
 have hs:=aki x h0 (fun t=>(bytes xs).getD (8*j+t) 0) hg
 rw[auU x h1 h0]at hs
 have e1:(256:Int)^1=256:=by decide
 have e2:(256:Int)^2=65536:=by decide
 have e3:(256:Int)^3=16777216:=by decide
 have e4:(256:Int)^4=4294967296:=by decide
 have e5:(256:Int)^5=1099511627776:=by decide
 have e6:(256:Int)^6=281474976710656:=by decide
 have e7:(256:Int)^7=72057594037927936:=by decide
 unfold word
 rw[low,low,low,low,low,low,low,low,low]
 rw[Int.pow_zero,e1,e2,e3,e4,e5,e6,e7]
 generalize(bytes xs).getD (8*j+0) 0=f0 at*
 generalize(bytes xs).getD (8*j+1) 0=f1 at*
 generalize(bytes xs).getD (8*j+2) 0=f2 at*
 generalize(bytes xs).getD (8*j+3) 0=f3 at*
 generalize(bytes xs).getD (8*j+4) 0=f4 at*
 generalize(bytes xs).getD (8*j+5) 0=f5 at*
 generalize(bytes xs).getD (8*j+6) 0=f6 at*
 generalize(bytes xs).getD (8*j+7) 0=f7 at*
 omega
theorem agh(xs:List Int)(h:∀x∈xs,0≤x∧x≤18446744073709551615):words (bytes xs)=xs:=by
 apply FU
 ·rw[Tq,Wh];omega
 ·intro j h1 h2
  simp only[words,Hr,J7]
  have:=h _ (FT h2)
  exact ahC xs j _ (Ar h2) this.1 this.2
theorem aoP(x b:Int)(r:Nat)(hx:0≤x)(hx2:x<256^r)(hb:0≤b):((x.toNat|||(b.toNat<<<(8*r)):Nat):Int)=x+b*256^r:=by
 obtain⟨X,rfl⟩:=Bo hx
 obtain⟨B,rfl⟩:=Bo hb
 have e:(2:Nat)^(8*r)=256^r:=by rw[Nat.pow_mul]
 have hx3:X<2^(8*r):=by rw[e];rw[←abg]at hx2;exact XJ.1 hx2
 simp only[Bz]
 rw[Nat.or_comm,←Nat.shiftLeft_add_eq_or_of_lt hx3,Nat.shiftLeft_eq,e]
 rw[UM,GK,abg]
 exact Int.add_comm _ _
theorem aot(x d:Int)(r:Nat)(hr:r≤7)(hx:0≤x)(hx2:x<256^r)(hd:0≤d)(hd2:d≤255):bits .or .u64 x (IntKind.u64.wrap (d*2^(8*r)))=x+d*256^r:=by
 rw[←aoP x d r hx hx2 hd]
 obtain⟨X,rfl⟩:=Bo hx
 obtain⟨D,rfl⟩:=Bo hd
 have e:(2:Nat)^(8*r)=256^r:=by rw[Nat.pow_mul]
 have h7:(256:Nat)^r≤256^7:=G9 Y hr
 have e7:(256:Nat)^7=72057594037927936:=by decide
 have hD:D*2^(8*r)≤255*72057594037927936:=by rw[e];exact Nat.mul_le_mul Y Y
 have hX:X<256^r:=by rw[←abg]at hx2;exact XJ.1 hx2
 have e2:((D:Int)*2^(8*r))=((D*2^(8*r):Nat):Int):=by rw[GK,Bt.OM]
 rw[e2,IntKind.wrap_u64]
 have e3:(((D*2^(8*r):Nat):Int)%18446744073709551616)=((D*2^(8*r):Nat):Int):=Y
 rw[e3,bits_or_u64_nat _ _ Y Y,Bz,Bz,Nat.shiftLeft_eq]
end By
end
section
section
open Go.RowKit
theorem acX(A:Option Addr)(len cap:Nat)(xs:List Int)(B:Nat)(w:World)(hr:Gv w B A len (xs.map (Value.int .u64)))(hi:Ints .u64 xs)(hl:len≤1099511627776)(hB:B≤w.heap.size):
 Calls prog 49 #[.slice A len cap] w fun e w'=>∃v,e= .returned v∧w'.ownsRow w.heap.size 5 1 v (8*len) ((By.bytes xs).map (Value.int .u8))∧Below w.heap.size w w':=by
 obtain⟨i0,hi0,hz0,hz1,hz2⟩:=info_parts aob
 have HI:=Lib.hid hi
 have HR:=Lib.hid hr
 have hlen:xs.length=len:=by simpa using hr.1
 have HL:=Lib.hid hlen
 clear hi hr hlen
 go_enter func49,Tryz.ntmps49
 go_wp2_with (first
  |(at_make;refine wpList_make_own (P:=prog) _ rfl _ _ 39 rfl w.heap.size 5 i0 (.int .u8 0) 1 underlying39 hi0 hz0 hz1 .i64 .i64 (8*(len:Int)) (8*len) rfl rfl Y (by rw[hz2];omega) zZ (Bg _) ?_;intro w1 hown0 hg0))
 have hb0:Below w.heap.size w w1:=(Below.refl _ _).grown hg0 (Bg _) (by intro k hk;cases hk)
 clear hg0
 go_loopw [3,5,6,13,17] (fun v _a _b t _c wr=>∃j:Nat,j≤len∧t= .int .i64 j∧wr.ownsRow w.heap.size 5 1 v (8*j) ((By.bytes (xs.take j)).map (Value.int .u8))∧Below w.heap.size w wr) (fun _ _ _ t _ _=>len-(intOf t).toNat)
 case atStart=>exact⟨0,Y,rfl,hown0,hb0⟩
 case round=>
  clear hown0 hb0
  obtain⟨j,hj,rfl,hown,hbe⟩:=hrel
  have hsz:=hbe.size
  by_cases hlt:j<len
  ·obtain⟨b,off,z,rfl,hbl,hz,hwz,hc⟩:=HR.out.int HI.out hlt
   have hzb:=bounds_u64 hwz
   have hc2:=(hbe.cell (p:=⟨b,off+j,none⟩) Af).trans hc
   have HT:=Lib.hid (UD hz)
   clear hz hwz hc
   go_wp2_with fail
   go_loopw [3,6,17] (fun v _b t wr=>∃k:Nat,k≤8∧t= .int .i64 k∧wr.ownsRow w.heap.size 5 1 v (8*j+k) ((By.bytes (xs.take j)++By.Nu z k).map (Value.int .u8))∧Below w.heap.size w wr) (fun _ _ t _=>8-(intOf t).toNat)
   case atStart=>exact⟨0,Y,rfl,by rw[By.adP,Du];exact hown,hbe⟩
   case round=>
    clear hown hbe hc2 hsz
    obtain⟨k,hk,rfl,hown,hbe⟩:=hrel
    have hsz:=hbe.size
    have hkb:=By.anT z k hzb.2
    have hbs:=Lib.hid (By.aeO z k)
    by_cases hlk:k<8
    ·have hba:By.rest z k%256=By.byteAt z k:=rfl
     have hbb:=By.adf z k
     have HBA:=Lib.hid hba
     clear hba
     have hsh:=By.ano z k hzb.1
     go_wp2_with (first
      |(at_builtin;refine aeZ (P:=prog) rfl (.tmp 20) (.tmp 27) 39 rfl w.heap.size 5 i0 (.int .u8 0) 1 underlying39 hi0 hz0 hz1 hz2 rfl _ _ _ rfl hown _ _ rfl rfl zZ Y hsz w.heap.size w hbe (Bg _) ?_;intro v' w' hown' aw' hlt' _))
     clear hsh
     go_roundw
     case rel=>
      refine⟨k+1,Y,by go_num,?_,aw'⟩
      rw[hbs.out,←DI,By.amd,←HBA.out]
      exact hown'
     case measure=>simp[intOf];omega
    ·obtain rfl:k=8:=Y
     go_wp2_with fail
     go_roundw
     case rel=>
      refine⟨j+1,Y,by go_num,?_,hbe⟩
      rw[HT.out,By.agW]
      exact hown
     case measure=>simp[intOf];omega
  ·go_wp2_with fail
   go_ret
   obtain rfl:j=len:=Y
   rw[Ez (by rw[HL.out];exact Bg _)]at hown
   exact⟨_,rfl,hown,hbe⟩
end
end
section
namespace Sl
open Go Go.RowKit
def sum(n q:Int):Int:=Cr.more 0 (By.bytes [n,q])
theorem Sr(n q:Int):0≤Cr.more 0 (By.bytes [n,q])∧Cr.more 0 (By.bytes [n,q])≤4294967295:=Cr.WH 0 _ Y Y (By.PY _)
def sealed(n p:Int):Int:=sum n (IntKind.u64.wrap p)*4294967296+n
theorem aix(n p:Int)(h1:0≤n)(h2:n≤4294967295):0≤sealed n p∧sealed n p≤18446744073709551615:=by
 have:=Sr n (IntKind.u64.wrap p)
 unfold sealed sum;omega
theorem Yv(n p:Int)(h1:0≤n)(h2:n≤4294967295):sealed n p%4294967296=n:=by unfold sealed;omega
theorem am3(n p q:Int)(hq:IntKind.u64.wrap p=q):Cr.more 0 (By.bytes [n,q])*4294967296+n=sealed n p:=by unfold sealed sum;rw[hq]
theorem aso(s n:Nat)(h:n<4294967296):s*4294967296|||n=s*4294967296+n:=by
 rw[JG,show(4294967296:Nat)=2^32 from rfl,Qy Y]
theorem aks(n p q:Int)(h1:0≤n)(h2:n≤4294967295)(hq:IntKind.u64.wrap p=q):bits .or .u64 (Cr.more 0 (By.bytes [n,q])*4294967296) n=sealed n p:=by
 rw[←am3 n p q hq]
 have hb:=Sr n q
 generalize Cr.more 0 (By.bytes [n,q])=s at*
 obtain⟨S,rfl⟩:=Bo hb.1
 obtain⟨N,rfl⟩:=Bo h1
 have e:(S:Int)*4294967296=((S*4294967296:Nat):Int):=(GK S 4294967296).symm
 rw[e,u64_or_nat _ _ Y Y,aso _ _ Y]
 omega
def LX(x p:Int):Bool:=decide (sealed (x%4294967296) p=x)
def adx(x p:Int):Int:=if LX x p then x%4294967296 else 0
theorem aa9(x p:Int)(h:LX x p=false):adx x p=0:=by unfold adx;rw[h];rfl
theorem Wv(x p:Int)(h:LX x p=true):adx x p=x%4294967296:=by unfold adx;rw[h];rfl
theorem ak9(x p:Int)(h:LX x p=false):(sealed (x%4294967296) p !=x)=true:=by unfold LX at h;simpa using h
theorem ajk(x p:Int)(h:LX x p=true):(sealed (x%4294967296) p !=x)=false:=by unfold LX at h;simpa using h
theorem adl(n p:Int)(h1:0≤n)(h2:n≤4294967295):LX (sealed n p) p=true∧adx (sealed n p) p=n:=by
 have e:LX (sealed n p) p=true:=by unfold LX;rw[Yv n p h1 h2];simp
 exact⟨e,by rw[Wv _ _ e,Yv n p h1 h2]⟩
end Sl
end
section
section
open Go.RowKit
theorem ae4(k:Int)(w:World)(h1: -9223372036854775808≤k)(h2:k≤9223372036854775807):
 Calls prog 248 #[.int .i64 k] w fun e w'=>e= .returned (.int .u64 (Bt.mask k))∧w=w':=by
 by_cases a:k≤0
 ·go_enter func248,Tryz.ntmps248
  go_wp2
  go_ret
  exact⟨FB (by rw[Bt.amL k a]),rfl⟩
 ·by_cases b:64≤k
  ·go_enter func248,Tryz.ntmps248
   go_wp2
   go_ret
   exact⟨FB (by rw[Bt.aoL k b]),rfl⟩
  ·go_enter func248,Tryz.ntmps248
   go_wp2
   go_ret
   exact⟨FB (Bt.akZ k Y Y),rfl⟩
theorem get_any(x a k:Int)(w:World)(x1:0≤x)(x2:x≤18446744073709551615)(a1: -9223372036854775808≤a)(a2:a≤9223372036854775807)(h1: -9223372036854775808≤k)(h2:k≤9223372036854775807):
 Calls prog 200 #[.int .u64 x,.int .i64 a,.int .i64 k] w fun e w'=>e= .returned (.int .u64 (Bt.get x a k))∧w=w':=by
 have m1:=Bt.ZC k
 have m2:=Bt.aia k
 by_cases c:a<0
 ·go_enter func200,Tryz.ntmps200
  go_wp2_with fail
  go_ret
  exact⟨FB (Bt.ah9 x a k (.inl c)).symm,rfl⟩
 ·by_cases b:64≤a
  ·go_enter func200,Tryz.ntmps200
   go_wp2_with fail
   go_ret
   exact⟨FB (Bt.ah9 x a k (.inr b)).symm,rfl⟩
  ·go_enter func200,Tryz.ntmps200
   go_wp2_with fail
   refine(ae4 _ _ Y Y).mono ?_
   rintro e w' ⟨rfl,rfl⟩
   go_wp2_with fail
   go_ret
   exact⟨FB (Bt.arZ x a k x1 x2 Y Y),rfl⟩
theorem put_any(x a k n:Int)(w:World)(x1:0≤x)(x2:x≤18446744073709551615)(a1: -9223372036854775808≤a)(a2:a≤9223372036854775807)(h1: -9223372036854775808≤k)(h2:k≤9223372036854775807)
 (n1:0≤n) (n2:n≤18446744073709551615):
 Calls prog 224 #[.int .u64 x,.int .i64 a,.int .i64 k,.int .u64 n] w fun e w'=>e= .returned (.int .u64 (Bt.put x a k n))∧w=w':=by
 have m1:=Bt.ZC k
 have m2:=Bt.aia k
 by_cases c:a<0
 ·go_enter func224,Tryz.ntmps224
  go_wp2_with fail
  go_ret
  exact⟨FB (Bt.V9 x a k n x1 (.inl c)).symm,rfl⟩
 ·by_cases b:64≤a
  ·go_enter func224,Tryz.ntmps224
   go_wp2_with fail
   go_ret
   exact⟨FB (Bt.V9 x a k n x1 (.inr b)).symm,rfl⟩
  ·go_enter func224,Tryz.ntmps224
   go_wp2_with fail
   refine(ae4 _ _ Y Y).mono ?_
   rintro e w' ⟨rfl,rfl⟩
   go_wp2_with fail
   go_ret
   exact⟨FB (Bt.VB x a k n x1 x2 n1 n2 Y Y),rfl⟩
end
end
section
namespace Bt
open Go
theorem ad9(x:Nat)(a k:Int)(n:Nat)(i:Nat)(h:0≤a)(h2:a<64):
 (akq x a k n).testBit i=(decide (i<64)&&if a.toNat≤i∧i<a.toNat+k.toNat then n.testBit (i-a.toNat)else x.testBit i):=by
 unfold akq
 rw[if_pos ⟨h,h2⟩,OO]
end Bt
end
section
namespace Oh
open Go Go.RowKit
theorem akk(x a k n:Nat)(h:a+k≤64)(ha:a<64)(hx:x<2^a)(hn:n<2^k):Bt.akq x a k n=2^a*n+x:=by
 apply Ep
 intro i
 rw[Bt.ad9 _ _ _ _ _ Y Y,Gi _ hx,Bz,Bz]
 by_cases h1:i<a
 ·have c:¬(a≤i∧i<a+k):=Y
  rw[if_neg c,if_pos h1]
  have:i<64:=Y
  simp[this]
 ·rw[if_neg h1]
  by_cases h2:i<a+k
  ·rw[if_pos ⟨Y,h2⟩]
   have:i<64:=Y
   simp[this]
  ·rw[if_neg Y]
   have e1:x.testBit i=false:=JF (Gh hx (G9 Ae Y))
   have e2:n.testBit (i-a)=false:=JF (Gh hn (G9 Ae Y))
   rw[e1,e2];simp
theorem XY(x n:Int)(a k:Nat)(h:a+k≤64)(ha:a<64)(h0:0≤x)(hx:x<2^a)(hn0:0≤n)(hn:n<2^k):Bt.put x a k n=2^a*n+x:=by
 obtain⟨X,rfl⟩:=Bo h0
 obtain⟨N,rfl⟩:=Bo hn0
 rw[←Bt.OM]at*
 unfold Bt.put
 rw[Bz,Bz,akk X a k N h ha Y Y]
 rw[UM,GK]
theorem Ye(x:Int)(a k:Nat)(ha:a<64)(hk:k≤64)(h0:0≤x):Bt.get x a k=x/2^a%2^k:=by
 obtain⟨X,rfl⟩:=Bo h0
 unfold Bt.get Bt.ao2
 rw[if_pos Y,Bz,Bz,IJ]
 have e:Bt.maskN k=2^k-1:=by unfold Bt.maskN;rw[Bz,KA hk]
 rw[e,Nat.and_two_pow_sub_one_eq_mod,←Bt.OM,←Bt.OM,Int.natCast_emod,Lj]
theorem avZ(p d:Int)(h1:0≤p)(h2:p≤63)(h3:0≤d)(h4:d≤16384):
 Bt.put 165 8 6 p=165+256*p∧Bt.put (165+256*p) 14 15 d=165+256*p+16384*d:=by
 have a:=XY 165 p 8 6 Ae Ae Y Ae h1 Y
 have b:=XY (165+256*p) d 14 15 Ae Ae Y Y h3 Y
 have e1:((8:Nat):Int)=8:=rfl
 have e2:((6:Nat):Int)=6:=rfl
 have e3:((14:Nat):Int)=14:=rfl
 have e4:((15:Nat):Int)=15:=rfl
 rw[e1,e2]at a
 rw[e3,e4]at b
 rw[a,b]
 omega
def enc(p d at_:Int):Int:=if Cl.size p d=0 then 0 else Sl.sealed (165+256*p+16384*d) at_
theorem V5(p d at_:Int)(h:p<0∨p>63∨d<0∨d>16384):enc p d at_=0:=by unfold enc;rw[if_pos (Cl.QU p d h).1]
theorem Rh(p d at_:Int)(h1:0≤p)(h2:p≤63)(h3:0≤d)(h4:d≤16384):enc p d at_=Sl.sealed (165+256*p+16384*d) at_:=by
 unfold enc;rw[if_neg (by rw[(Cl.LY p d h1 h2 h3 h4).1];omega)]
theorem aa'(p d at_:Int):0≤enc p d at_∧enc p d at_≤18446744073709551615:=by
 by_cases h:p<0∨p>63∨d<0∨d>16384
 ·rw[V5 p d at_ h];omega
 ·rw[Rh p d at_ Y Y Y Y]
  exact Sl.aix _ _ Y Y
def TL(x:Int):Int:=x%4294967296/256%64
def SX(x:Int):Int:=x%4294967296/16384%32768
theorem aec(x:Int):0≤TL x∧TL x≤63∧0≤SX x∧SX x≤32767:=by unfold TL SX;omega
theorem adD(x:Int):Bt.get (x%4294967296) 8 6=TL x∧Bt.get (x%4294967296) 14 15=SX x:=by
 have a:=Ye (x%4294967296) 8 6 Ae Ae Y
 have b:=Ye (x%4294967296) 14 15 Ae Ae Y
 exact⟨a,b⟩
def Qs(x at_:Int):Bool:=Sl.LX x at_&&decide (enc (TL x) (SX x) at_=x)
def MZ(x at_:Int):Int:=if Sl.LX x at_ then(if enc (TL x) (SX x) at_=x then 0 else 26)else 25
def decP(x at_:Int):Int:=if Qs x at_ then TL x else 0
def Tt(x at_:Int):Int:=if Qs x at_ then SX x else 0
theorem Uj(x at_:Int)(h:Sl.LX x at_=false):MZ x at_=25∧decP x at_=0∧Tt x at_=0:=by
 unfold MZ decP Tt Qs;rw[h];simp
theorem WE(x at_:Int)(h:Sl.LX x at_=true)(h2:enc (TL x) (SX x) at_≠x):MZ x at_=26∧decP x at_=0∧Tt x at_=0:=by
 unfold MZ decP Tt Qs;rw[h];simp[h2]
theorem QC(x at_:Int)(h:Sl.LX x at_=true)(h2:enc (TL x) (SX x) at_=x):MZ x at_=0∧decP x at_=TL x∧Tt x at_=SX x:=by
 unfold MZ decP Tt Qs;rw[h];simp[h2]
theorem afQ(x at_:Int)(h:Cl.size (TL x) (SX x)=0)(h0:0≤x):enc (TL x) (SX x) at_≠x:=by
 intro e
 unfold enc at e
 rw[if_pos h]at e
 have hx:x=0:=e.symm
 rw[hx]at h
 revert h
 decide
theorem Qx(p d at_:Int)(h1:0≤p)(h2:p≤63)(h3:0≤d)(h4:d≤16384):MZ (enc p d at_) at_=0∧decP (enc p d at_) at_=p∧Tt (enc p d at_) at_=d:=by
 have e:=Rh p d at_ h1 h2 h3 h4
 have hm:=Sl.Yv (165+256*p+16384*d) at_ Y Y
 have ho:=(Sl.adl (165+256*p+16384*d) at_ Y Y).1
 have rp:TL (enc p d at_)=p:=by unfold TL;rw[e,hm];omega
 have rd:SX (enc p d at_)=d:=by unfold SX;rw[e,hm];omega
 have r:=QC (enc p d at_) at_ (by rw[e];exact ho) (by rw[rp,rd])
 rw[rp,rd]at r
 exact r
def inB(i n:Int):Bool:=decide (0≤i∧i<n)
theorem aap(i n:Int)(h:0≤i)(h2:i<n):inB i n=true:=by unfold inB;simp;omega
theorem adM(i n:Int)(h:i<0∨n≤i):inB i n=false:=by unfold inB;simp;omega
end Oh
end
section
section
open Go.RowKit
theorem ahw(w:World)(cs:Array Value)(T:TypeId)(i:Nat)(u:Value)(h:cs[i]? =some u):(w.alloc (.cells cs T)).cell? ⟨w.heap.size,i,none⟩=some u:=by
 rw[Joins.cell_of_block (heap_alloc_new w _),h]
theorem aoY{w W:World}(u0 u1 u2:Value)(T:TypeId)(hB:Below w.heap.size w W):(W.alloc (.cells #[u0,u1,u2] T)).cell? ⟨W.heap.size,0,none⟩=some u0∧(W.alloc (.cells #[u0,u1,u2] T)).cell? ⟨W.heap.size,1,none⟩=some u1∧(W.alloc (.cells #[u0,u1,u2] T)).cell? ⟨W.heap.size,2,none⟩=some u2∧Below w.heap.size w (W.alloc (.cells #[u0,u1,u2] T)):=by
 exact⟨ahw W _ T 0 u0 rfl,ahw W _ T 1 u1 rfl,ahw W _ T 2 u2 rfl,hB.alloc hB.size _⟩
end
end
section
section
open Go.RowKit
end
end
section
namespace Bt
open Go
def pop(x:Nat):Nat→Nat
 |0=>0
 |m+1=>x%2+pop (x/2) m
def cnt(f:Nat→Bool):Nat→Nat
 |0=>0
 |m+1=>cnt f m+(if f m then 1 else 0)
theorem cnt_le(f:Nat→Bool)(m:Nat):cnt f m≤m:=by
 induction m with
 |zero=>simp[cnt]
 |succ m ih=>unfold cnt;split<;>omega
theorem ajU(f:Nat→Bool)(m:Nat):cnt f (m+1)=(if f 0 then 1 else 0)+cnt (fun i=>f (i+1)) m:=by
 induction m with
 |zero=>simp[cnt]
 |succ m ih=>
  rw[cnt,ih];conv=>rhs;rw[cnt]
  omega
theorem acu{f g:Nat→Bool}{m:Nat}(h:∀i,i<m→f i=g i):cnt f m=cnt g m:=by
 induction m with
 |zero=>rfl
 |succ m ih=>rw[cnt,cnt,ih (fun i hi=>h i Y),h m Y]
theorem aew(m:Nat):∀x:Nat,pop x m=cnt x.testBit m:=by
 induction m with
 |zero=>intro x;rfl
 |succ m ih=>
  intro x
  rw[pop,ajU,ih]
  have e:cnt (x/2).testBit m=cnt (fun i=>x.testBit (i+1)) m:=acu fun i _=>by rw[IW]
  rw[e,Ns]
  rcases MS x with h|h<;>simp[h]
theorem YP(a:Nat):∀(b x:Nat),pop x (a+b)=pop (x%2^a) a+pop (x/2^a) b:=by
 induction a with
 |zero=>intro b x;simp[pop]
 |succ a ih=>
  intro b x
  rw[show a+1+b=(a+b)+1 from by omega,pop,ih,pop]
  have e1:x%2^(a+1)%2=x%2:=by
   rw[LG,JG];exact Nat.mod_mul_right_mod x 2 (2^a)
  have e2:x%2^(a+1)/2=x/2%2^a:=by
   rw[LG,JG];exact Nat.mod_mul_right_div_self x 2 (2^a)
  have e3:x/2/2^a=x/2^(a+1):=by rw[Uw,LG,JG]
  rw[e1,e2,e3];omega
def count(x:Int):Int:=(pop x.toNat 64:Nat)
theorem akA(s h l h' l':Nat)(hl:l<2^s)(hl':l'<2^s):(2^s*h+l)&&&(2^s*h'+l')=2^s*(h&&&h')+(l&&&l'):=by
 have hx:l&&&l'<2^s:=Nat.and_lt_two_pow _ hl'
 apply Ep
 intro i
 rw[LU,Gi _ hl,Gi _ hl',Gi _ hx]
 split<;>rw[LU]
theorem aaz(h l h' l':Nat)(hl:l<256)(hl':l'<256):(256*h+l)&&&(256*h'+l')=256*(h&&&h')+(l&&&l'):=akA 8 h l h' l' hl hl'
def sw1(x m:Nat):Nat:=x-((x/2)&&&m)
def sw2(y m:Nat):Nat:=(y&&&m)+((y/4)&&&m)
def sw3(z m:Nat):Nat:=(z+z/16)&&&m
theorem f1:∀b<2,∀l<128,(128*b+l)&&&85=l&&&85:=by decide+kernel
theorem f2:∀b<4,∀l<64,(64*b+l)&&&51=l&&&51:=by decide+kernel
theorem f3:∀b<5,∀l<73,(16*b+l)&&&15=l&&&15:=by decide+kernel
theorem amo(h l m:Nat)(hl:l<256):sw1 (256*h+l) (256*m+85)=256*sw1 h m+sw1 l 85:=by
 unfold sw1
 have e:(256*h+l)/2=256*(h/2)+(128*(h%2)+l/2):=Y
 rw[e,aaz _ _ _ _ Y Ae,f1 _ Y _ Y]
 have h1:h/2&&&m≤h/2:=NW
 have h2:l/2&&&85≤l/2:=NW
 omega
theorem alu(h l m:Nat)(hl:l<256):sw2 (256*h+l) (256*m+51)=256*sw2 h m+sw2 l 51:=by
 unfold sw2
 have e:(256*h+l)/4=256*(h/4)+(64*(h%4)+l/4):=Y
 rw[e,aaz _ _ _ _ hl Ae,aaz _ _ _ _ Y Ae,f2 _ Y _ Y]
 omega
theorem alg(h l m:Nat)(hl:l≤68)(hh:h%16≤4):sw3 (256*h+l) (256*m+15)=256*sw3 h m+sw3 l 15:=by
 unfold sw3
 have e:256*h+l+(256*h+l)/16=256*(h+h/16)+(16*(h%16)+(l+l/16)):=Y
 rw[e,aaz _ _ _ _ Y Ae,f3 _ Y _ Y]
theorem avY:∀b<256,sw1 b 85<256:=by decide+kernel
theorem awz:∀b<256,sw2 (sw1 b 85) 51≤68∧sw2 (sw1 b 85) 51%16≤4:=by decide+kernel
theorem avA:∀b<256,sw3 (sw2 (sw1 b 85) 51) 15=pop b 8:=by decide+kernel
def rep(c:Nat):Nat→Nat
 |0=>0
 |n+1=>256*rep c n+c
def YZ:Nat→Nat→Nat
 |0,_=>0
 |n+1,x=>256*YZ n (x/256)+pop (x%256) 8
theorem axM(n:Nat):∀x,x<256^n→sw2 (sw1 x (rep 85 n)) (rep 51 n)%16≤4∧sw3 (sw2 (sw1 x (rep 85 n)) (rep 51 n)) (rep 15 n)=YZ n x:=by
 induction n with
 |zero=>
  intro x hx;obtain rfl:x=0:=by simpa using hx
  decide
 |succ n ih=>
  intro x hx
  have hl:x%256<256:=QI _ Ae
  have hh:x/256<256^n:=by rw[LG]at hx;omega
  have ex:x=256*(x/256)+x%256:=Y
  obtain⟨i1,i2⟩:=ih (x/256) hh
  have e1:sw1 x (rep 85 (n+1))=256*sw1 (x/256) (rep 85 n)+sw1 (x%256) 85:=by
   conv=>lhs;rw[ex]
   exact amo _ _ _ hl
  have b1:=avY _ hl
  have b2:=awz _ hl
  have e2:sw2 (sw1 x (rep 85 (n+1))) (rep 51 (n+1))=256*sw2 (sw1 (x/256) (rep 85 n)) (rep 51 n)+sw2 (sw1 (x%256) 85) 51:=by
   rw[e1];exact alu _ _ _ b1
  rw[e2]
  refine⟨Y,?_⟩
  have e3:=alg (sw2 (sw1 (x/256) (rep 85 n)) (rep 51 n)) (sw2 (sw1 (x%256) 85) 51) (rep 15 n) b2.1 i1
  rw[show rep 15 (n+1)=256*rep 15 n+15 from rfl,e3,i2,avA _ hl]
  rfl
theorem aoR(x:Nat):pop x 8≤8:=by rw[aew];exact cnt_le _ _
theorem ak0(Am S R:Nat)(hR:R<72057594037927936)(hS:S<256):(18446744073709551616*Am+(72057594037927936*S+R))%18446744073709551616/72057594037927936=S:=Y
theorem akG(x:Nat)(h:x<18446744073709551616):(YZ 8 x*72340172838076673%18446744073709551616)/72057594037927936=pop x 64:=by
 have p:=fun y=>aoR y
 have e0:∀y m,pop y (8+m)=pop (y%256) 8+pop (y/256) m:=fun y m=>by
  rw[YP]
 rw[show(64:Nat)=8+56 from rfl,e0,show(56:Nat)=8+48 from rfl,e0,show(48:Nat)=8+40 from rfl,e0,show(40:Nat)=8+32 from rfl,e0,show(32:Nat)=8+24 from rfl,e0,show(24:Nat)=8+16 from rfl,e0,
  show(16:Nat)=8+8 from rfl,e0]
 have e8:pop (x/256/256/256/256/256/256/256) 8=pop (x/256/256/256/256/256/256/256%256) 8:=by
  rw[Nat.mod_eq_of_lt Y]
 rw[e8]
 unfold YZ YZ YZ YZ YZ YZ YZ YZ YZ
 have p0:=p (x%256)
 have p1:=p (x/256%256)
 have p2:=p (x/256/256%256)
 have p3:=p (x/256/256/256%256)
 have p4:=p (x/256/256/256/256%256)
 have p5:=p (x/256/256/256/256/256%256)
 have p6:=p (x/256/256/256/256/256/256%256)
 have p7:=p (x/256/256/256/256/256/256/256%256)
 generalize pop (x%256) 8=q0 at*
 generalize pop (x/256%256) 8=q1 at*
 generalize pop (x/256/256%256) 8=q2 at*
 generalize pop (x/256/256/256%256) 8=q3 at*
 generalize pop (x/256/256/256/256%256) 8=q4 at*
 generalize pop (x/256/256/256/256/256%256) 8=q5 at*
 generalize pop (x/256/256/256/256/256/256%256) 8=q6 at*
 generalize pop (x/256/256/256/256/256/256/256%256) 8=q7 at*
 clear e8 e0 p h
 have hP:(256*(256*(256*(256*(256*(256*(256*(256*0+q7)+q6)+q5)+q4)+q3)+q2)+q1)+q0)*72340172838076673=18446744073709551616*(q1*1+q2*257+q3*65793+q4*16843009+q5*4311810305+q6*1103823438081+q7*282578800148737)+(72057594037927936*(q0+q1+q2+q3+q4+q5+q6+q7)+(q0*282578800148737+q1*282578800148736+q2*282578800148480+q3*282578800082944+q4*282578783305728+q5*282574488338432+q6*281474976710656)):=Y
 have hR:q0*282578800148737+q1*282578800148736+q2*282578800148480+q3*282578800082944+q4*282578783305728+q5*282574488338432+q6*281474976710656<72057594037927936:=Y
 have hS:q0+q1+q2+q3+q4+q5+q6+q7<256:=Y
 rw[hP,ak0 _ _ _ hR hS]
 clear hP hR hS
 omega
end Bt
end
section
namespace Bt
open Go Go.RowKit
def M5:Nat:=6148914691236517205
def M3:Nat:=3689348814741910323
def MF:Nat:=1085102592571150095
theorem ar2:M5=rep 85 8:=by decide
theorem aq8:M3=rep 51 8:=by decide
theorem asv:MF=rep 15 8:=by decide
theorem wrap64_small(n:Int)(h:0≤n)(h2:n≤1000000):wrap64 n=n:=by unfold wrap64;omega
theorem agU(x:Int)(h1:0≤x)(h2:x≤18446744073709551615):
 wrap64 (IntKind.u64.wrap (bits .and .u64 (IntKind.u64.wrap (IntKind.u64.wrap (bits .and .u64 (IntKind.u64.wrap (x-bits .and .u64 (x/2) 6148914691236517205)) 3689348814741910323+
  bits .and .u64 (IntKind.u64.wrap (x-bits .and .u64 (x/2) 6148914691236517205)/4) 3689348814741910323)+
  IntKind.u64.wrap (bits .and .u64 (IntKind.u64.wrap (x-bits .and .u64 (x/2) 6148914691236517205)) 3689348814741910323+
  bits .and .u64 (IntKind.u64.wrap (x-bits .and .u64 (x/2) 6148914691236517205)/4) 3689348814741910323)/16)) 1085102592571150095*72340172838076673)/72057594037927936)=count x:=by
 obtain⟨X,rfl⟩:=Bo h1
 have a1:bits .and .u64 ((X:Int)/2) 6148914691236517205=(((X/2)&&&M5:Nat):Int):=by
  have:=u64_and_nat (X/2) M5 Y Ae
  rw[←this];rfl
 have l1:X/2&&&M5≤X/2:=NW
 have c1:IntKind.u64.wrap ((X:Int)-bits .and .u64 ((X:Int)/2) 6148914691236517205)=((sw1 X M5:Nat):Int):=by
  rw[a1,IntKind.wrap_u64];unfold sw1;omega
 have l2:sw1 X M5≤X:=Nat.sub_le _ _
 rw[c1]
 generalize hY:sw1 X M5=Ap at*
 have a2:bits .and .u64 (Ap:Int) 3689348814741910323=((Ap&&&M3:Nat):Int):=by
  have:=u64_and_nat Ap M3 Y Ae
  rw[←this];rfl
 have a3:bits .and .u64 ((Ap:Int)/4) 3689348814741910323=((Ap/4&&&M3:Nat):Int):=by
  have:=u64_and_nat (Ap/4) M3 Y Ae
  rw[←this];rfl
 have m1:Ap&&&M3≤M3:=Nat.and_le_right
 have m2:Ap/4&&&M3≤M3:=Nat.and_le_right
 have e3:M3=3689348814741910323:=rfl
 have c2:IntKind.u64.wrap (bits .and .u64 (Ap:Int) 3689348814741910323+bits .and .u64 ((Ap:Int)/4) 3689348814741910323)=((sw2 Ap M3:Nat):Int):=by
  rw[a2,a3,IntKind.wrap_u64];unfold sw2;omega
 have l3:sw2 Ap M3≤7378697629483820646:=by unfold sw2;omega
 rw[c2]
 generalize hZ:sw2 Ap M3=Z at*
 have c3:IntKind.u64.wrap ((Z:Int)+(Z:Int)/16)=((Z+Z/16:Nat):Int):=by rw[IntKind.wrap_u64];omega
 rw[c3]
 have c4:bits .and .u64 ((Z+Z/16:Nat):Int) 1085102592571150095=((sw3 Z MF:Nat):Int):=by
  have:=u64_and_nat (Z+Z/16) MF Y Ae
  rw[show(1085102592571150095:Int)=((MF:Nat):Int)from rfl,this];rfl
 rw[c4]
 have hs:=(axM 8 X Af).2
 rw[←ar2,←aq8,←asv,hY,hZ]at hs
 rw[hs]
 have hp:=akG X Y
 have hp2:=cnt_le X.testBit 64
 rw[←aew]at hp2
 unfold count
 generalize YZ 8 X=S at*
 have e1:((S:Int)*72340172838076673)=((S*72340172838076673:Nat):Int):=(GK S 72340172838076673).symm
 have e2:(((S*72340172838076673%18446744073709551616:Nat):Int)/72057594037927936)=((S*72340172838076673%18446744073709551616/72057594037927936:Nat):Int):=(Lj _ 72057594037927936).symm
 rw[e1,afJ,e2,hp,wrap64_small _ Y Y]
 rfl
def low(x:Nat):Nat→Nat
 |0=>0
 |m+1=>if x%2=1 then 0 else 1+low (x/2) m
def lowest(x:Int):Int:=(low x.toNat 64:Nat)
theorem atc(m:Nat):∀x,low x m≤m:=by
 induction m with
 |zero=>intro x;simp[low]
 |succ m ih=>intro x;unfold low;have:=ih (x/2);split<;>omega
theorem agT(m:Nat):∀(x t:Nat),t≤m→(∀i,i<t→x.testBit i=false)→(t<m→x.testBit t=true)→low x m=t:=by
 induction m with
 |zero=>intro x t h _ _;simp[low];omega
 |succ m ih=>
  intro x t h h1 h2
  unfold low
  rcases Ii t with rfl|ht
  ·have:=h2 Y
   rw[Ns]at this
   rw[if_pos zK]
  ·have h0:=h1 0 ht
   rw[Ns]at h0
   rw[if_neg (by simpa using h0),ih (x/2) (t-1) Y (fun i hi=>by rw[←IW];exact h1 (i+1) Y)
    (fun hlt=>by rw[←IW,show(t-1).succ=t from by omega];exact h2 Y)]
   omega
theorem amT(m:Nat):∀x,(∀i,i<low x m→x.testBit i=false)∧(low x m<m→x.testBit (low x m)=true):=by
 induction m with
 |zero=>intro x;simp[low]
 |succ m ih=>
  intro x
  unfold low
  by_cases h:x%2=1
  ·rw[if_pos h];refine⟨Y,fun _=>by rw[Ns];simpa using h⟩
  ·rw[if_neg h]
   obtain⟨i1,i2⟩:=ih (x/2)
   refine⟨fun i hi=>?_,fun hlt=>?_⟩
   ·rcases i with _|i
    ·rw[Ns];simpa using h
    ·rw[IW];exact i1 i Y
   ·rw[Uh,IW];exact i2 Y
theorem ajn(t:Nat):∀m,cnt (fun i=>decide (i<t)) m=min t m:=by
 intro m
 induction m with
 |zero=>simp[cnt]
 |succ m ih=>unfold cnt;rw[ih];simp only[decide_eq_true_eq];split<;>omega
theorem abK(t:Nat)(h:t≤64):count (((2^t-1:Nat):Int))=t:=by
 unfold count
 rw[Bz,aew]
 have:cnt (2^t-1).testBit 64=cnt (fun i=>decide (i<t)) 64:=acu fun i _=>MC ..
 rw[this,ajn]
 omega
theorem and_neg(X t:Nat)(hX:X<18446744073709551616)(ht:t<64)(h1:∀i,i<t→X.testBit i=false)(h2:X.testBit t=true):X&&&(18446744073709551616-X)=2^t:=by
 have hpos:2^t≤X:=Nat.ge_two_pow_of_testBit h2
 have hp:=Q7 (n:=t)
 obtain⟨q,hq⟩:∃q,X=2^t*(2*q+1):=by
  have hm:X%2^t=0:=by
   apply Ep
   intro i
   rw[Ik]
   by_cases hi:i<t
   ·simp[h1 i hi]
   ·simp[hi]
  have hd:X/2^t%2=1:=by
   rw[OT]at h2;simpa using h2
  refine⟨X/2^t/2,?_⟩
  have e:=Qe X (2^t)
  have e2:=Qe (X/2^t) 2
  rw[hd]at e2
  rw[e2];omega
 have e:18446744073709551616-X=2^64-((X-1)+1):=Y
 apply Ep
 intro i
 rw[e,LU,Jz Af]
 have ex1:X=2^t*(2*q+1)+0:=Y
 have ex:X-1=2^t*(2*q)+(2^t-1):=by
  have:2^t*(2*q+1)=2^t*(2*q)+2^t:=by rw[Nat.mul_add,Jh]
  omega
 rw[ex,Gi _ Y,Qk]
 by_cases hi:i<t
 ·rw[h1 i hi];simp;omega
 ·rw[if_neg hi]
  have b:X.testBit i=(2*q+1).testBit (i-t):=by
   rw[ex1,Gi _ Y,if_neg hi]
  rw[b]
  rcases Ii (i-t)with hz|hz
  ·rw[hz]
   have:i=t:=Y
   subst this
   simp[ht]
  ·obtain⟨j,hj⟩:=Lu (Nat.ne_of_gt hz)
   rw[hj,IW,IW,show(2*q+1)/2=q from by omega,show 2*q/2=q from by omega]
   have:t≠i:=Y
   simp[this]
   intro a b;simp[a]
theorem ae1(x:Int)(h1:0≤x)(h2:x≤18446744073709551615):count (IntKind.u64.wrap (bits .and .u64 x (IntKind.u64.wrap (-x))-1))=lowest x:=by
 obtain⟨X,rfl⟩:=Bo h1
 unfold lowest
 obtain⟨s1,s2⟩:=amT 64 X
 have sl:=atc 64 X
 rw[Bz]
 rcases Ii X with rfl|hX
 ·have e:bits .and .u64 ((0:Nat):Int) (IntKind.u64.wrap (-((0:Nat):Int)))=0:=by decide
  rw[e,show IntKind.u64.wrap (0-1)=((2^64-1:Nat):Int)from by decide,abK 64 Ae]
  decide
 ·have e:IntKind.u64.wrap (-(X:Int))=((18446744073709551616-X:Nat):Int):=by rw[IntKind.wrap_u64];omega
  rw[e,u64_and_nat _ _ Y Y]
  by_cases ht:low X 64<64
  ·rw[and_neg X (low X 64) Y ht s1 (s2 ht)]
   have hp:=Z8 (low X 64) ht
   have e2:IntKind.u64.wrap (((2^low X 64:Nat):Int)-1)=((2^low X 64-1:Nat):Int):=by rw[IntKind.wrap_u64];omega
   rw[e2,abK _ sl]
  ·exfalso
   have:X=0:=by
    apply Ep
    intro i
    rw[Nat.zero_testBit]
    by_cases hi:i<64
    ·exact s1 i Y
    ·exact abD X i Y Y
   omega
end Bt
end
section
namespace Bt
open Go Go.RowKit
def hb(x:Nat):Nat:=if x=0 then 0 else Nat.log2 x+1
def rs(r:Nat):Nat:=r*2%18446744073709551616+r/9223372036854775808
def rot(x:Nat):Nat→Nat
 |0=>x
 |k+1=>rs (rot x k)
def turn(x b:Int):Int:=(rot x.toNat (b%64).toNat:Nat)
def up(n size:Int):Int:=if n≤0∨size≤0 then 0 else(n-1)/size+1
theorem avh(n size:Int)(h:n≤9223372036854775807):0≤up n size∧up n size≤9223372036854775807:=by
 unfold up
 split
 ·omega
 ·rename_i h2
  have a:(n-1)/size≤n-1:=Int.ediv_le_self _ Y
  have b:0≤(n-1)/size:=Qc Y Y
  omega
theorem agM(n size:Int)(h:n≤0∨size≤0):up n size=0:=by unfold up;rw[if_pos h]
theorem atQ(n size:Int)(h:0<n)(h2:0<size)(h3:n≤9223372036854775807):wrap64 ((n-1)/size+1)=up n size:=by
 have:=avh n size h3
 unfold up at*
 rw[if_neg Y]at*
 unfold wrap64
 omega
def akK(x:Int)(j:Nat):Prop:=∀i,i<j→x.toNat.testBit i=false
theorem akz(x:Int)(j:Nat)(hj:j≤64)(h:akK x j)(hb:j<64→bit x j=true):lowest x=j:=by
 unfold lowest
 rw[agT 64 x.toNat j hj h (fun hlt=>by simpa [bit]using hb hlt)]
end Bt
end
section
section
open Go.RowKit
theorem count_any(x:Int)(w:World)(x1:0≤x)(x2:x≤18446744073709551615):
 Calls prog 288 #[.int .u64 x] w fun e w'=>e= .returned (.int .i64 (Bt.count x))∧w=w':=by
 go_enter func288,Tryz.ntmps288
 go_wp2_with fail
 go_ret
 exact⟨FB (Bt.agU x x1 x2),rfl⟩
theorem adU(n b:Int)(w:World)(x1: -9223372036854775808≤n)(x2:n≤9223372036854775807)(a1: -9223372036854775808≤b)(a2:b≤9223372036854775807):
 Calls prog 100 #[.int .i64 n,.int .i64 b] w fun e w'=>e= .returned (.int .i64 (Bt.up n b))∧w=w':=by
 by_cases h1:n≤0
 ·go_enter func100,Tryz.ntmps100
  go_wp2_with fail
  go_ret
  exact⟨FB (Bt.agM n b (.inl h1)).symm,rfl⟩
 ·by_cases h2:b≤0
  ·go_enter func100,Tryz.ntmps100
   go_wp2_with fail
   go_ret
   exact⟨FB (Bt.agM n b (.inr h2)).symm,rfl⟩
  ·go_enter func100,Tryz.ntmps100
   go_wp2_with fail
   go_ret
   exact⟨FB (Bt.atQ n b Y Y x2),rfl⟩
theorem ag8(x:Int)(w:World)(x1:0≤x)(x2:x≤18446744073709551615):
 Calls prog 281 #[.int .u64 x] w fun e w'=>e= .returned (.int .i64 (Bt.lowest x))∧w=w':=by
 have fin:=Lib.hid (Bt.ae1 x x1 x2)
 go_enter func281,Tryz.ntmps281
 go_wp2_with fail
 refine(count_any _ _ (by rw[IntKind.wrap_u64];omega) (by rw[IntKind.wrap_u64];omega)).mono ?_
 rintro e w' ⟨rfl,rfl⟩
 go_wp2_with fail
 go_ret
 exact⟨FB fin.out,rfl⟩
end
end
section
namespace Ce
open Go Go.RowKit
def first(n bl:Int):Int:=if 0≤bl∧bl<n then bl*512 else-1
theorem aco(n bl:Int)(h:bl<0∨n≤bl):first n bl= -1:=by unfold first;rw[if_neg Y]
theorem ae3(n bl:Int)(h:0≤bl)(h2:bl<n):first n bl=bl*512:=by unfold first;rw[if_pos ⟨h,h2⟩]
def address(n k b i:Int):Int:=if 0≤k∧k<32∧1≤b∧b<n∧0≤i∧i<Cl.cells k then b*512+i*Cl.words k else-1
theorem Uo(n k b i:Int)(h1:0≤k)(h2:k<32)(h3:1≤b)(h4:b<n)(h5:0≤i)(h6:i<Cl.cells k):address n k b i=b*512+i*Cl.words k:=by unfold address;rw[if_pos ⟨h1,h2,h3,h4,h5,h6⟩]
theorem MV(n k b i:Int)(h:¬(0≤k∧k<32∧1≤b∧b<n∧0≤i∧i<Cl.cells k)):address n k b i= -1:=by unfold address;rw[if_neg h]
theorem akF(b x:Int)(h:0≤b)(h2:b≤1000000)(h3:0≤x)(h4:x≤512):IntKind.i64.wrap (b*512+IntKind.i64.wrap x)=b*512+x:=by
 rw[IntKind.wrap_i64,IntKind.wrap_i64];omega
theorem agq(k i:Int)(h1:0≤k)(h2:k<32)(h5:0≤i)(h6:i<Cl.cells k):0≤i*Cl.words k∧i*Cl.words k+Cl.words k≤512:=by
 have hp:=Cl.Hg k h1 h2
 have a:=(Cl.abu k i h1 h2 h5).2 h6
 rw[Int.add_mul,RD]at a
 exact⟨Int.mul_nonneg h5 Y,a⟩
def all(n k b:Int):List Int:=if 1≤b∧b<n then(List.range (Cl.cells k).toNat).map fun(i:Nat)=>512*b+(i:Int)*Cl.words k else []
def upto(k b:Int)(m:Nat):List Int:=(List.range m).map fun(i:Nat)=>512*b+(i:Int)*Cl.words k
theorem upto_succ(k b:Int)(m:Nat):upto k b (m+1)=upto k b m++ [512*b+(m:Int)*Cl.words k]:=by simp[upto,LW]
theorem within(a k i:Int)(h3:0≤k)(h4:k<32)(hi:0≤i)(ha:0≤a)(hc:i<Cl.cells k):
 (512*(a/512)+i*Cl.words k≤a∧a<512*(a/512)+i*Cl.words k+Cl.words k)↔a%512/Cl.words k=i:=by
 have hw:=Cl.Hg k h3 h4
 have e:=Int.mul_ediv_add_emod (a%512) (Cl.words k)
 have b1:=Int.emod_nonneg (a%512) (show Cl.words k≠0 by omega)
 have b2:=Int.emod_lt_of_pos (a%512) (show 0<Cl.words k by omega)
 have s:a=512*(a/512)+a%512:=Y
 constructor
 ·rintro⟨g1,g2⟩
  have g3:i*Cl.words k≤a%512:=Y
  have g4:a%512<(i+1)*Cl.words k:=by rw[Int.add_mul,RD];omega
  have l1:i≤a%512/Cl.words k:=(LD Y).2 g3
  have l2:a%512/Cl.words k<i+1:=Int.ediv_lt_of_lt_mul Y g4
  omega
 ·rintro rfl
  rw[Int.mul_comm (a%512/Cl.words k)]
  omega
end Ce
end
section
section
open Go.RowKit
def JH(n at_:Int):Int:=if 0≤at_∧at_<512*n then at_/512 else-1
theorem UF(n at_:Int)(w:World)(h1:0≤n)(h2:n≤1000000)(a1: -9223372036854775808≤at_)(a2:at_≤9223372036854775807):
 Calls prog 175 #[.agg #[.int .i64 n],.int .i64 at_] w fun e w'=>e= .returned (.int .i64 (JH n at_))∧Below w.heap.size w w':=by
 by_cases c1:at_<0
 ·have e:=Lib.hid (show JH n at_= -1 by unfold JH;rw[if_neg Y])
  go_enter func175,Tryz.ntmps175
  go_wp2
  go_ret
  exact⟨FB e.out.symm,by(repeat (first|exact Below.refl _ _|(refine Below.alloc ?_ Ag _)))⟩
 ·by_cases c2:at_<512*n
  ·have e:=Lib.hid (show JH n at_=at_/512 by unfold JH;rw[if_pos Y])
   go_enter func175,Tryz.ntmps175
   go_wp2
   go_ret
   exact⟨FB e.out.symm,by(repeat (first|exact Below.refl _ _|(refine Below.alloc ?_ Ag _)))⟩
  ·have e:=Lib.hid (show JH n at_= -1 by unfold JH;rw[if_neg Y])
   go_enter func175,Tryz.ntmps175
   go_wp2
   go_ret
   exact⟨FB e.out.symm,by(repeat (first|exact Below.refl _ _|(refine Below.alloc ?_ Ag _)))⟩
def anD(n at_:Int):Bool:=decide (1≤JH n at_)
theorem ajV(n at_:Int)(w:World)(h1:0≤n)(h2:n≤1000000)(a1: -9223372036854775808≤at_)(a2:at_≤9223372036854775807):
 Calls prog 250 #[.agg #[.int .i64 n],.int .i64 at_] w fun e w'=>e= .returned (.bool (anD n at_))∧Below w.heap.size w w':=by
 go_enter func250,Tryz.ntmps250
 go_wp2_with (first
  |(go_at_call 175;refine(UF _ _ _ Y Y Y Y).mono ?_;rintro e w1 ⟨rfl,hb⟩))
 go_ret
 exact⟨rfl,((Below.refl _ _).alloc (Bg _) _).trans (hb.mono J)⟩
end
end
section
section
open Go.RowKit
theorem aaS(n bl:Int)(w:World)(h1: -9223372036854775808≤bl)(h3:n≤1000000):
 Calls prog 204 #[.agg #[.int .i64 n],.int .i64 bl] w fun e w'=>e= .returned (.int .i64 (Ce.first n bl))∧Below w.heap.size w w':=by
 by_cases c1:bl<0
 ·have e:=Lib.hid (Ce.aco n bl (.inl c1))
  go_enter func204,Tryz.ntmps204
  go_wp2
  go_ret
  exact⟨FB e.out.symm,by(repeat (first|exact Below.refl _ _|(refine Below.alloc ?_ Ag _)))⟩
 ·by_cases c2:bl<n
  ·have e:=Lib.hid (Ce.ae3 n bl Y c2)
   go_enter func204,Tryz.ntmps204
   go_wp2
   go_ret
   exact⟨FB e.out.symm,by(repeat (first|exact Below.refl _ _|(refine Below.alloc ?_ Ag _)))⟩
  ·have e:=Lib.hid (Ce.aco n bl (.inr Y))
   go_enter func204,Tryz.ntmps204
   go_wp2
   go_ret
   exact⟨FB e.out.symm,by(repeat (first|exact Below.refl _ _|(refine Below.alloc ?_ Ag _)))⟩
theorem TW{w:World}{n b i:Int}{W w':World}(hb:Below W.heap.size W w')
 (h:W.cell? ⟨w.heap.size,0,none⟩=some (.int .i64 n)∧W.cell? ⟨w.heap.size+1,0,none⟩=some (.int .i64 b)∧W.cell? ⟨w.heap.size+1,1,none⟩=some (.int .i64 i)∧w.heap.size+1<W.heap.size∧Below w.heap.size w W):
 w'.cell? ⟨w.heap.size,0,none⟩=some (.int .i64 n)∧w'.cell? ⟨w.heap.size+1,0,none⟩=some (.int .i64 b)∧w'.cell? ⟨w.heap.size+1,1,none⟩=some (.int .i64 i)∧w.heap.size+1<w'.heap.size∧Below w.heap.size w w':=by
 obtain⟨h1,h2,h3,h4,h5⟩:=h
 have hs:=hb.size
 exact⟨(hb.cell (p:=⟨w.heap.size,0,none⟩) Af).trans h1,(hb.cell (p:=⟨w.heap.size+1,0,none⟩) Af).trans h2,(hb.cell (p:=⟨w.heap.size+1,1,none⟩) Af).trans h3,Y,h5.trans (hb.mono Y)⟩
theorem ahF{w:World}{n b i:Int}{W:World}
 (h:W.cell? ⟨w.heap.size,0,none⟩=some (.int .i64 n)∧W.cell? ⟨w.heap.size+1,0,none⟩=some (.int .i64 b)∧W.cell? ⟨w.heap.size+1,1,none⟩=some (.int .i64 i)∧w.heap.size+1<W.heap.size∧Below w.heap.size w W):
 W.drew.cell? ⟨w.heap.size,0,none⟩=some (.int .i64 n)∧W.drew.cell? ⟨w.heap.size+1,0,none⟩=some (.int .i64 b)∧W.drew.cell? ⟨w.heap.size+1,1,none⟩=some (.int .i64 i)∧w.heap.size+1<W.drew.heap.size∧Below w.heap.size w W.drew:=
 ⟨h.1,h.2.1,h.2.2.1,h.2.2.2.1,h.2.2.2.2.drew⟩
theorem ZA(n k b i:Int)(w:World)(h0:0≤n)(h3:n≤1000000)(k1: -9223372036854775808≤k)(k2:k≤9223372036854775807)(b1: -9223372036854775808≤b)(b2:b≤9223372036854775807)(i1: -9223372036854775808≤i)(i2:i≤9223372036854775807):
 Calls prog 244 #[.agg #[.int .i64 n],.int .i64 k,.agg #[.int .i64 b,.int .i64 i]] w fun e w'=>e= .returned (.int .i64 (Ce.address n k b i))∧Below w.heap.size w w':=by
 have hB:Below w.heap.size w ((w.alloc (.cells #[.int .i64 n] 79)).alloc (.cells #[.int .i64 b,.int .i64 i] 287)):=((Below.refl _ _).alloc (Bg _) _).alloc J _
 have hwb:=Cl.Tc k
 have hcb:=Cl.Yy k
 rcases(show(0≤k∧k<32∧1≤b∧b<n∧0≤i∧i<Cl.cells k)∨(k<0∨32≤k)∨(0≤k∧k<32∧b<1)∨(0≤k∧k<32∧1≤b∧n≤b)∨(0≤k∧k<32∧1≤b∧b<n∧i<0)∨(0≤k∧k<32∧1≤b∧b<n∧0≤i∧Cl.cells k≤i)from by omega)with
  ⟨c0,c1,c2,c3,c4,c5⟩|c1|⟨c0,c1,c2⟩|⟨c0,c1,c2,c3⟩|⟨c0,c1,c2,c3,c4⟩|⟨c0,c1,c2,c3,c4,c5⟩
 ·have hr:=Cl.FY k c0 c1
  have e:=Lib.hid (Ce.Uo n k b i c0 c1 c2 c3 c4 c5)
  have ef:=Ce.ae3 n b Y c3
  have hm:=Ce.agq k i c0 c1 c4 c5
  have d1:decide (b<1)=false:=by simp;omega
  have d2:decide (n≤b)=false:=by simp;omega
  have d3:decide (i<0)=false:=by simp;omega
  have d4:decide (Cl.cells k≤i)=false:=by simp;omega
  go_enter func244,Tryz.ntmps244
  go_wp2_with fail
  go_region_held3 (fun w'=>w'.cell? ⟨w.heap.size,0,none⟩=some (.int .i64 n)∧w'.cell? ⟨w.heap.size+1,0,none⟩=some (.int .i64 b)∧w'.cell? ⟨w.heap.size+1,1,none⟩=some (.int .i64 i)∧w.heap.size+1<w'.heap.size∧Below w.heap.size w w')
   (first|assumption|(refine⟨?_,?_,?_,?_,?_⟩<;>first|exact hB.drew|(simp;done)))
   (first
    |(go_at_call 197;refine(Jv _ _ Y Y).mono ?_;rintro e w' ⟨rfl,rfl⟩)
    |(go_at_call 131;refine(YB _ _ Y Y).mono ?_;rintro e w' ⟨rfl,hb'⟩;have hS':=TW hb' Ai))
  go_wp2_with fail
  go_region_held3 (fun w'=>w'.cell? ⟨w.heap.size,0,none⟩=some (.int .i64 n)∧w'.cell? ⟨w.heap.size+1,0,none⟩=some (.int .i64 b)∧w'.cell? ⟨w.heap.size+1,1,none⟩=some (.int .i64 i)∧w.heap.size+1<w'.heap.size∧Below w.heap.size w w')
   (first|assumption|exact ahF Ai)
   (first
    |(go_at_call 204;refine(aaS _ _ _ Y Y).mono ?_;rintro e w' ⟨rfl,hb'⟩;have hS':=TW hb' Ai)
    |(go_at_call 198;refine(QE _ _ Y Y).mono ?_;rintro e w' ⟨rfl,hb'⟩;have hS':=TW hb' Ai))
  go_wp2
  go_ret
  exact⟨FB (by rw[e.out];exact Ce.akF b _ Y Y Y Y),hS'.2.2.2.2⟩
 ·have e:=Lib.hid (Ce.MV n k b i Y)
  have hr:=Cl.Ju k c1
  go_enter func244,Tryz.ntmps244
  go_wp2_with fail
  go_quiet ((go_at_call 197;exact Calls.quiet_of_same (aaf (Jv _ _ Y Y))))
  go_wp2_with fail
  go_ret
  exact⟨FB e.out.symm,below_drewN hB _⟩
 ·have e:=Lib.hid (Ce.MV n k b i Y)
  have hr:=Cl.FY k c0 c1
  have d1:decide (b<1)=true:=by simpa using c2
  go_enter func244,Tryz.ntmps244
  go_wp2_with fail
  go_quiet ((go_at_call 197;exact Calls.quiet_of_same (aaf (Jv _ _ Y Y))))
  go_wp2_with fail
  go_ret
  exact⟨FB e.out.symm,below_drewN hB _⟩
 ·have e:=Lib.hid (Ce.MV n k b i Y)
  have hr:=Cl.FY k c0 c1
  have d1:decide (b<1)=false:=by simp;omega
  have d2:decide (n≤b)=true:=by simpa using c3
  go_enter func244,Tryz.ntmps244
  go_wp2_with fail
  go_quiet ((go_at_call 197;exact Calls.quiet_of_same (aaf (Jv _ _ Y Y))))
  go_wp2_with fail
  go_ret
  exact⟨FB e.out.symm,below_drewN hB _⟩
 ·have e:=Lib.hid (Ce.MV n k b i Y)
  have hr:=Cl.FY k c0 c1
  have d1:decide (b<1)=false:=by simp;omega
  have d2:decide (n≤b)=false:=by simp;omega
  have d3:decide (i<0)=true:=by simpa using c4
  go_enter func244,Tryz.ntmps244
  go_wp2_with fail
  go_quiet ((go_at_call 197;exact Calls.quiet_of_same (aaf (Jv _ _ Y Y))))
  go_wp2_with fail
  go_ret
  exact⟨FB e.out.symm,below_drewN hB _⟩
 ·have e:=Lib.hid (Ce.MV n k b i Y)
  have hr:=Cl.FY k c0 c1
  have d1:decide (b<1)=false:=by simp;omega
  have d2:decide (n≤b)=false:=by simp;omega
  have d3:decide (i<0)=false:=by simp;omega
  have d4:decide (Cl.cells k≤i)=true:=by simpa using c5
  go_enter func244,Tryz.ntmps244
  go_wp2_with fail
  go_region_held3 (fun w'=>w'.cell? ⟨w.heap.size,0,none⟩=some (.int .i64 n)∧w'.cell? ⟨w.heap.size+1,0,none⟩=some (.int .i64 b)∧w'.cell? ⟨w.heap.size+1,1,none⟩=some (.int .i64 i)∧w.heap.size+1<w'.heap.size∧Below w.heap.size w w')
   (first|assumption|(refine⟨?_,?_,?_,?_,?_⟩<;>first|exact hB.drew|(simp;done)))
   (first
    |(go_at_call 197;refine(Jv _ _ Y Y).mono ?_;rintro e w' ⟨rfl,rfl⟩)
    |(go_at_call 131;refine(YB _ _ Y Y).mono ?_;rintro e w' ⟨rfl,hb'⟩;have hS':=TW hb' Ai))
  go_wp2_with fail
  go_ret
  exact⟨FB e.out.symm,by first|assumption|exact(by assumption:_∧_∧_∧_∧Below w.heap.size w _).2.2.2.2⟩
end
end
section
namespace Xp
open Go Go.RowKit
def kd(c k:Int):Nat→Int
 |0=>k
 |i+1=>kd c k i/c
def okC(l c k:Int):Prop:=0≤l∧l≤65536∧1≤c∧c≤256∧0≤k
instance (l c k:Int):Decidable (okC l c k):=by unfold okC;infer_instance
theorem amH{α:Type}(xs:List α)(z x:α)(n i:Nat)(hx:xs.length=i)(h:i<n):(xs++List.replicate (n-i) z).set i x=(xs++ [x])++List.replicate (n-(i+1)) z:=by
 subst hx
 rw[Kq _ _ (Bg _),GX]
 obtain⟨m,hm⟩:∃m,n-xs.length=m+1:=⟨n-xs.length-1,Y⟩
 rw[hm,Fa,AZ,show n-(xs.length+1)=m from by omega]
 simp
theorem amA{α:Type}(xs:List α)(z:α)(n i:Nat)(hx:xs.length=i)(h:i<n):(xs++List.replicate (n-i) z)[i]? =some z:=by
 subst hx
 rw[D8 (Bg _),GX,D7,if_pos Y]
def nval(c:Int):List Int→Int
 | []=>0
 |d::l=>d+c*nval c l
def okD(c:Int)(l:List Int):Prop:=∀d∈l,0≤d∧d<c
def cOk(c:Int):Prop:=1≤c∧c≤256
instance (c:Int):Decidable (cOk c):=by unfold cOk;infer_instance
instance (c:Int) (l:List Int):Decidable (okD c l):=by unfold okD;infer_instance
def alq(c:Int)(l:List Int):Prop:=cOk c∧okD c l∧nval c l≤1099511627776
instance (c:Int) (l:List Int):Decidable (alq c l):=by unfold alq;infer_instance
def number(c:Int)(l:List Int):Int:=if alq c l then nval c l else-1
def pl(c:Int):Nat→Int
 |0=>1
 |i+1=>if pl c i≤1099511627776 then pl c i*c else pl c i
def gb(k i:Nat):Bool:=Nat.testBit k i^^Nat.testBit k (i+1)
def gd(k m:Nat):Nat→Nat
 |0=>0
 |n+1=>gd k m n+if gb k n=gb m n then 0 else 1
def over(w n:Int)(i:Nat):Int:=(i:Int)*w%n
def many(v m:Int):Int:=min (min v m) 4096
end Xp
end
section
section
open Go.RowKit
end
end
section
section
open Go.RowKit
def Wu(k:IntKind)(T:TypeId)(xs:List Int)(w:World)(e:Ending)(w':World):Prop:=
 ∃v,e= .returned v∧w'.ownsRow w.heap.size T 1 v xs.length (xs.map (Value.int k))∧Below w.heap.size w w'
theorem Wu.mk{k:IntKind}{T:TypeId}{xs:List Int}{w:World}{e:Ending}{w':World}(v:Value)(he:e= .returned v)(n:Nat)(hn:xs.length=n)(ho:w'.ownsRow w.heap.size T 1 v n (xs.map (Value.int k)))(hb:Below w.heap.size w w'):Wu k T xs w e w':=
 ⟨v,he,by rw[hn];exact ho,hb⟩
theorem Wu.nil{k:IntKind}{T:TypeId}{xs:List Int}{w:World}{w':World}(hx:xs=[])(hb:Below w.heap.size w w'):Wu k T xs w (.returned (.slice none 0 0)) w':=by
 subst hx;exact⟨_,rfl,World.ownsRow_nil _ _ _ _,hb⟩
theorem apK(k:IntKind)(n:Nat):(madeCells (Value.int k 0).cells (n*1)).toList=([]++List.replicate (n-0) (0:Int)).map (Value.int k):=by
 have:(Value.int k 0).cells= #[.int k 0]:=rfl
 rw[this,toList_madeCells_one];simp
end
end
section
section
open Go.RowKit
end
end
section
section
open Go.RowKit
theorem anj(n a:Int)(h1:512≤a)(h2:a<512*n):anD n a=true∧JH n a=a/512:=by
 have e:JH n a=a/512:=by unfold JH;rw[if_pos Y]
 exact⟨by unfold anD;rw[e];simp;omega,e⟩
end
end
section
section
open Go.RowKit
theorem ak6(W w:World)(n x y:Int)(c:Nat)(hz:w.heap.size+1<c)(h:W.cell? ⟨w.heap.size,0,none⟩=some (.int .i64 n)∧W.cell? ⟨c,0,none⟩=some (.int .i64 x)∧W.cell? ⟨c,1,none⟩=some (.int .i64 y)∧Below w.heap.size w W):
 ((W.setCell ⟨w.heap.size+1,0,none⟩ (.int .i64 x)).setCell ⟨w.heap.size+1,1,none⟩ (.int .i64 y)).cell? ⟨w.heap.size,0,none⟩=some (.int .i64 n)∧((W.setCell ⟨w.heap.size+1,0,none⟩ (.int .i64 x)).setCell ⟨w.heap.size+1,1,none⟩ (.int .i64 y)).cell? ⟨c,0,none⟩=some (.int .i64 x)∧((W.setCell ⟨w.heap.size+1,0,none⟩ (.int .i64 x)).setCell ⟨w.heap.size+1,1,none⟩ (.int .i64 y)).cell? ⟨c,1,none⟩=some (.int .i64 y)∧Below w.heap.size w ((W.setCell ⟨w.heap.size+1,0,none⟩ (.int .i64 x)).setCell ⟨w.heap.size+1,1,none⟩ (.int .i64 y)):=by
 obtain⟨h1,h2,h3,h4⟩:=h
 refine⟨?_,?_,?_,(h4.setCell J _).setCell J _⟩
 ·rw[World.cell?_setCell_far _ _ _ _ J,World.cell?_setCell_far _ _ _ _ J];exact h1
 ·rw[World.cell?_setCell_far _ _ _ _ Af,World.cell?_setCell_far _ _ _ _ Af];exact h2
 ·rw[World.cell?_setCell_far _ _ _ _ Af,World.cell?_setCell_far _ _ _ _ Af];exact h3
theorem arL(n k a:Int)(w:World)(h1:0≤n)(h3:n≤1000000)(a1:512≤a)(a2:a<512*n)(k1:0≤k)(k2:k<32):
 Calls prog 203 #[.agg #[.int .i64 n],.int .i64 k,.int .i64 a] w fun e w'=>e= .returned (.tuple #[.agg #[.int .i64 (a/512),.int .i64 (a%512/Cl.words k)],.bool (Ce.address n k (a/512) (a%512/Cl.words k)==a)])∧Below w.heap.size w w':=by
 obtain⟨d1,d2⟩:=anj n a a1 a2
 have d3:=Cl.FY k k1 k2
 have hw:=Cl.Tc k
 have hwp:=Cl.Hg k k1 k2
 have hq:0≤a%512/Cl.words k∧a%512/Cl.words k≤512:=⟨Qc Y Y,by have:=Int.ediv_le_self (a:=a%512) (Cl.words k) Y;omega⟩
 have D2:=Lib.hid d2
 clear d2
 have G:=Lib.hid ((KE.new w #[.int .i64 n] 79).alloc (.cells #[.int .i64 0,.int .i64 0] 287))
 have R:=Lib.hid (KE.new1 w (.cells #[.int .i64 n] 79) #[.int .i64 0,.int .i64 0] 287)
 have hB:Below w.heap.size w ((w.alloc (.cells #[.int .i64 n] 79)).alloc (.cells #[.int .i64 0,.int .i64 0] 287)):=((Below.refl _ _).alloc (Bg _) _).alloc J _
 go_enter func203,Tryz.ntmps203
 go_wp2_with (first
  |(go_at_call 197;refine(Jv _ _ Y Y).mono ?_;rintro e w' ⟨rfl,rfl⟩)
  |(go_at_call 250;refine(ajV _ _ _ Y Y Y Y).mono ?_;rintro e w1 ⟨rfl,hb1⟩;have G1:=G.out.below hb1 G.out.lt;have R1:=R.out.below hb1 R.out.lt;have hB1:=hB.trans (hb1.mono hB.size);have g0:=G1.cell 0 _ rfl)
  |(go_at_call 175;refine(UF _ _ _ Y Y Y Y).mono ?_;rintro e w2 ⟨rfl,hb2⟩;rw[D2.out];have R2:=R1.below hb2 R1.lt;have hB2:=hB1.trans (hb2.mono hB1.size))
  |(go_at_call 198;refine(QE _ _ Y Y).mono ?_;rintro e w3 ⟨rfl,hb3⟩;have R3:=R2.below hb3 R2.lt;have hB3:=hB2.trans (hb3.mono hB2.size)))
 have R4:=R3.alloc (.cells #[.int .i64 (a/512),.int .i64 (a%512/Cl.words k)] 287)
 have C4:=KE.new w3 #[.int .i64 (a/512),.int .i64 (a%512/Cl.words k)] 287
 have hB4:=hB3.alloc hB3.size (.cells #[.int .i64 (a/512),.int .i64 (a%512/Cl.words k)] 287)
 have hz:w.heap.size+1<w3.heap.size:=R3.lt
 have G4:=((G1.below hb2 G1.lt).below hb3 (G1.below hb2 G1.lt).lt).alloc (.cells #[.int .i64 (a/512),.int .i64 (a%512/Cl.words k)] 287)
 refine wp_region_held_drew (S:=fun W=>W.cell? ⟨w.heap.size,0,none⟩=some (.int .i64 n)∧W.cell? ⟨w3.heap.size,0,none⟩=some (.int .i64 (a/512))∧W.cell? ⟨w3.heap.size,1,none⟩=some (.int .i64 (a%512/Cl.words k))∧Below w.heap.size w W) Ak ?_ (fun hHeld=>?_)
 ·(try dsimp only)
  (first|assumption|exact⟨G4.cell 0 _ rfl,C4.cell 0 _ rfl,C4.cell 1 _ rfl,hB4.drew⟩|exact hS7)
 refine aB ?_
 refine bH ?_
 refine ah ?_
 refine dF ?_
 refine ah ?_
 refine wpAnyH_ready (rs:=[4]) Ak J (AllReadyH.cons O (fun K hK=>?_) AllReadyH.nil)
 (try go_simp)
 refine(ZA _ _ _ _ _ Y Y Y Y Y Y Y Y).mono ?_
 rintro e w5 ⟨rfl,hb5⟩
 have hS':=TD hb5 Ai
 have R5:=R4.drew.below hb5 R4.lt
 have r0:=R5.cell 0 _ rfl
 have r1:=R5.cell 1 _ rfl
 have f0:=R5.frozen 0
 have f1:=R5.frozen 1
 refine hK.out _ _ ?_ (fun hHeld=>?_)
 ·(try dsimp only)
  (first|assumption|exact⟨G4.cell 0 _ rfl,C4.cell 0 _ rfl,C4.cell 1 _ rfl,hB4.drew⟩|exact hS7)
 clear hK K
 refine tu ?_
 refine wpAnyH_ready (rs:=[7]) Ak J (AllReadyH.cons O (fun K hK=>?_) AllReadyH.nil)
 (try go_simp)
 have hS7:=ak6 w5 w n (a/512) (a%512/Cl.words k) w3.heap.size hz hS'
 refine hK.out _ _ ?_ (fun hHeld=>?_)
 ·(try dsimp only)
  (first|assumption|exact⟨G4.cell 0 _ rfl,C4.cell 0 _ rfl,C4.cell 1 _ rfl,hB4.drew⟩|exact hS7)
 clear hK K
 refine ah ?_
 refine aN ?_
 refine ah ?_
 refine wpAnyH_done Ak ?_ _
 go_wp2_with fail
 exact bodyPost_ret (v:= .tuple #[.agg #[.int .i64 (a/512),.int .i64 (a%512/Cl.words k)],.bool (Ce.address n k (a/512) (a%512/Cl.words k)==a)]) (by simp[results,go_sem,Tryz.results203,r0,r1]) rfl ⟨rfl,hS7.2.2.2⟩
end
end
section
namespace Bh
open Go Go.RowKit
def right(k c l:Int):Bool:=decide ((k=0∧c=0∧l=0)∨(k=1∧0≤c∧c<32∧l=0)∨((k=2∨k=3)∧c=0∧1≤l∧l≤255))
theorem YJ(k c l:Int):right k c l=true↔((k=0∧c=0∧l=0)∨(k=1∧0≤c∧c<32∧l=0)∨((k=2∨k=3)∧c=0∧1≤l∧l≤255)):=by unfold right;simp
theorem EO(k c l:Int)(h:(k=0∧c=0∧l=0)∨(k=1∧0≤c∧c<32∧l=0)∨((k=2∨k=3)∧c=0∧1≤l∧l≤255)):right k c l=true:=(YJ k c l).2 h
theorem F6(k c l:Int)(h:¬((k=0∧c=0∧l=0)∨(k=1∧0≤c∧c<32∧l=0)∨((k=2∨k=3)∧c=0∧1≤l∧l≤255))):right k c l=false:=by
 cases e:right k c l
 ·rfl
 ·exact absurd ((YJ k c l).1 e) h
theorem Ti(k c l:Int)(h:right k c l=true):0≤k∧k≤3∧0≤c∧c<32∧0≤l∧l≤255:=by
 have:=(YJ k c l).1 h
 omega
theorem avt(k c l:Int)(h1:0≤k)(h2:k≤3)(h3:0≤c)(h4:c<32)(h5:0≤l)(h6:l≤255):
 Bt.put 0 0 2 k=k∧Bt.put k 2 6 c=k+4*c∧Bt.put (k+4*c) 8 16 l=k+4*c+256*l:=by
 have a:=Oh.XY 0 k 0 2 Ae Ae Y Ae h1 Y
 have b:=Oh.XY k c 2 6 Ae Ae Y Y h3 Y
 have e:=Oh.XY (k+4*c) l 8 16 Ae Ae Y Y h5 Y
 have e0:((0:Nat):Int)=0:=rfl
 have e1:((2:Nat):Int)=2:=rfl
 have e2:((6:Nat):Int)=6:=rfl
 have e3:((8:Nat):Int)=8:=rfl
 have e4:((16:Nat):Int)=16:=rfl
 rw[e0,e1]at a
 rw[e1,e2]at b
 rw[e3,e4]at e
 rw[a,b,e]
 omega
def enc(k c l at_:Int):Int:=if right k c l then Sl.sealed (k+4*c+256*l) at_ else 0
theorem V5(k c l at_:Int)(h:right k c l=false):enc k c l at_=0:=by unfold enc;rw[h];rfl
theorem Rh(k c l at_:Int)(h:right k c l=true):enc k c l at_=Sl.sealed (k+4*c+256*l) at_:=by unfold enc;rw[h];rfl
theorem aa'(k c l at_:Int):0≤enc k c l at_∧enc k c l at_≤18446744073709551615:=by
 cases h:right k c l
 ·rw[V5 _ _ _ _ h];omega
 ·have b:=Ti k c l h
  rw[Rh _ _ _ _ h]
  exact Sl.aix _ _ Y Y
def SK(x:Int):Int:=x%4294967296%4
def TB(x:Int):Int:=x%4294967296/4%64
def S9(x:Int):Int:=x%4294967296/256%65536
theorem aec(x:Int):0≤SK x∧SK x≤3∧0≤TB x∧TB x≤63∧0≤S9 x∧S9 x≤65535:=by unfold SK TB S9;omega
theorem adD(x:Int):Bt.get (x%4294967296) 0 2=SK x∧Bt.get (x%4294967296) 2 6=TB x∧Bt.get (x%4294967296) 8 16=S9 x:=by
 have a:=Oh.Ye (x%4294967296) 0 2 Ae Ae Y
 have b:=Oh.Ye (x%4294967296) 2 6 Ae Ae Y
 have c:=Oh.Ye (x%4294967296) 8 16 Ae Ae Y
 refine⟨?_,b,c⟩
 unfold SK
 have a':Bt.get (x%4294967296) 0 2=x%4294967296/1%4:=a
 rw[a',Int.ediv_one]
def Qs(x at_:Int):Bool:=Sl.LX x at_&&decide (enc (SK x) (TB x) (S9 x) at_=x)
def MZ(x at_:Int):Int:=if Sl.LX x at_ then(if enc (SK x) (TB x) (S9 x) at_=x then 0 else 26)else 25
def aeG(x at_:Int):Int:=if Qs x at_ then SK x else 0
def aeQ(x at_:Int):Int:=if Qs x at_ then TB x else 0
def aeg(x at_:Int):Int:=if Qs x at_ then S9 x else 0
theorem Uj(x at_:Int)(h:Sl.LX x at_=false):MZ x at_=25∧aeG x at_=0∧aeQ x at_=0∧aeg x at_=0:=by
 unfold MZ aeG aeQ aeg Qs;rw[h];simp
theorem WE(x at_:Int)(h:Sl.LX x at_=true)(h2:enc (SK x) (TB x) (S9 x) at_≠x):MZ x at_=26∧aeG x at_=0∧aeQ x at_=0∧aeg x at_=0:=by
 unfold MZ aeG aeQ aeg Qs;rw[h];simp[h2]
theorem QC(x at_:Int)(h:Sl.LX x at_=true)(h2:enc (SK x) (TB x) (S9 x) at_=x):MZ x at_=0∧aeG x at_=SK x∧aeQ x at_=TB x∧aeg x at_=S9 x:=by
 unfold MZ aeG aeQ aeg Qs;rw[h];simp[h2]
theorem afQ(x at_:Int)(h:right (SK x) (TB x) (S9 x)=false):enc (SK x) (TB x) (S9 x) at_≠x:=by
 intro e
 rw[V5 _ _ _ _ h]at e
 rw[←e]at h
 revert h
 decide
theorem Qx(k c l at_:Int)(h:right k c l=true):MZ (enc k c l at_) at_=0∧aeG (enc k c l at_) at_=k∧aeQ (enc k c l at_) at_=c∧aeg (enc k c l at_) at_=l:=by
 have b:=Ti k c l h
 have e:=Rh k c l at_ h
 have hm:=Sl.Yv (k+4*c+256*l) at_ Y Y
 have ho:=(Sl.adl (k+4*c+256*l) at_ Y Y).1
 have rk:SK (enc k c l at_)=k:=by unfold SK;rw[e,hm];omega
 have rc:TB (enc k c l at_)=c:=by unfold TB;rw[e,hm];omega
 have rl:S9 (enc k c l at_)=l:=by unfold S9;rw[e,hm];omega
 have r:=QC (enc k c l at_) at_ (by rw[e];exact ho) (by rw[rk,rc,rl])
 rw[rk,rc,rl]at r
 exact r
end Bh
end
section
namespace St
open Go Go.RowKit
def okR(R:List Int):Prop:=∀r∈R,0≤r∧r≤131071
instance (R:List Int):Decidable (okR R):=by unfold okR;infer_instance
def Fh(E:Int)(R:List Int):Bool:=decide (okR R∧0<E)
theorem FY(E:Int)(R:List Int)(h:okR R)(h2:0<E):Fh E R=true:=by unfold Fh;simpa using⟨h,h2⟩
theorem Ju(E:Int)(R:List Int)(h:¬(okR R∧0<E)):Fh E R=false:=by unfold Fh;simpa using h
theorem acd(R:List Int)(k:Nat)(r:Int)(hr:R[k]? =some r)(h:okR (R.take k))(h2:0≤r∧r≤131071):okR (R.take (k+1)):=by
 intro x hx
 rw[Fj,hr]at hx
 rcases BJ.1 hx with hx|hx
 ·exact h x hx
 ·simp at hx;subst hx;exact h2
theorem aoS(R:List Int)(k:Nat)(r:Int)(hr:R[k]? =some r)(h2:¬(0≤r∧r≤131071)):¬okR R:=fun h=>h2 (h r (A8 hr))
def sum(E a b c d n:Int):Int:=Cr.more 0 (By.bytes [E,a,b,c,d,n,0])
def Q8(E a b c d:Int):Int:=sum E a b c d 0
def Rw(E a b c d:Int):Int:=sum E a b c d 1
theorem Sr(E a b c d n:Int):0≤sum E a b c d n∧sum E a b c d n≤4294967295:=Cr.WH 0 _ Y Y (By.PY _)
theorem aiF(E a b c d:Int):0≤Q8 E a b c d∧Q8 E a b c d≤4294967295:=Sr _ _ _ _ _ _
theorem ai7(E a b c d:Int):0≤Rw E a b c d∧Rw E a b c d≤4294967295:=Sr _ _ _ _ _ _
def Es(a b c d e f g:Int):Int:=Cr.more 0 (By.bytes [a,b,c,d,e,f,g])
theorem N8(a b c d e f g:Int):0≤Es a b c d e f g∧Es a b c d e f g≤4294967295:=Cr.WH 0 _ Y Y (By.PY _)
def cap(x:Int):Int:=if x≤1099511627776 then x else 1099511627776
theorem asF(x:Int)(h:x≤1099511627776):cap x=x:=by unfold cap;rw[if_pos h]
end St
end
section
namespace Im
def zr:List Int→Nat
 | []=>0
 |x::l=>if x=0 then zr l+1 else 0
def nr:List Int→Nat
 | []=>0
 |x::l=>if x=0 then 0 else nr l+1
theorem acD:∀l,zr l≤l.length
 | []=>Bg _
 |x::l=>by have:=acD l;unfold zr;split<;>simp<;>omega
theorem aaJ:∀l,nr l≤l.length
 | []=>Bg _
 |x::l=>by have:=aaJ l;unfold nr;split<;>simp<;>omega
theorem ahl:∀(l:List Int) (k:Nat),k<zr l→l[k]? =some 0
 | [],k,h=>by simp[zr]at h
 |x::l,k,h=>by
  unfold zr at h
  split at h
  ·rename_i hx
   cases k with
   |zero=>simp[hx]
   |succ k=>simpa using ahl l k Y
  ·omega
theorem ahs:∀(l:List Int),zr l<l.length→∃z,l[zr l]? =some z∧z≠0
 | [],h=>by simp at h
 |x::l,h=>by
  unfold zr at h⊢
  split
  ·rename_i hx
   rw[if_pos hx]at h
   obtain⟨z,hz,h0⟩:=ahs l zS
   exact⟨z,by simpa using hz,h0⟩
  ·rename_i hx;exact⟨x,J,hx⟩
theorem ahD:∀(l:List Int) (k:Nat),k<nr l→∃z,l[k]? =some z∧z≠0
 | [],k,h=>by simp[nr]at h
 |x::l,k,h=>by
  unfold nr at h
  split at h
  ·omega
  ·rename_i hx
   cases k with
   |zero=>exact⟨x,J,hx⟩
   |succ k=>simpa using ahD l k Y
theorem ag7:∀(l:List Int),nr l<l.length→l[nr l]? =some 0
 | [],h=>by simp at h
 |x::l,h=>by
  unfold nr at h⊢
  split
  ·rename_i hx;simp[hx]
  ·rename_i hx
   rw[if_neg hx]at h
   simpa using ag7 l zS
def step(l:List Int):Nat:=zr l+nr (l.drop (zr l))
theorem Uc(l:List Int):step l≤l.length:=by
 have h1:=acD l;have h2:=aaJ (l.drop (zr l));rw[CZ]at h2;unfold step;omega
theorem step_pos(l:List Int)(h:l≠[]):0<step l:=by
 cases l with
 |nil=>exact absurd rfl h
 |cons x l=>
  unfold step
  by_cases hx:x=0
  ·simp[zr,hx];omega
  ·simp[zr,nr,hx]
def runs:Nat→List Int→List (Nat×List Int)
 |0,_=> []
 |f+1,l=>if l=[]then []else(zr l,(l.drop (zr l)).take (nr (l.drop (zr l))))::runs f (l.drop (step l))
theorem ado:∀(f g:Nat) (l:List Int),l.length≤f→l.length≤g→runs f l=runs g l
 |0,g,l,h,_=>by
  obtain rfl:l=[]:=BZ Y
  cases g<;>simp[runs]
 |f+1,0,l,_,h=>by
  obtain rfl:l=[]:=BZ Y
  simp[runs]
 |f+1,g+1,l,h1,h2=>by
  unfold runs
  split
  ·rfl
  ·rename_i hl
   have h3:=step_pos l hl
   have h4:=Uc l
   rw[ado f g (l.drop (step l)) zU zU]
def rn(l:List Int):List (Nat×List Int):=runs l.length l
theorem ahQ:rn []=[]:=rfl
theorem ad4(l:List Int)(h:l≠[]):rn l=(zr l,(l.drop (zr l)).take (nr (l.drop (zr l))))::rn (l.drop (step l)):=by
 have h1:=step_pos l h
 have h2:=Uc l
 have e:(l.length-1)+1=l.length:=Y
 have e2:runs l.length l=runs ((l.length-1)+1) l:=by rw[e]
 unfold rn
 rw[e2]
 show(if l=[]then []else(zr l,(l.drop (zr l)).take (nr (l.drop (zr l))))::runs (l.length-1) (l.drop (step l)))=_
 rw[if_neg h]
 congr 1
 exact ado (l.length-1) (l.drop (step l)).length (l.drop (step l)) zU (Bg _)
def enc1(r:Nat×List Int):List Int:=(r.1:Int)::(r.2.length:Int)::r.2
def encs(rs:List (Nat×List Int)):List Int:=rs.flatMap enc1
def body(l:List Int):List Int:=encs (rn l)
theorem VE:body []=[]:=rfl
theorem Td(l:List Int)(h:l≠[]):body l=(zr l:Int)::(nr (l.drop (zr l)):Int)::((l.drop (zr l)).take (nr (l.drop (zr l)))++body (l.drop (step l))):=by
 unfold body
 rw[ad4 l h]
 have h2:=aaJ (l.drop (zr l))
 simp only[encs,FW,enc1,EJ,Dy,KA h2]
theorem aaH:∀(k:Nat) (l:List Int),l.length≤k→(body l).length≤3*l.length
 |0,l,h=>by
  obtain rfl:l=[]:=BZ Y
  simp[VE]
 |k+1,l,h=>by
  by_cases hl:l=[]
  ·subst hl;simp[VE]
  ·have h1:=step_pos l hl
   have h2:=Uc l
   have ih:=aaH k (l.drop (step l)) zU
   have h3:=aaJ (l.drop (zr l))
   have h4:=acD l
   rw[Td l hl]
   simp only[Em,Cm,Dy]
   rw[CZ]at ih h3
   rw[CZ]
   have:step l=zr l+nr (l.drop (zr l)):=rfl
   omega
def magic:Int:=13905993476890996
def head(l:List Int):List Int:=magic::(l.length:Int)::body l
def sum(l:List Int):Int:=Cr.more 0 (By.bytes l)
def out(l:List Int):List Int:=head l++ [sum (head l)]
def save(l:List Int):List Int:=By.bytes (out l)
def bad(z m left o:Int):Bool:=decide (z>left∨m>left-z∨z+m=0∨(0<o∧z=0)∨(m=0∧z≠left))
def O8(l:List Int):Bool:=l.all (fun x=>decide (x≠0))
def read:Nat→List Int→Int→List Int→List Int×Int
 |0,_,_,_=>([],31)
 |f+1,w,n,o=>
  if(o.length:Int)<n then
   if w.length<2 then([],31)
   else if bad (w.getD 0 0) (w.getD 1 0) (n-o.length) o.length=true then([],26)
   else if(w.getD 1 0)>((w.drop 2).length:Int)then([],31)
   else if O8 ((w.drop 2).take (w.getD 1 0).toNat)=true then read f ((w.drop 2).drop (w.getD 1 0).toNat) n (o++List.replicate (w.getD 0 0).toNat 0++(w.drop 2).take (w.getD 1 0).toNat)
   else([],26)
  else if w.length>0 then([],32)else(o,0)
def load(d:List Int):List Int×Int:=
 if d.length<24∨d.length%8≠0 then([],31)
 else if(By.words d).getD 0 0≠magic then([],24)
 else if(By.words d).getD ((By.words d).length-1) 0≠sum ((By.words d).take ((By.words d).length-1))then([],25)
 else if(By.words d).getD 1 0>131072∨(By.words d).getD 1 0%8≠0 then([],26)
 else read (((By.words d).getD 1 0).toNat+1) (((By.words d).take ((By.words d).length-1)).drop 2) ((By.words d).getD 1 0) []
def fresh(o l:List Int):Prop:=o=[]∨l=[]∨l[0]? =some 0
theorem aqZ{l:List Int}(h:l[0]? =some 0):0<zr l:=by
 cases l with
 |nil=>simp at h
 |cons x l=>
  simp at h
  simp[zr,h]
theorem ahn(o l:List Int):fresh o (l.drop (step l)):=by
 by_cases h:step l<l.length
 ·right;right
  have hs:step l=zr l+nr (l.drop (zr l)):=rfl
  rw[DV,KF,hs,←DV]
  exact ag7 _ zU
 ·right;left
  exact LJ Y
theorem ahL(l:List Int):O8 (l.take (nr l))=true:=by
 unfold O8
 rw[Ll]
 intro x hx
 obtain⟨i,hi,rfl⟩:=DY.1 hx
 rw[Dy]at hi
 obtain⟨z,hz,h0⟩:=ahD l i Y
 rw[OD]
 have:l[i]=z:=by
  have h2:=BA.1 hz
  exact h2.2
 simp[this,h0]
theorem agI(l:List Int):l.take (zr l)=List.replicate (zr l) 0:=by
 apply Eu
 intro i
 rw[IV,D7]
 split
 ·rename_i h;exact ahl l i h
 ·rfl
theorem abt(l:List Int):List.replicate (zr l) 0++(l.drop (zr l)).take (nr (l.drop (zr l)))++l.drop (step l)=l:=by
 rw[←agI]
 have:l.drop (step l)=(l.drop (zr l)).drop (nr (l.drop (zr l))):=by rw[Nk];rfl
 rw[this,DI,F5,F5]
theorem ade:∀(f:Nat) (l o:List Int),l.length<f→fresh o l→read f (body l) ((o++l).length:Int) o=(o++l,0)
 |0,l,o,h,_=>by omega
 |f+1,l,o,h,hf=>by
  unfold read
  by_cases hl:l=[]
  ·subst hl
   rw[if_neg J,VE,if_neg J,Du]
  ·have hp:0<l.length:=Gn.2 hl
   have h1:=step_pos l hl
   have h2:=Uc l
   have h3:=acD l
   have h4:=aaJ (l.drop (zr l))
   rw[CZ]at h4
   have hs:step l=zr l+nr (l.drop (zr l)):=rfl
   have e:=Td l hl
   have e0:(body l).getD 0 0=(zr l:Int):=by rw[e];rfl
   have e1:(body l).getD 1 0=(nr (l.drop (zr l)):Int):=by rw[e];rfl
   have e2:(body l).drop 2=(l.drop (zr l)).take (nr (l.drop (zr l)))++body (l.drop (step l)):=by rw[e];rfl
   have el:((l.drop (zr l)).take (nr (l.drop (zr l)))).length=nr (l.drop (zr l)):=by rw[Dy,CZ];omega
   rw[if_pos Af,if_neg (by rw[e];simp),e0,e1,e2,if_neg,if_neg,if_pos]
   ·rw[P8 (by rw[el];simp),NZ (by rw[el];simp),Bz,DI]
    have ih:=ade f (l.drop (step l)) (o++(List.replicate (zr l) 0++(l.drop (zr l)).take (nr (l.drop (zr l))))) zU (ahn _ _)
    have hj:o++(List.replicate (zr l) 0++(l.drop (zr l)).take (nr (l.drop (zr l))))++l.drop (step l)=o++l:=by rw[DI,abt]
    rw[hj]at ih
    exact ih
   ·rw[P8 (by rw[el];simp)];exact ahL _
   ·rw[Cm,el];omega
   ·unfold bad
    rw[Bool.not_eq_true,decide_eq_false_iff_not]
    have hL:((o++l).length:Int)-o.length=l.length:=by simp;omega
    rw[hL]
    rintro(hh|hh|hh|⟨hh,hh2⟩|⟨hh,hh2⟩)
    ·omega
    ·omega
    ·omega
    ·rcases hf with hf|hf|hf
     ·subst hf;simp at hh
     ·exact hl hf
     ·have:=aqZ hf;omega
    ·by_cases hz:zr l<l.length
     ·obtain⟨z,hz1,hz2⟩:=ahs l hz
      have:0<nr (l.drop (zr l)):=by
       have h5:(l.drop (zr l))[0]? =some z:=by rw[DV,KF];exact hz1
       cases h6:l.drop (zr l)with
       |nil=>rw[h6]at h5;simp at h5
       |cons y t=>
        rw[h6]at h5
        simp at h5
        simp[nr,h5,hz2]
      omega
     ·omega
theorem arq(z:Nat)(l:List Int)(h:∀x,l[0]? =some x→x≠0):zr (List.replicate z 0++l)=z:=by
 induction z with
 |zero=>
  cases l with
  |nil=>rfl
  |cons x t=>have:=h x J;simp[zr,this]
 |succ z ih=>rw[Fa,EJ,zr,if_pos rfl,ih]
theorem as7(l r:List Int)(h:O8 l=true)(h2:r=[]∨r[0]? =some 0):nr (l++r)=l.length:=by
 induction l with
 |nil=>
  rcases h2 with rfl|h2
  ·rfl
  ·cases r with
   |nil=>rfl
   |cons x t=>simp at h2;simp[nr,h2]
 |cons x t ih=>
  unfold O8 at h
  simp only[List.all_cons,FV,decide_eq_true_eq]at h
  rw[EJ,nr,if_neg h.1,ih h.2,Em]
theorem acV:∀(f:Nat) (w o R:List Int) (n:Int),(∀x∈w,0≤x)→read f w n o=(R,0)→∃l,R=o++l∧w=body l∧fresh o l∧((o.length:Int)≤n→(R.length:Int)=n)
 |0,w,o,R,n,_,h=>by simp[read]at h
 |f+1,w,o,R,n,hp,h=>by
  unfold read at h
  split at h
  ·rename_i h1
   split at h
   ·cases h
   rename_i h2
   split at h
   ·cases h
   rename_i h3
   split at h
   ·cases h
   rename_i h4
   split at h
   ·rename_i h5
    obtain⟨a,b,t,rfl⟩:∃a b t,w=a::b::t:=by
     rcases w with _|⟨a,_|⟨b,t⟩⟩
     ·simp at h2
     ·simp at h2
     ·exact⟨a,b,t,rfl⟩
    ·skip
     have ha:=hp a J
     have hb:=hp b J
     simp only[Qg,OB,List.getD_cons_zero,List.getD_cons_succ]at h h3 h4 h5
     unfold bad at h3
     simp only[Bool.not_eq_true,decide_eq_false_iff_not,not_or,not_and]at h3
     obtain⟨g1,g2,g3,g4,g5⟩:=h3
     obtain⟨l,hR,hw,hf,hn⟩:=acV f (t.drop b.toNat) _ R n (fun x hx=>hp x (by simp[PI hx])) h
     have lt:(t.take b.toNat).length=b.toNat:=by rw[Dy];omega
     have hno:(o++List.replicate a.toNat 0++t.take b.toNat).length=o.length+a.toNat+b.toNat:=by simp[lt];omega
     have hnn:=hn (by rw[hno];omega)
     have hl:l=[]∨l[0]? =some 0:=by
      rcases hf with hf|hf
      ·exfalso
       have:=congrArg List.length hf
       rw[hno]at this
       simp at this
       omega
      ·exact hf
     have e0:R=o++(List.replicate a.toNat 0++(t.take b.toNat++l)):=by rw[hR];simp only[DI]
     have ez:zr (List.replicate a.toNat 0++(t.take b.toNat++l))=a.toNat:=by
      apply arq
      intro x hx
      by_cases hb0:b=0
      ·have:R.length=o.length+a.toNat+l.length:=by rw[e0];simp[hb0];omega
       have hl0:l.length=0:=by have:=g5 hb0;omega
       have:l=[]:=BZ hl0
       subst this
       simp[hb0]at hx
      ·have hx2:(t.take b.toNat)[0]? =some x:=by rw[Ej Y]at hx;exact hx
       unfold O8 at h5
       rw[Ll]at h5
       simpa using h5 x (A8 hx2)
     have ed:(List.replicate a.toNat 0++(t.take b.toNat++l)).drop a.toNat=t.take b.toNat++l:=NZ J
     have en:nr (t.take b.toNat++l)=b.toNat:=by rw[as7 _ _ h5 hl,lt]
     have hne:List.replicate a.toNat (0:Int)++(t.take b.toNat++l)≠[]:=by
      intro hh
      have:=congrArg List.length hh
      simp only[Cm,CV,lt,Jy]at this
      omega
     refine⟨_,e0,?_,?_,fun _=>hnn⟩
     ·rw[Td _ hne]
      have es:step (List.replicate a.toNat 0++(t.take b.toNat++l))=a.toNat+b.toNat:=by unfold step;rw[ez,ed,en]
      rw[es,ez,ed,en,←Nk,ed,P8 lt,NZ lt,←hw,F5]
      congr 1
      ·omega
      ·congr 1;omega
     ·by_cases ho:o=[]
      ·exact .inl ho
      ·right;right
       have ho2:0<o.length:=Gn.2 ho
       have ha0:a≠0:=fun e=>g4 Y e
       have:a.toNat=(a.toNat-1)+1:=Y
       rw[this,Fa];rfl
   ·cases h
  ·rename_i h1
   split at h
   ·cases h
   ·rename_i h2
    obtain rfl:w=[]:=BZ Y
    injection h with h _
    subst h
    exact⟨[],J,rfl,.inr (.inl rfl),fun h=>Y⟩
theorem alJ(bs:List Int)(h:By.Nz bs)(i:Nat):∀t j,j<t→By.byteAt (By.low bs i t) j=bs.getD (i+j) 0:=by
 intro t
 induction t with
 |zero=>intro j hj;omega
 |succ t ih=>
  intro j hj
  have hb:=By.agL bs h i t
  have hg:=By.aiG bs h (i+t)
  unfold By.byteAt By.rest
  have e:By.low bs i (t+1)=By.low bs i t+bs.getD (i+t) 0*256^t:=rfl
  obtain⟨L,hL⟩:=Bo hb.1
  obtain⟨G,hG⟩:=Bo hg.1
  have e2:(By.low bs i (t+1)).toNat=L+G*256^t:=by
   rw[e,hL,hG]
   have:((L:Int)+(G:Int)*256^t)=((L+G*256^t:Nat):Int):=by rw[UM,GK,By.abg]
   rw[this,Bz]
  have hL2:L<256^t:=by
   have h2:=hb.2
   rw[hL]at h2
   have h3:((256:Int)^t)=((256^t:Nat):Int):=(By.abg t).symm
   rw[h3]at h2
   exact XJ.1 h2
  rw[e2]
  by_cases hjt:j=t
  ·subst hjt
   rw[U3 _ _ (Nat.pow_pos Y),YR hL2,DT,hG]
   have:G≤255:=by have:=hg.2;omega
   omega
  ·have hj2:j<t:=Y
   have ih2:=ih j hj2
   unfold By.byteAt By.rest at ih2
   rw[hL,Bz]at ih2
   rw[←ih2]
   have e3:(L+G*256^t)/256^j%256=L/256^j%256:=by
    obtain⟨q,rfl⟩:∃q,t=j+1+q:=⟨t-(j+1),Y⟩
    have:G*256^(j+1+q)=(G*256^q*256)*256^j:=by
     rw[Nat.pow_add,LG]
     simp only[Nat.mul_assoc,JG,Nat.mul_left_comm]
    rw[this,U3 _ _ (Nat.pow_pos Y),Nat.add_mul_mod_self_right]
   have e4:(((L+G*256^t)/256^j:Nat):Int)%256=(((L+G*256^t)/256^j%256:Nat):Int):=by generalize(L+G*256^t)/256^j=q;omega
   have e5:((L/256^j:Nat):Int)%256=((L/256^j%256:Nat):Int):=by generalize L/256^j=q;omega
   rw[e4,e5,e3]
theorem ajp(bs:List Int)(h:By.Nz bs)(q r:Nat)(hr:r<8):By.byteAt (By.word bs q) r=bs.getD (8*q+r) 0:=by
 unfold By.word
 exact alJ bs h (8*q) 8 r hr
theorem afy(d:List Int)(h:By.Nz d)(h8:d.length%8=0):By.bytes (By.words d)=d:=by
 apply Eu
 intro i
 have hl:=By.Wh (By.words d)
 rw[By.Tq]at hl
 by_cases hi:i<d.length
 ·have hw:(By.words d)[i/8]? =some (By.word d (i/8)):=by
   unfold By.words
   rw[BG,FD Y];rfl
  have hb:=By.adi (By.words d) (i/8) (i%8) _ hw (QI _ Y)
  rw[Qe]at hb
  rw[hb]
  have:=ajp d h (i/8) (i%8) (QI _ Y)
  rw[Qe]at this
  rw[this,Ba,Ar hi];rfl
 ·rw[DC Y,DC Y]
end Im
end
section
namespace Im
def U(l:List Int):Prop:=∀x∈l,0≤x∧x≤18446744073709551615
theorem U.drop{l:List Int}(h:U l)(k:Nat):U (l.drop k):=fun x hx=>h x (PI hx)
theorem U.take{l:List Int}(h:U l)(k:Nat):U (l.take k):=fun x hx=>h x (G7 hx)
theorem ai8:∀(k:Nat) (l:List Int),l.length≤k→l.length≤1000000→U l→U (body l)
 |0,l,h,_,_=>by
  obtain rfl:l=[]:=BZ Y
  intro x hx;rw[VE]at hx;cases hx
 |k+1,l,h,hb,hU=>by
  by_cases hl:l=[]
  ·subst hl;intro x hx;rw[VE]at hx;cases hx
  ·have h1:=step_pos l hl
   have h2:=Uc l
   have h3:=acD l
   have h4:=aaJ (l.drop (zr l))
   rw[CZ]at h4
   have ih:=ai8 k (l.drop (step l)) zU zU (hU.drop _)
   rw[Td l hl]
   intro x hx
   rcases Dq.1 hx with rfl|hx
   ·omega
   rcases Dq.1 hx with rfl|hx
   ·omega
   rcases BJ.1 hx with hx|hx
   ·exact(hU.drop _).take _ x hx
   ·exact ih x hx
theorem aeS:∀(k:Nat) (l:List Int),l.length≤k→∀x∈l,x=0∨x∈body l
 |0,l,h,x,hx=>by
  obtain rfl:l=[]:=BZ Y
  cases hx
 |k+1,l,h,x,hx=>by
  by_cases hl:l=[]
  ·subst hl;cases hx
  ·have h1:=step_pos l hl
   have h2:=Uc l
   rw[Td l hl]
   rw[←abt l]at hx
   rcases BJ.1 hx with hx|hx
   ·rcases BJ.1 hx with hx|hx
    ·exact .inl (Og.1 hx).2
    ·exact .inr (Ee _ (Ee _ (BQ _ hx)))
   ·rcases aeS k (l.drop (step l)) zU x hx with h3|h3
    ·exact .inl h3
    ·exact .inr (Ee _ (Ee _ (C9 _ h3)))
theorem Sr(l:List Int):0≤sum l∧sum l≤4294967295:=Cr.WH 0 _ Y Y (By.PY _)
theorem aie{l:List Int}(hb:l.length≤1000000)(hU:U l):U (head l):=by
 intro x hx
 rcases Dq.1 hx with rfl|hx
 ·decide
 rcases Dq.1 hx with rfl|hx
 ·omega
 ·exact ai8 _ l (Bg _) hb hU x hx
theorem alr{l:List Int}(hb:l.length≤1000000)(hU:U l):U (out l):=by
 intro x hx
 rcases BJ.1 hx with hx|hx
 ·exact aie hb hU x hx
 ·rw[Bf.1 hx];have:=Sr (head l);omega
theorem ah0(l:List Int):(out l).length=(body l).length+3:=by simp[out,head]
theorem aeU(l:List Int):(save l).length=8*((body l).length+3):=by unfold save;rw[By.Wh,ah0]
theorem akj{l:List Int}(hb:l.length≤131072)(h8:l.length%8=0)(hU:U l):load (save l)=(l,0):=by
 have hw:By.words (save l)=out l:=By.agh _ (alr Y hU)
 have hl:=aeU l
 have ho:=ah0 l
 unfold load
 rw[if_neg Y,hw]
 have g0:(out l).getD 0 0=magic:=rfl
 have g1:(out l).getD 1 0=(l.length:Int):=rfl
 have hh:(head l).length=(out l).length-1:=by simp[out]
 have gl:(out l).getD ((out l).length-1) 0=sum (head l):=by
  rw[←hh,Ba];simp[out]
 have gt:(out l).take ((out l).length-1)=head l:=by rw[←hh];simp[out]
 rw[g0,if_neg J,gl,gt,if_neg J,g1,if_neg Y]
 have:=ade (l.length+1) l [] Y (.inl rfl)
 rw[EH]at this
 rw[Bz]
 exact this
theorem ajK{d R:List Int}(hd:By.Nz d)(h:load d=(R,0)):save R=d∧R.length≤131072∧R.length%8=0∧U R:=by
 unfold load at h
 split at h
 ·cases h
 rename_i h1
 split at h
 ·cases h
 rename_i h2
 split at h
 ·cases h
 rename_i h3
 split at h
 ·cases h
 rename_i h4
 have hlen:(By.words d).length=d.length/8:=by rw[By.Tq];omega
 have hpos:=By.words_wf d hd
 generalize hwd:By.words d=w at*
 obtain⟨l,hR,hbody,_,hn⟩:=acV _ _ _ _ _ (fun x hx=>(hpos x (G7 (PI hx))).1) h
 rw[EH]at hR
 subst hR
 have hw1:0≤w.getD 1 0:=by
  rw[Ba,Ar Y]
  exact(hpos _ (FT _)).1
 have hRn:=hn (by simpa using hw1)
 have e:w=out R:=by
  unfold out head
  rw[←hbody]
  match w,hlen with
  |a::b::c::t,hlen=>
   have ha:a=magic:=by simpa using h2
   have hbR:b=(R.length:Int):=by simpa using hRn.symm
   simp only[Em,Nat.add_sub_cancel]at h3⊢
   have hs:=h3
   simp only[Decidable.not_not]at hs
   have t1:(a::b::c::t).take (t.length+1+1)=a::b::((c::t).take t.length):=rfl
   rw[t1]at hs⊢
   have d1:(a::b::List.take t.length (c::t)).drop 2=(c::t).take t.length:=rfl
   rw[d1]
   have l1:(a::b::c::t).getD (t.length+1+1) 0=(c::t).getD t.length 0:=rfl
   rw[l1,ha,hbR]at hs
   rw[ha,hbR,←hs]
   simp only[EJ]
   congr 2
   have hlt:t.length<(c::t).length:=by simp
   have:=List.take_append_getElem hlt
   rw[Ba,Ar hlt]
   simp only[TK]
   rw[this];exact(Ez J).symm
  | [],hlen=>simp at hlen;omega
  | [_],hlen=>simp at hlen;omega
  | [_,_],hlen=>simp at hlen;omega
 refine⟨?_,Y,Y,fun x hx=>?_⟩
 ·unfold save
  rw[←e,←hwd]
  exact afy d hd Y
 ·rcases aeS _ R (Bg _) x hx with h0|h0
  ·subst h0;decide
  ·refine hpos x ?_
   rw[e];unfold out head
   exact BQ _ (Ee _ (Ee _ h0))
end Im
end
section
namespace Bm
open Go.RowKit
def at_(l:List Bool)(i:Nat):Bool:=l.getD i false
theorem at_out{l:List Bool}{i:Nat}(h:l.length≤i):at_ l i=false:=by simp[at_,List.getD,DC h]
theorem ah2{l:List Bool}{i:Nat}(h:at_ l i=true):i<l.length:=by
 rcases Ie i l.length with h2|h2
 ·exact h2
 ·rw[at_out h2]at h;cases h
theorem at_set(l:List Bool)(i j:Nat)(b:Bool)(h:i<l.length):at_ (l.set i b) j=if i=j then b else at_ l j:=by
 simp only[at_,List.getD,Ei]
 split
 ·rename_i e;subst e;simp[h]
 ·rfl
def wd(l:List Bool)(i:Nat):Nat:=Bt.ofBits (fun j=>at_ l (64*i+j)) 64
theorem afI(l:List Bool)(i:Nat):wd l i<18446744073709551616:=Bt.YW _ 64
theorem Sj(l:List Bool)(i j:Nat):(wd l i).testBit j=(decide (j<64)&&at_ l (64*i+j)):=Bt.OO _ _ _
def nw(l:List Bool):Nat:=(l.length+63)/64
def ws(l:List Bool):List Int:=(List.range (nw l)).map fun i=>((wd l i:Nat):Int)
theorem XD(l:List Bool):(ws l).length=nw l:=by simp[ws]
theorem Vp(l:List Bool)(i:Nat)(h:i<nw l):(ws l)[i]? =some ((wd l i:Nat):Int):=by simp[ws,h]
def cnt(l:List Bool):Nat:=l.count true
theorem cnt_le(l:List Bool):cnt l≤l.length:=List.count_le_length
theorem amr(l:List Bool)(i:Nat)(h:i<l.length)(h0:at_ l i=false):cnt (l.set i true)=cnt l+1:=by
 have h1:l[i]=false:=by simpa [at_,List.getD,h]using h0
 unfold cnt
 rw[List.count_set h,h1];simp
theorem apH(l:List Bool)(i:Nat)(h0:at_ l i=true):cnt (l.set i false)+1=cnt l:=by
 have h:=ah2 h0
 have h1:l[i]=true:=by simpa [at_,List.getD,h]using h0
 unfold cnt
 rw[List.count_set h,h1]
 have:0<l.count true:=Xj.2 (h1▸FT h)
 simp;omega
theorem av4(l:List Bool)(a:Nat)(h:a<l.length):wd l (a/64)|||2^(a%64)=wd (l.set a true) (a/64):=by
 apply Ep
 intro j
 rw[VK,Sj,Sj,at_set _ _ _ _ h,Qk]
 by_cases hj:j<64
 ·by_cases e:a%64=j
  ·have:a=64*(a/64)+j:=Y
   simp[hj,e,←this]
  ·have:¬a=64*(a/64)+j:=Y
   simp[hj,e,this]
 ·have:¬a%64=j:=Y
  simp[hj,this]
theorem asP(l:List Bool)(a:Nat)(h:a<l.length):wd l (a/64)&&&(18446744073709551615-2^(a%64))=wd (l.set a false) (a/64):=by
 apply Ep
 intro j
 have hp:(2:Nat)^(a%64)<2^64:=Nat.pow_lt_pow_right Ae Y
 have e:18446744073709551615-2^(a%64)=2^64-(2^(a%64)+1):=Y
 rw[LU,e,Jz hp,Sj,Sj,at_set _ _ _ _ h,Qk]
 by_cases hj:j<64
 ·by_cases e:a%64=j
  ·have:a=64*(a/64)+j:=Y
   simp[hj,e,←this]
  ·have:¬a=64*(a/64)+j:=Y
   simp[hj,e,this]
 ·simp[hj]
theorem atf(l:List Bool)(a:Nat)(b:Bool)(h:a<l.length):(ws l).set (a/64) ((wd (l.set a b) (a/64):Nat):Int)=ws (l.set a b):=by
 have hn:nw (l.set a b)=nw l:=by simp[nw]
 apply Eu
 intro i
 rw[Ei,XD]
 by_cases hi:i<nw l
 ·have e1:=Vp (l.set a b) i Y
  have e2:=Vp l i hi
  rw[e1]
  by_cases e:a/64=i
  ·rw[if_pos e,if_pos Y,e]
  ·rw[if_neg e,e2]
   congr 2
   apply Ep
   intro j
   rw[Sj,Sj,at_set _ _ _ _ h]
   by_cases hj:j<64
   ·have:¬a=64*i+j:=Y
    simp[hj,this]
   ·simp[hj]
 ·rw[DC (by rw[XD];omega),DC (by rw[XD];omega)]
  split
  ·rw[if_neg Y]
  ·rfl
theorem aw6(X j:Nat)(h:X<18446744073709551616):bits .and .u64 (((X/2^j:Nat)):Int) 1=if X.testBit j then 1 else 0:=by
 have h2:X/2^j≤X:=N9 _ _
 have:=u64_and_nat (X/2^j) 1 Y Ae
 rw[show((1:Nat):Int)=1 from rfl]at this
 rw[this,Nat.and_one_is_mod,OT]
 split<;>rename_i e<;>simp at e<;>omega
def tl(X s:Nat):Nat:=Bt.ofBits (fun j=>decide (s≤j)&&X.testBit j) 64
theorem alZ(X s j:Nat):(tl X s).testBit j=(decide (j<64)&&(decide (s≤j)&&X.testBit j)):=Bt.OO _ _ _
theorem auR(X s:Nat):tl X s<18446744073709551616:=Bt.YW _ 64
theorem an0(X s:Nat)(h:X<18446744073709551616):IntKind.u64.wrap (((X/2^s:Nat):Int)*2^s)=((tl X s:Nat):Int):=by
 rw[Bt.abh]
 congr 1
 apply Ep
 intro j
 rw[Bt.Vy,alZ]
 by_cases hj:j<64
 ·by_cases hs:s≤j
  ·rw[Nat.testBit_div_two_pow,show j-s+s=j by omega]
  ·simp[hj,hs]
 ·simp[hj]
def ad8(l:List Bool)(a:Nat)(r:Int)(ok:Bool):Prop:=
 (ok=false∧r=0∧∀j,a≤j→at_ l j=false)∨(ok=true∧∃j:Nat,r=j∧a≤j∧at_ l j=true∧∀i,a≤i→i<j→at_ l i=false)
theorem akc(l:List Bool)(a i:Nat)(W:Nat)(hW:∀j,j<64→W.testBit j=(decide (a≤64*i+j)&&at_ l (64*i+j)))(hl:W<18446744073709551616)(h0:W≠0)(hb:∀j,a≤j→j<64*i→at_ l j=false):∃j:Nat,j<64∧Bt.lowest (W:Int)=j∧ad8 l a ((64*i+j:Nat):Int) true:=by
 have hex:∃j,j<64∧W.testBit j=true:=by
  refine II fun hn=>h0 (Ep fun j=>?_)
  rw[Nat.zero_testBit]
  by_cases hj:j<64
  ·cases hw:W.testBit j
   ·rfl
   ·exact absurd ⟨j,hj,hw⟩ hn
  ·exact Bt.abD W j hl Y
 obtain⟨j,⟨hj,hw⟩,hmin⟩:=ald hex
 have hlow:Bt.lowest (W:Int)=j:=by
  refine Bt.akz _ j Y (fun k hk=>?_) (fun _=>by simpa [Bt.bit]using hw)
  cases hw2:(W:Int).toNat.testBit k
  ·rfl
  ·have:=hmin k ⟨Y,by simpa using hw2⟩;omega
 refine⟨j,hj,hlow,.inr ⟨rfl,_,rfl,?_⟩⟩
 have hw':=hw
 rw[hW j hj,FV,decide_eq_true_eq]at hw'
 refine⟨hw'.1,hw'.2,fun k hk hlt=>?_⟩
 by_cases hki:k<64*i
 ·exact hb k hk hki
 ·have h1:=hW (k-64*i) Y
  rw[show 64*i+(k-64*i)=k by omega]at h1
  cases hat:at_ l k
  ·rfl
  ·rw[hat,decide_eq_true hk]at h1
   have:=hmin (k-64*i) ⟨Y,by simpa using h1⟩;omega
where
 ald {p:Nat→Prop} (h:∃m,p m):∃m,p m∧∀k,p k→m≤k:=by
  classical
  obtain⟨m,hm⟩:=h
  induction m using Nat.strongRecOn with
  |_ m ih=>
   by_cases h2:∃k,k<m∧p k
   ·obtain⟨k,hk,hp⟩:=h2;exact ih k hk hp
   ·exact⟨m,hm,fun k hk=>Tj fun hlt=>h2 ⟨k,hlt,hk⟩⟩
theorem ajE(l:List Bool)(a i:Nat)(hW:∀j,j<64→(0:Nat).testBit j=(decide (a≤64*i+j)&&at_ l (64*i+j)))(hb:∀j,a≤j→j<64*i→at_ l j=false):∀j,a≤j→j<64*(i+1)→at_ l j=false:=by
 intro j hj hlt
 by_cases h:j<64*i
 ·exact hb j hj h
 ·have:=hW (j-64*i) Y
  rw[show 64*i+(j-64*i)=j by omega,decide_eq_true hj]at this
  simpa using this.symm
def upto(l:List Bool)(k:Nat):List Int:=((List.range k).filter (at_ l)).map fun(i:Nat)=>(i:Int)
def elems(l:List Bool):List Int:=upto l l.length
theorem upto_succ(l:List Bool)(k:Nat):upto l (k+1)=upto l k++if at_ l k then [(k:Int)]else []:=by
 unfold upto
 rw[LW,List.filter_append,BU]
 congr 1
 cases h:at_ l k<;>simp[h]
theorem YK(l:List Bool)(k m:Nat)(h:k≤m)(hz:∀i,k≤i→i<m→at_ l i=false):upto l m=upto l k:=by
 obtain⟨d,rfl⟩:=Oi h
 induction d with
 |zero=>rfl
 |succ d ih=>rw[←Gs,upto_succ,hz _ Y Y,ih Y (fun i h1 h2=>hz i h1 Y)];simp
theorem ajI(l:List Bool)(k:Nat)(r:Int)(h:ad8 l k r true):∃j:Nat,r=j∧k≤j∧j<l.length∧upto l (j+1)=upto l k++ [r]:=by
 rcases h with⟨h,_⟩|⟨_,j,rfl,hk,hj,hz⟩
 ·cases h
 ·refine⟨j,rfl,hk,ah2 hj,?_⟩
  rw[upto_succ,hj,YK l k j hk hz];simp
theorem aaC(l:List Bool)(k:Nat)(h:l.length≤k):upto l k=elems l:=YK l _ _ h fun i h1 _=>at_out h1
theorem akL(l:List Bool)(k:Nat)(h:∀j,k≤j→at_ l j=false):upto l k=elems l:=by
 rcases Yj k l.length with h1|h1
 ·exact(YK l k _ h1 fun i h2 _=>h i h2).symm
 ·exact aaC l k h1
theorem afq(l:List Bool)(k m:Nat)(h:k≤m):upto l k<+:upto l m:=by
 obtain⟨d,rfl⟩:=Oi h
 induction d with
 |zero=>exact Tf _
 |succ d ih=>exact(ih Y).trans (by rw[←Gs,upto_succ];exact List.prefix_append _ _)
theorem adE(l:List Bool)(k:Nat):upto l k<+:elems l:=by
 rcases Yj k l.length with h|h
 ·exact afq l k _ h
 ·rw[aaC l k h];exact Tf _
theorem ajY(l:List Bool):(elems l).length≤l.length:=by
 unfold elems upto
 rw[Ci]
 exact F9 (O0 _ _) J
def list(l:List Bool)(f t:Int):List Int:=(upto l l.length).filter fun x=>decide (f≤x)&&decide (x<t)
def abG(l:List Bool)(f t:Int)(k:Nat):List Int:=(upto l k).filter fun x=>decide (f≤x)&&decide (x<t)
theorem amQ(l:List Bool):list l 0 l.length=elems l:=by
 unfold list
 rw[Qj.2]
 ·rfl
 ·intro x hx
  unfold upto at hx
  obtain⟨i,hi,rfl⟩:=BX.1 hx
  have:=(Jw.1 hi).1
  simp at this
  simp[this]
theorem ahT(l:List Bool)(f t:Int)(k:Nat)(h:l.length≤k):abG l f t k=list l f t:=by unfold abG list;rw[aaC l k h];rfl
theorem ahN(l:List Bool)(f t:Int)(k:Nat){x:Int}(h:x∈abG l f t k):0≤x∧x<k∧x<l.length:=by
 unfold abG upto at h
 obtain⟨h1,_⟩:=Jw.1 h
 obtain⟨i,hi,rfl⟩:=BX.1 h1
 obtain⟨h2,h3⟩:=Jw.1 hi
 have:=ah2 h3
 simp at h2;omega
def put(l:List Bool)(x:Int)(b:Bool):List Bool:=if 0≤x∧x<l.length then l.set x.toNat b else l
theorem VB{l:List Bool}{i:Nat}(b:Bool)(h:i<l.length):put l i b=l.set i b:=by unfold put;rw[if_pos Y];rfl
theorem V9{l:List Bool}{x:Int}(b:Bool)(h:¬(0≤x∧x<l.length)):put l x b=l:=by unfold put;rw[if_neg h]
theorem Yp(l:List Bool)(x:Int)(b:Bool):(put l x b).length=l.length:=by unfold put;split<;>simp
theorem set_self{l:List Bool}{i:Nat}{b:Bool}(h:i<l.length)(h2:at_ l i=b):l.set i b=l:=by
 have:l[i]=b:=by simpa [at_,List.getD,h]using h2
 rw[←this];exact Vb h
def has(l:List Bool)(x:Int):Bool:=decide (0≤x)&&at_ l x.toNat
theorem aa6{l:List Bool}(i:Nat):has l i=at_ l i:=by simp[has]
theorem aor{l:List Bool}{x:Int}(h:¬(0≤x∧x<l.length)):has l x=false:=by
 unfold has
 by_cases h0:0≤x
 ·rw[at_out Y];simp
 ·simp[h0]
theorem XZ(l:List Bool)(x y:Int)(b:Bool)(h:0≤x∧x<l.length):has (put l x b) y=if x=y then b else has l y:=by
 obtain⟨i,rfl⟩:=Bo h.1
 rw[VB b Y]
 unfold has
 by_cases h0:0≤y
 ·obtain⟨j,rfl⟩:=Bo h0
  rw[Bz,at_set _ _ _ _ Y]
  by_cases e:i=j
  ·subst e;simp
  ·have:¬(i:Int)=(j:Int):=Y
   simp[e,this]
 ·have:¬(i:Int)=y:=Y
  simp[h0,this]
def puts(l:List Bool)(xs:List Int):List Bool:=xs.foldl (fun l x=>put l x true) l
theorem Vl(xs:List Int):∀l,(puts l xs).length=l.length:=by
 induction xs with
 |nil=>intro l;rfl
 |cons x xs ih=>intro l;show(puts (put l x true) xs).length=_;rw[ih,Yp]
theorem acP(l:List Bool)(xs:List Int)(x:Int):puts l (xs++ [x])=put (puts l xs) x true:=by simp[puts]
theorem an9(l:List Bool)(xs:List Int):nw (puts l xs)=nw l:=by unfold nw;rw[Vl]
theorem at_new(n i:Nat):at_ (List.replicate n false) i=false:=by
 unfold at_;rw[List.getD,D7];split<;>rfl
theorem akT(n:Nat):ws (List.replicate n false)=List.replicate ((n+63)/64) 0:=by
 have e:nw (List.replicate n false)=(n+63)/64:=by simp[nw]
 unfold ws
 rw[e]
 apply Eu
 intro i
 rw[BG,D7]
 split
 ·rename_i h
  have:wd (List.replicate n false) i=0:=by
   apply Ep
   intro j
   rw[Sj,at_new];simp
  rw[FD h,EN,this];rfl
 ·rw[DC Af];rfl
theorem aib(n:Nat):cnt (List.replicate n false)=0:=by simp[cnt,List.count_replicate]
theorem auv(n:Nat):Bt.up n 64=(((n+63)/64:Nat):Int):=by
 unfold Bt.up
 split<;>omega
end Bm
end
section
namespace Su
open Go Go.RowKit
def row(b id:Int):List Int:=[8390047168116913201,1,b,id,0,0,0]
def crc(b id:Int):Int:=Cr.more 0 (By.bytes (row b id))
theorem agr(b id:Int):0≤crc b id∧crc b id≤4294967295:=Cr.WH 0 _ Y Y (By.PY _)
def okB(l1 l2 l4 l5 l6:Int):Prop:=l1=1∧l4=0∧l5=0∧l6=0∧2≤l2∧l2≤256
instance (l1 l2 l4 l5 l6:Int):Decidable (okB l1 l2 l4 l5 l6):=by unfold okB;infer_instance
def Es(l1 l2 l3 l4 l5 l6:Int):Int:=Cr.more 0 (By.bytes [8390047168116913201,l1,l2,l3,l4,l5,l6])
theorem N8(l1 l2 l3 l4 l5 l6:Int):0≤Es l1 l2 l3 l4 l5 l6∧Es l1 l2 l3 l4 l5 l6≤4294967295:=Cr.WH 0 _ Y Y (By.PY _)
theorem apC(b id:Int):Es 1 b id 0 0 0=crc b id:=rfl
def Qs(l0 l1 l2 l3 l4 l5 l6 l7:Int):Int:=if l0=8390047168116913201∧l7=Es l1 l2 l3 l4 l5 l6∧okB l1 l2 l4 l5 l6 then l2 else 0
def acg(l0 l1 l2 l3 l4 l5 l6 l7:Int):Int:=if l0=8390047168116913201∧l7=Es l1 l2 l3 l4 l5 l6∧okB l1 l2 l4 l5 l6 then l3 else 0
def MZ(l0 l1 l2 l3 l4 l5 l6 l7:Int):Int:=if l0=8390047168116913201 then(if l7=Es l1 l2 l3 l4 l5 l6 then(if okB l1 l2 l4 l5 l6 then 0 else 26)else 25)else 24
theorem ajj(l0 l1 l2 l3 l4 l5 l6 l7:Int)(h:l0≠8390047168116913201):Qs l0 l1 l2 l3 l4 l5 l6 l7=0∧acg l0 l1 l2 l3 l4 l5 l6 l7=0∧MZ l0 l1 l2 l3 l4 l5 l6 l7=24:=by
 unfold Qs acg MZ
 rw[if_neg (fun x=>h x.1),if_neg (fun x=>h x.1),if_neg h]
 exact⟨rfl,rfl,rfl⟩
theorem an4(l1 l2 l3 l4 l5 l6 l7:Int)(h:l7≠Es l1 l2 l3 l4 l5 l6):Qs 8390047168116913201 l1 l2 l3 l4 l5 l6 l7=0∧acg 8390047168116913201 l1 l2 l3 l4 l5 l6 l7=0∧MZ 8390047168116913201 l1 l2 l3 l4 l5 l6 l7=25:=by
 unfold Qs acg MZ
 rw[if_neg (fun x=>h x.2.1),if_neg (fun x=>h x.2.1),if_pos rfl,if_neg h]
 exact⟨rfl,rfl,rfl⟩
theorem aly(l1 l2 l3 l4 l5 l6:Int)(h:okB l1 l2 l4 l5 l6):Qs 8390047168116913201 l1 l2 l3 l4 l5 l6 (Es l1 l2 l3 l4 l5 l6)=l2∧acg 8390047168116913201 l1 l2 l3 l4 l5 l6 (Es l1 l2 l3 l4 l5 l6)=l3∧MZ 8390047168116913201 l1 l2 l3 l4 l5 l6 (Es l1 l2 l3 l4 l5 l6)=0:=by
 unfold Qs acg MZ
 rw[if_pos ⟨rfl,rfl,h⟩,if_pos ⟨rfl,rfl,h⟩,if_pos rfl,if_pos rfl,if_pos h]
 exact⟨rfl,rfl,rfl⟩
theorem aju(l1 l2 l3 l4 l5 l6:Int)(h:¬okB l1 l2 l4 l5 l6):Qs 8390047168116913201 l1 l2 l3 l4 l5 l6 (Es l1 l2 l3 l4 l5 l6)=0∧acg 8390047168116913201 l1 l2 l3 l4 l5 l6 (Es l1 l2 l3 l4 l5 l6)=0∧MZ 8390047168116913201 l1 l2 l3 l4 l5 l6 (Es l1 l2 l3 l4 l5 l6)=26:=by
 unfold Qs acg MZ
 rw[if_neg (fun x=>h x.2.2),if_neg (fun x=>h x.2.2),if_pos rfl,if_pos rfl,if_neg h]
 exact⟨rfl,rfl,rfl⟩
def Fh(b:Int):Bool:=decide (2≤b∧b≤256)
theorem FY(b:Int)(h:2≤b)(h2:b≤256):Fh b=true:=by unfold Fh;simp;omega
theorem Ju(b:Int)(h:b<2∨256<b):Fh b=false:=by unfold Fh;simp;omega
end Su
end
section
namespace Gr
structure St where
 out:List Int
 q:List Int
def next(pt:Int→List Int)(s:St):St:=
 match s.q with
 | []=>s
 |c::q=>if c<0∨c∈s.out then⟨s.out,q⟩else⟨s.out++ [c],q++pt c⟩
def st(pt:Int→List Int)(s:St):Nat→St
 |0=>s
 |k+1=>next pt (st pt s k)
theorem ahS{pt:Int→List Int}{s:St}{k:Nat}(h:(st pt s k).q=[]):∀j,st pt s (k+j)=st pt s k
 |0=>rfl
 |j+1=>by
  rw[←Gs,st,ahS h j]
  unfold next
  rw[h]
theorem ao5{pt:Int→List Int}{s:St}{a b:Nat}(ha:(st pt s a).q=[])(hb:(st pt s b).q=[]):(st pt s a).out=(st pt s b).out:=by
 rcases Yj a b with h|h
 ·have:=ahS ha (b-a)
  rw[show a+(b-a)=b by omega]at this
  rw[this]
 ·have:=ahS hb (a-b)
  rw[show b+(a-b)=a by omega]at this
  rw[this]
theorem agZ(pt:Int→List Int)(s:St)(a:Nat):∀b,st pt s (a+b)=st pt (st pt s a) b
 |0=>rfl
 |b+1=>by rw[←Gs,st,agZ pt s a b];rfl
def come(out:List Int)(c:Int):List Int:=if c<0∨c∈out then out else out++ [c]
theorem aiu(out:List Int)(c:Int):come out c=out∨come out c=out++ [c]:=by
 unfold come;split
 ·exact .inl rfl
 ·exact .inr rfl
def flat(pt:Int→List Int)(l:List Int):List Int:=l.flatMap pt
theorem akP(pt:Int→List Int)(out cs:List Int)(c:Int)(i:Nat)(hi:i≤out.length):
 next pt ⟨out,(c::cs)++flat pt (out.drop i)⟩=⟨come out c,cs++flat pt ((come out c).drop i)⟩:=by
 unfold next come
 simp only[EJ]
 split
 ·rfl
 ·rw[Ls hi]
  unfold flat
  rw[List.flatMap_append]
  simp
theorem agf(out:List Int)(c:Int):out.length≤(come out c).length:=by
 rcases aiu out c with h|h<;>rw[h]<;>simp
theorem agz(pt:Int→List Int)(i:Nat):∀(cs out:List Int),i≤out.length→st pt ⟨out,cs++flat pt (out.drop i)⟩ cs.length=⟨cs.foldl come out,flat pt ((cs.foldl come out).drop i)⟩
 | [],out,_=>rfl
 |c::cs,out,hi=>by
  have h1:=akP pt out cs c i hi
  have h2:=agz pt i cs (come out c) (F9 hi (agf out c))
  rw[Em,Uh,agZ]
  have e:st pt ⟨out,(c::cs)++flat pt (out.drop i)⟩ 1=next pt ⟨out,(c::cs)++flat pt (out.drop i)⟩:=rfl
  rw[e,h1,h2]
  rfl
def ord(pt:Int→List Int)(roots:List Int):Nat→List Int
 |0=>roots.foldl come []
 |i+1=>match(ord pt roots i)[i]? with
  |some x=>(pt x).foldl come (ord pt roots i)
  |none=>ord pt roots i
theorem amn(pt:Int→List Int)(roots:List Int):∀i,i≤(ord pt roots i).length→∃k,st pt ⟨[],roots⟩ k=⟨ord pt roots i,flat pt ((ord pt roots i).drop i)⟩
 |0,_=>by
  have h:=agz pt 0 roots [] (Bg _)
  refine⟨roots.length,?_⟩
  have e:roots++flat pt (([]:List Int).drop 0)=roots:=by simp[flat]
  rw[e]at h
  exact h
 |i+1,hi=>by
  rw[ord]at hi⊢
  cases hx:(ord pt roots i)[i]? with
  |none=>
   rw[hx]at hi
   have:=abZ.1 hx
   simp only[]at hi
   omega
  |some x=>
   obtain⟨hlt,hxe⟩:=BA.1 hx
   obtain⟨k,hk⟩:=amn pt roots i Y
   have h:=agz pt (i+1) (pt x) (ord pt roots i) Y
   refine⟨k+(pt x).length,?_⟩
   rw[agZ,hk]
   have e:flat pt ((ord pt roots i).drop i)=pt x++flat pt ((ord pt roots i).drop (i+1)):=by
    rw[Hy hlt,hxe];rfl
   rw[e,h]
theorem aeL(pt:Int→List Int)(roots:List Int)(i:Nat)(hi:(ord pt roots i).length=i):∃k,st pt ⟨[],roots⟩ k=⟨ord pt roots i,[]⟩:=by
 obtain⟨k,hk⟩:=amn pt roots i Y
 refine⟨k,?_⟩
 rw[hk,OH Y]
 rfl
theorem amq(pt pt':Int→List Int)(f:Int→Int)(s:St)(P:Int→Prop)(hP:∀x∈s.q,0≤x→P x)(hO:∀x∈s.out,0≤x∧P x)(hn:∀x,x<0→f x<0)(hp:∀x,0≤x→P x→0≤f x)(hinj:∀x y,0≤x→0≤y→P x→P y→f x=f y→x=y)(hpt:∀x,0≤x→P x→pt' (f x)=(pt x).map f):
 next pt' ⟨s.out.map f,s.q.map f⟩=⟨(next pt s).out.map f,(next pt s).q.map f⟩:=by
 unfold next
 cases hq:s.q with
 |nil=>simp[hq]
 |cons c q=>
  simp only[Dx]
  by_cases h:c<0∨c∈s.out
  ·rw[if_pos h,if_pos]
   rcases h with h|h
   ·exact .inl (hn c h)
   ·exact .inr (BX.2 ⟨c,h,rfl⟩)
  ·have hc0:0≤c:=Y
   have hcP:P c:=hP c (by rw[hq];simp) hc0
   rw[if_neg h,if_neg]
   ·simp[hpt c hc0 hcP]
   ·rintro(h1|h1)
    ·have:=hp c hc0 hcP;omega
    ·obtain⟨y,hy,e⟩:=BX.1 h1
     have hyO:=hO y hy
     exact h (.inr (by rw[←hinj y c hyO.1 hc0 hyO.2 hcP e];exact hy))
theorem arB(pt:Int→List Int)(s:St)(P:Int→Prop)(hP:∀x∈s.q,0≤x→P x)(hO:∀x∈s.out,0≤x∧P x)(hpt:∀x,0≤x→P x→∀y∈pt x,0≤y→P y):
 (∀x∈(next pt s).q,0≤x→P x)∧(∀x∈(next pt s).out,0≤x∧P x):=by
 unfold next
 cases hq:s.q with
 |nil=>simp only[];exact⟨hP,hO⟩
 |cons c q=>
  simp only[]
  have hc:0≤c→P c:=hP c (by rw[hq];simp)
  have hqP:∀x∈q,0≤x→P x:=fun x hx=>hP x (by rw[hq];simp[hx])
  split
  ·exact⟨hqP,hO⟩
  ·rename_i h
   have hc0:0≤c:=Y
   refine⟨fun x hx h0=>?_,fun x hx=>?_⟩
   ·rcases BJ.1 hx with h1|h1
    ·exact hqP x h1 h0
    ·exact hpt c hc0 (hc hc0) x h1 h0
   ·rcases BJ.1 hx with h1|h1
    ·exact hO x h1
    ·obtain rfl:=Bf.1 h1
     exact⟨hc0,hc hc0⟩
theorem akQ(pt:Int→List Int)(s:St)(P:Int→Prop)(hP:∀x∈s.q,0≤x→P x)(hO:∀x∈s.out,0≤x∧P x)(hpt:∀x,0≤x→P x→∀y∈pt x,0≤y→P y):∀k,(∀x∈(st pt s k).q,0≤x→P x)∧(∀x∈(st pt s k).out,0≤x∧P x)
 |0=>⟨hP,hO⟩
 |k+1=>by
  obtain⟨h1,h2⟩:=akQ pt s P hP hO hpt k
  exact arB pt _ P h1 h2 hpt
theorem ak'(pt pt':Int→List Int)(f:Int→Int)(s:St)(P:Int→Prop)(hP:∀x∈s.q,0≤x→P x)(hO:∀x∈s.out,0≤x∧P x)(hcl:∀x,0≤x→P x→∀y∈pt x,0≤y→P y)(hn:∀x,x<0→f x<0)(hp:∀x,0≤x→P x→0≤f x)(hinj:∀x y,0≤x→0≤y→P x→P y→f x=f y→x=y)(hpt:∀x,0≤x→P x→pt' (f x)=(pt x).map f):
 ∀k,st pt' ⟨s.out.map f,s.q.map f⟩ k=⟨(st pt s k).out.map f,(st pt s k).q.map f⟩
 |0=>rfl
 |k+1=>by
  obtain⟨h1,h2⟩:=akQ pt s P hP hO hcl k
  rw[st,ak' pt pt' f s P hP hO hcl hn hp hinj hpt k,amq pt pt' f _ P h1 h2 hn hp hinj hpt]
  rfl
theorem agk(pt:Int→List Int)(s:St)(h:s.out.Nodup):∀k,(st pt s k).out.Nodup
 |0=>h
 |k+1=>by
  have ih:=agk pt s h k
  rw[st]
  unfold next
  cases hq:(st pt s k).q with
  |nil=>simpa [hq]using ih
  |cons c q=>
   simp only[]
   split
   ·exact ih
   ·rename_i hn
    refine CS.2 ⟨ih,J,fun a ha b hb e=>?_⟩
    obtain rfl:=Bf.1 hb
    exact hn (.inr (e▸ha))
end Gr
end
end Go.Proofs.YtppilhpcmkekbaaGreat
