/- Parts of the proof. -/
import Derived.WalkKit
import Derived.Laws.BitsAllLaws
import Derived.BigQuiet
import Derived.Outline
import Derived.Deep.QuietTactic
import Derived.Deep.RegionHeld3
import Derived.RowKit
import Derived.Test.YtppilhpcmkekbaaGreatKTopBotha
set_option linter.unusedSimpArgs false
set_option linter.unusedVariables false
set_option linter.unusedSectionVars false
set_option maxRecDepth 100000
set_option maxHeartbeats 16000000
namespace Go.Proofs.YtppilhpcmkekbaaGreat
open Go.Proofs.Tryz
abbrev Ny:=@Classical.byContradiction
section
namespace Cr
open Go Go.RowKit
def step(s:Nat):Nat:=if s%2=1 then(s/2)^^^3988292384 else s/2
def steps:Nat→Nat→Nat
 |0,s=>s
 |n+1,s=>steps n (step s)
theorem aeT(a b k:Nat):(a^^^b)/2^k=a/2^k^^^b/2^k:=by
 rw[←IC,←IC,←IC,Nat.shiftRight_xor_distrib]
theorem ajy:∀a<2,∀b<2,(a^^^b)%2=(a+b)%2:=by decide
theorem amT(a b:Nat):(a^^^b)%2=(a%2+b%2)%2:=by
 have e:(a^^^b)%2^1=a%2^1^^^b%2^1:=by
  apply Eh
  intro i
  simp only[Ih,NR]
  by_cases h:i<1<;>simp[h]
 have h2:=ajy (a%2) Y (b%2) Y
 rw[←h2,show(2:Nat)=2^1 from rfl,←e,Nat.mod_mod]
theorem aw3(a b c d:Nat):(a^^^b)^^^(c^^^d)=(a^^^c)^^^(b^^^d):=by
 rw[Kv,Kv];congr 1;rw[←Kv,Xy b c,Kv]
theorem am6(a b:Nat):step (a^^^b)=step a^^^step b:=by
 unfold step
 rw[amT,show(a^^^b)/2=a/2^^^b/2 from aeT a b 1]
 rcases MR a with ha|ha<;>rcases MR b with hb|hb<;>simp only[ha,hb]<;>simp
 ·rw[Kv]
 ·rw[Kv,Xy (b/2),←Kv]
 ·rw[aw3,Nat.xor_self,Nat.xor_zero]
theorem ajR(n:Nat):∀a b,steps n (a^^^b)=steps n a^^^steps n b:=by
 induction n with
 |zero=>intro a b;rfl
 |succ n ih=>intro a b;rw[steps,am6,ih];rfl
theorem ajz(m n:Nat):∀s,steps (m+n) s=steps n (steps m s):=by
 induction m with
 |zero=>intro s;simp[steps]
 |succ m ih=>intro s;rw[show m+1+n=(m+n)+1 from by omega,steps,ih];rfl
theorem VP(q:Nat):step (2*q)=q:=by unfold step;rw[if_neg Y];omega
theorem alb(q:Nat):steps 4 (16*q)=q:=by
 show step (step (step (step (16*q))))=q
 rw[show 16*q=2*(8*q)from by omega,VP,show 8*q=2*(4*q)from by omega,VP,show 4*q=2*(2*q)from by omega,VP,VP]
theorem anG(s:Nat):s=(16*(s/16))^^^(s%16):=by
 have h:2^4*(s/16)+s%16=2^4*(s/16)|||s%16:=Qe Y _
 have hx:2^4*(s/16)^^^s%16=2^4*(s/16)+s%16:=by
  apply Eh
  intro i
  rw[h,NR,Vx,SX]
  by_cases hi:4≤i
  ·have:(s%16).testBit i=false:=JD (FV (show s%16<2^4 by omega) (Ij Ak hi))
   rw[this];simp
  ·simp[hi]
 rw[show 16*(s/16)=2^4*(s/16)from rfl,hx]
 omega
def tab(i:Nat):Nat:=steps 4 i
theorem amR(s:Nat):steps 4 s=tab (s%16)^^^(s/16):=by
 conv=>lhs;rw[anG s]
 rw[ajR,alb,Xy];rfl
theorem anR(s:Nat)(h:s<4294967296):step s<4294967296:=by
 unfold step
 split
 ·exact Lc (n:=32) Y Y
 ·omega
theorem agp(n:Nat):∀s,s<4294967296→steps n s<4294967296:=by
 induction n with
 |zero=>intro s h;exact h
 |succ n ih=>intro s h;exact ih _ (anR s h)
theorem ahz(s b:Nat)(hb:b<256):
 tab ((tab ((s^^^b)%16)^^^s/16^^^b/16)%16)^^^(tab ((s^^^b)%16)^^^s/16)/16=steps 8 (s^^^b):=by
 rw[show(8:Nat)=4+4 from rfl,ajz,amR (s^^^b)]
 have e:(s^^^b)/16=s/16^^^b/16:=aeT s b 4
 rw[e,←Kv,amR]
 have e2:(tab ((s^^^b)%16)^^^s/16^^^b/16)/16=(tab ((s^^^b)%16)^^^s/16)/16^^^b/16/16:=aeT _ _ 4
 rw[e2,show b/16/16=0 from by omega,Nat.xor_zero]
def Il(i:Int):Int:=(tab (i%16).toNat:Nat)
theorem ad8(i:Nat)(h:i<16):tab i<4294967296:=agp 4 i Y
theorem aoy(i:Int):0≤Il i∧Il i≤4294967295:=by
 have:=ad8 (i%16).toNat Y
 unfold Il;omega
def byte(s b:Int):Int:=(steps 8 (s.toNat^^^b.toNat):Nat)
theorem an0(s b:Int)(h0:0≤s)(h1:s≤4294967295)(h2:0≤b)(h3:b≤255):0≤byte s b∧byte s b≤4294967295:=by
 have hx:s.toNat^^^b.toNat<4294967296:=Lc (n:=32) Y Y
 have:=agp 8 _ hx
 unfold byte;omega
def run(s:Int)(l:List Int):Int:=l.foldl byte s
theorem akX(s:Int)(l:List Int)(b:Int):run s (l++ [b])=byte (run s l) b:=by unfold run;rw[Q9];rfl
theorem agZ(l:List Int):∀s:Int,0≤s→s≤4294967295→(∀b∈l,0≤b∧b≤255)→0≤run s l∧run s l≤4294967295:=by
 induction l with
 |nil=>intro s h0 h1 _;exact⟨h0,h1⟩
 |cons b l ih=>
  intro s h0 h1 hb
  have hb0:=hb b J
  have h2:=an0 s b h0 h1 hb0.1 hb0.2
  exact ih _ h2.1 h2.2 (fun c hc=>hb c (by simp[hc]))
def more(s:Int)(l:List Int):Int:=4294967295-run (4294967295-s) l
theorem VK(s:Int)(l:List Int)(h0:0≤s)(h1:s≤4294967295)(hb:∀b∈l,0≤b∧b≤255):0≤more s l∧more s l≤4294967295:=by
 have:=agZ l (4294967295-s) Y Y hb
 unfold more;omega
theorem aou(a b:Nat):(a%256^^^b)%16=(a^^^b)%16:=by
 apply Eh
 intro i
 rw[show(16:Nat)=2^4 from rfl,show(256:Nat)=2^8 from rfl,Ih,Ih,NR,NR,Ih]
 by_cases hi:i<4
 ·have:i<8:=Y
  simp[this]
 ·simp[hi]
theorem Tq(s b:Int)(h0:0≤s)(h1:s≤4294967295)(h2:0≤b)(h3:b≤255):
 bits .xor .u32 (Il (bits .xor .u8 (s%256) b)) (s/16)=((tab ((s.toNat^^^b.toNat)%16)^^^s.toNat/16:Nat):Int)∧
 0≤bits .xor .u8 (s%256) b∧bits .xor .u8 (s%256) b≤255:=by
 obtain⟨S,rfl⟩:=BR h0
 obtain⟨B,rfl⟩:=BR h2
 have e1:(S:Int)%256=((S%256:Nat):Int):=Y
 rw[e1,u8_xor_nat _ _ Y Y]
 have hlt:S%256^^^B<256:=Lc (n:=8) Y Y
 refine⟨?_,Y,Y⟩
 have e2:Il ((S%256^^^B:Nat):Int)=((tab ((S^^^B)%16):Nat):Int):=by
  unfold Il
  rw[show(((S%256^^^B:Nat):Int)%16).toNat=(S%256^^^B)%16 from by omega,aou]
 rw[e2,show((S:Int)/16)=((S/16:Nat):Int)from by omega,u32_xor_nat _ _ (ad8 _ Y) Y]
 rfl
theorem ajB(s b s1:Int)(h0:0≤s)(h1:s≤4294967295)(h2:0≤b)(h3:b≤255)(e1:bits .xor .u32 (Il (bits .xor .u8 (s%256) b)) (s/16)=s1):
 bits .xor .u32 (Il (bits .xor .u8 (s1%256) (b/16))) (s1/16)=byte s b:=by
 have hh:=Tq s b h0 h1 h2 h3
 rw[hh.1]at e1
 have hs1:tab ((s.toNat^^^b.toNat)%16)^^^s.toNat/16<4294967296:=Lc (n:=32) (ad8 _ Y) Y
 have h4:=Tq s1 (b/16) Y Y Y Y
 rw[h4.1]
 unfold byte
 rw[←ahz _ _ Y,←e1,show(b/16).toNat=b.toNat/16 from by omega,BJ]
theorem aoE(s b s1:Int)(h0:0≤s)(h1:s≤4294967295)(h2:0≤b)(h3:b≤255)(e1:bits .xor .u32 (Il (bits .xor .u8 (s%256) b)) (s/16)=s1):0≤s1∧s1≤4294967295:=by
 have hh:=Tq s b h0 h1 h2 h3
 rw[hh.1]at e1
 have hs1:tab ((s.toNat^^^b.toNat)%16)^^^s.toNat/16<4294967296:=Lc (n:=32) (ad8 _ Y) Y
 omega
theorem afi(s:Int)(h0:0≤s)(h1:s≤4294967295):bits .xor .u32 IntKind.u32.max s=4294967295-s:=by
 obtain⟨S,rfl⟩:=BR h0
 have e:IntKind.u32.max=((4294967295:Nat):Int):=by decide
 rw[e,u32_xor_nat _ _ Ak Y]
 have h:4294967295^^^S=2^32-(S+1):=by
  apply Eh
  intro i
  rw[NR,Js Y,show(4294967295:Nat)=2^32-1 from rfl,L9]
  by_cases hi:i<32
  ·simp[hi]
  ·have:S.testBit i=false:=JD (FV (show S<2^32 by omega) (Ij Ak Y))
   rw[this];simp[hi]
 rw[h];omega
theorem ajG(s:Int)(l:List Int)(h0:0≤s)(h1:s≤4294967295)(hb:∀b∈l,0≤b∧b≤255):bits .xor .u32 IntKind.u32.max (run (4294967295-s) l)=more s l:=by
 have:=agZ l (4294967295-s) Y Y hb
 rw[afi _ this.1 this.2];rfl
end Cr
end
section
namespace Bt
open Go
theorem Pg(k:Nat):((2^k:Nat):Int)=(2:Int)^k:=by simp
theorem aai(k:Nat)(h:k<64):1≤2^k∧2^k≤9223372036854775808:=by
 have a:=QT (n:=k)
 have b:(2:Nat)^k≤2^63:=Ij Ak Y
 omega
def maskN(k:Int):Nat:=2^(min k.toNat 64)-1
def mask(k:Int):Int:=(maskN k:Nat)
theorem afL(k:Int):maskN k<18446744073709551616:=by
 have h:(2:Nat)^(min k.toNat 64)≤2^64:=Ij Ak (Nat.min_le_right _ _)
 have:=QT (n:=min k.toNat 64)
 unfold maskN;omega
theorem Zm(k:Int):0≤mask k:=Int.natCast_nonneg _
theorem aiD(k:Int):mask k≤18446744073709551615:=by have:=afL k;unfold mask;omega
theorem alo(k:Int)(h:k≤0):mask k=0:=by
 have:k.toNat=0:=Y
 unfold mask maskN;rw[this];simp
theorem anX(k:Int)(h:64≤k):mask k=18446744073709551615:=by
 have:min k.toNat 64=64:=Y
 unfold mask maskN;rw[this];decide
theorem amQ(k:Int)(h:0<k)(h2:k<64):IntKind.u64.wrap (IntKind.u64.wrap (2^k.toNat)-1)=mask k:=by
 have e:min k.toNat 64=k.toNat:=Y
 have:=aai k.toNat Y
 have c:=Pg k.toNat
 unfold mask maskN
 rw[e,IntKind.wrap_u64,IntKind.wrap_u64,←c]
 omega
theorem ab5(k:Int)(i:Nat):(maskN k).testBit i=decide (i<min k.toNat 64):=by
 unfold maskN;exact L9 ..
def ofBits(f:Nat→Bool):Nat→Nat
 |0=>0
 |m+1=>ofBits f m+(if f m then 2^m else 0)
theorem Y5(f:Nat→Bool)(m:Nat):ofBits f m<2^m:=by
 induction m with
 |zero=>simp[ofBits]
 |succ m ih=>unfold ofBits;split<;>(rw[Qd];omega)
theorem OD(f:Nat→Bool)(m i:Nat):(ofBits f m).testBit i=(decide (i<m)&&f i):=by
 induction m with
 |zero=>simp[ofBits]
 |succ m ih=>
  unfold ofBits
  have hl:=Y5 f m
  have e:ofBits f m+(if f m then 2^m else 0)=2^m*(if f m then 1 else 0)+ofBits f m:=by split<;>omega
  rw[e,Gi _ hl]
  by_cases h:i<m
  ·rw[if_pos h,ih];simp[h,Nat.lt_succ_of_lt h]
  ·rw[if_neg h]
   by_cases h2:i=m
   ·subst h2;cases f i<;>simp
   ·have:¬i<m+1:=Y
    have h3:i-m≠0:=Y
    simp only[this,decide_false,Jc]
    split
    ·obtain⟨j,hj⟩:=Jg h3
     rw[hj,IG];simp
    ·simp
theorem aaE(x i:Nat)(h:x<18446744073709551616)(hi:64≤i):x.testBit i=false:=
 JD (FV h (by have:(2:Nat)^64≤2^i:=Ij Ak hi;simpa using this))
def aoc(x:Nat)(a:Int)(k:Int):Nat:=if 0≤a∧a<64 then(x>>>a.toNat)&&&maskN k else 0
def get(x a k:Int):Int:=(aoc x.toNat a k:Nat)
theorem ahJ(x a k:Int)(h:a<0∨64≤a):get x a k=0:=by unfold get aoc;rw[if_neg Y];rfl
theorem aqH(x a k:Int)(hx:0≤x)(hx2:x≤18446744073709551615)(h:¬a<0)(h2:a<64):
 bits .and .u64 (x/2^a.toNat) (mask k)=get x a k:=by
 obtain⟨X,rfl⟩:=BR hx
 have e:((X:Int)/2^a.toNat)=((X/2^a.toNat:Nat):Int):=by rw[←Pg];exact(Nq ..).symm
 have hl:X/2^a.toNat≤X:=UG _ _
 rw[e]
 unfold mask
 rw[u64_and_nat _ _ Y (afL k)]
 unfold get aoc
 rw[if_pos Y,IC]
 rfl
def ajr(x:Nat)(a k:Int)(n:Nat):Nat:=
 if 0≤a∧a<64 then ofBits (fun i=>if a.toNat≤i∧i<a.toNat+k.toNat then n.testBit (i-a.toNat)else x.testBit i) 64 else x
def put(x a k n:Int):Int:=(ajr x.toNat a k n.toNat:Nat)
theorem V7(x a k n:Int)(hx:0≤x)(h:a<0∨64≤a):put x a k n=x:=by unfold put ajr;rw[if_neg Y];omega
theorem agu(X:Nat):IntKind.u64.wrap (X:Int)=((X%18446744073709551616:Nat):Int):=by rw[IntKind.wrap_u64];omega
theorem aaX(X:Nat)(s:Nat):IntKind.u64.wrap ((X:Int)*2^s)=((X*2^s%18446744073709551616:Nat):Int):=by
 rw[←Pg,←Lm,agu]
theorem Vs(X s i:Nat):(X*2^s%18446744073709551616).testBit i=(decide (i<64)&&(decide (s≤i)&&X.testBit (i-s))):=by
 have e:18446744073709551616=2^64:=by decide
 rw[e,Ih,Ld,SX]
theorem RU(x a k n:Int)(hx:0≤x)(hx2:x≤18446744073709551615)(hn:0≤n)(hn2:n≤18446744073709551615)(h:¬a<0)(h2:a<64):
 bits .or .u64 (bits .andNot .u64 x (IntKind.u64.wrap (mask k*2^a.toNat))) (bits .and .u64 (IntKind.u64.wrap (n*2^a.toNat)) (IntKind.u64.wrap (mask k*2^a.toNat)))=put x a k n:=by
 obtain⟨X,rfl⟩:=BR hx
 obtain⟨N,rfl⟩:=BR hn
 unfold mask
 rw[aaX,aaX]
 have hm:maskN k*2^a.toNat%18446744073709551616<18446744073709551616:=WL _ Ak
 have hN:N*2^a.toNat%18446744073709551616<18446744073709551616:=WL _ Ak
 have bm:=fun i=>Vs (maskN k) a.toNat i
 have bN:=fun i=>Vs N a.toNat i
 generalize maskN k*2^a.toNat%18446744073709551616=M at*
 generalize N*2^a.toNat%18446744073709551616=NN at*
 rw[u64_andNot_nat _ _ Y hm,u64_and_nat _ _ hN hm]
 have l1:X&&&(18446744073709551615-M)<18446744073709551616:=QD NS Y
 have l2:NN&&&M<18446744073709551616:=QD NS hN
 rw[u64_or_nat _ _ l1 l2]
 unfold put ajr
 rw[if_pos Y]
 congr 1
 apply Eh
 intro i
 rw[OD,Vx,Lu,Lu]
 have e:18446744073709551615-M=2^64-(M+1):=Y
 rw[e,Js (by simpa using hm),bm,bN,ab5]
 by_cases h64:i<64
 ·by_cases ha:a.toNat≤i
  ·by_cases hk:i<a.toNat+k.toNat
   ·have h1:i-a.toNat<min k.toNat 64:=Y
    simp[h64,ha,hk,h1]
   ·have h1:¬i-a.toNat<min k.toNat 64:=Y
    simp[h64,ha,hk,h1]
  ·simp[h64,ha]
 ·have axB:=aaE X i Y Y
  simp[h64,axB]
def bit(x i:Int):Bool:=x.toNat.testBit i.toNat
def hf(X j:Nat):Int:=((X/2^j:Nat):Int)
end Bt
end
section
namespace By
open Go Go.RowKit
def rest(x:Int)(j:Nat):Int:=((x.toNat/256^j:Nat):Int)
def byteAt(x:Int)(j:Nat):Int:=rest x j%256
def Qg(x:Int)(k:Nat):List Int:=(List.range k).map (byteAt x)
def bytes(xs:List Int):List Int:=xs.flatMap fun x=>Qg x 8
theorem aoM(x:Int)(j:Nat)(h:x≤18446744073709551615):0≤rest x j∧rest x j≤18446744073709551615:=by
 have:x.toNat/256^j≤x.toNat:=UG _ _
 unfold rest
 generalize x.toNat/256^j=r at*
 omega
theorem amB(x:Int)(j:Nat)(h:0≤x):x/2^(8*j)=rest x j:=by
 obtain⟨X,rfl⟩:=BR h
 have e:(2:Nat)^(8*j)=256^j:=by rw[Nat.pow_mul]
 unfold rest
 rw[←Bt.Pg,e,BJ]
 exact(Nq ..).symm
theorem ach(x:Int)(j:Nat):0≤byteAt x j∧byteAt x j≤255:=by unfold byteAt;omega
theorem aex(x:Int):Qg x 0=[]:=rfl
theorem aez(x:Int)(k:Nat):Qg x (k+1)=Qg x k++ [byteAt x k]:=by unfold Qg;rw[Lr,EY];rfl
theorem ahy(xs:List Int)(x:Int):bytes (xs++ [x])=bytes xs++Qg x 8:=by unfold bytes;simp
theorem ahk(x:Int)(k:Nat):∀b∈Qg x k,0≤b∧b≤255:=by
 intro b hb
 unfold Qg at hb
 obtain⟨j,_,rfl⟩:=DN.1 hb
 exact ach x j
theorem Qz(xs:List Int):∀b∈bytes xs,0≤b∧b≤255:=by
 intro b hb
 unfold bytes at hb
 obtain⟨x,_,hx⟩:=Y6.1 hb
 exact ahk x 8 b hx
theorem amC(xs:List Int)(b:Int)(k:IntKind):(xs++ [b]).map (Value.int k)=xs.map (Value.int k)++ [.int k b]:=by simp
def low(bs:List Int)(i:Nat):Nat→Int
 |0=>0
 |t+1=>low bs i t+bs.getD (i+t) 0*256^t
def word(bs:List Int)(j:Nat):Int:=low bs (8*j) 8
def words(bs:List Int):List Int:=(List.range ((bs.length+7)/8)).map (word bs)
theorem e8:(256:Int)^8=18446744073709551616:=by decide
def fill(bs:List Int)(N n:Nat):List Int:=(List.range N).map (word (bs.take n))
end By
end
section
section
open Go.RowKit
theorem aj3(A:Option Addr)(len cap:Nat)(xs:List Int)(B:Nat)(w:World)(hr:Gv w B A len (xs.map (Value.int .u64)))(hi:Ints .u64 xs)(hl:len≤1099511627776)(hB:B≤w.heap.size):
 Calls prog 49 #[.slice A len cap] w fun e w'=>∃v,e= .returned v∧w'.ownsRow w.heap.size 5 1 v (8*len) ((By.bytes xs).map (Value.int .u8))∧Below w.heap.size w w':=by
 obtain⟨i0,hi0,hz0,hz1,hz2⟩:=info_parts anz
 have HI:=Lib.hid hi
 have HR:=Lib.hid hr
 have hlen:xs.length=len:=by simpa using hr.1
 have HL:=Lib.hid hlen
 clear hi hr hlen
 go_enter func49,Tryz.ntmps49
 go_wp2_with (first
  |(at_make;refine wpList_make_own (P:=prog) _ rfl _ _ 39 rfl w.heap.size 5 i0 (.int .u8 0) 1 underlying39 hi0 hz0 hz1 .i64 .i64 (8*(len:Int)) (8*len) rfl rfl Y (by rw[hz2];omega) Ac (BF _) ?_;intro w1 hown0 hg0))
 have hb0:Below w.heap.size w w1:=(Below.refl _ _).grown hg0 (BF _) (by intro k hk;cases hk)
 clear hg0
 go_loopw [3,5,6,13,17] (fun v _a _b t _c wr=>∃j:Nat,j≤len∧t= .int .i64 j∧wr.ownsRow w.heap.size 5 1 v (8*j) ((By.bytes (xs.take j)).map (Value.int .u8))∧Below w.heap.size w wr) (fun _ _ _ t _ _=>len-(intOf t).toNat)
 case atStart=>exact⟨0,Y,rfl,hown0,hb0⟩
 case round=>
  clear hown0 hb0
  obtain⟨j,hj,rfl,hown,hbe⟩:=hrel
  have hsz:=hbe.size
  by_cases hlt:j<len
  ·obtain⟨b,off,z,rfl,hbl,hz,hwz,hc⟩:=HR.out.int HI.out hlt
   have hzb:=bounds_u64 hwz
   have hc2:=(hbe.cell (p:=⟨b,off+j,none⟩) Am).trans hc
   have HT:=Lib.hid (Um hz)
   clear hz hwz hc
   go_wp2_with fail
   go_loopw [3,6,17] (fun v _b t wr=>∃k:Nat,k≤8∧t= .int .i64 k∧wr.ownsRow w.heap.size 5 1 v (8*j+k) ((By.bytes (xs.take j)++By.Qg z k).map (Value.int .u8))∧Below w.heap.size w wr) (fun _ _ t _=>8-(intOf t).toNat)
   case atStart=>exact⟨0,Y,rfl,by rw[By.aex,Dl];exact hown,hbe⟩
   case round=>
    clear hown hbe hc2 hsz
    obtain⟨k,hk,rfl,hown,hbe⟩:=hrel
    have hsz:=hbe.size
    have hkb:=By.aoM z k hzb.2
    have hbs:=Lib.hid (By.aez z k)
    by_cases hlk:k<8
    ·have hba:By.rest z k%256=By.byteAt z k:=rfl
     have hbb:=By.ach z k
     have HBA:=Lib.hid hba
     clear hba
     have hsh:=By.amB z k hzb.1
     go_wp2_with (first
      |(at_builtin;refine afR (P:=prog) rfl (.tmp 20) (.tmp 27) 39 rfl w.heap.size 5 i0 (.int .u8 0) 1 underlying39 hi0 hz0 hz1 hz2 rfl _ _ _ rfl hown _ _ rfl rfl Ac Y hsz w.heap.size w hbe (BF _) ?_;intro v' w' hown' axq hlt' _))
     clear hsh
     go_roundw
     case rel=>
      refine⟨k+1,Y,by go_num,?_,axq⟩
      rw[hbs.out,←EK,By.amC,←HBA.out]
      exact hown'
     case measure=>simp[intOf];omega
    ·obtain rfl:k=8:=Y
     go_wp2_with fail
     go_roundw
     case rel=>
      refine⟨j+1,Y,by go_num,?_,hbe⟩
      rw[HT.out,By.ahy]
      exact hown
     case measure=>simp[intOf];omega
  ·go_wp2_with fail
   go_ret
   obtain rfl:j=len:=Y
   rw[Fp (by rw[HL.out];exact BF _)]at hown
   exact⟨_,rfl,hown,hbe⟩
end
end
section
namespace Sl
open Go Go.RowKit
def sum(n q:Int):Int:=Cr.more 0 (By.bytes [n,q])
theorem WW(n q:Int):0≤Cr.more 0 (By.bytes [n,q])∧Cr.more 0 (By.bytes [n,q])≤4294967295:=Cr.VK 0 _ Y Y (By.Qz _)
def sealed(n p:Int):Int:=sum n (IntKind.u64.wrap p)*4294967296+n
theorem ahP(n p:Int)(h1:0≤n)(h2:n≤4294967295):0≤sealed n p∧sealed n p≤18446744073709551615:=by
 have:=WW n (IntKind.u64.wrap p)
 unfold sealed sum;omega
theorem Yb(n p:Int)(h1:0≤n)(h2:n≤4294967295):sealed n p%4294967296=n:=by unfold sealed;omega
theorem al2(n p q:Int)(hq:IntKind.u64.wrap p=q):Cr.more 0 (By.bytes [n,q])*4294967296+n=sealed n p:=by unfold sealed sum;rw[hq]
theorem arN(s n:Nat)(h:n<4294967296):s*4294967296|||n=s*4294967296+n:=by
 rw[Ld,show(4294967296:Nat)=2^32 from rfl,Qe Y]
theorem ajK(n p q:Int)(h1:0≤n)(h2:n≤4294967295)(hq:IntKind.u64.wrap p=q):bits .or .u64 (Cr.more 0 (By.bytes [n,q])*4294967296) n=sealed n p:=by
 rw[←al2 n p q hq]
 have hb:=WW n q
 generalize Cr.more 0 (By.bytes [n,q])=s at*
 obtain⟨S,rfl⟩:=BR hb.1
 obtain⟨N,rfl⟩:=BR h1
 have e:(S:Int)*4294967296=((S*4294967296:Nat):Int):=(Lm S 4294967296).symm
 rw[e,u64_or_nat _ _ Y Y,arN _ _ Y]
 omega
def Lh(x p:Int):Bool:=decide (sealed (x%4294967296) p=x)
def acj(x p:Int):Int:=if Lh x p then x%4294967296 else 0
theorem aaH(x p:Int)(h:Lh x p=false):acj x p=0:=by unfold acj;rw[h];rfl
theorem VZ(x p:Int)(h:Lh x p=true):acj x p=x%4294967296:=by unfold acj;rw[h];rfl
theorem alW(x p:Int)(h:Lh x p=false):(sealed (x%4294967296) p !=x)=true:=by unfold Lh at h;simpa using h
theorem ajF(x p:Int)(h:Lh x p=true):(sealed (x%4294967296) p !=x)=false:=by unfold Lh at h;simpa using h
theorem adq(n p:Int)(h1:0≤n)(h2:n≤4294967295):Lh (sealed n p) p=true∧acj (sealed n p) p=n:=by
 have e:Lh (sealed n p) p=true:=by unfold Lh;rw[Yb n p h1 h2];simp
 exact⟨e,by rw[VZ _ _ e,Yb n p h1 h2]⟩
end Sl
end
section
section
open Go.RowKit
theorem afy(k:Int)(w:World)(h1: -9223372036854775808≤k)(h2:k≤9223372036854775807):
 Calls prog 248 #[.int .i64 k] w fun e w'=>e= .returned (.int .u64 (Bt.mask k))∧w=w':=by
 by_cases a:k≤0
 ·go_enter func248,Tryz.ntmps248
  go_wp2
  go_ret
  exact⟨FK (by rw[Bt.alo k a]),rfl⟩
 ·by_cases b:64≤k
  ·go_enter func248,Tryz.ntmps248
   go_wp2
   go_ret
   exact⟨FK (by rw[Bt.anX k b]),rfl⟩
  ·go_enter func248,Tryz.ntmps248
   go_wp2
   go_ret
   exact⟨FK (Bt.amQ k Y Y),rfl⟩
theorem get_any(x a k:Int)(w:World)(x1:0≤x)(x2:x≤18446744073709551615)(a1: -9223372036854775808≤a)(a2:a≤9223372036854775807)(h1: -9223372036854775808≤k)(h2:k≤9223372036854775807):
 Calls prog 200 #[.int .u64 x,.int .i64 a,.int .i64 k] w fun e w'=>e= .returned (.int .u64 (Bt.get x a k))∧w=w':=by
 have m1:=Bt.Zm k
 have m2:=Bt.aiD k
 by_cases c:a<0
 ·go_enter func200,Tryz.ntmps200
  go_wp2_with fail
  go_ret
  exact⟨FK (Bt.ahJ x a k (.inl c)).symm,rfl⟩
 ·by_cases b:64≤a
  ·go_enter func200,Tryz.ntmps200
   go_wp2_with fail
   go_ret
   exact⟨FK (Bt.ahJ x a k (.inr b)).symm,rfl⟩
  ·go_enter func200,Tryz.ntmps200
   go_wp2_with fail
   refine(afy _ _ Y Y).mono ?_
   rintro e w' ⟨rfl,rfl⟩
   go_wp2_with fail
   go_ret
   exact⟨FK (Bt.aqH x a k x1 x2 Y Y),rfl⟩
theorem put_any(x a k n:Int)(w:World)(x1:0≤x)(x2:x≤18446744073709551615)(a1: -9223372036854775808≤a)(a2:a≤9223372036854775807)(h1: -9223372036854775808≤k)(h2:k≤9223372036854775807)
 (n1:0≤n) (n2:n≤18446744073709551615):
 Calls prog 224 #[.int .u64 x,.int .i64 a,.int .i64 k,.int .u64 n] w fun e w'=>e= .returned (.int .u64 (Bt.put x a k n))∧w=w':=by
 have m1:=Bt.Zm k
 have m2:=Bt.aiD k
 by_cases c:a<0
 ·go_enter func224,Tryz.ntmps224
  go_wp2_with fail
  go_ret
  exact⟨FK (Bt.V7 x a k n x1 (.inl c)).symm,rfl⟩
 ·by_cases b:64≤a
  ·go_enter func224,Tryz.ntmps224
   go_wp2_with fail
   go_ret
   exact⟨FK (Bt.V7 x a k n x1 (.inr b)).symm,rfl⟩
  ·go_enter func224,Tryz.ntmps224
   go_wp2_with fail
   refine(afy _ _ Y Y).mono ?_
   rintro e w' ⟨rfl,rfl⟩
   go_wp2_with fail
   go_ret
   exact⟨FK (Bt.RU x a k n x1 x2 n1 n2 Y Y),rfl⟩
end
end
section
namespace Bt
open Go
theorem ad4(x:Nat)(a k:Int)(n:Nat)(i:Nat)(h:0≤a)(h2:a<64):
 (ajr x a k n).testBit i=(decide (i<64)&&if a.toNat≤i∧i<a.toNat+k.toNat then n.testBit (i-a.toNat)else x.testBit i):=by
 unfold ajr
 rw[if_pos ⟨h,h2⟩,OD]
end Bt
end
section
namespace Oh
open Go Go.RowKit
theorem ajU(x a k n:Nat)(h:a+k≤64)(ha:a<64)(hx:x<2^a)(hn:n<2^k):Bt.ajr x a k n=2^a*n+x:=by
 apply Eh
 intro i
 rw[Bt.ad4 _ _ _ _ _ Y Y,Gi _ hx,BJ,BJ]
 by_cases h1:i<a
 ·have c:¬(a≤i∧i<a+k):=Y
  rw[if_neg c,if_pos h1]
  have:i<64:=Y
  simp[this]
 ·rw[if_neg h1]
  by_cases h2:i<a+k
  ·rw[if_pos ⟨Y,h2⟩]
   have:i<64:=Y
   simp[this]
  ·rw[if_neg Y]
   have e1:x.testBit i=false:=JD (FV hx (Ij Ak Y))
   have e2:n.testBit (i-a)=false:=JD (FV hn (Ij Ak Y))
   rw[e1,e2];simp
theorem Xl(x n:Int)(a k:Nat)(h:a+k≤64)(ha:a<64)(h0:0≤x)(hx:x<2^a)(hn0:0≤n)(hn:n<2^k):Bt.put x a k n=2^a*n+x:=by
 obtain⟨X,rfl⟩:=BR h0
 obtain⟨N,rfl⟩:=BR hn0
 rw[←Bt.Pg]at*
 unfold Bt.put
 rw[BJ,BJ,ajU X a k N h ha Y Y]
 rw[akg,Lm]
theorem Xz(x:Int)(a k:Nat)(ha:a<64)(hk:k≤64)(h0:0≤x):Bt.get x a k=x/2^a%2^k:=by
 obtain⟨X,rfl⟩:=BR h0
 unfold Bt.get Bt.aoc
 rw[if_pos Y,BJ,BJ,IC]
 have e:Bt.maskN k=2^k-1:=by unfold Bt.maskN;rw[BJ,Lj hk]
 rw[e,Nat.and_two_pow_sub_one_eq_mod,←Bt.Pg,←Bt.Pg,Int.natCast_emod,Nq]
theorem avv(p d:Int)(h1:0≤p)(h2:p≤63)(h3:0≤d)(h4:d≤16384):
 Bt.put 165 8 6 p=165+256*p∧Bt.put (165+256*p) 14 15 d=165+256*p+16384*d:=by
 have a:=Xl 165 p 8 6 Ak Ak Y Ak h1 Y
 have b:=Xl (165+256*p) d 14 15 Ak Ak Y Y h3 Y
 have e1:((8:Nat):Int)=8:=rfl
 have e2:((6:Nat):Int)=6:=rfl
 have e3:((14:Nat):Int)=14:=rfl
 have e4:((15:Nat):Int)=15:=rfl
 rw[e1,e2]at a
 rw[e3,e4]at b
 rw[a,b]
 omega
def enc(p d at_:Int):Int:=if Cl.size p d=0 then 0 else Sl.sealed (165+256*p+16384*d) at_
theorem VN(p d at_:Int)(h:p<0∨p>63∨d<0∨d>16384):enc p d at_=0:=by unfold enc;rw[if_pos (Cl.QG p d h).1]
theorem QW(p d at_:Int)(h1:0≤p)(h2:p≤63)(h3:0≤d)(h4:d≤16384):enc p d at_=Sl.sealed (165+256*p+16384*d) at_:=by
 unfold enc;rw[if_neg (by rw[(Cl.Ns p d h1 h2 h3 h4).1];omega)]
theorem abr(p d at_:Int):0≤enc p d at_∧enc p d at_≤18446744073709551615:=by
 by_cases h:p<0∨p>63∨d<0∨d>16384
 ·rw[VN p d at_ h];omega
 ·rw[QW p d at_ Y Y Y Y]
  exact Sl.ahP _ _ Y Y
def SV(x:Int):Int:=x%4294967296/256%64
def SN(x:Int):Int:=x%4294967296/16384%32768
theorem aeC(x:Int):0≤SV x∧SV x≤63∧0≤SN x∧SN x≤32767:=by unfold SV SN;omega
theorem adP(x:Int):Bt.get (x%4294967296) 8 6=SV x∧Bt.get (x%4294967296) 14 15=SN x:=by
 have a:=Xz (x%4294967296) 8 6 Ak Ak Y
 have b:=Xz (x%4294967296) 14 15 Ak Ak Y
 exact⟨a,b⟩
def Qj(x at_:Int):Bool:=Sl.Lh x at_&&decide (enc (SV x) (SN x) at_=x)
def MJ(x at_:Int):Int:=if Sl.Lh x at_ then(if enc (SV x) (SN x) at_=x then 0 else 26)else 25
def decP(x at_:Int):Int:=if Qj x at_ then SV x else 0
def Tn(x at_:Int):Int:=if Qj x at_ then SN x else 0
theorem TY(x at_:Int)(h:Sl.Lh x at_=false):MJ x at_=25∧decP x at_=0∧Tn x at_=0:=by
 unfold MJ decP Tn Qj;rw[h];simp
theorem VD(x at_:Int)(h:Sl.Lh x at_=true)(h2:enc (SV x) (SN x) at_≠x):MJ x at_=26∧decP x at_=0∧Tn x at_=0:=by
 unfold MJ decP Tn Qj;rw[h];simp[h2]
theorem Qw(x at_:Int)(h:Sl.Lh x at_=true)(h2:enc (SV x) (SN x) at_=x):MJ x at_=0∧decP x at_=SV x∧Tn x at_=SN x:=by
 unfold MJ decP Tn Qj;rw[h];simp[h2]
theorem agw(x at_:Int)(h:Cl.size (SV x) (SN x)=0)(h0:0≤x):enc (SV x) (SN x) at_≠x:=by
 intro e
 unfold enc at e
 rw[if_pos h]at e
 have hx:x=0:=e.symm
 rw[hx]at h
 revert h
 decide
theorem Rt(p d at_:Int)(h1:0≤p)(h2:p≤63)(h3:0≤d)(h4:d≤16384):MJ (enc p d at_) at_=0∧decP (enc p d at_) at_=p∧Tn (enc p d at_) at_=d:=by
 have e:=QW p d at_ h1 h2 h3 h4
 have hm:=Sl.Yb (165+256*p+16384*d) at_ Y Y
 have ho:=(Sl.adq (165+256*p+16384*d) at_ Y Y).1
 have rp:SV (enc p d at_)=p:=by unfold SV;rw[e,hm];omega
 have rd:SN (enc p d at_)=d:=by unfold SN;rw[e,hm];omega
 have r:=Qw (enc p d at_) at_ (by rw[e];exact ho) (by rw[rp,rd])
 rw[rp,rd]at r
 exact r
def inB(i n:Int):Bool:=decide (0≤i∧i<n)
theorem aae(i n:Int)(h:0≤i)(h2:i<n):inB i n=true:=by unfold inB;simp;omega
theorem adE(i n:Int)(h:i<0∨n≤i):inB i n=false:=by unfold inB;simp;omega
end Oh
end
section
section
open Go.RowKit
theorem agM(w:World)(cs:Array Value)(T:TypeId)(i:Nat)(u:Value)(h:cs[i]? =some u):(w.alloc (.cells cs T)).cell? ⟨w.heap.size,i,none⟩=some u:=by
 rw[Joins.cell_of_block (heap_alloc_new w _),h]
theorem aoO{w W:World}(u0 u1 u2:Value)(T:TypeId)(hB:Below w.heap.size w W):(W.alloc (.cells #[u0,u1,u2] T)).cell? ⟨W.heap.size,0,none⟩=some u0∧(W.alloc (.cells #[u0,u1,u2] T)).cell? ⟨W.heap.size,1,none⟩=some u1∧(W.alloc (.cells #[u0,u1,u2] T)).cell? ⟨W.heap.size,2,none⟩=some u2∧Below w.heap.size w (W.alloc (.cells #[u0,u1,u2] T)):=by
 exact⟨agM W _ T 0 u0 rfl,agM W _ T 1 u1 rfl,agM W _ T 2 u2 rfl,hB.alloc hB.size _⟩
end
end
section
section
open Go.RowKit
end
end
section
namespace Bt
open Go
def pop(x:Nat):Nat→Nat
 |0=>0
 |m+1=>x%2+pop (x/2) m
def cnt(f:Nat→Bool):Nat→Nat
 |0=>0
 |m+1=>cnt f m+(if f m then 1 else 0)
theorem cnt_le(f:Nat→Bool)(m:Nat):cnt f m≤m:=by
 induction m with
 |zero=>simp[cnt]
 |succ m ih=>unfold cnt;split<;>omega
theorem ajX(f:Nat→Bool)(m:Nat):cnt f (m+1)=(if f 0 then 1 else 0)+cnt (fun i=>f (i+1)) m:=by
 induction m with
 |zero=>simp[cnt]
 |succ m ih=>
  rw[cnt,ih];conv=>rhs;rw[cnt]
  omega
theorem ab9{f g:Nat→Bool}{m:Nat}(h:∀i,i<m→f i=g i):cnt f m=cnt g m:=by
 induction m with
 |zero=>rfl
 |succ m ih=>rw[cnt,cnt,ih (fun i hi=>h i Y),h m Y]
theorem adO(m:Nat):∀x:Nat,pop x m=cnt x.testBit m:=by
 induction m with
 |zero=>intro x;rfl
 |succ m ih=>
  intro x
  rw[pop,ajX,ih]
  have e:cnt (x/2).testBit m=cnt (fun i=>x.testBit (i+1)) m:=ab9 fun i _=>by rw[IG]
  rw[e,Np]
  rcases MR x with h|h<;>simp[h]
theorem YA(a:Nat):∀(b x:Nat),pop x (a+b)=pop (x%2^a) a+pop (x/2^a) b:=by
 induction a with
 |zero=>intro b x;simp[pop]
 |succ a ih=>
  intro b x
  rw[show a+1+b=(a+b)+1 from by omega,pop,ih,pop]
  have e1:x%2^(a+1)%2=x%2:=by
   rw[Qd,Ld];exact Nat.mod_mul_right_mod x 2 (2^a)
  have e2:x%2^(a+1)/2=x/2%2^a:=by
   rw[Qd,Ld];exact Nat.mod_mul_right_div_self x 2 (2^a)
  have e3:x/2/2^a=x/2^(a+1):=by rw[adM,Qd,Ld]
  rw[e1,e2,e3];omega
def count(x:Int):Int:=(pop x.toNat 64:Nat)
theorem ajk(s h l h' l':Nat)(hl:l<2^s)(hl':l'<2^s):(2^s*h+l)&&&(2^s*h'+l')=2^s*(h&&&h')+(l&&&l'):=by
 have hx:l&&&l'<2^s:=Nat.and_lt_two_pow _ hl'
 apply Eh
 intro i
 rw[Lu,Gi _ hl,Gi _ hl',Gi _ hx]
 split<;>rw[Lu]
theorem aap(h l h' l':Nat)(hl:l<256)(hl':l'<256):(256*h+l)&&&(256*h'+l')=256*(h&&&h')+(l&&&l'):=ajk 8 h l h' l' hl hl'
def sw1(x m:Nat):Nat:=x-((x/2)&&&m)
def sw2(y m:Nat):Nat:=(y&&&m)+((y/4)&&&m)
def sw3(z m:Nat):Nat:=(z+z/16)&&&m
theorem f1:∀b<2,∀l<128,(128*b+l)&&&85=l&&&85:=by decide+kernel
theorem f2:∀b<4,∀l<64,(64*b+l)&&&51=l&&&51:=by decide+kernel
theorem f3:∀b<5,∀l<73,(16*b+l)&&&15=l&&&15:=by decide+kernel
theorem amx(h l m:Nat)(hl:l<256):sw1 (256*h+l) (256*m+85)=256*sw1 h m+sw1 l 85:=by
 unfold sw1
 have e:(256*h+l)/2=256*(h/2)+(128*(h%2)+l/2):=Y
 rw[e,aap _ _ _ _ Y Ak,f1 _ Y _ Y]
 have h1:h/2&&&m≤h/2:=NS
 have h2:l/2&&&85≤l/2:=NS
 omega
theorem akN(h l m:Nat)(hl:l<256):sw2 (256*h+l) (256*m+51)=256*sw2 h m+sw2 l 51:=by
 unfold sw2
 have e:(256*h+l)/4=256*(h/4)+(64*(h%4)+l/4):=Y
 rw[e,aap _ _ _ _ hl Ak,aap _ _ _ _ Y Ak,f2 _ Y _ Y]
 omega
theorem akT(h l m:Nat)(hl:l≤68)(hh:h%16≤4):sw3 (256*h+l) (256*m+15)=256*sw3 h m+sw3 l 15:=by
 unfold sw3
 have e:256*h+l+(256*h+l)/16=256*(h+h/16)+(16*(h%16)+(l+l/16)):=Y
 rw[e,aap _ _ _ _ Y Ak,f3 _ Y _ Y]
theorem asY:∀b<256,sw1 b 85<256:=by decide+kernel
theorem avt:∀b<256,sw2 (sw1 b 85) 51≤68∧sw2 (sw1 b 85) 51%16≤4:=by decide+kernel
theorem aub:∀b<256,sw3 (sw2 (sw1 b 85) 51) 15=pop b 8:=by decide+kernel
def rep(c:Nat):Nat→Nat
 |0=>0
 |n+1=>256*rep c n+c
def YN:Nat→Nat→Nat
 |0,_=>0
 |n+1,x=>256*YN n (x/256)+pop (x%256) 8
theorem awG(n:Nat):∀x,x<256^n→sw2 (sw1 x (rep 85 n)) (rep 51 n)%16≤4∧sw3 (sw2 (sw1 x (rep 85 n)) (rep 51 n)) (rep 15 n)=YN n x:=by
 induction n with
 |zero=>
  intro x hx;obtain rfl:x=0:=by simpa using hx
  decide
 |succ n ih=>
  intro x hx
  have hl:x%256<256:=WL _ Ak
  have hh:x/256<256^n:=by rw[Qd]at hx;omega
  have ex:x=256*(x/256)+x%256:=Y
  obtain⟨i1,i2⟩:=ih (x/256) hh
  have e1:sw1 x (rep 85 (n+1))=256*sw1 (x/256) (rep 85 n)+sw1 (x%256) 85:=by
   conv=>lhs;rw[ex]
   exact amx _ _ _ hl
  have b1:=asY _ hl
  have b2:=avt _ hl
  have e2:sw2 (sw1 x (rep 85 (n+1))) (rep 51 (n+1))=256*sw2 (sw1 (x/256) (rep 85 n)) (rep 51 n)+sw2 (sw1 (x%256) 85) 51:=by
   rw[e1];exact akN _ _ _ b1
  rw[e2]
  refine⟨Y,?_⟩
  have e3:=akT (sw2 (sw1 (x/256) (rep 85 n)) (rep 51 n)) (sw2 (sw1 (x%256) 85) 51) (rep 15 n) b2.1 i1
  rw[show rep 15 (n+1)=256*rep 15 n+15 from rfl,e3,i2,aub _ hl]
  rfl
theorem aoj(x:Nat):pop x 8≤8:=by rw[adO];exact cnt_le _ _
theorem am7(Az S R:Nat)(hR:R<72057594037927936)(hS:S<256):(18446744073709551616*Az+(72057594037927936*S+R))%18446744073709551616/72057594037927936=S:=Y
theorem ajZ(x:Nat)(h:x<18446744073709551616):(YN 8 x*72340172838076673%18446744073709551616)/72057594037927936=pop x 64:=by
 have p:=fun y=>aoj y
 have e0:∀y m,pop y (8+m)=pop (y%256) 8+pop (y/256) m:=fun y m=>by
  rw[YA]
 rw[show(64:Nat)=8+56 from rfl,e0,show(56:Nat)=8+48 from rfl,e0,show(48:Nat)=8+40 from rfl,e0,show(40:Nat)=8+32 from rfl,e0,show(32:Nat)=8+24 from rfl,e0,show(24:Nat)=8+16 from rfl,e0,
  show(16:Nat)=8+8 from rfl,e0]
 have e8:pop (x/256/256/256/256/256/256/256) 8=pop (x/256/256/256/256/256/256/256%256) 8:=by
  rw[Nat.mod_eq_of_lt Y]
 rw[e8]
 unfold YN YN YN YN YN YN YN YN YN
 have p0:=p (x%256)
 have p1:=p (x/256%256)
 have p2:=p (x/256/256%256)
 have p3:=p (x/256/256/256%256)
 have p4:=p (x/256/256/256/256%256)
 have p5:=p (x/256/256/256/256/256%256)
 have p6:=p (x/256/256/256/256/256/256%256)
 have p7:=p (x/256/256/256/256/256/256/256%256)
 generalize pop (x%256) 8=q0 at*
 generalize pop (x/256%256) 8=q1 at*
 generalize pop (x/256/256%256) 8=q2 at*
 generalize pop (x/256/256/256%256) 8=q3 at*
 generalize pop (x/256/256/256/256%256) 8=q4 at*
 generalize pop (x/256/256/256/256/256%256) 8=q5 at*
 generalize pop (x/256/256/256/256/256/256%256) 8=q6 at*
 generalize pop (x/256/256/256/256/256/256/256%256) 8=q7 at*
 clear e8 e0 p h
 have hP:(256*(256*(256*(256*(256*(256*(256*(256*0+q7)+q6)+q5)+q4)+q3)+q2)+q1)+q0)*72340172838076673=18446744073709551616*(q1*1+q2*257+q3*65793+q4*16843009+q5*4311810305+q6*1103823438081+q7*282578800148737)+(72057594037927936*(q0+q1+q2+q3+q4+q5+q6+q7)+(q0*282578800148737+q1*282578800148736+q2*282578800148480+q3*282578800082944+q4*282578783305728+q5*282574488338432+q6*281474976710656)):=Y
 have hR:q0*282578800148737+q1*282578800148736+q2*282578800148480+q3*282578800082944+q4*282578783305728+q5*282574488338432+q6*281474976710656<72057594037927936:=Y
 have hS:q0+q1+q2+q3+q4+q5+q6+q7<256:=Y
 rw[hP,am7 _ _ _ hR hS]
 clear hP hR hS
 omega
end Bt
end
section
namespace Bt
open Go Go.RowKit
def M5:Nat:=6148914691236517205
def M3:Nat:=3689348814741910323
def MF:Nat:=1085102592571150095
theorem arX:M5=rep 85 8:=by decide
theorem asH:M3=rep 51 8:=by decide
theorem arF:MF=rep 15 8:=by decide
theorem wrap64_small(n:Int)(h:0≤n)(h2:n≤1000000):wrap64 n=n:=by unfold wrap64;omega
theorem ahg(x:Int)(h1:0≤x)(h2:x≤18446744073709551615):
 wrap64 (IntKind.u64.wrap (bits .and .u64 (IntKind.u64.wrap (IntKind.u64.wrap (bits .and .u64 (IntKind.u64.wrap (x-bits .and .u64 (x/2) 6148914691236517205)) 3689348814741910323+
  bits .and .u64 (IntKind.u64.wrap (x-bits .and .u64 (x/2) 6148914691236517205)/4) 3689348814741910323)+
  IntKind.u64.wrap (bits .and .u64 (IntKind.u64.wrap (x-bits .and .u64 (x/2) 6148914691236517205)) 3689348814741910323+
  bits .and .u64 (IntKind.u64.wrap (x-bits .and .u64 (x/2) 6148914691236517205)/4) 3689348814741910323)/16)) 1085102592571150095*72340172838076673)/72057594037927936)=count x:=by
 obtain⟨X,rfl⟩:=BR h1
 have a1:bits .and .u64 ((X:Int)/2) 6148914691236517205=(((X/2)&&&M5:Nat):Int):=by
  have:=u64_and_nat (X/2) M5 Y Ak
  rw[←this];rfl
 have l1:X/2&&&M5≤X/2:=NS
 have c1:IntKind.u64.wrap ((X:Int)-bits .and .u64 ((X:Int)/2) 6148914691236517205)=((sw1 X M5:Nat):Int):=by
  rw[a1,IntKind.wrap_u64];unfold sw1;omega
 have l2:sw1 X M5≤X:=Nat.sub_le _ _
 rw[c1]
 generalize hY:sw1 X M5=AA at*
 have a2:bits .and .u64 (AA:Int) 3689348814741910323=((AA&&&M3:Nat):Int):=by
  have:=u64_and_nat AA M3 Y Ak
  rw[←this];rfl
 have a3:bits .and .u64 ((AA:Int)/4) 3689348814741910323=((AA/4&&&M3:Nat):Int):=by
  have:=u64_and_nat (AA/4) M3 Y Ak
  rw[←this];rfl
 have m1:AA&&&M3≤M3:=Nat.and_le_right
 have m2:AA/4&&&M3≤M3:=Nat.and_le_right
 have e3:M3=3689348814741910323:=rfl
 have c2:IntKind.u64.wrap (bits .and .u64 (AA:Int) 3689348814741910323+bits .and .u64 ((AA:Int)/4) 3689348814741910323)=((sw2 AA M3:Nat):Int):=by
  rw[a2,a3,IntKind.wrap_u64];unfold sw2;omega
 have l3:sw2 AA M3≤7378697629483820646:=by unfold sw2;omega
 rw[c2]
 generalize hZ:sw2 AA M3=Z at*
 have c3:IntKind.u64.wrap ((Z:Int)+(Z:Int)/16)=((Z+Z/16:Nat):Int):=by rw[IntKind.wrap_u64];omega
 rw[c3]
 have c4:bits .and .u64 ((Z+Z/16:Nat):Int) 1085102592571150095=((sw3 Z MF:Nat):Int):=by
  have:=u64_and_nat (Z+Z/16) MF Y Ak
  rw[show(1085102592571150095:Int)=((MF:Nat):Int)from rfl,this];rfl
 rw[c4]
 have hs:=(awG 8 X Am).2
 rw[←arX,←asH,←arF,hY,hZ]at hs
 rw[hs]
 have hp:=ajZ X Y
 have hp2:=cnt_le X.testBit 64
 rw[←adO]at hp2
 unfold count
 generalize YN 8 X=S at*
 have e1:((S:Int)*72340172838076673)=((S*72340172838076673:Nat):Int):=(Lm S 72340172838076673).symm
 have e2:(((S*72340172838076673%18446744073709551616:Nat):Int)/72057594037927936)=((S*72340172838076673%18446744073709551616/72057594037927936:Nat):Int):=(Nq _ 72057594037927936).symm
 rw[e1,agu,e2,hp,wrap64_small _ Y Y]
 rfl
def low(x:Nat):Nat→Nat
 |0=>0
 |m+1=>if x%2=1 then 0 else 1+low (x/2) m
def lowest(x:Int):Int:=(low x.toNat 64:Nat)
theorem arf(m:Nat):∀x,low x m≤m:=by
 induction m with
 |zero=>intro x;simp[low]
 |succ m ih=>intro x;unfold low;have:=ih (x/2);split<;>omega
theorem agG(m:Nat):∀(x t:Nat),t≤m→(∀i,i<t→x.testBit i=false)→(t<m→x.testBit t=true)→low x m=t:=by
 induction m with
 |zero=>intro x t h _ _;simp[low];omega
 |succ m ih=>
  intro x t h h1 h2
  unfold low
  rcases GV t with rfl|ht
  ·have:=h2 Y
   rw[Np]at this
   rw[if_pos zT]
  ·have h0:=h1 0 ht
   rw[Np]at h0
   rw[if_neg (by simpa using h0),ih (x/2) (t-1) Y (fun i hi=>by rw[←IG];exact h1 (i+1) Y)
    (fun hlt=>by rw[←IG,show(t-1).succ=t from by omega];exact h2 Y)]
   omega
theorem alA(m:Nat):∀x,(∀i,i<low x m→x.testBit i=false)∧(low x m<m→x.testBit (low x m)=true):=by
 induction m with
 |zero=>intro x;simp[low]
 |succ m ih=>
  intro x
  unfold low
  by_cases h:x%2=1
  ·rw[if_pos h];refine⟨Y,fun _=>by rw[Np];simpa using h⟩
  ·rw[if_neg h]
   obtain⟨i1,i2⟩:=ih (x/2)
   refine⟨fun i hi=>?_,fun hlt=>?_⟩
   ·rcases i with _|i
    ·rw[Np];simpa using h
    ·rw[IG];exact i1 i Y
   ·rw[XK,IG];exact i2 Y
theorem ajb(t:Nat):∀m,cnt (fun i=>decide (i<t)) m=min t m:=by
 intro m
 induction m with
 |zero=>simp[cnt]
 |succ m ih=>unfold cnt;rw[ih];simp only[decide_eq_true_eq];split<;>omega
theorem abM(t:Nat)(h:t≤64):count (((2^t-1:Nat):Int))=t:=by
 unfold count
 rw[BJ,adO]
 have:cnt (2^t-1).testBit 64=cnt (fun i=>decide (i<t)) 64:=ab9 fun i _=>L9 ..
 rw[this,ajb]
 omega
theorem and_neg(X t:Nat)(hX:X<18446744073709551616)(ht:t<64)(h1:∀i,i<t→X.testBit i=false)(h2:X.testBit t=true):X&&&(18446744073709551616-X)=2^t:=by
 have hpos:2^t≤X:=Nat.ge_two_pow_of_testBit h2
 have hp:=QT (n:=t)
 obtain⟨q,hq⟩:∃q,X=2^t*(2*q+1):=by
  have hm:X%2^t=0:=by
   apply Eh
   intro i
   rw[Ih]
   by_cases hi:i<t
   ·simp[h1 i hi]
   ·simp[hi]
  have hd:X/2^t%2=1:=by
   rw[Om]at h2;simpa using h2
  refine⟨X/2^t/2,?_⟩
  have e:=ZN X (2^t)
  have e2:=ZN (X/2^t) 2
  rw[hd]at e2
  rw[e2];omega
 have e:18446744073709551616-X=2^64-((X-1)+1):=Y
 apply Eh
 intro i
 rw[e,Lu,Js Am]
 have ex1:X=2^t*(2*q+1)+0:=Y
 have ex:X-1=2^t*(2*q)+(2^t-1):=by
  have:2^t*(2*q+1)=2^t*(2*q)+2^t:=by rw[Nat.mul_add,GY]
  omega
 rw[ex,Gi _ Y,Qc]
 by_cases hi:i<t
 ·rw[h1 i hi];simp;omega
 ·rw[if_neg hi]
  have b:X.testBit i=(2*q+1).testBit (i-t):=by
   rw[ex1,Gi _ Y,if_neg hi]
  rw[b]
  rcases GV (i-t)with hz|hz
  ·rw[hz]
   have:i=t:=Y
   subst this
   simp[ht]
  ·obtain⟨j,hj⟩:=Jg (Nat.ne_of_gt hz)
   rw[hj,IG,IG,show(2*q+1)/2=q from by omega,show 2*q/2=q from by omega]
   have:t≠i:=Y
   simp[this]
   intro a b;simp[a]
theorem afP(x:Int)(h1:0≤x)(h2:x≤18446744073709551615):count (IntKind.u64.wrap (bits .and .u64 x (IntKind.u64.wrap (-x))-1))=lowest x:=by
 obtain⟨X,rfl⟩:=BR h1
 unfold lowest
 obtain⟨s1,s2⟩:=alA 64 X
 have sl:=arf 64 X
 rw[BJ]
 rcases GV X with rfl|hX
 ·have e:bits .and .u64 ((0:Nat):Int) (IntKind.u64.wrap (-((0:Nat):Int)))=0:=by decide
  rw[e,show IntKind.u64.wrap (0-1)=((2^64-1:Nat):Int)from by decide,abM 64 Ak]
  decide
 ·have e:IntKind.u64.wrap (-(X:Int))=((18446744073709551616-X:Nat):Int):=by rw[IntKind.wrap_u64];omega
  rw[e,u64_and_nat _ _ Y Y]
  by_cases ht:low X 64<64
  ·rw[and_neg X (low X 64) Y ht s1 (s2 ht)]
   have hp:=aai (low X 64) ht
   have e2:IntKind.u64.wrap (((2^low X 64:Nat):Int)-1)=((2^low X 64-1:Nat):Int):=by rw[IntKind.wrap_u64];omega
   rw[e2,abM _ sl]
  ·exfalso
   have:X=0:=by
    apply Eh
    intro i
    rw[Nat.zero_testBit]
    by_cases hi:i<64
    ·exact s1 i Y
    ·exact aaE X i Y Y
   omega
end Bt
end
section
namespace Bt
open Go Go.RowKit
def hb(x:Nat):Nat:=if x=0 then 0 else Nat.log2 x+1
def rs(r:Nat):Nat:=r*2%18446744073709551616+r/9223372036854775808
def rot(x:Nat):Nat→Nat
 |0=>x
 |k+1=>rs (rot x k)
def turn(x b:Int):Int:=(rot x.toNat (b%64).toNat:Nat)
def up(n size:Int):Int:=if n≤0∨size≤0 then 0 else(n-1)/size+1
theorem avO(n size:Int)(h:n≤9223372036854775807):0≤up n size∧up n size≤9223372036854775807:=by
 unfold up
 split
 ·omega
 ·rename_i h2
  have a:(n-1)/size≤n-1:=Int.ediv_le_self _ Y
  have b:0≤(n-1)/size:=PV Y Y
  omega
theorem ag7(n size:Int)(h:n≤0∨size≤0):up n size=0:=by unfold up;rw[if_pos h]
theorem auN(n size:Int)(h:0<n)(h2:0<size)(h3:n≤9223372036854775807):wrap64 ((n-1)/size+1)=up n size:=by
 have:=avO n size h3
 unfold up at*
 rw[if_neg Y]at*
 unfold wrap64
 omega
def akb(x:Int)(j:Nat):Prop:=∀i,i<j→x.toNat.testBit i=false
theorem ajL(x:Int)(j:Nat)(hj:j≤64)(h:akb x j)(hb:j<64→bit x j=true):lowest x=j:=by
 unfold lowest
 rw[agG 64 x.toNat j hj h (fun hlt=>by simpa [bit]using hb hlt)]
end Bt
end
section
section
open Go.RowKit
theorem count_any(x:Int)(w:World)(x1:0≤x)(x2:x≤18446744073709551615):
 Calls prog 288 #[.int .u64 x] w fun e w'=>e= .returned (.int .i64 (Bt.count x))∧w=w':=by
 go_enter func288,Tryz.ntmps288
 go_wp2_with fail
 go_ret
 exact⟨FK (Bt.ahg x x1 x2),rfl⟩
theorem ag6(n b:Int)(w:World)(x1: -9223372036854775808≤n)(x2:n≤9223372036854775807)(a1: -9223372036854775808≤b)(a2:b≤9223372036854775807):
 Calls prog 100 #[.int .i64 n,.int .i64 b] w fun e w'=>e= .returned (.int .i64 (Bt.up n b))∧w=w':=by
 by_cases h1:n≤0
 ·go_enter func100,Tryz.ntmps100
  go_wp2_with fail
  go_ret
  exact⟨FK (Bt.ag7 n b (.inl h1)).symm,rfl⟩
 ·by_cases h2:b≤0
  ·go_enter func100,Tryz.ntmps100
   go_wp2_with fail
   go_ret
   exact⟨FK (Bt.ag7 n b (.inr h2)).symm,rfl⟩
  ·go_enter func100,Tryz.ntmps100
   go_wp2_with fail
   go_ret
   exact⟨FK (Bt.auN n b Y Y x2),rfl⟩
theorem ag1(x:Int)(w:World)(x1:0≤x)(x2:x≤18446744073709551615):
 Calls prog 281 #[.int .u64 x] w fun e w'=>e= .returned (.int .i64 (Bt.lowest x))∧w=w':=by
 have fin:=Lib.hid (Bt.afP x x1 x2)
 go_enter func281,Tryz.ntmps281
 go_wp2_with fail
 refine(count_any _ _ (by rw[IntKind.wrap_u64];omega) (by rw[IntKind.wrap_u64];omega)).mono ?_
 rintro e w' ⟨rfl,rfl⟩
 go_wp2_with fail
 go_ret
 exact⟨FK fin.out,rfl⟩
end
end
section
namespace Ce
open Go Go.RowKit
def first(n bl:Int):Int:=if 0≤bl∧bl<n then bl*512 else-1
theorem acY(n bl:Int)(h:bl<0∨n≤bl):first n bl= -1:=by unfold first;rw[if_neg Y]
theorem abl(n bl:Int)(h:0≤bl)(h2:bl<n):first n bl=bl*512:=by unfold first;rw[if_pos ⟨h,h2⟩]
def address(n k b i:Int):Int:=if 0≤k∧k<32∧1≤b∧b<n∧0≤i∧i<Cl.cells k then b*512+i*Cl.words k else-1
theorem Uc(n k b i:Int)(h1:0≤k)(h2:k<32)(h3:1≤b)(h4:b<n)(h5:0≤i)(h6:i<Cl.cells k):address n k b i=b*512+i*Cl.words k:=by unfold address;rw[if_pos ⟨h1,h2,h3,h4,h5,h6⟩]
theorem MQ(n k b i:Int)(h:¬(0≤k∧k<32∧1≤b∧b<n∧0≤i∧i<Cl.cells k)):address n k b i= -1:=by unfold address;rw[if_neg h]
theorem ajt(b x:Int)(h:0≤b)(h2:b≤1000000)(h3:0≤x)(h4:x≤512):IntKind.i64.wrap (b*512+IntKind.i64.wrap x)=b*512+x:=by
 rw[IntKind.wrap_i64,IntKind.wrap_i64];omega
theorem ahc(k i:Int)(h1:0≤k)(h2:k<32)(h5:0≤i)(h6:i<Cl.cells k):0≤i*Cl.words k∧i*Cl.words k+Cl.words k≤512:=by
 have hp:=Cl.Gt k h1 h2
 have a:=(Cl.ahE k i h1 h2 h5).2 h6
 rw[Int.add_mul,Rw]at a
 exact⟨Int.mul_nonneg h5 Y,a⟩
def all(n k b:Int):List Int:=if 1≤b∧b<n then(List.range (Cl.cells k).toNat).map fun(i:Nat)=>512*b+(i:Int)*Cl.words k else []
def upto(k b:Int)(m:Nat):List Int:=(List.range m).map fun(i:Nat)=>512*b+(i:Int)*Cl.words k
theorem upto_succ(k b:Int)(m:Nat):upto k b (m+1)=upto k b m++ [512*b+(m:Int)*Cl.words k]:=by simp[upto,Lr]
theorem within(a k i:Int)(h3:0≤k)(h4:k<32)(hi:0≤i)(ha:0≤a)(hc:i<Cl.cells k):
 (512*(a/512)+i*Cl.words k≤a∧a<512*(a/512)+i*Cl.words k+Cl.words k)↔a%512/Cl.words k=i:=by
 have hw:=Cl.Gt k h3 h4
 have e:=Int.mul_ediv_add_emod (a%512) (Cl.words k)
 have b1:=Int.emod_nonneg (a%512) (show Cl.words k≠0 by omega)
 have b2:=Int.emod_lt_of_pos (a%512) (show 0<Cl.words k by omega)
 have s:a=512*(a/512)+a%512:=Y
 constructor
 ·rintro⟨g1,g2⟩
  have g3:i*Cl.words k≤a%512:=Y
  have g4:a%512<(i+1)*Cl.words k:=by rw[Int.add_mul,Rw];omega
  have l1:i≤a%512/Cl.words k:=(KW Y).2 g3
  have l2:a%512/Cl.words k<i+1:=Int.ediv_lt_of_lt_mul Y g4
  omega
 ·rintro rfl
  rw[Int.mul_comm (a%512/Cl.words k)]
  omega
end Ce
end
section
section
open Go.RowKit
def JF(n at_:Int):Int:=if 0≤at_∧at_<512*n then at_/512 else-1
theorem TW(n at_:Int)(w:World)(h1:0≤n)(h2:n≤1000000)(a1: -9223372036854775808≤at_)(a2:at_≤9223372036854775807):
 Calls prog 175 #[.agg #[.int .i64 n],.int .i64 at_] w fun e w'=>e= .returned (.int .i64 (JF n at_))∧Below w.heap.size w w':=by
 by_cases c1:at_<0
 ·have e:=Lib.hid (show JF n at_= -1 by unfold JF;rw[if_neg Y])
  go_enter func175,Tryz.ntmps175
  go_wp2
  go_ret
  exact⟨FK e.out.symm,by(repeat (first|exact Below.refl _ _|(refine Below.alloc ?_ Ap _)))⟩
 ·by_cases c2:at_<512*n
  ·have e:=Lib.hid (show JF n at_=at_/512 by unfold JF;rw[if_pos Y])
   go_enter func175,Tryz.ntmps175
   go_wp2
   go_ret
   exact⟨FK e.out.symm,by(repeat (first|exact Below.refl _ _|(refine Below.alloc ?_ Ap _)))⟩
  ·have e:=Lib.hid (show JF n at_= -1 by unfold JF;rw[if_neg Y])
   go_enter func175,Tryz.ntmps175
   go_wp2
   go_ret
   exact⟨FK e.out.symm,by(repeat (first|exact Below.refl _ _|(refine Below.alloc ?_ Ap _)))⟩
def akW(n at_:Int):Bool:=decide (1≤JF n at_)
theorem ai1(n at_:Int)(w:World)(h1:0≤n)(h2:n≤1000000)(a1: -9223372036854775808≤at_)(a2:at_≤9223372036854775807):
 Calls prog 250 #[.agg #[.int .i64 n],.int .i64 at_] w fun e w'=>e= .returned (.bool (akW n at_))∧Below w.heap.size w w':=by
 go_enter func250,Tryz.ntmps250
 go_wp2_with (first
  |(go_at_call 175;refine(TW _ _ _ Y Y Y Y).mono ?_;rintro e w1 ⟨rfl,hb⟩))
 go_ret
 exact⟨rfl,((Below.refl _ _).alloc (BF _) _).trans (hb.mono J)⟩
end
end
section
section
open Go.RowKit
theorem aa5(n bl:Int)(w:World)(h1: -9223372036854775808≤bl)(h3:n≤1000000):
 Calls prog 204 #[.agg #[.int .i64 n],.int .i64 bl] w fun e w'=>e= .returned (.int .i64 (Ce.first n bl))∧Below w.heap.size w w':=by
 by_cases c1:bl<0
 ·have e:=Lib.hid (Ce.acY n bl (.inl c1))
  go_enter func204,Tryz.ntmps204
  go_wp2
  go_ret
  exact⟨FK e.out.symm,by(repeat (first|exact Below.refl _ _|(refine Below.alloc ?_ Ap _)))⟩
 ·by_cases c2:bl<n
  ·have e:=Lib.hid (Ce.abl n bl Y c2)
   go_enter func204,Tryz.ntmps204
   go_wp2
   go_ret
   exact⟨FK e.out.symm,by(repeat (first|exact Below.refl _ _|(refine Below.alloc ?_ Ap _)))⟩
  ·have e:=Lib.hid (Ce.acY n bl (.inr Y))
   go_enter func204,Tryz.ntmps204
   go_wp2
   go_ret
   exact⟨FK e.out.symm,by(repeat (first|exact Below.refl _ _|(refine Below.alloc ?_ Ap _)))⟩
theorem TS{w:World}{n b i:Int}{W w':World}(hb:Below W.heap.size W w')
 (h:W.cell? ⟨w.heap.size,0,none⟩=some (.int .i64 n)∧W.cell? ⟨w.heap.size+1,0,none⟩=some (.int .i64 b)∧W.cell? ⟨w.heap.size+1,1,none⟩=some (.int .i64 i)∧w.heap.size+1<W.heap.size∧Below w.heap.size w W):
 w'.cell? ⟨w.heap.size,0,none⟩=some (.int .i64 n)∧w'.cell? ⟨w.heap.size+1,0,none⟩=some (.int .i64 b)∧w'.cell? ⟨w.heap.size+1,1,none⟩=some (.int .i64 i)∧w.heap.size+1<w'.heap.size∧Below w.heap.size w w':=by
 obtain⟨h1,h2,h3,h4,h5⟩:=h
 have hs:=hb.size
 exact⟨(hb.cell (p:=⟨w.heap.size,0,none⟩) Am).trans h1,(hb.cell (p:=⟨w.heap.size+1,0,none⟩) Am).trans h2,(hb.cell (p:=⟨w.heap.size+1,1,none⟩) Am).trans h3,Y,h5.trans (hb.mono Y)⟩
theorem agV{w:World}{n b i:Int}{W:World}
 (h:W.cell? ⟨w.heap.size,0,none⟩=some (.int .i64 n)∧W.cell? ⟨w.heap.size+1,0,none⟩=some (.int .i64 b)∧W.cell? ⟨w.heap.size+1,1,none⟩=some (.int .i64 i)∧w.heap.size+1<W.heap.size∧Below w.heap.size w W):
 W.drew.cell? ⟨w.heap.size,0,none⟩=some (.int .i64 n)∧W.drew.cell? ⟨w.heap.size+1,0,none⟩=some (.int .i64 b)∧W.drew.cell? ⟨w.heap.size+1,1,none⟩=some (.int .i64 i)∧w.heap.size+1<W.drew.heap.size∧Below w.heap.size w W.drew:=
 ⟨h.1,h.2.1,h.2.2.1,h.2.2.2.1,h.2.2.2.2.drew⟩
theorem Zd(n k b i:Int)(w:World)(h0:0≤n)(h3:n≤1000000)(k1: -9223372036854775808≤k)(k2:k≤9223372036854775807)(b1: -9223372036854775808≤b)(b2:b≤9223372036854775807)(i1: -9223372036854775808≤i)(i2:i≤9223372036854775807):
 Calls prog 244 #[.agg #[.int .i64 n],.int .i64 k,.agg #[.int .i64 b,.int .i64 i]] w fun e w'=>e= .returned (.int .i64 (Ce.address n k b i))∧Below w.heap.size w w':=by
 have hB:Below w.heap.size w ((w.alloc (.cells #[.int .i64 n] 79)).alloc (.cells #[.int .i64 b,.int .i64 i] 287)):=((Below.refl _ _).alloc (BF _) _).alloc J _
 have hwb:=Cl.U8 k
 have hcb:=Cl.Xx k
 rcases(show(0≤k∧k<32∧1≤b∧b<n∧0≤i∧i<Cl.cells k)∨(k<0∨32≤k)∨(0≤k∧k<32∧b<1)∨(0≤k∧k<32∧1≤b∧n≤b)∨(0≤k∧k<32∧1≤b∧b<n∧i<0)∨(0≤k∧k<32∧1≤b∧b<n∧0≤i∧Cl.cells k≤i)from by omega)with
  ⟨c0,c1,c2,c3,c4,c5⟩|c1|⟨c0,c1,c2⟩|⟨c0,c1,c2,c3⟩|⟨c0,c1,c2,c3,c4⟩|⟨c0,c1,c2,c3,c4,c5⟩
 ·have hr:=Cl.F7 k c0 c1
  have e:=Lib.hid (Ce.Uc n k b i c0 c1 c2 c3 c4 c5)
  have ef:=Ce.abl n b Y c3
  have hm:=Ce.ahc k i c0 c1 c4 c5
  have d1:decide (b<1)=false:=by simp;omega
  have d2:decide (n≤b)=false:=by simp;omega
  have d3:decide (i<0)=false:=by simp;omega
  have d4:decide (Cl.cells k≤i)=false:=by simp;omega
  go_enter func244,Tryz.ntmps244
  go_wp2_with fail
  go_region_held3 (fun w'=>w'.cell? ⟨w.heap.size,0,none⟩=some (.int .i64 n)∧w'.cell? ⟨w.heap.size+1,0,none⟩=some (.int .i64 b)∧w'.cell? ⟨w.heap.size+1,1,none⟩=some (.int .i64 i)∧w.heap.size+1<w'.heap.size∧Below w.heap.size w w')
   (first|assumption|(refine⟨?_,?_,?_,?_,?_⟩<;>first|exact hB.drew|(simp;done)))
   (first
    |(go_at_call 197;refine(Jl _ _ Y Y).mono ?_;rintro e w' ⟨rfl,rfl⟩)
    |(go_at_call 131;refine(YB _ _ Y Y).mono ?_;rintro e w' ⟨rfl,hb'⟩;have hS':=TS hb' Ar))
  go_wp2_with fail
  go_region_held3 (fun w'=>w'.cell? ⟨w.heap.size,0,none⟩=some (.int .i64 n)∧w'.cell? ⟨w.heap.size+1,0,none⟩=some (.int .i64 b)∧w'.cell? ⟨w.heap.size+1,1,none⟩=some (.int .i64 i)∧w.heap.size+1<w'.heap.size∧Below w.heap.size w w')
   (first|assumption|exact agV Ar)
   (first
    |(go_at_call 204;refine(aa5 _ _ _ Y Y).mono ?_;rintro e w' ⟨rfl,hb'⟩;have hS':=TS hb' Ar)
    |(go_at_call 198;refine(Qy _ _ Y Y).mono ?_;rintro e w' ⟨rfl,hb'⟩;have hS':=TS hb' Ar))
  go_wp2
  go_ret
  exact⟨FK (by rw[e.out];exact Ce.ajt b _ Y Y Y Y),hS'.2.2.2.2⟩
 ·have e:=Lib.hid (Ce.MQ n k b i Y)
  have hr:=Cl.Jo k c1
  go_enter func244,Tryz.ntmps244
  go_wp2_with fail
  go_quiet ((go_at_call 197;exact Calls.quiet_of_same (ZW (Jl _ _ Y Y))))
  go_wp2_with fail
  go_ret
  exact⟨FK e.out.symm,below_drewN hB _⟩
 ·have e:=Lib.hid (Ce.MQ n k b i Y)
  have hr:=Cl.F7 k c0 c1
  have d1:decide (b<1)=true:=by simpa using c2
  go_enter func244,Tryz.ntmps244
  go_wp2_with fail
  go_quiet ((go_at_call 197;exact Calls.quiet_of_same (ZW (Jl _ _ Y Y))))
  go_wp2_with fail
  go_ret
  exact⟨FK e.out.symm,below_drewN hB _⟩
 ·have e:=Lib.hid (Ce.MQ n k b i Y)
  have hr:=Cl.F7 k c0 c1
  have d1:decide (b<1)=false:=by simp;omega
  have d2:decide (n≤b)=true:=by simpa using c3
  go_enter func244,Tryz.ntmps244
  go_wp2_with fail
  go_quiet ((go_at_call 197;exact Calls.quiet_of_same (ZW (Jl _ _ Y Y))))
  go_wp2_with fail
  go_ret
  exact⟨FK e.out.symm,below_drewN hB _⟩
 ·have e:=Lib.hid (Ce.MQ n k b i Y)
  have hr:=Cl.F7 k c0 c1
  have d1:decide (b<1)=false:=by simp;omega
  have d2:decide (n≤b)=false:=by simp;omega
  have d3:decide (i<0)=true:=by simpa using c4
  go_enter func244,Tryz.ntmps244
  go_wp2_with fail
  go_quiet ((go_at_call 197;exact Calls.quiet_of_same (ZW (Jl _ _ Y Y))))
  go_wp2_with fail
  go_ret
  exact⟨FK e.out.symm,below_drewN hB _⟩
 ·have e:=Lib.hid (Ce.MQ n k b i Y)
  have hr:=Cl.F7 k c0 c1
  have d1:decide (b<1)=false:=by simp;omega
  have d2:decide (n≤b)=false:=by simp;omega
  have d3:decide (i<0)=false:=by simp;omega
  have d4:decide (Cl.cells k≤i)=true:=by simpa using c5
  go_enter func244,Tryz.ntmps244
  go_wp2_with fail
  go_region_held3 (fun w'=>w'.cell? ⟨w.heap.size,0,none⟩=some (.int .i64 n)∧w'.cell? ⟨w.heap.size+1,0,none⟩=some (.int .i64 b)∧w'.cell? ⟨w.heap.size+1,1,none⟩=some (.int .i64 i)∧w.heap.size+1<w'.heap.size∧Below w.heap.size w w')
   (first|assumption|(refine⟨?_,?_,?_,?_,?_⟩<;>first|exact hB.drew|(simp;done)))
   (first
    |(go_at_call 197;refine(Jl _ _ Y Y).mono ?_;rintro e w' ⟨rfl,rfl⟩)
    |(go_at_call 131;refine(YB _ _ Y Y).mono ?_;rintro e w' ⟨rfl,hb'⟩;have hS':=TS hb' Ar))
  go_wp2_with fail
  go_ret
  exact⟨FK e.out.symm,by first|assumption|exact(by assumption:_∧_∧_∧_∧Below w.heap.size w _).2.2.2.2⟩
end
end
section
namespace Xp
open Go Go.RowKit
def kd(c k:Int):Nat→Int
 |0=>k
 |i+1=>kd c k i/c
def okC(l c k:Int):Prop:=0≤l∧l≤65536∧1≤c∧c≤256∧0≤k
instance (l c k:Int):Decidable (okC l c k):=by unfold okC;infer_instance
theorem alf{α:Type}(xs:List α)(z x:α)(n i:Nat)(hx:xs.length=i)(h:i<n):(xs++List.replicate (n-i) z).set i x=(xs++ [x])++List.replicate (n-(i+1)) z:=by
 subst hx
 rw[LG _ _ (BF _),Hw]
 obtain⟨m,hm⟩:∃m,n-xs.length=m+1:=⟨n-xs.length-1,Y⟩
 rw[hm,Gz,Bf,show n-(xs.length+1)=m from by omega]
 simp
theorem akz{α:Type}(xs:List α)(z:α)(n i:Nat)(hx:xs.length=i)(h:i<n):(xs++List.replicate (n-i) z)[i]? =some z:=by
 subst hx
 rw[Em (BF _),Hw,Ew,if_pos Y]
def nval(c:Int):List Int→Int
 | []=>0
 |d::l=>d+c*nval c l
def okD(c:Int)(l:List Int):Prop:=∀d∈l,0≤d∧d<c
def cOk(c:Int):Prop:=1≤c∧c≤256
instance (c:Int):Decidable (cOk c):=by unfold cOk;infer_instance
instance (c:Int) (l:List Int):Decidable (okD c l):=by unfold okD;infer_instance
def akn(c:Int)(l:List Int):Prop:=cOk c∧okD c l∧nval c l≤1099511627776
instance (c:Int) (l:List Int):Decidable (akn c l):=by unfold akn;infer_instance
def number(c:Int)(l:List Int):Int:=if akn c l then nval c l else-1
def pl(c:Int):Nat→Int
 |0=>1
 |i+1=>if pl c i≤1099511627776 then pl c i*c else pl c i
def gb(k i:Nat):Bool:=Nat.testBit k i^^Nat.testBit k (i+1)
def gd(k m:Nat):Nat→Nat
 |0=>0
 |n+1=>gd k m n+if gb k n=gb m n then 0 else 1
def over(w n:Int)(i:Nat):Int:=(i:Int)*w%n
def many(v m:Int):Int:=min (min v m) 4096
end Xp
end
section
section
open Go.RowKit
end
end
section
section
open Go.RowKit
def Z4(k:IntKind)(T:TypeId)(xs:List Int)(w:World)(e:Ending)(w':World):Prop:=
 ∃v,e= .returned v∧w'.ownsRow w.heap.size T 1 v xs.length (xs.map (Value.int k))∧Below w.heap.size w w'
theorem Z4.mk{k:IntKind}{T:TypeId}{xs:List Int}{w:World}{e:Ending}{w':World}(v:Value)(he:e= .returned v)(n:Nat)(hn:xs.length=n)(ho:w'.ownsRow w.heap.size T 1 v n (xs.map (Value.int k)))(hb:Below w.heap.size w w'):Z4 k T xs w e w':=
 ⟨v,he,by rw[hn];exact ho,hb⟩
theorem Z4.nil{k:IntKind}{T:TypeId}{xs:List Int}{w:World}{w':World}(hx:xs=[])(hb:Below w.heap.size w w'):Z4 k T xs w (.returned (.slice none 0 0)) w':=by
 subst hx;exact⟨_,rfl,World.ownsRow_nil _ _ _ _,hb⟩
end
end
section
section
open Go.RowKit
end
end
section
section
open Go.RowKit
theorem anc(n a:Int)(h1:512≤a)(h2:a<512*n):akW n a=true∧JF n a=a/512:=by
 have e:JF n a=a/512:=by unfold JF;rw[if_pos Y]
 exact⟨by unfold akW;rw[e];simp;omega,e⟩
end
end
section
section
open Go.RowKit
theorem amZ(W w:World)(n x y:Int)(c:Nat)(hz:w.heap.size+1<c)(h:W.cell? ⟨w.heap.size,0,none⟩=some (.int .i64 n)∧W.cell? ⟨c,0,none⟩=some (.int .i64 x)∧W.cell? ⟨c,1,none⟩=some (.int .i64 y)∧Below w.heap.size w W):
 ((W.setCell ⟨w.heap.size+1,0,none⟩ (.int .i64 x)).setCell ⟨w.heap.size+1,1,none⟩ (.int .i64 y)).cell? ⟨w.heap.size,0,none⟩=some (.int .i64 n)∧((W.setCell ⟨w.heap.size+1,0,none⟩ (.int .i64 x)).setCell ⟨w.heap.size+1,1,none⟩ (.int .i64 y)).cell? ⟨c,0,none⟩=some (.int .i64 x)∧((W.setCell ⟨w.heap.size+1,0,none⟩ (.int .i64 x)).setCell ⟨w.heap.size+1,1,none⟩ (.int .i64 y)).cell? ⟨c,1,none⟩=some (.int .i64 y)∧Below w.heap.size w ((W.setCell ⟨w.heap.size+1,0,none⟩ (.int .i64 x)).setCell ⟨w.heap.size+1,1,none⟩ (.int .i64 y)):=by
 obtain⟨h1,h2,h3,h4⟩:=h
 refine⟨?_,?_,?_,(h4.setCell J _).setCell J _⟩
 ·rw[World.cell?_setCell_far _ _ _ _ J,World.cell?_setCell_far _ _ _ _ J];exact h1
 ·rw[World.cell?_setCell_far _ _ _ _ Am,World.cell?_setCell_far _ _ _ _ Am];exact h2
 ·rw[World.cell?_setCell_far _ _ _ _ Am,World.cell?_setCell_far _ _ _ _ Am];exact h3
theorem aqM(n k a:Int)(w:World)(h1:0≤n)(h3:n≤1000000)(a1:512≤a)(a2:a<512*n)(k1:0≤k)(k2:k<32):
 Calls prog 203 #[.agg #[.int .i64 n],.int .i64 k,.int .i64 a] w fun e w'=>e= .returned (.tuple #[.agg #[.int .i64 (a/512),.int .i64 (a%512/Cl.words k)],.bool (Ce.address n k (a/512) (a%512/Cl.words k)==a)])∧Below w.heap.size w w':=by
 obtain⟨d1,d2⟩:=anc n a a1 a2
 have d3:=Cl.F7 k k1 k2
 have hw:=Cl.U8 k
 have hwp:=Cl.Gt k k1 k2
 have hq:0≤a%512/Cl.words k∧a%512/Cl.words k≤512:=⟨PV Y Y,by have:=Int.ediv_le_self (a:=a%512) (Cl.words k) Y;omega⟩
 have D2:=Lib.hid d2
 clear d2
 have G:=Lib.hid ((Ko.new w #[.int .i64 n] 79).alloc (.cells #[.int .i64 0,.int .i64 0] 287))
 have R:=Lib.hid (Ko.new1 w (.cells #[.int .i64 n] 79) #[.int .i64 0,.int .i64 0] 287)
 have hB:Below w.heap.size w ((w.alloc (.cells #[.int .i64 n] 79)).alloc (.cells #[.int .i64 0,.int .i64 0] 287)):=((Below.refl _ _).alloc (BF _) _).alloc J _
 go_enter func203,Tryz.ntmps203
 go_wp2_with (first
  |(go_at_call 197;refine(Jl _ _ Y Y).mono ?_;rintro e w' ⟨rfl,rfl⟩)
  |(go_at_call 250;refine(ai1 _ _ _ Y Y Y Y).mono ?_;rintro e w1 ⟨rfl,hb1⟩;have G1:=G.out.below hb1 G.out.lt;have R1:=R.out.below hb1 R.out.lt;have hB1:=hB.trans (hb1.mono hB.size);have g0:=G1.cell 0 _ rfl)
  |(go_at_call 175;refine(TW _ _ _ Y Y Y Y).mono ?_;rintro e w2 ⟨rfl,hb2⟩;rw[D2.out];have R2:=R1.below hb2 R1.lt;have hB2:=hB1.trans (hb2.mono hB1.size))
  |(go_at_call 198;refine(Qy _ _ Y Y).mono ?_;rintro e w3 ⟨rfl,hb3⟩;have R3:=R2.below hb3 R2.lt;have hB3:=hB2.trans (hb3.mono hB2.size)))
 have R4:=R3.alloc (.cells #[.int .i64 (a/512),.int .i64 (a%512/Cl.words k)] 287)
 have C4:=Ko.new w3 #[.int .i64 (a/512),.int .i64 (a%512/Cl.words k)] 287
 have hB4:=hB3.alloc hB3.size (.cells #[.int .i64 (a/512),.int .i64 (a%512/Cl.words k)] 287)
 have hz:w.heap.size+1<w3.heap.size:=R3.lt
 have G4:=((G1.below hb2 G1.lt).below hb3 (G1.below hb2 G1.lt).lt).alloc (.cells #[.int .i64 (a/512),.int .i64 (a%512/Cl.words k)] 287)
 refine wp_region_held_drew (S:=fun W=>W.cell? ⟨w.heap.size,0,none⟩=some (.int .i64 n)∧W.cell? ⟨w3.heap.size,0,none⟩=some (.int .i64 (a/512))∧W.cell? ⟨w3.heap.size,1,none⟩=some (.int .i64 (a%512/Cl.words k))∧Below w.heap.size w W) Aw ?_ (fun hHeld=>?_)
 ·(try dsimp only)
  (first|assumption|exact⟨G4.cell 0 _ rfl,C4.cell 0 _ rfl,C4.cell 1 _ rfl,hB4.drew⟩|exact hS7)
 refine aA ?_
 refine bH ?_
 refine ah ?_
 refine dD ?_
 refine ah ?_
 refine wpAnyH_ready (rs:=[4]) Aw J (AllReadyH.cons O (fun K hK=>?_) AllReadyH.nil)
 (try go_simp)
 refine(Zd _ _ _ _ _ Y Y Y Y Y Y Y Y).mono ?_
 rintro e w5 ⟨rfl,hb5⟩
 have hS':=SC hb5 Ar
 have R5:=R4.drew.below hb5 R4.lt
 have r0:=R5.cell 0 _ rfl
 have r1:=R5.cell 1 _ rfl
 have f0:=R5.frozen 0
 have f1:=R5.frozen 1
 refine hK.out _ _ ?_ (fun hHeld=>?_)
 ·(try dsimp only)
  (first|assumption|exact⟨G4.cell 0 _ rfl,C4.cell 0 _ rfl,C4.cell 1 _ rfl,hB4.drew⟩|exact hS7)
 clear hK K
 refine sW ?_
 refine wpAnyH_ready (rs:=[7]) Aw J (AllReadyH.cons O (fun K hK=>?_) AllReadyH.nil)
 (try go_simp)
 have hS7:=amZ w5 w n (a/512) (a%512/Cl.words k) w3.heap.size hz hS'
 refine hK.out _ _ ?_ (fun hHeld=>?_)
 ·(try dsimp only)
  (first|assumption|exact⟨G4.cell 0 _ rfl,C4.cell 0 _ rfl,C4.cell 1 _ rfl,hB4.drew⟩|exact hS7)
 clear hK K
 refine ah ?_
 refine aJ ?_
 refine ah ?_
 refine wpAnyH_done Aw ?_ _
 go_wp2_with fail
 exact bodyPost_ret (v:= .tuple #[.agg #[.int .i64 (a/512),.int .i64 (a%512/Cl.words k)],.bool (Ce.address n k (a/512) (a%512/Cl.words k)==a)]) (by simp[results,go_sem,Tryz.results203,r0,r1]) rfl ⟨rfl,hS7.2.2.2⟩
end
end
section
namespace Bh
open Go Go.RowKit
def right(k c l:Int):Bool:=decide ((k=0∧c=0∧l=0)∨(k=1∧0≤c∧c<32∧l=0)∨((k=2∨k=3)∧c=0∧1≤l∧l≤255))
theorem YI(k c l:Int):right k c l=true↔((k=0∧c=0∧l=0)∨(k=1∧0≤c∧c<32∧l=0)∨((k=2∨k=3)∧c=0∧1≤l∧l≤255)):=by unfold right;simp
theorem EI(k c l:Int)(h:(k=0∧c=0∧l=0)∨(k=1∧0≤c∧c<32∧l=0)∨((k=2∨k=3)∧c=0∧1≤l∧l≤255)):right k c l=true:=(YI k c l).2 h
theorem F5(k c l:Int)(h:¬((k=0∧c=0∧l=0)∨(k=1∧0≤c∧c<32∧l=0)∨((k=2∨k=3)∧c=0∧1≤l∧l≤255))):right k c l=false:=by
 cases e:right k c l
 ·rfl
 ·exact absurd ((YI k c l).1 e) h
theorem SB(k c l:Int)(h:right k c l=true):0≤k∧k≤3∧0≤c∧c<32∧0≤l∧l≤255:=by
 have:=(YI k c l).1 h
 omega
theorem atc(k c l:Int)(h1:0≤k)(h2:k≤3)(h3:0≤c)(h4:c<32)(h5:0≤l)(h6:l≤255):
 Bt.put 0 0 2 k=k∧Bt.put k 2 6 c=k+4*c∧Bt.put (k+4*c) 8 16 l=k+4*c+256*l:=by
 have a:=Oh.Xl 0 k 0 2 Ak Ak Y Ak h1 Y
 have b:=Oh.Xl k c 2 6 Ak Ak Y Y h3 Y
 have e:=Oh.Xl (k+4*c) l 8 16 Ak Ak Y Y h5 Y
 have e0:((0:Nat):Int)=0:=rfl
 have e1:((2:Nat):Int)=2:=rfl
 have e2:((6:Nat):Int)=6:=rfl
 have e3:((8:Nat):Int)=8:=rfl
 have e4:((16:Nat):Int)=16:=rfl
 rw[e0,e1]at a
 rw[e1,e2]at b
 rw[e3,e4]at e
 rw[a,b,e]
 omega
def enc(k c l at_:Int):Int:=if right k c l then Sl.sealed (k+4*c+256*l) at_ else 0
theorem VN(k c l at_:Int)(h:right k c l=false):enc k c l at_=0:=by unfold enc;rw[h];rfl
theorem QW(k c l at_:Int)(h:right k c l=true):enc k c l at_=Sl.sealed (k+4*c+256*l) at_:=by unfold enc;rw[h];rfl
theorem abr(k c l at_:Int):0≤enc k c l at_∧enc k c l at_≤18446744073709551615:=by
 cases h:right k c l
 ·rw[VN _ _ _ _ h];omega
 ·have b:=SB k c l h
  rw[QW _ _ _ _ h]
  exact Sl.ahP _ _ Y Y
def Sv(x:Int):Int:=x%4294967296%4
def Tm(x:Int):Int:=x%4294967296/4%64
def Tj(x:Int):Int:=x%4294967296/256%65536
theorem aeC(x:Int):0≤Sv x∧Sv x≤3∧0≤Tm x∧Tm x≤63∧0≤Tj x∧Tj x≤65535:=by unfold Sv Tm Tj;omega
theorem adP(x:Int):Bt.get (x%4294967296) 0 2=Sv x∧Bt.get (x%4294967296) 2 6=Tm x∧Bt.get (x%4294967296) 8 16=Tj x:=by
 have a:=Oh.Xz (x%4294967296) 0 2 Ak Ak Y
 have b:=Oh.Xz (x%4294967296) 2 6 Ak Ak Y
 have c:=Oh.Xz (x%4294967296) 8 16 Ak Ak Y
 refine⟨?_,b,c⟩
 unfold Sv
 have a':Bt.get (x%4294967296) 0 2=x%4294967296/1%4:=a
 rw[a',Int.ediv_one]
def Qj(x at_:Int):Bool:=Sl.Lh x at_&&decide (enc (Sv x) (Tm x) (Tj x) at_=x)
def MJ(x at_:Int):Int:=if Sl.Lh x at_ then(if enc (Sv x) (Tm x) (Tj x) at_=x then 0 else 26)else 25
def adC(x at_:Int):Int:=if Qj x at_ then Sv x else 0
def aeF(x at_:Int):Int:=if Qj x at_ then Tm x else 0
def aey(x at_:Int):Int:=if Qj x at_ then Tj x else 0
theorem TY(x at_:Int)(h:Sl.Lh x at_=false):MJ x at_=25∧adC x at_=0∧aeF x at_=0∧aey x at_=0:=by
 unfold MJ adC aeF aey Qj;rw[h];simp
theorem VD(x at_:Int)(h:Sl.Lh x at_=true)(h2:enc (Sv x) (Tm x) (Tj x) at_≠x):MJ x at_=26∧adC x at_=0∧aeF x at_=0∧aey x at_=0:=by
 unfold MJ adC aeF aey Qj;rw[h];simp[h2]
theorem Qw(x at_:Int)(h:Sl.Lh x at_=true)(h2:enc (Sv x) (Tm x) (Tj x) at_=x):MJ x at_=0∧adC x at_=Sv x∧aeF x at_=Tm x∧aey x at_=Tj x:=by
 unfold MJ adC aeF aey Qj;rw[h];simp[h2]
theorem agw(x at_:Int)(h:right (Sv x) (Tm x) (Tj x)=false):enc (Sv x) (Tm x) (Tj x) at_≠x:=by
 intro e
 rw[VN _ _ _ _ h]at e
 rw[←e]at h
 revert h
 decide
theorem Rt(k c l at_:Int)(h:right k c l=true):MJ (enc k c l at_) at_=0∧adC (enc k c l at_) at_=k∧aeF (enc k c l at_) at_=c∧aey (enc k c l at_) at_=l:=by
 have b:=SB k c l h
 have e:=QW k c l at_ h
 have hm:=Sl.Yb (k+4*c+256*l) at_ Y Y
 have ho:=(Sl.adq (k+4*c+256*l) at_ Y Y).1
 have rk:Sv (enc k c l at_)=k:=by unfold Sv;rw[e,hm];omega
 have rc:Tm (enc k c l at_)=c:=by unfold Tm;rw[e,hm];omega
 have rl:Tj (enc k c l at_)=l:=by unfold Tj;rw[e,hm];omega
 have r:=Qw (enc k c l at_) at_ (by rw[e];exact ho) (by rw[rk,rc,rl])
 rw[rk,rc,rl]at r
 exact r
end Bh
end
section
namespace St
open Go Go.RowKit
def okR(R:List Int):Prop:=∀r∈R,0≤r∧r≤131071
instance (R:List Int):Decidable (okR R):=by unfold okR;infer_instance
def Ia(E:Int)(R:List Int):Bool:=decide (okR R∧0<E)
theorem F7(E:Int)(R:List Int)(h:okR R)(h2:0<E):Ia E R=true:=by unfold Ia;simpa using⟨h,h2⟩
theorem Jo(E:Int)(R:List Int)(h:¬(okR R∧0<E)):Ia E R=false:=by unfold Ia;simpa using h
theorem abS(R:List Int)(k:Nat)(r:Int)(hr:R[k]? =some r)(h:okR (R.take k))(h2:0≤r∧r≤131071):okR (R.take (k+1)):=by
 intro x hx
 rw[J8,hr]at hx
 rcases Ci.1 hx with hx|hx
 ·exact h x hx
 ·simp at hx;subst hx;exact h2
theorem anx(R:List Int)(k:Nat)(r:Int)(hr:R[k]? =some r)(h2:¬(0≤r∧r≤131071)):¬okR R:=fun h=>h2 (h r (BP hr))
def sum(E a b c d n:Int):Int:=Cr.more 0 (By.bytes [E,a,b,c,d,n,0])
def QF(E a b c d:Int):Int:=sum E a b c d 0
def QZ(E a b c d:Int):Int:=sum E a b c d 1
theorem WW(E a b c d n:Int):0≤sum E a b c d n∧sum E a b c d n≤4294967295:=Cr.VK 0 _ Y Y (By.Qz _)
theorem aiV(E a b c d:Int):0≤QF E a b c d∧QF E a b c d≤4294967295:=WW _ _ _ _ _ _
theorem ah0(E a b c d:Int):0≤QZ E a b c d∧QZ E a b c d≤4294967295:=WW _ _ _ _ _ _
def Ej(a b c d e f g:Int):Int:=Cr.more 0 (By.bytes [a,b,c,d,e,f,g])
theorem NT(a b c d e f g:Int):0≤Ej a b c d e f g∧Ej a b c d e f g≤4294967295:=Cr.VK 0 _ Y Y (By.Qz _)
def cap(x:Int):Int:=if x≤1099511627776 then x else 1099511627776
theorem aqx(x:Int)(h:x≤1099511627776):cap x=x:=by unfold cap;rw[if_pos h]
end St
end
section
namespace Im
def zr:List Int→Nat
 | []=>0
 |x::l=>if x=0 then zr l+1 else 0
def nr:List Int→Nat
 | []=>0
 |x::l=>if x=0 then 0 else nr l+1
def step(l:List Int):Nat:=zr l+nr (l.drop (zr l))
def runs:Nat→List Int→List (Nat×List Int)
 |0,_=> []
 |f+1,l=>if l=[]then []else(zr l,(l.drop (zr l)).take (nr (l.drop (zr l))))::runs f (l.drop (step l))
def rn(l:List Int):List (Nat×List Int):=runs l.length l
def enc1(r:Nat×List Int):List Int:=(r.1:Int)::(r.2.length:Int)::r.2
def encs(rs:List (Nat×List Int)):List Int:=rs.flatMap enc1
def body(l:List Int):List Int:=encs (rn l)
def magic:Int:=13905993476890996
def head(l:List Int):List Int:=magic::(l.length:Int)::body l
def sum(l:List Int):Int:=Cr.more 0 (By.bytes l)
def out(l:List Int):List Int:=head l++ [sum (head l)]
def bad(z m left o:Int):Bool:=decide (z>left∨m>left-z∨z+m=0∨(0<o∧z=0)∨(m=0∧z≠left))
def asc(l:List Int):Bool:=l.all (fun x=>decide (x≠0))
def read:Nat→List Int→Int→List Int→List Int×Int
 |0,_,_,_=>([],31)
 |f+1,w,n,o=>
  if(o.length:Int)<n then
   if w.length<2 then([],31)
   else if bad (w.getD 0 0) (w.getD 1 0) (n-o.length) o.length=true then([],26)
   else if(w.getD 1 0)>((w.drop 2).length:Int)then([],31)
   else if asc ((w.drop 2).take (w.getD 1 0).toNat)=true then read f ((w.drop 2).drop (w.getD 1 0).toNat) n (o++List.replicate (w.getD 0 0).toNat 0++(w.drop 2).take (w.getD 1 0).toNat)
   else([],26)
  else if w.length>0 then([],32)else(o,0)
def load(d:List Int):List Int×Int:=
 if d.length<24∨d.length%8≠0 then([],31)
 else if(By.words d).getD 0 0≠magic then([],24)
 else if(By.words d).getD ((By.words d).length-1) 0≠sum ((By.words d).take ((By.words d).length-1))then([],25)
 else if(By.words d).getD 1 0>131072∨(By.words d).getD 1 0%8≠0 then([],26)
 else read (((By.words d).getD 1 0).toNat+1) (((By.words d).take ((By.words d).length-1)).drop 2) ((By.words d).getD 1 0) []
def fresh(o l:List Int):Prop:=o=[]∨l=[]∨l[0]? =some 0
end Im
end
section
namespace Im
def U(l:List Int):Prop:=∀x∈l,0≤x∧x≤18446744073709551615
theorem U.drop{l:List Int}(h:U l)(k:Nat):U (l.drop k):=fun x hx=>h x (U5 hx)
theorem U.take{l:List Int}(h:U l)(k:Nat):U (l.take k):=fun x hx=>h x (Jb hx)
theorem WW(l:List Int):0≤sum l∧sum l≤4294967295:=Cr.VK 0 _ Y Y (By.Qz _)
end Im
end
section
namespace Bm
open Go.RowKit
def at_(l:List Bool)(i:Nat):Bool:=l.getD i false
theorem at_out{l:List Bool}{i:Nat}(h:l.length≤i):at_ l i=false:=by simp[at_,List.getD,DX h]
theorem afT{l:List Bool}{i:Nat}(h:at_ l i=true):i<l.length:=by
 rcases J9 i l.length with h2|h2
 ·exact h2
 ·rw[at_out h2]at h;cases h
theorem at_set(l:List Bool)(i j:Nat)(b:Bool)(h:i<l.length):at_ (l.set i b) j=if i=j then b else at_ l j:=by
 simp only[at_,List.getD,EJ]
 split
 ·rename_i e;subst e;simp[h]
 ·rfl
def wd(l:List Bool)(i:Nat):Nat:=Bt.ofBits (fun j=>at_ l (64*i+j)) 64
theorem afk(l:List Bool)(i:Nat):wd l i<18446744073709551616:=Bt.Y5 _ 64
theorem Si(l:List Bool)(i j:Nat):(wd l i).testBit j=(decide (j<64)&&at_ l (64*i+j)):=Bt.OD _ _ _
def nw(l:List Bool):Nat:=(l.length+63)/64
def ws(l:List Bool):List Int:=(List.range (nw l)).map fun i=>((wd l i:Nat):Int)
theorem WO(l:List Bool):(ws l).length=nw l:=by simp[ws]
theorem U6(l:List Bool)(i:Nat)(h:i<nw l):(ws l)[i]? =some ((wd l i:Nat):Int):=by simp[ws,h]
def cnt(l:List Bool):Nat:=l.count true
theorem cnt_le(l:List Bool):cnt l≤l.length:=List.count_le_length
theorem ahB(l:List Bool)(i:Nat)(h:i<l.length)(h0:at_ l i=false):cnt (l.set i true)=cnt l+1:=by
 have h1:l[i]=false:=by simpa [at_,List.getD,h]using h0
 unfold cnt
 rw[List.count_set h,h1];simp
theorem anQ(l:List Bool)(i:Nat)(h0:at_ l i=true):cnt (l.set i false)+1=cnt l:=by
 have h:=afT h0
 have h1:l[i]=true:=by simpa [at_,List.getD,h]using h0
 unfold cnt
 rw[List.count_set h,h1]
 have:0<l.count true:=WJ.2 (h1▸KH h)
 simp;omega
theorem asO(l:List Bool)(a:Nat)(h:a<l.length):wd l (a/64)|||2^(a%64)=wd (l.set a true) (a/64):=by
 apply Eh
 intro j
 rw[Vx,Si,Si,at_set _ _ _ _ h,Qc]
 by_cases hj:j<64
 ·by_cases e:a%64=j
  ·have:a=64*(a/64)+j:=Y
   simp[hj,e,←this]
  ·have:¬a=64*(a/64)+j:=Y
   simp[hj,e,this]
 ·have:¬a%64=j:=Y
  simp[hj,this]
theorem aqR(l:List Bool)(a:Nat)(h:a<l.length):wd l (a/64)&&&(18446744073709551615-2^(a%64))=wd (l.set a false) (a/64):=by
 apply Eh
 intro j
 have hp:(2:Nat)^(a%64)<2^64:=Nat.pow_lt_pow_right Ak Y
 have e:18446744073709551615-2^(a%64)=2^64-(2^(a%64)+1):=Y
 rw[Lu,e,Js hp,Si,Si,at_set _ _ _ _ h,Qc]
 by_cases hj:j<64
 ·by_cases e:a%64=j
  ·have:a=64*(a/64)+j:=Y
   simp[hj,e,←this]
  ·have:¬a=64*(a/64)+j:=Y
   simp[hj,e,this]
 ·simp[hj]
theorem asJ(l:List Bool)(a:Nat)(b:Bool)(h:a<l.length):(ws l).set (a/64) ((wd (l.set a b) (a/64):Nat):Int)=ws (l.set a b):=by
 have hn:nw (l.set a b)=nw l:=by simp[nw]
 apply EU
 intro i
 rw[EJ,WO]
 by_cases hi:i<nw l
 ·have e1:=U6 (l.set a b) i Y
  have e2:=U6 l i hi
  rw[e1]
  by_cases e:a/64=i
  ·rw[if_pos e,if_pos Y,e]
  ·rw[if_neg e,e2]
   congr 2
   apply Eh
   intro j
   rw[Si,Si,at_set _ _ _ _ h]
   by_cases hj:j<64
   ·have:¬a=64*i+j:=Y
    simp[hj,this]
   ·simp[hj]
 ·rw[DX (by rw[WO];omega),DX (by rw[WO];omega)]
  split
  ·rw[if_neg Y]
  ·rfl
theorem av5(X j:Nat)(h:X<18446744073709551616):bits .and .u64 (((X/2^j:Nat)):Int) 1=if X.testBit j then 1 else 0:=by
 have h2:X/2^j≤X:=UG _ _
 have:=u64_and_nat (X/2^j) 1 Y Ak
 rw[show((1:Nat):Int)=1 from rfl]at this
 rw[this,Nat.and_one_is_mod,Om]
 split<;>rename_i e<;>simp at e<;>omega
def tl(X s:Nat):Nat:=Bt.ofBits (fun j=>decide (s≤j)&&X.testBit j) 64
theorem akD(X s j:Nat):(tl X s).testBit j=(decide (j<64)&&(decide (s≤j)&&X.testBit j)):=Bt.OD _ _ _
theorem avq(X s:Nat):tl X s<18446744073709551616:=Bt.Y5 _ 64
theorem aoA(X s:Nat)(h:X<18446744073709551616):IntKind.u64.wrap (((X/2^s:Nat):Int)*2^s)=((tl X s:Nat):Int):=by
 rw[Bt.aaX]
 congr 1
 apply Eh
 intro j
 rw[Bt.Vs,akD]
 by_cases hj:j<64
 ·by_cases hs:s≤j
  ·rw[Nat.testBit_div_two_pow,show j-s+s=j by omega]
  ·simp[hj,hs]
 ·simp[hj]
def PY(l:List Bool)(a:Nat)(r:Int)(ok:Bool):Prop:=
 (ok=false∧r=0∧∀j,a≤j→at_ l j=false)∨(ok=true∧∃j:Nat,r=j∧a≤j∧at_ l j=true∧∀i,a≤i→i<j→at_ l i=false)
theorem ajV(l:List Bool)(a i:Nat)(W:Nat)(hW:∀j,j<64→W.testBit j=(decide (a≤64*i+j)&&at_ l (64*i+j)))(hl:W<18446744073709551616)(h0:W≠0)(hb:∀j,a≤j→j<64*i→at_ l j=false):∃j:Nat,j<64∧Bt.lowest (W:Int)=j∧PY l a ((64*i+j:Nat):Int) true:=by
 have hex:∃j,j<64∧W.testBit j=true:=by
  refine Ny fun hn=>h0 (Eh fun j=>?_)
  rw[Nat.zero_testBit]
  by_cases hj:j<64
  ·cases hw:W.testBit j
   ·rfl
   ·exact absurd ⟨j,hj,hw⟩ hn
  ·exact Bt.aaE W j hl Y
 obtain⟨j,⟨hj,hw⟩,hmin⟩:=alr hex
 have hlow:Bt.lowest (W:Int)=j:=by
  refine Bt.ajL _ j Y (fun k hk=>?_) (fun _=>by simpa [Bt.bit]using hw)
  cases hw2:(W:Int).toNat.testBit k
  ·rfl
  ·have:=hmin k ⟨Y,by simpa using hw2⟩;omega
 refine⟨j,hj,hlow,.inr ⟨rfl,_,rfl,?_⟩⟩
 have hw':=hw
 rw[hW j hj,FQ,decide_eq_true_eq]at hw'
 refine⟨hw'.1,hw'.2,fun k hk hlt=>?_⟩
 by_cases hki:k<64*i
 ·exact hb k hk hki
 ·have h1:=hW (k-64*i) Y
  rw[show 64*i+(k-64*i)=k by omega]at h1
  cases hat:at_ l k
  ·rfl
  ·rw[hat,decide_eq_true hk]at h1
   have:=hmin (k-64*i) ⟨Y,by simpa using h1⟩;omega
where
 alr {p:Nat→Prop} (h:∃m,p m):∃m,p m∧∀k,p k→m≤k:=by
  classical
  obtain⟨m,hm⟩:=h
  induction m using Nat.strongRecOn with
  |_ m ih=>
   by_cases h2:∃k,k<m∧p k
   ·obtain⟨k,hk,hp⟩:=h2;exact ih k hk hp
   ·exact⟨m,hm,fun k hk=>OQ fun hlt=>h2 ⟨k,hlt,hk⟩⟩
theorem ajN(l:List Bool)(a i:Nat)(hW:∀j,j<64→(0:Nat).testBit j=(decide (a≤64*i+j)&&at_ l (64*i+j)))(hb:∀j,a≤j→j<64*i→at_ l j=false):∀j,a≤j→j<64*(i+1)→at_ l j=false:=by
 intro j hj hlt
 by_cases h:j<64*i
 ·exact hb j hj h
 ·have:=hW (j-64*i) Y
  rw[show 64*i+(j-64*i)=j by omega,decide_eq_true hj]at this
  simpa using this.symm
def upto(l:List Bool)(k:Nat):List Int:=((List.range k).filter (at_ l)).map fun(i:Nat)=>(i:Int)
def elems(l:List Bool):List Int:=upto l l.length
theorem upto_succ(l:List Bool)(k:Nat):upto l (k+1)=upto l k++if at_ l k then [(k:Int)]else []:=by
 unfold upto
 rw[Lr,List.filter_append,EY]
 congr 1
 cases h:at_ l k<;>simp[h]
theorem YX(l:List Bool)(k m:Nat)(h:k≤m)(hz:∀i,k≤i→i<m→at_ l i=false):upto l m=upto l k:=by
 obtain⟨d,rfl⟩:=N9 h
 induction d with
 |zero=>rfl
 |succ d ih=>rw[←IZ,upto_succ,hz _ Y Y,ih Y (fun i h1 h2=>hz i h1 Y)];simp
theorem acI(l:List Bool)(k:Nat)(r:Int)(h:PY l k r true):∃j:Nat,r=j∧k≤j∧j<l.length∧upto l (j+1)=upto l k++ [r]:=by
 rcases h with⟨h,_⟩|⟨_,j,rfl,hk,hj,hz⟩
 ·cases h
 ·refine⟨j,rfl,hk,afT hj,?_⟩
  rw[upto_succ,hj,YX l k j hk hz];simp
theorem abt(l:List Bool)(k:Nat)(h:l.length≤k):upto l k=elems l:=YX l _ _ h fun i h1 _=>at_out h1
theorem ajY(l:List Bool)(k:Nat)(h:∀j,k≤j→at_ l j=false):upto l k=elems l:=by
 rcases XV k l.length with h1|h1
 ·exact(YX l k _ h1 fun i h2 _=>h i h2).symm
 ·exact abt l k h1
theorem akJ(l:List Bool)(k m:Nat)(h:k≤m):upto l k<+:upto l m:=by
 obtain⟨d,rfl⟩:=N9 h
 induction d with
 |zero=>exact Y0 _
 |succ d ih=>exact(ih Y).trans (by rw[←IZ,upto_succ];exact List.prefix_append _ _)
theorem adU(l:List Bool)(k:Nat):upto l k<+:elems l:=by
 rcases XV k l.length with h|h
 ·exact akJ l k _ h
 ·rw[abt l k h];exact Y0 _
theorem acV(l:List Bool):(elems l).length≤l.length:=by
 unfold elems upto
 rw[DL]
 exact FC (Ho _ _) J
theorem ari(l:List Bool):cnt l=(elems l).length:=by
 have key:∀k,k≤l.length→(upto l k).length=(l.take k).count true:=by
  intro k
  induction k with
  |zero=>intro _;simp[upto]
  |succ k ih=>
   intro hk
   rw[upto_succ,Cj,ih Y,J8,Ba Y]
   have:at_ l k=l[k]:=by simp[at_,List.getD,show k<l.length by omega]
   rw[this]
   cases l[k]<;>simp
 have:=key l.length (BF _)
 rw[F9]at this
 exact this.symm
def list(l:List Bool)(f t:Int):List Int:=(upto l l.length).filter fun x=>decide (f≤x)&&decide (x<t)
def LK(l:List Bool)(f t:Int)(k:Nat):List Int:=(upto l k).filter fun x=>decide (f≤x)&&decide (x<t)
theorem Zk(l:List Bool)(f t:Int)(k:Nat):LK l f t (k+1)=LK l f t k++if at_ l k∧f≤(k:Int)∧(k:Int)<t then [(k:Int)]else []:=by
 unfold LK
 rw[upto_succ,List.filter_append]
 congr 1
 cases h:at_ l k<;>by_cases h1:f≤(k:Int)<;>by_cases h2:(k:Int)<t<;>simp[h1,h2]
theorem akR(l:List Bool):list l 0 l.length=elems l:=by
 unfold list
 rw[NG.2]
 ·rfl
 ·intro x hx
  unfold upto at hx
  obtain⟨i,hi,rfl⟩:=DN.1 hx
  have:=(GZ.1 hi).1
  simp at this
  simp[this]
theorem aaL(l:List Bool)(f t:Int)(k:Nat):(LK l f t k).length≤k:=by
 unfold LK upto
 exact FC (Ho _ _) (by rw[DL];exact FC (Ho _ _) J)
theorem Ug(l:List Bool)(f t:Int)(k:Nat)(h:l.length≤k):LK l f t k=list l f t:=by unfold LK list;rw[abt l k h];rfl
theorem Zf(l:List Bool)(f t:Int)(k m:Nat)(h:k≤m)(hz:∀i,k≤i→i<m→at_ l i=false∨(i:Int)<f∨t≤(i:Int)):LK l f t m=LK l f t k:=by
 obtain⟨d,rfl⟩:=N9 h
 induction d with
 |zero=>rfl
 |succ d ih=>
  rw[←IZ,Zk,ih Y (fun i h1 h2=>hz i h1 Y),if_neg,Dl]
  rintro⟨h1,h2,h3⟩
  rcases hz (k+d) Y Y with g|g|g
  ·rw[h1]at g;cases g
  ·omega
  ·omega
theorem aaF(l:List Bool)(f t:Int)(k:Nat)(hz:∀i,k≤i→at_ l i=false∨(i:Int)<f∨t≤(i:Int)):LK l f t k=list l f t:=by
 rcases XV k l.length with h1|h1
 ·rw[←Ug l f t l.length (BF _)];exact(Zf l f t k _ h1 fun i h2 _=>hz i h2).symm
 ·exact Ug l f t k h1
theorem agU(l:List Bool)(f t:Int)(k:Nat){x:Int}(h:x∈LK l f t k):0≤x∧x<k∧x<l.length:=by
 unfold LK upto at h
 obtain⟨h1,_⟩:=GZ.1 h
 obtain⟨i,hi,rfl⟩:=DN.1 h1
 obtain⟨h2,h3⟩:=GZ.1 hi
 have:=afT h3
 simp at h2;omega
def put(l:List Bool)(x:Int)(b:Bool):List Bool:=if 0≤x∧x<l.length then l.set x.toNat b else l
theorem RU{l:List Bool}{i:Nat}(b:Bool)(h:i<l.length):put l i b=l.set i b:=by unfold put;rw[if_pos Y];rfl
theorem V7{l:List Bool}{x:Int}(b:Bool)(h:¬(0≤x∧x<l.length)):put l x b=l:=by unfold put;rw[if_neg h]
theorem Pv(l:List Bool)(x:Int)(b:Bool):(put l x b).length=l.length:=by unfold put;split<;>simp
theorem set_self{l:List Bool}{i:Nat}{b:Bool}(h:i<l.length)(h2:at_ l i=b):l.set i b=l:=by
 have:l[i]=b:=by simpa [at_,List.getD,h]using h2
 rw[←this];exact aeU h
def has(l:List Bool)(x:Int):Bool:=decide (0≤x)&&at_ l x.toNat
theorem U9{l:List Bool}(i:Nat):has l i=at_ l i:=by simp[has]
theorem anP{l:List Bool}{x:Int}(h:¬(0≤x∧x<l.length)):has l x=false:=by
 unfold has
 by_cases h0:0≤x
 ·rw[at_out Y];simp
 ·simp[h0]
theorem V9(l:List Bool)(x y:Int)(b:Bool)(h:0≤x∧x<l.length):has (put l x b) y=if x=y then b else has l y:=by
 obtain⟨i,rfl⟩:=BR h.1
 rw[RU b Y]
 unfold has
 by_cases h0:0≤y
 ·obtain⟨j,rfl⟩:=BR h0
  rw[BJ,at_set _ _ _ _ Y]
  by_cases e:i=j
  ·subst e;simp
  ·have:¬(i:Int)=(j:Int):=Y
   simp[e,this]
 ·have:¬(i:Int)=y:=Y
  simp[h0,this]
def puts(l:List Bool)(xs:List Int):List Bool:=xs.foldl (fun l x=>put l x true) l
theorem Vq(xs:List Int):∀l,(puts l xs).length=l.length:=by
 induction xs with
 |nil=>intro l;rfl
 |cons x xs ih=>intro l;show(puts (put l x true) xs).length=_;rw[ih,Pv]
theorem aco(l:List Bool)(xs:List Int)(x:Int):puts l (xs++ [x])=put (puts l xs) x true:=by simp[puts]
theorem anK(l:List Bool)(xs:List Int):nw (puts l xs)=nw l:=by unfold nw;rw[Vq]
theorem at_new(n i:Nat):at_ (List.replicate n false) i=false:=by
 unfold at_;rw[List.getD,Ew];split<;>rfl
theorem alj(n:Nat):ws (List.replicate n false)=List.replicate ((n+63)/64) 0:=by
 have e:nw (List.replicate n false)=(n+63)/64:=by simp[nw]
 unfold ws
 rw[e]
 apply EU
 intro i
 rw[Cb,Ew]
 split
 ·rename_i h
  have:wd (List.replicate n false) i=0:=by
   apply Eh
   intro j
   rw[Si,at_new];simp
  rw[Ip h,EG,this];rfl
 ·rw[DX Am];rfl
theorem adS(n:Nat):cnt (List.replicate n false)=0:=by simp[cnt,List.count_replicate]
theorem ate(n:Nat):Bt.up n 64=(((n+63)/64:Nat):Int):=by
 unfold Bt.up
 split<;>omega
end Bm
end
section
namespace Bm
open Go.RowKit
theorem aoa{l:List Bool}{x:Int}(h:x∈elems l):0≤x∧x<l.length:=by
 have h2:x∈LK l 0 l.length l.length:=by
  rw[Ug l 0 _ _ (BF _),akR];exact h
 have:=agU _ _ _ _ h2
 omega
theorem elem_iff{l:List Bool}{i:Nat}:(i:Int)∈elems l↔at_ l i=true:=by
 unfold elems upto
 constructor
 ·intro h
  obtain⟨j,hj,e⟩:=DN.1 h
  have:j=i:=Y
  subst this
  exact(GZ.1 hj).2
 ·intro h
  exact DN.2 ⟨i,GZ.2 ⟨Fg.2 (afT h),h⟩,rfl⟩
end Bm
end
section
namespace Su
open Go Go.RowKit
def row(b id:Int):List Int:=[8390047168116913201,1,b,id,0,0,0]
def crc(b id:Int):Int:=Cr.more 0 (By.bytes (row b id))
theorem ahb(b id:Int):0≤crc b id∧crc b id≤4294967295:=Cr.VK 0 _ Y Y (By.Qz _)
def okB(l1 l2 l4 l5 l6:Int):Prop:=l1=1∧l4=0∧l5=0∧l6=0∧2≤l2∧l2≤256
instance (l1 l2 l4 l5 l6:Int):Decidable (okB l1 l2 l4 l5 l6):=by unfold okB;infer_instance
def Ej(l1 l2 l3 l4 l5 l6:Int):Int:=Cr.more 0 (By.bytes [8390047168116913201,l1,l2,l3,l4,l5,l6])
theorem NT(l1 l2 l3 l4 l5 l6:Int):0≤Ej l1 l2 l3 l4 l5 l6∧Ej l1 l2 l3 l4 l5 l6≤4294967295:=Cr.VK 0 _ Y Y (By.Qz _)
theorem anI(b id:Int):Ej 1 b id 0 0 0=crc b id:=rfl
def Qj(l0 l1 l2 l3 l4 l5 l6 l7:Int):Int:=if l0=8390047168116913201∧l7=Ej l1 l2 l3 l4 l5 l6∧okB l1 l2 l4 l5 l6 then l2 else 0
def abT(l0 l1 l2 l3 l4 l5 l6 l7:Int):Int:=if l0=8390047168116913201∧l7=Ej l1 l2 l3 l4 l5 l6∧okB l1 l2 l4 l5 l6 then l3 else 0
def MJ(l0 l1 l2 l3 l4 l5 l6 l7:Int):Int:=if l0=8390047168116913201 then(if l7=Ej l1 l2 l3 l4 l5 l6 then(if okB l1 l2 l4 l5 l6 then 0 else 26)else 25)else 24
theorem ajQ(l0 l1 l2 l3 l4 l5 l6 l7:Int)(h:l0≠8390047168116913201):Qj l0 l1 l2 l3 l4 l5 l6 l7=0∧abT l0 l1 l2 l3 l4 l5 l6 l7=0∧MJ l0 l1 l2 l3 l4 l5 l6 l7=24:=by
 unfold Qj abT MJ
 rw[if_neg (fun x=>h x.1),if_neg (fun x=>h x.1),if_neg h]
 exact⟨rfl,rfl,rfl⟩
theorem anj(l1 l2 l3 l4 l5 l6 l7:Int)(h:l7≠Ej l1 l2 l3 l4 l5 l6):Qj 8390047168116913201 l1 l2 l3 l4 l5 l6 l7=0∧abT 8390047168116913201 l1 l2 l3 l4 l5 l6 l7=0∧MJ 8390047168116913201 l1 l2 l3 l4 l5 l6 l7=25:=by
 unfold Qj abT MJ
 rw[if_neg (fun x=>h x.2.1),if_neg (fun x=>h x.2.1),if_pos rfl,if_neg h]
 exact⟨rfl,rfl,rfl⟩
theorem alB(l1 l2 l3 l4 l5 l6:Int)(h:okB l1 l2 l4 l5 l6):Qj 8390047168116913201 l1 l2 l3 l4 l5 l6 (Ej l1 l2 l3 l4 l5 l6)=l2∧abT 8390047168116913201 l1 l2 l3 l4 l5 l6 (Ej l1 l2 l3 l4 l5 l6)=l3∧MJ 8390047168116913201 l1 l2 l3 l4 l5 l6 (Ej l1 l2 l3 l4 l5 l6)=0:=by
 unfold Qj abT MJ
 rw[if_pos ⟨rfl,rfl,h⟩,if_pos ⟨rfl,rfl,h⟩,if_pos rfl,if_pos rfl,if_pos h]
 exact⟨rfl,rfl,rfl⟩
theorem aju(l1 l2 l3 l4 l5 l6:Int)(h:¬okB l1 l2 l4 l5 l6):Qj 8390047168116913201 l1 l2 l3 l4 l5 l6 (Ej l1 l2 l3 l4 l5 l6)=0∧abT 8390047168116913201 l1 l2 l3 l4 l5 l6 (Ej l1 l2 l3 l4 l5 l6)=0∧MJ 8390047168116913201 l1 l2 l3 l4 l5 l6 (Ej l1 l2 l3 l4 l5 l6)=26:=by
 unfold Qj abT MJ
 rw[if_neg (fun x=>h x.2.2),if_neg (fun x=>h x.2.2),if_pos rfl,if_pos rfl,if_neg h]
 exact⟨rfl,rfl,rfl⟩
def Ia(b:Int):Bool:=decide (2≤b∧b≤256)
theorem F7(b:Int)(h:2≤b)(h2:b≤256):Ia b=true:=by unfold Ia;simp;omega
theorem Jo(b:Int)(h:b<2∨256<b):Ia b=false:=by unfold Ia;simp;omega
end Su
end
section
section
inductive PT where
 |nil
 |node (k v:Int) (l r:PT)
namespace PT
def get:PT→Int→Option Int
 |nil,_=>none
 |node k v l r,x=>if k=x then some v else if x<k then l.get x else r.get x
def size:PT→Nat
 |nil=>0
 |node _ _ l r=>l.size+1+r.size
def ins:PT→Int→Int→PT
 |nil,x,y=>node x y nil nil
 |node k v l r,x,y=>if k=x then node k y l r else if x<k then node k v (l.ins x y) r else node k v l (r.ins x y)
def least:PT→Int×Int
 |nil=>(0,0)
 |node k v nil _=>(k,v)
 |node _ _ l _=>l.least
def isNil:PT→Bool
 |nil=>true
 |_=>false
def del:PT→Int→PT
 |nil,_=>nil
 |node k v l r,x=>if x<k then node k v (l.del x) r else if k<x then node k v l (r.del x)else if l.isNil=true then r else if r.isNil=true then l else node r.least.1 r.least.2 l (r.del r.least.1)
def mem(x:Int):PT→Prop
 |nil=>False
 |node k _ l r=>x=k∨l.mem x∨r.mem x
def Bst:PT→Prop
 |nil=>True
 |node k _ l r=>l.Bst∧r.Bst∧(∀x,l.mem x→x<k)∧∀x,r.mem x→k<x
theorem ad1(y x:Int)(v:Int):∀t:PT,(t.ins y v).get x=if x=y then some v else t.get x
 |nil=>by
  unfold ins
  rw[get,get]
  by_cases e:x=y
  ·rw[if_pos e.symm,if_pos e]
  ·rw[if_neg (fun h=>e h.symm),if_neg e];split<;>rfl
 |node k w l r=>by
  have hl:=ad1 y x v l
  have hr:=ad1 y x v r
  unfold ins
  split
  ·rename_i e
   subst e
   rw[get,get]
   by_cases e:x=k
   ·rw[if_pos e.symm,if_pos e]
   ·have e':¬k=x:=fun h=>e h.symm
    simp only[if_neg e,if_neg e']
  ·split
   ·rw[get,get,hl]
    by_cases e:k=x
    ·rw[if_pos e,if_pos e,if_neg Y]
    ·rw[if_neg e,if_neg e]
     by_cases e2:x<k
     ·rw[if_pos e2,if_pos e2]
     ·rw[if_neg e2,if_neg e2,if_neg Y]
   ·rw[get,get,hr]
    by_cases e:k=x
    ·rw[if_pos e,if_pos e,if_neg Y]
    ·rw[if_neg e,if_neg e]
     by_cases e2:x<k
     ·rw[if_pos e2,if_pos e2,if_neg Y]
     ·rw[if_neg e2,if_neg e2]
theorem abp(y:Int)(v:Int):∀t:PT,(t.ins y v).size=t.size+if t.get y=none then 1 else 0
 |nil=>rfl
 |node k w l r=>by
  have hl:=abp y v l
  have hr:=abp y v r
  unfold ins
  rw[get]
  split
  ·simp[size]
  ·split
   ·rw[size,size,hl];omega
   ·rw[size,size,hr];omega
theorem aao(y:Int)(v:Int)(x:Int):∀t:PT,(t.ins y v).mem x→x=y∨t.mem x
 |nil=>fun h=>by
  unfold ins at h
  rcases h with h|h|h
  ·exact .inl h
  ·exact h.elim
  ·exact h.elim
 |node k w l r=>fun h=>by
  unfold ins at h
  split at h
  ·rcases h with h|h|h
   ·exact .inr (.inl h)
   ·exact .inr (.inr (.inl h))
   ·exact .inr (.inr (.inr h))
  ·split at h
   ·rcases h with h|h|h
    ·exact .inr (.inl h)
    ·exact(aao y v x l h).imp id fun h=> .inr (.inl h)
    ·exact .inr (.inr (.inr h))
   ·rcases h with h|h|h
    ·exact .inr (.inl h)
    ·exact .inr (.inr (.inl h))
    ·exact(aao y v x r h).imp id fun h=> .inr (.inr h)
theorem adY(y:Int)(v:Int):∀t:PT,t.Bst→(t.ins y v).Bst
 |nil=>fun _=>⟨trivial,trivial,fun _ h=>h.elim,fun _ h=>h.elim⟩
 |node k w l r=>fun⟨h1,h2,h3,h4⟩=>by
  unfold ins
  split
  ·exact⟨h1,h2,h3,h4⟩
  ·split
   ·refine⟨adY y v l h1,h2,fun x hx=>?_,h4⟩
    rcases aao y v x l hx with e|e
    ·omega
    ·exact h3 x e
   ·refine⟨h1,adY y v r h2,h3,fun x hx=>?_⟩
    rcases aao y v x r hx with e|e
    ·omega
    ·exact h4 x e
theorem get_mem{x v:Int}:∀{t:PT},t.get x=some v→t.mem x
 |nil=>fun h=>by cases h
 |node k w l r=>fun h=>by
  rw[get]at h
  split at h
  ·rename_i e;exact .inl e.symm
  ·split at h
   ·exact .inr (.inl (get_mem h))
   ·exact .inr (.inr (get_mem h))
theorem WT{x:Int}:∀{t:PT},¬t.mem x→t.get x=none:=fun{t} h=>by
 cases e:t.get x with
 |none=>rfl
 |some v=>exact absurd (get_mem e) h
theorem MX{x:Int}:∀{t:PT},t.Bst→t.mem x→t.get x≠none
 |nil,_,h=>h.elim
 |node k w l r,⟨h1,h2,h3,h4⟩,h=>by
  rw[get]
  split
  ·simp
  ·rename_i e
   rcases h with h|h|h
   ·exact absurd h.symm e
   ·rw[if_pos (h3 x h)];exact MX h1 h
   ·rw[if_neg (by have:=h4 x h;omega)];exact MX h2 h
theorem TD:∀{t:PT},t.Bst→t.isNil=false→t.mem t.least.1∧t.get t.least.1=some t.least.2∧∀x,t.mem x→t.least.1≤x
 |nil,_,h=>by cases h
 |node k v nil r,⟨_,_,_,h4⟩,_=>⟨.inl rfl,by show(if k=k then some v else _)=some v;rw[if_pos rfl],fun x hx=>by
  rcases hx with h|h|h
  ·rw[h];exact Px _
  ·exact h.elim
  ·exact Int.le_of_lt (h4 x h)⟩
 |node k v (node a b c d) r,⟨h1,_,h3,h4⟩,_=>by
  obtain⟨g1,g2,g3⟩:=TD (t:=node a b c d) h1 rfl
  have hlt:=h3 _ g1
  refine⟨.inr (.inl g1),?_,fun x hx=>?_⟩
  ·show(if k=(node a b c d).least.1 then some v else if(node a b c d).least.1<k then(node a b c d).get (node a b c d).least.1 else r.get (node a b c d).least.1)=some (node a b c d).least.2
   rw[if_neg Y,if_pos hlt];exact g2
  ·show(node a b c d).least.1≤x
   rcases hx with h|h|h
   ·omega
   ·exact g3 x h
   ·have:=h4 x h;omega
theorem VR{t:PT}:t.isNil=true→t=nil:=fun h=>by cases t with
 |nil=>rfl
 |node=>cases h
theorem I7(y:Int):∀(t:PT) (x:Int),t.Bst→(t.del x).mem y→t.mem y
 |nil,x=>fun _ h=>h
 |node k v l r,x=>fun⟨h1,h2,h3,h4⟩ h=>by
  unfold del at h
  split at h
  ·rcases h with h|h|h
   ·exact .inl h
   ·exact .inr (.inl (I7 y l x h1 h))
   ·exact .inr (.inr h)
  ·split at h
   ·rcases h with h|h|h
    ·exact .inl h
    ·exact .inr (.inl h)
    ·exact .inr (.inr (I7 y r x h2 h))
   ·split at h
    ·exact .inr (.inr h)
    ·split at h
     ·exact .inr (.inl h)
     ·rename_i hr
      rcases h with h|h|h
      ·rw[h];exact .inr (.inr (TD h2 (by simpa using hr)).1)
      ·exact .inr (.inl h)
      ·exact .inr (.inr (I7 y r _ h2 h))
theorem X8(y:Int):∀(t:PT) (x:Int),t.Bst→(t.del x).get y=if y=x then none else t.get y
 |nil,x=>fun _=>by
  show(none:Option Int)=if y=x then none else none
  split<;>rfl
 |node k v l r,x=>fun⟨h1,h2,h3,h4⟩=>by
  have hl:=X8 y l x h1
  have hr:=X8 y r x h2
  unfold del
  split
  ·rw[get,get,hl]
   by_cases e:k=y
   ·rw[if_pos e,if_pos e,if_neg Y]
   ·rw[if_neg e,if_neg e]
    by_cases e2:y<k
    ·rw[if_pos e2,if_pos e2]
    ·rw[if_neg e2,if_neg e2,if_neg Y]
  ·split
   ·rw[get,get,hr]
    by_cases e:k=y
    ·rw[if_pos e,if_pos e,if_neg Y]
    ·rw[if_neg e,if_neg e]
     by_cases e2:y<k
     ·rw[if_pos e2,if_pos e2,if_neg Y]
     ·rw[if_neg e2,if_neg e2]
   ·obtain rfl:x=k:=Y
    split
    ·rename_i hn
     rw[VR hn,get]
     by_cases e:y=x
     ·rw[if_pos e,e];exact WT fun h=>by have:=h4 x h;omega
     ·rw[if_neg e,if_neg (fun h=>e h.symm)]
      by_cases e2:y<x
      ·rw[if_pos e2];exact WT fun h=>by have:=h4 y h;omega
      ·rw[if_neg e2]
    ·split
     ·rename_i hn
      rw[VR hn,get]
      by_cases e:y=x
      ·rw[if_pos e,e];exact WT fun h=>by have:=h3 x h;omega
      ·rw[if_neg e,if_neg (fun h=>e h.symm)]
       by_cases e2:y<x
       ·rw[if_pos e2]
       ·rw[if_neg e2];exact WT fun h=>by have:=h3 y h;omega
     ·rename_i hn
      obtain⟨g1,g2,g3⟩:=TD h2 (by simpa using hn)
      have hk:=h4 _ g1
      have hr2:=X8 y r r.least.1 h2
      rw[get,get,hr2]
      generalize r.least=m at*
      by_cases e:m.1=y
      ·subst e
       rw[if_pos rfl,if_neg Y,if_neg Y,if_neg Y];exact g2.symm
      ·rw[if_neg e]
       by_cases e2:y<m.1
       ·rw[if_pos e2]
        by_cases e3:y=x
        ·rw[if_pos e3,e3];exact WT fun h=>by have:=h3 x h;omega
        ·rw[if_neg e3,if_neg (fun h=>e3 h.symm)]
         by_cases e4:y<x
         ·rw[if_pos e4]
         ·rw[if_neg e4,WT (t:=l) fun h=>by have:=h3 y h;omega,WT (t:=r) fun h=>by have:=g3 y h;omega]
       ·rw[if_neg e2,if_neg (fun h=>e h.symm),if_neg Y,if_neg Y,if_neg Y]
theorem aal:∀(t:PT) (x:Int),t.Bst→(t.del x).Bst
 |nil,x=>fun h=>h
 |node k v l r,x=>fun⟨h1,h2,h3,h4⟩=>by
  unfold del
  split
  ·exact⟨aal l x h1,h2,fun y hy=>h3 y (I7 y l x h1 hy),h4⟩
  ·split
   ·exact⟨h1,aal r x h2,h3,fun y hy=>h4 y (I7 y r x h2 hy)⟩
   ·split
    ·exact h2
    ·split
     ·exact h1
     ·rename_i hn
      obtain⟨g1,g2,g3⟩:=TD h2 (by simpa using hn)
      have hk:=h4 _ g1
      have hb:=aal r r.least.1 h2
      refine⟨h1,hb,fun y hy=>by have:=h3 y hy;omega,fun y hy=>?_⟩
      have:=g3 y (I7 y r _ h2 hy)
      by_cases e:y=r.least.1
      ·have h5:=MX hb hy
       rw[X8 y r _ h2,if_pos e]at h5
       exact absurd rfl h5
      ·omega
theorem size_del:∀(t:PT) (x:Int),t.Bst→t.get x≠none→(t.del x).size+1=t.size
 |nil,x=>fun _ h=>absurd rfl h
 |node k v l r,x=>fun⟨h1,h2,h3,h4⟩ h=>by
  rw[get]at h
  unfold del
  split
  ·rename_i e
   rw[if_neg Y,if_pos e]at h
   have:=size_del l x h1 h
   simp only[size];omega
  ·split
   ·rename_i e1 e
    rw[if_neg Y,if_neg Y]at h
    have:=size_del r x h2 h
    simp only[size];omega
   ·split
    ·rename_i hn
     rw[VR hn];simp only[size];omega
    ·split
     ·rename_i hn
      rw[VR hn];simp only[size]
     ·rename_i hn
      obtain⟨g1,g2,g3⟩:=TD h2 (by simpa using hn)
      have:=size_del r r.least.1 h2 (by rw[g2];simp)
      simp only[size];omega
end PT
end
end
end Go.Proofs.YtppilhpcmkekbaaGreat
