/- Parts of the proof. -/
import Derived.Deep.Slices
import Derived.Deep.Fields
import Derived.ChangeSame
import Derived.Test.YtppilhpcmkekbaaGreatKTopImagesc
import Derived.Test.YtppilhpcmkekbaaGreatKTopImagesh
set_option linter.unusedSimpArgs false
set_option linter.unusedVariables false
set_option linter.unusedSectionVars false
set_option maxRecDepth 100000
set_option maxHeartbeats 16000000
namespace Go.Proofs.YtppilhpcmkekbaaGreat
open Go.Proofs.Tryz
section
section
open Go.RowKit
section
variable{p b:Nat}{A:Option Addr}{c:Nat}{l:List Bool}(hk:Ib b A c l)(w:World)(hE:DW (JJ p b A c l) w)
include hE hk
theorem aqA(x:Int):Calls prog 269 [pt p,.int .i64 x].toArray w fun e w'=>(∃r ok,e= .returned (.tuple [.int .i64 r,.bool ok].toArray)∧Bm.ad8 l x.toNat r ok)∧Only [] w w':=by
 have HR:=Heap.start hE
 have H:=Heap.nil w
 have hlen:=hk.len
 unfold JJ at HR
 obtain⟨a,ha⟩:∃a:Nat,x.toNat=a:=⟨_,rfl⟩
 have hmax:(if x<0 then 0 else x)=(a:Int):=by split<;>omega
 rw[ha]
 by_cases hin:a<l.length
 ·obtain rfl:=hk.row zI
  have hnw:a/64<Bm.nw l:=by unfold Bm.nw;omega
  have hnl:Bm.nw l≤2048:=by unfold Bm.nw;omega
  have hgz:=Bm.Vp l _ hnw
  have htl:=Bm.an0 (Bm.wd l (a/64)) (a%64) (Bm.afI _ _)
  refine uK ?_
  refine AL (F7 O O Y) (dX ?_)
  refine Aw (Az O (AL (Rf O O Y (wI Y)) (AQ O (uX ?_))))
  refine BR O PD (BD (HR.same H.only) 0 O O O JE (Az O (AL (FC (i:=a/64) O O Y Y underlying55 GV) (AL (Nq (HR.same H.only) 1 O O hgz GR) (Az O (AL (QV O O Y) (AL (Ro O Ak underlying179 (wU Y)) ?_)))))))
  refine Hf O O (alU (s:=a%64) O O Y (by show a%64≤64;omega) (fdiv_pow _ _)) ?_
  refine Az O (AL (QV O O Y) (AL (Ro O Ak underlying179 (wU Y)) ?_))
  refine Hf O O (am6 (s:=a%64) O O Y (by show a%64≤64;omega) htl) ?_
  refine qw ?_
  refine E8 ?_
  refine Ec (fun z f W=>∃(i X:Nat),z=Bm.nw l-i∧a/64≤i∧i<Bm.nw l∧X<18446744073709551616∧(∀j,j<64→X.testBit j=(decide (a≤64*i+j)&&Bm.at_ l (64*i+j)))∧(∀j,a≤j→j<64*i→Bm.at_ l j=false)∧f 0=pt p∧f 6= .int .i64 i∧f 7= .int .u64 (X:Int)∧Heap w [] [] W) (Bm.nw l-a/64)
   ⟨a/64,Bm.tl (Bm.wd l (a/64)) (a%64),rfl,Bg _,hnw,Bm.auR _ _,fun j hj=>?_,fun j h1 h2=>Y,rfl,by simp only[upd];rfl,rfl,H⟩ ?_
  ·rw[Bm.alZ,Bm.Sj,decide_eq_true hj]
   have:(a%64≤j)=(a≤64*(a/64)+j):=by apply propext;omega
   simp[this]
  clear H
  rintro z f W ⟨i,X,rfl,hai,hi,hX,hb,hz,f0,f6,f7,H⟩
  obtain⟨f,rfl⟩:=OE f0 f6 f7
  clear f0 f6 f7
  by_cases h0:X=0
  ·subst h0
   have hz2:=Bm.ajE l a i hb hz
   by_cases hi2:i+1<Bm.nw l
   ·have hg2:=Bm.Vp l _ hi2
    refine fJ ?_
    refine AL (Fv O O Y) (Au (uG ?_))
    refine AL (F7 O O Y) (dX ?_)
    refine sN ?_
    refine BR O PD (BD (HR.same H.only) 0 O O O JE (Az O (AL (FC (i:=i+1) O O Y Y underlying55 GV) (AL (Nq (HR.same H.only) 1 O O hg2 GR) (AQ O (AA (Dh (CU ?_))))))))
    refine⟨_,_,?_,rfl,i+1,Bm.wd l (i+1),rfl,Y,hi2,Bm.afI _ _,fun j hj=>?_,hz2,rfl,rfl,rfl,H⟩
    ·omega
    ·rw[Bm.Sj,decide_eq_true hj,decide_eq_true Y]
   ·refine fJ ?_
    refine AL (Fv O O Y) (Au (uG ?_))
    refine AL (G8 O O Y) (ql ?_)
    refine AQ O (BN O (Au (BH (CX (Fe (CX (Fe (CX (iL ?_)))))))))
    exact⟨⟨0,false,rfl,.inl ⟨rfl,rfl,fun j hj=>by
     rcases Ie j (64*(i+1))with h|h
     ·exact hz2 j hj h
     ·exact Bm.at_out (by unfold Bm.nw at*;omega)⟩⟩,H.only⟩
  ·obtain⟨j,hj,hlow,hnx⟩:=Bm.akc l a i X hb hX h0 hz
   have hL:=fun w=>ag8 (X:Int) w Y Y
   rw[hlow]at hL
   refine fJ ?_
   refine AL (Fb O O Y) (Au (dw ?_))
   refine Aw (Az O (AL (Yf O O (wI Y)) (Az O (s_call O (hL _) (aur O) ?_))))
   rintro e W1 ⟨rfl,rfl⟩
   refine⟨_,rfl,?_⟩
   skip
   refine Hf O O (Dk (c:=((64*i+j:Nat):Int)) O O (by rw[wI Y];omega)) ?_
   refine AQ O (BN O (Au (BH (iL ?_))))
   exact⟨⟨_,true,rfl,hnx⟩,H.only⟩
 ·refine uK ?_
  refine AL (G8 O O Y) (sQ ?_)
  exact⟨⟨0,false,rfl,.inl ⟨rfl,rfl,fun j hj=>Bm.at_out Y⟩⟩,H.only⟩
end
end
end
section
section
open Go.RowKit
theorem aw0(p:Nat)(w:World):Calls prog 221 [pt p].toArray w fun e w'=>∃q,e= .returned (.func (.func 268) #[] [pt q].toArray)∧Heap w [] [blk q [pt p] 109] w':=by
 have H:=Heap.nil w
 refine BM 4 func221 O (Aw (arH H O O O ?_))
 intro p1 _ H';clear H;have H:=H';clear H'
 refine AL (DJ (v:= .nilFunc) O) (Au (pO ?_))
 refine Au (BH (Cj (v:= .func _ _ _) O O ?_))
 exact⟨_,rfl,H⟩
def itE(q p b:Nat)(A:Option Addr)(c:Nat)(l:List Bool):List Fp:=[blk q [pt p] 109,grp (JJ p b A c l)]
theorem aoE(q p b:Nat)(A:Option Addr)(c:Nat)(l:List Bool):∀E∈itE q p b A c l,Cel E:=WG (ag1 _ _ _) (WG (arW (ak3 _ _ _ _ _)) agv)
theorem axv{q p b:Nat}{A:Option Addr}{c:Nat}{l:List Bool}(hk:Ib b A c l)(W:World)(hE:DW (itE q p b A c l) W):
 SeqStopsK Fence.wide 4 prog 268 [pt q].toArray (fun x:Int=> #[.int .i64 x]) (Kp (ids (itE q p b A c l))) (fun xs=>xs=Bm.elems l) (fun pre=>pre<+:Bm.elems l) (Bm.elems l).length W:=by
 intro y Am Jx W1 hB hJ hJx hY hJ0
 refine(callsIn_wide (n:=4)).2 ?_
 have hE1:DW (itE q p b A c l) W1:=((Heap.start hE).same (Only.of_below hB [])).ents
 clear hE hB
 have hlen:=hk.len
 have H:=Heap.start hE1
 clear hE1
 rw[alO]
 have hN:=fun(W:World) (H:Heap W1 (ids (itE q p b A c l)) (itE q p b A c l) W)=>aqA hk W (H.Bl 1 rfl) 0
 refine BM 22 func268 O (Aw (BD H 0 O O O PN (s_call O (hN _ H) (aqf O) ?_)))
 rintro e W1 ⟨⟨r,ok,rfl,hnx⟩,HO⟩
 refine⟨_,rfl,?_⟩
 have H:=H.same HO;replace hJ0:=abide hJ hJ0 HO;clear HO
 refine aX ?_
 refine Au (E8 ?_)
 have hH:=H.ents
 clear H hN
 refine Ec (fun z f W=>∃(k:Nat) (r:Int) (ok:Bool),k≤l.length∧z=l.length-k∧Bm.ad8 l k r ok∧f 0= .func (.yield y) #[] #[]∧f 1=pt q∧f 3= .int .i64 r∧f 4= .bool ok∧Am (Bm.upto l k) W∧DW (itE q p b A c l) W) l.length ⟨0,r,ok,JK _,rfl,hnx,rfl,rfl,rfl,rfl,hJ0,hH⟩ ?_
 clear hJ0 hH hnx
 rintro z f W ⟨k,r,ok,hkl,rfl,hnx,f0,f1,f3,f4,hJ0,hE⟩
 obtain⟨f,rfl⟩:=Ih f0 f1 f3 f4
 clear f0 f1 f3 f4
 have H:=Heap.start hE
 cases ok with
 |true=>
  obtain⟨j,rfl,hkj,hjl,hup⟩:=Bm.ajI l k _ hnx
  have hpre:=Bm.adE l (j+1)
  have hpl:=hpre.length_le
  rw[hup,Cm,List.length_singleton]at hpl
  refine AP (Aw (BL O (Au (EI O (Bj (AO (AP (E8 (AP (auV Ak (aiA O O (BP (v:= .func _ _ _) O) (aiA O O (Fz O) (aoO O O O (hY _ (j:Int) _ hJ0 Y) ?_)))))))))))))
  rintro e W2 (⟨rfl,hJ1,hk1⟩|⟨rfl,hJ1⟩)
  ·refine⟨_,rfl,?_⟩
   have hE2:=hk1.ents H.ents
   have H:=Heap.start hE2
   have hN:=fun(W:World) (H:Heap W2 (ids (itE q p b A c l)) (itE q p b A c l) W)=>aqA hk W (H.Bl 1 rfl) ((j:Int)+1)
   rw[show((j:Int)+1).toNat=j+1 by omega]at hN
   rw[←hup]at hJ1
   refine aiA O O (EM O) (ap9 (AO (oU ?_)))
   refine DR (BD H 0 O O O PN (nI ?_))
   refine s_call O (hN _ H) (aqf O) ?_
   rintro e W1 ⟨⟨r,ok,rfl,hnx⟩,HO⟩
   refine⟨_,rfl,?_⟩
   have H:=H.same HO;replace hJ1:=abide hJ hJ1 HO;clear HO
   refine aX ?_
   refine AA (CU ?_)
   exact⟨_,_,Y,rfl,j+1,r,ok,Y,rfl,hnx,rfl,rfl,rfl,rfl,hJ1,H.ents⟩
  ·refine⟨_,rfl,?_⟩
   refine aiA O O (Jm O) (ap9 (AO (EI O (BH (Fe (CX (CX (Fe (awl O ?_)))))))))
   exact⟨⟨_,rfl⟩,.inr ⟨_,by rw[←hup];exact hpre,hJ1⟩⟩
 |false=>
  have hz:∀j,k≤j→Bm.at_ l j=false:=by
   rcases hnx with⟨_,_,h⟩|⟨h,_⟩
   ·exact h
   ·cases h
  rw[Bm.akL l k hz]at hJ0
  refine AP (Aw (BL O (xQ ?_)))
  refine fin0 O ?_
  exact⟨⟨_,rfl⟩,.inl ⟨_,rfl,hJ0⟩⟩
end
end
section
section
open Go.RowKit
section
variable{p b:Nat}{A:Option Addr}{c:Nat}{l:List Bool}(hk:Ib b A c l)(w:World)(hE:DW (JJ p b A c l) w)
include hE hk
theorem auw:Calls prog 160 [pt p].toArray w fun e w'=>∃B d,e= .returned (.slice B (Bm.elems l).length d)∧Heap w [] [Dw 1 (.slice B (Bm.elems l).length d) (Bm.elems l).length ((Bm.elems l).map (Value.int .i64)) 3] w':=by
 have H:=Heap.nil w
 have hlen:=hk.len
 have hel:=Bm.ajY l
 refine aua (N:=13) func160 O O O (Aw (En O (Au (Aw (aa5 H O UU O ?_)))))
 intro p3 _ H';clear H;have H:=H';clear H'
 refine Au (AP (Aw (BF O (s_call O (aw0 p _) (avE O) ?_))))
 rintro e W1 ⟨q,rfl,H'⟩
 refine⟨_,rfl,?_⟩
 have H:=H.more H';clear H'
 refine Au (E8 ?_)
 replace H:=H.G6 1 3
 have hO:=H.only
 have H2:=QD (GZ hE).ents H
 replace H2:Heap w _ ([blk p3 [.slice none 0 0] 22,Dw 1 (.slice none 0 0) 0 (([]:List Int).map (Value.int .i64)) 3]++itE q p b A c l) _:=H2.order [2,0,1,3] rfl rfl
 have HK:DW (itE q p b A c l) _:=(H2.order [2,3,0,1] rfl rfl:Heap w _ (itE q p b A c l++_) _).part
 refine axT (N:=(Bm.elems l).length) [blk p3 [.slice none 0 0] 22,Dw 1 (.slice none 0 0) 0 (([]:List Int).map (Value.int .i64)) 3] (itE q p b A c l) H2 (aoE _ _ _ _ _ _) O func268 Ak Ak
  (axv hk _ HK) (fun _=>rfl) Ak
  (fun pre L=>∃B d,L=[blk p3 [.slice B pre.length d] 22,Dw 1 (.slice B pre.length d) pre.length (pre.map (Value.int .i64)) 3])
  (fun q pre L=>False)
  (by rintro pre L ⟨_,_,rfl⟩;exact WG (ag1 _ _ _) (WG (ara _ _ _ _ _) agv)) (by rintro q pre L ⟨⟩) ⟨none,0,rfl⟩ (fun x=> [(7,.int .i64 x)]) (fun x=> [(4,.int .i64 x)]) (fun _=>by simp) ?assign ?body ?done ?stop
 case assign=>
  intro x W
  refine DR (AQ O (AA ?_))
  exact an3 rfl
 case body=>
  rintro pre x L W ⟨B,d,rfl⟩ hlen HO H
  clear HO H2
  refine E8 (DR (BD H 0 O O O Fg (Az O (O7 (enc:=(Value.int .i64)) H 1 O O O O O O O Y underlying22 GI O ?_))))
  clear H;intro _ An cn _ H;simp only[Bv,Nat.reduceAdd]at H
  refine wB ?_
  clear H;refine ayJ fun _ H=>?_
  refine AA (Dh (atO ?_))
  refine⟨_,⟨An,cn,rfl⟩,?_⟩
  rw[Cm];exact H
 case done=>
  rintro D xs L W rfl ⟨B,d,rfl⟩ H hK
  clear H2
  replace H:Heap w [] _ W:=Heap.calm (L:=[dfd D,blk p3 [.slice B (Bm.elems l).length d] 22,Dw 1 (.slice B (Bm.elems l).length d) (Bm.elems l).length ((Bm.elems l).map (Value.int .i64)) 3]) (M:=itE q p b A c l) H hO hK (fun i hi=>by
   have:i∈ids (itE q p b A c l):=by unfold itE;rw[EW];exact C9 _ hi
   exact .inr ⟨this,this⟩)
  refine Dh (AO (Aw (BD H 1 O O O Fg (En O (Au (BH (at1 (avV H 0 O ?_))))))))
  intro _ H';simp only[Js,Jt]at H';clear H;have H:=H';clear H'
  refine fm1 O (Jp (v:= .slice _ _ _) O) ?_
  refine⟨_,_,rfl,H.drop⟩
 case stop=>
  rintro D q pre L W hS ⟨⟩ H hK
end
section
variable{p b:Nat}{A:Option Addr}{c:Nat}{l:List Bool}(hk:Ib b A c l){pB bB:Nat}{AB:Option Addr}{cB:Nat}{lB:List Bool}(hkB:Ib bB AB cB lB)(w:World)(hE:DW [grp (JJ p b A c l),grp (JJ pB bB AB cB lB)] w)
include hE hk hkB
end
end
end
section
namespace Tr
structure S where
 seen:List Int
 op:List Int
 bad:List ((Int×Int)×Int)
def s0:S:=⟨[],[],[]⟩
def reach(P:Int→Bool)(s:S)(e:Int×Int)(a:Int):S:=
 if a=0∨a∈s.seen then s else if P a=true then⟨s.seen++ [a],s.op++ [a],s.bad⟩else⟨s.seen,s.op,Lp s.bad e a⟩
def code(P:Int→Bool)(s:S)(a:Int):Int:=if a=0∨a∈s.seen then 0 else if P a=true then 0 else 22
def along(P:Int→Bool)(s:S)(y:Int)(l:List Int):Nat→S
 |0=>s
 |i+1=>reach P (along P s y l i) (y,(i:Int)) (l.getD i 0)
def top(s:S):Int:=s.op.getD (s.op.length-1) 0
def pop(s:S):S:=⟨s.seen,s.op.take (s.op.length-1),s.bad⟩
def step(P:Int→Bool)(pt:Int→List Int)(s:S):S:=along P (pop s) (top s) (pt (top s)) (pt (top s)).length
def steps(P:Int→Bool)(pt:Int→List Int)(s:S):Nat→S
 |0=>s
 |k+1=>step P pt (steps P pt s k)
def Gl(P:Int→Bool)(s:S)(l:List Int):Nat→S
 |0=>s
 |i+1=>reach P (Gl P s l i) (-1,0) (l.getD i 0)
structure Ok (P:Int→Bool) (s:S):Prop where
 nd:s.seen.Nodup
 pl:∀x∈s.seen,P x=true
 sub:∀x∈s.op,x∈s.seen
 aio:s.op.Nodup
 bnd:(s.bad.map Prod.fst).Nodup
theorem ok0(P:Int→Bool):Ok P s0:=⟨by simp[s0],by simp[s0],by simp[s0],by simp[s0],by simp[s0]⟩
theorem aiW{α β:Type}[DecidableEq α]:∀(l:List (α×β)) (a:α) (v:β),(l.map Prod.fst).Nodup→((Lp l a v).map Prod.fst).Nodup∧∀z,z∈(Lp l a v).map Prod.fst↔z=a∨z∈l.map Prod.fst
 | [],a,v,_=>by simp[Lp]
 |p::l,a,v,h=>by
  simp only[Dx,GH]at h
  obtain⟨h1,h2⟩:=aiW l a v h.2
  unfold Lp
  split
  ·rename_i e
   subst e
   refine⟨by simpa using h,fun z=>?_⟩
   simp
  ·rename_i e
   simp only[Dx,GH,Dq]
   refine⟨⟨fun hm=>?_,h1⟩,fun z=>?_⟩
   ·rcases(h2 _).1 hm with h3|h3
    ·exact e h3
    ·exact h.1 h3
   ·rw[h2 z]
    constructor
    ·rintro(h3|h3|h3)
     ·exact .inr (.inl h3)
     ·exact .inl h3
     ·exact .inr (.inr h3)
    ·rintro(h3|h3|h3)
     ·exact .inr (.inl h3)
     ·exact .inl h3
     ·exact .inr (.inr h3)
theorem abQ{α β:Type}[DecidableEq α]:∀(l:List (α×β)) (a:α) (v:β),(Lp l a v).length≤l.length+1∧0<(Lp l a v).length
 | [],a,v=>by simp[Lp]
 |p::l,a,v=>by
  have:=abQ l a v
  unfold Lp
  split
  ·simp
  ·simp;omega
theorem Ok.reach{P:Int→Bool}{s:S}(h:Ok P s)(e:Int×Int)(a:Int):Ok P (reach P s e a):=by
 unfold Tr.reach
 split
 ·exact h
 ·rename_i ha
  have ha2:a∉s.seen:=fun hm=>ha (.inr hm)
  split
  ·rename_i hp
   refine⟨?_,fun x hx=>?_,fun x hx=>?_,?_,h.bnd⟩
   ·rw[CS];exact⟨h.nd,J,fun x hx y hy e=>ha2 (by rw[Bf.1 hy]at e;rw[←e];exact hx)⟩
   ·rcases BJ.1 hx with h1|h1
    ·exact h.pl x h1
    ·rw[Bf.1 h1];exact hp
   ·rcases BJ.1 hx with h1|h1
    ·exact BQ _ (h.sub x h1)
    ·exact C9 _ h1
   ·show(s.op++ [a]).Nodup
    rw[CS];exact⟨h.aio,J,fun x hx y hy e=>ha2 (by rw[Bf.1 hy]at e;rw[←e];exact h.sub x hx)⟩
  ·exact⟨h.nd,h.pl,h.sub,h.aio,(aiW s.bad e a h.bnd).1⟩
theorem Ok.along{P:Int→Bool}{s:S}(h:Ok P s)(y:Int)(l:List Int):∀k,Ok P (along P s y l k)
 |0=>h
 |k+1=>(Ok.along h y l k).reach _ _
theorem Ok.pop{P:Int→Bool}{s:S}(h:Ok P s):Ok P (pop s):=
 ⟨h.nd,h.pl,fun x hx=>h.sub x (G7 hx),h.aio.sublist (List.take_sublist _ _),h.bnd⟩
theorem Ok.step{P:Int→Bool}{pt:Int→List Int}{s:S}(h:Ok P s):Ok P (step P pt s):=h.pop.along _ _ _
theorem Ok.steps{P:Int→Bool}{pt:Int→List Int}{s:S}(h:Ok P s):∀k,Ok P (steps P pt s k)
 |0=>h
 |k+1=>(Ok.steps h k).step
theorem Ok.Gl{P:Int→Bool}{s:S}(h:Ok P s)(l:List Int):∀k,Ok P (Gl P s l k)
 |0=>h
 |k+1=>(Ok.Gl h l k).reach _ _
theorem acJ(P:Int→Bool)(s:S)(e:Int×Int)(a:Int)(k:Nat)(h:s.seen.length=s.op.length+k):(reach P s e a).seen.length=(reach P s e a).op.length+k:=by
 unfold reach;split
 ·exact h
 ·split
  ·simp;omega
  ·exact h
theorem acH(P:Int→Bool)(s:S)(y:Int)(l:List Int)(k:Nat)(h:s.seen.length=s.op.length+k):∀i,(along P s y l i).seen.length=(along P s y l i).op.length+k
 |0=>h
 |i+1=>acJ _ _ _ _ _ (acH P s y l k h i)
theorem amj(P:Int→Bool)(pt:Int→List Int)(s:S)(k:Nat)(h:s.seen.length=s.op.length+k)(h0:s.op≠[]):(step P pt s).seen.length=(step P pt s).op.length+(k+1):=by
 refine acH P _ _ _ (k+1) ?_ _
 have:=Gn.2 h0
 show s.seen.length=(s.op.take (s.op.length-1)).length+(k+1)
 rw[Dy];omega
theorem Zp(P:Int→Bool)(l:List Int):∀k,(Gl P s0 l k).seen.length=(Gl P s0 l k).op.length+0
 |0=>rfl
 |k+1=>acJ _ _ _ _ _ (Zp P l k)
theorem Y4(P:Int→Bool)(s:S)(e:Int×Int)(a:Int):∀x∈s.seen,x∈(reach P s e a).seen:=fun x hx=>by
 unfold reach;split
 ·exact hx
 ·split
  ·exact BQ _ hx
  ·exact hx
theorem acL(P:Int→Bool)(s:S)(y:Int)(l:List Int):∀i,∀x∈s.seen,x∈(along P s y l i).seen
 |0,x,hx=>hx
 |i+1,x,hx=>Y4 _ _ _ _ x (acL P s y l i x hx)
theorem afl(P:Int→Bool)(pt:Int→List Int)(s:S):∀x∈s.seen,x∈(step P pt s).seen:=fun x hx=>acL P (pop s) _ _ _ x hx
theorem acs(P:Int→Bool)(pt:Int→List Int)(s:S)(k:Nat):∀j,∀x∈(steps P pt s k).seen,x∈(steps P pt s (k+j)).seen
 |0,x,hx=>hx
 |j+1,x,hx=>afl _ _ _ x (acs P pt s k j x hx)
theorem acZ(P:Int→Bool)(pt:Int→List Int)(s:S)(h:s.seen.length=s.op.length+0):∀k,(∀j,j<k→(steps P pt s j).op≠[])→(steps P pt s k).seen.length=(steps P pt s k).op.length+k
 |0,_=>h
 |k+1,ho=>amj P pt _ k (acZ P pt s h k fun j hj=>ho j Y) (ho k Y)
theorem Y2(P:Int→Bool)(s:S)(e:Int×Int)(a:Int):(reach P s e a).bad.length≤s.bad.length+1∧((reach P s e a).bad=[]→s.bad=[]∧(a=0∨a∈(reach P s e a).seen))∧(code P s a=0→a=0∨a∈(reach P s e a).seen):=by
 have hl:=abQ s.bad e a
 unfold reach code;split
 ·rename_i h
  exact⟨Y,fun h2=>⟨h2,h⟩,fun _=>h⟩
 ·split
  ·exact⟨Nat.le_succ _,fun h2=>⟨h2,.inr J⟩,fun _=> .inr J⟩
  ·exact⟨hl.1,fun h2=>by have:Lp s.bad e a=[]:=h2;rw[this]at hl;simp at hl,fun h=>by cases h⟩
theorem QF:∀(N:Nat) (l:List Int),l.Nodup→(∀x∈l,0≤x∧x<(N:Int))→l.length≤N
 |0,[],_,_=>Bg _
 |0,x::l,_,h=>by have:=h x J;omega
 |N+1,l,hn,h=>by
  by_cases hm:(N:Int)∈l
  ·have h1:=QF N (l.erase (N:Int)) (hn.erase _) (fun x hx=>by
    have h2:=h x (U1 hx)
    have h3:x≠(N:Int):=fun e=>by subst e;exact(Sv hn) hx
    omega)
   rw[NQ hm]at h1
   omega
  ·have h1:=QF N l hn (fun x hx=>by
    have h2:=h x hx
    have h3:x≠(N:Int):=fun e=>hm (by rw[←e];exact hx)
    omega)
   omega
end Tr
end
section
namespace Tr
theorem aa8(P:Int→Bool)(s:S)(e:Int×Int)(a:Int)(h:(reach P s e a).bad=[]):s.bad=[]:=((Y2 P s e a).2.1 h).1
theorem Xq(P:Int→Bool)(s:S)(y:Int)(l:List Int):∀i,(along P s y l i).bad=[]→s.bad=[]
 |0,h=>h
 |i+1,h=>Xq P s y l i (aa8 _ _ _ _ h)
theorem aaR(P:Int→Bool)(pt:Int→List Int)(s:S):∀k,(steps P pt s k).bad=[]→s.bad=[]
 |0,h=>h
 |k+1,h=>aaR P pt s k (Xq P (pop (steps P pt s k)) _ _ _ h)
theorem ak5(P:Int→Bool)(s:S)(e:Int×Int)(a:Int)(h:(reach P s e a).bad=[]):code P s a=0:=by
 unfold reach at h;unfold code
 split
 ·rfl
 ·rename_i h1
  rw[if_neg h1]at h
  split
  ·rfl
  ·rename_i h2
   rw[if_neg h2]at h
   have h3:Lp s.bad e a=[]:=h
   have:=(abQ s.bad e a).2
   rw[h3]at this;simp at this
end Tr
end
section
section
open Go.RowKit
def apB(d:Nv.D)(rf:Int):Prop:=(d.armed=true∧rf=d.fuse∧0≤rf∧rf≤9223372036854775807)∨(d.armed=false∧rf= -1)
structure ajr where
 A0:Option Addr
 c0:Nat
 A1:Option Addr
 c1:Nat
 A2:Option Addr
 c2:Nat
 A3:Option Addr
 c3:Nat
 A4:Option Addr
 c4:Nat
 rf:Int
structure UQ (w:World) (F:List Nat) (s:ajr) (d:Nv.D) (m:Nat):Prop where
 now:Gm (Value.int .u64) w F s.A0 d.cache
 last:Gm (Value.int .u64) w F s.A1 d.last
 wait:Gm (Value.int .u64) w F s.A2 d.fl
 dirty:Gm Value.bool w F s.A3 d.dirty
 pend:Gm Value.bool w F s.A4 d.pend
 fuse:apB d s.rf
 ok:Nv.Ok d m
theorem UQ.later{w W:World}{F G:List Nat}{s:ajr}{d:Nv.D}{m:Nat}(h:UQ w F s d m)(hO:Only G w W)(hG:∀i∈G,i∈F):UQ W F s d m:=
 ⟨h.now.later hO hG,h.last.later hO hG,h.wait.later hO hG,h.dirty.later hO hG,h.pend.later hO hG,h.fuse,h.ok⟩
theorem UQ.killed{w:World}{F:List Nat}{s:ajr}{d:Nv.D}{m:Nat}(h:UQ w F s d m):UQ w F s (Nv.killed d) m:=
 ⟨h.now,h.last,h.wait,h.dirty,h.pend,h.fuse,h.ok.killed⟩
end
end
section
section
open Go.RowKit
end
end
section
section
open Go.RowKit
end
end
section
section
open Go.RowKit
end
end
section
section
open Go.RowKit
end
end
section
section
open Go.RowKit
theorem UQ.news{w:World}{F G:List Nat}{s:ajr}{d:Nv.D}{m:Nat}(h:UQ w F s d m)(hG:∀i∈G,i∈F∨w.heap.size≤i):UQ w G s d m:=
 ⟨h.now.news hG,h.last.news hG,h.wait.news hG,h.dirty.news hG,h.pend.news hG,h.fuse,h.ok⟩
end
end
section
section
open Go.RowKit
end
end
section
section
open Go.RowKit
def flat(zs:List Int)(k:Nat):List Int:=zs.take k++List.replicate (8*((k+7)/8)-k) 0
end
end
section
section
open Go.RowKit
end
end
section
section
open Go.RowKit
end
end
section
section
open Go.RowKit
theorem UQ.at{w W:World}{L:List Fp}{F X:List Nat}{s:ajr}{d:Nv.D}{m:Nat}(hr:UQ w (F++X) s d m)(H:Heap w F L W):UQ W ((F++X)++ids L) s d m:=
 (hr.news (G:=(F++X)++ids L) (fun i hi=>by
  rcases BJ.1 hi with h|h
  ·exact .inl h
  ·rcases H.own i h with h|h
   ·exact .inl (BQ _ h)
   ·exact .inr h)).later H.only (fun _ h=>BQ _ (BQ _ h))
theorem Heap.fl{w W:World}{L:List Fp}{F G:List Nat}(H:Heap w F L W)(hG:∀i∈G,i<w.heap.size):∀i∈G++ids L,i<W.heap.size:=by
 intro i hi
 rcases BJ.1 hi with h|h
 ·exact Gh (hG i h) H.only.size
 ·exact H.akB i h
section
variable(g:Geo)(d:Nv.D)(s:ajr)(m:Nat)(k a n v:Int)(A:Option Addr)(nc cc:Nat)(cs:List Int)(X:List Nat)(w:World)
end
end
end
section
namespace Tr
theorem getD_mem{l:List Int}{j:Nat}(h:j<l.length):l.getD j 0∈l:=by
 rw[Ba,Ar h];exact FT _
theorem acn(P:Int→Bool)(s:S)(l:List Int):∀k,(Gl P s l k).bad=[]→∀j,j<k→l.getD j 0=0∨l.getD j 0∈(Gl P s l k).seen
 |0,_,j,h=>by omega
 |k+1,hb,j,h=>by
  obtain⟨h1,h2⟩:=(Y2 P (Gl P s l k) (-1,0) (l.getD k 0)).2.1 hb
  by_cases e:j=k
  ·subst e;exact h2
  ·exact(acn P s l k h1 j Y).imp id (fun hm=>Y4 _ _ _ _ _ hm)
theorem adn(P:Int→Bool)(s:S)(y:Int)(l:List Int):∀k,(along P s y l k).bad=[]→∀j,j<k→l.getD j 0=0∨l.getD j 0∈(along P s y l k).seen
 |0,_,j,h=>by omega
 |k+1,hb,j,h=>by
  obtain⟨h1,h2⟩:=(Y2 P (along P s y l k) (y,(k:Int)) (l.getD k 0)).2.1 hb
  by_cases e:j=k
  ·subst e;exact h2
  ·exact(adn P s y l k h1 j Y).imp id (fun hm=>Y4 _ _ _ _ _ hm)
theorem acp{P:Int→Bool}{s:S}{e:Int×Int}{a y:Int}(h:y∈(reach P s e a).seen)(ho:y∉(reach P s e a).op):y∈s.seen∧y∉s.op:=by
 unfold reach at h ho
 split at h
 ·rename_i h1;rw[if_pos h1]at ho;exact⟨h,ho⟩
 ·rename_i h1
  rw[if_neg h1]at ho
  split at h
  ·rename_i h2
   rw[if_pos h2]at ho
   have ho2:y∉s.op++ [a]:=ho
   have h3:y∈s.seen++ [a]:=h
   simp only[BJ,Bf,not_or]at ho2 h3
   exact⟨h3.resolve_right ho2.2,ho2.1⟩
  ·rename_i h2
   rw[if_neg h2]at ho
   exact⟨h,ho⟩
theorem acN{P:Int→Bool}{s:S}{y0:Int}{l:List Int}{y:Int}:∀k,y∈(along P s y0 l k).seen→y∉(along P s y0 l k).op→y∈s.seen∧y∉s.op
 |0,h,ho=>⟨h,ho⟩
 |k+1,h,ho=>by
  obtain⟨h1,h2⟩:=acp h ho
  exact acN k h1 h2
theorem YP{s:S}(h:s.op≠[]):s.op=(pop s).op++ [top s]:=by
 have hl:=Gn.2 h
 unfold pop top
 obtain⟨x,hx⟩:∃x,s.op[s.op.length-1]? =some x:=⟨_,Ar Y⟩
 rw[Ba,hx]
 have:=F5 (s.op.length-1) s.op
 rw[Hy Y]at this
 rw[Ar Y]at hx
 injection hx with hx
 rw[show s.op.length-1+1=s.op.length by omega,Ph,hx]at this
 exact this.symm
theorem Yr(P:Int→Bool)(pt:Int→List Int)(s:S)(hs:∀y∈s.seen,y∈s.op):∀k,(∀j,j<k→(steps P pt s j).op≠[])→(steps P pt s k).bad=[]→∀y∈(steps P pt s k).seen,y∉(steps P pt s k).op→∀x∈pt y,x=0∨x∈(steps P pt s k).seen
 |0,_,_,y,h,ho=>absurd (hs y h) ho
 |k+1,hj,hb,y,h,ho=>by
  intro x hx
  have hb2:(steps P pt s k).bad=[]:=Xq P (pop (steps P pt s k)) _ _ _ hb
  obtain⟨h1,h2⟩:=acN (s:=pop (steps P pt s k)) _ h ho
  by_cases e:y∈(steps P pt s k).op
  ·rw[YP (hj k Y)]at e
   rcases BJ.1 e with e|e
   ·exact absurd e h2
   ·have e2:y=top (steps P pt s k):=Bf.1 e
    subst e2
    obtain⟨j,hjl,rfl⟩:=DY.1 hx
    have:=adn P (pop (steps P pt s k)) (top (steps P pt s k)) (pt (top (steps P pt s k))) _ hb j hjl
    rw[Ba,Ar hjl]at this
    exact this
  ·rcases Yr P pt s hs k (fun j h=>hj j Y) hb2 y h1 e x hx with h3|h3
   ·exact .inl h3
   ·exact .inr (afl P pt _ x h3)
theorem abl(P:Int→Bool)(l:List Int):∀k,∀y∈(Gl P s0 l k).seen,y∈(Gl P s0 l k).op
 |0,y,h=>by cases h
 |k+1,y,h=>by
  have ih:=abl P l k
  by_cases ho:y∈(Gl P s0 l (k+1)).op
  ·exact ho
  ·obtain⟨h1,h2⟩:=acp h ho
   exact absurd (ih y h1) h2
structure Two (L A:List Int) (i k:Nat):Prop where
 a:∀(j:Nat) (y:Int),j<k→A[j]? =some y→∃q:Nat,q<i∧L[q]? =some y
 b:∀(q:Nat) (y:Int),q<i→L[q]? =some y→y=0∨∃j:Nat,j<k∧A[j]? =some y
theorem Two.zero{L A:List Int}:Two L A 0 0:=⟨fun j y h=>Y,fun q y h=>Y⟩
theorem Two.skip{L A:List Int}{i k:Nat}{x:Int}(h:Two L A i k)(hx:L[i]? =some x)(h0:x=0∨∃j:Nat,j<k∧A[j]? =some x):Two L A (i+1) k:=
 ⟨fun j y h1 h2=>(h.a j y h1 h2).imp fun q hq=>⟨Y,hq.2⟩,fun q y h1 h2=>by
  by_cases e:q=i
  ·subst e;rw[hx]at h2;injection h2 with h2;subst h2;exact h0
  ·exact h.b q y Y h2⟩
theorem Two.next{L A:List Int}{i k:Nat}{x:Int}(h:Two L A i k)(hx:L[i]? =some x)(hk:A[k]? =some x):Two L A (i+1) (k+1):=
 ⟨fun j y h1 h2=>by
  by_cases e:j=k
  ·subst e;rw[hk]at h2;injection h2 with h2;subst h2;exact⟨i,Y,hx⟩
  ·obtain⟨q,hq,h3⟩:=h.a j y Y h2;exact⟨q,Y,h3⟩,fun q y h1 h2=>by
  by_cases e:q=i
  ·subst e;rw[hx]at h2;injection h2 with h2;subst h2;exact .inr ⟨k,Y,hk⟩
  ·rcases h.b q y Y h2 with h3|⟨j,h3,h4⟩
   ·exact .inl h3
   ·exact .inr ⟨j,Y,h4⟩⟩
theorem aqX{L:List Int}(hL:L.Pairwise (· ≤ ·)){i j:Nat}{x y:Int}(hx:L[i]? =some x)(hy:L[j]? =some y)(hij:i≤j):x≤y:=by
 by_cases e:i=j
 ·subst e;rw[hx]at hy;injection hy with hy;omega
 ·obtain⟨h1,rfl⟩:=BA.1 hx
  obtain⟨h2,rfl⟩:=BA.1 hy
  exact Hu.1 hL i j h1 h2 Y
theorem ahY{A:List Int}(hA:A.Pairwise (· < ·)){i j:Nat}{x y:Int}(hx:A[i]? =some x)(hy:A[j]? =some y)(hij:i<j):x<y:=by
 obtain⟨h1,rfl⟩:=BA.1 hx
 obtain⟨h2,rfl⟩:=BA.1 hy
 exact Hu.1 hA i j h1 h2 hij
theorem Two.take{L A:List Int}{i k:Nat}{x:Int}(h:Two L A i k)(hL:L.Pairwise (· ≤ ·))(hA:A.Pairwise (· < ·))(hLA:∀y∈L,y=0∨y∈A)(hAL:∀y∈A,y∈L∧y≠0)(hx:L[i]? =some x)(h0:x≠0)(hp:∀z,0<k→A[k-1]? =some z→z≠x)(hkl:k≤A.length):A[k]? =some x:=by
 have hxA:x∈A:=(hLA x (A8 hx)).resolve_left h0
 obtain⟨r,hr1,hr2⟩:=DY.1 hxA
 have hr:A[r]? =some x:=by rw[←hr2];exact Ar hr1
 have hkr:k≤r:=by
  rcases Ie r k with hlt|hge
  ·exfalso
   by_cases e:r=k-1
   ·subst e;exact hp x Y hr rfl
   ·by_cases hkA:k-1<A.length
    ·obtain⟨z,hz⟩:∃z,A[k-1]? =some z:=⟨_,Ar hkA⟩
     obtain⟨q,hq,hq2⟩:=h.a (k-1) z Y hz
     have h1:=aqX hL hq2 hx Y
     have h2:=ahY hA hr hz Y
     omega
    ·omega
  ·exact hge
 rcases Ie k r with hlt|hge
 ·exfalso
  obtain⟨z,hz⟩:∃z,A[k]? =some z:=⟨_,Ar Y⟩
  have hzx:=ahY hA hz hr hlt
  obtain⟨hzL,hz0⟩:=hAL z (A8 hz)
  obtain⟨q,hq1,hq2⟩:=DY.1 hzL
  have hq:L[q]? =some z:=by rw[←hq2];exact Ar hq1
  have hqi:q<i:=by
   rcases Ie q i with h1|h1
   ·exact h1
   ·have:=aqX hL hx hq h1;omega
  rcases h.b q z hqi hq with h1|⟨j,hj,hj2⟩
  ·exact hz0 h1
  ·have:=ahY hA hj2 hz hj;omega
 ·have:r=k:=Y
  subst this;exact hr
theorem Two.fin{L A:List Int}{k:Nat}(h:Two L A L.length k)(hA:A.Pairwise (· < ·))(hAL:∀y∈A,y∈L∧y≠0)(hk:k≤A.length):k=A.length:=by
 rcases Ie k A.length with hlt|hge
 ·exfalso
  obtain⟨z,hz⟩:∃z,A[k]? =some z:=⟨_,Ar hlt⟩
  obtain⟨hzL,hz0⟩:=hAL z (A8 hz)
  obtain⟨q,hq1,hq2⟩:=DY.1 hzL
  have hq:L[q]? =some z:=by rw[←hq2];exact Ar hq1
  rcases h.b q z hq1 hq with h1|⟨j,hj,hj2⟩
  ·exact hz0 h1
  ·have:=ahY hA hj2 hz hj;omega
 ·omega
end Tr
end
section
namespace Tr
structure Good (P:Int→Bool) (pt:Int→List Int) (R:List Int) (A:Int→Prop):Prop where
 ro:∀r∈R,r=0∨A r
 on:∀a,A a→P a=true∧∀y∈pt a,y=0∨A y
structure G (A:Int→Prop) (s:S):Prop where
 bad:s.bad=[]
 se:∀x∈s.seen,A x
 op:∀x∈s.op,x∈s.seen
theorem G.reach{P:Int→Bool}{pt:Int→List Int}{R:List Int}{A:Int→Prop}(h:Good P pt R A){s:S}(g:G A s)(e:Int×Int)(a:Int)(ha:a=0∨A a):G A (reach P s e a):=by
 unfold Tr.reach
 split
 ·exact g
 ·rename_i h1
  have hA:=ha.resolve_left fun h2=>h1 (.inl h2)
  rw[if_pos (h.on a hA).1]
  refine⟨g.bad,fun x hx=>?_,fun x hx=>?_⟩
  ·rcases BJ.1 hx with h2|h2
   ·exact g.se x h2
   ·rw[Bf.1 h2];exact hA
  ·rcases BJ.1 hx with h2|h2
   ·exact BQ _ (g.op x h2)
   ·exact C9 _ h2
theorem aiV{l:List Int}{A:Int→Prop}(h:∀y∈l,y=0∨A y)(i:Nat):l.getD i 0=0∨A (l.getD i 0):=by
 by_cases hi:i<l.length
 ·exact h _ (getD_mem hi)
 ·exact .inl (by rw[Ba,DC Y];rfl)
theorem G.along{P:Int→Bool}{pt:Int→List Int}{R:List Int}{A:Int→Prop}(h:Good P pt R A){s:S}(g:G A s)(y:Int)(l:List Int)(hl:∀x∈l,x=0∨A x):∀k,G A (along P s y l k)
 |0=>g
 |k+1=>(G.along h g y l hl k).reach h _ _ (aiV hl k)
theorem apg{s:S}(h:s.op≠[]):top s∈s.op:=getD_mem (by have:=Gn.2 h;omega)
theorem G.step{P:Int→Bool}{pt:Int→List Int}{R:List Int}{A:Int→Prop}(h:Good P pt R A){s:S}(g:G A s)(h0:s.op≠[]):G A (step P pt s):=by
 have ht:=g.se _ (g.op _ (apg h0))
 exact G.along (s:=pop s) h ⟨g.bad,g.se,fun x hx=>g.op x (G7 hx)⟩ _ _ (h.on _ ht).2 _
theorem G.steps{P:Int→Bool}{pt:Int→List Int}{R:List Int}{A:Int→Prop}(h:Good P pt R A){s:S}(g:G A s):∀k,(∀j,j<k→(steps P pt s j).op≠[])→G A (steps P pt s k)
 |0,_=>g
 |k+1,hj=>(G.steps h g k fun j hjk=>hj j Y).step h (hj k Y)
theorem G.roots{P:Int→Bool}{pt:Int→List Int}{R:List Int}{A:Int→Prop}(h:Good P pt R A):∀k,G A (Gl P s0 R k)
 |0=>⟨rfl,fun x hx=>(by cases hx),fun x hx=>(by cases hx)⟩
 |k+1=>(G.roots h k).reach h _ _ (aiV h.ro k)
structure acw (P:Int→Bool) (pt:Int→List Int) (R L:List Int):Prop where
 nd:L.Nodup
 pl:∀a∈L,P a=true
 ro:∀r∈R,r=0∨r∈L
 on:∀a∈L,∀y∈pt a,y=0∨y∈L
 le:∀A,Good P pt R A→∀a∈L,A a
theorem alL{P:Int→Bool}{pt:Int→List Int}{R L:List Int}{A:Int→Prop}(h:Good P pt R A){N:Nat}(h1:∀j,j<N→(steps P pt (Gl P s0 R R.length) j).op≠[])(h2:(steps P pt (Gl P s0 R R.length) N).op=[])(hL:L.Perm (steps P pt (Gl P s0 R R.length) N).seen):
 (steps P pt (Gl P s0 R R.length) N).bad=[]∧acw P pt R L:=by
 have hg:=(G.roots h R.length).steps h N h1
 have hok:=((ok0 P).Gl R R.length).steps (pt:=pt) N
 refine⟨hg.bad,(hL.nodup_iff).2 hok.nd,fun a ha=>hok.pl a (hL.mem_iff.1 ha),fun r hr=>?_,fun a ha y hy=>?_,fun B hB a ha=>?_⟩
 ·obtain⟨j,hj,e⟩:=DY.1 hr
  have:=acn P s0 R R.length (G.roots h R.length).bad j hj
  rw[Ba,Ar hj]at this
  rcases this with h3|h3
  ·exact .inl (by rw[←e];exact h3)
  ·refine .inr (hL.mem_iff.2 ?_)
   have:=acs P pt (Gl P s0 R R.length) 0 N r (by rw[←e];exact h3)
   rwa [DT]at this
 ·rcases Yr P pt (Gl P s0 R R.length) (abl P R R.length) N h1 hg.bad a (hL.mem_iff.1 ha) (by rw[h2];simp) y hy with h3|h3
  ·exact .inl h3
  ·exact .inr (hL.mem_iff.2 h3)
 ·exact((G.roots hB R.length).steps hB N h1).se a (hL.mem_iff.1 ha)
end Tr
end
section
section
open Go.RowKit
theorem gIn(x:Int)(b n c m d:Nat)(A B:Option Addr)(w:World)(hE:DW [blk b [.slice A n c,.slice B m d] 25] w)(hm:m≤9223372036854775807):
 Calls prog 99 [.int .i64 x,ptr b].toArray w fun e w'=>e= .returned (.bool (decide (-1≤x∧x<(m:Int))))∧Only [] w w':=by
 have HR:=Heap.start hE
 have H:=Heap.nil w
 by_cases h1: -1≤x
 ·by_cases h2:x<(m:Int)
  ·rw[decide_eq_true ⟨h1,h2⟩]
   refine BM 13 func99 O (qU ?_)
   refine Aw (sO ?_)
   refine AX 6 O (Df O O Y) (oJ ?_)
   exact⟨rfl,H.only⟩
  ·rw[decide_eq_false (fun h=>h2 h.2)]
   refine BM 13 func99 O (qU ?_)
   refine Aw (sO ?_)
   refine AX 6 O (CO O O Y) (oJ ?_)
   exact⟨rfl,H.only⟩
 ·rw[decide_eq_false (fun h=>h1 h.1)]
  refine BM 13 func99 O (qU ?_)
  refine Aw (uI ?_)
  refine Cc 6 O O (Cc 6 O O (Cc 6 O O (Cc 6 O O (Cc 6 O O (Dp O O (gZ ?_))))))
  exact⟨rfl,H.only⟩
end
end
section
section
open Go.RowKit
def QK(p1 p2 bs m:Nat)(A:Option Addr)(k:Nat)(seen:List Bool)(out:List Int):List Fp:=[blk p1 [.slice (some ⟨bs,0,none⟩) m m] 155,vec Value.bool bs seen 4,blk p2 [.slice A out.length k] 22,Dw 1 (.slice A out.length k) out.length (out.map (Value.int .i64)) 3]
theorem avi(c:Int)(p1 p2 bs m:Nat)(A:Option Addr)(k:Nat)(seen:List Bool)(out:List Int)(w:World)(hE:DW (QK p1 p2 bs m A k seen out) w)(hl:seen.length=m)(hc:c<(m:Int))(hm:m≤1000)(ho:out.length≤1000):
 Calls prog 245 [.int .i64 c,ptr p1,ptr p2].toArray w fun e w'=>e= .returned (.tuple #[])∧∃A' k',Heap w (ids (QK p1 p2 bs m A k seen out)) (QK p1 p2 bs m A' k' (if 0≤c then seen.set c.toNat true else seen) (if 0≤c∧seen.getD c.toNat true=false then out++ [c]else out)) w':=by
 have H:=Heap.start hE
 generalize ids (QK p1 p2 bs m A k seen out)=F at*
 unfold QK at H
 by_cases h0:0≤c
 ·obtain⟨i,rfl⟩:=Bo h0
  have hi:i<seen.length:=Y
  rw[if_pos h0,Bz]
  have hg:seen[i]? =some (seen.getD i true):=by simp[List.getD,Ar hi]
  cases hs:seen.getD i true with
  |true=>
   rw[hs]at hg
   have e1:seen.set i true=seen:=by
    have hq:seen[i]=true:=P7 ((Ar hi).symm.trans hg)
    rw[←hq]
    exact Vb hi
   rw[if_neg J,e1]
   refine o9 ?_
   refine AX 6 O (EM O) (ED O O (Au (DX O (Bj (fin0 O ?_)))))
   exact⟨rfl,A,k,H⟩
  |false=>
   rw[hs]at hg
   rw[if_pos ⟨h0,rfl⟩]
   refine o9 ?_
   refine AX 6 O (Jm O) (ED O O (ql ?_))
   refine BD H 0 O O O RJ (Az O (AL (FC (i:=i) O O Y Y underlying155 sz4) (adG (u:= .bool _) H 1 O O O O O Y (fun _=>rfl) sz4 ?_)))
   clear H;refine ayJ fun _ H=>?_
   refine Au (DR (BD H 2 O O O Fg (Az O (O7 (enc:=(Value.int .i64)) H 3 O O O O O O O Y underlying22 GI O ?_))))
   clear H;intro _ An cn _ H;simp only[Bv,Nat.reduceAdd]at H
   refine Ic (u:= .slice _ _ _) H 2 O O O O O O Lh ?_
   clear H;refine ayJ fun _ H=>?_
   refine AA (fin0 O ?_)
   refine⟨rfl,?_,?_,?_⟩
   rotate_left 2
   unfold QK
   rw[Cm]
   exact H
 ·rw[if_neg h0,if_neg (fun h=>h0 h.1)]
  refine BM 20 func245 O (Aw (uI ?_))
  refine Cc 6 O O (Cc 6 O O (Cc 6 O O (Cc 6 O O (Cc 6 O O (Dp O O (Au (DX O (Bj (fin0 O ?_)))))))))
  exact⟨rfl,A,k,H⟩
end
end
section
section
open Go.RowKit
structure FM where
 A:Option Addr
 n:Nat
 c:Nat
 ps:List Int
 B:Option Addr
 m:Nat
 d:Nat
 ds:List Int
def FM.cells(x:FM):List Value:=[.slice x.A x.n x.c,.slice x.B x.m x.d]
structure P9 (w:World) (F:List Nat) (x:FM):Prop where
 ps:Gm (Value.int .i64) w F x.A x.ps
 pl:x.ps.length=x.n
 ds:Gm (Value.int .u64) w F x.B x.ds
 dl:x.ds.length=x.m
 pb:∀p∈x.ps,-9223372036854775808≤p∧p≤9223372036854775807
 db:∀p∈x.ds,0≤p∧p≤18446744073709551615
 nb:x.n≤9223372036854775807
 mb:x.m≤9223372036854775807
def Oz(w:World)(F:List Nat)(A:Option Addr)(ns:List FM):Prop:=
 (ns.length≠0→∃b o,A=some ⟨b,o,none⟩∧b∉F∧∀i x,ns[i]? =some x→Reads (fun v:Value=>v) w b (o+i*2) x.cells)∧∀x∈ns,P9 w F x
structure NP where
 A:Option Addr
 n:Nat
 c:Nat
 rs:List Int
 B:Option Addr
 m:Nat
 d:Nat
 ns:List FM
def NP.cells(g:NP):List Value:=[.slice g.A g.n g.c,.slice g.B g.m g.d]
structure LP (w:World) (F:List Nat) (g:NP):Prop where
 rs:Gm (Value.int .i64) w F g.A g.rs
 rl:g.rs.length=g.n
 rb:∀p∈g.rs,-9223372036854775808≤p∧p≤9223372036854775807
 ns:Oz w F g.B g.ns
 nl:g.ns.length=g.m
 nb:g.n≤9223372036854775807
 mb:g.m≤9223372036854775807
theorem P9.later{w W:World}{F G:List Nat}{x:FM}(h:P9 w F x)(hO:Only G w W)(hG:∀i∈G,i∈F):P9 W F x:=
 ⟨h.ps.later hO hG,h.pl,h.ds.later hO hG,h.dl,h.pb,h.db,h.nb,h.mb⟩
theorem Oz.later{w W:World}{F G:List Nat}{A:Option Addr}{ns:List FM}(h:Oz w F A ns)(hO:Only G w W)(hG:∀i∈G,i∈F):Oz W F A ns:=
 ⟨fun h0=>by
  obtain⟨b,o,e,hb,hr⟩:=h.1 h0
  exact⟨b,o,e,hb,fun i x hi=>(hr i x hi).later hO (fun hm=>hb (hG b hm))⟩,fun x hx=>(h.2 x hx).later hO hG⟩
theorem LP.later{w W:World}{F G:List Nat}{g:NP}(h:LP w F g)(hO:Only G w W)(hG:∀i∈G,i∈F):LP W F g:=
 ⟨h.rs.later hO hG,h.rl,h.rb,h.ns.later hO hG,h.nl,h.nb,h.mb⟩
theorem Heap.one{w0 W:World}{F:List Nat}{L:List Fp}{E:Fp}(H:Heap w0 F L W)(k:Nat)(hk:L[k]? =some E):DW [E] W:=Heap.part (A:=[E]) (H.pick k hk)
def NP.nodes(g:NP):Gr.Nodes:=g.ns.map fun x=>(x.ps,x.ds)
end
end
section
section
open Go.RowKit
def okP(m:Nat)(p:Int):Prop:= -1≤p∧p<(m:Int)
instance (m:Nat) (p:Int):Decidable (okP m p):=by unfold okP;infer_instance
def okN(m:Nat)(x:FM):Prop:=x.n≤63∧x.m≤16384∧∀p∈x.ps,okP m p
instance (m:Nat) (x:FM):Decidable (okN m x):=by unfold okN;infer_instance
def Fh(g:NP):Bool:=decide ((∀r∈g.rs,okP g.m r)∧∀x∈g.ns,okN g.m x)
theorem ax9{b n c m d:Nat}{A B:Option Addr}(hm:m≤9223372036854775807)(x:Int){w:World}(hE:DW [blk b [.slice A n c,.slice B m d] 25] w):
 Calls prog 99 [.int .i64 x,ptr b].toArray w fun e w'=>e= .returned (.bool (decide (okP m x)))∧Only [] w w':=gIn x b n c m d A B w hE hm
theorem Yz(g:NP)(w:World)(hg:LP w [] g):
 Calls prog 30 [.agg g.cells.toArray].toArray w fun e w'=>e= .returned (.bool (Fh g))∧Only [] w w':=by
 have H:=Heap.nil w
 have hrs:=hg.rs
 have hrl:=hg.rl
 have hmb:=hg.mb
 have hnb:=hg.nb
 have hnl:=hg.nl
 have au4:∀r∈g.rs,¬okP g.m r→Fh g=false:=fun r hr hn=>decide_eq_false fun h=>hn (h.1 r hr)
 have ant:∀x∈g.ns,¬okN g.m x→Fh g=false:=fun r hr hn=>decide_eq_false fun h=>hn (h.2 r hr)
 have hgood:(∀j r,j<g.n→g.rs[j]? =some r→okP g.m r)→(∀j x,j<g.m→g.ns[j]? =some x→okN g.m x)→Fh g=true:=fun h1 h2=>decide_eq_true ⟨fun r hr=>by
  obtain⟨j,hj,rfl⟩:=DY.1 hr
  exact h1 j _ Y (Ar hj),fun r hr=>by
  obtain⟨j,hj,rfl⟩:=DY.1 hr
  exact h2 j _ Y (Ar hj)⟩
 have hI:=fun b x W hE=>ax9 (b:=b) (n:=g.n) (c:=g.c) (d:=g.d) (A:=g.A) (B:=g.B) hmb x (w:=W) hE
 unfold NP.cells
 refine BM 53 func30 O (Aw (DU H O O fun p1 _ H=>BN O (Au (pO ?_))))
 refine Au (AP (Aw (BR O IU (iQ ?_))))
 refine tV ?_
 refine Ec (fun z f W=>∃i:Nat,i≤g.n∧z=g.n-i∧(∀j r,j<i→g.rs[j]? =some r→okP g.m r)∧f 1=ptr p1∧f 3= .func (.func 99) #[] [ptr p1].toArray∧f 12= .slice g.A g.n g.c∧f 13= .int .i64 g.n∧f 14= .int .i64 i∧Heap w [] [blk p1 [.slice g.A g.n g.c,.slice g.B g.m g.d] 25] W) g.n ⟨0,Y,rfl,Y,rfl,rfl,rfl,rfl,rfl,H⟩ ?_
 clear H
 rintro z f W ⟨i,hi,rfl,hall,f1,f3,f12,f13,f14,H⟩
 by_cases hlt:i<g.n
 ·obtain⟨r,hr⟩:∃r,g.rs[i]? =some r:=⟨_,Ar Y⟩
  obtain⟨b,o,hA,_,hrd⟩:=hrs Y
  have hcell:=hrd i r hr
  rw[hA]at f12
  obtain⟨f,rfl⟩:=Lr f1 f3 f12 f13 f14
  clear f1 f3 f12 f13 f14
  have hIr:=hI p1 r
  by_cases hok:okP g.m r
  ·rw[decide_eq_true hok]at hIr
   refine gW ?_
   refine mF ?_
   rintro e W1 ⟨rfl,H'⟩
   refine⟨_,rfl,?_⟩
   have H:=H.same H';clear H'
   refine AL (EM O) (Au (nM ?_))
   refine⟨_,_,?_,rfl,i+1,Y,rfl,fun j q hj hq=>?_,rfl,rfl,by rw[hA];rfl,rfl,rfl,H⟩
   ·omega
   ·by_cases e:j=i
    ·subst e;rw[hr]at hq;injection hq with hq;subst hq;exact hok
    ·exact hall j q Y hq
  ·rw[decide_eq_false hok]at hIr
   rw[au4 r (A8 hr) hok]
   refine gW ?_
   refine mF ?_
   rintro e W1 ⟨rfl,H'⟩
   refine⟨_,rfl,?_⟩
   have H:=H.same H';clear H'
   refine AL (Jm O) (wG ?_)
   refine jo ?_
   exact⟨rfl,H.only⟩
 ·obtain rfl:i=g.n:=Y
  obtain⟨f,rfl⟩:=Ih f1 f3 f13 f14
  clear f1 f3 f12 f13 f14
  refine je ?_
  refine AP (Aw (jf ?_))
  refine tV ?_
  refine Ec (fun z f W=>∃i:Nat,i≤g.m∧z=g.m-i∧(∀j x,j<i→g.ns[j]? =some x→okN g.m x)∧f 3= .func (.func 99) #[] [ptr p1].toArray∧f 24= .slice g.B g.m g.d∧f 25= .int .i64 g.m∧f 26= .int .i64 i∧Heap w [] [blk p1 [.slice g.A g.n g.c,.slice g.B g.m g.d] 25] W) g.m ⟨0,Y,rfl,Y,rfl,rfl,rfl,rfl,H⟩ ?_
  clear H
  rintro z f W ⟨i,hi,rfl,aqw,f3,f24,f25,f26,H⟩
  by_cases hlt:i<g.m
  ·obtain⟨x,hx⟩:∃x,g.ns[i]? =some x:=⟨_,Ar Y⟩
   have hxm:=A8 hx
   obtain⟨b,o,hB,_,hrd⟩:=hg.ns.1 Y
   have hrx:=hrd i x hx
   have hxo:=hg.ns.2 x hxm
   have hxn:=hxo.nb
   have hxd:=hxo.mb
   have hpl:=hxo.pl
   rw[hB]at f24
   obtain⟨f,rfl⟩:=Ih f3 f24 f25 f26
   clear f3 f24 f25 f26
   unfold FM.cells at hrx
   by_cases h63:x.n≤63
   ·by_cases hd:x.m≤16384
    ·refine iO ?_
     refine Ea H O LV fun p7 _ H=>qH ?_
     clear H;refine ayJ fun _ H=>?_
     refine Au (AP (Aw (rP ?_)))
     refine AX 34 O (ER O O Y) (fE ?_)
     refine Aw (BR O Iz (iQ ?_))
     refine tV ?_
     have H:=H.drop
     refine Ec (fun z f W=>∃k:Nat,k≤x.n∧z=x.n-k∧(∀j p,j<k→x.ps[j]? =some p→okP g.m p)∧f 3= .func (.func 99) #[] [ptr p1].toArray∧f 24= .slice (some ⟨b,o,none⟩) g.m g.d∧f 25= .int .i64 g.m∧f 26= .int .i64 i∧f 41= .slice x.A x.n x.c∧f 42= .int .i64 x.n∧f 43= .int .i64 k∧Heap w [] [blk p1 [.slice g.A g.n g.c,.slice g.B g.m g.d] 25] W) x.n ⟨0,Y,rfl,Y,rfl,rfl,rfl,rfl,rfl,rfl,rfl,H⟩ ?_
     clear H
     rintro z f W ⟨k,hk,rfl,aqJ,f3,f24,f25,f26,f41,f42,f43,H⟩
     by_cases hkl:k<x.n
     ·obtain⟨q,hq⟩:∃q,x.ps[k]? =some q:=⟨_,Ar Y⟩
      obtain⟨b2,o2,hA2,_,YQ⟩:=hxo.ps Y
      have hcell:=YQ k q hq
      rw[hA2]at f41
      obtain⟨f,rfl⟩:=lv7 f3 f24 f25 f26 f41 f42 f43
      clear f3 f24 f25 f26 f41 f42 f43
      have hIr:=hI p1 q
      by_cases hok:okP g.m q
      ·rw[decide_eq_true hok]at hIr
       refine ak ?_
       refine AL (Gp (i:=k) O O Y Y underlying22 Kz) (mF ?_)
       rintro e W1 ⟨rfl,H'⟩
       refine⟨_,rfl,?_⟩
       have H:=H.same H';clear H'
       refine AL (EM O) (Au (nM ?_))
       refine⟨_,_,?_,rfl,k+1,Y,rfl,fun j p hj hp=>?_,rfl,rfl,rfl,rfl,by rw[hA2];rfl,rfl,rfl,H⟩
       ·omega
       ·by_cases e:j=k
        ·subst e;rw[hq]at hp;injection hp with hp;subst hp;exact hok
        ·exact aqJ j p Y hp
      ·rw[decide_eq_false hok]at hIr
       rw[ant x hxm (fun h=>hok (h.2.2 q (A8 hq)))]
       refine ak ?_
       refine AL (Gp (i:=k) O O Y Y underlying22 Kz) (mF ?_)
       rintro e W1 ⟨rfl,H'⟩
       refine⟨_,rfl,?_⟩
       have H:=H.same H';clear H'
       refine AL (Jm O) (wG ?_)
       refine Fe (CX (CX (Fe (jo ?_))))
       exact⟨rfl,H.only⟩
     ·obtain rfl:k=x.n:=Y
      obtain⟨f,rfl⟩:=lv7 f3 f24 f25 f26 f41 f42 f43
      clear f3 f24 f25 f26 f41 f42 f43
      refine aF ?_
      refine aC ?_
      refine⟨_,_,?_,rfl,i+1,Y,rfl,fun j y hj hy=>?_,rfl,by rw[hB];rfl,rfl,rfl,H⟩
      ·omega
      ·by_cases e:j=i
       ·subst e;rw[hx]at hy;injection hy with hy;subst hy
        refine⟨h63,hd,fun p hp=>?_⟩
        obtain⟨j,hj,rfl⟩:=DY.1 hp
        exact aqJ j _ Y (Ar hj)
       ·exact aqw j y Y hy
    ·rw[ant x hxm (fun h=>hd h.2.1)]
     refine iO ?_
     refine Ea H O LV fun p7 _ H=>qH ?_
     clear H;refine ayJ fun _ H=>?_
     refine Au (AP (Aw (rP ?_)))
     refine AX 34 O (Jl O O Y) (Dp O O (wG ?_))
     refine CX (jo ?_)
     exact⟨rfl,H.only⟩
   ·rw[ant x hxm (fun h=>h63 h.1)]
    refine iO ?_
    refine Ea H O LV fun p7 _ H=>qH ?_
    clear H;refine ayJ fun _ H=>?_
    refine Au (AP (Aw (BR O Iz (iQ ?_))))
    refine AL (Jl O O Y) (BL O (Cc 34 O O (Cc 34 O O (Cc 34 O O (Cc 34 O O (ED O O (wG ?_)))))))
    refine CX (jo ?_)
    exact⟨rfl,H.only⟩
  ·obtain rfl:i=g.m:=Y
   rw[hgood hall aqw]
   obtain⟨f,rfl⟩:=Ih f3 f24 f25 f26
   clear f3 f24 f25 f26
   refine uS ?_
   refine gZ ?_
   exact⟨rfl,H.only⟩
end
end
section
section
open Go.RowKit
structure Sm (g:NP):Prop where
 n:g.n≤1000
 m:g.m≤1000
 p:∀x∈g.ns,x.n≤1000∧x.m≤100000
def QS(m:Nat)(seen:List Bool)(out:List Int):Prop:=seen.length=m∧out.Nodup∧(∀x∈out,0≤x∧x<(m:Int))∧∀i:Nat,i<m→(seen.getD i true=true↔(i:Int)∈out)
theorem QS.len{m:Nat}{seen:List Bool}{out:List Int}(h:QS m seen out):out.length≤m:=Gr.QB m out h.2.1 h.2.2.1
theorem QS.zero(m:Nat):QS m (List.replicate m false) []:=⟨J,J,J,fun i hi=>by
 rw[List.getD,D7,if_pos hi];simp⟩
theorem QS.come{m:Nat}{seen:List Bool}{out:List Int}(h:QS m seen out)(c:Int)(hc:c<(m:Int)):
 (if 0≤c∧seen.getD c.toNat true=false then out++ [c]else out)=Gr.come out c∧QS m (if 0≤c then seen.set c.toNat true else seen) (Gr.come out c):=by
 obtain⟨h1,h2,h3,h4⟩:=h
 unfold Gr.come
 by_cases h0:0≤c
 ·obtain⟨i,rfl⟩:=Bo h0
  have hi:i<m:=Y
  have h5:=h4 i hi
  rw[Bz,if_pos h0]
  have hset:∀j:Nat,j<m→((seen.set i true).getD j true=true↔(j=i∨seen.getD j true=true)):=by
   intro j hj
   rw[List.getD,Ei]
   by_cases e:i=j
   ·subst e;rw[if_pos rfl,if_pos Y];simp
   ·rw[if_neg e]
    have:¬j=i:=fun h=>e h.symm
    simp[this,List.getD]
  cases hs:seen.getD i true with
  |true=>
   have hm:=h5.1 hs
   rw[if_neg J,if_pos (.inr hm)]
   refine⟨rfl,by simpa using h1,h2,h3,fun j hj=>?_⟩
   rw[hset j hj,h4 j hj]
   constructor
   ·rintro(rfl|h)
    ·exact hm
    ·exact h
   ·exact .inr
  |false=>
   have hm:¬(i:Int)∈out:=fun h=>by rw[h5.2 h]at hs;cases hs
   rw[if_pos ⟨h0,rfl⟩,if_neg (by rintro(h|h);omega;exact hm h)]
   refine⟨rfl,by simpa using h1,?_,?_,fun j hj=>?_⟩
   ·refine CS.2 ⟨h2,J,fun a ha b hb e=>?_⟩
    obtain rfl:=Bf.1 hb
    exact hm (e▸ha)
   ·intro x hx
    rcases BJ.1 hx with hx|hx
    ·exact h3 x hx
    ·rw[Bf.1 hx];omega
   ·rw[hset j hj,h4 j hj,BJ,Bf]
    constructor
    ·rintro(rfl|h)
     ·exact .inr rfl
     ·exact .inl h
    ·rintro(h|h)
     ·exact .inr h
     ·exact .inl Y
 ·rw[if_neg (fun h=>h0 h.1),if_neg h0,if_pos (.inl Y)]
  exact⟨rfl,h1,h2,h3,h4⟩
theorem foldl_snoc{α β:Type}(f:β→α→β)(b:β)(xs:List α)(i:Nat)(x:α)(h:xs[i]? =some x):(xs.take (i+1)).foldl f b=f ((xs.take i).foldl f b) x:=by
 rw[Fj,h,Jq];rfl
theorem Vk:∀(xs out:List Int),out.length≤(xs.foldl Gr.come out).length
 | [],_=>Bg _
 |x::xs,out=>F9 (Gr.agf out x) (Vk xs (Gr.come out x))
theorem Vw{g:NP}(h:Fh g=true):∀r∈g.rs,okP g.m r:=(of_decide_eq_true h).1
theorem Xg{g:NP}(h:Fh g=true):∀x∈g.ns,∀p∈x.ps,okP g.m p:=fun x hx=>((of_decide_eq_true h).2 x hx).2.2
theorem Vr{g:NP}{i:Nat}{x:FM}(h:g.ns[i]? =some x):Gr.ptr g.nodes (i:Int)=x.ps∧Gr.dat g.nodes (i:Int)=x.ds:=by
 rw[Gr.ael,Gr.agK]
 unfold NP.nodes
 rw[List.getD,BG,h];exact⟨rfl,rfl⟩
theorem arz(g:NP)(w:World)(hg:LP w [] g)(hr:Fh g=true)(hs:Sm g):
 Calls prog 191 [.agg g.cells.toArray].toArray w fun e w'=>∃A c out,e= .returned (.slice A out.length c)∧Gr.JO (Gr.ptr g.nodes) g.rs out∧Heap w [] [Dw 1 (.slice A out.length c) out.length (out.map (Value.int .i64)) 3] w':=by
 have H:=Heap.nil w
 have hrs:=hg.rs
 have hrl:=hg.rl
 have hnl:=hg.nl
 have hn:=hs.n
 have hm:=hs.m
 have hz:=QS.zero g.m
 have hC:=fun c {p1 p2 bs A k seen out} {W:World} hE hl hc ho=>avi c p1 p2 bs g.m A k seen out W hE hl hc hm ho
 unfold NP.cells
 refine BM 52 func191 O (Aw (DU H O O fun p1 _ H=>En O (Au (Aw (jf ?_)))))
 refine Jk Value.bool false (m:=g.m) H O O O Y Y Y underlying155 Nl O ?_
 intro bs _ H';clear H;have H:=H';clear H'
 refine aa5 H O ar9 O ?_
 intro p3 _ H';clear H;have H:=H';clear H'
 refine Ic (u:= .slice _ _ _) H 0 O O O O O O au8 ?_
 clear H;refine ayJ fun _ H=>?_
 refine Au (Aw (aa5 H O UU O ?_))
 intro p4 _ H';clear H;have H:=H';clear H'
 refine Au (pO ?_)
 refine Au (AP (Aw (BR O IU (BD H 3 O O O Fg (eU ?_)))))
 refine tV ?_
 replace H:=H.G6 1 3
 replace H:Heap w [] (QK p3 p4 bs g.m none 0 (List.replicate g.m false) []++ [blk p1 [.slice g.A g.n g.c,.slice g.B g.m g.d] 25]) _:=H.order [2,3,1,0,4] rfl rfl
 have key:=hz
 generalize List.replicate g.m false=ave at*
 refine Ec (fun z f W=>∃(i:Nat) (A:Option Addr) (k:Nat) (seen:List Bool) (out:List Int),i≤g.n∧z=g.n-i∧out=(g.rs.take i).foldl Gr.come []∧QS g.m seen out∧f 1=ptr p1∧f 4=ptr p4∧f 5= .func (.func 245) #[] [ptr p3,ptr p4].toArray∧f 17= .slice g.A g.n g.c∧f 18= .int .i64 g.n∧f 19= .int .i64 i∧Heap w [] (QK p3 p4 bs g.m A k seen out++ [blk p1 [.slice g.A g.n g.c,.slice g.B g.m g.d] 25]) W) g.n ⟨0,none,0,ave,[],Y,rfl,rfl,hz,rfl,rfl,rfl,rfl,rfl,rfl,H⟩ ?_
 clear H hz key
 rintro z f W ⟨i,A,k,seen,out,hi,rfl,hout,hso,f1,f4,f5,f17,f18,f19,H⟩
 have hlo:=hso.len
 by_cases hlt:i<g.n
 ·obtain⟨r,hrr⟩:∃r,g.rs[i]? =some r:=⟨_,Ar Y⟩
  obtain⟨b,o,hA,_,hrd⟩:=hrs Y
  have hcell:=hrd i r hrr
  have hok:=Vw hr r (A8 hrr)
  obtain⟨hcm,ajh⟩:=hso.come r hok.2
  rw[hA]at f17
  obtain⟨f,rfl⟩:=PX f1 f4 f5 f17 f18 f19
  clear f1 f4 f5 f17 f18 f19
  refine gW ?_
  refine xB ?_
  refine DR (AL (BP (v:= .func _ _ _) O) (Az O (MH O O O func245 Ak Ak (hC r (H.part (A:=QK p3 p4 bs g.m A k seen out)) hso.1 hok.2 Y) ?_)))
  rintro e W1 ⟨rfl,A',k',H'⟩
  refine⟨_,rfl,?_⟩
  have H:=H.step (A:=QK p3 p4 bs g.m A k seen out) (L:=[_]) H' (fun _ h=>h);clear H'
  refine vG ?_
  rw[hcm]at H
  refine⟨_,_,?_,rfl,i+1,A',k',_,_,Y,rfl,by rw[foldl_snoc _ _ _ _ _ hrr,←hout],ajh,rfl,rfl,rfl,by rw[hA];rfl,rfl,rfl,H⟩
  omega
 ·obtain rfl:i=g.n:=Y
  rw[←hrl,DL]at hout
  obtain⟨f,rfl⟩:=Lr f1 f4 f5 f18 f19
  clear f1 f4 f5 f17 f18 f19
  refine je ?_
  refine tC ?_
  refine Ec (fun z f W=>∃(i:Nat) (A:Option Addr) (k:Nat) (seen:List Bool) (out:List Int),i≤out.length∧z=g.m-i∧out=Gr.ord (Gr.ptr g.nodes) g.rs i∧QS g.m seen out∧f 1=ptr p1∧f 4=ptr p4∧f 5= .func (.func 245) #[] [ptr p3,ptr p4].toArray∧f 8= .int .i64 i∧Heap w [] (QK p3 p4 bs g.m A k seen out++ [blk p1 [.slice g.A g.n g.c,.slice g.B g.m g.d] 25]) W) g.m ⟨0,A,k,seen,out,Y,rfl,hout,hso,rfl,rfl,rfl,rfl,H⟩ ?_
  clear H hso hout hlo
  rintro z f W ⟨i,A,k,seen,out,hi,rfl,hout,hso,f1,f4,f5,f8,H⟩
  obtain⟨f,rfl⟩:=Ih f1 f4 f5 f8
  clear f1 f4 f5 f8
  have hlo:=hso.len
  unfold QK at H
  by_cases hlt:i<out.length
  ·obtain⟨y,hy⟩:∃y,out[i]? =some y:=⟨_,Ar hlt⟩
   have hyb:=hso.2.2.1 y (A8 hy)
   obtain⟨x',rfl⟩:=Bo hyb.1
   obtain⟨x,hx⟩:∃x,g.ns[x']? =some x:=⟨_,Ar Y⟩
   have hxm:=A8 hx
   obtain⟨b,o,hB,_,hrd⟩:=hg.ns.1 Y
   have hc0:=hrd x' x hx 0 _ rfl
   have hxo:=hg.ns.2 x hxm
   have hxn:=(hs.p x hxm).1
   have hpl:=hxo.pl
   obtain⟨pa,rfl⟩:=H.JC 3 rfl Y
   rw[hB]at H
   refine fJ ?_
   refine BD H 2 O O O Fg (eU ?_)
   refine eX ?_
   refine rG ?_
   refine BK (fun _ H=>CB O Gg) (BK (fun _ H=>Ef H 4 O O O Lm) (BK (fun _ H=>Ef H 2 O O O Fg) (eG ?_)))
   refine BK (fun _ H=>FC (i:=i) O O Y Y underlying22 Kz) (BK (fun _ H=>L9 H 3 O O hy GU) (BK (fun _ H=>JY (i:=x') O O Y Y underlying23 JR) (BK (fun _ H=>JV O Iz) (BK (fun _ H=>Hq H O hc0 J Fg) (xG ?_)))))
   refine eG ?_
   refine H8 ?_
   clear H;intro _ H
   refine AO (E8 ?_)
   rw[←hB]at H
   have hord:Gr.ord (Gr.ptr g.nodes) g.rs (i+1)=x.ps.foldl Gr.come out:=by
    rw[Gr.ord,←hout,hy]
    show(Gr.ptr g.nodes (x':Int)).foldl Gr.come out=_
    rw[(Vr hx).1]
   refine Ec (fun z f W=>∃(j:Nat) (A:Option Addr) (k:Nat) (seen:List Bool) (out':List Int),j≤x.n∧z=x.n-j∧out'=(x.ps.take j).foldl Gr.come out∧QS g.m seen out'∧f 1=ptr p1∧f 4=ptr p4∧f 5= .func (.func 245) #[] [ptr p3,ptr p4].toArray∧f 8= .int .i64 i∧f 41= .slice x.A x.n x.c∧f 42= .int .i64 x.n∧f 43= .int .i64 j∧Heap w [] (QK p3 p4 bs g.m A k seen out'++ [blk p1 [.slice g.A g.n g.c,.slice g.B g.m g.d] 25]) W) x.n ⟨0,_,k,seen,out,Y,rfl,rfl,hso,rfl,rfl,rfl,rfl,rfl,rfl,rfl,H⟩ ?_
   clear H
   rintro z f W ⟨j,A,k,seen,out',hj,rfl,Me,ajh,f1,f4,f5,f8,f41,f42,f43,H⟩
   have avf:=ajh.len
   by_cases hlj:j<x.n
   ·obtain⟨q,hq⟩:∃q,x.ps[j]? =some q:=⟨_,Ar Y⟩
    obtain⟨b2,o2,hA2,_,YQ⟩:=hxo.ps Y
    have hcell:=YQ j q hq
    have hok:=Xg hr x hxm q (A8 hq)
    obtain⟨hcm,awY⟩:=ajh.come q hok.2
    rw[hA2]at f41
    obtain⟨f,rfl⟩:=lv7 f1 f4 f5 f8 f41 f42 f43
    clear f1 f4 f5 f8 f41 f42 f43
    refine ak ?_
    refine AL (Gp (i:=j) O O Y Y underlying22 Kz) (xB ?_)
    refine DR (AL (BP (v:= .func _ _ _) O) (Az O (MH O O O func245 Ak Ak (hC q (H.part (A:=QK p3 p4 bs g.m A k seen out')) ajh.1 hok.2 Y) ?_)))
    rintro e W1 ⟨rfl,A',k',H'⟩
    refine⟨_,rfl,?_⟩
    have H:=H.step (A:=QK p3 p4 bs g.m A k seen out') (L:=[_]) H' (fun _ h=>h);clear H'
    refine vG ?_
    rw[hcm]at H
    refine⟨_,_,?_,rfl,j+1,A',k',_,_,Y,rfl,by rw[foldl_snoc _ _ _ _ _ hq,←Me],awY,rfl,rfl,rfl,rfl,by rw[hA2];rfl,rfl,rfl,H⟩
    omega
   ·obtain rfl:j=x.n:=Y
    rw[←hpl,DL]at Me
    have hll:=Vk x.ps out
    obtain⟨f,rfl⟩:=lv7 f1 f4 f5 f8 f41 f42 f43
    clear f1 f4 f5 f8 f41 f42 f43
    by_cases hgr:i+1≤out'.length
    ·refine aF ?_
     refine jy ?_
     refine⟨_,_,?_,rfl,i+1,A,k,seen,out',hgr,rfl,by rw[hord];exact Me,ajh,rfl,rfl,rfl,rfl,H⟩
     omega
    ·exfalso
     rw[Me]at hgr;omega
  ·have hio:i=out.length:=Y
   refine fJ ?_
   refine BD H 2 O O O Fg (eU ?_)
   refine kH ?_
   refine Aw (BD H 2 O O O Fg (oZ ?_))
   refine⟨A,k,out,rfl,?_,(H.order [3,0,1,2,4] O O:Heap w [] ([_]++ [_,_,_,_]) _).drops⟩
   have:=Gr.aeL (Gr.ptr g.nodes) g.rs i (by rw[←hout];exact hio.symm)
   rw[←hout]at this
   exact this
end
end
section
section
open Go.RowKit
theorem aoW(A:Option Addr)(n c:Nat)(xs:List Int)(w:World)(hS:Gm (Value.int .u64) w [] A xs)(hl:xs.length=n)(hn:n≤100000):
 Calls prog 84 [.slice A n c].toArray w fun e w'=>∃A' c',e= .returned (.slice A' n c')∧Heap w [] [Dw 1 (.slice A' n c') n (xs.map (Value.int .u64)) 26] w':=by
 have H:=Heap.nil w
 cases A with
 |none=>
  have h0:xs=[]:=by
   refine BZ (II fun h=>?_)
   obtain⟨b,o,e,_⟩:=hS h;cases e
  subst h0
  obtain rfl:n=0:=hl.symm
  refine BM 8 func84 O (Aw (En O (Au (AP (Aw (CY O (AL (afg O O underlying55) (ql ?_))))))))
  refine En O (Au (BH (CX (iK ?_))))
  exact⟨none,0,rfl,H.G6 1 _⟩
 |some a=>
  refine wL ?_
  intro _ _ H';clear H;have H:=H';clear H'
  refine CY O (agQ (enc:=(Value.int .u64)) (xs:=[]) H 0 O O O O (hS) (hl) (fun _=>rfl) Y underlying55 Ig O ?_)
  clear H;intro A1 c1 W1 hA1 H;simp only[Bv,Nat.reduceAdd]at H
  refine oZ ?_
  rw[DT]at H
  exact⟨A1,c1,by rw[DT],H⟩
theorem gTo(p nb m:Nat)(num:List Int)(x:Int)(w:World)(hE:DW [blk p [.slice (some ⟨nb,0,none⟩) m m] 22,vec (Value.int .i64) nb num 3] w)(hl:num.length=m)(hx:x<(m:Int)):
 Calls prog 192 [.int .i64 x,ptr p].toArray w fun e w'=>e= .returned (.int .i64 (if x<0 then-1 else num.getD x.toNat 0))∧Only [] w w':=by
 have HR:=Heap.start hE
 have H:=Heap.nil w
 by_cases h0:x<0
 ·rw[if_pos h0]
  refine BM 10 func192 O (Aw (jk ?_))
  refine AL (Df O O Y) (fV ?_)
  exact⟨rfl,H.only⟩
 ·rw[if_neg h0]
  obtain⟨i,rfl⟩:=Bo (Int.not_lt.1 h0)
  have hget:num[i]? =some (num.getD i 0):=by rw[List.getD,Ar Y];rfl
  rw[Bz]
  refine BM 10 func192 O (Aw (jk ?_))
  refine AL (CO O O Y) (dX ?_)
  refine Aw (BD (HR.same H.only) 0 O O O Fg (Az O (xq ?_)))
  refine AL (Nq (HR.same H.only) 1 O O hget GU) (fH ?_)
  exact⟨rfl,H.only⟩
theorem aeP(g:NP)(w:World)(hg:LP w [] g)(hb:Fh g=false):
 Calls prog 125 [.agg g.cells.toArray].toArray w fun e w'=>e= .returned (.tuple [.agg [.slice none 0 0,.slice none 0 0].toArray,.int .i64 26].toArray)∧Only [] w w':=by
 have H:=Heap.nil w
 have hR:=fun W (h:Only [] w W)=>Yz g W (hg.later h J)
 rw[hb]at hR
 unfold NP.cells at*
 refine BM 98 func125 O (Aw (DU H O O fun p1 _ H=>Ea H O O6 fun p2 _ H=>qw ?_))
 refine Aw (Dn H 1 O O O MO Jg (BI H O (hR _ H.only) (ajF O) fun W1 H=>AL (Jm O) (ql ?_)))
 refine AL (FP (awQ) O) (qG ?_)
 clear H;refine ayJ fun _ H=>?_
 refine oL ?_
 refine NJ O (IG H 0 O O O MO Jg) (Jp (v:= .int _ _) O) ?_
 exact⟨rfl,H.only⟩
end
end
section
section
open Go.RowKit
def J4(x:FM):Fp:=grp [Dw 1 (.slice x.A x.n x.c) x.n (x.ps.map (Value.int .i64)) 3,Dw 1 (.slice x.B x.m x.d) x.m (x.ds.map (Value.int .u64)) 26]
def ML(ns:List FM):List C1:=ns.flatMap fun x=> [C1.s x.A x.n x.c,C1.s x.B x.m x.d]
theorem Xx(ns:List FM)(x:FM):ML (ns++ [x])=ML ns++ [C1.s x.A x.n x.c,C1.s x.B x.m x.d]:=by simp[ML]
theorem acr(ns:List FM):(ML ns).length=ns.length*2:=by
 induction ns with
 |nil=>rfl
 |cons x l ih=>simp[ML]at ih⊢;omega
theorem adw:∀(ns:List FM) (i:Nat) (x:FM),ns[i]? =some x→(ML ns)[i*2]? =some (C1.s x.A x.n x.c)∧(ML ns)[i*2+1]? =some (C1.s x.B x.m x.d)
 | [],i,x,h=>by simp at h
 |y::l,0,x,h=>by
  obtain rfl:y=x:=by simpa using h
  exact⟨rfl,rfl⟩
 |y::l,i+1,x,h=>by
  have:=adw l i x zS
  rw[show(i+1)*2=i*2+2 by omega]
  exact this
theorem Heap.wrap{w0 W:World}{F:List Nat}{A L:List Fp}(H:Heap w0 F (A++L) W):Heap w0 F (grp A::L) W:=by
 have e:ids (grp A::L)=ids (A++L):=by rw[EW,F8];rfl
 refine⟨fun E hE=>?_,by rw[e];exact H.nd,by rw[e];exact H.own,H.only⟩
 rcases Dq.1 hE with rfl|hE
 ·exact H.part
 ·exact H.ok E (C9 _ hE)
theorem aoQ{w W:World}{F:List Nat}{L:List Fp}{RA NA:Option Addr}{cR cN:Nat}{rs:List Int}{ns:List FM}{T:TypeId}(H:Heap w F (Dw 1 (.slice RA rs.length cR) rs.length (rs.map (Value.int .i64)) 3::Dw 2 (.slice NA ns.length cN) ns.length ((ML ns).map C1.v) T::grp (ns.map J4)::L) W)
 (hr:rs.length≤100000) (hn:ns.length≤100000) (hrb:∀p∈rs,-9223372036854775808≤p∧p≤9223372036854775807) (hx:∀x∈ns,x.n≤100000∧x.m≤100000∧(∀p∈x.ps,-9223372036854775808≤p∧p≤9223372036854775807)∧∀p∈x.ds,0≤p∧p≤18446744073709551615):
 LP W [] ⟨RA,rs.length,cR,rs,NA,ns.length,cN,ns⟩:=by
 refine⟨H.KJ 0 O,rfl,hrb,⟨fun h0=>?_,fun x hxm=>?_⟩,rfl,by show rs.length≤_;omega,by show ns.length≤_;omega⟩
 ·have h0':ns.length≠0:=h0
  obtain⟨b,e,_,hr⟩:=H.LZ 1 rfl (by rw[acr];omega)
  refine⟨b,0,e,J,fun i x hi j u hj=>?_⟩
  obtain⟨g1,g2⟩:=adw ns i x hi
  have hj2:j<2:=by have:=(BA.1 hj).1;exact this
  rw[show 0+i*2+j=0+(i*2+j)by omega]
  match j,hj2,hj with
  |0,_,hj=>exact(hr _ _ g1).trans (by simpa [FM.cells,C1.v]using hj)
  |1,_,hj=>exact(hr _ _ g2).trans (by simpa [FM.cells,C1.v]using hj)
 ·have hE:=H.Bl 2 rfl
  have h1:=hE.1 (J4 x) (BX.2 ⟨x,hxm,rfl⟩)
  have h2:DW [Dw 1 (.slice x.A x.n x.c) x.n (x.ps.map (Value.int .i64)) 3,Dw 1 (.slice x.B x.m x.d) x.m (x.ds.map (Value.int .u64)) 26] W:=h1
  have H2:=Heap.start h2
  obtain⟨b1,b2,b3,b4⟩:=hx x hxm
  refine⟨H2.KJ 0 O,?_,H2.KJ 1 O,?_,b3,b4,Y,Y⟩
  ·have:=(H2.IK 0 rfl).1;simpa using this
  ·have:=(H2.IK 1 rfl).1;simpa using this
theorem afM{w W:World}{F:List Nat}{L:List Fp}{RA NA:Option Addr}{n m cR cN:Nat}{rs:List Int}{ns:List FM}{T:TypeId}(hrl:rs.length=n)(hnl:ns.length=m)(H:Heap w F (Dw 1 (.slice RA n cR) n (rs.map (Value.int .i64)) 3::Dw 2 (.slice NA m cN) m ((ML ns).map C1.v) T::grp (ns.map J4)::L) W)
 (hr:n≤100000) (hn:m≤100000) (hrb:∀p∈rs,-9223372036854775808≤p∧p≤9223372036854775807) (hx:∀x∈ns,x.n≤100000∧x.m≤100000∧(∀p∈x.ps,-9223372036854775808≤p∧p≤9223372036854775807)∧∀p∈x.ds,0≤p∧p≤18446744073709551615):
 LP W [] ⟨RA,n,cR,rs,NA,m,cN,ns⟩:=by
 subst hrl;subst hnl
 exact aoQ H hr hn hrb hx
def aaE(m:Nat)(num:List Int)(out:List Int)(i:Nat):Prop:=num.length=m∧∀(j:Nat) (y:Int),j<i→out[j]? =some y→num.getD y.toNat 0=(j:Int)
theorem aaE.step{m:Nat}{num:List Int}{out:List Int}{i:Nat}{y:Nat}(h:aaE m num out i)(hd:out.Nodup)(hp:∀x∈out,0≤x)(hy:out[i]? =some (y:Int))(hm:y<m):aaE m (num.set y (i:Int)) out (i+1):=by
 refine⟨by simpa using h.1,fun j z hj hz=>?_⟩
 have hzm:=A8 hz
 obtain⟨z',rfl⟩:=Bo (hp z hzm)
 rw[Bz,List.getD,Ei]
 by_cases e:y=z'
 ·subst e
  rw[if_pos rfl,if_pos (by rw[h.1];exact hm)]
  have hij:i=j:=by
   obtain⟨hi1,hi2⟩:=BA.1 hy
   obtain⟨hj1,hj2⟩:=BA.1 hz
   have q1:=Gr.SG out i hi1 hd
   have q2:=Gr.SG out j hj1 hd
   rw[hi2]at q1
   rw[hj2]at q2
   omega
  simp[hij]
 ·rw[if_neg e]
  have hji:j<i:=by
   rcases Ie j i with h1|h1
   ·exact h1
   ·obtain rfl:j=i:=Y
    rw[hy]at hz;injection hz with hz;omega
  have:=h.2 j _ hji hz
  rw[Bz]at this
  exact this
theorem aaE.J3{m:Nat}{num:List Int}{out:List Int}(h:aaE m num out out.length)(hd:out.Nodup)(hp:∀x∈out,0≤x)(x:Int)(hx:0≤x→x∈out):(if x<0 then-1 else num.getD x.toNat 0)=Gr.J3 out x:=by
 by_cases h0:x<0
 ·rw[if_pos h0,Gr.Xo]
  intro hm;have:=hp x hm;omega
 ·rw[if_neg h0]
  obtain⟨i,hi,hx2,hf⟩:=Gr.Ui out x hd (hx Y)
  rw[hf,h.2 i x hi hx2]
end
end
section
section
open Go.RowKit
theorem take_snoc{α β:Type}(f:α→β)(xs:List α)(i:Nat)(x:α)(h:xs[i]? =some x):(xs.take (i+1)).map f=(xs.take i).map f++ [f x]:=by
 rw[Fj,h,BU];rfl
def avd(g:NP)(out:List Int)(y:Int):List Int×List Int:=((Gr.ptr g.nodes y).map (Gr.J3 out),Gr.dat g.nodes y)
theorem aeI(g:NP)(w:World)(hg:LP w [] g)(hb:Fh g=true)(hs:Sm g):
 Calls prog 125 [.agg g.cells.toArray].toArray w fun e w'=>(∃g' out,e= .returned (.tuple [.agg g'.cells.toArray,.int .i64 0].toArray)∧LP w' [] g'∧Gr.JO (Gr.ptr g.nodes) g.rs out∧g'.rs=Gr.abS g.rs out∧g'.nodes=Gr.Vf g.nodes out∧g'.n=g.n∧g'.m=out.length∧out.length≤g.m∧∀x∈g'.ns,x.n≤1000∧x.m≤100000)∧Only [] w w':=by
 have H:=Heap.nil w
 have hR:=fun W (h:Only [] w W)=>Yz g W (hg.later h J)
 rw[hb]at hR
 have hO:=fun W (h:Only [] w W)=>arz g W (hg.later h J) hb hs
 have hrs:=hg.rs
 have hrl:=hg.rl
 have hnl:=hg.nl
 have hn:=hs.n
 have hm:=hs.m
 unfold NP.cells at*
 refine BM 98 func125 O (Aw (DU H O O fun p1 _ H=>Ea H O O6 fun p2 _ H=>qw ?_))
 refine Aw (Dn H 1 O O O MO Jg (BI H O (hR _ H.only) (ajF O) fun W1 H=>gK ?_))
 refine Aw (Dn H 1 O O O MO Jg (s_call O (hO _ H.only) (auj O) ?_))
 rintro e W1 ⟨A,c,out,rfl,ho,H'⟩
 refine⟨_,rfl,?_⟩
 have H:=H.more H';clear H'
 refine En O (Au (Aw (BR O Gg (BD H 2 O O O Lm (Di O underlying23 (Jk (Value.int .i64) 0 (m:=g.m) H O O O Y Y Y underlying22 GI O ?_))))))
 intro nb _ H';clear H;have H:=H';clear H'
 refine aa5 H O UU O ?_
 intro p5 _ H';clear H;have H:=H';clear H'
 refine wB ?_
 clear H;refine ayJ fun _ H=>?_
 refine Au (uj ?_)
 have hod:=ho.nodup
 have hop:=ho.pos
 have hrt:Gr.Rt g.rs g.nodes:=⟨fun r hr=>by
  have:=Vw hb r hr
  unfold okP at this
  have e:g.nodes.length=g.m:=by simp[NP.nodes,hnl]
  rw[e];exact this,fun x hx p hp=>by
  unfold NP.nodes at hx
  obtain⟨y,hy,rfl⟩:=BX.1 hx
  have:=Xg hb y hy p hp
  unfold okP at this
  have e:g.nodes.length=g.m:=by simp[NP.nodes,hnl]
  rw[e];exact this⟩
 have hob:∀x∈out,0≤x∧x<(g.m:Int):=fun x hx=>by
  have:=hrt.ord ho x hx
  have e:g.nodes.length=g.m:=by simp[NP.nodes,hnl]
  rw[e]at this;exact this
 have hol:out.length≤g.m:=Gr.QB g.m out hod hob
 have hz:aaE g.m (List.replicate g.m 0) out 0:=⟨J,fun j y h=>Y⟩
 generalize List.replicate g.m (0:Int)=ayc at*
 refine Ec (fun z f W=>∃(i:Nat) (num:List Int),i≤out.length∧z=out.length-i∧aaE g.m num out i∧f 1=ptr p1∧f 2=ptr p2∧f 4= .slice A out.length c∧f 5=ptr p5∧f 27= .slice A out.length c∧f 28= .int .i64 out.length∧f 29= .int .i64 i∧Heap w [] [blk p5 [.slice (some ⟨nb,0,none⟩) g.m g.m] 22,vec (Value.int .i64) nb num 3,Dw 1 (.slice A out.length c) out.length (out.map (Value.int .i64)) 3,blk p2 [.slice none 0 0,.slice none 0 0] 25,blk p1 [.slice g.A g.n g.c,.slice g.B g.m g.d] 25] W) out.length ⟨0,ayc,Y,rfl,hz,rfl,rfl,rfl,rfl,rfl,rfl,rfl,H⟩ ?_
 clear H hz
 rintro z f W ⟨i,num,hi,rfl,hnum,f1,f2,f4,f5,f27,f28,f29,H⟩
 have auy:=hnum.1
 by_cases hlt:i<out.length
 ·obtain⟨y,hy⟩:∃y,out[i]? =some y:=⟨_,Ar hlt⟩
  have hyb:=hob y (A8 hy)
  obtain⟨y',rfl⟩:=Bo hyb.1
  have hstep:=hnum.step hod hop hy Y
  obtain⟨pa,rfl⟩:=H.JC 2 rfl Y
  obtain⟨f,rfl⟩:=lv7 f1 f2 f4 f5 f27 f28 f29
  clear f1 f2 f4 f5 f27 f28 f29
  refine lW ?_
  refine xq ?_
  refine AL (L9 H 2 O O hy GU) (AQ O (AQ O (Au (DR (BD H 0 O O O Fg (Az O (Az O (AL (FC (i:=y') O O Y Y underlying22 Kz) (adG (u:= .int _ _) H 1 O O O O O Y (fun _=>rfl) Kz ?_)))))))))
  clear H;refine ayJ fun _ H=>?_
  refine vG ?_
  refine⟨_,_,?_,rfl,i+1,_,Y,rfl,hstep,rfl,rfl,rfl,rfl,rfl,rfl,rfl,H⟩
  omega
 ·obtain rfl:i=out.length:=Y
  have hto:=fun x hx=>hnum.J3 hod hop x hx
  obtain⟨f,rfl⟩:=lv7 f1 f2 f4 f5 f27 f28 f29
  clear f1 f2 f4 f5 f27 f28 f29
  refine je ?_
  refine pO ?_
  refine Au (Aw (Ea H O O6 fun p9 _ H=>Au (AP (Aw (BR O IU (BD H 5 O O O Fg (eU ?_)))))))
  refine tV ?_
  replace H:=H.G6 1 3
  replace H:=H.order [1,0,2,3,4,5,6] rfl rfl
  refine Ec (fun z f W=>∃(i:Nat) (RA:Option Addr) (cR:Nat),i≤g.n∧z=g.n-i∧f 1=ptr p1∧f 2=ptr p2∧f 4= .slice A out.length c∧f 8= .func (.func 192) #[] [ptr p5].toArray∧f 9=ptr p9∧f 41= .slice g.A g.n g.c∧f 42= .int .i64 g.n∧f 43= .int .i64 i∧Heap w [] [blk p9 [.slice RA i cR,.slice none 0 0] 25,Dw 1 (.slice RA i cR) i (((g.rs.take i).map (Gr.J3 out)).map (Value.int .i64)) 3,blk p5 [.slice (some ⟨nb,0,none⟩) g.m g.m] 22,vec (Value.int .i64) nb num 3,Dw 1 (.slice A out.length c) out.length (out.map (Value.int .i64)) 3,blk p2 [.slice none 0 0,.slice none 0 0] 25,blk p1 [.slice g.A g.n g.c,.slice g.B g.m g.d] 25] W) g.n ⟨0,none,0,Y,rfl,rfl,rfl,rfl,rfl,rfl,rfl,rfl,rfl,H⟩ ?_
  clear H
  rintro z f W ⟨i,RA,cR,hi,rfl,f1,f2,f4,f8,f9,f41,f42,f43,H⟩
  by_cases hlt:i<g.n
  ·obtain⟨r,hrr⟩:∃r,g.rs[i]? =some r:=⟨_,Ar Y⟩
   obtain⟨b,o,hA,_,hrd⟩:=hrs Y
   have hcell:=hrd i r hrr
   have hrm:=A8 hrr
   have hok:=Vw hb r hrm
   have hT:=fun{W:World} hE=>gTo p5 nb g.m num r W hE auy hok.2
   rw[hto r (fun h=>ho.from r hrm h)]at hT
   rw[hA]at f41
   obtain⟨f,rfl⟩:=lv8 f1 f2 f4 f8 f9 f41 f42 f43
   clear f1 f2 f4 f8 f9 f41 f42 f43
   refine gW ?_
   refine xB ?_
   refine Gu mixed ?_;replace H:=H.drew
   refine Eo 0 O O O (fun _ hS=>CB O IU) trivial (lF ?_)
   refine D6 1 4 ?_ ?_
   ·refine lG ?_
    refine kL ?_
    refine wY ?_
    rintro e W1 ⟨rfl,H'⟩
    refine⟨_,rfl,?_⟩
    have H:=H.same H';clear H'
    refine iE ?_
    refine pG ?_
    intro _ _ H';clear H;have H:=H';clear H'
    refine aH ?_
    clear H;intro RA' cR' _ H;simp only[Bv,Nat.reduceAdd]at H
    refine fZ ?_
    clear H;refine ayJ fun _ H=>?_
    refine jm ?_
    refine⟨_,_,?_,rfl,i+1,RA',cR',Y,rfl,rfl,rfl,rfl,rfl,rfl,by rw[hA];rfl,rfl,rfl,by rw[take_snoc _ _ _ _ hrr];exact H⟩
    omega
   ·refine BO O (wY ?_)
    rintro e W1 ⟨rfl,H'⟩
    refine⟨_,rfl,?_⟩
    have H:=H.same H';clear H'
    refine aj ?_
    refine D6 1 5 ?_ ?_
    ·refine lG ?_
     refine iE ?_
     refine pG ?_
     intro _ _ H';clear H;have H:=H';clear H'
     refine aH ?_
     clear H;intro RA' cR' _ H;simp only[Bv,Nat.reduceAdd]at H
     refine fZ ?_
     clear H;refine ayJ fun _ H=>?_
     refine jm ?_
     refine⟨_,_,?_,rfl,i+1,RA',cR',Y,rfl,rfl,rfl,rfl,rfl,rfl,by rw[hA];rfl,rfl,rfl,by rw[take_snoc _ _ _ _ hrr];exact H⟩
     omega
    ·refine BO O (pG ?_)
     intro _ _ H';clear H;have H:=H';clear H'
     refine nS ?_
     clear H;intro RA' cR' _ H;simp only[Bv,Nat.reduceAdd]at H
     refine fZ ?_
     clear H;refine ayJ fun _ H=>?_
     refine jm ?_
     refine⟨_,_,?_,rfl,i+1,RA',cR',Y,rfl,rfl,rfl,rfl,rfl,rfl,by rw[hA];rfl,rfl,rfl,by rw[take_snoc _ _ _ _ hrr];exact H⟩
     omega
  ·obtain rfl:i=g.n:=Y
   obtain⟨f,rfl⟩:=lv7 f1 f2 f4 f8 f9 f42 f43
   clear f1 f2 f4 f8 f9 f41 f42 f43
   refine je ?_
   refine uj ?_
   have etk:g.rs.take g.n=g.rs:=by rw[←hrl];exact DL
   rw[etk]at H
   replace H:=(H.G6 2 77).aag
   replace H:=H.order [2,1,0,3,4,5,6,7,8] rfl rfl
   refine Ec (fun z f W=>∃(i:Nat) (NA:Option Addr) (cN:Nat) (ns:List FM),i≤out.length∧z=out.length-i∧ns.length=i∧ns.map (fun x=>(x.ps,x.ds))=(out.take i).map (avd g out)∧(∀x∈ns,x.n≤1000∧x.m≤100000)∧f 1=ptr p1∧f 2=ptr p2∧f 8= .func (.func 192) #[] [ptr p5].toArray∧f 9=ptr p9∧f 56= .slice A out.length c∧f 57= .int .i64 out.length∧f 58= .int .i64 i∧
    Heap w [] [blk p9 [.slice RA g.n cR,.slice NA i cN] 25,Dw 2 (.slice NA i cN) i ((ML ns).map C1.v) 77,grp (ns.map J4),Dw 1 (.slice RA g.n cR) g.n ((g.rs.map (Gr.J3 out)).map (Value.int .i64)) 3,blk p5 [.slice (some ⟨nb,0,none⟩) g.m g.m] 22,vec (Value.int .i64) nb num 3,Dw 1 (.slice A out.length c) out.length (out.map (Value.int .i64)) 3,blk p2 [.slice none 0 0,.slice none 0 0] 25,blk p1 [.slice g.A g.n g.c,.slice g.B g.m g.d] 25] W) out.length ⟨0,none,0,[],Y,rfl,rfl,rfl,J,rfl,rfl,rfl,rfl,rfl,rfl,rfl,H⟩ ?_
   clear H
   rintro z f W ⟨i,NA,cN,ns,hi,rfl,afR,YM,aa4,f1,f2,f8,f9,f56,f57,f58,H⟩
   by_cases hlt:i<out.length
   ·obtain⟨y,hy⟩:∃y,out[i]? =some y:=⟨_,Ar hlt⟩
    have hym:=A8 hy
    have hyb:=hob y hym
    obtain⟨x',rfl⟩:=Bo hyb.1
    obtain⟨x,hx⟩:∃x,g.ns[x']? =some x:=⟨_,Ar Y⟩
    have hxm:=A8 hx
    obtain⟨b,o,hB,_,hrd⟩:=hg.ns.1 Y
    have hc0:=hrd x' x hx 0 _ rfl
    have hc1:=hrd x' x hx 1 _ rfl
    have hxo:=hg.ns.2 x hxm
    have hxn:=(hs.p x hxm).1
    have hxd:=(hs.p x hxm).2
    have hpl:=hxo.pl
    have hCl:=fun W (h:Only [] w W)=>aoW x.B x.m x.d x.ds W (hxo.ds.later h J) hxo.dl hxd
    obtain⟨pa,hpa⟩:=H.JC 6 rfl Y
    rw[hpa]at H f56
    rw[hB]at H
    obtain⟨f,rfl⟩:=lv7 f1 f2 f8 f9 f56 f57 f58
    clear f1 f2 f8 f9 f56 f57 f58
    refine ak ?_
    refine xq ?_
    refine AL (L9 H 6 O O hy GU) (nG ?_)
    refine BR O Gg (BD H 8 O O O Lm (Az O (AL (JY (i:=x') O O Y Y underlying23 JR) (AL (JV O Nc) (AL (Hq H O hc1 J JE) (s_call O (hCl _ H.only) (U0 O) ?_))))))
    rintro e W1 ⟨DB,dD,rfl,H'⟩
    refine⟨_,rfl,?_⟩
    have H:=H.more H';clear H'
    refine AL (FP (ar0 _ _ _) O) (Ea H O LV fun Zf _ H=>qH ?_)
    clear H;refine ayJ fun _ H=>?_
    refine Au (AP (Aw (BR O Gg (BD H 10 O O O Lm (Az O (AL (JY (i:=x') O O Y Y underlying23 JR) (AL (JV O Iz) (AL (Hq H O hc0 J Fg) (eU ?_)))))))))
    refine tV ?_
    rw[←hB,←hpa]at H
    replace H:=H.G6 1 3
    replace H:=H.order [1,0,2,3,4,5,6,7,8,9,10,11] rfl rfl
    refine Ec (fun z f W=>∃(k:Nat) (PA:Option Addr) (cP:Nat),k≤x.n∧z=x.n-k∧f 1=ptr p1∧f 2=ptr p2∧f 8= .func (.func 192) #[] [ptr p5].toArray∧f 9=ptr p9∧f 14=ptr Zf∧f 56= .slice A out.length c∧f 57= .int .i64 out.length∧f 58= .int .i64 i∧f 75= .slice x.A x.n x.c∧f 76= .int .i64 x.n∧f 77= .int .i64 k∧
     Heap w [] [blk Zf [.slice PA k cP,.slice DB x.m dD] 77,Dw 1 (.slice PA k cP) k (((x.ps.take k).map (Gr.J3 out)).map (Value.int .i64)) 3,Dw 1 (.slice DB x.m dD) x.m (x.ds.map (Value.int .u64)) 26,blk p9 [.slice RA g.n cR,.slice NA i cN] 25,Dw 2 (.slice NA i cN) i ((ML ns).map C1.v) 77,grp (ns.map J4),Dw 1 (.slice RA g.n cR) g.n ((g.rs.map (Gr.J3 out)).map (Value.int .i64)) 3,blk p5 [.slice (some ⟨nb,0,none⟩) g.m g.m] 22,vec (Value.int .i64) nb num 3,Dw 1 (.slice A out.length c) out.length (out.map (Value.int .i64)) 3,blk p2 [.slice none 0 0,.slice none 0 0] 25,blk p1 [.slice g.A g.n g.c,.slice g.B g.m g.d] 25] W) x.n ⟨0,none,0,Y,rfl,rfl,rfl,rfl,rfl,rfl,by rw[hpa];rfl,rfl,rfl,rfl,rfl,rfl,H⟩ ?_
    clear H
    rintro z f W ⟨k,PA,cP,hk,rfl,f1,f2,f8,f9,f14,f56,f57,f58,f75,f76,f77,H⟩
    by_cases hlk:k<x.n
    ·obtain⟨q,hq⟩:∃q,x.ps[k]? =some q:=⟨_,Ar Y⟩
     obtain⟨b2,o2,hA2,_,YQ⟩:=hxo.ps Y
     have hcell:=YQ k q hq
     have hqm:=A8 hq
     have hok:=Xg hb x hxm q hqm
     have hT:=fun{W:World} hE=>gTo p5 nb g.m num q W hE auy hok.2
     rw[hto q (fun h=>ho.closed _ hym q (by rw[(Vr hx).1];exact hqm) h)]at hT
     rw[hA2]at f75
     obtain⟨f,rfl⟩:=ar4 f1 f2 f8 f9 f14 f56 f57 f58 f75 f76 f77
     clear f1 f2 f8 f9 f14 f56 f57 f58 f75 f76 f77
     refine ak ?_
     refine AL (Gp (i:=k) O O Y Y underlying22 Kz) (xB ?_)
     refine Gu mixed ?_;replace H:=H.drew
     refine Eo 0 O O O (fun _ hS=>CB O Iz) trivial (lF ?_)
     refine D6 1 4 ?_ ?_
     ·refine lG ?_
      refine kL ?_
      refine sK ?_
      rintro e W1 ⟨rfl,H'⟩
      refine⟨_,rfl,?_⟩
      have H:=H.same H';clear H'
      refine iE ?_
      refine oW ?_
      intro _ _ H';clear H;have H:=H';clear H'
      refine aH ?_
      clear H;intro PA' cP' _ H;simp only[Bv,Nat.reduceAdd]at H
      refine fK ?_
      clear H;refine ayJ fun _ H=>?_
      refine jm ?_
      refine⟨_,_,?_,rfl,k+1,PA',cP',Y,rfl,rfl,rfl,rfl,rfl,rfl,rfl,rfl,rfl,by rw[hA2];rfl,rfl,rfl,by rw[take_snoc _ _ _ _ hq];exact H⟩
      omega
     ·refine BO O (sK ?_)
      rintro e W1 ⟨rfl,H'⟩
      refine⟨_,rfl,?_⟩
      have H:=H.same H';clear H'
      refine aj ?_
      refine D6 1 5 ?_ ?_
      ·refine lG ?_
       refine iE ?_
       refine oW ?_
       intro _ _ H';clear H;have H:=H';clear H'
       refine aH ?_
       clear H;intro PA' cP' _ H;simp only[Bv,Nat.reduceAdd]at H
       refine fK ?_
       clear H;refine ayJ fun _ H=>?_
       refine jm ?_
       refine⟨_,_,?_,rfl,k+1,PA',cP',Y,rfl,rfl,rfl,rfl,rfl,rfl,rfl,rfl,rfl,by rw[hA2];rfl,rfl,rfl,by rw[take_snoc _ _ _ _ hq];exact H⟩
       omega
      ·refine BO O (oW ?_)
       intro _ _ H';clear H;have H:=H';clear H'
       refine nS ?_
       clear H;intro PA' cP' _ H;simp only[Bv,Nat.reduceAdd]at H
       refine fK ?_
       clear H;refine ayJ fun _ H=>?_
       refine jm ?_
       refine⟨_,_,?_,rfl,k+1,PA',cP',Y,rfl,rfl,rfl,rfl,rfl,rfl,rfl,rfl,rfl,by rw[hA2];rfl,rfl,rfl,by rw[take_snoc _ _ _ _ hq];exact H⟩
       omega
    ·obtain rfl:k=x.n:=Y
     have etp:x.ps.take x.n=x.ps:=by rw[←hpl];exact DL
     rw[etp]at H
     obtain⟨f,rfl⟩:=ar4 f1 f2 f8 f9 f14 f56 f57 f58 f75 f76 f77
     clear f1 f2 f8 f9 f14 f56 f57 f58 f75 f76 f77
     refine je ?_
     refine DR (BR O Gg (BD H 3 O O O Lm (Dn H 0 O O O Xe JR (agy (enc:=C1.v) (zs:=[C1.s PA x.n cP,C1.s DB x.m dD]) H 4 O O O O C1.one Y Ak O O O Y underlying23 LV O ?_))))
     clear H;intro _ NA' cN' _ H;simp only[Bv,Nat.reduceAdd]at H
     refine BR O Gg (Ic (u:= .slice _ _ _) H 3 O O O O O O ag6 ?_)
     clear H;refine ayJ fun _ H=>?_
     refine vG ?_
     replace H:=(H.order [1,2,5,3,4,6,7,8,9,10,11,0] rfl rfl:Heap w [] ([_,_]++ [_,_,_,_,_,_,_,_,_,_]) _).wrap
     replace H:=H.XW (E:=J4 (FM.mk PA x.n cP (x.ps.map (Gr.J3 out)) DB x.m dD x.ds))
     replace H:=(H.order [1,2,0,3,4,5,6,7,8,9] rfl rfl:Heap w [] ([_,_,_,_,_,_,_,_,_]++ [_]) _).drops
     have e1:ns.map J4++ [J4 (FM.mk PA x.n cP (x.ps.map (Gr.J3 out)) DB x.m dD x.ds)]=(ns++ [(FM.mk PA x.n cP (x.ps.map (Gr.J3 out)) DB x.m dD x.ds)]).map J4:=by simp
     rw[e1]at H
     have e2:=Xx ns (FM.mk PA x.n cP (x.ps.map (Gr.J3 out)) DB x.m dD x.ds)
     refine⟨_,_,?_,rfl,i+1,some ⟨NA',0,none⟩,cN',ns++ [(FM.mk PA x.n cP (x.ps.map (Gr.J3 out)) DB x.m dD x.ds)],Y,rfl,by simp[afR],?_,fun z hz=>?_,rfl,rfl,rfl,rfl,rfl,rfl,rfl,?_⟩
     ·omega
     ·rw[BU,YM,take_snoc _ _ _ _ hy]
      congr 1
      unfold avd
      rw[(Vr hx).1,(Vr hx).2];rfl
     ·rcases BJ.1 hz with hz|hz
      ·exact aa4 z hz
      ·rw[Bf.1 hz];exact⟨hxn,hxd⟩
     ·rw[e2];exact H
   ·obtain rfl:i=out.length:=Y
    obtain⟨f,rfl⟩:=lv7 f1 f2 f8 f9 f56 f57 f58
    clear f1 f2 f8 f9 f56 f57 f58
    refine uS ?_
    refine Dn H 0 O O O MO Jg (Eh H 7 O O O O O O O Jg ?_)
    clear H;refine ayJ fun _ H=>?_
    refine AQ O (Au (BH (NJ O (IG H 7 O O O MO Jg) (Jp (v:= .int _ _) O) ?_)))
    have eto:out.take out.length=out:=DL
    rw[eto]at YM
    have hNs:ns.map (fun x=>(x.ps,x.ds))=Gr.Vf g.nodes out:=YM
    have hfb:∀z,-9223372036854775808≤Gr.J3 out z∧Gr.J3 out z≤9223372036854775807:=fun z=>by
     have:=Gr.abR out z hod;omega
    have hok:=afM (n:=g.n) (m:=out.length) (by rw[Ci,hrl]) afR (H.order [3,1,2,0,4,5,6,7,8] rfl rfl) Y Y (fun p hp=>by
     obtain⟨z,_,rfl⟩:=BX.1 hp
     exact hfb z) (fun x hx=>by
     obtain⟨h1,h2⟩:=aa4 x hx
     have h3:(x.ps,x.ds)∈Gr.Vf g.nodes out:=by rw[←hNs];exact BX.2 ⟨x,hx,rfl⟩
     unfold Gr.Vf at h3
     obtain⟨y,hy,he⟩:=BX.1 h3
     injection he with he1 he2
     refine⟨Y,h2,fun p hp=>?_,fun p hp=>?_⟩
     ·rw[←he1]at hp
      obtain⟨z,_,rfl⟩:=BX.1 hp
      exact hfb z
     ·rw[←he2]at hp
      have hyb:=hob y hy
      obtain⟨y',rfl⟩:=Bo hyb.1
      obtain⟨z,hz⟩:∃z,g.ns[y']? =some z:=⟨_,Ar Y⟩
      rw[(Vr hz).2]at hp
      exact(hg.ns.2 z (A8 hz)).db p hp)
    exact⟨⟨⟨RA,g.n,cR,_,NA,out.length,cN,ns⟩,out,rfl,hok,ho,rfl,hNs,rfl,rfl,hol,aa4⟩,H.only⟩
end
end
section
section
open Go.RowKit
theorem afq(k b:Int)(j m:Nat)(h:j≤m):Ce.upto k b j<+:Ce.upto k b m:=by
 obtain⟨d,rfl⟩:=Oi h
 induction d with
 |zero=>exact Tf _
 |succ d ih=>exact(ih Y).trans (by rw[←Gs,Ce.upto_succ];exact List.prefix_append _ _)
end
end
section
section
open Go.RowKit
theorem Gm.take{α:Type}{enc:α→Value}{w:World}{F:List Nat}{A:Option Addr}{xs:List α}(h:Gm enc w F A xs)(k:Nat):Gm enc w F A (xs.take k):=by
 intro h0
 simp at h0
 obtain⟨b,o,e,hb,hr⟩:=h (by intro h2;exact h0.2 (BZ h2))
 refine⟨b,o,e,hb,fun i z hz=>hr i z ?_⟩
 rw[IV]at hz
 split at hz
 ·exact hz
 ·cases hz
end
end
section
section
open Go.RowKit
theorem eqI(A B:Option Addr)(n c m d:Nat)(xs ys:List Int)(w:World)(hx:Gm (Value.int .i64) w [] A xs)(hy:Gm (Value.int .i64) w [] B ys)(lx:xs.length=n)(ly:ys.length=m)(hn:n≤100000)(hm:m≤100000):
 Calls prog 193 [.slice A n c,.slice B m d].toArray w fun e w'=>e= .returned (.bool (eqB xs ys))∧Only [] w w':=by
 have H:=Heap.nil w
 by_cases hnm:n=m
 ·subst hnm
  refine BM 26 func193 O (qU ?_)
  refine kM ?_
  refine CY O (eU ?_)
  refine AL (Dc O O Y) (dX ?_)
  refine uj ?_
  refine lM ?_
  clear H
  rintro z f W ⟨i,hi,rfl,he,f0,f1,f12,f13,H⟩
  by_cases hlt:i<n
  ·obtain⟨x,hx1⟩:∃x,xs[i]? =some x:=⟨_,Ar Y⟩
   obtain⟨y,hy1⟩:∃y,ys[i]? =some y:=⟨_,Ar Y⟩
   obtain⟨b,o,hA,_,hrx⟩:=hx Y
   obtain⟨b2,o2,hB,_,hry⟩:=hy Y
   have hcx:=hrx i x hx1
   have hcy:=hry i y hy1
   rw[hA]at f0
   rw[hB]at f1
   obtain⟨f,rfl⟩:=Ih f0 f1 f12 f13
   clear f0 f1 f12 f13
   by_cases hxy:x=y
   ·refine lW ?_
    refine qw ?_
    refine kQ ?_
    refine BK (fun _ H=>Dc O O Y) (H8 ?_)
    clear H;intro _ H
    refine AO (nM ?_)
    refine⟨_,_,?_,rfl,i+1,Y,rfl,by rw[Fj,Fj,he,hx1,hy1,hxy],by rw[hA];rfl,by rw[hB];rfl,rfl,rfl,H⟩
    omega
   ·rw[VF xs ys (fun h=>hxy zG)]
    refine lW ?_
    refine qw ?_
    refine kQ ?_
    refine BK (fun _ H=>Hl O O Y) (H8 ?_)
    clear H;intro _ H
    refine rO ?_
    exact⟨rfl,H.only⟩
  ·obtain rfl:i=n:=Y
   obtain⟨f,rfl⟩:=Ih f0 f1 f12 f13
   clear f0 f1 f12 f13
   have e1:xs.take i=xs:=by rw[←lx];exact DL
   have e2:ys.take i=ys:=by rw[←ly];exact DL
   rw[Ux xs ys (by rw[←e1,←e2];exact he)]
   refine uS ?_
   refine gZ ?_
   exact⟨rfl,H.only⟩
 ·rw[VF xs ys (fun h=>hnm (by rw[←lx,←ly,h]))]
  refine BM 26 func193 O (qU ?_)
  refine kM ?_
  refine CY O (eU ?_)
  refine AL (Hl O O Y) (iD ?_)
  exact⟨rfl,H.only⟩
theorem eqU(A B:Option Addr)(n c m d:Nat)(xs ys:List Int)(w:World)(hx:Gm (Value.int .u64) w [] A xs)(hy:Gm (Value.int .u64) w [] B ys)(lx:xs.length=n)(ly:ys.length=m)(hn:n≤100000)(hm:m≤100000):
 Calls prog 194 [.slice A n c,.slice B m d].toArray w fun e w'=>e= .returned (.bool (eqB xs ys))∧Only [] w w':=by
 have H:=Heap.nil w
 by_cases hnm:n=m
 ·subst hnm
  refine uN ?_
  refine lM ?_
  clear H
  rintro z f W ⟨i,hi,rfl,he,f0,f1,f12,f13,H⟩
  by_cases hlt:i<n
  ·obtain⟨x,hx1⟩:∃x,xs[i]? =some x:=⟨_,Ar Y⟩
   obtain⟨y,hy1⟩:∃y,ys[i]? =some y:=⟨_,Ar Y⟩
   obtain⟨b,o,hA,_,hrx⟩:=hx Y
   obtain⟨b2,o2,hB,_,hry⟩:=hy Y
   have hcx:=hrx i x hx1
   have hcy:=hry i y hy1
   rw[hA]at f0
   rw[hB]at f1
   obtain⟨f,rfl⟩:=Ih f0 f1 f12 f13
   clear f0 f1 f12 f13
   by_cases hxy:x=y
   ·refine lW ?_
    refine AQ O (Au (jU ?_))
    refine BK (fun _ H=>Dc O O Y) (H8 ?_)
    clear H;intro _ H
    refine AO (nM ?_)
    refine⟨_,_,?_,rfl,i+1,Y,rfl,by rw[Fj,Fj,he,hx1,hy1,hxy],by rw[hA];rfl,by rw[hB];rfl,rfl,rfl,H⟩
    omega
   ·rw[VF xs ys (fun h=>hxy zG)]
    refine lW ?_
    refine AQ O (Au (jU ?_))
    refine BK (fun _ H=>Hl O O Y) (H8 ?_)
    clear H;intro _ H
    refine rO ?_
    exact⟨rfl,H.only⟩
  ·obtain rfl:i=n:=Y
   obtain⟨f,rfl⟩:=Ih f0 f1 f12 f13
   clear f0 f1 f12 f13
   have e1:xs.take i=xs:=by rw[←lx];exact DL
   have e2:ys.take i=ys:=by rw[←ly];exact DL
   rw[Ux xs ys (by rw[←e1,←e2];exact he)]
   refine uS ?_
   refine gZ ?_
   exact⟨rfl,H.only⟩
 ·rw[VF xs ys (fun h=>hnm (by rw[←lx,←ly,h]))]
  refine BM 26 func194 O (qU ?_)
  refine tX ?_
  refine dV ?_
  refine AL (Hl O O Y) (iD ?_)
  exact⟨rfl,H.only⟩
def abv(a b:NP):Bool:=decide (a.rs=b.rs∧a.nodes=b.nodes)
theorem NP.L6(g:NP):g.nodes.length=g.ns.length:=by simp[NP.nodes]
theorem WB{g:NP}{i:Nat}{x:FM}(h:g.ns[i]? =some x):g.nodes[i]? =some (x.ps,x.ds):=by unfold NP.nodes;rw[BG,h];rfl
theorem auJ(a b:NP)(w:World)(ha:LP w [] a)(hb:LP w [] b)(sa:Sm a)(sb:Sm b):
 Calls prog 126 [.agg a.cells.toArray,.agg b.cells.toArray].toArray w fun e w'=>e= .returned (.bool (abv a b))∧Only [] w w':=by
 have H:=Heap.nil w
 have an:=sa.n
 have bn:=sb.n
 have am:=sa.m
 have bm:=sb.m
 have anl:=ha.nl
 have bnl:=hb.nl
 have hEr:=fun W (h:Only [] w W)=>eqI a.A b.A a.n a.c b.n b.c a.rs b.rs W (ha.rs.later h J) (hb.rs.later h J) ha.rl hb.rl Y Y
 have hno:a.rs≠b.rs∨a.m≠b.m→abv a b=false:=fun h=>decide_eq_false fun h2=>by
  rcases h with h|h
  ·exact h h2.1
  ·have:=congrArg List.length h2.2
   rw[a.L6,b.L6]at this;omega
 unfold NP.cells at*
 by_cases hrs:a.rs=b.rs
 ·rw[Ux _ _ hrs]at hEr
  by_cases hmm:a.m=b.m
  ·refine BM 53 func126 O (Aw (DU H O O fun p2 _ H=>DU H O O fun p3 _ H=>vI ?_))
   refine BI H O (hEr _ H.only) (acG O) fun W1 H=>nJ ?_
   refine AX 13 O (Dc O O Y) (fE ?_)
   refine AP (Aw (BR O Gg (BD H 1 O O O Lm (Di O underlying23 (tV ?_)))))
   refine Ec (fun z f W=>∃i:Nat,i≤a.m∧z=a.m-i∧a.nodes.take i=b.nodes.take i∧f 3=ptr p3∧f 23= .slice a.B a.m a.d∧f 24= .int .i64 a.m∧f 25= .int .i64 i∧Heap w [] [blk p3 [.slice b.A b.n b.c,.slice b.B b.m b.d] 25] W) a.m ⟨0,Y,rfl,rfl,rfl,rfl,rfl,rfl,(H.drops (A:=[_]) (L:=[_]))⟩ ?_
   clear H
   rintro z f W ⟨i,hi,rfl,he,f3,f23,f24,f25,H⟩
   by_cases hlt:i<a.m
   ·obtain⟨x,hx⟩:∃x,a.ns[i]? =some x:=⟨_,Ar Y⟩
    obtain⟨y,hy⟩:∃y,b.ns[i]? =some y:=⟨_,Ar Y⟩
    have hxm:=A8 hx
    have hym:=A8 hy
    obtain⟨ab,ao,hAB,_,hrx⟩:=ha.ns.1 Y
    obtain⟨bb,bo,hBB,_,hry⟩:=hb.ns.1 Y
    have hxc:=hrx i x hx
    have aqY:=hry i y hy 0 _ rfl
    have atE:=hry i y hy 1 _ rfl
    have hxo:=ha.ns.2 x hxm
    have hyo:=hb.ns.2 y hym
    have hxs:=sa.p x hxm
    have hys:=sb.p y hym
    have hEp:=fun W (h:Only [] w W)=>eqI x.A y.A x.n x.c y.n y.c x.ps y.ps W (hxo.ps.later h J) (hyo.ps.later h J) hxo.pl hyo.pl Y Y
    have hEd:=fun W (h:Only [] w W)=>eqU x.B y.B x.m x.d y.m y.d x.ds y.ds W (hxo.ds.later h J) (hyo.ds.later h J) hxo.dl hyo.dl Y Y
    have aqj:(x.ps,x.ds)≠(y.ps,y.ds)→abv a b=false:=fun h=>decide_eq_false fun h2=>h (by
     have h3:=WB hx
     rw[h2.2,WB hy]at h3
     injection h3 with h3;exact h3.symm)
    unfold FM.cells at hxc
    rw[hAB]at f23
    rw[hBB]at H
    obtain⟨f,rfl⟩:=Ih f3 f23 f24 f25
    clear f3 f23 f24 f25
    by_cases hp:x.ps=y.ps
    ·rw[Ux _ _ hp]at hEp
     by_cases hd:x.ds=y.ds
     ·rw[Ux _ _ hd]at hEd
      refine lW ?_
      refine jw ?_
      refine Ea H O LV fun p6 _ H=>AQ O (qH ?_)
      clear H;refine ayJ fun _ H=>?_
      refine Au (rG ?_)
      refine bW ?_
      refine GN 40 O (fun _ H=>EM O) (BK (fun _ H=>Ku (v:= .bool _) O O) (H8 ?_))
      clear H;intro _ H
      refine AO (nM ?_)
      rw[←hBB]at H
      refine⟨_,_,?_,rfl,i+1,Y,rfl,by rw[Fj,Fj,he,WB hx,WB hy,hp,hd],rfl,by rw[hAB];rfl,rfl,rfl,H.drop⟩
      omega
     ·rw[VF _ _ hd]at hEd
      rw[aqj (fun h=>hd (by injection h))]
      refine lW ?_
      refine jw ?_
      refine Ea H O LV fun p6 _ H=>AQ O (qH ?_)
      clear H;refine ayJ fun _ H=>?_
      refine Au (rG ?_)
      refine bW ?_
      refine GN 40 O (fun _ H=>Jm O) (BK (fun _ H=>Ku (v:= .bool _) O O) (H8 ?_))
      clear H;intro _ H
      refine rO ?_
      exact⟨rfl,H.only⟩
    ·rw[VF _ _ hp]at hEp
     rw[aqj (fun h=>hp (by injection h))]
     refine lW ?_
     refine jw ?_
     refine Ea H O LV fun p6 _ H=>AQ O (qH ?_)
     clear H;refine ayJ fun _ H=>?_
     refine Au (rG ?_)
     refine BK (fun _ H=>CB O Iz) (BK (fun _ H=>Ef H 0 O O O Fg) (BK (fun _ H=>CB O Gg) (BK (fun _ H=>Ef H 1 O O O Lm) (eG ?_))))
     refine BK (fun _ H=>JY (i:=i) O O Y Y underlying23 JR) (BK (fun _ H=>JV O Iz) (BK (fun _ H=>Hq H O aqY J Fg) (Np O O (fun _ H=>hEp _ H.only) (acG O) (BK (fun _ H=>Jm O) (BK (fun _ H=>BP (v:= .bool _) O) (qj ?_))))))
     refine qj ?_
     refine qj ?_
     refine qj ?_
     refine qj ?_
     refine uV ?_
     refine H8 ?_
     clear H;intro _ H
     refine rO ?_
     exact⟨rfl,H.only⟩
   ·obtain rfl:i=a.m:=Y
    obtain⟨f,rfl⟩:=Ih f3 f23 f24 f25
    clear f3 f23 f24 f25
    have e1:a.nodes.take a.m=a.nodes:=by rw[←anl,←a.L6];exact DL
    have e2:b.nodes.take a.m=b.nodes:=by rw[hmm,←bnl,←b.L6];exact DL
    rw[show abv a b=true from decide_eq_true ⟨hrs,by rw[←e1,←e2];exact he⟩]
    refine uS ?_
    refine gZ ?_
    exact⟨rfl,H.only⟩
  ·rw[hno (.inr hmm)]
   refine BM 53 func126 O (Aw (DU H O O fun p2 _ H=>DU H O O fun p3 _ H=>vI ?_))
   refine BI H O (hEr _ H.only) (acG O) fun W1 H=>nJ ?_
   refine AX 13 O (Hl O O Y) (Dp O O (iD ?_))
   exact⟨rfl,H.only⟩
 ·rw[VF _ _ hrs]at hEr
  rw[hno (.inl hrs)]
  refine BM 53 func126 O (Aw (DU H O O fun p2 _ H=>DU H O O fun p3 _ H=>vI ?_))
  refine BI H O (hEr _ H.only) (acG O) fun W1 H=>AL (Jm O) (BL O (Cc 13 O O (Cc 13 O O (Cc 13 O O (Cc 13 O O (Cc 13 O O (Cc 13 O O (Cc 13 O O (ED O O (iD ?_))))))))))
  exact⟨rfl,H.only⟩
theorem as8(a b:NP)(w:World)(ha:LP w [] a)(hb:LP w [] b)(sa:Sm a)(sb:Sm b):
 Calls prog 58 [.agg a.cells.toArray,.agg b.cells.toArray].toArray w fun e w'=>(∃r:Bool,e= .returned (.bool r)∧((Fh a&&Fh b)=false→r=false)∧((Fh a&&Fh b)=true→∃oa ob,Gr.JO (Gr.ptr a.nodes) a.rs oa∧Gr.JO (Gr.ptr b.nodes) b.rs ob∧r=decide (Gr.abS a.rs oa=Gr.abS b.rs ob∧Gr.Vf a.nodes oa=Gr.Vf b.nodes ob)))∧Only [] w w':=by
 have H:=Heap.nil w
 cases ra:Fh a with
 |true=>
  have hA:=fun W (h:Only [] w W)=>aeI a W (ha.later h J) ra sa
  cases rb:Fh b with
  |true=>
   have hB:=fun W (h:Only [] w W)=>aeI b W (hb.later h J) rb sb
   unfold NP.cells at hA hB⊢
   refine BM 30 func58 O (Aw (DU H O O fun p2 _ H=>DU H O O fun p3 _ H=>BN O (Au (Aw (Dn H 1 O O O MO Jg (s_call O (hA _ H.only) (Zv O) ?_))))))
   rintro e W1 ⟨⟨a',oa,rfl,ka,hoa,era,ena,an,am,aml,ap⟩,H'⟩
   refine⟨_,rfl,?_⟩
   have H:=H.same H';clear H';have HP:=H;clear H;have H:=Heap.nil W1
   refine aO ?_
   refine Ea H O O6 fun p5 _ H=>qG ?_
   clear H;refine ayJ fun _ H=>?_
   refine nG ?_
   refine Dn (HP.same H.only) 0 O O O MO Jg (s_call O (hB _ (HP.only.trans H.only)) (Zv O) ?_)
   rintro e W1 ⟨⟨b',ob,rfl,kb,hob,erb,enb,bn,bm,bml,bp⟩,H'⟩
   refine⟨_,rfl,?_⟩
   have H:=H.same H';clear H';have HQ:=H;clear H;have H:=Heap.nil W1
   refine aO ?_
   refine Ea H O O6 fun p7 _ H=>qG ?_
   clear H;refine ayJ fun _ H=>?_
   refine oG ?_
   refine AL (Fv O O Y) (BL O (AX 21 O (Fz O) (AX 21 O (Fv O O Y) (ED O O (BL O ?_)))))
   have hS:=fun W (h:Only [] _ W)=>auJ a' b' W (ka.later (HQ.only.trans h) J) (kb.later h J) ⟨by have:=sa.n;omega,by have:=sa.m;omega,ap⟩ ⟨by have:=sb.n;omega,by have:=sb.m;omega,bp⟩
   have key:abv a' b'=decide (Gr.abS a.rs oa=Gr.abS b.rs ob∧Gr.Vf a.nodes oa=Gr.Vf b.nodes ob):=by
    unfold abv;rw[era,ena,erb,enb]
   unfold NP.cells at hS
   generalize abv a' b'=sv at*
   cases sv with
   |true=>
    refine sJ ?_
    rintro e W1 ⟨rfl,H'⟩
    refine⟨_,rfl,?_⟩
    have H:=H.same H';clear H'
    refine oJ ?_
    exact⟨⟨true,rfl,(fun h=>by cases h),fun _=>⟨oa,ob,hoa,hob,key⟩⟩,(HP.only.trans HQ.only).trans H.only⟩
   |false=>
    refine sJ ?_
    rintro e W1 ⟨rfl,H'⟩
    refine⟨_,rfl,?_⟩
    have H:=H.same H';clear H'
    refine oJ ?_
    exact⟨⟨false,rfl,(fun h=>by cases h),fun _=>⟨oa,ob,hoa,hob,key⟩⟩,(HP.only.trans HQ.only).trans H.only⟩
  |false=>
   have hB:=fun W (h:Only [] w W)=>aeP b W (hb.later h J) rb
   unfold NP.cells at hA hB⊢
   refine BM 30 func58 O (Aw (DU H O O fun p2 _ H=>DU H O O fun p3 _ H=>BN O (Au (Aw (Dn H 1 O O O MO Jg (s_call O (hA _ H.only) (Zv O) ?_))))))
   rintro e W1 ⟨⟨a',oa,rfl,ka,hoa,era,ena,an,am,aml,ap⟩,H'⟩
   refine⟨_,rfl,?_⟩
   have H:=H.same H';clear H'
   refine aO ?_
   refine Ea H O O6 fun p5 _ H=>qG ?_
   clear H;refine ayJ fun _ H=>?_
   refine nG ?_
   refine Dn H 1 O O O MO Jg (BI H O (hB _ H.only) (Zv O) fun W1 H=>aO ?_)
   refine Ea H O O6 fun p7 _ H=>qG ?_
   clear H;refine ayJ fun _ H=>?_
   refine oG ?_
   refine AL (Fv O O Y) (BL O (AX 21 O (Fz O) (AX 21 O (Fb O O Y) (ED O O (BL O (Cc 25 O O (Cc 25 O O (Cc 25 O O (Dp O O (gZ ?_))))))))))
   exact⟨⟨false,rfl,(fun _=>rfl),(fun h=>by cases h)⟩,H.only⟩
 |false=>
  have hA:=fun W (h:Only [] w W)=>aeP a W (ha.later h J) ra
  cases rb:Fh b with
  |true=>
   have hB:=fun W (h:Only [] w W)=>aeI b W (hb.later h J) rb sb
   unfold NP.cells at hA hB⊢
   refine BM 30 func58 O (Aw (DU H O O fun p2 _ H=>DU H O O fun p3 _ H=>BN O (Au (Aw (Dn H 1 O O O MO Jg (BI H O (hA _ H.only) (Zv O) fun W1 H=>aO ?_))))))
   refine Ea H O O6 fun p5 _ H=>qG ?_
   clear H;refine ayJ fun _ H=>?_
   refine nG ?_
   refine Dn H 1 O O O MO Jg (s_call O (hB _ H.only) (Zv O) ?_)
   rintro e W1 ⟨⟨b',ob,rfl,kb,hob,erb,enb,bn,bm,bml,bp⟩,H'⟩
   refine⟨_,rfl,?_⟩
   have H:=H.same H';clear H'
   refine aO ?_
   refine Ea H O O6 fun p7 _ H=>qG ?_
   clear H;refine ayJ fun _ H=>?_
   refine qA ?_
   exact⟨⟨false,rfl,(fun _=>rfl),(fun h=>by cases h)⟩,H.only⟩
  |false=>
   have hB:=fun W (h:Only [] w W)=>aeP b W (hb.later h J) rb
   unfold NP.cells at hA hB⊢
   refine BM 30 func58 O (Aw (DU H O O fun p2 _ H=>DU H O O fun p3 _ H=>BN O (Au (Aw (Dn H 1 O O O MO Jg (BI H O (hA _ H.only) (Zv O) fun W1 H=>aO ?_))))))
   refine Ea H O O6 fun p5 _ H=>qG ?_
   clear H;refine ayJ fun _ H=>?_
   refine nG ?_
   refine Dn H 1 O O O MO Jg (BI H O (hB _ H.only) (Zv O) fun W1 H=>aO ?_)
   refine Ea H O O6 fun p7 _ H=>qG ?_
   clear H;refine ayJ fun _ H=>?_
   refine qA ?_
   exact⟨⟨false,rfl,(fun _=>rfl),(fun h=>by cases h)⟩,H.only⟩
end
end
section
section
section
open Go.ChangeShapes Go.WideShapes Go.Deep
variable{H:Type}{enc:TypeId×Value→H}{w:World}{base:Nat}{spare:Nat→Bool}{held:Bool}
theorem apY{b o i:Nat}:(⟨b,o,none⟩:Addr).add i=⟨b,o+i,none⟩:=by
 unfold Addr.add;split
 ·subst_vars;rfl
 ·rfl
theorem ahP{k:IntKind}{t e:TypeId}{fuel:Nat}{v:Value}{y:DataW H×List MemPlace}(ht:prog.underlying t=some (.slice e))(he:prog.underlying e=some (.int k))(hc:prog.cellsOf e=1)
 (h:DataW.trod enc prog w base spare held fuel t [v]=some y):
 ∃A n c xs,v= .slice A n c∧Gm (Value.int k) w [] A xs∧xs.length=n∧n≤c∧c≤maxLen∧∀z∈xs,(Lit.int k z).wf=true:=by
 rcases open_ints ht he hc h with⟨hcs,_⟩|⟨x,l,c,zs,hcs,_,hl,hm,hz,_,hcell,hwf⟩
 ·injection hcs with hv _
  exact⟨none,0,0,[],hv,Gm.nil,rfl,Y,by decide,J⟩
 ·injection hcs with hv _
  have hzl:l≤zs.length:=by rw[hz];split<;>omega
  refine⟨some x,l,c,zs.take l,hv,fun h0=>?_,by simp;omega,hl,hm,fun z hz=>hwf z (G7 hz)⟩
  obtain⟨b,off,spot⟩:=x
  have h0':0<l:=by simp at h0;omega
  have hc0:=hcell 0 Y
  have hspot:spot=none:=by simpa [Addr.add]using World.cell?_spot hc0
  subst hspot
  refine⟨b,off,rfl,J,fun j z hj=>?_⟩
  have hjl:j<l:=by have:=(BA.1 hj).1;simp at this;omega
  rw[Et hjl]at hj
  have hc2:=hcell j Y
  rw[apY]at hc2
  rw[hc2]
  simp[List.getD,hj]
theorem alK{α:Type}{Q:Nat→α→Prop}:∀n:Nat,(∀i,i<n→∃x,Q i x)→∃l:List α,l.length=n∧∀i x,l[i]? =some x→Q i x
 |0,_=>⟨[],rfl,J⟩
 |n+1,h=>by
  obtain⟨l,hl,hq⟩:=alK n (fun i hi=>h i Y)
  obtain⟨x,hx⟩:=h n Y
  refine⟨l++ [x],by simp[hl],fun i y hy=>?_⟩
  by_cases hi:i<l.length
  ·rw[Ej hi]at hy;exact hq i y hy
  ·have hi2:i<n+1:=by have:=(BA.1 hy).1;simp at this;omega
   obtain rfl:i=n:=Y
   rw[D8 Y]at hy
   simp[hl]at hy
   subst hy;exact hx
theorem aqK{t:TypeId}{fs:Array Field}(h:prog.underlying t=some (.struct fs))(h2:(match prog.underlying t with|some (.struct fs)=>oneCellFields prog fs|_=>false)=true):oneCellFields prog fs=true:=by
 rw[h]at h2;exact h2
end
end
end
section
section
open Go.RowKit
structure Qo where
 A0:Option Addr
 n0:Nat
 c0:Nat
 xs0:List Int
 A1:Option Addr
 n1:Nat
 c1:Nat
 xs1:List Int
def Qo.cells(u:Qo):List Value:=[.slice u.A0 u.n0 u.c0,.slice u.A1 u.n1 u.c1]
structure Uy (w:World) (u:Qo):Prop where
 s0:Gm (Value.int .i64) w [] u.A0 u.xs0
 l0:u.xs0.length=u.n0
 m0:u.n0≤u.c0∧u.c0≤maxLen
 b0:∀z∈u.xs0,(Lit.int .i64 z).wf=true
 s1:Gm (Value.int .u64) w [] u.A1 u.xs1
 l1:u.xs1.length=u.n1
 m1:u.n1≤u.c1∧u.c1≤maxLen
 b1:∀z∈u.xs1,(Lit.int .u64 z).wf=true
def Vm(w:World)(A:Option Addr)(ops:List Qo):Prop:=(ops.length≠0→∃b o,A=some ⟨b,o,none⟩∧∀i op,ops[i]? =some op→Reads (fun v:Value=>v) w b (o+i*2) op.cells)∧∀op∈ops,Uy w op
theorem Uy.later{w W:World}{u:Qo}(h:Uy w u)(hO:Only [] w W):Uy W u:=⟨h.s0.later hO J,h.l0,h.m0,h.b0,h.s1.later hO J,h.l1,h.m1,h.b1⟩
theorem Vm.later{w W:World}{A:Option Addr}{ops:List Qo}(h:Vm w A ops)(hO:Only [] w W):Vm W A ops:=
 ⟨fun h0=>by
  obtain⟨b,o,e,hr⟩:=h.1 h0
  exact⟨b,o,e,fun i op hi=>(hr i op hi).later hO J⟩,fun op hop=>(h.2 op hop).later hO⟩
section
open Go.ChangeShapes Go.WideShapes Go.Deep
variable{H:Type}{enc:TypeId×Value→H}{w:World}{base:Nat}{spare:Nat→Bool}{held:Bool}
theorem ahc{fuel:Nat}{cs:List Value}{y:DataW H×List MemPlace}(h:DataW.trod enc prog w base spare held fuel 77 cs=some y):∃op:Qo,cs=op.cells∧Uy w op:=by
 obtain⟨xs,n,_,_,hl,hlen,hg⟩:=DataW.trod_struct underlying77 h
 have hone:=aqK underlying77 Ak
 have hcl:cs.length=2:=hl.trans Ak
 replace hlen:xs.length=2:=hlen
 match cs,hcl,xs,hlen with
 | [c0,c1],_,[y0,y1],_=>
  obtain⟨o0,k0⟩:=hone_of hone 0 _ rfl
  obtain⟨o1,k1⟩:=hone_of hone 1 _ rfl
  have g0:=hg 0 _ rfl
  have g1:=hg 1 _ rfl
  rw[o0,k0]at g0
  rw[o1,k1]at g1
  replace g0:=g0.trans (show _=some y0 from rfl)
  replace g1:=g1.trans (show _=some y1 from rfl)
  obtain⟨A0,m0,q0,bs0,e0,hs0,hb0,atC,hcm0,hw0⟩:=ahP underlying22 underlying3 Ak (show DataW.trod enc prog w base spare held n 22 [c0]=some y0 from g0)
  obtain⟨A1,m1,q1,bs1,e1,hs1,hb1,hmc1,hcm1,hw1⟩:=ahP underlying55 underlying26 Ak (show DataW.trod enc prog w base spare held n 55 [c1]=some y1 from g1)
  subst e0
  subst e1
  exact⟨⟨A0,m0,q0,bs0,A1,m1,q1,bs1⟩,rfl,hs0,hb0,⟨atC,hcm0⟩,hw0,hs1,hb1,⟨hmc1,hcm1⟩,hw1⟩
def Qo.s(u:Qo):FM:=⟨u.A0,u.n0,u.c0,u.xs0,u.A1,u.n1,u.c1,u.xs1⟩
theorem Qo.ok{W:World}{u:Qo}(h:Uy W u):P9 W [] u.s:=by
 refine⟨h.s0,h.l0,h.s1,h.l1,fun p hp=>bounds_i64 (h.b0 p hp),fun p hp=>bounds_u64 (h.b1 p hp),?_,?_⟩
 ·have:=h.m0;simp only[maxLen]at this;show u.n0≤_;omega
 ·have:=h.m1;simp only[maxLen]at this;show u.n1≤_;omega
theorem ahR(W:World){r:Reach}(b0:Nat)(v:Value)(d:DataW H)(p:List MemPlace)
 (hv:Value.okWide prog W r b0 25 v) (h:DataW.Trod enc prog W base spare held 25 v d p):
 ∃g:NP,v= .agg g.cells.toArray∧LP W [] g:=by
 obtain⟨cs,rfl,hsz⟩:=okWide_struct underlying25 hv
 obtain⟨fuel,hf⟩:=h
 obtain⟨xs,n,_,_,hl,hlen,hg⟩:=DataW.trod_struct underlying25 hf
 have hone:=aqK underlying25 Ak
 have hl2:cs.toList.length=2:=hl.trans Ak
 have hlen2:xs.length=2:=hlen
 obtain⟨cl,rfl⟩:∃cl,cs=List.toArray cl:=⟨cs.toList,J⟩
 simp only[List.toList_toArray]at hl2
 match cl,hl2,xs,hlen2 with
 | [c0,c1],_,[y0,y1],_=>
  obtain⟨o0,k0⟩:=hone_of hone 0 _ rfl
  obtain⟨o1,k1⟩:=hone_of hone 1 _ rfl
  have g0:=hg 0 _ rfl
  have g1:=hg 1 _ rfl
  rw[o0,k0]at g0
  rw[o1,k1]at g1
  replace g0:=g0.trans (show _=some y0 from rfl)
  replace g1:=g1.trans (show _=some y1 from rfl)
  obtain⟨A0,m0,q0,bs0,e0,hs0,hb0,atC,hcm0,hw0⟩:=ahP underlying22 underlying3 Ak (show DataW.trod enc prog W base spare held n 22 [c0]=some y0 from g0)
  subst e0
  have g1':DataW.trod enc prog W base spare held n 23 [c1]=some y1:=g1
  have c2:prog.cellsOf 77=2:=by kernel_rfl
  have hm0:m0≤9223372036854775807:=by simp only[maxLen]at hcm0;omega
  rcases open_slice underlying23 g1' with⟨hcs,_⟩|⟨x,len,cap,m,n2,D,Pl,hcs,_,hl3,hm,hmm,_,hx⟩
  ·injection hcs with hcs _
   subst hcs
   exact⟨⟨A0,m0,q0,bs0,none,0,0,[]⟩,rfl,⟨hs0,hb0,fun p hp=>bounds_i64 (hw0 p hp),⟨fun h=>absurd rfl h,J⟩,rfl,hm0,by show(0:Nat)≤_;omega⟩⟩
  ·injection hcs with hcs _
   subst hcs
   rw[c2]at hx
   have hlm:len≤m:=by rw[hmm];split<;>omega
   obtain⟨ops,hol,hq⟩:=alK (Q:=fun i (op:Qo)=>Uy W op∧∀j u,op.cells[j]? =some u→W.cell? (x.add (i*2+j))=some u) len (fun i hi=>by
    obtain⟨cs',hc,ht⟩:=hx i Y
    obtain⟨op,rfl,hok⟩:=ahc ht
    obtain⟨_,hcl,hat⟩:=World.cells?_some hc
    refine⟨op,hok,fun j u hj=>?_⟩
    have hj5:j<2:=by have:=(BA.1 hj).1;rw[hcl]at this;exact this
    rw[←Go.Deep.add_add,hat j hj5,hj])
   refine⟨⟨A0,m0,q0,bs0,some x,len,cap,ops.map Qo.s⟩,rfl,⟨hs0,hb0,fun p hp=>bounds_i64 (hw0 p hp),⟨fun h0=>?_,fun z hz=>?_⟩,by simp[hol],hm0,by simp only[maxLen]at hm;show len≤_;omega⟩⟩
   ·have h00:ops.length≠0:=by simpa using h0
    obtain⟨op0,hop0⟩:∃op,ops[0]? =some op:=⟨_,Ar Y⟩
    obtain⟨b,off,spot⟩:=x
    have hc0:=(hq 0 op0 hop0).2 0 _ rfl
    have hspot:spot=none:=by simpa [Addr.add]using World.cell?_spot hc0
    subst hspot
    refine⟨b,off,rfl,J,fun i z hz j u hj=>?_⟩
    have hz':(ops.map Qo.s)[i]? =some z:=hz
    rw[BG]at hz'
    cases hoi:ops[i]? with
    |none=>rw[hoi]at hz';cases hz'
    |some op=>
     rw[hoi]at hz'
     injection hz' with hz'
     subst hz'
     have:=(hq i op hoi).2 j u hj
     rw[apY]at this
     rw[Gs];exact this
   ·have hz':z∈ops.map Qo.s:=hz
    obtain⟨op,hop,rfl⟩:=BX.1 hz'
    obtain⟨i,hi,rfl⟩:=DY.1 hop
    exact Qo.ok (hq i _ (Ar hi)).1
end
end
end
end Go.Proofs.YtppilhpcmkekbaaGreat
