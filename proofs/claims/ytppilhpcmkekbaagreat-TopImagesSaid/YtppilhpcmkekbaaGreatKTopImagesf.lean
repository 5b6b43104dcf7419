/- Parts of the proof. -/
import Derived.Laws.StructEq
import Derived.Lib.AppendZeros
import Derived.Maps.Keyed
import Derived.Maps.RangeRun
import Derived.Carry
import Derived.WideKeyEntry
import Derived.Test.YtppilhpcmkekbaaGreatKTopImagese
set_option linter.unusedSimpArgs false
set_option linter.unusedVariables false
set_option linter.unusedSectionVars false
set_option maxRecDepth 100000
set_option maxHeartbeats 16000000
namespace Go.Proofs.YtppilhpcmkekbaaGreat
open Go.Proofs.Tryz
abbrev SH:=@Prod.mk.injEq
section
section
open Go.RowKit
section
variable{P:Program}{ops:Array Oper}{rest:List Oper}{n:Sz}{i j k m id fuel:Nat}{f:Nat→Value}{W W' w0:World}{F:List Nat}{L:List Fp}{Q:Exit→Act→World→Prop}{v u:Value}{S:World→Prop}{listed:Array Bool}{ty t t2 e:TypeId}{pos:String}{af:Array Edge}{x y:Operand}{kk:IntKind}{a b c:Int}{q:Bool}{p o l cc:Nat}{A:Option Addr}{cs vs:List Value}{T:TypeId}
theorem AL{op:Op}(hr:(execOp (ev n f) ⟨some k,op,ty,pos,af,none⟩).run P W= .ok (.value v) W')(h:SL P ops Q rest n (upd f k v) W'):SL P ops Q (⟨some k,op,ty,pos,af,none⟩::rest) n f W:=Hf rfl rfl hr h
theorem AX{op:Op}(t:Nat)(hv:ev n f (.tmp t)= .bool q)(hr:(execOp (ev n f) ⟨some k,op,ty,pos,af,some (j,q)⟩).run P W= .ok (.value v) W')(h:SL P ops Q rest n (upd f k v) W')(hj:(ops[j]?).bind (·.dst)=some t:=by kernel_rfl):SL P ops Q (⟨some k,op,ty,pos,af,some (j,q)⟩::rest) n f W:=Hf rfl (EP t hj hv) hr h
theorem Cc{op:Op}{q2:Bool}(t:Nat)(hv:ev n f (.tmp t)= .bool q2)(hc:q2= !q)(h:SL P ops Q rest n (upd f k undef) W)(hj:(ops[j]?).bind (·.dst)=some t:=by kernel_rfl):SL P ops Q (⟨some k,op,ty,pos,af,some (j,q)⟩::rest) n f W:=aqB rfl (FI t hj hv hc) h
theorem Iq{op:Op}(t:Nat)(hv:ev n f (.tmp t)=undef)(h:SL P ops Q rest n (upd f k undef) W)(hj:(ops[j]?).bind (·.dst)=some t:=by kernel_rfl):SL P ops Q (⟨some k,op,ty,pos,af,some (j,q)⟩::rest) n f W:=aqB rfl (axN t hj hv) h
theorem Az(hx:ev n f x= .int kk a)(h:SL P ops Q rest n (upd f k (.int kk a)) W):SL P ops Q (⟨some k,.move x,ty,pos,af,none⟩::rest) n f W:=AL (BP hx) h
theorem BL(hx:ev n f x= .bool q)(h:SL P ops Q rest n (upd f k (.bool q)) W):SL P ops Q (⟨some k,.move x,ty,pos,af,none⟩::rest) n f W:=AL (BP hx) h
theorem BF(hx:ev n f x= .pointer A)(h:SL P ops Q rest n (upd f k (.pointer A)) W):SL P ops Q (⟨some k,.move x,ty,pos,af,none⟩::rest) n f W:=AL (BP hx) h
theorem CY(hx:ev n f x= .slice A l cc)(h:SL P ops Q rest n (upd f k (.slice A l cc)) W):SL P ops Q (⟨some k,.move x,ty,pos,af,none⟩::rest) n f W:=AL (BP hx) h
theorem D9{ts:Array Value}(hx:ev n f x= .tuple ts)(h:SL P ops Q rest n (upd f k (.tuple ts)) W):SL P ops Q (⟨some k,.move x,ty,pos,af,none⟩::rest) n f W:=AL (BP hx) h
theorem AQ(hx:ev n f x= .int kk a)(h:SL P ops Q rest n (upd f k (.int kk a)) W):SL P ops Q (⟨some k,.assign x,ty,pos,af,none⟩::rest) n f W:=AL (DJ hx) h
theorem BN(hx:ev n f x= .bool q)(h:SL P ops Q rest n (upd f k (.bool q)) W):SL P ops Q (⟨some k,.assign x,ty,pos,af,none⟩::rest) n f W:=AL (DJ hx) h
theorem EX(hx:ev n f x= .pointer A)(h:SL P ops Q rest n (upd f k (.pointer A)) W):SL P ops Q (⟨some k,.assign x,ty,pos,af,none⟩::rest) n f W:=AL (DJ hx) h
theorem En(hx:ev n f x= .slice A l cc)(h:SL P ops Q rest n (upd f k (.slice A l cc)) W):SL P ops Q (⟨some k,.assign x,ty,pos,af,none⟩::rest) n f W:=AL (DJ hx) h
theorem ayw{ts:Array Value}(hx:ev n f x= .tuple ts)(h:SL P ops Q rest n (upd f k (.tuple ts)) W):SL P ops Q (⟨some k,.assign x,ty,pos,af,none⟩::rest) n f W:=AL (DJ hx) h
theorem Dl{ad:Addr}(hx:ev n f x= .pointer (some ad))(h:SL P ops Q rest n (upd f k (.pointer (some ad))) W):SL P ops Q (⟨some k,.nilCheck x,ty,pos,af,none⟩::rest) n f W:=AL (ES hx) h
theorem BR(hx:ev n f x= .pointer (some ⟨p,0,none⟩))(hf:∀(a:Addr) (W:World),(Instr.fieldAt t (.pointer (some a)) i).run P W= .ok (.pointer (some (a.add m))) W)(h:SL P ops Q rest n (upd f k (.pointer (some ⟨p,m,none⟩))) W):SL P ops Q (⟨some k,.fieldAddr t x i,ty,pos,af,none⟩::rest) n f W:=AL (CB hx hf) h
theorem BD(H:Heap w0 F L W)(j:Nat)(hx:ev n f x= .pointer (some ⟨p,o,none⟩))(hj:L[j]? =some (blk p cs T))(hv:cs[o]? =some v)(hagg:∀W,(isAgg t).run P W= .ok false W)(h:SL P ops Q rest n (upd f k v) W):SL P ops Q (⟨some k,.load t x,ty,pos,af,none⟩::rest) n f W:=AL (Ef H j hx hj hv hagg) h
theorem Dn(H:Heap w0 F L W)(j:Nat)(hx:ev n f x= .pointer (some ⟨p,0,none⟩))(hj:L[j]? =some (blk p cs T))(hl:cs.length=m)(hagg:∀W,(isAgg t).run P W= .ok true W)(hsz:∀W,(Go.sizeOf t).run P W= .ok m W)(h:SL P ops Q rest n (upd f k (.agg cs.toArray)) W):SL P ops Q (⟨some k,.load t x,ty,pos,af,none⟩::rest) n f W:=AL (Je H j hx hj hl hagg hsz) h
theorem Di(hx:ev n f x= .slice A l cc)(hu:P.underlying t=some (.slice e))(h:SL P ops Q rest n (upd f k (.int .i64 l)) W):SL P ops Q (⟨some k,.call ⟨.builtin .len,#[x],#[t]⟩,ty,pos,af,none⟩::rest) n f W:=AL (Ey hx hu) h
theorem DK(hx:ev n f x= .tuple vs.toArray)(hv:vs[i]? =some (.int kk a))(h:SL P ops Q rest n (upd f k (.int kk a)) W):SL P ops Q (⟨some k,.extract x i,ty,pos,af,none⟩::rest) n f W:=AL (CG hx hv) h
theorem Dp{z:Operand}(hx:ev n f x= .bool false)(hz:ev n f z= .bool q)(h:SL P ops Q rest n (upd f k (.bool q)) W):SL P ops Q (⟨some k,.pick x y z,ty,pos,af,none⟩::rest) n f W:=AL (Ku hx hz) h
theorem ED{z:Operand}(hx:ev n f x= .bool true)(hy:ev n f y= .bool q)(h:SL P ops Q rest n (upd f k (.bool q)) W):SL P ops Q (⟨some k,.pick x y z,ty,pos,af,none⟩::rest) n f W:=AL (HY hx hy) h
theorem BI{fn:FuncId}{xs:Array Operand}{tys:Array TypeId}{q:Option (Nat×Bool)}(H:Heap w0 F L W)(hw:Region.wanted ⟨some k,.call ⟨.value (.func fn),xs,tys⟩,ty,pos,af,q⟩ (yl n f ops)=true)
 (hc:Calls P fn vs.toArray W fun e W'=>e= .returned v∧Only [] W W') (hrun:∀W,(execOp (ev n f) ⟨some k,.call ⟨.value (.func fn),xs,tys⟩,ty,pos,af,q⟩).run P W= .ok (.enter fn vs.toArray) W)
 (h:∀W',Heap w0 F L W'→SL P ops Q rest n (upd f k v) W'):SL P ops Q (⟨some k,.call ⟨.value (.func fn),xs,tys⟩,ty,pos,af,q⟩::rest) n f W:=
 s_call hw hc hrun fun _ W' h'=>⟨v,h'.1,h W' (H.same h'.2)⟩
theorem Bd(i:Nat){op:Oper}(hi:ops[i]? =some op)(h:SL P ops (Exit.then (fun a' w'=>S w'∧wpAnyH P .any ops Q S fuel (listed.setIfInBounds i true) a' w') Q) [op] n f W)(hr:Region.ready .any ops listed=[i]:=by kernel_rfl):TR P ops Q S (fuel+1) listed n f W:=au2 i hr (BO hi h)
theorem CJ(h:PQ Q .normal n f W)(hr:Region.ready .any ops listed=[]:=by kernel_rfl):TR P ops Q S fuel listed n f W:=arj hr h
theorem D6(i i2:Nat)(h:Up P ops Q S fuel listed n f W i)(h2:Up P ops Q S fuel listed n f W i2)(hr:Region.ready .any ops listed=[i,i2]:=by kernel_rfl):TR P ops Q S (fuel+1) listed n f W:=atU i i2 hr h h2
theorem BK{op:Op}{C:World→Prop}{Qa:(Nat→Value)→Prop}(hr:∀W,C W→(execOp (ev n f) ⟨some k,op,ty,pos,af,none⟩).run P W= .ok (.value v) W)(h:QL P ops C Qa rest n (upd f k v)):QL P ops C Qa (⟨some k,op,ty,pos,af,none⟩::rest) n f:=adq rfl rfl hr h
theorem GN{op:Op}{C:World→Prop}{Qa:(Nat→Value)→Prop}(t:Nat)(hv:ev n f (.tmp t)= .bool q)(hr:∀W,C W→(execOp (ev n f) ⟨some k,op,ty,pos,af,some (j,q)⟩).run P W= .ok (.value v) W)(h:QL P ops C Qa rest n (upd f k v))(hj:(ops[j]?).bind (·.dst)=some t:=by kernel_rfl):QL P ops C Qa (⟨some k,op,ty,pos,af,some (j,q)⟩::rest) n f:=adq rfl (EP t hj hv) hr h
theorem BM{g:FuncId}{fn:Func}{c:Code}{l:List Value}{R:Ending→World→Prop}(N:Nat)(hf:P.funcs[g]? =some fn)(hb:fn.body=some c)(h:CW P c (bodyPost P fn R) ⟨N,[]⟩ (args l) W)(hN:fn.ntmps=N:=by rfl)(hl:Nat.ble l.length N=true:=by rfl):Calls P g l.toArray W R:=k_in hf hb hN hl h
abbrev CP(P:Program)(k:Nat):=∀{n:Sz} {f:Nat→Value} {ty:TypeId} {pos:String} {af:Array Edge} {g:Option (Nat×Bool)} {xs:Array Operand} {tys:Array TypeId} {dst:Option Tmp} {vs:List Value} (hv:xs.toList.map (ev n f)=vs) (W:World),(execOp (ev n f) ⟨dst,.call ⟨.value (.func k),xs,tys⟩,ty,pos,af,g⟩).run P W= .ok (.enter k vs.toArray) W
theorem CQ {k : Nat} {F : Func} (hf : P.funcs[k]? = some F) (hn : (F.name == "runtime.NumGoroutine") = false := by kernel_rfl) (hb : F.body.isNone = false := by kernel_rfl) : CP P k := fun hv W => asO hf hn hb hv W
end
theorem Bv{α:Type _}:((∀(x a:α) (l:List α),(x::l).set 0 a=a::l)∧(∀(x a:α) (l:List α) (i:Nat),(x::l).set (i+1) a=x::l.set i a))∧((∀(x:α) (l:List α) (i:Nat),(x::l).take (i+1)=x::l.take i)∧(∀l:List α,l.take 0=[])∧(∀(x:α) (l:List α) (i:Nat),(x::l).drop (i+1)=l.drop i)∧(∀l:List α,l.drop 0=l))∧((∀(x:α) (l m:List α),(x::l)++m=x::(l++m))∧(∀l:List α,[]++l=l)∧(∀l:List α,l++ []=l))∧(∀(x:α) (l:List α),(x::l).length=l.length+1)∧(([]:List α).length=0)∧(∀(x:α) (l:List α) (i:Nat),(x::l).eraseIdx (i+1)=x::l.eraseIdx i)∧(∀(x:α) (l:List α),(x::l).eraseIdx 0=l):=
 ⟨⟨fun _ _ _=>rfl,fun _ _ _ _=>rfl⟩,⟨fun _ _ _=>rfl,fun l=>Ld,fun _ _ _=>rfl,fun _=>rfl⟩,⟨fun _ _ _=>rfl,fun _=>rfl,fun l=>Du l⟩,fun _ _=>rfl,rfl,fun _ _ _=>rfl,fun _ _=>rfl⟩
theorem ayJ{p:Prop}{A r:World→Prop}(k:∀W,A W→r W)(h:(∀W,A W→r W)→p:=by exact fun q=>by intro W H;simp only[Bv,Nat.reduceAdd]at H;exact q W H):p:=h k
end
end
section
section
open Go.RowKit
section
variable{P:Program}{n:Sz}{f:Nat→Value}{W w0:World}{F:List Nat}{L:List Fp}{dst:Option Tmp}{ty:TypeId}{pos:String}{af:Array Edge}{g:Option (Nat×Bool)}{x y:Operand}{v:Value}{k:IntKind}{a b:Int}{t t2 e T:TypeId}{p o m:Nat}{cs vs:List Value}
theorem ace{α:Type}{enc:α→Value}{zs:List α}(h:Reads enc W p o zs)(hl:zs.length=m)(hagg:∀W,(isAgg t).run P W= .ok true W)(hsz:∀W,(Go.sizeOf t).run P W= .ok m W):(loadVar t ⟨p,o,none⟩).run P W= .ok (.agg (zs.map enc).toArray) W:=by
 have hr:=run_loadCells_list (P:=P) W ⟨p,o,none⟩ (zs.map enc) (fun j u hj=>by
  rw[add_plain]
  rw[BG]at hj
  cases hz:zs[j]? with
  |none=>rw[hz]at hj;simp at hj
  |some z=>rw[hz]at hj;rw[h j z hz];simpa using hj)
 simp only[loadVar,Sem.run_bind,hagg,Result.andThen_ok,if_true,hsz]
 rw[Ci,hl]at hr
 rw[hr];simp
theorem SB{α:Type}{enc:α→Value}{zs:List α}(h:Reads enc W p o zs)(hx:ev n f x= .pointer (some ⟨p,o,none⟩))(hl:zs.length=m)(hagg:∀W,(isAgg t).run P W= .ok true W)(hsz:∀W,(Go.sizeOf t).run P W= .ok m W):
 (execOp (ev n f) ⟨dst,.load t x,ty,pos,af,g⟩).run P W= .ok (.value (.agg (zs.map enc).toArray)) W:=by
 have h2:=ace (P:=P) (t:=t) h hl hagg hsz
 simp only[execOp,Instr.loadAt,hx,Instr.sureAddr,Sem.run_bind,Sem.run_pure,Result.andThen_ok,h2]
theorem ai5{l:Nat}{q:Addr}(hx:ev n f x= .pointer (some q))(h:P.underlying t=some (.array l e))(hm:∀W,(Go.sizeOf e).run P W= .ok m W)(hl:0<l):
 (execOp (ev n f) ⟨dst,.slice t x none none none,ty,pos,af,g⟩).run P W= .ok (.value (.slice (some q) l l)) W:=by
 have h1:¬l=0:=Y
 have h2:q.add (0*m)=q:=by simp[Addr.add]
 simp only[execOp,Instr.sliceAt,Instr.sliceBounds,Instr.sureAddr,hx,IB,Sem.run_bind,run_underlying h,Result.andThen_ok,Sem.run_pure,hm,h1,if_false,h2,Yl]
end
section
variable{P:Program}{ops:Array Oper}{rest:List Oper}{n:Sz}{k k2:Nat}{f:Nat→Value}{W w0:World}{F:List Nat}{L:List Fp}{Q:Exit→Act→World→Prop}{ty ty2:TypeId}{pos pos2:String}{af af2:Array Edge}{g:Option (Nat×Bool)}{x y s:Operand}{v u:Value}{t e:TypeId}
end
end
end
section
section
open Go.RowKit
section
variable{P:Program}{n:Sz}{f:Nat→Value}{W w0:World}{dst:Option Tmp}{ty:TypeId}{pos:String}{af:Array Edge}{g:Option (Nat×Bool)}{x y:Operand}{t t2 e e1 e2:TypeId}
theorem ad5{k:IntKind}{l i:Nat}{a:Int}{cs:List Value}{v:Value}(hx:ev n f x= .agg cs.toArray)(hy:ev n f y= .int k a)(ha:a=(i:Int))(hi:i<l)(hv:cs[i]? =some v)(h:P.underlying t=some (.array l e))(hm:∀W,(Go.sizeOf e).run P W= .ok 1 W)(hagg:∀W,(isAgg e).run P W= .ok false W):
 (execOp (ev n f) ⟨dst,.index t x y,ty,pos,af,g⟩).run P W= .ok (.value v) W:=by
 subst ha
 have h1:(0:Int)≤i∧(i:Int)<l:=Y
 have h2:cs.toArray[i]? =some v:=by simpa using hv
 simp only[execOp,Instr.index,hx,hy,asIntOf,Sem.run_bind,run_underlying h,Result.andThen_ok,Sem.run_pure,h1,and_self,if_true,hm,Bz,part,hagg,I4,if_false,Jh,h2]
end
theorem Heap.V3{α:Type}{enc:α→Value}{w0 W:World}{F:List Nat}{L:List Fp}(H:Heap w0 F L W)(j:Nat){q:Nat}{cs:List Value}{zs:List α}{T:TypeId}(hj:L[j]? =some (blk q cs T))(hc:cs=zs.map enc):Reads enc W q 0 zs:=by
 subst hc
 intro i z hz
 rw[DT,Joins.cell_of_block (H.NV j hj)]
 simp[hz]
section
variable{P:Program}{ops:Array Oper}{rest:List Oper}{n:Sz}{k k2:Nat}{f:Nat→Value}{W w0:World}{F:List Nat}{L:List Fp}{Q:Exit→Act→World→Prop}{ty ty2:TypeId}{pos pos2:String}{af af2:Array Edge}{g:Option (Nat×Bool)}{x y s:Operand}{v u:Value}{t e:TypeId}
end
end
end
section
section
open Go.RowKit
def grp(A:List Fp):Fp:=
 ⟨ids A,fun W=>DW A W,fun W h i hi=>by
  obtain⟨E,hE,hm⟩:=KG.1 hi
  exact E.lt W (h.1 E hE) i hm,fun W W' hh h=>⟨fun E hE=>E.loc W W' (fun i hi=>hh i (KG.2 ⟨E,hE,hi⟩)) (h.1 E hE),h.2⟩⟩
theorem Heap.Bl{w0 W:World}{F:List Nat}{L A:List Fp}(H:Heap w0 F L W)(k:Nat)(hk:L[k]? =some (grp A)):DW A W:=H.ok _ (A8 hk)
theorem Hw{W W':World}{F:List Nat}{A:List Fp}(h:Heap W F A W'):Heap W F [grp A] W':=
 ⟨fun E hE=>by(rw[Bf.1 hE];exact h.ents),by simpa [ids,grp]using h.nd,by simpa [ids,grp]using h.own,h.only⟩
theorem Iw{W W':World}{F:List Nat}{A:List Fp}(h:Heap W F [grp A] W'):Heap W F A W':=by
 have hE:=h.Bl 0 rfl
 exact⟨hE.1,hE.2,by have:=h.own;simpa [ids,grp]using this,h.only⟩
theorem Heap.DN{w0 W W':World}{F:List Nat}{L A A':List Fp}(H:Heap w0 F L W)(k:Nat)(hk:L[k]? =some (grp A))(h':Heap W (ids A) A' W'):Heap w0 F (L.set k (grp A')) W':=
 H.at k hk (Hw h') (fun i hi=>hi)
theorem GZ{w:World}{A:List Fp}(h:DW A w):Heap w (ids A) [grp A] w:=Hw (Heap.start h)
section
variable{P:Program}{n:Sz}{f:Nat→Value}{W:World}{dst:Option Tmp}{ty:TypeId}{pos:String}{af:Array Edge}{g:Option (Nat×Bool)}{x y:Operand}{t t2:TypeId}
end
end
end
section
section
open Go.RowKit
inductive C1 where
 |i (k:IntKind) (z:Int)
 |b (q:Bool)
 |s (A:Option Addr) (n c:Nat)
 |p (A:Option Addr)
def C1.v:C1→Value
 | .i k z=> .int k z
 | .b q=> .bool q
 | .s A n c=> .slice A n c
 | .p A=> .pointer A
theorem C1.one(x:C1):x.v.oneCell'=true:=by cases x<;>rfl
theorem Gm.row{α:Type}{enc:α→Value}{w:World}{F:List Nat}{A:Option Addr}{n:Nat}{xs:List α}(h:Gm enc w F A xs)(hl:xs.length=n):Gv w w.heap.size A n (xs.map enc):=
 ⟨by simpa using hl,fun h0=>by
  obtain⟨b,o,rfl,_,hr⟩:=h Y
  refine⟨b,o,rfl,?_,fun j u hu=>?_⟩
  ·have:=hr 0 xs[0] (Ar Y)
   exact cell_lt this
  ·rw[BG]at hu
   cases hj:xs[j]? with
   |none=>rw[hj]at hu;cases hu
   |some z=>rw[hj]at hu;rw[hr j z hj];simpa using hu⟩
theorem afO{w w':World}{size n:Nat}{v:Value}{xs:List Value}{T:TypeId}(ho:w'.ownsRow w.heap.size T size v n xs)(hb:Below w.heap.size w w'):
 ∃A c,v= .slice A n c∧Heap w [] [Dw size (.slice A n c) n xs T] w':=by
 obtain⟨A,c,rfl⟩:∃A c,v= .slice A n c:=by
  rcases ho.2 with⟨rfl,h0⟩|⟨g,cap,cur,rfl,_⟩
  ·exact⟨none,0,by rw[h0]⟩
  ·exact⟨_,_,rfl⟩
 refine⟨A,c,rfl,?_,?_,?_,Only.of_below hb _⟩
 ·intro E hE;rw[Bf.1 hE];exact ame ho (JK _)
 ·simpa [ids,Dw]using acR _
 ·intro i hi
  right
  simp[ids,Dw]at hi
  exact Zw ho i hi
theorem Heap.KJ{α:Type}{enc:α→Value}{w0 W:World}{F:List Nat}{L:List Fp}(H:Heap w0 F L W)(j:Nat){A:Option Addr}{n c:Nat}{xs:List α}{T:TypeId}(hj:L[j]? =some (Dw 1 (.slice A n c) n (xs.map enc) T)):Gm enc W [] A xs:=by
 have ho:=H.IK j hj
 intro h0
 have hn:xs.length=n:=by simpa using ho.1
 rcases ho.2 with⟨h1,h2⟩|⟨g,cap,cur,h1,_,hg,h3,_,h5,h6⟩
 ·omega
 ·injection h1 with h1 _ _
  refine⟨g,0,h1,J,fun i z hz=>?_⟩
  rw[DT,Joins.cell_of_block hg]
  have:(cur.toList.take (n*1))[i]? =some (enc z):=by rw[h6,BG,hz];rfl
  rw[IV]at this
  split at this
  ·simpa using this
  ·cases this
theorem DW.KJ{α:Type}{enc:α→Value}{W:World}{A:Option Addr}{n c:Nat}{xs:List α}{T:TypeId}{L:List Fp}(h:DW L W)(hj:Dw 1 (.slice A n c) n (xs.map enc) T∈L):Gm enc W [] A xs:=by
 obtain⟨j,hj2⟩:=List.mem_iff_getElem?.1 hj
 exact(Heap.start h).KJ j hj2
theorem Heap.XW{w0 W:World}{F:List Nat}{E:Fp}{A L:List Fp}(H:Heap w0 F (E::grp A::L) W):Heap w0 F (grp (A++ [E])::L) W:=by
 have hnd:=H.nd
 have e1:ids (E::grp A::L)=E.ids++(ids A++ids L):=by simp[ids,grp]
 have e2:ids (grp (A++ [E])::L)=(ids A++E.ids)++ids L:=by simp[ids,grp]
 have hp:(ids (E::grp A::L)).Perm (ids (grp (A++ [E])::L)):=by
  rw[e1,e2,←DI];exact Gj.append_right _
 have arN:=hp.nodup_iff.1 hnd
 have hA:DW A W:=H.ok (grp A) J
 refine⟨fun X hX=>?_,arN,fun i hi=>H.own i (hp.mem_iff.2 hi),H.only⟩
 rcases Dq.1 hX with rfl|hX
 ·refine⟨fun Ap hY=>?_,?_⟩
  ·rcases BJ.1 hY with hY|hY
   ·exact hA.1 Ap hY
   ·rw[Bf.1 hY];exact H.ok E J
  ·rw[e2]at arN
   have:=(CS.1 arN).1
   simpa [ids]using this
 ·exact H.ok X (by simp[hX])
theorem Heap.aag{w0 W:World}{F:List Nat}{L:List Fp}(H:Heap w0 F L W):Heap w0 F (grp []::L) W:=by
 refine⟨fun X hX=>?_,by simpa [ids,grp]using H.nd,fun i hi=>H.own i (by simpa [ids,grp]using hi),H.only⟩
 rcases Dq.1 hX with rfl|hX
 ·exact⟨J,by simp[ids]⟩
 ·exact H.ok X hX
section
variable{P:Program}{n:Sz}{f:Nat→Value}{W w0:World}{dst:Option Tmp}{ty:TypeId}{pos:String}{af:Array Edge}{g:Option (Nat×Bool)}{x y:Operand}{t t2 e:TypeId}{v:Value}
end
section
variable{P:Program}{ops:Array Oper}{rest:List Oper}{n:Sz}{k k2:Nat}{f:Nat→Value}{W w0:World}{F:List Nat}{L:List Fp}{Q:Exit→Act→World→Prop}{ty ty2:TypeId}{pos pos2:String}{af af2:Array Edge}{g:Option (Nat×Bool)}{x y s:Operand}{v u:Value}{t e:TypeId}
theorem adA{α:Type}{enc:α→Value}{z0:Value}{bytes m l c:Nat}{A:Option Addr}{xs zs:List α}(H:Heap w0 F L W)(j:Nat)(hj:L[j]? =some (Dw 1 v m (xs.map enc) e))
 (hw:Region.wanted ⟨some k,.call ⟨.builtin .append,#[s,y],#[t,t]⟩,ty,pos,af,g⟩ (yl n f ops)=true) (hs:ev n f s=v) (hy:ev n f y= .slice A l c) (hz:Gm enc W [] A zs) (hl:zs.length=l) (h1:∀z,(enc z).oneCell'=true)
 (hm:m+l≤100000000000∧(m+l)*bytes≤140737488355328) (ht:P.underlying t=some (.slice e)) (hi:Inf P e z0 1 bytes) (hz0:z0.oneCell'=true)
 (h:∀A' c' W',Heap w0 F (L.set j (Dw 1 (.slice A' (m+l) c') (m+l) ((xs++zs).map enc) e)) W'→SL P ops Q rest n (upd f k (.slice A' (m+l) c')) W'):
 SL P ops Q (⟨some k,.call ⟨.builtin .append,#[s,y],#[t,t]⟩,ty,pos,af,g⟩::rest) n f W:=by
 have hown:=H.IK j hj
 obtain⟨i,hi0,hzz,hsz,hby⟩:=hi.ex
 have key:∃v' W',(Builtin.append_ #[t,t] ty #[v,.slice A l c]).run P W= .ok v' W'∧W'.ownsRow 0 e 1 v' (m+l) (xs.map enc++zs.map enc)∧W.grownBy W' v.ownBlock∧(∀k,v'.ownBlock=some k→v.ownBlock=some k∨W.heap.size≤k):=by
  cases A with
  |some p=>
   by_cases h0:zs.length=0
   ·obtain rfl:zs=[]:=BZ h0
    obtain rfl:l=0:=by simpa using hl.symm
    exact RH (P:=P) t ty e ht hi (by simp[Jr hz0]) Y v m (xs.map enc) hown p 0 c [] rfl (fun _ _ hq=>by simp at hq) J zZ hm.2
   ·obtain⟨q,r,e0,hq,hr2⟩:=hz h0
    injection e0 with e0
    subst e0
    refine RH (P:=P) t ty e ht hi (by simp[Jr hz0]) Y v m (xs.map enc) hown ⟨q,r,none⟩ l c (zs.map enc) (by simp[hl]) (fun a u ha=>?_) (fun u hu=>?_) zZ hm.2
    ·rw[BG]at ha
     cases hza:zs[a]? with
     |none=>rw[hza]at ha;simp at ha
     |some z=>rw[hza]at ha;rw[add_plain,hr2 a z hza];simpa using ha
    ·obtain⟨z,_,rfl⟩:=BX.1 hu;exact h1 z
  |none=>
   have h0:zs.length=0:=by
    rcases Ii zs.length with h0|h0
    ·exact h0
    ·obtain⟨q,r,e0,_⟩:=hz Y;cases e0
   obtain rfl:zs=[]:=BZ h0
   obtain rfl:l=0:=by simpa using hl.symm
   refine⟨v,W,?_,by simpa using hown,⟨rfl,rfl,rfl,Bg _,fun _ _ _=>rfl⟩,fun k hk=> .inl hk⟩
   rcases hown.2 with⟨rfl,rfl⟩|⟨q,cap,cur,rfl,_,hg,hnc,_⟩
   ·simp[Builtin.append_,run_underlying ht,Go.sizeOf,typeInfo,hi0,Builtin.lenOf,Builtin.firstCells]
   ·simp[Builtin.append_,run_underlying ht,Go.sizeOf,typeInfo,hi0,Builtin.lenOf,Builtin.firstCells,hnc,storeCells]
 obtain⟨v',W2,hr,o1,o2,o3⟩:=key
 have H3:=H.app j hj (m:=l) o1 o2 o3
 rw[←BU]at H3
 obtain⟨A',c',rfl⟩:∃A' c',v'= .slice A' (m+l) c':=by
  rcases o1.2 with⟨rfl,h0⟩|⟨q,cap,cur,rfl,_⟩
  ·exact⟨none,0,by rw[h0]⟩
  ·exact⟨_,_,rfl⟩
 exact Hf rfl hw (W':=W2) (v:= .slice A' (m+l) c') Ac (h A' c' W2 H3)
theorem LC{α:Type}{enc:α→Value}{zs:List α}{z0:Value}{bytes m:Nat}{parts:Array (Nat×Operand)}{vs:List (Nat×Value)}(H:Heap w0 F L W)
 (hw:Region.wanted ⟨some k,.buildSlice t m parts,ty,pos,af,g⟩ (yl n f ops)=true) (hv:parts.toList.map (fun p=>(p.1,ev n f p.2))=vs) (hl:zs.length=m) (hm:0<m∧m≤1000)
 (VO:Instr.fill (fun i=>some (i*1,1)) ((Array.range m).map (z0.cells[· %z0.cells.size]!)) vs=some (zs.map enc).toArray)
 (ht:P.underlying t=some (.slice e)) (hi:Inf P e z0 1 bytes)
 (h:∀p W',Heap w0 F (Dw 1 (.slice (some ⟨p,0,none⟩) m m) m (zs.map enc) e::L) W'→SL P ops Q rest n (upd f k (.slice (some ⟨p,0,none⟩) m m)) W'):SL P ops Q (⟨some k,.buildSlice t m parts,ty,pos,af,g⟩::rest) n f W:=by
 obtain⟨i,hi0,hz0,hsz,hby⟩:=hi.ex
 have hbig:¬(m*1>2^24):=Y
 have hne:¬(m*1=0):=Y
 have r1:(Instr.buildSlice t m vs.toArray).run P W= .ok (.slice (some ⟨W.heap.size,0,none⟩) m m) (W.alloc (.cells (zs.map enc).toArray e)):=by
  have hz1:(zeroValue e).run P W= .ok z0 W:=by simp[zeroValue,typeInfo,hi0,hz0]
  have hs1:(Go.sizeOf e).run P W= .ok 1 W:=by simp[Go.sizeOf,typeInfo,hi0,hsz]
  refine jg ?_
  rw[show(m*1)=m from by omega]
  simp only[VO]
  rfl
 have r2:(execOp (ev n f) ⟨some k,.buildSlice t m parts,ty,pos,af,g⟩).run P W= .ok (.value (.slice (some ⟨W.heap.size,0,none⟩) m m)) (W.alloc (.cells (zs.map enc).toArray e)):=by
  have hp:parts.map (fun p=>(p.1,ev n f p.2))=vs.toArray:=by
   apply Array.toList_inj.1
   rw[JW,hv]
  simp only[execOp,hp,Sem.run_bind,r1,Result.andThen_ok];rfl
 refine Hf O hw r2 (h _ _ ?_)
 have hzl:(zs.map enc).length=m:=by simpa using hl
 refine H.more (A:=[Dw 1 (.slice (some ⟨W.heap.size,0,none⟩) m m) m (zs.map enc) e]) ⟨?_,by simp[ids,Dw,Value.ownBlock],by simp[ids,Dw,Value.ownBlock],Only.of_below ((Below.refl _ _).alloc (Bg _) _) _⟩
 intro E hE;rw[Bf.1 hE]
 exact⟨by simpa using hzl,.inr ⟨_,m,_,rfl,JK _,heap_alloc_new W _,Bg _,by unfold maxLen;omega,by simpa using hzl,by rw[Jh];exact Ez (Nat.le_of_eq hzl)⟩⟩
theorem aq5{α:Type}{enc:α→Value}{z0:Value}{bytes m l:Nat}{xs zs:List α}{parts:Array (Nat×Operand)}{vs:List (Nat×Value)}(H:Heap w0 F L W)(j:Nat)(hj:L[j]? =some (Dw 1 v m (xs.map enc) e))
 (hw:Region.wanted ⟨some k,.buildSlice t l parts,ty,pos,af,g⟩ (yl n f ops)=true) (hv:parts.toList.map (fun p=>(p.1,ev n f p.2))=vs) (hl:zs.length=l) (hl0:0<l∧l≤1000)
 (VO:Instr.fill (fun i=>some (i*1,1)) ((Array.range l).map (z0.cells[· %z0.cells.size]!)) vs=some (zs.map enc).toArray) (h1:∀z,(enc z).oneCell'=true)
 (hw2:∀q,Region.wanted ⟨some k2,.call ⟨.builtin .append,#[s,.tmp k],#[t,t]⟩,ty2,pos2,af2,g⟩ (yl n (upd f k q) ops)=true) (hs:∀q,ev n (upd f k q) s=v) (hk:Nat.blt k n.n=true)
 (hm:m+l≤100000000000∧(m+l)*bytes≤140737488355328) (ht:P.underlying t=some (.slice e)) (hi:Inf P e z0 1 bytes) (hz0:z0.oneCell'=true)
 (h:∀q A c W',Heap w0 F (L.set j (Dw 1 (.slice A (m+l) c) (m+l) ((xs++zs).map enc) e)) W'→SL P ops Q rest n (upd (upd f k q) k2 (.slice A (m+l) c)) W'):
 SL P ops Q (⟨some k,.buildSlice t l parts,ty,pos,af,g⟩::⟨some k2,.call ⟨.builtin .append,#[s,.tmp k],#[t,t]⟩,ty2,pos2,af2,g⟩::rest) n f W:=by
 refine LC (enc:=enc) (zs:=zs) H hw hv hl hl0 VO ht hi ?_
 intro p W1 H1
 refine adA (enc:=enc) (zs:=zs) H1 (j+1) zN (hw2 _) (hs _) (show ev n (upd f k (.slice (some ⟨p,0,none⟩) l l)) (.tmp k)= .slice (some ⟨p,0,none⟩) l l by simp[ev,hk,upd]) (H1.KJ 0 O) hl h1 hm ht hi hz0 ?_
 intro A c W2 H2
 rw[AY]at H2
 exact h _ A c W2 H2.drop
end
end
end
section
section
open Go.RowKit
theorem lv7{f:Nat→Value}{k1 k2 k3 k4 k5 k6 k7:Nat}{v1 v2 v3 v4 v5 v6 v7:Value}(h1:f k1=v1)(h2:f k2=v2)(h3:f k3=v3)(h4:f k4=v4)(h5:f k5=v5)(h6:f k6=v6)(h7:f k7=v7):∃g,f=upd (upd (upd (upd (upd (upd (upd g k1 v1) k2 v2) k3 v3) k4 v4) k5 v5) k6 v6) k7 v7:=⟨f,by rw[upd_same h1,upd_same h2,upd_same h3,upd_same h4,upd_same h5,upd_same h6,upd_same h7]⟩
theorem lv8{f:Nat→Value}{k1 k2 k3 k4 k5 k6 k7 k8:Nat}{v1 v2 v3 v4 v5 v6 v7 v8:Value}(h1:f k1=v1)(h2:f k2=v2)(h3:f k3=v3)(h4:f k4=v4)(h5:f k5=v5)(h6:f k6=v6)(h7:f k7=v7)(h8:f k8=v8):∃g,f=upd (upd (upd (upd (upd (upd (upd (upd g k1 v1) k2 v2) k3 v3) k4 v4) k5 v5) k6 v6) k7 v7) k8 v8:=⟨f,by rw[upd_same h1,upd_same h2,upd_same h3,upd_same h4,upd_same h5,upd_same h6,upd_same h7,upd_same h8]⟩
theorem lv9{f:Nat→Value}{k1 k2 k3 k4 k5 k6 k7 k8 k9:Nat}{v1 v2 v3 v4 v5 v6 v7 v8 v9:Value}(h1:f k1=v1)(h2:f k2=v2)(h3:f k3=v3)(h4:f k4=v4)(h5:f k5=v5)(h6:f k6=v6)(h7:f k7=v7)(h8:f k8=v8)(h9:f k9=v9):∃g,f=upd (upd (upd (upd (upd (upd (upd (upd (upd g k1 v1) k2 v2) k3 v3) k4 v4) k5 v5) k6 v6) k7 v7) k8 v8) k9 v9:=⟨f,by rw[upd_same h1,upd_same h2,upd_same h3,upd_same h4,upd_same h5,upd_same h6,upd_same h7,upd_same h8,upd_same h9]⟩
theorem asl{f:Nat→Value}{k1 k2 k3 k4 k5 k6 k7 k8 k9 k10:Nat}{v1 v2 v3 v4 v5 v6 v7 v8 v9 v10:Value}(h1:f k1=v1)(h2:f k2=v2)(h3:f k3=v3)(h4:f k4=v4)(h5:f k5=v5)(h6:f k6=v6)(h7:f k7=v7)(h8:f k8=v8)(h9:f k9=v9)(h10:f k10=v10):∃g,f=upd (upd (upd (upd (upd (upd (upd (upd (upd (upd g k1 v1) k2 v2) k3 v3) k4 v4) k5 v5) k6 v6) k7 v7) k8 v8) k9 v9) k10 v10:=⟨f,by rw[upd_same h1,upd_same h2,upd_same h3,upd_same h4,upd_same h5,upd_same h6,upd_same h7,upd_same h8,upd_same h9,upd_same h10]⟩
theorem ar4{f:Nat→Value}{k1 k2 k3 k4 k5 k6 k7 k8 k9 k10 k11:Nat}{v1 v2 v3 v4 v5 v6 v7 v8 v9 v10 v11:Value}(h1:f k1=v1)(h2:f k2=v2)(h3:f k3=v3)(h4:f k4=v4)(h5:f k5=v5)(h6:f k6=v6)(h7:f k7=v7)(h8:f k8=v8)(h9:f k9=v9)(h10:f k10=v10)(h11:f k11=v11):∃g,f=upd (upd (upd (upd (upd (upd (upd (upd (upd (upd (upd g k1 v1) k2 v2) k3 v3) k4 v4) k5 v5) k6 v6) k7 v7) k8 v8) k9 v9) k10 v10) k11 v11:=⟨f,by rw[upd_same h1,upd_same h2,upd_same h3,upd_same h4,upd_same h5,upd_same h6,upd_same h7,upd_same h8,upd_same h9,upd_same h10,upd_same h11]⟩
theorem W9(z:Value)(n:Nat)(h1:z.cells= #[z]):Builtin.zeroCells z.cells n=(List.replicate n z).toArray:=by
 unfold Builtin.zeroCells
 rw[h1]
 apply Array.toList_inj.1
 apply Eu
 intro i
 simp only[JW,Array.toList_range,BG,List.getElem?_range',D7]
 by_cases hi:i<n
 ·have:i<n* #[z].size:=by simpa using hi
  rw[FD this]
  simp[hi,Nat.mod_one]
 ·rw[DC Af]
  simp[hi]
section
variable{P:Program}{W:World}
theorem alG(t tn ty e:TypeId){z:Value}{bytes:Nat}{kn k:IntKind}(ht:P.underlying t=some (.slice e))(htn:P.underlying tn=some (.int kn))(hi:Inf P e z 1 bytes)(hz1:z.oneCell'=true)
 (v:Value) (n:Nat) (xs:List Value) (hown:W.ownsRow 0 e 1 v n xs) (m:Nat) (h63:n+m≤100000000000) (hbytes:(n+m)*bytes≤140737488355328):
 ∃v' W',(Builtin.append_ #[t,tn] ty #[v,.int k m]).run P W= .ok v' W'∧W'.ownsRow 0 e 1 v' (n+m) (xs++List.replicate m z)∧W.grownBy W' v.ownBlock∧(∀k,v'.ownBlock=some k→v.ownBlock=some k∨W.heap.size≤k):=by
 obtain⟨i,hi0,hz,hsz,hb⟩:=hi.ex
 subst hb
 have hzc:=Jr hz1
 have hzz:=W9 z m hzc
 have hw:IntKind.i64.wrap (m:Int)=m:=by rw[IntKind.wrap_i64];omega
 have hneg:¬((m:Int)<0):=Y
 have hmb:m*i.bytes≤140737488355328:=F9 (MX _ Y) hbytes
 have h48i:¬(281474976710656<(m:Int)*(i.bytes:Int)):=by
  rw[←GK];omega
 have hmx:n+m≤maxLen:=by unfold maxLen;omega
 have hlen:(xs++List.replicate m z).length=(n+m)*1:=by rw[Cm,hown.1,CV];omega
 have alc:∀(old:Nat),old<n+m→∀(row:Option Nat),
  (W.drew.alloc (.cells (xs.toArray++(List.replicate m z).toArray++Builtin.zeroCells z.cells (grownCap W (n+m) old e-(n+m))) e)).ownsRow 0 e 1
   (.slice (some ⟨W.heap.size,0,none⟩) (n+m) (grownCap W (n+m) old e)) (n+m) (xs++List.replicate m z)∧
  W.grownBy (W.drew.alloc (.cells (xs.toArray++(List.replicate m z).toArray++Builtin.zeroCells z.cells (grownCap W (n+m) old e-(n+m))) e)) row:=by
  intro old ho row
  have hge:=grownCap_ge W (n+m) old e
  have hcm:grownCap W (n+m) old e≤maxLen:=grownCap_le_maxLen W (n+m) old e hmx
  refine⟨⟨hlen,.inr ⟨W.heap.size,_,_,rfl,JK _,heap_alloc_new W.drew _,hge,hcm,?_,?_⟩⟩,⟨rfl,rfl,rfl,J,fun k hk _=>Go.heap_alloc_old W.drew _ hk⟩⟩
  ·have hx:=hown.1
   have hz0:z.cells.size=1:=by rw[hzc];rfl
   simp only[Array.size_append,Iu,size_zeroCells,hz0,hx,CV]
   omega
  ·simp only[Array.toList_append,DI]
   rw[←DI,←hlen]
   exact Vz
 rcases hown.2 with⟨rfl,rfl⟩|⟨g,cap,cur,rfl,hbg,hg,hnc,hcm,hcs,htake⟩
 ·have hx:xs=[]:=BZ (by simpa using hown.1)
  subst hx
  by_cases hm:m=0
  ·subst hm
   refine⟨.slice none 0 0,W,?_,World.ownsRow_nil W 0 e 1,⟨rfl,rfl,rfl,Bg _,fun _ _ _=>rfl⟩,fun k hk=>by cases hk⟩
   have hw0:IntKind.i64.wrap 0=0:=rfl
   simp[Builtin.append_,run_underlying ht,run_underlying htn,Go.sizeOf,typeInfo,hi0,asInt,asIntOf,hsz,hw0]
  ·have hr:=Lib.run_append_nil_zeros (P:=P) W t tn ty e i z k kn ht htn hi0 hz m Y Y Y Y
   have hgr:=alc 0 Y (Value.ownBlock (.slice none 0 0))
   rw[hzz]at hr
   simp only[DT,EH,Array.empty_append]at hgr⊢
   refine⟨_,_,hr,?_,hgr.2,fun k hk=> .inr ?_⟩
   ·have:=hgr.1;simpa using this
   ·simp[Value.ownBlock]at hk;omega
 ·by_cases hroom:n+m≤cap
  ·have hst:=run_storeCells_at P g (n*1) e (List.replicate m z) 0 cur W hg Af (by intro u hu;rw[(Og.1 hu).2];exact hz1)
   simp only[KF]at hst
   have hr:(Builtin.append_ #[t,tn] ty #[.slice (some ⟨g,0,none⟩) n cap,.int k m]).run P W= .ok (.slice (some ⟨g,0,none⟩) (n+m) cap) (W.setRow g (cur.toList.take (n*1)++List.replicate m z++cur.toList.drop (n*1+(List.replicate m z).length)).toArray):=by
    by_cases h0:m=0
    ·subst h0
     have hw0:IntKind.i64.wrap 0=0:=rfl
     have asr:n≤cap:=Y
     simp at hst
     simp[Builtin.append_,run_underlying ht,run_underlying htn,Go.sizeOf,typeInfo,hi0,asInt,asIntOf,hsz,hw0,asr,Addr.add_lit,hst]
    ·simp only[Jh,CV,DI]at hst
     simp[Builtin.append_,run_underlying ht,run_underlying htn,Go.sizeOf,typeInfo,zeroValue,hi0,hz,asInt,asIntOf,hsz,hw,hneg,h48i,hroom,h0,hzz,Addr.add_lit,hst]
   refine⟨_,_,hr,⟨hlen,.inr ⟨g,cap,_,rfl,hbg,setRow_heap W g cur _ e _ hg,hroom,hcm,?_,?_⟩⟩,⟨rfl,rfl,rfl,J,fun k _ hk=>setRow_other W g k _ (fun e=>hk (by simp[Value.ownBlock,e]))⟩,fun k hk=> .inl hk⟩
   ·simp only[Iu,Cm,Dy,CZ,Qh,CV]
    omega
   ·rw[htake,←hlen]
    exact Vz
  ·have hr:(Builtin.append_ #[t,tn] ty #[.slice (some ⟨g,0,none⟩) n cap,.int k m]).run P W= .ok (.slice (some ⟨W.heap.size,0,none⟩) (n+m) (grownCap W (n+m) cap e)) (W.drew.alloc (.cells (xs.toArray++(List.replicate m z).toArray++Builtin.zeroCells z.cells (grownCap W (n+m) cap e-(n+m))) e)):=by
    have h0:m≠0:=Y
    have hn:¬(n+m≤cap):=hroom
    have h63':¬(9223372036854775807<((n:Int)+(m:Int))):=Y
    have hfit:=growslice_fits (need:=n+m) (old:=cap) (bytes:=i.bytes) Y hbytes
    have h48':¬(281474976710656<Builtin.nextslicecap (n+m) cap*i.bytes):=Y
    have holds:∀j u,xs[j]? =some u→W.cell? ((⟨g,0,none⟩:Addr).add j)=some u:=hown.cells (g:=g) rfl
    have hfo:=run_firstCells_some (P:=P) W.drew 1 n ⟨g,0,none⟩ n cap xs hown.1 (by simpa using holds)
    simp[Builtin.append_,run_underlying ht,run_underlying htn,Go.sizeOf,typeInfo,zeroValue,hi0,hz,asInt,asIntOf,hsz,hw,hneg,h48i,hn,h0,h63',h48',Question.forced,hfo,hzz,newRow,grownCap]
   have hgr:=alc cap Y (Value.ownBlock (.slice (some ⟨g,0,none⟩) n cap))
   exact⟨_,_,hr,hgr.1,hgr.2,fun k hk=> .inr (by simp[Value.ownBlock]at hk;omega)⟩
end
section
variable{P:Program}{n:Sz}{f:Nat→Value}{W w0:World}{dst:Option Tmp}{ty:TypeId}{pos:String}{af:Array Edge}{g:Option (Nat×Bool)}{x y:Operand}{t t2 e:TypeId}{v:Value}{k k2:IntKind}{a b:Int}
theorem av6{p o l c:Nat}{lo:Operand}{i m:Nat}(hx:ev n f x= .slice (some ⟨p,o,none⟩) l c)(hl:ev n f lo= .int k a)(ha:a=(i:Int))(hi:i≤l)(h:P.underlying t=some (.slice e))(hm:∀W,(Go.sizeOf e).run P W= .ok m W):
 (execOp (ev n f) ⟨dst,.slice t x (some lo) none none,ty,pos,af,g⟩).run P W= .ok (.value (.slice (some (if c=i then⟨p,o,none⟩else⟨p,o+i*m,none⟩)) (l-i) (c-i))) W:=by
 subst ha
 have h1:(0:Int)≤i∧(i:Int)≤l:=Y
 simp only[execOp,Instr.sliceAt,Instr.slice,Instr.sliceBounds,Instr.sliceBound,hx,hl,asIntOf,EN,IB,Sem.run_bind,run_underlying h,Result.andThen_ok,Sem.run_pure,h1,and_self,if_true,hm,Bz,add_plain]
 split<;>rfl
theorem aaQ{p o l c:Nat}{hi:Operand}{j m:Nat}(hx:ev n f x= .slice (some ⟨p,o,none⟩) l c)(hh:ev n f hi= .int k a)(ha:a=(j:Int))(hj:j≤c)(h:P.underlying t=some (.slice e))(hm:∀W,(Go.sizeOf e).run P W= .ok m W):
 (execOp (ev n f) ⟨dst,.slice t x none (some hi) none,ty,pos,af,g⟩).run P W= .ok (.value (.slice (some ⟨p,o,none⟩) j c)) W:=by
 subst ha
 have h1:(0:Int)≤j∧(j:Int)≤c:=Y
 simp only[execOp,Instr.sliceAt,Instr.slice,Instr.sliceBounds,Instr.sliceBound,hx,hh,asIntOf,EN,IB,Sem.run_bind,run_underlying h,Result.andThen_ok,Sem.run_pure,h1,and_self,if_true,hm,Bz,add_plain]
 split<;>simp
end
section
variable{P:Program}{ops:Array Oper}{rest:List Oper}{n:Sz}{k k2:Nat}{f:Nat→Value}{W w0:World}{F:List Nat}{L:List Fp}{Q:Exit→Act→World→Prop}{ty ty2:TypeId}{pos pos2:String}{af af2:Array Edge}{g:Option (Nat×Bool)}{x y s:Operand}{v u:Value}{t tn e:TypeId}
theorem atG{α:Type}{enc:α→Value}{z:α}{bytes m l:Nat}{xs:List α}{kn q:IntKind}{a:Int}(H:Heap w0 F L W)(j:Nat)(hj:L[j]? =some (Dw 1 v m (xs.map enc) e))
 (hw:Region.wanted ⟨some k,.call ⟨.builtin .append,#[s,y],#[t,tn]⟩,ty,pos,af,g⟩ (yl n f ops)=true) (hs:ev n f s=v) (hy:ev n f y= .int q a) (ha:a=(l:Int))
 (hm:m+l≤100000000000∧(m+l)*bytes≤140737488355328) (ht:P.underlying t=some (.slice e)) (htn:P.underlying tn=some (.int kn)) (hi:Inf P e (enc z) 1 bytes) (hz0:(enc z).oneCell'=true)
 (h:∀A' c' W',Heap w0 F (L.set j (Dw 1 (.slice A' (m+l) c') (m+l) ((xs++List.replicate l z).map enc) e)) W'→SL P ops Q rest n (upd f k (.slice A' (m+l) c')) W'):
 SL P ops Q (⟨some k,.call ⟨.builtin .append,#[s,y],#[t,tn]⟩,ty,pos,af,g⟩::rest) n f W:=by
 subst ha
 have hown:=H.IK j hj
 obtain⟨v',W2,hr,o1,o2,o3⟩:=alG (P:=P) (W:=W) t tn ty e (k:=q) ht htn hi hz0 v m (xs.map enc) hown l hm.1 hm.2
 have H3:=H.app j hj (m:=l) o1 o2 o3
 rw[←List.map_replicate,←BU]at H3
 obtain⟨A',c',rfl⟩:∃A' c',v'= .slice A' (m+l) c':=by
  rcases o1.2 with⟨rfl,h0⟩|⟨q,cap,cur,rfl,_⟩
  ·exact⟨none,0,by rw[h0]⟩
  ·exact⟨_,_,rfl⟩
 exact Hf rfl hw (W':=W2) (v:= .slice A' (m+l) c') Ac (h A' c' W2 H3)
theorem auk{α:Type}(enc:α→Value)(z:α){kl kc:IntKind}{a b:Int}(m:Nat){bytes:Nat}(H:Heap w0 F L W)(hw:Region.wanted ⟨some k,.makeSlice t x y,ty,pos,af,g⟩ (yl n f ops)=true)
 (hx:ev n f x= .int kl a) (hy:ev n f y= .int kc b) (ha:a=0) (hb:b=(m:Int)) (hm:m*bytes≤140737488355328∧m≤100000000000) (ht:P.underlying t=some (.slice e)) (hi:Inf P e (enc z) 1 bytes) (h1:(enc z).oneCell'=true)
 (h:∀p W',Heap w0 F (Dw 1 (.slice (some ⟨p,0,none⟩) 0 m) 0 (([]:List α).map enc) e::L) W'→SL P ops Q rest n (upd f k (.slice (some ⟨p,0,none⟩) 0 m)) W'):SL P ops Q (⟨some k,.makeSlice t x y,ty,pos,af,g⟩::rest) n f W:=by
 subst ha;subst hb
 obtain⟨i,hi,hz,hs,hby⟩:=hi.ex
 have hb':(i.bytes:Int)*(m:Int)≤281474976710656:=by
  have h2:((i.bytes*m:Nat):Int)≤281474976710656:=by rw[hby,JG];omega
  rwa [GK]at h2
 have hr:=run_make (P:=P) W t e i (enc z) ht hi hz kl kc 0 m Y Y hb' Y
 simp only[Bz,hs,Jh,WZ _ _ (Jr h1),Int.toNat_zero]at hr
 refine Hf O hw (W':=W.alloc (.cells (List.replicate m (enc z)).toArray e)) Ad (h W.heap.size _ ?_)
 refine H.more (A:=[Dw 1 (.slice (some ⟨W.heap.size,0,none⟩) 0 m) 0 [] e]) ⟨?_,by simp[ids,Dw,Value.ownBlock],by simp[ids,Dw,Value.ownBlock],Only.of_below ((Below.refl _ _).alloc (Bg _) _) _⟩
 intro E hE;rw[Bf.1 hE]
 exact World.ownsRow_made W _ m (JK _) zZ J
end
end
end
section
section
open Go.RowKit
section
variable{P:Program}{n:Sz}{f:Nat→Value}{W:World}{ty:TypeId}{pos:String}{af:Array Edge}{g:Option (Nat×Bool)}{c:Operand}
theorem aov {fn : FuncId} {F : Func} {xs : Array Operand} {tys : Array TypeId} {dst : Option Tmp} {vs : List Value} {cap : List Value} (hc : ev n f c = .func (.func fn) #[] cap.toArray) (hf : P.funcs[fn]? = some F) (hn : (F.name == "runtime.NumGoroutine") = false) (hb : F.body.isNone = false)
 (hv:xs.toList.map (ev n f)=vs) (W:World):(execOp (ev n f) ⟨dst,.call ⟨.value c,xs,tys⟩,ty,pos,af,g⟩).run P W= .ok (.enter fn (vs++cap).toArray) W:=by
 subst hv
 have h3:xs.map (ev n f)=(xs.toList.map (ev n f)).toArray:=by rw[←JW]
 simp only[execOp,resolve,hc,Deferred.ofValue,invoke,Sem.run_bind,Sem.run_pure,Result.andThen_ok,h3]
 have h4:(#[]:Array Value)++(xs.toList.map (ev n f)).toArray++cap.toArray=(xs.toList.map (ev n f)++cap).toArray:=by simp
 rw[h4,Uk hf hn hb]
theorem MH{ops:Array Oper}{rest:List Oper}{Q:Exit→Act→World→Prop}{k:Nat}{R:Ending→World→Prop}{fn:FuncId}{F:Func}{xs:Array Operand}{tys:Array TypeId}{vs cap:List Value}(hw:Region.wanted ⟨some k,.call ⟨.value c,xs,tys⟩,ty,pos,af,g⟩ (yl n f ops)=true)
 (hx : ev n f c = .func (.func fn) #[] cap.toArray) (hv : xs.toList.map (ev n f) = vs) (hf : P.funcs[fn]? = some F) (hn : (F.name == "runtime.NumGoroutine") = false) (hb : F.body.isNone = false) (hc : Calls P fn (vs ++ cap).toArray W R)
 (h:∀e W',R e W'→∃v,e= .returned v∧SL P ops Q rest n (upd f k v) W'):SL P ops Q (⟨some k,.call ⟨.value c,xs,tys⟩,ty,pos,af,g⟩::rest) n f W:=
 ah3 rfl hw (aov hx hf hn hb hv W) hc h
theorem afu{i:Go.Fn}{xs:Array Operand}{dst:Option Tmp}{vs:List Value}(hv:xs.toList.map (ev n f)=vs):(execOp (ev n f) ⟨dst,.makeFunc i #[] xs,ty,pos,af,g⟩).run P W= .ok (.value (.func i #[] vs.toArray)) W:=by
 subst hv
 have h3:xs.map (ev n f)=(xs.toList.map (ev n f)).toArray:=by rw[←JW]
 simp only[execOp,h3,Instr.makeFunc,Sem.run_bind,Sem.run_pure,Result.andThen_ok,Array.map_empty]
end
end
end
section
section
open Go.RowKit
def Cel(E:Fp):Prop:=∀W,E.ok W→∀i∈E.ids,∃o:Obj,W.heap[i]? =some o∧o.isCells=true
theorem ag1(b:Nat)(cs:List Value)(T:TypeId):Cel (blk b cs T):=fun W h i hi=>by
 rw[Bf.1 hi];exact⟨_,h,rfl⟩
theorem ate{α:Type}(enc:α→Value)(b:Nat)(xs:List α)(T:TypeId):Cel (vec enc b xs T):=fun W h i hi=>by
 by_cases h0:xs.length=0
 ·simp[vec,h0]at hi
 ·obtain⟨r,hr⟩:=h h0
  simp[vec,h0]at hi
  subst hi;exact⟨_,hr,rfl⟩
theorem ara(size:Nat)(v:Value)(n:Nat)(xs:List Value)(T:TypeId):Cel (Dw size v n xs T):=fun W h i hi=>by
 rcases h.2 with⟨rfl,_⟩|⟨g,cap,cur,rfl,_,hh,_⟩
 ·simp[Dw,Value.ownBlock]at hi
 ·simp[Dw,Value.ownBlock]at hi
  subst hi;exact⟨_,hh,rfl⟩
theorem arW{A:List Fp}(h:∀E∈A,Cel E):Cel (grp A):=fun W hA i hi=>by
 obtain⟨E,hE,hm⟩:=KG.1 hi
 exact h E hE W (hA.1 E hE) i hm
theorem agv:∀E∈([]:List Fp),Cel E:=fun _ h=>by cases h
theorem WG{E:Fp}{L:List Fp}(h:Cel E)(hL:∀E∈L,Cel E):∀X∈E::L,Cel X:=fun X hX=>by
 rcases Dq.1 hX with rfl|hX
 ·exact h
 ·exact hL X hX
theorem alM{α:Type _}(L:List α):(List.range L.length).filterMap (fun i=>L[i]?)=L:=by
 induction L with
 |nil=>rfl
 |cons a l ih=>
  rw[Em,List.range_succ_eq_map,List.filterMap_cons]
  simp only[List.getElem?_cons_zero,List.filterMap_map,Function.comp_def,EZ]
  rw[ih]
theorem Heap.order{w0 W:World}{F:List Nat}{L L':List Fp}(H:Heap w0 F L W)(p:List Nat)(hp:p.isPerm (List.range L.length)=true)(hL:p.filterMap (fun i=>L[i]?)=L'):Heap w0 F L' W:=by
 refine H.perm ?_
 rw[←hL]
 have h1:=(List.isPerm_iff.1 hp).filterMap (fun i=>L[i]?)
 rw[alM]at h1
 exact h1.symm
def dfd(D:Nat):Fp:=
 ⟨[D],fun W=>W.heap[D]? =some (.deferred (some [])),fun W h i hi=>by rw[Bf.1 hi];exact QW h,fun W W' h hk=>by rw[h D J];exact hk⟩
theorem Heap.turn{w0 W W':World}{F:List Nat}{L:List Fp}{row:Option Nat}(H:Heap w0 F L W)(hc:∀E∈L,Cel E)(hg:W.grownBy W' row)(hr:∀r,row=some r→w0.heap.size≤r∧∃o:Obj,W.heap[r]? =some o∧o.isCells=false):Heap w0 F L W':=by
 refine⟨fun E hE=>?_,H.nd,H.own,?_⟩
 ·refine E.loc W W' (fun i hi=>?_) (H.ok E hE)
  obtain⟨o,ho,hoc⟩:=hc E hE W (H.ok E hE) i hi
  refine hg.block i (QW ho) (fun e=>?_)
  obtain⟨_,o2,ho2,hn⟩:=hr i e.symm
  rw[ho]at ho2;cases ho2;rw[hoc]at hn;cases hn
 ·refine⟨hg.os.trans H.only.os,hg.tape.trans H.only.tape,hg.output.trans H.only.output,F9 H.only.size hg.size,fun k hk hf=>?_⟩
  rw[hg.block k (Gh hk H.only.size) (fun e=>by have:=(hr k e.symm).1;omega)]
  exact H.only.block k hk hf
theorem ahi{W W':World}(h:Only [] W W'):W.grownBy W' none:=⟨h.os,h.tape,h.output,h.size,fun k hk _=>h.block k hk J⟩
def Kp(K:List Nat)(W W':World):Prop:=∀i∈K,W'.heap[i]? =W.heap[i]?
theorem Kp.ents{A:List Fp}{W W':World}(h:Kp (ids A) W W')(hA:DW A W):DW A W':=
 ⟨fun E hE=>E.loc W W' (fun i hi=>h i (KG.2 ⟨E,hE,hi⟩)) (hA.1 E hE),hA.2⟩
theorem Kp.trans{K:List Nat}{A B C:World}(h:Kp K A B)(k:Kp K B C):Kp K A C:=fun i hi=>(k i hi).trans (h i hi)
theorem abide{β:Type}{B:Nat}{Am:β→World→Prop}(hJ:AbidesFrom B Am){s:β}{W W':World}(h:Am s W)(hO:Only [] W W'):Am s W':=hJ s W W' none h (ahi hO) (fun _ e=>by cases e)
theorem alO(a:Value)(l:List Value): #[a]++l.toArray=(a::l).toArray:=by simp
theorem Heap.calm{w W W':World}{F F1 K:List Nat}{L M:List Fp}(H:Heap w F (L++M) W')(hO:Only F1 w W)(hK:Kp K W W')(hF:∀i∈F,i∈F1∨(i∈K∧i∈ids M)):Heap w F1 L W':=by
 have hnd:=H.nd
 rw[F8]at hnd
 refine⟨fun E hE=>H.ok E (BQ _ hE),(CS.1 hnd).1,fun i hi=>?_,⟨H.only.os,H.only.tape,H.only.output,H.only.size,fun k hk hk1=>?_⟩⟩
 ·rcases H.own i (by rw[F8];exact BQ _ hi)with h|h
  ·rcases hF i h with h1|h1
   ·exact .inl h1
   ·exact absurd rfl ((CS.1 hnd).2.2 i hi i h1.2)
  ·exact .inr h
 ·by_cases h:k∈F
  ·rcases hF k h with h1|h1
   ·exact absurd h1 hk1
   ·exact(hK k h1.1).trans (hO.block k hk hk1)
  ·exact H.only.block k hk h
theorem QD{w W:World}{A:List Fp}(hA:DW A w){L:List Fp}(H:Heap w [] L W):Heap w (ids A) (L++A) W:=(Heap.step (A:=[]) (L:=A) (by simpa using Heap.start hA) H J)
def RQ{α:Type}(I:List α→List Fp→Prop)(Ix:Code→List α→List Fp→Prop)(pre:List α)(L:List Fp)(W:World):Exit→Act→World→Prop
 | .normal,_,W'=>∃L',I pre L'∧Heap W (ids L) L' W'
 | .ret,_,W'=>∃L',Ix .ret pre L'∧Heap W (ids L) L' W'
 | .exit id,_,W'=>∃L',Ix (.exit id) pre L'∧Heap W (ids L) L' W'
 |_,_,_=>False
def Ue(l:List (Nat×Value))(f:Nat→Value):Nat→Value:=l.foldl (fun f p=>upd f p.1 p.2) f
theorem Zu{ds:List Nat}(N:Nat):∀(l:List (Nat×Value)) (f:Nat→Value),l.foldl (fun t p=>t.setIfInBounds p.1 p.2) (Fn ⟨N,ds⟩ f).tmps=(Fn ⟨N,[]⟩ (Ue l f)).tmps
 | [],f=>rfl
 |(p,v)::l,f=>by
  have h:(Fn ⟨N,ds⟩ f).tmps.setIfInBounds p v=(Fn ⟨N,[]⟩ (upd f p v)).tmps:=congrArg Act.tmps (Ox ⟨N,[]⟩ f p v)
  rw[List.foldl_cons,h]
  exact Zu N l _
section
variable{P:Program}{ops:Array Oper}{rest:List Oper}{n:Sz}{k id:Nat}{f:Nat→Value}{W w0:World}{F:List Nat}{L:List Fp}{Q:Exit→Act→World→Prop}{v:Value}{o:Oper}
theorem atO{α:Type}{I:List α→List Fp→Prop}{Ix:Code→List α→List Fp→Prop}{pre:List α}{L0:List Fp}{W0:World}(h:∃L',I pre L'∧Heap W0 (ids L0) L' W):PQ (RQ I Ix pre L0 W0) .normal n f W:=⟨h⟩
theorem an3{fx:Nat→Value}(h:f=fx):PQ (fun e a W'=>e= .normal∧a=Fn n fx∧W'=W) .normal n f W:=⟨by subst h;exact⟨rfl,rfl,rfl⟩⟩
theorem axT{α:Type}{g:Operand}{ps:Array Tmp}{assign body:Code}{gf:Nat}{G:Func}{lb:Array Value}{encs:α→Array Value}{S Sp:List α→Prop}{N:Nat}(Lb Lk:List Fp)(H:Heap w0 F (Lb++Lk) W)(ax3:∀E∈Lk,Cel E)
 (hg : ev n f g = .func (.func gf) #[] lb) (hf : P.funcs[gf]? = some G) (hn : (G.name == "runtime.NumGoroutine") = false) (hb : G.body.isNone = false)
 (hseq:SeqStopsK Fence.wide 4 P gf lb encs (Kp (ids Lk)) S Sp N W) (hps:∀x,(encs x).size=ps.size) (axu:(Zi assign&&Zi body)=true)
 (I:List α→List Fp→Prop) (Ix:Code→List α→List Fp→Prop) (hI:∀pre L,I pre L→∀E∈L,Cel E) (hIx:∀c pre L,Ix c pre L→∀E∈L,Cel E) (h0:I [] Lb) (zs ss:α→List (Nat×Value)) (hz:∀x,(ps.zip (encs x)).toList=zs x)
 (hassign:∀x W,CW P assign (fun e a W'=>e= .normal∧a=Fn ⟨n.n,[]⟩ (Ue (ss x) (Ue (zs x) f))∧W'=W) ⟨n.n,[]⟩ (Ue (zs x) f) W)
 (hbody:∀pre x L W,I pre L→pre.length<N→Heap w0 F (L++Lk) W→Heap W (ids L) L W→CW P body (RQ I Ix (pre++ [x]) L W) ⟨n.n,[]⟩ (Ue (ss x) (Ue (zs x) f)) W)
 (hdone:∀D xs L W',S xs→I xs L→Heap w0 F (dfd D::(L++Lk)) W'→Kp (ids Lk) W W'→PQ Q .normal ⟨n.n,D::n.d⟩ f W')
 (hstop:∀D c pre L W',Sp pre→Ix c pre L→Heap w0 F (dfd D::(L++Lk)) W'→Kp (ids Lk) W W'→CW P c Q ⟨n.n,D::n.d⟩ f W'):CW P (Code.rangeFunc g ps assign body) Q n f W:=by
 refine .alone O ((wpIn_wide (n:=5)).1 ?_)
 have aqv:Zi assign=true∧Zi body=true:=by simpa using axu
 have hsz:=H.only.size
 have hcl:∀{L:List Fp},(∀E∈L,Cel E)→∀E∈L++Lk,Cel E:=fun hL E hE=>by
  rcases BJ.1 hE with h|h
  ·exact hL E h
  ·exact ax3 E h
 have atZ:∀i∈ids Lk,i<W.heap.size:=fun i hi=>H.akB i (by rw[F8];exact C9 _ hi)
 have own:∀(Am:List α→List Fp→Prop),(∀pre L,Am pre L→∀E∈L,Cel E)→OwnFrom W.heap.size (fun pre W'=>∃L,Am pre L∧Heap w0 F (L++Lk) W'∧Kp (ids Lk) W W'):=by
  intro Am hJ pre A B row ⟨L,hL,hH,hKp⟩ hgb hr
  exact⟨L,hL,hH.turn (hcl (hJ _ _ hL)) hgb (fun r e=>⟨F9 hsz (hr r e).1,(hr r e).2⟩),fun i hi=>(hgb.block i (by have:=hH.akB i (by rw[F8];exact C9 _ hi);exact this) (fun e=>by have:=(hr i e.symm).1;have:=atZ i hi;omega)).trans (hKp i hi)⟩
 have mark:∀{D:Nat} {L:List Fp} {W':World},W.heap.size≤D→(∀E∈L,Cel E)→Heap w0 F (L++Lk) W'→W'.heap[D]? =some (.deferred (some []))→Heap w0 F (dfd D::(L++Lk)) W':=by
  intro D L W' hD hL hH hK
  refine⟨fun E hE=>?_,?_,fun i hi=>?_,hH.only⟩
  ·rcases Dq.1 hE with rfl|hE
   ·exact hK
   ·exact hH.ok E hE
  ·rw[EW]
   refine CS.2 ⟨by simp[dfd],hH.nd,fun a ha b hb hab=>?_⟩
   subst hab
   obtain rfl:a=D:=by simpa [dfd]using ha
   obtain⟨E,hE,hm⟩:=KG.1 hb
   obtain⟨o,ho,hoc⟩:=hcl hL E hE W' (hH.ok E hE) a hm
   rw[hK]at ho;cases ho;cases hoc
  ·rw[EW]at hi
   rcases BJ.1 hi with hi|hi
   ·obtain rfl:i=D:=by simpa [dfd]using hi
    exact .inr (F9 hsz hD)
   ·exact hH.own i hi
 refine wpIn_rangeFunc_ownG (F:=Fence.wide) O Y (gf:=gf) (lb:=lb) (by rw[KY];exact hg) trivial (fun args w=>Uk hf hn hb args) hseq
  (fun h1 h2=>h1.trans h2) (fun W' l o o' hl ho _ _ i hi=>World.putObj_heap_other (by have:=atZ i hi;omega)) (Below.refl _ _) hps
  (fun pre W'=>∃L,I pre L∧Heap w0 F (L++Lk) W'∧Kp (ids Lk) W W') (fun c pre W'=>∃L,Ix c pre L∧Heap w0 F (L++Lk) W'∧Kp (ids Lk) W W') (own I hI) (fun c=>own (Ix c) (hIx c)) ⟨Lb,h0,H,fun _ _=>rfl⟩ (fun x=>Fn ⟨n.n,[]⟩ (Ue (ss x) (Ue (zs x) f))) ?_ ?_ ?_ ?_
 ·intro l x W' K hK
  have h1:=(hassign x W').inr aqv.1 l 3
  have h2:({tmps:=(ps.zip (encs x)).foldl (fun t (p,v)=>t.setIfInBounds p v) (Fn n f).tmps,defers:=[]}:Act)=Fn ⟨n.n,[]⟩ (Ue (zs x) f):=by
   have h3:=Zu (ds:=n.d) n.n (ps.zip (encs x)).toList f
   rw[Array.foldl_toList,hz x]at h3
   exact congrArg (fun t=>({tmps:=t,defers:=[]}:Act)) h3
  rw[h2]
  refine Code.wpIn_mono ?_ h1
  rintro e a W2 ⟨rfl,rfl,rfl⟩
  exact hK
 ·rintro l pre x W' ⟨L,hL,hH,hKp⟩ hlen
  have hE:DW L W':=hH.part
  refine Code.wpIn_mono ?_ ((hbody pre x L W' hL hlen hH (Heap.start hE)).inr aqv.2 l 3)
  have base:∀{L':List Fp} {W2:World},Heap W' (ids L) L' W2→KeepsFrom W.heap.size W' W2∧Kp (ids Lk) W' W2∧Heap w0 F (L'++Lk) W2:=by
   intro L' W2 h2
   refine⟨⟨h2.only.size,fun k o _ hk ho=>?_⟩,fun i hi=>?_,hH.step h2 (fun _ h=>h)⟩
   ·rw[h2.only.block k (QW hk) (fun hm=>?_)];exact hk
    obtain⟨E,hE2,hm2⟩:=KG.1 hm
    obtain⟨o2,ho2,hoc⟩:=hI _ _ hL E hE2 W' (hE.1 E hE2) k hm2
    rw[hk]at ho2;cases ho2;rw[ho]at hoc;cases hoc
   ·refine h2.only.block i (hH.akB i (by rw[F8];exact C9 _ hi)) (fun hm=>?_)
    have hnd:=hH.nd
    rw[F8]at hnd
    exact(CS.1 hnd).2.2 i hm i hi rfl
  rintro e a W2 h2
  cases e with
  |normal=>
   obtain⟨L',hL',h3⟩:=h2
   obtain⟨b1,b2,b3⟩:=base h3
   exact⟨b1,b2,L',hL',b3,hKp.trans b2⟩
  |ret=>
   obtain⟨L',hL',h3⟩:=h2
   obtain⟨b1,b2,b3⟩:=base h3
   exact⟨b1,L',hL',b3,hKp.trans b2⟩
  |exit i=>
   obtain⟨L',hL',h3⟩:=h2
   obtain⟨b1,b2,b3⟩:=base h3
   exact⟨b1,L',hL',b3,hKp.trans b2⟩
  |goto _=>exact h2.elim
  |panic _=>exact h2.elim
  |outgrown=>exact h2.elim
 ·rintro D xs W' hD hS ⟨L,hL,hH,hKp⟩ hK
  exact(hdone D xs L W' hS hL (mark hD (hI _ _ hL) hH hK) hKp).out
 ·rintro D c pre W' hD hS ⟨L,hL,hH,hKp⟩ hK
  exact wpIn_wide.2 (hstop D c pre L W' hS hL (mark hD (hIx _ _ _ hL) hH hK) hKp).out
def FIN(P:Program)(fn:Func)(R:Ending→World→Prop)(n:Sz)(f:Nat→Value)(W:World):Prop:=LeavesInM Fence.wide 5 P fn (Fn n f).tmps R (Fn n f).defers .returning W
abbrev adv(P:Program)(fn:Func)(R:Ending→World→Prop):=bodyPostM Fence.wide 5 P fn R
theorem aua{g:FuncId}{fn:Func}{c:Code}{l:List Value}{R:Ending→World→Prop}(hf:P.funcs[g]? =some fn)(hb:fn.body=some c){N:Nat}(hN:fn.ntmps=N)(hl:Nat.ble l.length N=true)
 (h:CW P c (adv P fn R) ⟨N,[]⟩ (args l) W):Calls P g l.toArray W R:=by
 have hl':l.length≤N:=OZ hl
 have e:({tmps:=l.toArray++Array.replicate (fn.ntmps-l.toArray.size) undef,defers:=[]}:Act)=Fn ⟨N,[]⟩ (args l):=by
  simp only[Fn,D5,Act.mk.injEq,and_true]
  apply LH
  intro i
  rw[Va]
  simp only[Iu,Fq,BG,hN]
  split
  ·rename_i hi
   have hg:l[i]? =some l[i]:=Ar hi
   have hiN:i<N:=Y
   have hr:(List.range N)[i]? =some i:=by simp[hiN]
   rw[hg,hr,EN];simp[args,List.getD,hg]
  ·rename_i hi
   by_cases hiN:i<N
   ·have hr:(List.range N)[i]? =some i:=by simp[hiN]
    rw[hr,EN,KT,if_pos Y]
    simp[args,List.getD,DC (Tj hi)]
   ·have hr:(List.range N)[i]? =none:=by simp;omega
    rw[hr,IB,KT,if_neg Y]
 refine(callsIn_wide (n:=5)).1 (callsIn_of_wp_marks hf hb trivial ?_)
 rw[e]
 exact wpIn_wide.2 h.out
theorem at1{fn:Func}{R:Ending→World→Prop}(h:FIN P fn R n f W):PQ (adv P fn R) .ret n f W:=⟨h⟩
theorem avV{fn:Func}{R:Ending→World→Prop}{N D:Nat}{d:List Nat}(H:Heap w0 F L W)(j:Nat)(hj:L[j]? =some (dfd D))(h:∀W',Heap w0 F (L.eraseIdx j) W'→FIN P fn R ⟨N,d⟩ f W'):FIN P fn R ⟨N,D::d⟩ f W:=by
 have hK:W.heap[D]? =some (.deferred (some [])):=H.ok _ (A8 hj)
 have H1:=H.pick j hj
 have hnd:=H1.nd
 rw[EW]at hnd
 refine⟨J,.inl ⟨D,W.putObj D (.deferred none),rfl,run_takeDeferred hK,h _ ?_⟩⟩
 have hD:D∈F∨w0.heap.size≤D:=H1.own D (by rw[EW];simp[dfd])
 have hne:∀i,i≠D→(W.putObj D (.deferred none)).heap[i]? =W.heap[i]? :=fun i hi=>World.putObj_heap_other hi
 refine⟨fun E hE=>?_,(CS.1 hnd).2.1,fun i hi=>H1.own i (by rw[EW];exact C9 _ hi),?_⟩
 ·refine E.loc W _ (fun i hi=>hne i (fun e=>?_)) (H1.ok E (Ee _ hE))
  subst e
  exact(CS.1 hnd).2.2 i (by simp[dfd]) i (KG.2 ⟨E,hE,hi⟩) rfl
 ·refine⟨H.only.os,H.only.tape,H.only.output,by have:=H.only.size;simpa [World.putObj]using this,fun k hk hf=>?_⟩
  rw[hne k (fun e=>by rcases hD with h|h;exact hf (e▸h);omega)]
  exact H.only.block k hk hf
theorem fm1{fn:Func}{R:Ending→World→Prop}{N:Nat}{r:ResultVar}(hr:fn.results= #[r])(h:RV P W ⟨N,[]⟩ f r v)(hR:R (.returned v) W):FIN P fn R ⟨N,[]⟩ f W:=⟨_,Yg hr h,hR⟩
theorem auf{fn:Func}{R:Ending→World→Prop}{N t u r:Nat}{v2 v3:Value}(hr:fn.results= #[.tmp t,.tmp u,.tmp r])(hv:ev ⟨N,[]⟩ f (.tmp t)=v)(hu:ev ⟨N,[]⟩ f (.tmp u)=v2)(hw:ev ⟨N,[]⟩ f (.tmp r)=v3)(hR:R (.returned (.tuple #[v,v2,v3])) W):PQ (bodyPost P fn R) .ret ⟨N,[]⟩ f W:=
 ab4 hr (Jp hv) (Jp hu) (Jp hw) hR
structure SLY (P:Program) (ops:Array Oper) (Q:Exit→Act→World→Prop) (l:List Oper) (n:Sz) (f:Nat→Value) (W:World):Prop where
 out:wpListIn Fence.wide 4 P ops Q l (Fn n f) W
theorem auV{l:List Oper}(hno:Zi (Code.region id l.toArray false)=false)(h:SLY P l.toArray Q l n f W):CW P (Code.region id l.toArray false) Q n f W:= .alone hno ((wpIn_wide (n:=4)).1 (wpIn_region_lit h.out))
theorem ap9(h:PQ Q .normal n f W):SLY P ops Q [] n f W:=⟨wpListIn_nil h.out⟩
theorem aiA{W':World}(hd:o.dst=some k)(hw:Region.wanted o (yl n f ops)=true)(hr:(execOp (ev n f) o).run P W= .ok (.value v) W')(h:SLY P ops Q rest n (upd f k v) W'):SLY P ops Q (o::rest) n f W:=by
 have hy:yielded ops (Fn n f).tmps=yl n f ops:=funext (TG n f ops)
 constructor
 refine nN ?_
 refine⟨fun _ _=>trivial,?_⟩
 rw[Fence.wide_round,Oper.semAt_none,KY,hr,Oper.uponIn_value,hd,Ox]
 exact h.out
theorem aoO{ty:TypeId}{pos:String}{af:Array Edge}{g:Option (Nat×Bool)}{c:Operand}{xs:Array Operand}{tys:Array TypeId}{vs:List Value}{l:Nat}{R:Ending→World→Prop}(hw:Region.wanted ⟨some k,.call ⟨.value c,xs,tys⟩,ty,pos,af,g⟩ (yl n f ops)=true)
 (hx:ev n f c= .func (.yield l) #[] #[]) (hv:xs.toList.map (ev n f)=vs) (hY:YieldAt Fence.wide 3 P l vs.toArray W R)
 (h:∀e W',R e W'→∃v,e= .returned v∧SLY P ops Q rest n (upd f k v) W'):SLY P ops Q (⟨some k,.call ⟨.value c,xs,tys⟩,ty,pos,af,g⟩::rest) n f W:=by
 subst hv
 obtain⟨fn,tmps,assign,body,hy0,hR⟩:=hY
 have h3:xs.map (ev n f)=(xs.toList.map (ev n f)).toArray:=by rw[←JW]
 have hrun:(execOp (ev n f) ⟨some k,.call ⟨.value c,xs,tys⟩,ty,pos,af,g⟩).run P W= .ok (.round l fn tmps assign body) W:=by
  simp only[execOp,resolve,hx,Deferred.ofValue,invoke,Sem.run_bind,Sem.run_pure,Result.andThen_ok,h3,Array.empty_append,Array.append_empty,hy0]
 have hy:yielded ops (Fn n f).tmps=yl n f ops:=funext (TG n f ops)
 constructor
 refine nN ?_
 refine⟨fun _ _=>trivial,?_⟩
 rw[Fence.wide_round,Oper.semAt_none,KY,hrun,Oper.uponIn_round]
 refine⟨(fun hh=>nomatch hh),hR.mono fun e W' hR'=>?_⟩
 obtain⟨v,rfl,h2⟩:=h e W' hR'
 show wpListIn Fence.wide 4 P ops Q rest ((Fn n f).put (some k) v) W'
 rw[Ox];exact h2.out
theorem Y1{dst:Option Tmp}{t ty e:TypeId}{pos:String}{af:Array Edge}{g:Option (Nat×Bool)}{x hi:Operand}{kk:IntKind}{a:Int}{A:Option Addr}{l c j m:Nat}(hx:ev n f x= .slice A l c)(hh:ev n f hi= .int kk a)(ha:a=(j:Int))(hj:j≤c)(h:P.underlying t=some (.slice e))(hm:∀W,(Go.sizeOf e).run P W= .ok m W):
 (execOp (ev n f) ⟨dst,.slice t x none (some hi) none,ty,pos,af,g⟩).run P W= .ok (.value (.slice A j c)) W:=by
 subst ha
 have h1:(0:Int)≤j∧(j:Int)≤c:=Y
 have h0:∀p:Addr,p.add 0=p:=fun p=>by simp[Addr.add]
 simp only[execOp,Instr.sliceAt,Instr.slice,Instr.sliceBounds,Instr.sliceBound,hx,hh,asIntOf,EN,IB,Sem.run_bind,run_underlying h,Result.andThen_ok,Sem.run_pure,h1,and_self,if_true,hm,Bz,XU,Yl]
 cases A<;>simp[h0]
theorem awk{x:Operand}{dst:Option Tmp}{t ty:TypeId}{pos:String}{af:Array Edge}{g:Option (Nat×Bool)}{p i:Nat}(hc:W.cell? ⟨p,i,none⟩=some v)(hx:ev n f x= .pointer (some ⟨p,i,none⟩))(hagg:∀W,(isAgg t).run P W= .ok false W):(execOp (ev n f) ⟨dst,.load t x,ty,pos,af,g⟩).run P W= .ok (.value v) W:=
 Hq (Heap.nil W) hx hc J hagg
end
end
end
section
section
open Go.RowKit
section
variable{P:Program}{n:Sz}{f:Nat→Value}{W w0:World}{F:List Nat}{L:List Fp}{dst:Option Tmp}{ty:TypeId}{pos:String}{af:Array Edge}{g:Option (Nat×Bool)}{x:Operand}{t:TypeId}
theorem Heap.JC{α:Type}{enc:α→Value}{size:Nat}{A:Option Addr}{m c:Nat}{xs:List α}{T:TypeId}(H:Heap w0 F L W)(j:Nat)(hj:L[j]? =some (Dw size (.slice A m c) m (xs.map enc) T))(h0:m≠0):∃p,A=some ⟨p,0,none⟩:=by
 rcases(H.IK j hj).2 with⟨h1,h2⟩|⟨g,cap,cur,h1,_⟩
 ·exact absurd h2 h0
 ·injection h1 with h1 _ _;exact⟨g,h1⟩
theorem L9{α:Type}{enc:α→Value}{p i m c:Nat}{xs:List α}{T:TypeId}{z:α}(H:Heap w0 F L W)(j:Nat)(hx:ev n f x= .pointer (some ⟨p,i,none⟩))(hj:L[j]? =some (Dw 1 (.slice (some ⟨p,0,none⟩) m c) m (xs.map enc) T))(hv:xs[i]? =some z)
 (hagg:∀W,(isAgg t).run P W= .ok false W):(execOp (ev n f) ⟨dst,.load t x,ty,pos,af,g⟩).run P W= .ok (.value (enc z)) W:=by
 have ho:=H.IK j hj
 have hi:i<xs.length:=(BA.1 hv).1
 have hcell:=ho.cellAt i zD
 rw[BG,hv]at hcell
 exact awk hcell hx hagg
theorem Heap.LZ{α:Type}{enc:α→Value}{size:Nat}(H:Heap w0 F L W)(j:Nat){A:Option Addr}{n c:Nat}{xs:List α}{T:TypeId}(hj:L[j]? =some (Dw size (.slice A n c) n (xs.map enc) T)):xs.length≠0→∃b,A=some ⟨b,0,none⟩∧b∈(Dw size (.slice A n c) n (xs.map enc) T).ids∧Reads enc W b 0 xs:=by
 have ho:=H.IK j hj
 intro h0
 have hn:xs.length=n*size:=by simpa using ho.1
 rcases ho.2 with⟨h1,h2⟩|⟨g,cap,cur,h1,_,hg,h3,_,h5,h6⟩
 ·rw[h2,XU]at hn;omega
 ·injection h1 with h1 _ _
  subst h1
  refine⟨g,rfl,by simp[Dw,Value.ownBlock],fun i z hz=>?_⟩
  rw[DT,Joins.cell_of_block hg]
  have:(cur.toList.take (n*size))[i]? =some (enc z):=by rw[h6,BG,hz];rfl
  rw[IV]at this
  split at this
  ·simpa using this
  ·cases this
end
section
variable{P:Program}{ops:Array Oper}{rest:List Oper}{n:Sz}{k k2:Nat}{f:Nat→Value}{W w0:World}{F:List Nat}{L:List Fp}{Q:Exit→Act→World→Prop}{ty ty2:TypeId}{pos pos2:String}{af af2:Array Edge}{g:Option (Nat×Bool)}{x y s:Operand}{v u:Value}{t e:TypeId}
theorem WS{α:Type}{enc:α→Value}{z0:Value}{size bytes:Nat}{zs:List α}(H:Heap w0 F L W)
 (hw:Region.wanted ⟨some k,.buildSlice t 1 #[(0,x)],ty,pos,af,g⟩ (yl n f ops)=true) (hx:ev n f x= .agg (zs.map enc).toArray) (hzl:zs.length=size) (hsz:0<size∧size≤1000)
 (VO:Instr.fill (fun i=>some (i*size,size)) ((Array.range size).map (z0.cells[· %z0.cells.size]!)) [(0,.agg (zs.map enc).toArray)]=some (zs.map enc).toArray)
 (ht:P.underlying t=some (.slice e)) (hi:Inf P e z0 size bytes)
 (h:∀p W',Heap w0 F (Dw size (.slice (some ⟨p,0,none⟩) 1 1) 1 (zs.map enc) e::L) W'→SL P ops Q rest n (upd f k (.slice (some ⟨p,0,none⟩) 1 1)) W'):SL P ops Q (⟨some k,.buildSlice t 1 #[(0,x)],ty,pos,af,g⟩::rest) n f W:=by
 obtain⟨i,hi0,hz0,hisz,hby⟩:=hi.ex
 have asn:(zs.map enc).length=size:=by simpa using hzl
 have hbig:¬(1*size>2^24):=Y
 have hne:¬(1*size=0):=Y
 have r1:(Instr.buildSlice t 1 #[(0,.agg (zs.map enc).toArray)]).run P W= .ok (.slice (some ⟨W.heap.size,0,none⟩) 1 1) (W.alloc (.cells (zs.map enc).toArray e)):=by
  have hz1:(zeroValue e).run P W= .ok z0 W:=by simp[zeroValue,typeInfo,hi0,hz0]
  have hs1:(Go.sizeOf e).run P W= .ok size W:=by simp[Go.sizeOf,typeInfo,hi0,hisz]
  refine jg ?_
  rw[show(1*size)=size from by omega,VO]
  rfl
 refine Hf O hw (W':=W.alloc (.cells (zs.map enc).toArray e)) (v:= .slice (some ⟨W.heap.size,0,none⟩) 1 1) zT (h _ _ ?_)
 refine H.more (A:=[Dw size (.slice (some ⟨W.heap.size,0,none⟩) 1 1) 1 (zs.map enc) e]) ⟨?_,by simp[ids,Dw,Value.ownBlock],by simp[ids,Dw,Value.ownBlock],Only.of_below ((Below.refl _ _).alloc (Bg _) _) _⟩
 intro E hE;rw[Bf.1 hE]
 have asX:(zs.map enc).length=1*size:=by rw[asn,Nat.one_mul]
 exact⟨asX,.inr ⟨_,1,_,rfl,JK _,heap_alloc_new W _,Bg _,by decide,by simpa using asX,Ez (Nat.le_of_eq asX)⟩⟩
theorem KX{α:Type}{enc:α→Value}{z0:Value}{size bytes m l cB:Nat}{B:Option Addr}{xs zs:List α}{T:TypeId}(H:Heap w0 F (Dw size (.slice B l cB) l (zs.map enc) T::L) W)(j:Nat)(hj:L[j]? =some (Dw size v m (xs.map enc) e))
 (hw:Region.wanted ⟨some k,.call ⟨.builtin .append,#[s,y],#[t,t]⟩,ty,pos,af,g⟩ (yl n f ops)=true) (hs:ev n f s=v) (hy:ev n f y= .slice B l cB) (h1:∀z,(enc z).oneCell'=true) (hsz:0<size)
 (hm:m+l≤100000000000∧(m+l)*bytes≤140737488355328) (ht:P.underlying t=some (.slice e)) (hi:Inf P e z0 size bytes) (hz0:z0.cells.size=size)
 (h:∀A' c' W',Heap w0 F (L.set j (Dw size (.slice A' (m+l) c') (m+l) ((xs++zs).map enc) e)) W'→SL P ops Q rest n (upd f k (.slice A' (m+l) c')) W'):
 SL P ops Q (⟨some k,.call ⟨.builtin .append,#[s,y],#[t,t]⟩,ty,pos,af,g⟩::rest) n f W:=by
 have hlen:zs.length=l*size:=by have:=(H.IK 0 rfl).1;simpa using this
 have hnd:=H.nd
 rw[EW]at hnd
 have H0:=H.drop
 refine anb (enc:=enc) (zs:=zs) (xs:=xs) (Heap.start H0.ents) j hj hw hs hy (fun h0=>?_) hlen h1 hsz hm ht hi hz0 ?_
 ·obtain⟨b,e1,hb,hr⟩:=H.LZ 0 rfl h0
  exact⟨b,0,e1,fun hm=>(CS.1 hnd).2.2 b hb b hm rfl,hr⟩
 ·intro A' c' W' H'
  exact h A' c' W' (H0.whole H')
end
theorem Heap.Ew{w0 W:World}{F:List Nat}{L A:List Fp}(H:Heap w0 F L W)(p:List Nat)(hp:(p++(List.range L.length).filter (fun i=> !p.contains i)).isPerm (List.range L.length)=true)(hA:p.filterMap (fun i=>L[i]?)=A):Heap w0 F A W:=by
 have h:=H.order (p++(List.range L.length).filter (fun i=> !p.contains i)) hp rfl
 rw[List.filterMap_append,hA]at h
 exact h.drops
theorem acA{P:Program}{l:List Oper}{Q:Exit→Act→World→Prop}{n:Sz}{id:Nat}{f:Nat→Value}{W w0:World}{F:List Nat}{L A:List Fp}(hm:P.follows .mixedOrders=true)(H:Heap w0 F L W)(p:List Nat)(hA:p.filterMap (fun i=>L[i]?)=A)(h:TR P l.toArray Q (fun W'=>Heap w0 F A W') l.length (Array.replicate l.length false) n f W.drew):CW P (Code.region id l.toArray true) Q n f W:=
 .alone rfl (wp_region_held hm h.out)
end
end
section
section
open Go.RowKit Go.MapKept
open Go.Maps (Keyed)
open Go.ChangeMaps (setBlock)
section plain
variable{α β:Type}[DecidableEq α]
def Ij:List (α×β)→α→Option β
 | [],_=>none
 |p::l,a=>if p.1=a then some p.2 else Ij l a
def Lp:List (α×β)→α→β→List (α×β)
 | [],a,v=> [(a,v)]
 |p::l,a,v=>if p.1=a then(a,v)::l else p::Lp l a v
def Uu:List (α×β)→α→List (α×β)
 | [],_=> []
 |p::l,a=>if p.1=a then l else p::Uu l a
theorem VH:∀(l:List (α×β)) (a:α),(∀p∈l,p.1≠a)→Ij l a=none∧(∀v,Lp l a v=l++ [(a,v)])∧Uu l a=l
 | [],a,_=>⟨rfl,fun _=>rfl,rfl⟩
 |p::l,a,h=>by
  obtain⟨h1,h2,h3⟩:=VH l a fun q hq=>h q (by simp[hq])
  have hp:=h p J
  exact⟨by rw[Ij,if_neg hp];exact h1,fun v=>by rw[Lp,if_neg hp,h2];rfl,by rw[Uu,if_neg hp,h3]⟩
theorem Xn:∀(l:List (α×β)) (j:Nat) (p:α×β),l[j]? =some p→(l.map Prod.fst).Nodup→Ij l p.1=some p.2∧(∀v,Lp l p.1 v=l.set j (p.1,v))∧Uu l p.1=l.eraseIdx j
 | [],j,p,h,_=>by simp at h
 |q::l,0,p,h,_=>by
  obtain rfl:q=p:=by simpa using h
  exact⟨by rw[Ij,if_pos rfl],fun v=>by rw[Lp,if_pos rfl];rfl,by rw[Uu,if_pos rfl];rfl⟩
 |q::l,j+1,p,h,hd=>by
  have h':l[j]? =some p:=by simpa using h
  simp only[Dx,GH]at hd
  have hne:q.1≠p.1:=fun e=>hd.1 (e▸BX.2 ⟨p,A8 h',rfl⟩)
  obtain⟨h1,h2,h3⟩:=Xn l j p h' hd.2
  exact⟨by rw[Ij,if_neg hne];exact h1,fun v=>by rw[Lp,if_neg hne,h2];rfl,by rw[Uu,if_neg hne,h3];rfl⟩
theorem J8(l:List (α×β))(a:α):Ij l a=none↔∀p∈l,p.1≠a:=by
 constructor
 ·intro h p hp e
  induction l with
  |nil=>simp at hp
  |cons q l ih=>
   unfold Ij at h
   by_cases hq:q.1=a
   ·rw[if_pos hq]at h;cases h
   ·rw[if_neg hq]at h
    rcases Dq.1 hp with rfl|hp
    ·exact hq e
    ·exact ih h hp
 ·intro h;exact(VH l a h).1
end plain
structure KC (P:Program) (k:TypeId) (α:Type) where
 enc:α→Value
 Gd:α→Prop
 K:Keyed P k
 good:∀a,Gd a→∃l,keyOf P k (enc a)=some l
 inj:∀a b,enc a=enc b→a=b
structure KD {P:Program} {k:TypeId} {α β:Type} (C:KC P k α) (ET:β→Value) (es:Array MapEntry) (clock:Nat) (l:List (α×β)):Prop where
 rd:es.toList.map (fun e=>(e.key,e.val))=l.map (fun p=>(C.enc p.1,ET p.2))
 gd:∀p∈l,C.Gd p.1
 nd:(l.map Prod.fst).Nodup
 born:∀x∈es.toList,x.born<clock
 bn:(es.toList.map (·.born)).Nodup
section
variable{P:Program}{k:TypeId}{α β:Type}[DecidableEq α]{C:KC P k α}{ET:β→Value}{es:Array MapEntry}{clock:Nat}{l:List (α×β)}
theorem KD.nil:KD C ET #[] 0 []:=⟨rfl,J,J,J,J⟩
theorem KD.len(h:KD C ET es clock l):es.size=l.length:=by
 have:=congrArg List.length h.rd;simpa using this
theorem KD.at(h:KD C ET es clock l)(j:Nat)(e:MapEntry)(he:es.toList[j]? =some e):∃p,l[j]? =some p∧e.key=C.enc p.1∧e.val=ET p.2:=by
 have h1:=congrArg (fun x=>x[j]?) h.rd
 simp only[BG,he,EN]at h1
 cases hl:l[j]? with
 |none=>rw[hl]at h1;cases h1
 |some p=>
  rw[hl]at h1
  simp only[EN,MK,SH]at h1
  exact⟨p,rfl,h1.1,h1.2⟩
theorem KD.keys(h:KD C ET es clock l):∀e∈es.toList,∃lit,keyOf P k e.key=some lit:=fun e he=>by
 obtain⟨j,hj⟩:=Nr he
 obtain⟨p,hp,hk,_⟩:=h.at j e hj
 rw[hk];exact C.good _ (h.gd p (A8 hp))
theorem KD.find(h:KD C ET es clock l)(a:α)(ga:C.Gd a)(W:World):
 ((∀p∈l,p.1≠a)∧(Instr.findKey k (C.enc a) es.toList).run P W= .ok none W)∨
 ∃j p e,l[j]? =some p∧p.1=a∧es.toList[j]? =some e∧e.key=C.enc a∧e.val=ET p.2∧(Instr.findKey k (C.enc a) es.toList).run P W= .ok (some (j,ET p.2)) W:=by
 obtain⟨lit,hk⟩:=C.good a ga
 rcases C.K.find W hk es.toList h.keys with⟨h1,h2⟩|⟨j,e,h1,h2,h3⟩
 ·refine .inl ⟨fun p hp e=>?_,h1⟩
  obtain⟨j,hj⟩:=Nr hp
  have h4:=congrArg (fun x=>x[j]?) h.rd
  simp only[BG,hj,EN]at h4
  cases he:es.toList[j]? with
  |none=>rw[he]at h4;cases h4
  |some x=>
   rw[he]at h4
   simp only[EN,MK,SH]at h4
   exact h2 x (A8 he) (by rw[h4.1,e])
 ·obtain⟨p,hp,hpk,hpv⟩:=h.at j e h2
  refine .inr ⟨j,p,e,hp,C.inj _ _ (hpk▸h3),h2,h3,hpv,?_⟩
  rw[←hpv];exact h1
theorem KD.look{t e:TypeId}(h:KD C ET es clock l)(ht:P.underlying t=some (.map k e)){z:Value}{W:World}(hz:(zeroValue e).run P W= .ok z W){b:Nat}(hb:W.heap[b]? =some (.map es clock))(a:α)(ga:C.Gd a)(ok:Bool):
 (Instr.lookup t (.map (some b)) (C.enc a) ok).run P W= .ok (if ok then .tuple #[((Ij l a).map ET).getD z,.bool (Ij l a).isSome]else((Ij l a).map ET).getD z) W:=by
 obtain⟨lit,hk⟩:=C.good a ga
 rcases h.find a ga W with⟨h1,h2⟩|⟨j,p,x,h1,rfl,h3,h4,h5,h6⟩
 ·rw[(VH l a h1).1]
  simp[Instr.lookup,run_underlying ht,MapKept.run_getObj_map hb,C.K.check W _ hk,h2,hz,Result.andThen]
 ·rw[(Xn l j p h1 h.nd).1]
  simp[Instr.lookup,run_underlying ht,MapKept.run_getObj_map hb,C.K.check W _ hk,h6,Result.andThen]
theorem KD.put{t e:TypeId}(h:KD C ET es clock l)(ht:P.underlying t=some (.map k e)){W:World}{b:Nat}(hb:W.heap[b]? =some (.map es clock))(a:α)(ga:C.Gd a)(v:β):
 ∃es' clock',(Instr.mapUpdate t (.map (some b)) (C.enc a) (ET v)).run P W= .ok () (setBlock W b (.map es' clock'))∧KD C ET es' clock' (Lp l a v):=by
 obtain⟨lit,hk⟩:=C.good a ga
 rcases h.find a ga W with⟨h1,h2⟩|⟨j,p,x,h1,rfl,h3,h4,h5,h6⟩
 ·refine⟨es.push ⟨C.enc a,ET v,clock⟩,clock+1,?_,?_⟩
  ·simp[Instr.mapUpdate,run_underlying ht,MapKept.run_getObj_map hb,C.K.check W _ hk,h2,MapKept.run_setObj_map _ hb,Result.andThen,setBlock]
  ·rw[(VH l a h1).2.1]
   refine⟨?_,fun p hp=>?_,?_,fun x hx=>?_,?_⟩
   ·rw[KN,BU,BU,h.rd];rfl
   ·rcases BJ.1 hp with hp|hp
    ·exact h.gd p hp
    ·rw[Bf.1 hp];exact ga
   ·rw[BU]
    refine CS.2 ⟨h.nd,J,fun x hx y hy e=>?_⟩
    obtain⟨p,hp,rfl⟩:=BX.1 hx
    simp at hy
    exact h1 p hp (e.trans hy)
   ·rw[KN]at hx
    rcases BJ.1 hx with hx|hx
    ·have:=h.born x hx;omega
    ·rw[Bf.1 hx];exact Nat.lt_succ_self _
   ·rw[KN,BU]
    refine CS.2 ⟨h.bn,J,fun x hx y hy e=>?_⟩
    obtain⟨p,hp,rfl⟩:=BX.1 hx
    simp at hy
    have:=h.born p hp;omega
 ·have hst:=C.K.stays W hk
  have hj:j<es.size:=by have:=(BA.1 h3).1;simpa using this
  have hxa:es[j]? =some x:=by rw[←U5];exact h3
  refine⟨es.modify j fun e=>{e with key:=C.enc p.1,val:=ET v},clock,?_,?_⟩
  ·simp[Instr.mapUpdate,run_underlying ht,MapKept.run_getObj_map hb,C.K.check W _ hk,h6,hxa,h4,hst,MapKept.run_setObj_map _ hb,Result.andThen,setBlock]
  ·have hes:(es.modify j fun e=>{e with key:=C.enc p.1,val:=ET v}).toList=es.toList.set j {x with key:=C.enc p.1,val:=ET v}:=by
    rw[KZ]
    apply Eu
    intro i
    rw[List.getElem?_modify,Ei]
    by_cases e:j=i
    ·subst e;rw[if_pos rfl,h3,if_pos zN];simp
    ·rw[if_neg e];simp[e]
   rw[(Xn l j p h1 h.nd).2.1]
   have anF:(l.set j (p.1,v)).map Prod.fst=l.map Prod.fst:=by
    rw[Gy]
    apply Eu
    intro i
    rw[Ei]
    by_cases e:j=i
    ·subst e
     rw[if_pos rfl,BG,h1]
     have:=(BA.1 h1).1
     rw[if_pos zK];rfl
    ·rw[if_neg e]
   have hbn:(es.toList.set j {x with key:=C.enc p.1,val:=ET v}).map (·.born)=es.toList.map (·.born):=by
    rw[Gy]
    apply Eu
    intro i
    rw[Ei]
    by_cases e:j=i
    ·subst e
     rw[if_pos rfl,BG,h3,if_pos zN];rfl
    ·rw[if_neg e]
   refine⟨?_,fun q hq=>?_,by rw[anF];exact h.nd,fun y hy=>?_,by rw[hes,hbn];exact h.bn⟩
   ·rw[hes,Gy,Gy,h.rd]
   ·rcases E5 hq with hq|rfl
    ·exact h.gd q hq
    ·exact h.gd p (A8 h1)
   ·rw[hes]at hy
    rcases E5 hy with hy|rfl
    ·exact h.born y hy
    ·exact h.born x (A8 h3)
theorem KD.del{t e ty:TypeId}(h:KD C ET es clock l)(ht:P.underlying t=some (.map k e)){W:World}{b:Nat}(hb:W.heap[b]? =some (.map es clock))(a:α)(ga:C.Gd a):
 ∃es',(Builtin.delete_ #[t,k] ty #[.map (some b),C.enc a]).run P W= .ok (.tuple #[]) (setBlock W b (.map es' clock))∧KD C ET es' clock (Uu l a)∧((es'=es∧∀p∈l,p.1≠a)∨∃j p,l[j]? =some p∧p.1=a∧es'.toList=es.toList.eraseIdx j):=by
 obtain⟨lit,hk⟩:=C.good a ga
 rcases h.find a ga W with⟨h1,h2⟩|⟨j,p,x,h1,rfl,h3,h4,h5,h6⟩
 ·refine⟨es,?_,by rw[(VH l a h1).2.2];exact h,.inl ⟨rfl,h1⟩⟩
  simp[Builtin.delete_,run_underlying ht,MapKept.run_getObj_map hb,C.K.check W _ hk,h2,MapKept.run_setObj_map _ hb,Result.andThen,setBlock]
 ·have hj:j<es.size:=by have:=(BA.1 h3).1;simpa using this
  have hes:(es.eraseIdxIfInBounds j).toList=es.toList.eraseIdx j:=by
   rw[Array.eraseIdxIfInBounds,dif_pos hj,Array.toList_eraseIdx]
  refine⟨es.eraseIdxIfInBounds j,?_,?_,.inr ⟨j,p,h1,rfl,hes⟩⟩
  ·simp[Builtin.delete_,run_underlying ht,MapKept.run_getObj_map hb,C.K.check W _ hk,h6,MapKept.run_setObj_map _ hb,Result.andThen,setBlock]
  ·rw[(Xn l j p h1 h.nd).2.2]
   have hsub:=Mc es.toList j
   refine⟨?_,fun q hq=>h.gd q ((Mc l j).subset hq),(((Mc l j).map _).nodup h.nd),fun y hy=>?_,?_⟩
   ·rw[hes,ChangeMaps.map_eraseIdx,ChangeMaps.map_eraseIdx,h.rd]
   ·rw[hes]at hy;exact h.born y (hsub.subset hy)
   ·rw[hes];exact(hsub.map _).nodup h.bn
end
end
end
section
section
open Go.RowKit Go.MapKept
open Go.Maps (Keyed)
open Go.ChangeMaps (setBlock)
def mleft{α β:Type}(lb:List ((α×β)×Bool)):List (α×β):=(lb.filter (·.2)).map (·.1)
theorem Pg{α β:Type}:∀(lb:List ((α×β)×Bool)) (j:Nat) (p:α×β),lb[j]? =some (p,true)→(mleft lb).Perm (p::mleft (lb.set j (p,false)))
 | [],j,p,h=>by simp at h
 |q::lb,0,p,h=>by
  obtain rfl:q=(p,true):=by simpa using h
  simp[mleft]
 |q::lb,j+1,p,h=>by
  have ih:=Pg lb j p zS
  obtain⟨q1,q2⟩:=q
  cases q2 with
  |false=>simpa [mleft]using ih
  |true=>
   have:(q1::mleft lb).Perm (p::q1::mleft (lb.set j (p,false))):=(ih.cons q1).trans (List.Perm.swap _ _ _)
   simpa [mleft]using this
theorem YT{α β:Type}(l:List (α×β)):mleft (l.map fun p=>(p,true))=l:=by
 unfold mleft
 induction l with
 |nil=>rfl
 |cons p l ih=>simpa using ih
theorem adp{α β:Type}(lb:List ((α×β)×Bool)):mleft lb=[]↔∀q∈lb,q.2=false:=by
 unfold mleft
 rw[List.map_eq_nil_iff,List.filter_eq_nil_iff]
 constructor
 ·intro h q hq;have:=h q hq;simpa using this
 ·intro h q hq;rw[h q hq];simp
structure Px {P:Program} {k:TypeId} {α β:Type} (C:KC P k α) (ET:β→Value) (es:Array MapEntry) (clock since:Nat) (seen:Array Nat) (c0:Nat) (lb:List ((α×β)×Bool)):Prop where
 ok:KD C ET es clock (lb.map (·.1))
 fl:es.toList.map (fun e=> !seen.contains e.born)=lb.map (·.2)
 old:∀x∈es.toList,x.born<since
 s0:since≤c0
 s1:since≤clock
section
variable{P:Program}{k:TypeId}{α β:Type}[DecidableEq α]{C:KC P k α}{ET:β→Value}{es:Array MapEntry}{clock since c0:Nat}{seen:Array Nat}{lb:List ((α×β)×Bool)}{l:List (α×β)}
theorem Px.start(h:KD C ET es clock l):Px C ET es clock clock #[] clock (l.map fun p=>(p,true)):=by
 have e:(l.map fun p=>(p,true)).map (·.1)=l:=by rw[Ja];exact TS l
 refine⟨by rw[e];exact h,?_,h.born,Bg _,Bg _⟩
 have hl:es.toList.length=l.length:=by rw[Qh];exact h.len
 rw[Ja]
 apply Eu
 intro i
 rw[BG,BG]
 by_cases hi:i<l.length
 ·rw[Ar Y,Ar hi];simp
 ·rw[DC Y,DC Y];rfl
theorem Px.at(h:Px C ET es clock since seen c0 lb)(j:Nat)(e:MapEntry)(he:es.toList[j]? =some e):∃p,lb[j]? =some (p, !seen.contains e.born)∧e.key=C.enc p.1∧e.val=ET p.2:=by
 obtain⟨p,hp,h1,h2⟩:=h.ok.at j e he
 have h3:=congrArg (fun x=>x[j]?) h.fl
 simp only[BG,he,EN]at h3 hp
 cases hq:lb[j]? with
 |none=>rw[hq]at hp;cases hp
 |some q=>
  rw[hq]at hp h3
  simp only[EN,MK]at hp h3
  obtain⟨q1,q2⟩:=q
  simp only at hp h3
  exact⟨p,by rw[hp,h3],h1,h2⟩
theorem Px.next(h:Px C ET es clock since seen c0 lb){W:World}{b r:Nat}(hb:W.heap[b]? =some (.map es clock))(hr:W.heap[r]? =some (.mapIter (some b) since seen c0))(ty:TypeId):
 (mleft lb=[]∧(Instr.next (.pointer (some ⟨r,0,none⟩)) false ty).run P W= .ok (.tuple #[.bool false]) W)∨
 (mleft lb≠[]∧∃j p e,∃w1:World,(w1=W∨w1=W.drew)∧lb[j]? =some (p,true)∧e∈es.toList∧e.key=C.enc p.1∧e.val=ET p.2∧(Instr.next (.pointer (some ⟨r,0,none⟩)) false ty).run P W= .ok (.tuple #[.bool true,C.enc p.1,ET p.2]) (setBlock w1 r (.mapIter (some b) since (seen.push e.born) clock))∧Px C ET es clock since (seen.push e.born) clock (lb.set j (p,false))):=by
 rcases run_next_at (P:=P) W ty r b since c0 seen es clock hr hb h.old h.s0 with⟨h0,hrun⟩|⟨e,he,w1,hal,hrun⟩
 ·refine .inl ⟨(adp lb).2 fun q hq=>?_,hrun⟩
  obtain⟨j,hj⟩:=Nr hq
  have h3:=congrArg (fun x=>x[j]?) h.fl
  simp only[BG,hj,EN]at h3
  cases hx:es.toList[j]? with
  |none=>rw[hx]at h3;cases h3
  |some x=>
   rw[hx]at h3
   simp only[EN,MK]at h3
   rw[←h3,all_seen es seen h0 x (A8 hx)];rfl
 ·obtain⟨hem,hes⟩:=mem_left he
  obtain⟨j,hj⟩:=Nr hem
  obtain⟨p,hp,hk,hv⟩:=h.at j e hj
  rw[hes]at hp
  refine .inr ⟨fun hn=>?_,j,p,e,w1,hal,hp,hem,hk,hv,by rw[←hk,←hv];exact hrun,?_⟩
  ·have:=(adp lb).1 hn _ (A8 hp);cases this
  ·have anF:(lb.set j (p,false)).map (·.1)=lb.map (·.1):=by
    rw[Gy]
    apply Eu
    intro i
    rw[Ei]
    by_cases e:j=i
    ·subst e
     rw[if_pos rfl,BG,hp]
     have:=(BA.1 hp).1
     rw[if_pos zK];rfl
    ·rw[if_neg e]
   refine⟨by rw[anF];exact h.ok,?_,h.old,h.s1,h.s1⟩
   have hlen:=congrArg List.length h.fl
   simp only[Ci]at hlen
   rw[Gy]
   apply Eu
   intro i
   rw[Ei]
   have h3:=congrArg (fun x=>x[i]?) h.fl
   simp only[BG]at h3⊢
   by_cases e2:j=i
   ·subst e2
    rw[if_pos rfl,hj,if_pos (by have:=(BA.1 hp).1;simpa using this)]
    simp
   ·rw[if_neg e2,←h3]
    cases hx:es.toList[i]? with
    |none=>rfl
    |some x=>
     have hne:x.born≠e.born:=fun hbe=>by
      have g1:=h.ok.bn
      have hi:=(BA.1 hx).1
      have hj':=(BA.1 hj).1
      have a1:(es.toList.map (·.born))[i]? =some x.born:=by rw[BG,hx];rfl
      have a2:(es.toList.map (·.born))[j]? =some x.born:=by rw[BG,hj,hbe];rfl
      exact e2 (((List.getElem?_inj zO g1).1 (a1.trans a2.symm)).symm)
     simp[hne]
theorem X8:∀(lb:List ((α×β)×Bool)) (j:Nat) (q:(α×β)×Bool),lb[j]? =some q→((lb.map (·.1)).map Prod.fst).Nodup→lb.filter (fun x=>decide (x.1.1≠q.1.1))=lb.eraseIdx j
 | [],j,q,h,_=>by simp at h
 |x::lb,0,q,h,hd=>by
  obtain rfl:x=q:=by simpa using h
  simp only[Dx,GH]at hd
  have:lb.filter (fun y=>decide (y.1.1≠x.1.1))=lb:=Qj.2 fun y hy=>decide_eq_true fun e=>hd.1 (e▸BX.2 ⟨y.1,BX.2 ⟨y,hy,rfl⟩,rfl⟩)
  rw[List.filter_cons_of_neg J,this];rfl
 |x::lb,j+1,q,h,hd=>by
  have h':lb[j]? =some q:=by simpa using h
  simp only[Dx,GH]at hd
  have hne:x.1.1≠q.1.1:=fun e=>hd.1 (e▸BX.2 ⟨q.1,BX.2 ⟨q,A8 h',rfl⟩,rfl⟩)
  rw[List.filter_cons_of_pos (by simpa using hne),X8 lb j q h' hd.2];rfl
theorem Px.del{t e ty:TypeId}(h:Px C ET es clock since seen c0 lb)(ht:P.underlying t=some (.map k e)){W:World}{b:Nat}(hb:W.heap[b]? =some (.map es clock))(a:α)(ga:C.Gd a):
 ∃es',(Builtin.delete_ #[t,k] ty #[.map (some b),C.enc a]).run P W= .ok (.tuple #[]) (setBlock W b (.map es' clock))∧Px C ET es' clock since seen c0 (lb.filter (fun x=>decide (x.1.1≠a))):=by
 obtain⟨es',hrun,hok,hes⟩:=h.ok.del ht hb a ga
 refine⟨es',hrun,?_⟩
 rcases hes with⟨rfl,hno⟩|⟨j,p,hj,rfl,hes⟩
 ·have:lb.filter (fun x=>decide (x.1.1≠a))=lb:=Qj.2 fun q hq=>decide_eq_true (hno q.1 (BX.2 ⟨q,hq,rfl⟩))
  rw[this];exact h
 ·rw[BG]at hj
  cases hq:lb[j]? with
  |none=>rw[hq]at hj;cases hj
  |some q=>
   rw[hq]at hj
   simp only[EN,MK]at hj
   subst hj
   have hf:=X8 lb j q hq h.ok.nd
   have hm:(lb.eraseIdx j).map (·.1)=Uu (lb.map (·.1)) q.1.1:=by
    rw[(Xn (lb.map (·.1)) j q.1 (by rw[BG,hq];rfl) h.ok.nd).2.2,ChangeMaps.map_eraseIdx]
   rw[hf]
   refine⟨by rw[hm];exact hok,?_,fun x hx=>h.old x ?_,h.s0,h.s1⟩
   ·rw[hes,ChangeMaps.map_eraseIdx,ChangeMaps.map_eraseIdx,h.fl]
   ·rw[hes]at hx;exact(Mc es.toList j).subset hx
end
end
end
section
section
open Go.RowKit Go.MapKept
open Go.Maps (Keyed)
open Go.ChangeMaps (setBlock)
section
variable{P:Program}{kt:TypeId}{α β:Type}
def mp(C:KC P kt α)(ET:β→Value)(b:Nat)(l:List (α×β)):Fp:=
 ⟨[b],fun W=>∃es clock,W.heap[b]? =some (.map es clock)∧KD C ET es clock l,by
  rintro W ⟨es,clock,h,_⟩ i hi
  rw[Bf.1 hi];exact QW h,by
  rintro W W' h ⟨es,clock,hb,hk⟩
  exact⟨es,clock,by rw[h b J];exact hb,hk⟩⟩
end
theorem aaw(W:World)(b:Nat)(o:Obj):Only [b] W (setBlock W b o):=
 ⟨rfl,rfl,rfl,by simp[setBlock],fun i _ hi=>by
  have:b≠i:=fun e=>hi (by rw[e];simp)
  simp[setBlock,LQ,this]⟩
theorem Y7(W:World)(b:Nat)(o o1:Obj)(h:W.heap[b]? =some o1):(setBlock W b o).heap[b]? =some o:=by
 have:=QW h
 simp[setBlock,LQ,this]
section
variable{P:Program}{kt:TypeId}{α β:Type}[DecidableEq α]{C:KC P kt α}{ET:β→Value}{b r:Nat}{l:List (α×β)}{lb:List ((α×β)×Bool)}{cur:Option (α×β)}{W w0:World}{F:List Nat}{L:List Fp}
theorem Heap.Xm(H:Heap w0 F L W)(j:Nat)(hj:L[j]? =some (mp C ET b l)):∃es clock,W.heap[b]? =some (.map es clock)∧KD C ET es clock l:=H.ok _ (A8 hj)
theorem Heap.ak2(H:Heap w0 F L W)(j:Nat)(hj:L[j]? =some (mp C ET b l)){es:Array MapEntry}{clock:Nat}{l':List (α×β)}(hk:KD C ET es clock l'):Heap w0 F (L.set j (mp C ET b l')) (setBlock W b (.map es clock)):=by
 obtain⟨es0,ax6,hb,_⟩:=H.Xm j hj
 refine H.at j hj (F':=[b]) ⟨?_,by simp[ids,mp],by simp[ids,mp],aaw W b _⟩ (by simp[mp])
 intro E hE
 rw[Bf.1 hE]
 exact⟨es,clock,Y7 W b _ _ hb,hk⟩
end
section
variable{P:Program}{ops:Array Oper}{rest:List Oper}{n:Sz}{k:Nat}{f:Nat→Value}{W W' w0:World}{F:List Nat}{L:List Fp}{Q:Exit→Act→World→Prop}{ty:TypeId}{pos:String}{af:Array Edge}{g:Option (Nat×Bool)}{dst:Option Tmp}{x y u:Operand}{v z:Value}{t e kt:TypeId}
variable{α β:Type}[DecidableEq α]{C:KC P kt α}{ET:β→Value}{b r:Nat}{l:List (α×β)}{lb:List ((α×β)×Bool)}{cur:Option (α×β)}{a:α}{q:β}
theorem aw7{o:Oper}(hd:o.dst=none)(hw:Region.wanted o (yl n f ops)=true)(hr:(execOp (ev n f) o).run P W= .ok (.value v) W')(h:SL P ops Q rest n f W'):SL P ops Q (o::rest) n f W:=by
 have hy:yielded ops (Fn n f).tmps=yl n f ops:=funext (TG n f ops)
 have hr':(execOp (Fn n f).eval o).run P W= .ok (.value v) W':=by rw[KY];exact hr
 refine⟨?_,fun l0 m=>?_⟩
 ·refine kD ?_
  rw[hr',Oper.upon_value,hd]
  exact h.out
 ·refine nN ?_
  refine Vq hr' (fun d=>by intro e;cases e) ?_
  rw[Oper.uponIn_value,hd]
  exact h.inr l0 m
theorem agR(C:KC P kt α)(ET:β→Value)(H:Heap w0 F L W)(hw:Region.wanted ⟨some k,.makeMap t none,ty,pos,af,g⟩ (yl n f ops)=true)
 (h:∀b W',Heap w0 F (mp C ET b ([]:List (α×β))::L) W'→SL P ops Q rest n (upd f k (.map (some b))) W'):SL P ops Q (⟨some k,.makeMap t none,ty,pos,af,g⟩::rest) n f W:=by
 refine Hf O hw (W':=W.alloc (.map #[] 0)) O (h _ _ (H.more (A:=[mp C ET W.heap.size []]) ⟨?_,by simp[ids,mp],by simp[ids,mp],?_⟩))
 ·intro E hE
  rw[Bf.1 hE]
  exact⟨#[],0,heap_alloc_new W _,KD.nil⟩
 ·exact Only.of_below ((Below.refl _ _).alloc (Bg _) _) _
theorem anP(H:Heap w0 F L W)(j:Nat)(hj:L[j]? =some (mp C ET b l))(hx:ev n f x= .map (some b))(hy:ev n f y=C.enc a)(ga:C.Gd a)(ht:P.underlying t=some (.map kt e))(hz:∀W,(zeroValue e).run P W= .ok z W)(ok:Bool):
 (execOp (ev n f) ⟨dst,.lookup t x y ok,ty,pos,af,g⟩).run P W= .ok (.value (if ok then .tuple #[((Ij l a).map ET).getD z,.bool (Ij l a).isSome]else((Ij l a).map ET).getD z)) W:=by
 obtain⟨es,clock,hb,hk⟩:=H.Xm j hj
 have h:=hk.look ht (hz W) hb a ga ok
 simp only[execOp,hx,hy,Sem.run_bind,h,Result.andThen_ok,Sem.run_pure]
theorem TF(H:Heap w0 F L W)(j:Nat)(hj:L[j]? =some (mp C ET b l))(hx:ev n f x= .map (some b))(hy:ev n f y=C.enc a)(ga:C.Gd a)(hm:Ij l a=some q)(ht:P.underlying t=some (.map kt e))(hz:∀W,(zeroValue e).run P W= .ok z W)(hv:ET q=v):
 (execOp (ev n f) ⟨dst,.lookup t x y false,ty,pos,af,g⟩).run P W= .ok (.value v) W:=by
 have h:=anP (dst:=dst) (ty:=ty) (pos:=pos) (af:=af) (g:=g) H j hj hx hy ga ht hz false
 rw[h,hm,←hv];rfl
theorem aqk(H:Heap w0 F L W)(j:Nat)(hj:L[j]? =some (mp C ET b l))(hx:ev n f x= .map (some b))(hy:ev n f y=C.enc a)(ga:C.Gd a)(hm:Ij l a=none)(ht:P.underlying t=some (.map kt e))(hz:∀W,(zeroValue e).run P W= .ok z W):
 (execOp (ev n f) ⟨dst,.lookup t x y false,ty,pos,af,g⟩).run P W= .ok (.value z) W:=by
 have h:=anP (dst:=dst) (ty:=ty) (pos:=pos) (af:=af) (g:=g) H j hj hx hy ga ht hz false
 rw[h,hm];rfl
theorem aiT(H:Heap w0 F L W)(j:Nat)(hj:L[j]? =some (mp C ET b l))(hx:ev n f x= .map (some b))(hy:ev n f y=C.enc a)(ga:C.Gd a)(hm:Ij l a=some q)(ht:P.underlying t=some (.map kt e))(hz:∀W,(zeroValue e).run P W= .ok z W)(hv:ET q=v):
 (execOp (ev n f) ⟨dst,.lookup t x y true,ty,pos,af,g⟩).run P W= .ok (.value (.tuple [v,.bool true].toArray)) W:=by
 have h:=anP (dst:=dst) (ty:=ty) (pos:=pos) (af:=af) (g:=g) H j hj hx hy ga ht hz true
 rw[h,hm,←hv];rfl
theorem ail(H:Heap w0 F L W)(j:Nat)(hj:L[j]? =some (mp C ET b l))(hx:ev n f x= .map (some b))(hy:ev n f y=C.enc a)(ga:C.Gd a)(hm:Ij l a=none)(ht:P.underlying t=some (.map kt e))(hz:∀W,(zeroValue e).run P W= .ok z W):
 (execOp (ev n f) ⟨dst,.lookup t x y true,ty,pos,af,g⟩).run P W= .ok (.value (.tuple [z,.bool false].toArray)) W:=by
 have h:=anP (dst:=dst) (ty:=ty) (pos:=pos) (af:=af) (g:=g) H j hj hx hy ga ht hz true
 rw[h,hm];rfl
theorem U6(H:Heap w0 F L W)(j:Nat)(hw:Region.wanted ⟨none,.mapUpdate t x y u,ty,pos,af,g⟩ (yl n f ops)=true)(hj:L[j]? =some (mp C ET b l))(hx:ev n f x= .map (some b))(hy:ev n f y=C.enc a)(hu:ev n f u=ET q)(ga:C.Gd a)(ht:P.underlying t=some (.map kt e))
 (h:∀W',Heap w0 F (L.set j (mp C ET b (Lp l a q))) W'→SL P ops Q rest n f W'):SL P ops Q (⟨none,.mapUpdate t x y u,ty,pos,af,g⟩::rest) n f W:=by
 obtain⟨es,clock,hb,hk⟩:=H.Xm j hj
 obtain⟨es',clock',hrun,hk'⟩:=hk.put ht hb a ga q
 exact aj0 rfl hw zL (h _ (H.ak2 j hj hk'))
theorem auq(H:Heap w0 F L W)(j:Nat)(hw:Region.wanted ⟨none,.call ⟨.builtin .delete,#[x,y],#[t,kt]⟩,ty,pos,af,g⟩ (yl n f ops)=true)(hj:L[j]? =some (mp C ET b l))(hx:ev n f x= .map (some b))(hy:ev n f y=C.enc a)(ga:C.Gd a)(ht:P.underlying t=some (.map kt e))
 (h:∀W',Heap w0 F (L.set j (mp C ET b (Uu l a))) W'→SL P ops Q rest n f W'):SL P ops Q (⟨none,.call ⟨.builtin .delete,#[x,y],#[t,kt]⟩,ty,pos,af,g⟩::rest) n f W:=by
 obtain⟨es,clock,hb,hk⟩:=H.Xm j hj
 obtain⟨es',hrun,hk',_⟩:=hk.del (ty:=ty) ht hb a ga
 exact aw7 (v:= .tuple #[]) rfl hw (by simp only[execOp,resolve,invoke,builtin,EK,Dx,D5,hx,hy,Sem.run_bind,Sem.run_pure,Result.andThen_ok,hrun]) (h _ (H.ak2 j hj hk'))
end
theorem JL{P:Program}{t:TypeId}{z:Value}{size bytes:Nat}(hi:Inf P t z size bytes):∀W,(zeroValue t).run P W= .ok z W:=by
 obtain⟨i,h1,h2,_,_⟩:=hi.ex
 exact fun W=>by simp[zeroValue,typeInfo,h1,h2]
def kI(P:Program)(kt:TypeId)(h:P.underlying kt=some (.int .i64)):KC P kt Int:=
 ⟨Value.int .i64,fun a=> -9223372036854775808≤a∧a≤9223372036854775807,Go.Maps.int_keyed h,fun a ha=>⟨_,Go.Maps.keyOf_int_mk h (wf_i64 ha)⟩,fun a b e=>by injection e⟩
end
end
section
section
open Go.RowKit
theorem set_perm{α:Type _}(L:List α)(k:Nat)(E:α)(hk:k<L.length):(L.set k E).Perm (E::L.eraseIdx k):=by
 have:(L.set k E).eraseIdx k=L.eraseIdx k:=by
  apply Eu
  intro i
  simp only[Ub,Ei]
  split
  ·rw[if_neg Y]
  ·rw[if_neg Y]
 rw[←this]
 have h2:=Py (L.set k E) k (by simpa using hk)
 rwa [UZ]at h2
theorem Jc{α:Type}{l:List α}{k:Nat}{x:α}(h:l[k]? =some x):l.take k++ [x]=l.take (k+1):=by rw[Fj,h];rfl
section
variable{P:Program}{n:Sz}{f:Nat→Value}{W w0:World}{dst:Option Tmp}{ty:TypeId}{pos:String}{af:Array Edge}{g:Option (Nat×Bool)}{x y:Operand}{t t2 e:TypeId}{v:Value}{k k2:IntKind}{a b:Int}
def aoA(A:Option Addr)(c i m:Nat):Option Addr:=A.map fun p=>if c=i then p else p.add (i*m)
theorem aaU{A:Option Addr}{l c:Nat}{lo:Operand}{i m:Nat}(hx:ev n f x= .slice A l c)(hl:ev n f lo= .int k a)(ha:a=(i:Int))(hi:i≤l)(h:P.underlying t=some (.slice e))(hm:∀W,(Go.sizeOf e).run P W= .ok m W):
 (execOp (ev n f) ⟨dst,.slice t x (some lo) none none,ty,pos,af,g⟩).run P W= .ok (.value (.slice (aoA A c i m) (l-i) (c-i))) W:=by
 subst ha
 have h1:(0:Int)≤i∧(i:Int)≤l:=Y
 simp only[execOp,Instr.sliceAt,Instr.slice,Instr.sliceBounds,Instr.sliceBound,hx,hl,asIntOf,EN,IB,Sem.run_bind,run_underlying h,Result.andThen_ok,Sem.run_pure,h1,and_self,if_true,hm,Bz]
 cases A with
 |none=>simp[aoA]
 |some p=>by_cases h2:c=i<;>simp[aoA,h2]
theorem Gm.slo{α:Type}{enc:α→Value}{w:World}{F:List Nat}{A:Option Addr}{xs:List α}(h:Gm enc w F A xs){c:Nat}(i:Nat)(hc:xs.length≤c):Gm enc w F (aoA A c i 1) (xs.drop i):=by
 intro h0
 rw[CZ]at h0
 obtain⟨b,o,e,hb,hr⟩:=h Y
 subst e
 refine⟨b,o+i,?_,hb,fun j z hj=>?_⟩
 ·show some (if c=i then _ else _)=_
  rw[if_neg Y];simp[Addr.add]
 ·rw[DV]at hj
  rw[Gs];exact hr _ z hj
theorem Gm.head{α:Type}{enc:α→Value}{w:World}{F:List Nat}{A:Option Addr}{xs:List α}(h:Gm enc w F A xs)(k:Nat):Gm enc w F A (xs.take k):=by
 intro h0
 obtain⟨b,o,e,hb,hr⟩:=h (by rw[Dy]at h0;omega)
 refine⟨b,o,e,hb,fun j z hj=>hr j z ?_⟩
 rw[IV]at hj
 split at hj
 ·exact hj
 ·cases hj
theorem Yw{size m c:Nat}{A:Option Addr}{xs:List Value}{T:TypeId}{F:List Nat}{L:List Fp}(H:Heap w0 F L W)(j:Nat)(hj:L[j]? =some (Dw size (.slice A m c) m xs T)):m≤c:=by
 rcases(H.IK j hj).2 with⟨e,h0⟩|⟨g,cap,cur,e,_,_,h,_⟩
 ·injection e with _ _ e;omega
 ·injection e with _ _ e;omega
theorem JX{α:Type}{enc:α→Value}{size:Nat}{F:List Nat}{L:List Fp}(H:Heap w0 F L W)(j:Nat){A:Option Addr}{n c:Nat}{xs:List α}{T:TypeId}(hj:L[j]? =some (Dw size (.slice A n c) n (xs.map enc) T)):Gm enc W [] A xs:=by
 intro h0
 obtain⟨b,e,_,hr⟩:=H.LZ j hj h0
 exact⟨b,0,e,J,hr⟩
end
section
variable{P:Program}{ops:Array Oper}{rest:List Oper}{n:Sz}{k k2:Nat}{f:Nat→Value}{W w0:World}{F:List Nat}{L:List Fp}{Q:Exit→Act→World→Prop}{ty ty2:TypeId}{pos pos2:String}{af af2:Array Edge}{g:Option (Nat×Bool)}{x y s:Operand}{v u:Value}{t e:TypeId}
theorem ah1(H:Heap w0 F L W)(j:Nat){p o:Nat}{cs cs':List Value}{T:TypeId}{c0:Value}(hw:Region.wanted ⟨none,.store t x y,ty,pos,af,g⟩ (yl n f ops)=true)(hx:ev n f x= .pointer (some ⟨p,o,none⟩))(hy:ev n f y=u)(hj:L[j]? =some (blk p cs T))(hv:cs[o]? =some c0)(hcs:cs.set o u=cs')(h1:u.oneCell'=true)(hs:∀W,(Go.sizeOf t).run P W= .ok 1 W)
 (h:∀W',Heap w0 F (L.set j (blk p cs' T)) W'→SL P ops Q rest n f W'):SL P ops Q (⟨none,.store t x y,ty,pos,af,g⟩::rest) n f W:=by
 subst hcs
 exact Ic H j hw hx hy hj hv h1 hs h
end
end
end
section
section
open Go.RowKit Go.MapKept
open Go.Maps (Keyed)
open Go.ChangeMaps (setBlock)
theorem acY{α β:Type}{lb:List ((α×β)×Bool)}{j:Nat}{p:α×β}(h:lb[j]? =some (p,true)):(lb.set j (p,false)).map (·.1)=lb.map (·.1):=by
 rw[Gy]
 apply Eu
 intro i
 rw[Ei]
 by_cases e:j=i
 ·subst e
  rw[if_pos rfl,BG,h]
  have:=(BA.1 h).1
  rw[if_pos zK];rfl
 ·rw[if_neg e]
section
variable{P:Program}{kt:TypeId}{α β:Type}
structure MapAt (C:KC P kt α) (ET:β→Value) (w0:World) (F:List Nat) (b:Nat) (es:Array MapEntry) (clock:Nat) (l:List (α×β)):Prop where
 hb:w0.heap[b]? =some (.map es clock)
 hk:KD C ET es clock l
 hF:b∉F
theorem MapAt.now{C:KC P kt α}{ET:β→Value}{w0 W:World}{F:List Nat}{b:Nat}{es:Array MapEntry}{clock:Nat}{l:List (α×β)}(M:MapAt C ET w0 F b es clock l)(hO:Only F w0 W):W.heap[b]? =some (.map es clock):=
 (hO.block b (QW M.hb) M.hF).trans M.hb
theorem MapAt.nd{C:KC P kt α}{ET:β→Value}{w0:World}{F:List Nat}{b:Nat}{es:Array MapEntry}{clock:Nat}{l:List (α×β)}(M:MapAt C ET w0 F b es clock l):(l.map Prod.fst).Nodup:=M.hk.nd
theorem DW.ag'[DecidableEq α]{C:KC P kt α}{ET:β→Value}{w:World}{A:List Fp}{b:Nat}{l:List (α×β)}(hE:DW A w)(j:Nat)(hj:A[j]? =some (mp C ET b l)):∃es clock,MapAt C ET w [] b es clock l:=by
 obtain⟨es,clock,h1,h2⟩:=(Heap.start hE).Xm j hj
 exact⟨es,clock,h1,h2,J⟩
def mri(C:KC P kt α)(ET:β→Value)(es:Array MapEntry)(clock b r:Nat)(lb:List ((α×β)×Bool))(cur:Option (α×β)):Fp:=
 ⟨[r],fun W=>∃since seen c0,W.heap[r]? =some (.mapIter (some b) since seen c0)∧Px C ET es clock since seen c0 lb∧
  ∀p,cur=some p→∃(e:MapEntry) (seen':Array Nat),seen=seen'.push e.born∧c0=clock∧e∈es.toList∧e.key=C.enc p.1∧e.val=ET p.2,by
  rintro W ⟨since,seen,c0,hr,_⟩ i hi
  rw[Bf.1 hi];exact QW hr,by
  rintro W W' h ⟨since,seen,c0,hr,hk⟩
  exact⟨since,seen,c0,by rw[h r J];exact hr,hk⟩⟩
end
section
variable{P:Program}{ops:Array Oper}{rest:List Oper}{n:Sz}{k:Nat}{f:Nat→Value}{W w0:World}{F:List Nat}{L:List Fp}{Q:Exit→Act→World→Prop}{ty:TypeId}{pos:String}{af:Array Edge}{g:Option (Nat×Bool)}{x y u:Operand}{t e kt:TypeId}{v z:Value}{dst:Option Tmp}
variable{α β:Type}[DecidableEq α]{C:KC P kt α}{ET:β→Value}{b r:Nat}{l:List (α×β)}{lb:List ((α×β)×Bool)}{cur:Option (α×β)}{a:α}{q:β}{es:Array MapEntry}{clock:Nat}
theorem Heap.aep(H:Heap w0 F L W)(j:Nat)(hj:L[j]? =some (mri C ET es clock b r lb cur)):∃since seen c0,W.heap[r]? =some (.mapIter (some b) since seen c0)∧Px C ET es clock since seen c0 lb∧
 ∀p,cur=some p→∃(e:MapEntry) (seen':Array Nat),seen=seen'.push e.born∧c0=clock∧e∈es.toList∧e.key=C.enc p.1∧e.val=ET p.2:=H.ok _ (A8 hj)
theorem ami(M:MapAt C ET w0 F b es clock l)(H:Heap w0 F L W)(hw:Region.wanted ⟨some k,.range t x,ty,pos,af,g⟩ (yl n f ops)=true)(hx:ev n f x= .map (some b))(ht:P.underlying t=some (.map kt e))
 (h:∀r W',Heap w0 F (mri C ET es clock b r (l.map fun p=>(p,true)) none::L) W'→SL P ops Q rest n (upd f k (.pointer (some ⟨r,0,none⟩))) W'):SL P ops Q (⟨some k,.range t x,ty,pos,af,g⟩::rest) n f W:=by
 have hb:=M.now H.only
 have hrun:=run_range_map (P:=P) W t kt e b es clock ht hb
 refine Hf O hw (W':=W.alloc (.mapIter (some b) clock #[] clock)) zV (h W.heap.size _ (H.more (A:=[mri C ET es clock b W.heap.size (l.map fun p=>(p,true)) none]) ⟨?_,?_,?_,?_⟩))
 ·intro E hE
  rw[Bf.1 hE]
  exact⟨clock,#[],clock,(MapKept.heap_alloc W _).1,Px.start M.hk,fun p hp=>by cases hp⟩
 ·simp[ids,mri]
 ·intro i hi
  simp[ids,mri]at hi
  exact .inr Y
 ·exact(Only.of_below ((Below.refl _ _).alloc (Bg _) _) _)
theorem adZ(M:MapAt C ET w0 F b es clock l)(H:Heap w0 F L W)(j:Nat)(hl:mleft lb=[])(hw:Region.wanted ⟨some k,.next x false,ty,pos,af,g⟩ (yl n f ops)=true)(hx:ev n f x= .pointer (some ⟨r,0,none⟩))(hj:L[j]? =some (mri C ET es clock b r lb cur))
 (h:SL P ops Q rest n (upd f k (.tuple [.bool false].toArray)) W):SL P ops Q (⟨some k,.next x false,ty,pos,af,g⟩::rest) n f W:=by
 obtain⟨since,seen,c0,hr,hk,_⟩:=H.aep j hj
 rcases hk.next (M.now H.only) hr ty with⟨_,hrun⟩|⟨hn,_⟩
 ·exact Hf rfl hw zV h
 ·exact absurd hl hn
theorem agP(M:MapAt C ET w0 F b es clock l)(H:Heap w0 F L W)(j:Nat)(hl:mleft lb≠[])(hw:Region.wanted ⟨some k,.next x false,ty,pos,af,g⟩ (yl n f ops)=true)(hx:ev n f x= .pointer (some ⟨r,0,none⟩))(hj:L[j]? =some (mri C ET es clock b r lb cur))
 (h:∀i p W',lb[i]? =some (p,true)→C.Gd p.1→Heap w0 F (L.set j (mri C ET es clock b r (lb.set i (p,false)) (some p))) W'→SL P ops Q rest n (upd f k (.tuple [.bool true,C.enc p.1,ET p.2].toArray)) W'):SL P ops Q (⟨some k,.next x false,ty,pos,af,g⟩::rest) n f W:=by
 obtain⟨since,seen,c0,hr,hk,_⟩:=H.aep j hj
 rcases hk.next (M.now H.only) hr ty with⟨hn,_⟩|⟨_,i,p,e0,w1,hal,hp,hem,hkey,hval,hrun,hk'⟩
 ·exact absurd hn hl
 ·have hr1:w1.heap[r]? =some (.mapIter (some b) since seen c0):=by rcases hal with rfl|rfl<;>exact hr
  have ho:Only [] W w1:=by
   rcases hal with rfl|rfl
   ·exact Only.refl _ _
   ·exact⟨rfl,rfl,rfl,Bg _,fun _ _ _=>rfl⟩
  have gp:C.Gd p.1:=hk.ok.gd p (BX.2 ⟨(p,true),A8 hp,rfl⟩)
  refine Hf O hw (W':=setBlock w1 r (.mapIter (some b) since (seen.push e0.born) clock)) zV (h i p _ hp gp (H.at j hj (F':=[r]) ⟨?_,?_,?_,?_⟩ (by simp[mri])))
  ·intro E hE
   rw[Bf.1 hE]
   exact⟨since,seen.push e0.born,clock,Y7 w1 r _ _ hr1,hk',fun p' hp'=>by
    injection hp' with hp'
    subst hp'
    exact⟨e0,seen,rfl,rfl,hem,hkey,hval⟩⟩
  ·simp[ids,mri]
  ·intro i hi
   simp[ids,mri]at hi
   exact .inl (by simp[hi])
  ·exact(ho.mono J).trans (aaw w1 r _)
theorem amF{p:α×β}(M:MapAt C ET w0 F b es clock l)(H:Heap w0 F L W)(j:Nat)(hj:L[j]? =some (mri C ET es clock b r lb (some p)))(hx:ev n f x= .pointer (some ⟨r,0,none⟩)):(execOp (ev n f) ⟨dst,.entry x,ty,pos,af,g⟩).run P W= .ok (.value (.tuple [C.enc p.1,ET p.2].toArray)) W:=by
 obtain⟨since,seen,c0,hr,hk,hc⟩:=H.aep j hj
 obtain⟨e0,seen',rfl,rfl,hem,hkey,hval⟩:=hc p rfl
 have hrun:=run_entry_at (P:=P) W r b since seen' es c0 e0 hr (M.now H.only) hem hk.ok.bn
 rw[hkey,hval]at hrun
 simp only[execOp,hx,Sem.run_bind,hrun,Result.andThen_ok,Sem.run_pure]
end
end
end
section
section
open Go.RowKit Go.MapKept
open Go.Maps (Keyed)
open Go.ChangeMaps (setBlock)
section
variable{P:Program}{k:TypeId}{α β:Type}[DecidableEq α]{C:KC P k α}{ET:β→Value}{es:Array MapEntry}{clock:Nat}{l:List (α×β)}
theorem ai0{W:World}{b:Nat}{o o1 o2:Obj}(h:W.heap[b]? =some o)(e:setBlock W b o1=setBlock W b o2):o1=o2:=by
 have h1:=Y7 W b o1 o h
 rw[e,Y7 W b o2 o h]at h1
 injection h1 with h1
 exact h1.symm
theorem KD.entry{t e:TypeId}(h:KD C ET es clock l)(ht:P.underlying t=some (.map k e)){z:Value}{W:World}(hz:(zeroValue e).run P W= .ok z W){b:Nat}(hb:W.heap[b]? =some (.map es clock))(a:α)(ga:C.Gd a):
 ∃(st:Nat) (es1:Array MapEntry) (clock1:Nat),(Instr.mapEntry t (.map (some b)) (C.enc a)).run P W= .ok (.tuple #[((Ij l a).map ET).getD z,.int .i64 st]) (setBlock W b (.map es1 clock1))∧
  ∀v:β,∃es' clock',KD C ET es' clock' (Lp l a v)∧∀(W2:World) (t2:TypeId),W2.heap[b]? =some (.map es1 clock1)→(Instr.entryStore t2 (.map (some b)) (.int .i64 st) (ET v)).run P W2= .ok () (setBlock W2 b (.map es' clock')):=by
 obtain⟨lit,hk⟩:=C.good a ga
 have hput:=fun v=>h.put ht hb a ga v
 rcases h.find a ga W with⟨h1,h2⟩|⟨j,p,x,h1,rfl,h3,h4,h5,h6⟩
 ·refine⟨clock,es.push ⟨C.enc a,z,clock⟩,clock+1,?_,fun v=>?_⟩
  ·rw[(VH l a h1).1]
   simp[Instr.mapEntry,run_underlying ht,MapKept.run_getObj_map hb,C.K.check W _ hk,h2,hz,MapKept.run_setObj_map _ hb,Result.andThen,setBlock,goInt]
  ·refine⟨es.push ⟨C.enc a,ET v,clock⟩,clock+1,?_,fun W2 t2 hw2=>?_⟩
   ·obtain⟨es',clock',hr,hok⟩:=hput v
    have hr2:(Instr.mapUpdate t (.map (some b)) (C.enc a) (ET v)).run P W= .ok () (setBlock W b (.map (es.push ⟨C.enc a,ET v,clock⟩) (clock+1))):=by
     simp[Instr.mapUpdate,run_underlying ht,MapKept.run_getObj_map hb,C.K.check W _ hk,h2,MapKept.run_setObj_map _ hb,Result.andThen,setBlock]
    rw[hr]at hr2
    injection hr2 with _ hr2
    have:=ai0 hb hr2
    injection this with e1 e2
    rw[←e1,←e2];exact hok
   ·have hidx:(es.push ⟨C.enc a,z,clock⟩).findIdx? (fun e=>((e.born:Nat):Int)==((clock:Nat):Int))=some es.size:=by
     rw[WideElems.findIdx_arr]
     exact WideElems.findIdx_born (l:=(es.push ⟨C.enc a,z,clock⟩).toList) (j:=es.size) (e0:=⟨C.enc a,z,clock⟩) (by
      simp only[KN,BU,Dx,D5]
      refine CS.2 ⟨h.bn,J,fun a ha c hc e1=>?_⟩
      simp only[Bf]at hc
      obtain⟨x,hx,rfl⟩:=BX.1 ha
      have:=h.born x hx
      omega) J
    have hmod:(es.push ⟨C.enc a,z,clock⟩).modify es.size (fun e=>{e with val:=ET v})=es.push ⟨C.enc a,ET v,clock⟩:=by
     apply Array.ext'
     rw[KZ,KN,KN,←Qh,WideElems.modify_last]
    simp[Instr.entryStore,MapKept.run_getObj_map hw2,asInt,asIntOf,goInt,hidx,hmod,MapKept.run_setObj_map _ hw2,Result.andThen,setBlock]
 ·have hst:=C.K.stays W hk
  have hxa:es[j]? =some x:=by rw[←U5];exact h3
  have hsame:es.modify j (fun e=>{e with key:=C.enc p.1})=es:=by
   apply Array.ext'
   rw[KZ,ChangeMaps.modify_eq_set _ _ _ _ h3]
   have:({x with key:=C.enc p.1}:MapEntry)=x:=by rw[←h4]
   rw[this]
   exact WideElems.set_self _ _ _ h3
  refine⟨x.born,es,clock,?_,fun v=>?_⟩
  ·rw[(Xn l j p h1 h.nd).1]
   simp[Instr.mapEntry,run_underlying ht,MapKept.run_getObj_map hb,C.K.check W _ hk,h6,hxa,h4,h5,hst,hsame,MapKept.run_setObj_map _ hb,Result.andThen,setBlock,goInt]
  ·obtain⟨es',clock',hr,hok⟩:=hput v
   refine⟨es',clock',hok,fun W2 t2 hw2=>?_⟩
   have hr2:(Instr.mapUpdate t (.map (some b)) (C.enc p.1) (ET v)).run P W= .ok () (setBlock W b (.map (es.modify j fun e=>{e with key:=C.enc p.1,val:=ET v}) clock)):=by
    simp[Instr.mapUpdate,run_underlying ht,MapKept.run_getObj_map hb,C.K.check W _ hk,h6,hxa,h4,hst,MapKept.run_setObj_map _ hb,Result.andThen,setBlock]
   rw[hr]at hr2
   injection hr2 with _ hr2
   have:=ai0 hb hr2
   injection this with e1 e2
   subst e1;subst e2
   have hidx:es.findIdx? (fun e=>((e.born:Nat):Int)==((x.born:Nat):Int))=some j:=by
    rw[WideElems.findIdx_arr]
    exact WideElems.findIdx_born h.bn h3
   have hmod:es.modify j (fun e=>{e with val:=ET v})=es.modify j (fun e'=>{e' with key:=C.enc p.1,val:=ET v}):=by
    apply Array.ext'
    rw[KZ,KZ,ChangeMaps.modify_eq_set _ _ _ _ h3,ChangeMaps.modify_eq_set _ _ _ _ h3,←h4]
   simp[Instr.entryStore,MapKept.run_getObj_map hw2,asInt,asIntOf,goInt,hidx,hmod,MapKept.run_setObj_map _ hw2,Result.andThen,setBlock]
end
section
variable{P:Program}{kt:TypeId}{α β:Type}[DecidableEq α]
def me(C:KC P kt α)(ET:β→Value)(b:Nat)(l:List (α×β))(a:α)(st:Nat):Fp:=
 ⟨[b],fun W=>∃es1 clock1,W.heap[b]? =some (.map es1 clock1)∧∀v:β,∃es' clock',KD C ET es' clock' (Lp l a v)∧∀(W2:World) (t2:TypeId),W2.heap[b]? =some (.map es1 clock1)→(Instr.entryStore t2 (.map (some b)) (.int .i64 st) (ET v)).run P W2= .ok () (setBlock W2 b (.map es' clock')),by
  rintro W ⟨es,clock,h,_⟩ i hi
  rw[Bf.1 hi];exact QW h,by
  rintro W W' h ⟨es,clock,hb,hk⟩
  exact⟨es,clock,by rw[h b J];exact hb,hk⟩⟩
end
section
variable{P:Program}{ops:Array Oper}{rest:List Oper}{n:Sz}{k:Nat}{f:Nat→Value}{W w0:World}{F:List Nat}{L:List Fp}{Q:Exit→Act→World→Prop}{ty:TypeId}{pos:String}{af:Array Edge}{g:Option (Nat×Bool)}{x y u s:Operand}{t e kt:TypeId}{v z:Value}{dst:Option Tmp}
variable{α β:Type}[DecidableEq α]{C:KC P kt α}{ET:β→Value}{b:Nat}{l:List (α×β)}{a:α}{q:β}
theorem apv(H:Heap w0 F L W)(j:Nat)(hw:Region.wanted ⟨some k,.mapEntry t x y,ty,pos,af,g⟩ (yl n f ops)=true)(hj:L[j]? =some (mp C ET b l))(hx:ev n f x= .map (some b))(hy:ev n f y=C.enc a)(ga:C.Gd a)(hm:((Ij l a).map ET).getD z=v)(ht:P.underlying t=some (.map kt e))(hz:∀W,(zeroValue e).run P W= .ok z W)
 (h:∀st W',Heap w0 F (L.set j (me C ET b l a st)) W'→SL P ops Q rest n (upd f k (.tuple [v,.int .i64 (st:Nat)].toArray)) W'):SL P ops Q (⟨some k,.mapEntry t x y,ty,pos,af,g⟩::rest) n f W:=by
 obtain⟨es,clock,hb,hk⟩:=H.Xm j hj
 obtain⟨st,es1,clock1,hrun,hst⟩:=hk.entry ht (hz W) hb a ga
 rw[hm]at hrun
 refine Hf O hw (W':=setBlock W b (.map es1 clock1)) (v:= .tuple [v,.int .i64 st].toArray) (by simp only[execOp,hx,hy,Sem.run_bind,hrun,Result.andThen_ok];rfl) (h st _ (H.at j hj (F':=[b]) ⟨?_,by simp[ids,me],by simp[ids,me],aaw W b _⟩ (by simp[mp])))
 intro E hE
 rw[Bf.1 hE]
 exact⟨es1,clock1,Y7 W b _ _ hb,hst⟩
theorem apA{st:Nat}(H:Heap w0 F L W)(j:Nat)(hw:Region.wanted ⟨none,.entryStore t x y u,ty,pos,af,g⟩ (yl n f ops)=true)(hj:L[j]? =some (me C ET b l a st))(hx:ev n f x= .map (some b))(hy:ev n f y= .int .i64 (st:Nat))(hu:ev n f u=v)(hq:v=ET q)
 (h:∀W',Heap w0 F (L.set j (mp C ET b (Lp l a q))) W'→SL P ops Q rest n f W'):SL P ops Q (⟨none,.entryStore t x y u,ty,pos,af,g⟩::rest) n f W:=by
 obtain⟨es1,clock1,hb,hk⟩:=H.ok _ (A8 hj)
 obtain⟨es',clock',hok,hrun⟩:=hk q
 have hrun:=hrun W t hb
 rw[←hq]at hrun
 refine aj0 O hw (W':=setBlock W b (.map es' clock')) zL (h _ (H.at j hj (F':=[b]) ⟨?_,by simp[ids,mp],by simp[ids,mp],aaw W b _⟩ (by simp[me])))
 intro E hE
 rw[Bf.1 hE]
 exact⟨es',clock',Y7 W b _ _ hb,hok⟩
theorem aga(H:Heap w0 F L W)(j:Nat)(hj:L[j]? =some (mp C ET b l))(hx:ev n f x= .map (some b))(hy:ev n f y=C.enc a)(ga:C.Gd a)(hm:((Ij l a).map ET).getD z=v)(ht:P.underlying t=some (.map kt e))(hz:∀W,(zeroValue e).run P W= .ok z W):
 (execOp (ev n f) ⟨dst,.lookup t x y false,ty,pos,af,g⟩).run P W= .ok (.value v) W:=by
 have h:=anP (dst:=dst) (ty:=ty) (pos:=pos) (af:=af) (g:=g) H j hj hx hy ga ht hz false
 rw[h,if_neg J,hm]
end
end
end
end Go.Proofs.YtppilhpcmkekbaaGreat
