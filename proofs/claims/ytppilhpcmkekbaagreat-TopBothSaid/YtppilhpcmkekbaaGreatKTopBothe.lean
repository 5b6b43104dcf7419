/- Parts of the proof. -/
import Derived.Laws.StructEq
import Derived.Lib.AppendZeros
import Derived.Maps.Keyed
import Derived.Maps.RangeRun
import Derived.Carry
import Derived.WideKeyEntry
import Derived.Test.YtppilhpcmkekbaaGreatKTopBothd
set_option linter.unusedSimpArgs false
set_option linter.unusedVariables false
set_option linter.unusedSectionVars false
set_option maxRecDepth 100000
set_option maxHeartbeats 16000000
namespace Go.Proofs.YtppilhpcmkekbaaGreat
open Go.Proofs.Tryz
abbrev RP:=@Prod.mk.injEq
section
section
open Go.RowKit
section
variable{P:Program}{ops:Array Oper}{rest:List Oper}{n:Sz}{i j k m id fuel:Nat}{f:Nat→Value}{W W' w0:World}{F:List Nat}{L:List FU}{Q:Exit→Act→World→Prop}{v u:Value}{S:World→Prop}{listed:Array Bool}{ty t t2 e:TypeId}{pos:String}{af:Array Edge}{x y:Operand}{kk:IntKind}{a b c:Int}{q:Bool}{p o l cc:Nat}{A:Option Addr}{cs vs:List Value}{T:TypeId}
theorem AV{op:Op}(hr:(execOp (ev n f) ⟨some k,op,ty,pos,af,none⟩).run P W= .ok (.value v) W')(h:SL P ops Q rest n (upd f k v) W'):SL P ops Q (⟨some k,op,ty,pos,af,none⟩::rest) n f W:=Hu rfl rfl hr h
theorem Bo{op:Op}(t:Nat)(hv:ev n f (.tmp t)= .bool q)(hr:(execOp (ev n f) ⟨some k,op,ty,pos,af,some (j,q)⟩).run P W= .ok (.value v) W')(h:SL P ops Q rest n (upd f k v) W')(hj:(ops[j]?).bind (·.dst)=some t:=by kernel_rfl):SL P ops Q (⟨some k,op,ty,pos,af,some (j,q)⟩::rest) n f W:=Hu rfl (ET t hj hv) hr h
theorem Df{op:Op}{q2:Bool}(t:Nat)(hv:ev n f (.tmp t)= .bool q2)(hc:q2= !q)(h:SL P ops Q rest n (upd f k undef) W)(hj:(ops[j]?).bind (·.dst)=some t:=by kernel_rfl):SL P ops Q (⟨some k,op,ty,pos,af,some (j,q)⟩::rest) n f W:=apN rfl (Gj t hj hv hc) h
theorem Je{op:Op}(t:Nat)(hv:ev n f (.tmp t)=undef)(h:SL P ops Q rest n (upd f k undef) W)(hj:(ops[j]?).bind (·.dst)=some t:=by kernel_rfl):SL P ops Q (⟨some k,op,ty,pos,af,some (j,q)⟩::rest) n f W:=apN rfl (awm t hj hv) h
theorem AQ(hx:ev n f x= .int kk a)(h:SL P ops Q rest n (upd f k (.int kk a)) W):SL P ops Q (⟨some k,.move x,ty,pos,af,none⟩::rest) n f W:=AV (Cc hx) h
theorem BX(hx:ev n f x= .bool q)(h:SL P ops Q rest n (upd f k (.bool q)) W):SL P ops Q (⟨some k,.move x,ty,pos,af,none⟩::rest) n f W:=AV (Cc hx) h
theorem Bg(hx:ev n f x= .pointer A)(h:SL P ops Q rest n (upd f k (.pointer A)) W):SL P ops Q (⟨some k,.move x,ty,pos,af,none⟩::rest) n f W:=AV (Cc hx) h
theorem Dz(hx:ev n f x= .slice A l cc)(h:SL P ops Q rest n (upd f k (.slice A l cc)) W):SL P ops Q (⟨some k,.move x,ty,pos,af,none⟩::rest) n f W:=AV (Cc hx) h
theorem Dt{ts:Array Value}(hx:ev n f x= .tuple ts)(h:SL P ops Q rest n (upd f k (.tuple ts)) W):SL P ops Q (⟨some k,.move x,ty,pos,af,none⟩::rest) n f W:=AV (Cc hx) h
theorem AY(hx:ev n f x= .int kk a)(h:SL P ops Q rest n (upd f k (.int kk a)) W):SL P ops Q (⟨some k,.assign x,ty,pos,af,none⟩::rest) n f W:=AV (DK hx) h
theorem BH(hx:ev n f x= .bool q)(h:SL P ops Q rest n (upd f k (.bool q)) W):SL P ops Q (⟨some k,.assign x,ty,pos,af,none⟩::rest) n f W:=AV (DK hx) h
theorem Fb(hx:ev n f x= .pointer A)(h:SL P ops Q rest n (upd f k (.pointer A)) W):SL P ops Q (⟨some k,.assign x,ty,pos,af,none⟩::rest) n f W:=AV (DK hx) h
theorem EM(hx:ev n f x= .slice A l cc)(h:SL P ops Q rest n (upd f k (.slice A l cc)) W):SL P ops Q (⟨some k,.assign x,ty,pos,af,none⟩::rest) n f W:=AV (DK hx) h
theorem axG{ts:Array Value}(hx:ev n f x= .tuple ts)(h:SL P ops Q rest n (upd f k (.tuple ts)) W):SL P ops Q (⟨some k,.assign x,ty,pos,af,none⟩::rest) n f W:=AV (DK hx) h
theorem BU{ad:Addr}(hx:ev n f x= .pointer (some ad))(h:SL P ops Q rest n (upd f k (.pointer (some ad))) W):SL P ops Q (⟨some k,.nilCheck x,ty,pos,af,none⟩::rest) n f W:=AV (DT hx) h
theorem BI(hx:ev n f x= .pointer (some ⟨p,0,none⟩))(hf:∀(a:Addr) (W:World),(Instr.fieldAt t (.pointer (some a)) i).run P W= .ok (.pointer (some (a.add m))) W)(h:SL P ops Q rest n (upd f k (.pointer (some ⟨p,m,none⟩))) W):SL P ops Q (⟨some k,.fieldAddr t x i,ty,pos,af,none⟩::rest) n f W:=AV (Cm hx hf) h
theorem BG(H:Heap w0 F L W)(j:Nat)(hx:ev n f x= .pointer (some ⟨p,o,none⟩))(hj:L[j]? =some (blk p cs T))(hv:cs[o]? =some v)(hagg:∀W,(isAgg t).run P W= .ok false W)(h:SL P ops Q rest n (upd f k v) W):SL P ops Q (⟨some k,.load t x,ty,pos,af,none⟩::rest) n f W:=AV (DR H j hx hj hv hagg) h
theorem Dw(H:Heap w0 F L W)(j:Nat)(hx:ev n f x= .pointer (some ⟨p,0,none⟩))(hj:L[j]? =some (blk p cs T))(hl:cs.length=m)(hagg:∀W,(isAgg t).run P W= .ok true W)(hsz:∀W,(Go.sizeOf t).run P W= .ok m W)(h:SL P ops Q rest n (upd f k (.agg cs.toArray)) W):SL P ops Q (⟨some k,.load t x,ty,pos,af,none⟩::rest) n f W:=AV (J5 H j hx hj hl hagg hsz) h
theorem Eb(hx:ev n f x= .slice A l cc)(hu:P.underlying t=some (.slice e))(h:SL P ops Q rest n (upd f k (.int .i64 l)) W):SL P ops Q (⟨some k,.call ⟨.builtin .len,#[x],#[t]⟩,ty,pos,af,none⟩::rest) n f W:=AV (Gw hx hu) h
theorem CV(hx:ev n f x= .tuple vs.toArray)(hv:vs[i]? =some (.int kk a))(h:SL P ops Q rest n (upd f k (.int kk a)) W):SL P ops Q (⟨some k,.extract x i,ty,pos,af,none⟩::rest) n f W:=AV (CQ hx hv) h
theorem DW{z:Operand}(hx:ev n f x= .bool false)(hz:ev n f z= .bool q)(h:SL P ops Q rest n (upd f k (.bool q)) W):SL P ops Q (⟨some k,.pick x y z,ty,pos,af,none⟩::rest) n f W:=AV (LV hx hz) h
theorem EZ{z:Operand}(hx:ev n f x= .bool true)(hy:ev n f y= .bool q)(h:SL P ops Q rest n (upd f k (.bool q)) W):SL P ops Q (⟨some k,.pick x y z,ty,pos,af,none⟩::rest) n f W:=AV (Iz hx hy) h
theorem BL{fn:FuncId}{xs:Array Operand}{tys:Array TypeId}{q:Option (Nat×Bool)}(H:Heap w0 F L W)(hw:Region.wanted ⟨some k,.call ⟨.value (.func fn),xs,tys⟩,ty,pos,af,q⟩ (yl n f ops)=true)
 (hc:Calls P fn vs.toArray W fun e W'=>e= .returned v∧Only [] W W') (hrun:∀W,(execOp (ev n f) ⟨some k,.call ⟨.value (.func fn),xs,tys⟩,ty,pos,af,q⟩).run P W= .ok (.enter fn vs.toArray) W)
 (h:∀W',Heap w0 F L W'→SL P ops Q rest n (upd f k v) W'):SL P ops Q (⟨some k,.call ⟨.value (.func fn),xs,tys⟩,ty,pos,af,q⟩::rest) n f W:=
 s_call hw hc hrun fun _ W' h'=>⟨v,h'.1,h W' (H.same h'.2)⟩
theorem BD(i:Nat){op:Oper}(hi:ops[i]? =some op)(h:SL P ops (Exit.then (fun a' w'=>S w'∧wpAnyH P .any ops Q S fuel (listed.setIfInBounds i true) a' w') Q) [op] n f W)(hr:Region.ready .any ops listed=[i]:=by kernel_rfl):TR P ops Q S (fuel+1) listed n f W:=auM i hr (CB hi h)
theorem CU(h:PQ Q .normal n f W)(hr:Region.ready .any ops listed=[]:=by kernel_rfl):TR P ops Q S fuel listed n f W:=arQ hr h
theorem Et(i i2:Nat)(h:Up P ops Q S fuel listed n f W i)(h2:Up P ops Q S fuel listed n f W i2)(hr:Region.ready .any ops listed=[i,i2]:=by kernel_rfl):TR P ops Q S (fuel+1) listed n f W:=auG i i2 hr h h2
theorem BZ{op:Op}{C:World→Prop}{Qa:(Nat→Value)→Prop}(hr:∀W,C W→(execOp (ev n f) ⟨some k,op,ty,pos,af,none⟩).run P W= .ok (.value v) W)(h:QL P ops C Qa rest n (upd f k v)):QL P ops C Qa (⟨some k,op,ty,pos,af,none⟩::rest) n f:=ab8 rfl rfl hr h
theorem Iq{op:Op}{C:World→Prop}{Qa:(Nat→Value)→Prop}(t:Nat)(hv:ev n f (.tmp t)= .bool q)(hr:∀W,C W→(execOp (ev n f) ⟨some k,op,ty,pos,af,some (j,q)⟩).run P W= .ok (.value v) W)(h:QL P ops C Qa rest n (upd f k v))(hj:(ops[j]?).bind (·.dst)=some t:=by kernel_rfl):QL P ops C Qa (⟨some k,op,ty,pos,af,some (j,q)⟩::rest) n f:=ab8 rfl (ET t hj hv) hr h
theorem BO{g:FuncId}{fn:Func}{c:Code}{l:List Value}{R:Ending→World→Prop}(N:Nat)(hf:P.funcs[g]? =some fn)(hb:fn.body=some c)(h:CW P c (bodyPost P fn R) ⟨N,[]⟩ (args l) W)(hN:fn.ntmps=N:=by rfl)(hl:Nat.ble l.length N=true:=by rfl):Calls P g l.toArray W R:=k_in hf hb hN hl h
abbrev CJ(P:Program)(k:Nat):=∀{n:Sz} {f:Nat→Value} {ty:TypeId} {pos:String} {af:Array Edge} {g:Option (Nat×Bool)} {xs:Array Operand} {tys:Array TypeId} {dst:Option Tmp} {vs:List Value} (hv:xs.toList.map (ev n f)=vs) (W:World),(execOp (ev n f) ⟨dst,.call ⟨.value (.func k),xs,tys⟩,ty,pos,af,g⟩).run P W= .ok (.enter k vs.toArray) W
theorem CP {k : Nat} {F : Func} (hf : P.funcs[k]? = some F) (hn : (F.name == "runtime.NumGoroutine") = false := by kernel_rfl) (hb : F.body.isNone = false := by kernel_rfl) : CJ P k := fun hv W => arK hf hn hb hv W
end
theorem Bv{α:Type _}:((∀(x a:α) (l:List α),(x::l).set 0 a=a::l)∧(∀(x a:α) (l:List α) (i:Nat),(x::l).set (i+1) a=x::l.set i a))∧((∀(x:α) (l:List α) (i:Nat),(x::l).take (i+1)=x::l.take i)∧(∀l:List α,l.take 0=[])∧(∀(x:α) (l:List α) (i:Nat),(x::l).drop (i+1)=l.drop i)∧(∀l:List α,l.drop 0=l))∧((∀(x:α) (l m:List α),(x::l)++m=x::(l++m))∧(∀l:List α,[]++l=l)∧(∀l:List α,l++ []=l))∧(∀(x:α) (l:List α),(x::l).length=l.length+1)∧(([]:List α).length=0)∧(∀(x:α) (l:List α) (i:Nat),(x::l).eraseIdx (i+1)=x::l.eraseIdx i)∧(∀(x:α) (l:List α),(x::l).eraseIdx 0=l):=
 ⟨⟨fun _ _ _=>rfl,fun _ _ _ _=>rfl⟩,⟨fun _ _ _=>rfl,fun l=>KJ,fun _ _ _=>rfl,fun _=>rfl⟩,⟨fun _ _ _=>rfl,fun _=>rfl,fun l=>Dl l⟩,fun _ _=>rfl,rfl,fun _ _ _=>rfl,fun _ _=>rfl⟩
theorem axS{p:Prop}{A r:World→Prop}(k:∀W,A W→r W)(h:(∀W,A W→r W)→p:=by exact fun q=>by intro W H;simp only[Bv,Nat.reduceAdd]at H;exact q W H):p:=h k
end
end
section
section
open Go.RowKit
section
variable{P:Program}{n:Sz}{f:Nat→Value}{W w0:World}{F:List Nat}{L:List FU}{dst:Option Tmp}{ty:TypeId}{pos:String}{af:Array Edge}{g:Option (Nat×Bool)}{x y:Operand}{v:Value}{k:IntKind}{a b:Int}{t t2 e T:TypeId}{p o m:Nat}{cs vs:List Value}
theorem abZ{α:Type}{enc:α→Value}{zs:List α}(h:Reads enc W p o zs)(hl:zs.length=m)(hagg:∀W,(isAgg t).run P W= .ok true W)(hsz:∀W,(Go.sizeOf t).run P W= .ok m W):(loadVar t ⟨p,o,none⟩).run P W= .ok (.agg (zs.map enc).toArray) W:=by
 have hr:=run_loadCells_list (P:=P) W ⟨p,o,none⟩ (zs.map enc) (fun j u hj=>by
  rw[add_plain]
  rw[Cb]at hj
  cases hz:zs[j]? with
  |none=>rw[hz]at hj;simp at hj
  |some z=>rw[hz]at hj;rw[h j z hz];simpa using hj)
 simp only[loadVar,Sem.run_bind,hagg,Result.andThen_ok,if_true,hsz]
 rw[DL,hl]at hr
 rw[hr];simp
theorem ZA{α:Type}{enc:α→Value}{zs:List α}(h:Reads enc W p o zs)(hx:ev n f x= .pointer (some ⟨p,o,none⟩))(hl:zs.length=m)(hagg:∀W,(isAgg t).run P W= .ok true W)(hsz:∀W,(Go.sizeOf t).run P W= .ok m W):
 (execOp (ev n f) ⟨dst,.load t x,ty,pos,af,g⟩).run P W= .ok (.value (.agg (zs.map enc).toArray)) W:=by
 have h2:=abZ (P:=P) (t:=t) h hl hagg hsz
 simp only[execOp,Instr.loadAt,hx,Instr.sureAddr,Sem.run_bind,Sem.run_pure,Result.andThen_ok,h2]
theorem aiO{l:Nat}{q:Addr}(hx:ev n f x= .pointer (some q))(h:P.underlying t=some (.array l e))(hm:∀W,(Go.sizeOf e).run P W= .ok m W)(hl:0<l):
 (execOp (ev n f) ⟨dst,.slice t x none none none,ty,pos,af,g⟩).run P W= .ok (.value (.slice (some q) l l)) W:=by
 have h1:¬l=0:=Y
 have h2:q.add (0*m)=q:=by simp[Addr.add]
 simp only[execOp,Instr.sliceAt,Instr.sliceBounds,Instr.sureAddr,hx,Jw,Sem.run_bind,run_underlying h,Result.andThen_ok,Sem.run_pure,hm,h1,if_false,h2,ad2]
end
section
variable{P:Program}{ops:Array Oper}{rest:List Oper}{n:Sz}{k k2:Nat}{f:Nat→Value}{W w0:World}{F:List Nat}{L:List FU}{Q:Exit→Act→World→Prop}{ty ty2:TypeId}{pos pos2:String}{af af2:Array Edge}{g:Option (Nat×Bool)}{x y s:Operand}{v u:Value}{t e:TypeId}
end
end
end
section
section
open Go.RowKit
section
variable{P:Program}{n:Sz}{f:Nat→Value}{W w0:World}{dst:Option Tmp}{ty:TypeId}{pos:String}{af:Array Edge}{g:Option (Nat×Bool)}{x y:Operand}{t t2 e e1 e2:TypeId}
theorem Uh{k:IntKind}{l i:Nat}{a:Int}{cs:List Value}{v:Value}(hx:ev n f x= .agg cs.toArray)(hy:ev n f y= .int k a)(ha:a=(i:Int))(hi:i<l)(hv:cs[i]? =some v)(h:P.underlying t=some (.array l e))(hm:∀W,(Go.sizeOf e).run P W= .ok 1 W)(hagg:∀W,(isAgg e).run P W= .ok false W):
 (execOp (ev n f) ⟨dst,.index t x y,ty,pos,af,g⟩).run P W= .ok (.value v) W:=by
 subst ha
 have h1:(0:Int)≤i∧(i:Int)<l:=Y
 have h2:cs.toArray[i]? =some v:=by simpa using hv
 simp only[execOp,Instr.index,hx,hy,asIntOf,Sem.run_bind,run_underlying h,Result.andThen_ok,Sem.run_pure,h1,and_self,if_true,hm,BJ,part,hagg,IK,if_false,GY,h2]
end
theorem Heap.VJ{α:Type}{enc:α→Value}{w0 W:World}{F:List Nat}{L:List FU}(H:Heap w0 F L W)(j:Nat){q:Nat}{cs:List Value}{zs:List α}{T:TypeId}(hj:L[j]? =some (blk q cs T))(hc:cs=zs.map enc):Reads enc W q 0 zs:=by
 subst hc
 intro i z hz
 rw[EH,Joins.cell_of_block (H.OC j hj)]
 simp[hz]
section
variable{P:Program}{ops:Array Oper}{rest:List Oper}{n:Sz}{k k2:Nat}{f:Nat→Value}{W w0:World}{F:List Nat}{L:List FU}{Q:Exit→Act→World→Prop}{ty ty2:TypeId}{pos pos2:String}{af af2:Array Edge}{g:Option (Nat×Bool)}{x y s:Operand}{v u:Value}{t e:TypeId}
end
end
end
section
section
open Go.RowKit
def grp(A:List FU):FU:=
 ⟨ids A,fun W=>Dj A W,fun W h i hi=>by
  obtain⟨E,hE,hm⟩:=Nl.1 hi
  exact E.lt W (h.1 E hE) i hm,fun W W' hh h=>⟨fun E hE=>E.loc W W' (fun i hi=>hh i (Nl.2 ⟨E,hE,hi⟩)) (h.1 E hE),h.2⟩⟩
theorem Heap.Bl{w0 W:World}{F:List Nat}{L A:List FU}(H:Heap w0 F L W)(k:Nat)(hk:L[k]? =some (grp A)):Dj A W:=H.ok _ (BP hk)
theorem Io{W W':World}{F:List Nat}{A:List FU}(h:Heap W F A W'):Heap W F [grp A] W':=
 ⟨fun E hE=>by(rw[Bz.1 hE];exact h.ents),by simpa [ids,grp]using h.nd,by simpa [ids,grp]using h.own,h.only⟩
theorem Hr{W W':World}{F:List Nat}{A:List FU}(h:Heap W F [grp A] W'):Heap W F A W':=by
 have hE:=h.Bl 0 rfl
 exact⟨hE.1,hE.2,by have:=h.own;simpa [ids,grp]using this,h.only⟩
theorem Heap.CX{w0 W W':World}{F:List Nat}{L A A':List FU}(H:Heap w0 F L W)(k:Nat)(hk:L[k]? =some (grp A))(h':Heap W (ids A) A' W'):Heap w0 F (L.set k (grp A')) W':=
 H.at k hk (Io h') (fun i hi=>hi)
theorem IJ{w:World}{A:List FU}(h:Dj A w):Heap w (ids A) [grp A] w:=Io (Heap.start h)
section
variable{P:Program}{n:Sz}{f:Nat→Value}{W:World}{dst:Option Tmp}{ty:TypeId}{pos:String}{af:Array Edge}{g:Option (Nat×Bool)}{x y:Operand}{t t2:TypeId}
end
end
end
section
section
open Go.RowKit
inductive C1 where
 |i (k:IntKind) (z:Int)
 |b (q:Bool)
 |s (A:Option Addr) (n c:Nat)
 |p (A:Option Addr)
def C1.v:C1→Value
 | .i k z=> .int k z
 | .b q=> .bool q
 | .s A n c=> .slice A n c
 | .p A=> .pointer A
theorem C1.one(x:C1):x.v.oneCell'=true:=by cases x<;>rfl
theorem I5.row{α:Type}{enc:α→Value}{w:World}{F:List Nat}{A:Option Addr}{n:Nat}{xs:List α}(h:I5 enc w F A xs)(hl:xs.length=n):Gv w w.heap.size A n (xs.map enc):=
 ⟨by simpa using hl,fun h0=>by
  obtain⟨b,o,rfl,_,hr⟩:=h Y
  refine⟨b,o,rfl,?_,fun j u hu=>?_⟩
  ·have:=hr 0 xs[0] (Ba Y)
   exact cell_lt this
  ·rw[Cb]at hu
   cases hj:xs[j]? with
   |none=>rw[hj]at hu;cases hu
   |some z=>rw[hj]at hu;rw[hr j z hj];simpa using hu⟩
section
variable{P:Program}{n:Sz}{f:Nat→Value}{W w0:World}{dst:Option Tmp}{ty:TypeId}{pos:String}{af:Array Edge}{g:Option (Nat×Bool)}{x y:Operand}{t t2 e:TypeId}{v:Value}
end
section
variable{P:Program}{ops:Array Oper}{rest:List Oper}{n:Sz}{k k2:Nat}{f:Nat→Value}{W w0:World}{F:List Nat}{L:List FU}{Q:Exit→Act→World→Prop}{ty ty2:TypeId}{pos pos2:String}{af af2:Array Edge}{g:Option (Nat×Bool)}{x y s:Operand}{v u:Value}{t e:TypeId}
theorem NK{α:Type}{enc:α→Value}{z0:Value}{bytes m l c:Nat}{A:Option Addr}{xs zs:List α}(H:Heap w0 F L W)(j:Nat)(hj:L[j]? =some (Ec 1 v m (xs.map enc) e))
 (hw:Region.wanted ⟨some k,.call ⟨.builtin .append,#[s,y],#[t,t]⟩,ty,pos,af,g⟩ (yl n f ops)=true) (hs:ev n f s=v) (hy:ev n f y= .slice A l c) (hz:I5 enc W [] A zs) (hl:zs.length=l) (h1:∀z,(enc z).oneCell'=true)
 (hm:m+l≤100000000000∧(m+l)*bytes≤140737488355328) (ht:P.underlying t=some (.slice e)) (hi:Inf P e z0 1 bytes) (hz0:z0.oneCell'=true)
 (h:∀A' c' W',Heap w0 F (L.set j (Ec 1 (.slice A' (m+l) c') (m+l) ((xs++zs).map enc) e)) W'→SL P ops Q rest n (upd f k (.slice A' (m+l) c')) W'):
 SL P ops Q (⟨some k,.call ⟨.builtin .append,#[s,y],#[t,t]⟩,ty,pos,af,g⟩::rest) n f W:=by
 have hown:=H.JE j hj
 obtain⟨i,hi0,hzz,hsz,hby⟩:=hi.ex
 have key:∃v' W',(Builtin.append_ #[t,t] ty #[v,.slice A l c]).run P W= .ok v' W'∧W'.ownsRow 0 e 1 v' (m+l) (xs.map enc++zs.map enc)∧W.grownBy W' v.ownBlock∧(∀k,v'.ownBlock=some k→v.ownBlock=some k∨W.heap.size≤k):=by
  cases A with
  |some p=>
   by_cases h0:zs.length=0
   ·obtain rfl:zs=[]:=DU h0
    obtain rfl:l=0:=by simpa using hl.symm
    exact TV (P:=P) t ty e ht hi (by simp[JL hz0]) Y v m (xs.map enc) hown p 0 c [] rfl (fun _ _ hq=>by simp at hq) J Ac hm.2
   ·obtain⟨q,r,e0,hq,hr2⟩:=hz h0
    injection e0 with e0
    subst e0
    refine TV (P:=P) t ty e ht hi (by simp[JL hz0]) Y v m (xs.map enc) hown ⟨q,r,none⟩ l c (zs.map enc) (by simp[hl]) (fun a u ha=>?_) (fun u hu=>?_) Ac hm.2
    ·rw[Cb]at ha
     cases hza:zs[a]? with
     |none=>rw[hza]at ha;simp at ha
     |some z=>rw[hza]at ha;rw[add_plain,hr2 a z hza];simpa using ha
    ·obtain⟨z,_,rfl⟩:=DN.1 hu;exact h1 z
  |none=>
   have h0:zs.length=0:=by
    rcases GV zs.length with h0|h0
    ·exact h0
    ·obtain⟨q,r,e0,_⟩:=hz Y;cases e0
   obtain rfl:zs=[]:=DU h0
   obtain rfl:l=0:=by simpa using hl.symm
   refine⟨v,W,?_,by simpa using hown,⟨rfl,rfl,rfl,BF _,fun _ _ _=>rfl⟩,fun k hk=> .inl hk⟩
   rcases hown.2 with⟨rfl,rfl⟩|⟨q,cap,cur,rfl,_,hg,hnc,_⟩
   ·simp[Builtin.append_,run_underlying ht,Go.sizeOf,typeInfo,hi0,Builtin.lenOf,Builtin.firstCells]
   ·simp[Builtin.append_,run_underlying ht,Go.sizeOf,typeInfo,hi0,Builtin.lenOf,Builtin.firstCells,hnc,storeCells]
 obtain⟨v',W2,hr,o1,o2,o3⟩:=key
 have H3:=H.app j hj (m:=l) o1 o2 o3
 rw[←EY]at H3
 obtain⟨A',c',rfl⟩:∃A' c',v'= .slice A' (m+l) c':=by
  rcases o1.2 with⟨rfl,h0⟩|⟨q,cap,cur,rfl,_⟩
  ·exact⟨none,0,by rw[h0]⟩
  ·exact⟨_,_,rfl⟩
 exact Hu rfl hw (W':=W2) (v:= .slice A' (m+l) c') Af (h A' c' W2 H3)
theorem Ym{α:Type}{enc:α→Value}{zs:List α}{z0:Value}{bytes m:Nat}{parts:Array (Nat×Operand)}{vs:List (Nat×Value)}(H:Heap w0 F L W)
 (hw:Region.wanted ⟨some k,.buildSlice t m parts,ty,pos,af,g⟩ (yl n f ops)=true) (hv:parts.toList.map (fun p=>(p.1,ev n f p.2))=vs) (hl:zs.length=m) (hm:0<m∧m≤1000)
 (aaU:Instr.fill (fun i=>some (i*1,1)) ((Array.range m).map (z0.cells[· %z0.cells.size]!)) vs=some (zs.map enc).toArray)
 (ht:P.underlying t=some (.slice e)) (hi:Inf P e z0 1 bytes)
 (h:∀p W',Heap w0 F (Ec 1 (.slice (some ⟨p,0,none⟩) m m) m (zs.map enc) e::L) W'→SL P ops Q rest n (upd f k (.slice (some ⟨p,0,none⟩) m m)) W'):SL P ops Q (⟨some k,.buildSlice t m parts,ty,pos,af,g⟩::rest) n f W:=by
 obtain⟨i,hi0,hz0,hsz,hby⟩:=hi.ex
 have hbig:¬(m*1>2^24):=Y
 have hne:¬(m*1=0):=Y
 have r1:(Instr.buildSlice t m vs.toArray).run P W= .ok (.slice (some ⟨W.heap.size,0,none⟩) m m) (W.alloc (.cells (zs.map enc).toArray e)):=by
  have hz1:(zeroValue e).run P W= .ok z0 W:=by simp[zeroValue,typeInfo,hi0,hz0]
  have hs1:(Go.sizeOf e).run P W= .ok 1 W:=by simp[Go.sizeOf,typeInfo,hi0,hsz]
  refine sN ?_
  rw[show(m*1)=m from by omega]
  simp only[aaU]
  rfl
 have r2:(execOp (ev n f) ⟨some k,.buildSlice t m parts,ty,pos,af,g⟩).run P W= .ok (.value (.slice (some ⟨W.heap.size,0,none⟩) m m)) (W.alloc (.cells (zs.map enc).toArray e)):=by
  have hp:parts.map (fun p=>(p.1,ev n f p.2))=vs.toArray:=by
   apply Array.toList_inj.1
   rw[Ie,hv]
  simp only[execOp,hp,Sem.run_bind,r1,Result.andThen_ok];rfl
 refine Hu O hw r2 (h _ _ ?_)
 have hzl:(zs.map enc).length=m:=by simpa using hl
 refine H.more (A:=[Ec 1 (.slice (some ⟨W.heap.size,0,none⟩) m m) m (zs.map enc) e]) ⟨?_,by simp[ids,Ec,Value.ownBlock],by simp[ids,Ec,Value.ownBlock],Only.of_below ((Below.refl _ _).alloc (BF _) _) _⟩
 intro E hE;rw[Bz.1 hE]
 exact⟨by simpa using hzl,.inr ⟨_,m,_,rfl,Jh _,heap_alloc_new W _,BF _,by unfold maxLen;omega,by simpa using hzl,by rw[GY];exact Fp (Nat.le_of_eq hzl)⟩⟩
end
end
end
section
section
open Go.RowKit
theorem Wv(z:Value)(n:Nat)(h1:z.cells= #[z]):Builtin.zeroCells z.cells n=(List.replicate n z).toArray:=by
 unfold Builtin.zeroCells
 rw[h1]
 apply Array.toList_inj.1
 apply EU
 intro i
 simp only[Ie,Array.toList_range,Cb,List.getElem?_range',Ew]
 by_cases hi:i<n
 ·have:i<n* #[z].size:=by simpa using hi
  rw[Ip this]
  simp[hi,Nat.mod_one]
 ·rw[DX Am]
  simp[hi]
section
variable{P:Program}{W:World}
end
section
variable{P:Program}{n:Sz}{f:Nat→Value}{W w0:World}{dst:Option Tmp}{ty:TypeId}{pos:String}{af:Array Edge}{g:Option (Nat×Bool)}{x y:Operand}{t t2 e:TypeId}{v:Value}{k k2:IntKind}{a b:Int}
end
section
variable{P:Program}{ops:Array Oper}{rest:List Oper}{n:Sz}{k k2:Nat}{f:Nat→Value}{W w0:World}{F:List Nat}{L:List FU}{Q:Exit→Act→World→Prop}{ty ty2:TypeId}{pos pos2:String}{af af2:Array Edge}{g:Option (Nat×Bool)}{x y s:Operand}{v u:Value}{t tn e:TypeId}
end
end
end
section
section
open Go.RowKit
section
variable{P:Program}{n:Sz}{f:Nat→Value}{W:World}{ty:TypeId}{pos:String}{af:Array Edge}{g:Option (Nat×Bool)}{c:Operand}
theorem an2 {fn : FuncId} {F : Func} {xs : Array Operand} {tys : Array TypeId} {dst : Option Tmp} {vs : List Value} {cap : List Value} (hc : ev n f c = .func (.func fn) #[] cap.toArray) (hf : P.funcs[fn]? = some F) (hn : (F.name == "runtime.NumGoroutine") = false) (hb : F.body.isNone = false)
 (hv:xs.toList.map (ev n f)=vs) (W:World):(execOp (ev n f) ⟨dst,.call ⟨.value c,xs,tys⟩,ty,pos,af,g⟩).run P W= .ok (.enter fn (vs++cap).toArray) W:=by
 subst hv
 have h3:xs.map (ev n f)=(xs.toList.map (ev n f)).toArray:=by rw[←Ie]
 simp only[execOp,resolve,hc,Deferred.ofValue,invoke,Sem.run_bind,Sem.run_pure,Result.andThen_ok,h3]
 have h4:(#[]:Array Value)++(xs.toList.map (ev n f)).toArray++cap.toArray=(xs.toList.map (ev n f)++cap).toArray:=by simp
 rw[h4,Nr hf hn hb]
theorem Z5{ops:Array Oper}{rest:List Oper}{Q:Exit→Act→World→Prop}{k:Nat}{R:Ending→World→Prop}{fn:FuncId}{F:Func}{xs:Array Operand}{tys:Array TypeId}{vs cap:List Value}(hw:Region.wanted ⟨some k,.call ⟨.value c,xs,tys⟩,ty,pos,af,g⟩ (yl n f ops)=true)
 (hx : ev n f c = .func (.func fn) #[] cap.toArray) (hv : xs.toList.map (ev n f) = vs) (hf : P.funcs[fn]? = some F) (hn : (F.name == "runtime.NumGoroutine") = false) (hb : F.body.isNone = false) (hc : Calls P fn (vs ++ cap).toArray W R)
 (h:∀e W',R e W'→∃v,e= .returned v∧SL P ops Q rest n (upd f k v) W'):SL P ops Q (⟨some k,.call ⟨.value c,xs,tys⟩,ty,pos,af,g⟩::rest) n f W:=
 aeI rfl hw (an2 hx hf hn hb hv W) hc h
theorem aiq{i:Go.Fn}{xs:Array Operand}{dst:Option Tmp}{vs:List Value}(hv:xs.toList.map (ev n f)=vs):(execOp (ev n f) ⟨dst,.makeFunc i #[] xs,ty,pos,af,g⟩).run P W= .ok (.value (.func i #[] vs.toArray)) W:=by
 subst hv
 have h3:xs.map (ev n f)=(xs.toList.map (ev n f)).toArray:=by rw[←Ie]
 simp only[execOp,h3,Instr.makeFunc,Sem.run_bind,Sem.run_pure,Result.andThen_ok,Array.map_empty]
end
end
end
section
section
open Go.RowKit
def Cel(E:FU):Prop:=∀W,E.ok W→∀i∈E.ids,∃o:Obj,W.heap[i]? =some o∧o.isCells=true
theorem ag9(b:Nat)(cs:List Value)(T:TypeId):Cel (blk b cs T):=fun W h i hi=>by
 rw[Bz.1 hi];exact⟨_,h,rfl⟩
theorem asC{α:Type}(enc:α→Value)(b:Nat)(xs:List α)(T:TypeId):Cel (vec enc b xs T):=fun W h i hi=>by
 by_cases h0:xs.length=0
 ·simp[vec,h0]at hi
 ·obtain⟨r,hr⟩:=h h0
  simp[vec,h0]at hi
  subst hi;exact⟨_,hr,rfl⟩
theorem arE(size:Nat)(v:Value)(n:Nat)(xs:List Value)(T:TypeId):Cel (Ec size v n xs T):=fun W h i hi=>by
 rcases h.2 with⟨rfl,_⟩|⟨g,cap,cur,rfl,_,hh,_⟩
 ·simp[Ec,Value.ownBlock]at hi
 ·simp[Ec,Value.ownBlock]at hi
  subst hi;exact⟨_,hh,rfl⟩
theorem aqJ{A:List FU}(h:∀E∈A,Cel E):Cel (grp A):=fun W hA i hi=>by
 obtain⟨E,hE,hm⟩:=Nl.1 hi
 exact h E hE W (hA.1 E hE) i hm
theorem agH:∀E∈([]:List FU),Cel E:=fun _ h=>by cases h
theorem VX{E:FU}{L:List FU}(h:Cel E)(hL:∀E∈L,Cel E):∀X∈E::L,Cel X:=fun X hX=>by
 rcases Dh.1 hX with rfl|hX
 ·exact h
 ·exact hL X hX
theorem al6{α:Type _}(L:List α):(List.range L.length).filterMap (fun i=>L[i]?)=L:=by
 induction L with
 |nil=>rfl
 |cons a l ih=>
  rw[Es,List.range_succ_eq_map,List.filterMap_cons]
  simp only[List.getElem?_cons_zero,List.filterMap_map,Function.comp_def,E5]
  rw[ih]
theorem Heap.order{w0 W:World}{F:List Nat}{L L':List FU}(H:Heap w0 F L W)(p:List Nat)(hp:p.isPerm (List.range L.length)=true)(hL:p.filterMap (fun i=>L[i]?)=L'):Heap w0 F L' W:=by
 refine H.perm ?_
 rw[←hL]
 have h1:=(List.isPerm_iff.1 hp).filterMap (fun i=>L[i]?)
 rw[al6]at h1
 exact h1.symm
def dfd(D:Nat):FU:=
 ⟨[D],fun W=>W.heap[D]? =some (.deferred (some [])),fun W h i hi=>by rw[Bz.1 hi];exact OV h,fun W W' h hk=>by rw[h D J];exact hk⟩
theorem Heap.turn{w0 W W':World}{F:List Nat}{L:List FU}{row:Option Nat}(H:Heap w0 F L W)(hc:∀E∈L,Cel E)(hg:W.grownBy W' row)(hr:∀r,row=some r→w0.heap.size≤r∧∃o:Obj,W.heap[r]? =some o∧o.isCells=false):Heap w0 F L W':=by
 refine⟨fun E hE=>?_,H.nd,H.own,?_⟩
 ·refine E.loc W W' (fun i hi=>?_) (H.ok E hE)
  obtain⟨o,ho,hoc⟩:=hc E hE W (H.ok E hE) i hi
  refine hg.block i (OV ho) (fun e=>?_)
  obtain⟨_,o2,ho2,hn⟩:=hr i e.symm
  rw[ho]at ho2;cases ho2;rw[hoc]at hn;cases hn
 ·refine⟨hg.os.trans H.only.os,hg.tape.trans H.only.tape,hg.output.trans H.only.output,FC H.only.size hg.size,fun k hk hf=>?_⟩
  rw[hg.block k (FV hk H.only.size) (fun e=>by have:=(hr k e.symm).1;omega)]
  exact H.only.block k hk hf
theorem agK{W W':World}(h:Only [] W W'):W.grownBy W' none:=⟨h.os,h.tape,h.output,h.size,fun k hk _=>h.block k hk J⟩
def Kp(K:List Nat)(W W':World):Prop:=∀i∈K,W'.heap[i]? =W.heap[i]?
theorem Kp.ents{A:List FU}{W W':World}(h:Kp (ids A) W W')(hA:Dj A W):Dj A W':=
 ⟨fun E hE=>E.loc W W' (fun i hi=>h i (Nl.2 ⟨E,hE,hi⟩)) (hA.1 E hE),hA.2⟩
theorem Kp.trans{K:List Nat}{A B C:World}(h:Kp K A B)(k:Kp K B C):Kp K A C:=fun i hi=>(k i hi).trans (h i hi)
theorem abide{β:Type}{B:Nat}{Az:β→World→Prop}(hJ:AbidesFrom B Az){s:β}{W W':World}(h:Az s W)(hO:Only [] W W'):Az s W':=hJ s W W' none h (agK hO) (fun _ e=>by cases e)
theorem abx(a:Value)(l:List Value): #[a]++l.toArray=(a::l).toArray:=by simp
theorem Heap.calm{w W W':World}{F F1 K:List Nat}{L M:List FU}(H:Heap w F (L++M) W')(hO:Only F1 w W)(hK:Kp K W W')(hF:∀i∈F,i∈F1∨(i∈K∧i∈ids M)):Heap w F1 L W':=by
 have hnd:=H.nd
 rw[EX]at hnd
 refine⟨fun E hE=>H.ok E (CO _ hE),(C9.1 hnd).1,fun i hi=>?_,⟨H.only.os,H.only.tape,H.only.output,H.only.size,fun k hk hk1=>?_⟩⟩
 ·rcases H.own i (by rw[EX];exact CO _ hi)with h|h
  ·rcases hF i h with h1|h1
   ·exact .inl h1
   ·exact absurd rfl ((C9.1 hnd).2.2 i hi i h1.2)
  ·exact .inr h
 ·by_cases h:k∈F
  ·rcases hF k h with h1|h1
   ·exact absurd h1 hk1
   ·exact(hK k h1.1).trans (hO.block k hk hk1)
  ·exact H.only.block k hk h
theorem VL{w W:World}{A:List FU}(hA:Dj A w){L:List FU}(H:Heap w [] L W):Heap w (ids A) (L++A) W:=(Heap.step (A:=[]) (L:=A) (by simpa using Heap.start hA) H J)
def RQ{α:Type}(I:List α→List FU→Prop)(Ix:Code→List α→List FU→Prop)(pre:List α)(L:List FU)(W:World):Exit→Act→World→Prop
 | .normal,_,W'=>∃L',I pre L'∧Heap W (ids L) L' W'
 | .ret,_,W'=>∃L',Ix .ret pre L'∧Heap W (ids L) L' W'
 | .exit id,_,W'=>∃L',Ix (.exit id) pre L'∧Heap W (ids L) L' W'
 |_,_,_=>False
def col(D:Nat):Deferred:={target:= .collected D,args:= #[]}
def NU(l:List (Nat×Value))(f:Nat→Value):Nat→Value:=l.foldl (fun f p=>upd f p.1 p.2) f
theorem Vg{ds:List Deferred}(N:Nat):∀(l:List (Nat×Value)) (f:Nat→Value),l.foldl (fun t p=>t.setIfInBounds p.1 p.2) (Fn ⟨N,ds⟩ f).tmps=(Fn ⟨N,[]⟩ (NU l f)).tmps
 | [],f=>rfl
 |(p,v)::l,f=>by
  have h:(Fn ⟨N,ds⟩ f).tmps.setIfInBounds p v=(Fn ⟨N,[]⟩ (upd f p v)).tmps:=congrArg Act.tmps (NV ⟨N,[]⟩ f p v)
  rw[List.foldl_cons,h]
  exact Vg N l _
section
variable{P:Program}{ops:Array Oper}{rest:List Oper}{n:Sz}{k id:Nat}{f:Nat→Value}{W w0:World}{F:List Nat}{L:List FU}{Q:Exit→Act→World→Prop}{v:Value}{o:Oper}
theorem ama{α:Type}{I:List α→List FU→Prop}{Ix:Code→List α→List FU→Prop}{pre:List α}{L0:List FU}{W0:World}(h:∃L',I pre L'∧Heap W0 (ids L0) L' W):PQ (RQ I Ix pre L0 W0) .normal n f W:=⟨h⟩
theorem ad9{fx:Nat→Value}(h:f=fx):PQ (fun e a W'=>e= .normal∧a=Fn n fx∧W'=W) .normal n f W:=⟨by subst h;exact⟨rfl,rfl,rfl⟩⟩
theorem av4{α:Type}{g:Operand}{ps:Array Tmp}{assign body:Code}{gf:Nat}{G:Func}{lb:Array Value}{encs:α→Array Value}{S Sp:List α→Prop}{N:Nat}(Lb Lk:List FU)(H:Heap w0 F (Lb++Lk) W)(aw':∀E∈Lk,Cel E)
 (hg : ev n f g = .func (.func gf) #[] lb) (hf : P.funcs[gf]? = some G) (hn : (G.name == "runtime.NumGoroutine") = false) (hb : G.body.isNone = false)
 (hseq:SeqStopsK Fence.wide 4 P gf lb encs (Kp (ids Lk)) S Sp N W) (hps:∀x,(encs x).size=ps.size) (aqT:(UH assign&&UH body)=true)
 (I:List α→List FU→Prop) (Ix:Code→List α→List FU→Prop) (hI:∀pre L,I pre L→∀E∈L,Cel E) (hIx:∀c pre L,Ix c pre L→∀E∈L,Cel E) (h0:I [] Lb) (zs ss:α→List (Nat×Value)) (hz:∀x,(ps.zip (encs x)).toList=zs x)
 (hassign:∀x W,CW P assign (fun e a W'=>e= .normal∧a=Fn ⟨n.n,[]⟩ (NU (ss x) (NU (zs x) f))∧W'=W) ⟨n.n,[]⟩ (NU (zs x) f) W)
 (hbody:∀pre x L W,I pre L→pre.length<N→Heap w0 F (L++Lk) W→Heap W (ids L) L W→CW P body (RQ I Ix (pre++ [x]) L W) ⟨n.n,[]⟩ (NU (ss x) (NU (zs x) f)) W)
 (hdone:∀D xs L W',S xs→I xs L→Heap w0 F (dfd D::(L++Lk)) W'→Kp (ids Lk) W W'→PQ Q .normal ⟨n.n,col D::n.d⟩ f W')
 (hstop:∀D c pre L W',Sp pre→Ix c pre L→Heap w0 F (dfd D::(L++Lk)) W'→Kp (ids Lk) W W'→CW P c Q ⟨n.n,col D::n.d⟩ f W'):CW P (Code.rangeFunc g ps assign body) Q n f W:=by
 refine .alone O ((wpIn_wide (n:=5)).1 ?_)
 have afx:UH assign=true∧UH body=true:=by simpa using aqT
 have hsz:=H.only.size
 have hcl:∀{L:List FU},(∀E∈L,Cel E)→∀E∈L++Lk,Cel E:=fun hL E hE=>by
  rcases Ci.1 hE with h|h
  ·exact hL E h
  ·exact aw' E h
 have as4:∀i∈ids Lk,i<W.heap.size:=fun i hi=>H.aaQ i zO
 have own:∀(Az:List α→List FU→Prop),(∀pre L,Az pre L→∀E∈L,Cel E)→OwnFrom W.heap.size (fun pre W'=>∃L,Az pre L∧Heap w0 F (L++Lk) W'∧Kp (ids Lk) W W'):=by
  intro Az hJ pre A B row ⟨L,hL,hH,hKp⟩ hgb hr
  exact⟨L,hL,hH.turn (hcl (hJ _ _ hL)) hgb (fun r e=>⟨FC hsz (hr r e).1,(hr r e).2⟩),fun i hi=>(hgb.block i (by have:=hH.aaQ i zO;exact this) (fun e=>by have:=(hr i e.symm).1;have:=as4 i hi;omega)).trans (hKp i hi)⟩
 have mark:∀{D:Nat} {L:List FU} {W':World},W.heap.size≤D→(∀E∈L,Cel E)→Heap w0 F (L++Lk) W'→W'.heap[D]? =some (.deferred (some []))→Heap w0 F (dfd D::(L++Lk)) W':=by
  intro D L W' hD hL hH hK
  refine⟨fun E hE=>?_,?_,fun i hi=>?_,hH.only⟩
  ·rcases Dh.1 hE with rfl|hE
   ·exact hK
   ·exact hH.ok E hE
  ·rw[Ep]
   refine C9.2 ⟨by simp[dfd],hH.nd,fun a ha b hb hab=>?_⟩
   subst hab
   obtain rfl:a=D:=by simpa [dfd]using ha
   obtain⟨E,hE,hm⟩:=Nl.1 hb
   obtain⟨o,ho,hoc⟩:=hcl hL E hE W' (hH.ok E hE) a hm
   rw[hK]at ho;cases ho;cases hoc
  ·rw[Ep]at hi
   rcases Ci.1 hi with hi|hi
   ·obtain rfl:i=D:=by simpa [dfd]using hi
    exact .inr (FC hsz hD)
   ·exact hH.own i hi
 refine wpIn_rangeFunc_ownG (F:=Fence.wide) O Y (gf:=gf) (lb:=lb) (by rw[JC];exact hg) trivial (fun args w=>Nr hf hn hb args) hseq
  (fun h1 h2=>h1.trans h2) (fun W' l o o' hl ho _ _ i hi=>World.putObj_heap_other (by have:=as4 i hi;omega)) (Below.refl _ _) hps
  (fun pre W'=>∃L,I pre L∧Heap w0 F (L++Lk) W'∧Kp (ids Lk) W W') (fun c pre W'=>∃L,Ix c pre L∧Heap w0 F (L++Lk) W'∧Kp (ids Lk) W W') (own I hI) (fun c=>own (Ix c) (hIx c)) ⟨Lb,h0,H,fun _ _=>rfl⟩ (fun x=>Fn ⟨n.n,[]⟩ (NU (ss x) (NU (zs x) f))) ?_ ?_ ?_ ?_
 ·intro l x W' K hK
  have h1:=(hassign x W').inr afx.1 l 3
  have h2:({tmps:=(ps.zip (encs x)).foldl (fun t (p,v)=>t.setIfInBounds p v) (Fn n f).tmps,defers:=[]}:Act)=Fn ⟨n.n,[]⟩ (NU (zs x) f):=by
   have h3:=Vg (ds:=n.d) n.n (ps.zip (encs x)).toList f
   rw[Array.foldl_toList,hz x]at h3
   exact congrArg (fun t=>({tmps:=t,defers:=[]}:Act)) h3
  rw[h2]
  refine Code.wpIn_mono ?_ h1
  rintro e a W2 ⟨rfl,rfl,rfl⟩
  exact hK
 ·rintro l pre x W' ⟨L,hL,hH,hKp⟩ hlen
  have hE:Dj L W':=hH.part
  refine Code.wpIn_mono ?_ ((hbody pre x L W' hL hlen hH (Heap.start hE)).inr afx.2 l 3)
  have base:∀{L':List FU} {W2:World},Heap W' (ids L) L' W2→KeepsFrom W.heap.size W' W2∧Kp (ids Lk) W' W2∧Heap w0 F (L'++Lk) W2:=by
   intro L' W2 h2
   refine⟨⟨h2.only.size,fun k o _ hk ho=>?_⟩,fun i hi=>?_,hH.step h2 (fun _ h=>h)⟩
   ·rw[h2.only.block k (OV hk) (fun hm=>?_)];exact hk
    obtain⟨E,hE2,hm2⟩:=Nl.1 hm
    obtain⟨o2,ho2,hoc⟩:=hI _ _ hL E hE2 W' (hE.1 E hE2) k hm2
    rw[hk]at ho2;cases ho2;rw[ho]at hoc;cases hoc
   ·refine h2.only.block i (hH.aaQ i zO) (fun hm=>?_)
    have hnd:=hH.nd
    rw[EX]at hnd
    exact(C9.1 hnd).2.2 i hm i hi rfl
  rintro e a W2 h2
  cases e with
  |normal=>
   obtain⟨L',hL',h3⟩:=h2
   obtain⟨b1,b2,b3⟩:=base h3
   exact⟨b1,b2,L',hL',b3,hKp.trans b2⟩
  |ret=>
   obtain⟨L',hL',h3⟩:=h2
   obtain⟨b1,b2,b3⟩:=base h3
   exact⟨b1,L',hL',b3,hKp.trans b2⟩
  |exit i=>
   obtain⟨L',hL',h3⟩:=h2
   obtain⟨b1,b2,b3⟩:=base h3
   exact⟨b1,L',hL',b3,hKp.trans b2⟩
  |goto _=>exact h2.elim
  |panic _=>exact h2.elim
  |outgrown=>exact h2.elim
 ·rintro D xs W' hD hS ⟨L,hL,hH,hKp⟩ hK
  exact(hdone D xs L W' hS hL (mark hD (hI _ _ hL) hH hK) hKp).out
 ·rintro D c pre W' hD hS ⟨L,hL,hH,hKp⟩ hK
  exact wpIn_wide.2 (hstop D c pre L W' hS hL (mark hD (hIx _ _ _ hL) hH hK) hKp).out
def FIN(P:Program)(fn:Func)(R:Ending→World→Prop)(n:Sz)(f:Nat→Value)(W:World):Prop:=LeavesInM Fence.wide 5 P fn (Fn n f).tmps R (Fn n f).defers .returning W
abbrev adw(P:Program)(fn:Func)(R:Ending→World→Prop):=bodyPostM Fence.wide 5 P fn R
theorem amE{g:FuncId}{fn:Func}{c:Code}{l:List Value}{R:Ending→World→Prop}(hf:P.funcs[g]? =some fn)(hb:fn.body=some c){N:Nat}(hN:fn.ntmps=N)(hl:Nat.ble l.length N=true)
 (h:CW P c (adw P fn R) ⟨N,[]⟩ (args l) W):Calls P g l.toArray W R:=by
 have hl':l.length≤N:=LD hl
 have e:({tmps:=l.toArray++Array.replicate (fn.ntmps-l.toArray.size) undef,defers:=[]}:Act)=Fn ⟨N,[]⟩ (args l):=by
  simp only[Fn,Act.mk.injEq,and_true]
  apply JM
  intro i
  rw[OG]
  simp only[Jq,Fe,Cb,hN]
  split
  ·rename_i hi
   have hg:l[i]? =some l[i]:=Ba hi
   have hiN:i<N:=Y
   have hr:(List.range N)[i]? =some i:=by simp[hiN]
   rw[hg,hr,EG];simp[args,List.getD,hg]
  ·rename_i hi
   by_cases hiN:i<N
   ·have hr:(List.range N)[i]? =some i:=by simp[hiN]
    rw[hr,EG,Ht,if_pos Y]
    simp[args,List.getD,DX (OQ hi)]
   ·have hr:(List.range N)[i]? =none:=by simp;omega
    rw[hr,Jw,Ht,if_neg Y]
 refine(callsIn_wide (n:=5)).1 (callsIn_of_wp_marks hf hb trivial ?_)
 rw[e]
 exact wpIn_wide.2 h.out
theorem alY{fn:Func}{R:Ending→World→Prop}(h:FIN P fn R n f W):PQ (adw P fn R) .ret n f W:=⟨h⟩
theorem alK{fn:Func}{R:Ending→World→Prop}{N D:Nat}{d:List Deferred}(H:Heap w0 F L W)(j:Nat)(hj:L[j]? =some (dfd D))(h:∀W',Heap w0 F (L.eraseIdx j) W'→FIN P fn R ⟨N,d⟩ f W'):FIN P fn R ⟨N,col D::d⟩ f W:=by
 have hK:W.heap[D]? =some (.deferred (some [])):=H.ok _ (BP hj)
 have H1:=H.pick j hj
 have hnd:=H1.nd
 rw[Ep]at hnd
 refine⟨J,.inl ⟨D,W.putObj D (.deferred none),rfl,run_takeDeferred hK,h _ ?_⟩⟩
 have hD:D∈F∨w0.heap.size≤D:=H1.own D (by rw[Ep];simp[dfd])
 have hne:∀i,i≠D→(W.putObj D (.deferred none)).heap[i]? =W.heap[i]? :=fun i hi=>World.putObj_heap_other hi
 refine⟨fun E hE=>?_,(C9.1 hnd).2.1,fun i hi=>H1.own i (by rw[Ep];exact Du _ hi),?_⟩
 ·refine E.loc W _ (fun i hi=>hne i (fun e=>?_)) (H1.ok E (DZ _ hE))
  subst e
  exact(C9.1 hnd).2.2 i (by simp[dfd]) i (Nl.2 ⟨E,hE,hi⟩) rfl
 ·refine⟨H.only.os,H.only.tape,H.only.output,by have:=H.only.size;simpa [World.putObj]using this,fun k hk hf=>?_⟩
  rw[hne k (fun e=>by rcases hD with h|h;exact hf (e▸h);omega)]
  exact H.only.block k hk hf
theorem fm1{fn:Func}{R:Ending→World→Prop}{N:Nat}{r:ResultVar}(hr:fn.results= #[r])(h:RV P W ⟨N,[]⟩ f r v)(hR:R (.returned v) W):FIN P fn R ⟨N,[]⟩ f W:=⟨_,Xu hr h,hR⟩
theorem apR{fn:Func}{R:Ending→World→Prop}{N t u r:Nat}{v2 v3:Value}(hr:fn.results= #[.tmp t,.tmp u,.tmp r])(hv:ev ⟨N,[]⟩ f (.tmp t)=v)(hu:ev ⟨N,[]⟩ f (.tmp u)=v2)(hw:ev ⟨N,[]⟩ f (.tmp r)=v3)(hR:R (.returned (.tuple #[v,v2,v3])) W):PQ (bodyPost P fn R) .ret ⟨N,[]⟩ f W:=
 ahD hr (Jt hv) (Jt hu) (Jt hw) hR
structure SLY (P:Program) (ops:Array Oper) (Q:Exit→Act→World→Prop) (l:List Oper) (n:Sz) (f:Nat→Value) (W:World):Prop where
 out:wpListIn Fence.wide 4 P ops Q l (Fn n f) W
theorem ala{l:List Oper}(hno:UH (Code.region id l.toArray false)=false)(h:SLY P l.toArray Q l n f W):CW P (Code.region id l.toArray false) Q n f W:= .alone hno ((wpIn_wide (n:=4)).1 (wpIn_region_lit h.out))
theorem aiT(h:PQ Q .normal n f W):SLY P ops Q [] n f W:=⟨wpListIn_nil h.out⟩
theorem PG{W':World}(hd:o.dst=some k)(hw:Region.wanted o (yl n f ops)=true)(hr:(execOp (ev n f) o).run P W= .ok (.value v) W')(h:SLY P ops Q rest n (upd f k v) W'):SLY P ops Q (o::rest) n f W:=by
 have hy:yielded ops (Fn n f).tmps=yl n f ops:=funext (Ri n f ops)
 constructor
 refine nN ?_
 refine⟨fun _ _=>trivial,?_⟩
 rw[Fence.wide_round,Oper.semAt_none,JC,hr,Oper.uponIn_value,hd,NV]
 exact h.out
theorem aeA{ty:TypeId}{pos:String}{af:Array Edge}{g:Option (Nat×Bool)}{c:Operand}{xs:Array Operand}{tys:Array TypeId}{vs:List Value}{l:Nat}{R:Ending→World→Prop}(hw:Region.wanted ⟨some k,.call ⟨.value c,xs,tys⟩,ty,pos,af,g⟩ (yl n f ops)=true)
 (hx:ev n f c= .func (.yield l) #[] #[]) (hv:xs.toList.map (ev n f)=vs) (hY:YieldAt Fence.wide 3 P l vs.toArray W R)
 (h:∀e W',R e W'→∃v,e= .returned v∧SLY P ops Q rest n (upd f k v) W'):SLY P ops Q (⟨some k,.call ⟨.value c,xs,tys⟩,ty,pos,af,g⟩::rest) n f W:=by
 subst hv
 obtain⟨fn,tmps,assign,body,hy0,hR⟩:=hY
 have h3:xs.map (ev n f)=(xs.toList.map (ev n f)).toArray:=by rw[←Ie]
 have hrun:(execOp (ev n f) ⟨some k,.call ⟨.value c,xs,tys⟩,ty,pos,af,g⟩).run P W= .ok (.round l fn tmps assign body) W:=by
  simp only[execOp,resolve,hx,Deferred.ofValue,invoke,Sem.run_bind,Sem.run_pure,Result.andThen_ok,h3,Array.empty_append,Array.append_empty,hy0]
 have hy:yielded ops (Fn n f).tmps=yl n f ops:=funext (Ri n f ops)
 constructor
 refine nN ?_
 refine⟨fun _ _=>trivial,?_⟩
 rw[Fence.wide_round,Oper.semAt_none,JC,hrun,Oper.uponIn_round]
 refine⟨(fun hh=>nomatch hh),hR.mono fun e W' hR'=>?_⟩
 obtain⟨v,rfl,h2⟩:=h e W' hR'
 show wpListIn Fence.wide 4 P ops Q rest ((Fn n f).put (some k) v) W'
 rw[NV];exact h2.out
theorem P6{dst:Option Tmp}{t ty e:TypeId}{pos:String}{af:Array Edge}{g:Option (Nat×Bool)}{x hi:Operand}{kk:IntKind}{a:Int}{A:Option Addr}{l c j m:Nat}(hx:ev n f x= .slice A l c)(hh:ev n f hi= .int kk a)(ha:a=(j:Int))(hj:j≤c)(h:P.underlying t=some (.slice e))(hm:∀W,(Go.sizeOf e).run P W= .ok m W):
 (execOp (ev n f) ⟨dst,.slice t x none (some hi) none,ty,pos,af,g⟩).run P W= .ok (.value (.slice A j c)) W:=by
 subst ha
 have h1:(0:Int)≤j∧(j:Int)≤c:=Y
 have h0:∀p:Addr,p.add 0=p:=fun p=>by simp[Addr.add]
 simp only[execOp,Instr.sliceAt,Instr.slice,Instr.sliceBounds,Instr.sliceBound,hx,hh,asIntOf,EG,Jw,Sem.run_bind,run_underlying h,Result.andThen_ok,Sem.run_pure,h1,and_self,if_true,hm,BJ,XZ,ad2]
 cases A<;>simp[h0]
theorem asW{x:Operand}{dst:Option Tmp}{t ty:TypeId}{pos:String}{af:Array Edge}{g:Option (Nat×Bool)}{p i:Nat}(hc:W.cell? ⟨p,i,none⟩=some v)(hx:ev n f x= .pointer (some ⟨p,i,none⟩))(hagg:∀W,(isAgg t).run P W= .ok false W):(execOp (ev n f) ⟨dst,.load t x,ty,pos,af,g⟩).run P W= .ok (.value v) W:=
 Oe (Heap.nil W) hx hc J hagg
end
end
end
section
section
open Go.RowKit
section
variable{P:Program}{n:Sz}{f:Nat→Value}{W w0:World}{F:List Nat}{L:List FU}{dst:Option Tmp}{ty:TypeId}{pos:String}{af:Array Edge}{g:Option (Nat×Bool)}{x:Operand}{t:TypeId}
theorem Heap.JO{α:Type}{enc:α→Value}{size:Nat}{A:Option Addr}{m c:Nat}{xs:List α}{T:TypeId}(H:Heap w0 F L W)(j:Nat)(hj:L[j]? =some (Ec size (.slice A m c) m (xs.map enc) T))(h0:m≠0):∃p,A=some ⟨p,0,none⟩:=by
 rcases(H.JE j hj).2 with⟨h1,h2⟩|⟨g,cap,cur,h1,_⟩
 ·exact absurd h2 h0
 ·injection h1 with h1 _ _;exact⟨g,h1⟩
theorem XJ{α:Type}{enc:α→Value}{p i m c:Nat}{xs:List α}{T:TypeId}{z:α}(H:Heap w0 F L W)(j:Nat)(hx:ev n f x= .pointer (some ⟨p,i,none⟩))(hj:L[j]? =some (Ec 1 (.slice (some ⟨p,0,none⟩) m c) m (xs.map enc) T))(hv:xs[i]? =some z)
 (hagg:∀W,(isAgg t).run P W= .ok false W):(execOp (ev n f) ⟨dst,.load t x,ty,pos,af,g⟩).run P W= .ok (.value (enc z)) W:=by
 have ho:=H.JE j hj
 have hi:i<xs.length:=(BK.1 hv).1
 have hcell:=ho.cellAt i zF
 rw[Cb,hv]at hcell
 exact asW hcell hx hagg
theorem Heap.SQ{α:Type}{enc:α→Value}{size:Nat}(H:Heap w0 F L W)(j:Nat){A:Option Addr}{n c:Nat}{xs:List α}{T:TypeId}(hj:L[j]? =some (Ec size (.slice A n c) n (xs.map enc) T)):xs.length≠0→∃b,A=some ⟨b,0,none⟩∧b∈(Ec size (.slice A n c) n (xs.map enc) T).ids∧Reads enc W b 0 xs:=by
 have ho:=H.JE j hj
 intro h0
 have hn:xs.length=n*size:=by simpa using ho.1
 rcases ho.2 with⟨h1,h2⟩|⟨g,cap,cur,h1,_,hg,h3,_,h5,h6⟩
 ·rw[h2,XZ]at hn;omega
 ·injection h1 with h1 _ _
  subst h1
  refine⟨g,rfl,by simp[Ec,Value.ownBlock],fun i z hz=>?_⟩
  rw[EH,Joins.cell_of_block hg]
  have:(cur.toList.take (n*size))[i]? =some (enc z):=by rw[h6,Cb,hz];rfl
  rw[QK]at this
  split at this
  ·simpa using this
  ·cases this
end
section
variable{P:Program}{ops:Array Oper}{rest:List Oper}{n:Sz}{k k2:Nat}{f:Nat→Value}{W w0:World}{F:List Nat}{L:List FU}{Q:Exit→Act→World→Prop}{ty ty2:TypeId}{pos pos2:String}{af af2:Array Edge}{g:Option (Nat×Bool)}{x y s:Operand}{v u:Value}{t e:TypeId}
theorem ado{α:Type}{enc:α→Value}{z0:Value}{size bytes:Nat}{zs:List α}(H:Heap w0 F L W)
 (hw:Region.wanted ⟨some k,.buildSlice t 1 #[(0,x)],ty,pos,af,g⟩ (yl n f ops)=true) (hx:ev n f x= .agg (zs.map enc).toArray) (hzl:zs.length=size) (hsz:0<size∧size≤1000)
 (aaU:Instr.fill (fun i=>some (i*size,size)) ((Array.range size).map (z0.cells[· %z0.cells.size]!)) [(0,.agg (zs.map enc).toArray)]=some (zs.map enc).toArray)
 (ht:P.underlying t=some (.slice e)) (hi:Inf P e z0 size bytes)
 (h:∀p W',Heap w0 F (Ec size (.slice (some ⟨p,0,none⟩) 1 1) 1 (zs.map enc) e::L) W'→SL P ops Q rest n (upd f k (.slice (some ⟨p,0,none⟩) 1 1)) W'):SL P ops Q (⟨some k,.buildSlice t 1 #[(0,x)],ty,pos,af,g⟩::rest) n f W:=by
 obtain⟨i,hi0,hz0,hisz,hby⟩:=hi.ex
 have axC:(zs.map enc).length=size:=by simpa using hzl
 have hbig:¬(1*size>2^24):=Y
 have hne:¬(1*size=0):=Y
 have r1:(Instr.buildSlice t 1 #[(0,.agg (zs.map enc).toArray)]).run P W= .ok (.slice (some ⟨W.heap.size,0,none⟩) 1 1) (W.alloc (.cells (zs.map enc).toArray e)):=by
  have hz1:(zeroValue e).run P W= .ok z0 W:=by simp[zeroValue,typeInfo,hi0,hz0]
  have hs1:(Go.sizeOf e).run P W= .ok size W:=by simp[Go.sizeOf,typeInfo,hi0,hisz]
  refine sN ?_
  rw[show(1*size)=size from by omega,aaU]
  rfl
 refine Hu O hw (W':=W.alloc (.cells (zs.map enc).toArray e)) (v:= .slice (some ⟨W.heap.size,0,none⟩) 1 1) zQ (h _ _ ?_)
 refine H.more (A:=[Ec size (.slice (some ⟨W.heap.size,0,none⟩) 1 1) 1 (zs.map enc) e]) ⟨?_,by simp[ids,Ec,Value.ownBlock],by simp[ids,Ec,Value.ownBlock],Only.of_below ((Below.refl _ _).alloc (BF _) _) _⟩
 intro E hE;rw[Bz.1 hE]
 have aq1:(zs.map enc).length=1*size:=by rw[axC,Nat.one_mul]
 exact⟨aq1,.inr ⟨_,1,_,rfl,Jh _,heap_alloc_new W _,BF _,by decide,by simpa using aq1,Fp (Nat.le_of_eq aq1)⟩⟩
theorem aeW{α:Type}{enc:α→Value}{z0:Value}{size bytes m l cB:Nat}{B:Option Addr}{xs zs:List α}{T:TypeId}(H:Heap w0 F (Ec size (.slice B l cB) l (zs.map enc) T::L) W)(j:Nat)(hj:L[j]? =some (Ec size v m (xs.map enc) e))
 (hw:Region.wanted ⟨some k,.call ⟨.builtin .append,#[s,y],#[t,t]⟩,ty,pos,af,g⟩ (yl n f ops)=true) (hs:ev n f s=v) (hy:ev n f y= .slice B l cB) (h1:∀z,(enc z).oneCell'=true) (hsz:0<size)
 (hm:m+l≤100000000000∧(m+l)*bytes≤140737488355328) (ht:P.underlying t=some (.slice e)) (hi:Inf P e z0 size bytes) (hz0:z0.cells.size=size)
 (h:∀A' c' W',Heap w0 F (L.set j (Ec size (.slice A' (m+l) c') (m+l) ((xs++zs).map enc) e)) W'→SL P ops Q rest n (upd f k (.slice A' (m+l) c')) W'):
 SL P ops Q (⟨some k,.call ⟨.builtin .append,#[s,y],#[t,t]⟩,ty,pos,af,g⟩::rest) n f W:=by
 have hlen:zs.length=l*size:=by have:=(H.JE 0 rfl).1;simpa using this
 have hnd:=H.nd
 rw[Ep]at hnd
 have H0:=H.drop
 refine amN (enc:=enc) (zs:=zs) (xs:=xs) (Heap.start H0.ents) j hj hw hs hy (fun h0=>?_) hlen h1 hsz hm ht hi hz0 ?_
 ·obtain⟨b,e1,hb,hr⟩:=H.SQ 0 rfl h0
  exact⟨b,0,e1,fun hm=>(C9.1 hnd).2.2 b hb b hm rfl,hr⟩
 ·intro A' c' W' H'
  exact h A' c' W' (H0.whole H')
end
theorem Heap.BQ{w0 W:World}{F:List Nat}{L A:List FU}(H:Heap w0 F L W)(p:List Nat)(hp:(p++(List.range L.length).filter (fun i=> !p.contains i)).isPerm (List.range L.length)=true)(hA:p.filterMap (fun i=>L[i]?)=A):Heap w0 F A W:=by
 have h:=H.order (p++(List.range L.length).filter (fun i=> !p.contains i)) hp rfl
 rw[List.filterMap_append,hA]at h
 exact h.drops
theorem JQ{P:Program}{l:List Oper}{Q:Exit→Act→World→Prop}{n:Sz}{id:Nat}{f:Nat→Value}{W w0:World}{F:List Nat}{L A:List FU}(hm:P.follows .mixedOrders=true)(H:Heap w0 F L W)(p:List Nat)(hA:p.filterMap (fun i=>L[i]?)=A)(h:TR P l.toArray Q (fun W'=>Heap w0 F A W') l.length (Array.replicate l.length false) n f W.drew):CW P (Code.region id l.toArray true) Q n f W:=
 .alone rfl (wp_region_held hm h.out)
end
end
section
section
open Go.RowKit Go.MapKept
open Go.Maps (Keyed)
open Go.ChangeMaps (setBlock)
section plain
variable{α β:Type}[DecidableEq α]
def FZ:List (α×β)→α→Option β
 | [],_=>none
 |p::l,a=>if p.1=a then some p.2 else FZ l a
def JX:List (α×β)→α→β→List (α×β)
 | [],a,v=> [(a,v)]
 |p::l,a,v=>if p.1=a then(a,v)::l else p::JX l a v
def NH:List (α×β)→α→List (α×β)
 | [],_=> []
 |p::l,a=>if p.1=a then l else p::NH l a
theorem Ur:∀(l:List (α×β)) (a:α),(∀p∈l,p.1≠a)→FZ l a=none∧(∀v,JX l a v=l++ [(a,v)])∧NH l a=l
 | [],a,_=>⟨rfl,fun _=>rfl,rfl⟩
 |p::l,a,h=>by
  obtain⟨h1,h2,h3⟩:=Ur l a fun q hq=>h q (by simp[hq])
  have hp:=h p J
  exact⟨by rw[FZ,if_neg hp];exact h1,fun v=>by rw[JX,if_neg hp,h2];rfl,by rw[NH,if_neg hp,h3]⟩
theorem WY:∀(l:List (α×β)) (j:Nat) (p:α×β),l[j]? =some p→(l.map Prod.fst).Nodup→FZ l p.1=some p.2∧(∀v,JX l p.1 v=l.set j (p.1,v))∧NH l p.1=l.eraseIdx j
 | [],j,p,h,_=>by simp at h
 |q::l,0,p,h,_=>by
  obtain rfl:q=p:=by simpa using h
  exact⟨by rw[FZ,if_pos rfl],fun v=>by rw[JX,if_pos rfl];rfl,by rw[NH,if_pos rfl];rfl⟩
 |q::l,j+1,p,h,hd=>by
  have h':l[j]? =some p:=by simpa using h
  simp only[DJ,HY]at hd
  have hne:q.1≠p.1:=fun e=>hd.1 (e▸DN.2 ⟨p,BP h',rfl⟩)
  obtain⟨h1,h2,h3⟩:=WY l j p h' hd.2
  exact⟨by rw[FZ,if_neg hne];exact h1,fun v=>by rw[JX,if_neg hne,h2];rfl,by rw[NH,if_neg hne,h3];rfl⟩
theorem IE(l:List (α×β))(a:α):FZ l a=none↔∀p∈l,p.1≠a:=by
 constructor
 ·intro h p hp e
  induction l with
  |nil=>simp at hp
  |cons q l ih=>
   unfold FZ at h
   by_cases hq:q.1=a
   ·rw[if_pos hq]at h;cases h
   ·rw[if_neg hq]at h
    rcases Dh.1 hp with rfl|hp
    ·exact hq e
    ·exact ih h hp
 ·intro h;exact(Ur l a h).1
end plain
structure KC (P:Program) (k:TypeId) (α:Type) where
 enc:α→Value
 Gd:α→Prop
 K:Keyed P k
 good:∀a,Gd a→∃l,keyOf P k (enc a)=some l
 inj:∀a b,enc a=enc b→a=b
structure Ku {P:Program} {k:TypeId} {α β:Type} (C:KC P k α) (ER:β→Value) (es:Array MapEntry) (clock:Nat) (l:List (α×β)):Prop where
 rd:es.toList.map (fun e=>(e.key,e.val))=l.map (fun p=>(C.enc p.1,ER p.2))
 gd:∀p∈l,C.Gd p.1
 nd:(l.map Prod.fst).Nodup
 born:∀x∈es.toList,x.born<clock
 bn:(es.toList.map (·.born)).Nodup
section
variable{P:Program}{k:TypeId}{α β:Type}[DecidableEq α]{C:KC P k α}{ER:β→Value}{es:Array MapEntry}{clock:Nat}{l:List (α×β)}
theorem Ku.nil:Ku C ER #[] 0 []:=⟨rfl,J,J,J,J⟩
theorem Ku.len(h:Ku C ER es clock l):es.size=l.length:=by
 have:=congrArg List.length h.rd;simpa using this
theorem Ku.at(h:Ku C ER es clock l)(j:Nat)(e:MapEntry)(he:es.toList[j]? =some e):∃p,l[j]? =some p∧e.key=C.enc p.1∧e.val=ER p.2:=by
 have h1:=congrArg (fun x=>x[j]?) h.rd
 simp only[Cb,he,EG]at h1
 cases hl:l[j]? with
 |none=>rw[hl]at h1;cases h1
 |some p=>
  rw[hl]at h1
  simp only[EG,L6,RP]at h1
  exact⟨p,rfl,h1.1,h1.2⟩
theorem Ku.keys(h:Ku C ER es clock l):∀e∈es.toList,∃lit,keyOf P k e.key=some lit:=fun e he=>by
 obtain⟨j,hj⟩:=GX he
 obtain⟨p,hp,hk,_⟩:=h.at j e hj
 rw[hk];exact C.good _ (h.gd p (BP hp))
theorem Ku.find(h:Ku C ER es clock l)(a:α)(ga:C.Gd a)(W:World):
 ((∀p∈l,p.1≠a)∧(Instr.findKey k (C.enc a) es.toList).run P W= .ok none W)∨
 ∃j p e,l[j]? =some p∧p.1=a∧es.toList[j]? =some e∧e.key=C.enc a∧e.val=ER p.2∧(Instr.findKey k (C.enc a) es.toList).run P W= .ok (some (j,ER p.2)) W:=by
 obtain⟨lit,hk⟩:=C.good a ga
 rcases C.K.find W hk es.toList h.keys with⟨h1,h2⟩|⟨j,e,h1,h2,h3⟩
 ·refine .inl ⟨fun p hp e=>?_,h1⟩
  obtain⟨j,hj⟩:=GX hp
  have h4:=congrArg (fun x=>x[j]?) h.rd
  simp only[Cb,hj,EG]at h4
  cases he:es.toList[j]? with
  |none=>rw[he]at h4;cases h4
  |some x=>
   rw[he]at h4
   simp only[EG,L6,RP]at h4
   exact h2 x (BP he) (by rw[h4.1,e])
 ·obtain⟨p,hp,hpk,hpv⟩:=h.at j e h2
  refine .inr ⟨j,p,e,hp,C.inj _ _ (hpk▸h3),h2,h3,hpv,?_⟩
  rw[←hpv];exact h1
theorem Ku.look{t e:TypeId}(h:Ku C ER es clock l)(ht:P.underlying t=some (.map k e)){z:Value}{W:World}(hz:(zeroValue e).run P W= .ok z W){b:Nat}(hb:W.heap[b]? =some (.map es clock))(a:α)(ga:C.Gd a)(ok:Bool):
 (Instr.lookup t (.map (some b)) (C.enc a) ok).run P W= .ok (if ok then .tuple #[((FZ l a).map ER).getD z,.bool (FZ l a).isSome]else((FZ l a).map ER).getD z) W:=by
 obtain⟨lit,hk⟩:=C.good a ga
 rcases h.find a ga W with⟨h1,h2⟩|⟨j,p,x,h1,rfl,h3,h4,h5,h6⟩
 ·rw[(Ur l a h1).1]
  simp[Instr.lookup,run_underlying ht,MapKept.run_getObj_map hb,C.K.check W _ hk,h2,hz,Result.andThen]
 ·rw[(WY l j p h1 h.nd).1]
  simp[Instr.lookup,run_underlying ht,MapKept.run_getObj_map hb,C.K.check W _ hk,h6,Result.andThen]
theorem Ku.put{t e:TypeId}(h:Ku C ER es clock l)(ht:P.underlying t=some (.map k e)){W:World}{b:Nat}(hb:W.heap[b]? =some (.map es clock))(a:α)(ga:C.Gd a)(v:β):
 ∃es' clock',(Instr.mapUpdate t (.map (some b)) (C.enc a) (ER v)).run P W= .ok () (setBlock W b (.map es' clock'))∧Ku C ER es' clock' (JX l a v):=by
 obtain⟨lit,hk⟩:=C.good a ga
 rcases h.find a ga W with⟨h1,h2⟩|⟨j,p,x,h1,rfl,h3,h4,h5,h6⟩
 ·refine⟨es.push ⟨C.enc a,ER v,clock⟩,clock+1,?_,?_⟩
  ·simp[Instr.mapUpdate,run_underlying ht,MapKept.run_getObj_map hb,C.K.check W _ hk,h2,MapKept.run_setObj_map _ hb,Result.andThen,setBlock]
  ·rw[(Ur l a h1).2.1]
   refine⟨?_,fun p hp=>?_,?_,fun x hx=>?_,?_⟩
   ·rw[Kq,EY,EY,h.rd];rfl
   ·rcases Ci.1 hp with hp|hp
    ·exact h.gd p hp
    ·rw[Bz.1 hp];exact ga
   ·rw[EY]
    refine C9.2 ⟨h.nd,J,fun x hx y hy e=>?_⟩
    obtain⟨p,hp,rfl⟩:=DN.1 hx
    simp at hy
    exact h1 p hp (e.trans hy)
   ·rw[Kq]at hx
    rcases Ci.1 hx with hx|hx
    ·have:=h.born x hx;omega
    ·rw[Bz.1 hx];exact Nat.lt_succ_self _
   ·rw[Kq,EY]
    refine C9.2 ⟨h.bn,J,fun x hx y hy e=>?_⟩
    obtain⟨p,hp,rfl⟩:=DN.1 hx
    simp at hy
    have:=h.born p hp;omega
 ·have hst:=C.K.stays W hk
  have hj:j<es.size:=by have:=(BK.1 h3).1;simpa using this
  have hxa:es[j]? =some x:=by rw[←UM];exact h3
  refine⟨es.modify j fun e=>{e with key:=C.enc p.1,val:=ER v},clock,?_,?_⟩
  ·simp[Instr.mapUpdate,run_underlying ht,MapKept.run_getObj_map hb,C.K.check W _ hk,h6,hxa,h4,hst,MapKept.run_setObj_map _ hb,Result.andThen,setBlock]
  ·have hes:(es.modify j fun e=>{e with key:=C.enc p.1,val:=ER v}).toList=es.toList.set j {x with key:=C.enc p.1,val:=ER v}:=by
    rw[KA]
    apply EU
    intro i
    rw[List.getElem?_modify,EJ]
    by_cases e:j=i
    ·subst e;rw[if_pos rfl,h3,if_pos zN];simp
    ·rw[if_neg e];simp[e]
   rw[(WY l j p h1 h.nd).2.1]
   have amq:(l.set j (p.1,v)).map Prod.fst=l.map Prod.fst:=by
    rw[G7]
    apply EU
    intro i
    rw[EJ]
    by_cases e:j=i
    ·subst e
     rw[if_pos rfl,Cb,h1]
     have:=(BK.1 h1).1
     rw[if_pos zT];rfl
    ·rw[if_neg e]
   have hbn:(es.toList.set j {x with key:=C.enc p.1,val:=ER v}).map (·.born)=es.toList.map (·.born):=by
    rw[G7]
    apply EU
    intro i
    rw[EJ]
    by_cases e:j=i
    ·subst e
     rw[if_pos rfl,Cb,h3,if_pos zN];rfl
    ·rw[if_neg e]
   refine⟨?_,fun q hq=>?_,by rw[amq];exact h.nd,fun y hy=>?_,by rw[hes,hbn];exact h.bn⟩
   ·rw[hes,G7,G7,h.rd]
   ·rcases DY hq with hq|rfl
    ·exact h.gd q hq
    ·exact h.gd p (BP h1)
   ·rw[hes]at hy
    rcases DY hy with hy|rfl
    ·exact h.born y hy
    ·exact h.born x (BP h3)
theorem Ku.del{t e ty:TypeId}(h:Ku C ER es clock l)(ht:P.underlying t=some (.map k e)){W:World}{b:Nat}(hb:W.heap[b]? =some (.map es clock))(a:α)(ga:C.Gd a):
 ∃es',(Builtin.delete_ #[t,k] ty #[.map (some b),C.enc a]).run P W= .ok (.tuple #[]) (setBlock W b (.map es' clock))∧Ku C ER es' clock (NH l a)∧((es'=es∧∀p∈l,p.1≠a)∨∃j p,l[j]? =some p∧p.1=a∧es'.toList=es.toList.eraseIdx j):=by
 obtain⟨lit,hk⟩:=C.good a ga
 rcases h.find a ga W with⟨h1,h2⟩|⟨j,p,x,h1,rfl,h3,h4,h5,h6⟩
 ·refine⟨es,?_,by rw[(Ur l a h1).2.2];exact h,.inl ⟨rfl,h1⟩⟩
  simp[Builtin.delete_,run_underlying ht,MapKept.run_getObj_map hb,C.K.check W _ hk,h2,MapKept.run_setObj_map _ hb,Result.andThen,setBlock]
 ·have hj:j<es.size:=by have:=(BK.1 h3).1;simpa using this
  have hes:(es.eraseIdxIfInBounds j).toList=es.toList.eraseIdx j:=by
   rw[Array.eraseIdxIfInBounds,dif_pos hj,Array.toList_eraseIdx]
  refine⟨es.eraseIdxIfInBounds j,?_,?_,.inr ⟨j,p,h1,rfl,hes⟩⟩
  ·simp[Builtin.delete_,run_underlying ht,MapKept.run_getObj_map hb,C.K.check W _ hk,h6,MapKept.run_setObj_map _ hb,Result.andThen,setBlock]
  ·rw[(WY l j p h1 h.nd).2.2]
   have hsub:=LJ es.toList j
   refine⟨?_,fun q hq=>h.gd q ((LJ l j).subset hq),(((LJ l j).map _).nodup h.nd),fun y hy=>?_,?_⟩
   ·rw[hes,ChangeMaps.map_eraseIdx,ChangeMaps.map_eraseIdx,h.rd]
   ·rw[hes]at hy;exact h.born y (hsub.subset hy)
   ·rw[hes];exact(hsub.map _).nodup h.bn
end
end
end
section
section
open Go.RowKit Go.MapKept
open Go.Maps (Keyed)
open Go.ChangeMaps (setBlock)
def mleft{α β:Type}(lb:List ((α×β)×Bool)):List (α×β):=(lb.filter (·.2)).map (·.1)
theorem OX{α β:Type}:∀(lb:List ((α×β)×Bool)) (j:Nat) (p:α×β),lb[j]? =some (p,true)→(mleft lb).Perm (p::mleft (lb.set j (p,false)))
 | [],j,p,h=>by simp at h
 |q::lb,0,p,h=>by
  obtain rfl:q=(p,true):=by simpa using h
  simp[mleft]
 |q::lb,j+1,p,h=>by
  have ih:=OX lb j p zU
  obtain⟨q1,q2⟩:=q
  cases q2 with
  |false=>simpa [mleft]using ih
  |true=>
   have:(q1::mleft lb).Perm (p::q1::mleft (lb.set j (p,false))):=(ih.cons q1).trans (List.Perm.swap _ _ _)
   simpa [mleft]using this
theorem YV{α β:Type}(l:List (α×β)):mleft (l.map fun p=>(p,true))=l:=by
 unfold mleft
 induction l with
 |nil=>rfl
 |cons p l ih=>simpa using ih
theorem adn{α β:Type}(lb:List ((α×β)×Bool)):mleft lb=[]↔∀q∈lb,q.2=false:=by
 unfold mleft
 rw[List.map_eq_nil_iff,List.filter_eq_nil_iff]
 constructor
 ·intro h q hq;have:=h q hq;simpa using this
 ·intro h q hq;rw[h q hq];simp
structure Ol {P:Program} {k:TypeId} {α β:Type} (C:KC P k α) (ER:β→Value) (es:Array MapEntry) (clock since:Nat) (seen:Array Nat) (c0:Nat) (lb:List ((α×β)×Bool)):Prop where
 ok:Ku C ER es clock (lb.map (·.1))
 fl:es.toList.map (fun e=> !seen.contains e.born)=lb.map (·.2)
 old:∀x∈es.toList,x.born<since
 s0:since≤c0
 s1:since≤clock
section
variable{P:Program}{k:TypeId}{α β:Type}[DecidableEq α]{C:KC P k α}{ER:β→Value}{es:Array MapEntry}{clock since c0:Nat}{seen:Array Nat}{lb:List ((α×β)×Bool)}{l:List (α×β)}
theorem Ol.start(h:Ku C ER es clock l):Ol C ER es clock clock #[] clock (l.map fun p=>(p,true)):=by
 have e:(l.map fun p=>(p,true)).map (·.1)=l:=by rw[Oq];exact TI l
 refine⟨by rw[e];exact h,?_,h.born,BF _,BF _⟩
 have hl:es.toList.length=l.length:=by rw[Wj];exact h.len
 rw[Oq]
 apply EU
 intro i
 rw[Cb,Cb]
 by_cases hi:i<l.length
 ·rw[Ba Y,Ba hi];simp
 ·rw[DX Y,DX Y];rfl
theorem Ol.at(h:Ol C ER es clock since seen c0 lb)(j:Nat)(e:MapEntry)(he:es.toList[j]? =some e):∃p,lb[j]? =some (p, !seen.contains e.born)∧e.key=C.enc p.1∧e.val=ER p.2:=by
 obtain⟨p,hp,h1,h2⟩:=h.ok.at j e he
 have h3:=congrArg (fun x=>x[j]?) h.fl
 simp only[Cb,he,EG]at h3 hp
 cases hq:lb[j]? with
 |none=>rw[hq]at hp;cases hp
 |some q=>
  rw[hq]at hp h3
  simp only[EG,L6]at hp h3
  obtain⟨q1,q2⟩:=q
  simp only at hp h3
  exact⟨p,by rw[hp,h3],h1,h2⟩
theorem Ol.next(h:Ol C ER es clock since seen c0 lb){W:World}{b r:Nat}(hb:W.heap[b]? =some (.map es clock))(hr:W.heap[r]? =some (.mapIter (some b) since seen c0))(ty:TypeId):
 (mleft lb=[]∧(Instr.next (.pointer (some ⟨r,0,none⟩)) false ty).run P W= .ok (.tuple #[.bool false]) W)∨
 (mleft lb≠[]∧∃j p e,∃w1:World,(w1=W∨w1=W.drew)∧lb[j]? =some (p,true)∧e∈es.toList∧e.key=C.enc p.1∧e.val=ER p.2∧(Instr.next (.pointer (some ⟨r,0,none⟩)) false ty).run P W= .ok (.tuple #[.bool true,C.enc p.1,ER p.2]) (setBlock w1 r (.mapIter (some b) since (seen.push e.born) clock))∧Ol C ER es clock since (seen.push e.born) clock (lb.set j (p,false))):=by
 rcases run_next_at (P:=P) W ty r b since c0 seen es clock hr hb h.old h.s0 with⟨h0,hrun⟩|⟨e,he,w1,hal,hrun⟩
 ·refine .inl ⟨(adn lb).2 fun q hq=>?_,hrun⟩
  obtain⟨j,hj⟩:=GX hq
  have h3:=congrArg (fun x=>x[j]?) h.fl
  simp only[Cb,hj,EG]at h3
  cases hx:es.toList[j]? with
  |none=>rw[hx]at h3;cases h3
  |some x=>
   rw[hx]at h3
   simp only[EG,L6]at h3
   rw[←h3,all_seen es seen h0 x (BP hx)];rfl
 ·obtain⟨hem,hes⟩:=mem_left he
  obtain⟨j,hj⟩:=GX hem
  obtain⟨p,hp,hk,hv⟩:=h.at j e hj
  rw[hes]at hp
  refine .inr ⟨fun hn=>?_,j,p,e,w1,hal,hp,hem,hk,hv,by rw[←hk,←hv];exact hrun,?_⟩
  ·have:=(adn lb).1 hn _ (BP hp);cases this
  ·have amq:(lb.set j (p,false)).map (·.1)=lb.map (·.1):=by
    rw[G7]
    apply EU
    intro i
    rw[EJ]
    by_cases e:j=i
    ·subst e
     rw[if_pos rfl,Cb,hp]
     have:=(BK.1 hp).1
     rw[if_pos zT];rfl
    ·rw[if_neg e]
   refine⟨by rw[amq];exact h.ok,?_,h.old,h.s1,h.s1⟩
   have hlen:=congrArg List.length h.fl
   simp only[DL]at hlen
   rw[G7]
   apply EU
   intro i
   rw[EJ]
   have h3:=congrArg (fun x=>x[i]?) h.fl
   simp only[Cb]at h3⊢
   by_cases e2:j=i
   ·subst e2
    rw[if_pos rfl,hj,if_pos (by have:=(BK.1 hp).1;simpa using this)]
    simp
   ·rw[if_neg e2,←h3]
    cases hx:es.toList[i]? with
    |none=>rfl
    |some x=>
     have hne:x.born≠e.born:=fun hbe=>by
      have g1:=h.ok.bn
      have hi:=(BK.1 hx).1
      have hj':=(BK.1 hj).1
      have a1:(es.toList.map (·.born))[i]? =some x.born:=by rw[Cb,hx];rfl
      have a2:(es.toList.map (·.born))[j]? =some x.born:=by rw[Cb,hj,hbe];rfl
      exact e2 (((List.getElem?_inj zZ g1).1 (a1.trans a2.symm)).symm)
     simp[hne]
theorem XB:∀(lb:List ((α×β)×Bool)) (j:Nat) (q:(α×β)×Bool),lb[j]? =some q→((lb.map (·.1)).map Prod.fst).Nodup→lb.filter (fun x=>decide (x.1.1≠q.1.1))=lb.eraseIdx j
 | [],j,q,h,_=>by simp at h
 |x::lb,0,q,h,hd=>by
  obtain rfl:x=q:=by simpa using h
  simp only[DJ,HY]at hd
  have:lb.filter (fun y=>decide (y.1.1≠x.1.1))=lb:=NG.2 fun y hy=>decide_eq_true fun e=>hd.1 (e▸DN.2 ⟨y.1,DN.2 ⟨y,hy,rfl⟩,rfl⟩)
  rw[List.filter_cons_of_neg J,this];rfl
 |x::lb,j+1,q,h,hd=>by
  have h':lb[j]? =some q:=by simpa using h
  simp only[DJ,HY]at hd
  have hne:x.1.1≠q.1.1:=fun e=>hd.1 (e▸DN.2 ⟨q.1,DN.2 ⟨q,BP h',rfl⟩,rfl⟩)
  rw[List.filter_cons_of_pos (by simpa using hne),XB lb j q h' hd.2];rfl
theorem Ol.del{t e ty:TypeId}(h:Ol C ER es clock since seen c0 lb)(ht:P.underlying t=some (.map k e)){W:World}{b:Nat}(hb:W.heap[b]? =some (.map es clock))(a:α)(ga:C.Gd a):
 ∃es',(Builtin.delete_ #[t,k] ty #[.map (some b),C.enc a]).run P W= .ok (.tuple #[]) (setBlock W b (.map es' clock))∧Ol C ER es' clock since seen c0 (lb.filter (fun x=>decide (x.1.1≠a))):=by
 obtain⟨es',hrun,hok,hes⟩:=h.ok.del ht hb a ga
 refine⟨es',hrun,?_⟩
 rcases hes with⟨rfl,hno⟩|⟨j,p,hj,rfl,hes⟩
 ·have:lb.filter (fun x=>decide (x.1.1≠a))=lb:=NG.2 fun q hq=>decide_eq_true (hno q.1 (DN.2 ⟨q,hq,rfl⟩))
  rw[this];exact h
 ·rw[Cb]at hj
  cases hq:lb[j]? with
  |none=>rw[hq]at hj;cases hj
  |some q=>
   rw[hq]at hj
   simp only[EG,L6]at hj
   subst hj
   have hf:=XB lb j q hq h.ok.nd
   have hm:(lb.eraseIdx j).map (·.1)=NH (lb.map (·.1)) q.1.1:=by
    rw[(WY (lb.map (·.1)) j q.1 (by rw[Cb,hq];rfl) h.ok.nd).2.2,ChangeMaps.map_eraseIdx]
   rw[hf]
   refine⟨by rw[hm];exact hok,?_,fun x hx=>h.old x ?_,h.s0,h.s1⟩
   ·rw[hes,ChangeMaps.map_eraseIdx,ChangeMaps.map_eraseIdx,h.fl]
   ·rw[hes]at hx;exact(LJ es.toList j).subset hx
end
end
end
section
section
open Go.RowKit Go.MapKept
open Go.Maps (Keyed)
open Go.ChangeMaps (setBlock)
section
variable{P:Program}{kt:TypeId}{α β:Type}
def mp(C:KC P kt α)(ER:β→Value)(b:Nat)(l:List (α×β)):FU:=
 ⟨[b],fun W=>∃es clock,W.heap[b]? =some (.map es clock)∧Ku C ER es clock l,by
  rintro W ⟨es,clock,h,_⟩ i hi
  rw[Bz.1 hi];exact OV h,by
  rintro W W' h ⟨es,clock,hb,hk⟩
  exact⟨es,clock,by rw[h b J];exact hb,hk⟩⟩
def mi(C:KC P kt α)(ER:β→Value)(b r:Nat)(lb:List ((α×β)×Bool))(cur:Option (α×β)):FU:=
 ⟨[b,r],fun W=>∃es clock since seen c0,W.heap[b]? =some (.map es clock)∧W.heap[r]? =some (.mapIter (some b) since seen c0)∧Ol C ER es clock since seen c0 lb∧
  ∀p,cur=some p→∃(e:MapEntry) (seen':Array Nat),seen=seen'.push e.born∧c0=clock∧e∈es.toList∧e.key=C.enc p.1∧e.val=ER p.2,by
  rintro W ⟨es,clock,since,seen,c0,h,hr,_⟩ i hi
  rcases Dh.1 hi with rfl|hi
  ·exact OV h
  ·rw[Bz.1 hi];exact OV hr,by
  rintro W W' h ⟨es,clock,since,seen,c0,hb,hr,hk⟩
  exact⟨es,clock,since,seen,c0,by rw[h b J];exact hb,by rw[h r J];exact hr,hk⟩⟩
end
theorem Z9(W:World)(b:Nat)(o:Obj):Only [b] W (setBlock W b o):=
 ⟨rfl,rfl,rfl,by simp[setBlock],fun i _ hi=>by
  have:b≠i:=fun e=>hi (by rw[e];simp)
  simp[setBlock,LC,this]⟩
theorem YS(W:World)(b:Nat)(o o1:Obj)(h:W.heap[b]? =some o1):(setBlock W b o).heap[b]? =some o:=by
 have:=OV h
 simp[setBlock,LC,this]
section
variable{P:Program}{kt:TypeId}{α β:Type}[DecidableEq α]{C:KC P kt α}{ER:β→Value}{b r:Nat}{l:List (α×β)}{lb:List ((α×β)×Bool)}{cur:Option (α×β)}{W w0:World}{F:List Nat}{L:List FU}
theorem Heap.U1(H:Heap w0 F L W)(j:Nat)(hj:L[j]? =some (mp C ER b l)):∃es clock,W.heap[b]? =some (.map es clock)∧Ku C ER es clock l:=H.ok _ (BP hj)
theorem Heap.akt(H:Heap w0 F L W)(j:Nat)(hj:L[j]? =some (mp C ER b l)){es:Array MapEntry}{clock:Nat}{l':List (α×β)}(hk:Ku C ER es clock l'):Heap w0 F (L.set j (mp C ER b l')) (setBlock W b (.map es clock)):=by
 obtain⟨es0,awn,hb,_⟩:=H.U1 j hj
 refine H.at j hj (F':=[b]) ⟨?_,by simp[ids,mp],by simp[ids,mp],Z9 W b _⟩ (by simp[mp])
 intro E hE
 rw[Bz.1 hE]
 exact⟨es,clock,YS W b _ _ hb,hk⟩
end
section
variable{P:Program}{ops:Array Oper}{rest:List Oper}{n:Sz}{k:Nat}{f:Nat→Value}{W W' w0:World}{F:List Nat}{L:List FU}{Q:Exit→Act→World→Prop}{ty:TypeId}{pos:String}{af:Array Edge}{g:Option (Nat×Bool)}{dst:Option Tmp}{x y u:Operand}{v z:Value}{t e kt:TypeId}
variable{α β:Type}[DecidableEq α]{C:KC P kt α}{ER:β→Value}{b r:Nat}{l:List (α×β)}{lb:List ((α×β)×Bool)}{cur:Option (α×β)}{a:α}{q:β}
theorem arz{o:Oper}(hd:o.dst=none)(hw:Region.wanted o (yl n f ops)=true)(hr:(execOp (ev n f) o).run P W= .ok (.value v) W')(h:SL P ops Q rest n f W'):SL P ops Q (o::rest) n f W:=by
 have hy:yielded ops (Fn n f).tmps=yl n f ops:=funext (Ri n f ops)
 have hr':(execOp (Fn n f).eval o).run P W= .ok (.value v) W':=by rw[JC];exact hr
 refine⟨?_,fun l0 m=>?_⟩
 ·refine jg ?_
  rw[hr',Oper.upon_value,hd]
  exact h.out
 ·refine nN ?_
  refine Vt hr' (fun d=>by intro e;cases e) ?_
  rw[Oper.uponIn_value,hd]
  exact h.inr l0 m
theorem aj2(C:KC P kt α)(ER:β→Value)(H:Heap w0 F L W)(hw:Region.wanted ⟨some k,.makeMap t none,ty,pos,af,g⟩ (yl n f ops)=true)
 (h:∀b W',Heap w0 F (mp C ER b ([]:List (α×β))::L) W'→SL P ops Q rest n (upd f k (.map (some b))) W'):SL P ops Q (⟨some k,.makeMap t none,ty,pos,af,g⟩::rest) n f W:=by
 refine Hu O hw (W':=W.alloc (.map #[] 0)) O (h _ _ (H.more (A:=[mp C ER W.heap.size []]) ⟨?_,by simp[ids,mp],by simp[ids,mp],?_⟩))
 ·intro E hE
  rw[Bz.1 hE]
  exact⟨#[],0,heap_alloc_new W _,Ku.nil⟩
 ·exact Only.of_below ((Below.refl _ _).alloc (BF _) _) _
theorem am4(H:Heap w0 F L W)(j:Nat)(hj:L[j]? =some (mp C ER b l))(hx:ev n f x= .map (some b))(hy:ev n f y=C.enc a)(ga:C.Gd a)(ht:P.underlying t=some (.map kt e))(hz:∀W,(zeroValue e).run P W= .ok z W)(ok:Bool):
 (execOp (ev n f) ⟨dst,.lookup t x y ok,ty,pos,af,g⟩).run P W= .ok (.value (if ok then .tuple #[((FZ l a).map ER).getD z,.bool (FZ l a).isSome]else((FZ l a).map ER).getD z)) W:=by
 obtain⟨es,clock,hb,hk⟩:=H.U1 j hj
 have h:=hk.look ht (hz W) hb a ga ok
 simp only[execOp,hx,hy,Sem.run_bind,h,Result.andThen_ok,Sem.run_pure]
theorem Rx(H:Heap w0 F L W)(j:Nat)(hj:L[j]? =some (mp C ER b l))(hx:ev n f x= .map (some b))(hy:ev n f y=C.enc a)(ga:C.Gd a)(hm:FZ l a=some q)(ht:P.underlying t=some (.map kt e))(hz:∀W,(zeroValue e).run P W= .ok z W)(hv:ER q=v):
 (execOp (ev n f) ⟨dst,.lookup t x y false,ty,pos,af,g⟩).run P W= .ok (.value v) W:=by
 have h:=am4 (dst:=dst) (ty:=ty) (pos:=pos) (af:=af) (g:=g) H j hj hx hy ga ht hz false
 rw[h,hm,←hv];rfl
theorem akm(H:Heap w0 F L W)(j:Nat)(hj:L[j]? =some (mp C ER b l))(hx:ev n f x= .map (some b))(hy:ev n f y=C.enc a)(ga:C.Gd a)(hm:FZ l a=none)(ht:P.underlying t=some (.map kt e))(hz:∀W,(zeroValue e).run P W= .ok z W):
 (execOp (ev n f) ⟨dst,.lookup t x y false,ty,pos,af,g⟩).run P W= .ok (.value z) W:=by
 have h:=am4 (dst:=dst) (ty:=ty) (pos:=pos) (af:=af) (g:=g) H j hj hx hy ga ht hz false
 rw[h,hm];rfl
theorem afI(H:Heap w0 F L W)(j:Nat)(hj:L[j]? =some (mp C ER b l))(hx:ev n f x= .map (some b))(hy:ev n f y=C.enc a)(ga:C.Gd a)(hm:FZ l a=some q)(ht:P.underlying t=some (.map kt e))(hz:∀W,(zeroValue e).run P W= .ok z W)(hv:ER q=v):
 (execOp (ev n f) ⟨dst,.lookup t x y true,ty,pos,af,g⟩).run P W= .ok (.value (.tuple [v,.bool true].toArray)) W:=by
 have h:=am4 (dst:=dst) (ty:=ty) (pos:=pos) (af:=af) (g:=g) H j hj hx hy ga ht hz true
 rw[h,hm,←hv];rfl
theorem agr(H:Heap w0 F L W)(j:Nat)(hj:L[j]? =some (mp C ER b l))(hx:ev n f x= .map (some b))(hy:ev n f y=C.enc a)(ga:C.Gd a)(hm:FZ l a=none)(ht:P.underlying t=some (.map kt e))(hz:∀W,(zeroValue e).run P W= .ok z W):
 (execOp (ev n f) ⟨dst,.lookup t x y true,ty,pos,af,g⟩).run P W= .ok (.value (.tuple [z,.bool false].toArray)) W:=by
 have h:=am4 (dst:=dst) (ty:=ty) (pos:=pos) (af:=af) (g:=g) H j hj hx hy ga ht hz true
 rw[h,hm];rfl
theorem QO(H:Heap w0 F L W)(j:Nat)(hw:Region.wanted ⟨none,.mapUpdate t x y u,ty,pos,af,g⟩ (yl n f ops)=true)(hj:L[j]? =some (mp C ER b l))(hx:ev n f x= .map (some b))(hy:ev n f y=C.enc a)(hu:ev n f u=ER q)(ga:C.Gd a)(ht:P.underlying t=some (.map kt e))
 (h:∀W',Heap w0 F (L.set j (mp C ER b (JX l a q))) W'→SL P ops Q rest n f W'):SL P ops Q (⟨none,.mapUpdate t x y u,ty,pos,af,g⟩::rest) n f W:=by
 obtain⟨es,clock,hb,hk⟩:=H.U1 j hj
 obtain⟨es',clock',hrun,hk'⟩:=hk.put ht hb a ga q
 exact ajj rfl hw zV (h _ (H.akt j hj hk'))
theorem aoJ(H:Heap w0 F L W)(j:Nat)(hw:Region.wanted ⟨none,.call ⟨.builtin .delete,#[x,y],#[t,kt]⟩,ty,pos,af,g⟩ (yl n f ops)=true)(hj:L[j]? =some (mp C ER b l))(hx:ev n f x= .map (some b))(hy:ev n f y=C.enc a)(ga:C.Gd a)(ht:P.underlying t=some (.map kt e))
 (h:∀W',Heap w0 F (L.set j (mp C ER b (NH l a))) W'→SL P ops Q rest n f W'):SL P ops Q (⟨none,.call ⟨.builtin .delete,#[x,y],#[t,kt]⟩,ty,pos,af,g⟩::rest) n f W:=by
 obtain⟨es,clock,hb,hk⟩:=H.U1 j hj
 obtain⟨es',hrun,hk',_⟩:=hk.del (ty:=ty) ht hb a ga
 exact arz (v:= .tuple #[]) rfl hw (by simp only[execOp,resolve,invoke,builtin,Fj,DJ,Ef,hx,hy,Sem.run_bind,Sem.run_pure,Result.andThen_ok,hrun]) (h _ (H.akt j hj hk'))
end
theorem IY{P:Program}{t:TypeId}{z:Value}{size bytes:Nat}(hi:Inf P t z size bytes):∀W,(zeroValue t).run P W= .ok z W:=by
 obtain⟨i,h1,h2,_,_⟩:=hi.ex
 exact fun W=>by simp[zeroValue,typeInfo,h1,h2]
def kI(P:Program)(kt:TypeId)(h:P.underlying kt=some (.int .i64)):KC P kt Int:=
 ⟨Value.int .i64,fun a=> -9223372036854775808≤a∧a≤9223372036854775807,Go.Maps.int_keyed h,fun a ha=>⟨_,Go.Maps.keyOf_int_mk h (wf_i64 ha)⟩,fun a b e=>by injection e⟩
end
end
section
section
open Go.RowKit
theorem set_perm{α:Type _}(L:List α)(k:Nat)(E:α)(hk:k<L.length):(L.set k E).Perm (E::L.eraseIdx k):=by
 have:(L.set k E).eraseIdx k=L.eraseIdx k:=by
  apply EU
  intro i
  simp only[TT,EJ]
  split
  ·rw[if_neg Y]
  ·rw[if_neg Y]
 rw[←this]
 have h2:=O0 (L.set k E) k (by simpa using hk)
 rwa [UQ]at h2
theorem KT{α:Type}{l:List α}{k:Nat}{x:α}(h:l[k]? =some x):l.take k++ [x]=l.take (k+1):=by rw[J8,h];rfl
section
variable{P:Program}{n:Sz}{f:Nat→Value}{W w0:World}{dst:Option Tmp}{ty:TypeId}{pos:String}{af:Array Edge}{g:Option (Nat×Bool)}{x y:Operand}{t t2 e:TypeId}{v:Value}{k k2:IntKind}{a b:Int}
def abf(A:Option Addr)(c i m:Nat):Option Addr:=A.map fun p=>if c=i then p else p.add (i*m)
theorem Yw{A:Option Addr}{l c:Nat}{lo:Operand}{i m:Nat}(hx:ev n f x= .slice A l c)(hl:ev n f lo= .int k a)(ha:a=(i:Int))(hi:i≤l)(h:P.underlying t=some (.slice e))(hm:∀W,(Go.sizeOf e).run P W= .ok m W):
 (execOp (ev n f) ⟨dst,.slice t x (some lo) none none,ty,pos,af,g⟩).run P W= .ok (.value (.slice (abf A c i m) (l-i) (c-i))) W:=by
 subst ha
 have h1:(0:Int)≤i∧(i:Int)≤l:=Y
 simp only[execOp,Instr.sliceAt,Instr.slice,Instr.sliceBounds,Instr.sliceBound,hx,hl,asIntOf,EG,Jw,Sem.run_bind,run_underlying h,Result.andThen_ok,Sem.run_pure,h1,and_self,if_true,hm,BJ]
 cases A with
 |none=>simp[abf]
 |some p=>by_cases h2:c=i<;>simp[abf,h2]
theorem I5.slo{α:Type}{enc:α→Value}{w:World}{F:List Nat}{A:Option Addr}{xs:List α}(h:I5 enc w F A xs){c:Nat}(i:Nat)(hc:xs.length≤c):I5 enc w F (abf A c i 1) (xs.drop i):=by
 intro h0
 rw[OL]at h0
 obtain⟨b,o,e,hb,hr⟩:=h Y
 subst e
 refine⟨b,o+i,?_,hb,fun j z hj=>?_⟩
 ·show some (if c=i then _ else _)=_
  rw[if_neg Y];simp[Addr.add]
 ·rw[EW]at hj
  rw[IZ];exact hr _ z hj
theorem I5.head{α:Type}{enc:α→Value}{w:World}{F:List Nat}{A:Option Addr}{xs:List α}(h:I5 enc w F A xs)(k:Nat):I5 enc w F A (xs.take k):=by
 intro h0
 obtain⟨b,o,e,hb,hr⟩:=h (by rw[Ed]at h0;omega)
 refine⟨b,o,e,hb,fun j z hj=>hr j z ?_⟩
 rw[QK]at hj
 split at hj
 ·exact hj
 ·cases hj
theorem Pq{size m c:Nat}{A:Option Addr}{xs:List Value}{T:TypeId}{F:List Nat}{L:List FU}(H:Heap w0 F L W)(j:Nat)(hj:L[j]? =some (Ec size (.slice A m c) m xs T)):m≤c:=by
 rcases(H.JE j hj).2 with⟨e,h0⟩|⟨g,cap,cur,e,_,_,h,_⟩
 ·injection e with _ _ e;omega
 ·injection e with _ _ e;omega
theorem FB{α:Type}{enc:α→Value}{size:Nat}{F:List Nat}{L:List FU}(H:Heap w0 F L W)(j:Nat){A:Option Addr}{n c:Nat}{xs:List α}{T:TypeId}(hj:L[j]? =some (Ec size (.slice A n c) n (xs.map enc) T)):I5 enc W [] A xs:=by
 intro h0
 obtain⟨b,e,_,hr⟩:=H.SQ j hj h0
 exact⟨b,0,e,J,hr⟩
end
section
variable{P:Program}{ops:Array Oper}{rest:List Oper}{n:Sz}{k k2:Nat}{f:Nat→Value}{W w0:World}{F:List Nat}{L:List FU}{Q:Exit→Act→World→Prop}{ty ty2:TypeId}{pos pos2:String}{af af2:Array Edge}{g:Option (Nat×Bool)}{x y s:Operand}{v u:Value}{t e:TypeId}
theorem aeZ(H:Heap w0 F L W)(j:Nat){p o:Nat}{cs cs':List Value}{T:TypeId}{c0:Value}(hw:Region.wanted ⟨none,.store t x y,ty,pos,af,g⟩ (yl n f ops)=true)(hx:ev n f x= .pointer (some ⟨p,o,none⟩))(hy:ev n f y=u)(hj:L[j]? =some (blk p cs T))(hv:cs[o]? =some c0)(hcs:cs.set o u=cs')(h1:u.oneCell'=true)(hs:∀W,(Go.sizeOf t).run P W= .ok 1 W)
 (h:∀W',Heap w0 F (L.set j (blk p cs' T)) W'→SL P ops Q rest n f W'):SL P ops Q (⟨none,.store t x y,ty,pos,af,g⟩::rest) n f W:=by
 subst hcs
 exact Ik H j hw hx hy hj hv h1 hs h
end
end
end
section
section
open Go.RowKit Go.MapKept
open Go.Maps (Keyed)
open Go.ChangeMaps (setBlock)
theorem adu{α β:Type}{lb:List ((α×β)×Bool)}{j:Nat}{p:α×β}(h:lb[j]? =some (p,true)):(lb.set j (p,false)).map (·.1)=lb.map (·.1):=by
 rw[G7]
 apply EU
 intro i
 rw[EJ]
 by_cases e:j=i
 ·subst e
  rw[if_pos rfl,Cb,h]
  have:=(BK.1 h).1
  rw[if_pos zT];rfl
 ·rw[if_neg e]
section
variable{P:Program}{kt:TypeId}{α β:Type}
structure MapAt (C:KC P kt α) (ER:β→Value) (w0:World) (F:List Nat) (b:Nat) (es:Array MapEntry) (clock:Nat) (l:List (α×β)):Prop where
 hb:w0.heap[b]? =some (.map es clock)
 hk:Ku C ER es clock l
 hF:b∉F
theorem MapAt.now{C:KC P kt α}{ER:β→Value}{w0 W:World}{F:List Nat}{b:Nat}{es:Array MapEntry}{clock:Nat}{l:List (α×β)}(M:MapAt C ER w0 F b es clock l)(hO:Only F w0 W):W.heap[b]? =some (.map es clock):=
 (hO.block b (OV M.hb) M.hF).trans M.hb
theorem MapAt.nd{C:KC P kt α}{ER:β→Value}{w0:World}{F:List Nat}{b:Nat}{es:Array MapEntry}{clock:Nat}{l:List (α×β)}(M:MapAt C ER w0 F b es clock l):(l.map Prod.fst).Nodup:=M.hk.nd
theorem Dj.ag8[DecidableEq α]{C:KC P kt α}{ER:β→Value}{w:World}{A:List FU}{b:Nat}{l:List (α×β)}(hE:Dj A w)(j:Nat)(hj:A[j]? =some (mp C ER b l)):∃es clock,MapAt C ER w [] b es clock l:=by
 obtain⟨es,clock,h1,h2⟩:=(Heap.start hE).U1 j hj
 exact⟨es,clock,h1,h2,J⟩
def mri(C:KC P kt α)(ER:β→Value)(es:Array MapEntry)(clock b r:Nat)(lb:List ((α×β)×Bool))(cur:Option (α×β)):FU:=
 ⟨[r],fun W=>∃since seen c0,W.heap[r]? =some (.mapIter (some b) since seen c0)∧Ol C ER es clock since seen c0 lb∧
  ∀p,cur=some p→∃(e:MapEntry) (seen':Array Nat),seen=seen'.push e.born∧c0=clock∧e∈es.toList∧e.key=C.enc p.1∧e.val=ER p.2,by
  rintro W ⟨since,seen,c0,hr,_⟩ i hi
  rw[Bz.1 hi];exact OV hr,by
  rintro W W' h ⟨since,seen,c0,hr,hk⟩
  exact⟨since,seen,c0,by rw[h r J];exact hr,hk⟩⟩
end
section
variable{P:Program}{ops:Array Oper}{rest:List Oper}{n:Sz}{k:Nat}{f:Nat→Value}{W w0:World}{F:List Nat}{L:List FU}{Q:Exit→Act→World→Prop}{ty:TypeId}{pos:String}{af:Array Edge}{g:Option (Nat×Bool)}{x y u:Operand}{t e kt:TypeId}{v z:Value}{dst:Option Tmp}
variable{α β:Type}[DecidableEq α]{C:KC P kt α}{ER:β→Value}{b r:Nat}{l:List (α×β)}{lb:List ((α×β)×Bool)}{cur:Option (α×β)}{a:α}{q:β}{es:Array MapEntry}{clock:Nat}
theorem Heap.aem(H:Heap w0 F L W)(j:Nat)(hj:L[j]? =some (mri C ER es clock b r lb cur)):∃since seen c0,W.heap[r]? =some (.mapIter (some b) since seen c0)∧Ol C ER es clock since seen c0 lb∧
 ∀p,cur=some p→∃(e:MapEntry) (seen':Array Nat),seen=seen'.push e.born∧c0=clock∧e∈es.toList∧e.key=C.enc p.1∧e.val=ER p.2:=H.ok _ (BP hj)
theorem am3(M:MapAt C ER w0 F b es clock l)(H:Heap w0 F L W)(hw:Region.wanted ⟨some k,.range t x,ty,pos,af,g⟩ (yl n f ops)=true)(hx:ev n f x= .map (some b))(ht:P.underlying t=some (.map kt e))
 (h:∀r W',Heap w0 F (mri C ER es clock b r (l.map fun p=>(p,true)) none::L) W'→SL P ops Q rest n (upd f k (.pointer (some ⟨r,0,none⟩))) W'):SL P ops Q (⟨some k,.range t x,ty,pos,af,g⟩::rest) n f W:=by
 have hb:=M.now H.only
 have hrun:=run_range_map (P:=P) W t kt e b es clock ht hb
 refine Hu O hw (W':=W.alloc (.mapIter (some b) clock #[] clock)) Aa (h W.heap.size _ (H.more (A:=[mri C ER es clock b W.heap.size (l.map fun p=>(p,true)) none]) ⟨?_,?_,?_,?_⟩))
 ·intro E hE
  rw[Bz.1 hE]
  exact⟨clock,#[],clock,(MapKept.heap_alloc W _).1,Ol.start M.hk,fun p hp=>by cases hp⟩
 ·simp[ids,mri]
 ·intro i hi
  simp[ids,mri]at hi
  exact .inr Y
 ·exact(Only.of_below ((Below.refl _ _).alloc (BF _) _) _)
theorem ad6(M:MapAt C ER w0 F b es clock l)(H:Heap w0 F L W)(j:Nat)(hl:mleft lb=[])(hw:Region.wanted ⟨some k,.next x false,ty,pos,af,g⟩ (yl n f ops)=true)(hx:ev n f x= .pointer (some ⟨r,0,none⟩))(hj:L[j]? =some (mri C ER es clock b r lb cur))
 (h:SL P ops Q rest n (upd f k (.tuple [.bool false].toArray)) W):SL P ops Q (⟨some k,.next x false,ty,pos,af,g⟩::rest) n f W:=by
 obtain⟨since,seen,c0,hr,hk,_⟩:=H.aem j hj
 rcases hk.next (M.now H.only) hr ty with⟨_,hrun⟩|⟨hn,_⟩
 ·exact Hu rfl hw Aa h
 ·exact absurd hl hn
theorem ag2(M:MapAt C ER w0 F b es clock l)(H:Heap w0 F L W)(j:Nat)(hl:mleft lb≠[])(hw:Region.wanted ⟨some k,.next x false,ty,pos,af,g⟩ (yl n f ops)=true)(hx:ev n f x= .pointer (some ⟨r,0,none⟩))(hj:L[j]? =some (mri C ER es clock b r lb cur))
 (h:∀i p W',lb[i]? =some (p,true)→C.Gd p.1→Heap w0 F (L.set j (mri C ER es clock b r (lb.set i (p,false)) (some p))) W'→SL P ops Q rest n (upd f k (.tuple [.bool true,C.enc p.1,ER p.2].toArray)) W'):SL P ops Q (⟨some k,.next x false,ty,pos,af,g⟩::rest) n f W:=by
 obtain⟨since,seen,c0,hr,hk,_⟩:=H.aem j hj
 rcases hk.next (M.now H.only) hr ty with⟨hn,_⟩|⟨_,i,p,e0,w1,hal,hp,hem,hkey,hval,hrun,hk'⟩
 ·exact absurd hn hl
 ·have hr1:w1.heap[r]? =some (.mapIter (some b) since seen c0):=by rcases hal with rfl|rfl<;>exact hr
  have ho:Only [] W w1:=by
   rcases hal with rfl|rfl
   ·exact Only.refl _ _
   ·exact⟨rfl,rfl,rfl,BF _,fun _ _ _=>rfl⟩
  have gp:C.Gd p.1:=hk.ok.gd p (DN.2 ⟨(p,true),BP hp,rfl⟩)
  refine Hu O hw (W':=setBlock w1 r (.mapIter (some b) since (seen.push e0.born) clock)) Aa (h i p _ hp gp (H.at j hj (F':=[r]) ⟨?_,?_,?_,?_⟩ (by simp[mri])))
  ·intro E hE
   rw[Bz.1 hE]
   exact⟨since,seen.push e0.born,clock,YS w1 r _ _ hr1,hk',fun p' hp'=>by
    injection hp' with hp'
    subst hp'
    exact⟨e0,seen,rfl,rfl,hem,hkey,hval⟩⟩
  ·simp[ids,mri]
  ·intro i hi
   simp[ids,mri]at hi
   exact .inl (by simp[hi])
  ·exact(ho.mono J).trans (Z9 w1 r _)
theorem ak6{p:α×β}(M:MapAt C ER w0 F b es clock l)(H:Heap w0 F L W)(j:Nat)(hj:L[j]? =some (mri C ER es clock b r lb (some p)))(hx:ev n f x= .pointer (some ⟨r,0,none⟩)):(execOp (ev n f) ⟨dst,.entry x,ty,pos,af,g⟩).run P W= .ok (.value (.tuple [C.enc p.1,ER p.2].toArray)) W:=by
 obtain⟨since,seen,c0,hr,hk,hc⟩:=H.aem j hj
 obtain⟨e0,seen',rfl,rfl,hem,hkey,hval⟩:=hc p rfl
 have hrun:=run_entry_at (P:=P) W r b since seen' es c0 e0 hr (M.now H.only) hem hk.ok.bn
 rw[hkey,hval]at hrun
 simp only[execOp,hx,Sem.run_bind,hrun,Result.andThen_ok,Sem.run_pure]
end
end
end
section
section
open Go.RowKit Go.MapKept
open Go.Maps (Keyed)
open Go.ChangeMaps (setBlock)
section
variable{P:Program}{k:TypeId}{α β:Type}[DecidableEq α]{C:KC P k α}{ER:β→Value}{es:Array MapEntry}{clock:Nat}{l:List (α×β)}
theorem aix{W:World}{b:Nat}{o o1 o2:Obj}(h:W.heap[b]? =some o)(e:setBlock W b o1=setBlock W b o2):o1=o2:=by
 have h1:=YS W b o1 o h
 rw[e,YS W b o2 o h]at h1
 injection h1 with h1
 exact h1.symm
theorem Ku.entry{t e:TypeId}(h:Ku C ER es clock l)(ht:P.underlying t=some (.map k e)){z:Value}{W:World}(hz:(zeroValue e).run P W= .ok z W){b:Nat}(hb:W.heap[b]? =some (.map es clock))(a:α)(ga:C.Gd a):
 ∃(st:Nat) (es1:Array MapEntry) (clock1:Nat),(Instr.mapEntry t (.map (some b)) (C.enc a)).run P W= .ok (.tuple #[((FZ l a).map ER).getD z,.int .i64 st]) (setBlock W b (.map es1 clock1))∧
  ∀v:β,∃es' clock',Ku C ER es' clock' (JX l a v)∧∀(W2:World) (t2:TypeId),W2.heap[b]? =some (.map es1 clock1)→(Instr.entryStore t2 (.map (some b)) (.int .i64 st) (ER v)).run P W2= .ok () (setBlock W2 b (.map es' clock')):=by
 obtain⟨lit,hk⟩:=C.good a ga
 have hput:=fun v=>h.put ht hb a ga v
 rcases h.find a ga W with⟨h1,h2⟩|⟨j,p,x,h1,rfl,h3,h4,h5,h6⟩
 ·refine⟨clock,es.push ⟨C.enc a,z,clock⟩,clock+1,?_,fun v=>?_⟩
  ·rw[(Ur l a h1).1]
   simp[Instr.mapEntry,run_underlying ht,MapKept.run_getObj_map hb,C.K.check W _ hk,h2,hz,MapKept.run_setObj_map _ hb,Result.andThen,setBlock,goInt]
  ·refine⟨es.push ⟨C.enc a,ER v,clock⟩,clock+1,?_,fun W2 t2 hw2=>?_⟩
   ·obtain⟨es',clock',hr,hok⟩:=hput v
    have hr2:(Instr.mapUpdate t (.map (some b)) (C.enc a) (ER v)).run P W= .ok () (setBlock W b (.map (es.push ⟨C.enc a,ER v,clock⟩) (clock+1))):=by
     simp[Instr.mapUpdate,run_underlying ht,MapKept.run_getObj_map hb,C.K.check W _ hk,h2,MapKept.run_setObj_map _ hb,Result.andThen,setBlock]
    rw[hr]at hr2
    injection hr2 with _ hr2
    have:=aix hb hr2
    injection this with e1 e2
    rw[←e1,←e2];exact hok
   ·have hidx:(es.push ⟨C.enc a,z,clock⟩).findIdx? (fun e=>((e.born:Nat):Int)==((clock:Nat):Int))=some es.size:=by
     rw[WideElems.findIdx_arr]
     exact WideElems.findIdx_born (l:=(es.push ⟨C.enc a,z,clock⟩).toList) (j:=es.size) (e0:=⟨C.enc a,z,clock⟩) (by
      simp only[Kq,EY,DJ,Ef]
      refine C9.2 ⟨h.bn,J,fun a ha c hc e1=>?_⟩
      simp only[Bz]at hc
      obtain⟨x,hx,rfl⟩:=DN.1 ha
      have:=h.born x hx
      omega) J
    have hmod:(es.push ⟨C.enc a,z,clock⟩).modify es.size (fun e=>{e with val:=ER v})=es.push ⟨C.enc a,ER v,clock⟩:=by
     apply Array.ext'
     rw[KA,Kq,Kq,←Wj,WideElems.modify_last]
    simp[Instr.entryStore,MapKept.run_getObj_map hw2,asInt,asIntOf,goInt,hidx,hmod,MapKept.run_setObj_map _ hw2,Result.andThen,setBlock]
 ·have hst:=C.K.stays W hk
  have hxa:es[j]? =some x:=by rw[←UM];exact h3
  have hsame:es.modify j (fun e=>{e with key:=C.enc p.1})=es:=by
   apply Array.ext'
   rw[KA,ChangeMaps.modify_eq_set _ _ _ _ h3]
   have:({x with key:=C.enc p.1}:MapEntry)=x:=by rw[←h4]
   rw[this]
   exact WideElems.set_self _ _ _ h3
  refine⟨x.born,es,clock,?_,fun v=>?_⟩
  ·rw[(WY l j p h1 h.nd).1]
   simp[Instr.mapEntry,run_underlying ht,MapKept.run_getObj_map hb,C.K.check W _ hk,h6,hxa,h4,h5,hst,hsame,MapKept.run_setObj_map _ hb,Result.andThen,setBlock,goInt]
  ·obtain⟨es',clock',hr,hok⟩:=hput v
   refine⟨es',clock',hok,fun W2 t2 hw2=>?_⟩
   have hr2:(Instr.mapUpdate t (.map (some b)) (C.enc p.1) (ER v)).run P W= .ok () (setBlock W b (.map (es.modify j fun e=>{e with key:=C.enc p.1,val:=ER v}) clock)):=by
    simp[Instr.mapUpdate,run_underlying ht,MapKept.run_getObj_map hb,C.K.check W _ hk,h6,hxa,h4,hst,MapKept.run_setObj_map _ hb,Result.andThen,setBlock]
   rw[hr]at hr2
   injection hr2 with _ hr2
   have:=aix hb hr2
   injection this with e1 e2
   subst e1;subst e2
   have hidx:es.findIdx? (fun e=>((e.born:Nat):Int)==((x.born:Nat):Int))=some j:=by
    rw[WideElems.findIdx_arr]
    exact WideElems.findIdx_born h.bn h3
   have hmod:es.modify j (fun e=>{e with val:=ER v})=es.modify j (fun e'=>{e' with key:=C.enc p.1,val:=ER v}):=by
    apply Array.ext'
    rw[KA,KA,ChangeMaps.modify_eq_set _ _ _ _ h3,ChangeMaps.modify_eq_set _ _ _ _ h3,←h4]
   simp[Instr.entryStore,MapKept.run_getObj_map hw2,asInt,asIntOf,goInt,hidx,hmod,MapKept.run_setObj_map _ hw2,Result.andThen,setBlock]
end
section
variable{P:Program}{kt:TypeId}{α β:Type}[DecidableEq α]
def me(C:KC P kt α)(ER:β→Value)(b:Nat)(l:List (α×β))(a:α)(st:Nat):FU:=
 ⟨[b],fun W=>∃es1 clock1,W.heap[b]? =some (.map es1 clock1)∧∀v:β,∃es' clock',Ku C ER es' clock' (JX l a v)∧∀(W2:World) (t2:TypeId),W2.heap[b]? =some (.map es1 clock1)→(Instr.entryStore t2 (.map (some b)) (.int .i64 st) (ER v)).run P W2= .ok () (setBlock W2 b (.map es' clock')),by
  rintro W ⟨es,clock,h,_⟩ i hi
  rw[Bz.1 hi];exact OV h,by
  rintro W W' h ⟨es,clock,hb,hk⟩
  exact⟨es,clock,by rw[h b J];exact hb,hk⟩⟩
end
section
variable{P:Program}{ops:Array Oper}{rest:List Oper}{n:Sz}{k:Nat}{f:Nat→Value}{W w0:World}{F:List Nat}{L:List FU}{Q:Exit→Act→World→Prop}{ty:TypeId}{pos:String}{af:Array Edge}{g:Option (Nat×Bool)}{x y u s:Operand}{t e kt:TypeId}{v z:Value}{dst:Option Tmp}
variable{α β:Type}[DecidableEq α]{C:KC P kt α}{ER:β→Value}{b:Nat}{l:List (α×β)}{a:α}{q:β}
theorem aoN(H:Heap w0 F L W)(j:Nat)(hw:Region.wanted ⟨some k,.mapEntry t x y,ty,pos,af,g⟩ (yl n f ops)=true)(hj:L[j]? =some (mp C ER b l))(hx:ev n f x= .map (some b))(hy:ev n f y=C.enc a)(ga:C.Gd a)(hm:((FZ l a).map ER).getD z=v)(ht:P.underlying t=some (.map kt e))(hz:∀W,(zeroValue e).run P W= .ok z W)
 (h:∀st W',Heap w0 F (L.set j (me C ER b l a st)) W'→SL P ops Q rest n (upd f k (.tuple [v,.int .i64 (st:Nat)].toArray)) W'):SL P ops Q (⟨some k,.mapEntry t x y,ty,pos,af,g⟩::rest) n f W:=by
 obtain⟨es,clock,hb,hk⟩:=H.U1 j hj
 obtain⟨st,es1,clock1,hrun,hst⟩:=hk.entry ht (hz W) hb a ga
 rw[hm]at hrun
 refine Hu O hw (W':=setBlock W b (.map es1 clock1)) (v:= .tuple [v,.int .i64 st].toArray) (by simp only[execOp,hx,hy,Sem.run_bind,hrun,Result.andThen_ok];rfl) (h st _ (H.at j hj (F':=[b]) ⟨?_,by simp[ids,me],by simp[ids,me],Z9 W b _⟩ (by simp[mp])))
 intro E hE
 rw[Bz.1 hE]
 exact⟨es1,clock1,YS W b _ _ hb,hst⟩
theorem aos{st:Nat}(H:Heap w0 F L W)(j:Nat)(hw:Region.wanted ⟨none,.entryStore t x y u,ty,pos,af,g⟩ (yl n f ops)=true)(hj:L[j]? =some (me C ER b l a st))(hx:ev n f x= .map (some b))(hy:ev n f y= .int .i64 (st:Nat))(hu:ev n f u=v)(hq:v=ER q)
 (h:∀W',Heap w0 F (L.set j (mp C ER b (JX l a q))) W'→SL P ops Q rest n f W'):SL P ops Q (⟨none,.entryStore t x y u,ty,pos,af,g⟩::rest) n f W:=by
 obtain⟨es1,clock1,hb,hk⟩:=H.ok _ (BP hj)
 obtain⟨es',clock',hok,hrun⟩:=hk q
 have hrun:=hrun W t hb
 rw[←hq]at hrun
 refine ajj O hw (W':=setBlock W b (.map es' clock')) zV (h _ (H.at j hj (F':=[b]) ⟨?_,by simp[ids,mp],by simp[ids,mp],Z9 W b _⟩ (by simp[me])))
 intro E hE
 rw[Bz.1 hE]
 exact⟨es',clock',YS W b _ _ hb,hok⟩
theorem afQ(H:Heap w0 F L W)(j:Nat)(hj:L[j]? =some (mp C ER b l))(hx:ev n f x= .map (some b))(hy:ev n f y=C.enc a)(ga:C.Gd a)(hm:((FZ l a).map ER).getD z=v)(ht:P.underlying t=some (.map kt e))(hz:∀W,(zeroValue e).run P W= .ok z W):
 (execOp (ev n f) ⟨dst,.lookup t x y false,ty,pos,af,g⟩).run P W= .ok (.value v) W:=by
 have h:=am4 (dst:=dst) (ty:=ty) (pos:=pos) (af:=af) (g:=g) H j hj hx hy ga ht hz false
 rw[h,if_neg J,hm]
end
end
end
end Go.Proofs.YtppilhpcmkekbaaGreat
