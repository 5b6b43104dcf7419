/- Parts of the proof. -/
import Derived.Deep.Quiet
import Derived.RangeFuncNested
import Derived.RangeFuncLeaves
import Derived.StillTail
import Derived.ArgAppend
import Derived.Deep.RegionHeld
import Derived.Test.YtppilhpcmkekbaaGreatKTopBotha
set_option linter.unusedSimpArgs false
set_option linter.unusedVariables false
set_option linter.unusedSectionVars false
set_option maxRecDepth 100000
set_option maxHeartbeats 16000000
namespace Go.Proofs.YtppilhpcmkekbaaGreat
open Go.Proofs.Tryz
section
section
open Go.RowKit
def upd(f:Nat→Value)(k:Nat)(v:Value):Nat→Value:=fun t=>bif Nat.beq t k then v else f t
structure Sz where
 n:Nat
 d:List Deferred
def Fn(n:Sz)(f:Nat→Value):Act:=⟨((List.range n.n).map f).toArray,n.d⟩
def ev(n:Sz)(f:Nat→Value):Operand→Value
 | .tmp t=>bif Nat.blt t n.n then f t else undef
 | .const v=>v
 | .global g=> .pointer (some ⟨g,0,none⟩)
 | .func g=> .func (.func g) #[] #[]
theorem upd_same{f:Nat→Value}{k:Nat}{v:Value}(h:f k=v):upd f k v=f:=by
 funext t
 unfold upd
 cases hb:Nat.beq t k
 ·rfl
 ·have:t=k:=UK hb
  subst this;exact h.symm
theorem akj(n:Sz)(f:Nat→Value)(t:Nat):(Fn n f).tmps[t]? =if t<n.n then some (f t)else none:=by
 simp only[Fn,Fe,Cb]
 by_cases h:t<n.n
 ·simp[h]
 ·simp[h]
theorem JC(n:Sz)(f:Nat→Value):(Fn n f).eval=ev n f:=by
 funext x
 cases x with
 |tmp t=>
  simp only[Act.eval,ev,Qo,akj]
  by_cases h:t<n.n
  ·have:Nat.blt t n.n=true:=by simpa [WX]using h
   simp[h,this]
  ·have:Nat.blt t n.n=false:=by rw[Rz];simpa [WX]using h
   simp[h,this]
 |const v=>rfl
 |global g=>rfl
 |func g=>rfl
theorem NV(n:Sz)(f:Nat→Value)(k:Nat)(v:Value):(Fn n f).put (some k) v=Fn n (upd f k v):=by
 simp only[Act.put,Fn,Act.mk.injEq,and_true]
 apply JM
 intro i
 rw[LC]
 simp only[Fe,Cb,Jq,DL,List.length_range]
 by_cases hi:i<n.n
 ·by_cases e:k=i
  ·subst e;simp[upd,hi]
  ·have:Nat.beq i k=false:=by rw[Rz];intro h;exact e (UK h).symm
   simp[upd,hi,e,this]
 ·have h1:(List.range n.n)[i]? =none:=by simp;omega
  simp only[h1,Jw]
  split
  ·split
   ·omega
   ·rfl
  ·rfl
def yl(n:Sz)(f:Nat→Value)(ops:Array Oper)(j:Nat):Option Bool:=
 match(ops[j]?).bind (·.dst)with
 |some k=>(match ev n f (.tmp k)with| .bool b=>some b|_=>none)
 |none=>none
theorem Ri(n:Sz)(f:Nat→Value)(ops:Array Oper)(j:Nat):yielded ops (Fn n f).tmps j=yl n f ops j:=by
 unfold yielded yl
 cases h:(ops[j]?).bind (·.dst)with
 |none=>simp
 |some k=>
  simp only[Option.bind_some,akj]
  by_cases hk:k<n.n
  ·have:Nat.blt k n.n=true:=by simpa [WX]using hk
   simp only[hk,if_true,ev,this,cond_true]
   cases f k<;>rfl
  ·have:Nat.blt k n.n=false:=by rw[Rz];simpa [WX]using hk
   simp only[hk,if_false,ev,this,cond_false]
   rfl
section
variable{P:Program}{ops:Array Oper}{rest:List Oper}{n:Sz}{k id:Nat}{f:Nat→Value}{W W':World}{Q:Exit→Act→World→Prop}{a:Act}{v:Value}{o:Oper}
def ahj(o:Oper):Bool:=match o.op with
 | .call c=>(match c.callee with| .value (.tmp _)=>false|_=>true)
 | .defer _=>false
 |_=>true
def UH:Code→Bool
 | .skip=>true
 | .region _ ops draw=> !draw&&ops.all ahj
 | .seq x y=>UH x&&UH y
 | .cond _ x y=>UH x&&UH y
 | .block _ x=>UH x
 | .loop x=>UH x
 | .exit _=>true
 | .ret=>true
 |_=>false
abbrev RF(l0:Nat):Fence:=Fence.wide.inRound l0
def wpB(P:Program)(c:Code)(Q:Exit→Act→World→Prop)(a:Act)(w:World):Prop:=c.wp P Q a w∧(UH c=true→∀l0 m,c.wpIn (RF l0) m P Q a w)
theorem wpB.mono{P:Program}{c:Code}{Q Q':Exit→Act→World→Prop}{a:Act}{w:World}(h:wpB P c Q a w)(hq:∀e a w,Q e a w→Q' e a w):wpB P c Q' a w:=
 ⟨Code.wp_mono hq h.1,fun ho l0 m=>Code.wpIn_mono hq (h.2 ho l0 m)⟩
theorem acK{K K':Act→World→Prop}{Q:Exit→Act→World→Prop}(h:∀a w,K a w→K' a w):∀e a w,Exit.then K Q e a w→Exit.then K' Q e a w:=by
 intro e a w hh;cases e<;>first|exact h _ _ hh|exact hh
structure CW (P:Program) (c:Code) (Q:Exit→Act→World→Prop) (n:Sz) (f:Nat→Value) (W:World):Prop where
 aso:wpB P c Q (Fn n f) W
theorem CW.out{c:Code}(h:CW P c Q n f W):c.wp P Q (Fn n f) W:=h.aso.1
theorem CW.inr{c:Code}(h:CW P c Q n f W)(ho:UH c=true)(l0 m:Nat):c.wpIn (RF l0) m P Q (Fn n f) W:=h.aso.2 ho l0 m
theorem CW.alone{c:Code}(hr:UH c=false)(h:c.wp P Q (Fn n f) W):CW P c Q n f W:=⟨h,fun ho=>by rw[hr]at ho;cases ho⟩
structure SL (P:Program) (ops:Array Oper) (Q:Exit→Act→World→Prop) (l:List Oper) (n:Sz) (f:Nat→Value) (W:World):Prop where
 out:wpList P ops Q l (Fn n f) W
 inr:∀l0 m,wpListIn (RF l0) m P ops Q l (Fn n f) W
structure PQ (Q:Exit→Act→World→Prop) (e:Exit) (n:Sz) (f:Nat→Value) (W:World):Prop where
 out:Q e (Fn n f) W
theorem AX{y:Code}(h:CW P y Q n f W):PQ (Exit.then (wpB P y Q) Q) .normal n f W:=⟨h.aso⟩
theorem Dk{K:Act→World→Prop}(h:K (Fn n f) W):PQ (Exit.then K Q) .normal n f W:=⟨h⟩
theorem CY{K:Act→World→Prop}{i:Nat}(h:PQ Q (.exit i) n f W):PQ (Exit.then K Q) (.exit i) n f W:=⟨h.out⟩
theorem Dx{K:Act→World→Prop}(h:PQ Q .ret n f W):PQ (Exit.then K Q) .ret n f W:=⟨h.out⟩
theorem CS(h:PQ Q .normal n f W):PQ (Exit.inBlock id Q) .normal n f W:=⟨h.out⟩
theorem F8(h:PQ Q .ret n f W):PQ (Exit.inBlock id Q) .ret n f W:=⟨h.out⟩
theorem Fv(h:PQ Q .normal n f W):PQ (Exit.inBlock id Q) (.exit id) n f W:=⟨by simp only[Exit.inBlock,if_true];exact h.out⟩
theorem alx{i:Nat}(hi:Nat.beq i id=false)(h:PQ Q (.exit i) n f W):PQ (Exit.inBlock id Q) (.exit i) n f W:=by
 have:i≠id:=by intro e;subst e;simp at hi
 exact⟨by simp only[Exit.inBlock,this,if_false];exact h.out⟩
theorem A8{x y:Code}(h:CW P x (Exit.then (wpB P y Q) Q) n f W):CW P (Code.seq x y) Q n f W:=
 ⟨wp_seq (Code.wp_mono (acK fun _ _ h=>h.1) h.out),fun ho l0 m=>by
  have ho':UH x=true∧UH y=true:=by simpa [UH]using ho
  exact wpIn_seq (Code.wpIn_mono (acK fun _ _ h=>h.2 ho'.2 l0 m) (h.inr ho'.1 l0 m))⟩
theorem DF{l:List Oper}(h:SL P l.toArray Q l n f W):CW P (Code.region id l.toArray false) Q n f W:=⟨wp_region_lit h.out,fun _ l0 m=>wpIn_region_lit (h.inr l0 m)⟩
theorem AZ(h:PQ Q .normal n f W):SL P ops Q [] n f W:=⟨h.out,fun _ _=>wpListIn_nil h.out⟩
theorem EF{c:Operand}{x y:Code}(hc:ev n f c= .bool true)(h:CW P x Q n f W):CW P (Code.cond c x y) Q n f W:=
 ⟨wp_cond_true zB h.out,fun ho l0 m=>by
  have ho':UH x=true∧UH y=true:=by simpa [UH]using ho
  exact wpIn_cond_true zB (h.inr ho'.1 l0 m)⟩
theorem DC{c:Operand}{x y:Code}(hc:ev n f c= .bool false)(h:CW P y Q n f W):CW P (Code.cond c x y) Q n f W:=
 ⟨wp_cond_false zB h.out,fun ho l0 m=>by
  have ho':UH x=true∧UH y=true:=by simpa [UH]using ho
  exact wpIn_cond_false zB (h.inr ho'.2 l0 m)⟩
theorem E8{c:Code}(h:CW P c (Exit.inBlock id Q) n f W):CW P (Code.block id c) Q n f W:=⟨wp_block h.out,fun ho l0 m=>wpIn_block (h.inr (by simpa [UH]using ho) l0 m)⟩
theorem Bj(h:PQ Q .normal n f W):CW P Code.skip Q n f W:=⟨wp_skip h.out,fun _ _ _=>wpIn_skip h.out⟩
theorem Eo(h:PQ Q (.exit id) n f W):CW P (Code.exit id) Q n f W:=⟨wp_exit h.out,fun _ _ _=>wpIn_exit h.out⟩
theorem BM(h:PQ Q .ret n f W):CW P Code.ret Q n f W:=⟨wp_ret h.out,fun _ _ _=>wpIn_ret h.out⟩
theorem an9{g:FuncId}{fn:Func}{c:Code}{l:List Value}{R:Ending→World→Prop}(hf:P.funcs[g]? =some fn)(hb:fn.body=some c){N:Nat}(hN:fn.ntmps=N)(hl:l.length≤N)
 (f0:Nat→Value) (h0:∀i v,l[i]? =some v→f0 i=v) (h1:∀i,l.length≤i→f0 i=undef)
 (h:c.wp P (bodyPost P fn R) (Fn ⟨N,[]⟩ f0) W):Calls P g l.toArray W R:=by
 refine calls_of_wp hf hb ?_
 have e:({tmps:=l.toArray++Array.replicate (fn.ntmps-l.toArray.size) undef,defers:=[]}:Act)=Fn ⟨N,[]⟩ f0:=by
  simp only[Fn,Act.mk.injEq,and_true]
  apply JM
  intro i
  rw[OG]
  simp only[Jq,Fe,Cb,hN]
  split
  ·rename_i hi
   have hg:l[i]? =some l[i]:=Ba hi
   have hiN:i<N:=Y
   have hr:(List.range N)[i]? =some i:=by simp[hiN]
   rw[hg,hr,EG,h0 i _ hg]
  ·rename_i hi
   by_cases hiN:i<N
   ·have hr:(List.range N)[i]? =some i:=by simp[hiN]
    rw[hr,EG,h1 i Y,Ht,if_pos Y]
   ·have hr:(List.range N)[i]? =none:=by simp;omega
    rw[hr,Jw,Ht,if_neg Y]
 rw[e];exact h
def args(l:List Value):Nat→Value:=fun i=>l.getD i undef
theorem k_in{g:FuncId}{fn:Func}{c:Code}{l:List Value}{R:Ending→World→Prop}(hf:P.funcs[g]? =some fn)(hb:fn.body=some c){N:Nat}(hN:fn.ntmps=N)(hl:Nat.ble l.length N=true)
 (h:CW P c (bodyPost P fn R) ⟨N,[]⟩ (args l) W):Calls P g l.toArray W R:=
 an9 hf hb hN (LD hl) _ (fun i v h=>by simp[args,List.getD,h]) (fun i hi=>by simp[args,List.getD,DX hi]) h.out
theorem fin0{fn:Func}{N:Nat}{R:Ending→World→Prop}(hr:fn.results= #[])(hR:R (.returned (.tuple #[])) W):PQ (bodyPost P fn R) .normal ⟨N,[]⟩ f W:=
 ⟨bodyPost_end (results_none hr _ _ _) rfl hR⟩
theorem apk{fn:Func}{N:Nat}{R:Ending→World→Prop}(hr:fn.results= #[])(hR:R (.returned (.tuple #[])) W):PQ (bodyPost P fn R) .ret ⟨N,[]⟩ f W:=
 ⟨bodyPost_ret (results_none hr _ _ _) rfl hR⟩
theorem Uu(t:Nat):(Fn n f).tmps.getD t undef=ev n f (.tmp t):=congrFun (JC n f) (.tmp t)
theorem CG{fn:Func}{N:Nat}{R:Ending→World→Prop}{t:Nat}(hr:fn.results= #[.tmp t])(hv:ev ⟨N,[]⟩ f (.tmp t)=v)(hR:R (.returned v) W):PQ (bodyPost P fn R) .ret ⟨N,[]⟩ f W:=
 ⟨bodyPost_ret (by rw[results_tmp hr,Uu,hv]) rfl hR⟩
theorem Fh{fn:Func}{N:Nat}{R:Ending→World→Prop}{t u:Nat}{v2:Value}(hr:fn.results= #[.tmp t,.tmp u])(hv:ev ⟨N,[]⟩ f (.tmp t)=v)(hu:ev ⟨N,[]⟩ f (.tmp u)=v2)(hR:R (.returned (.tuple #[v,v2])) W):PQ (bodyPost P fn R) .ret ⟨N,[]⟩ f W:=
 ⟨bodyPost_ret (by rw[results_tmp2 hr,Uu,Uu,hv,hu]) rfl hR⟩
theorem least{p:Nat→Prop}(h:∃m,p m):∃m,p m∧∀k,p k→m≤k:=by
 classical
 obtain⟨m,hm⟩:=h
 induction m using Nat.strongRecOn with
 |_ m ih=>
  by_cases h2:∃k,k<m∧p k
  ·obtain⟨k,hk,hp⟩:=h2;exact ih k hk hp
  ·exact⟨m,hm,fun k hk=>OQ fun hlt=>h2 ⟨k,hlt,hk⟩⟩
theorem EO{c:Code}(I:Nat→(Nat→Value)→World→Prop)(m0:Nat)(h0:I m0 f W)
 (round:∀m f W,I m f W→CW P c (Exit.then (fun a' W'=>∃m' f',m'<m∧a'=Fn n f'∧I m' f' W') Q) n f W):CW P (Code.loop c) Q n f W:=by
 classical
 let Az:Act→World→Nat→Prop:=fun a W m=>∃f',a=Fn n f'∧I m f' W
 let μ:Act→World→Nat:=fun a W=>if h:∃m,Az a W m then(least h).choose else 0
 have step:∀{a':Act} {W W':World} {f1:Nat→Value} {k:Nat} (hJ:∃m,Az (Fn n f1) W m),k=(least hJ).choose→(∃m' f',m'<k∧a'=Fn n f'∧I m' f' W')→(∃m,Az a' W' m)∧μ a' W'<μ (Fn n f1) W:=by
  rintro a' W W' f1 k hJ rfl ⟨m',f',hlt,rfl,hI'⟩
  have hJ':∃m,Az (Fn n f') W' m:=⟨m',f',rfl,hI'⟩
  refine⟨hJ',?_⟩
  show(if h:∃m,Az (Fn n f') W' m then(least h).choose else 0)<(if h:∃m,Az (Fn n f1) W m then(least h).choose else 0)
  rw[dif_pos hJ',dif_pos hJ]
  exact QD ((least hJ').choose_spec.2 _ ⟨f',rfl,hI'⟩) hlt
 refine⟨?_,fun ho l0 m=>?_⟩
 ·refine wp_loop (fun a W=>∃m,Az a W m) μ ⟨m0,f,rfl,h0⟩ ?_
  intro a W hJ
  have hJ0:=hJ
  obtain⟨f1,rfl,hI⟩:=(least hJ).choose_spec.1
  refine Code.wp_mono ?_ (round _ f1 W hI).out
  intro e a' W' hq
  cases e with
  |normal=>exact step hJ0 rfl hq
  |_=>exact hq
 ·have ho':UH c=true:=by simpa [UH]using ho
  refine wpIn_loop (fun a W=>∃m,Az a W m) μ ⟨m0,f,rfl,h0⟩ ?_
  intro a W hJ
  have hJ0:=hJ
  obtain⟨f1,rfl,hI⟩:=(least hJ).choose_spec.1
  refine Code.wpIn_mono ?_ ((round _ f1 W hI).inr ho' l0 m)
  intro e a' W' hq
  cases e with
  |normal=>exact step hJ0 rfl hq
  |_=>exact hq
theorem aci{f:Nat→Value}{k1:Nat}{v1:Value}(h1:f k1=v1):∃g,f=upd g k1 v1:=⟨f,(upd_same h1).symm⟩
theorem LZ{f:Nat→Value}{k1 k2:Nat}{v1 v2:Value}(h1:f k1=v1)(h2:f k2=v2):∃g,f=upd (upd g k1 v1) k2 v2:=⟨f,by rw[upd_same h1,upd_same h2]⟩
theorem KI{f:Nat→Value}{k1 k2 k3:Nat}{v1 v2 v3:Value}(h1:f k1=v1)(h2:f k2=v2)(h3:f k3=v3):∃g,f=upd (upd (upd g k1 v1) k2 v2) k3 v3:=⟨f,by rw[upd_same h1,upd_same h2,upd_same h3]⟩
theorem Jj{f:Nat→Value}{k1 k2 k3 k4:Nat}{v1 v2 v3 v4:Value}(h1:f k1=v1)(h2:f k2=v2)(h3:f k3=v3)(h4:f k4=v4):∃g,f=upd (upd (upd (upd g k1 v1) k2 v2) k3 v3) k4 v4:=⟨f,by rw[upd_same h1,upd_same h2,upd_same h3,upd_same h4]⟩
theorem OJ{f:Nat→Value}{k1 k2 k3 k4 k5:Nat}{v1 v2 v3 v4 v5:Value}(h1:f k1=v1)(h2:f k2=v2)(h3:f k3=v3)(h4:f k4=v4)(h5:f k5=v5):∃g,f=upd (upd (upd (upd (upd g k1 v1) k2 v2) k3 v3) k4 v4) k5 v5:=⟨f,by rw[upd_same h1,upd_same h2,upd_same h3,upd_same h4,upd_same h5]⟩
theorem XC{f:Nat→Value}{k1 k2 k3 k4 k5 k6:Nat}{v1 v2 v3 v4 v5 v6:Value}(h1:f k1=v1)(h2:f k2=v2)(h3:f k3=v3)(h4:f k4=v4)(h5:f k5=v5)(h6:f k6=v6):∃g,f=upd (upd (upd (upd (upd (upd g k1 v1) k2 v2) k3 v3) k4 v4) k5 v5) k6 v6:=⟨f,by rw[upd_same h1,upd_same h2,upd_same h3,upd_same h4,upd_same h5,upd_same h6]⟩
theorem abQ{ρ:Operand→Value}{o:Oper}{r:Next}(h:(execOp ρ o).run P W= .ok r W')(hr:∀d,r≠ .defer d):∀c,o.op≠ .defer c:=by
 intro c hc
 unfold execOp at h
 rw[hc]at h
 simp only[Sem.run_bind]at h
 generalize(resolve ρ c o.type).run P W=x at h
 cases x with
 |ok d w1=>
  simp only[Result.andThen_ok,Sem.run_pure]at h
  injection h with h1 _
  exact hr _ h1.symm
 |halt _ _=>cases h
theorem Vt{r:Next}{l0 m:Nat}{K:Act→World→Prop}{a:Act}(h:(execOp a.eval o).run P W= .ok r W')(hr:∀d,r≠ .defer d)(hk:o.uponIn (RF l0) m P a K Q (.ok r W')):o.wpIn (RF l0) m P a W K Q:=by
 unfold Oper.wpIn
 refine⟨fun _ _=>trivial,?_⟩
 rw[show(RF l0).round=some l0 from rfl,Oper.semAt_some l0 _ _ (abQ h hr),h]
 exact hk
theorem Hu(hd:o.dst=some k)(hw:Region.wanted o (yl n f ops)=true)(hr:(execOp (ev n f) o).run P W= .ok (.value v) W')
 (h:SL P ops Q rest n (upd f k v) W'):SL P ops Q (o::rest) n f W:=by
 have hy:yielded ops (Fn n f).tmps=yl n f ops:=funext (Ri n f ops)
 have hr':(execOp (Fn n f).eval o).run P W= .ok (.value v) W':=by rw[JC];exact hr
 refine⟨?_,fun l0 m=>?_⟩
 ·refine jg ?_
  rw[hr',Oper.upon_value,hd,NV]
  exact h.out
 ·refine nN ?_
  refine Vt hr' (fun d=>by intro e;cases e) ?_
  rw[Oper.uponIn_value,hd,NV]
  exact h.inr l0 m
theorem ajj(hd:o.dst=none)(hw:Region.wanted o (yl n f ops)=true)(hr:(execOp (ev n f) o).run P W= .ok .skip W')
 (h:SL P ops Q rest n f W'):SL P ops Q (o::rest) n f W:=by
 have hy:yielded ops (Fn n f).tmps=yl n f ops:=funext (Ri n f ops)
 have hr':(execOp (Fn n f).eval o).run P W= .ok .skip W':=by rw[JC];exact hr
 refine⟨?_,fun l0 m=>?_⟩
 ·refine jg ?_
  rw[hr',Oper.upon_skip,hd]
  exact h.out
 ·refine nN ?_
  refine Vt hr' (fun d=>by intro e;cases e) ?_
  rw[Oper.uponIn_skip,hd]
  exact h.inr l0 m
theorem apN(hd:o.dst=some k)(hw:Region.wanted o (yl n f ops)=false)
 (h:SL P ops Q rest n (upd f k undef) W):SL P ops Q (o::rest) n f W:=by
 have hy:yielded ops (Fn n f).tmps=yl n f ops:=funext (Ri n f ops)
 refine⟨?_,fun l0 m=>?_⟩
 ·unfold wpList
  rw[hy,hw,hd,NV]
  exact h.out
 ·unfold wpListIn
  rw[hy,hw,hd,NV]
  exact⟨fun _ _=>trivial,h.inr l0 m⟩
theorem aeI{fn:FuncId}{vs:Array Value}{R:Ending→World→Prop}(hd:o.dst=some k)(hw:Region.wanted o (yl n f ops)=true)(hr:(execOp (ev n f) o).run P W= .ok (.enter fn vs) W)(hc:Calls P fn vs W R)
 (h:∀e W',R e W'→∃v,e= .returned v∧SL P ops Q rest n (upd f k v) W'):SL P ops Q (o::rest) n f W:=by
 have hy:yielded ops (Fn n f).tmps=yl n f ops:=funext (Ri n f ops)
 have hr':(execOp (Fn n f).eval o).run P W= .ok (.enter fn vs) W:=by rw[JC];exact hr
 refine⟨?_,fun l0 m=>?_⟩
 ·refine jg ?_
  rw[hr',Oper.upon_enter]
  refine hc.mono fun e W' hR=>?_
  obtain⟨v,rfl,h2⟩:=h e W' hR
  show wpList P ops Q rest ((Fn n f).put o.dst v) W'
  rw[hd,NV];exact h2.out
 ·refine nN ?_
  refine Vt hr' (fun d=>by intro e;cases e) ?_
  rw[Oper.uponIn_enter]
  refine⟨(fun hh=>nomatch hh),CallsIn.inRound l0 (callsIn_wide.2 (hc.mono fun e W' hR=>?_))⟩
  obtain⟨v,rfl,h2⟩:=h e W' hR
  show wpListIn (RF l0) m P ops Q rest ((Fn n f).put o.dst v) W'
  rw[hd,NV];exact h2.inr l0 m
end
end
end
section
section
open Go.RowKit
structure FU where
 ids:List Nat
 ok:World→Prop
 lt:∀W,ok W→∀i∈ids,i<W.heap.size
 loc:∀W W':World,(∀i∈ids,W'.heap[i]? =W.heap[i]?)→ok W→ok W'
def ids(L:List FU):List Nat:=L.flatMap FU.ids
theorem EX(A B:List FU):ids (A++B)=ids A++ids B:=by simp[ids]
theorem Ep(E:FU)(B:List FU):ids (E::B)=E.ids++ids B:=by simp[ids]
theorem Nl{L:List FU}{i:Nat}:i∈ids L↔∃E∈L,i∈E.ids:=by simp[ids,Y6]
structure Only (F:List Nat) (w w':World):Prop where
 os:w'.os=w.os
 tape:w'.tape=w.tape
 output:w'.output=w.output
 size:w.heap.size≤w'.heap.size
 block:∀k,k<w.heap.size→k∉F→w'.heap[k]? =w.heap[k]?
theorem Only.refl(F:List Nat)(w:World):Only F w w:=⟨rfl,rfl,rfl,BF _,fun _ _ _=>rfl⟩
theorem Only.trans{F:List Nat}{a b c:World}(h:Only F a b)(k:Only F b c):Only F a c:=
 ⟨k.os.trans h.os,k.tape.trans h.tape,k.output.trans h.output,FC h.size k.size,fun i hi hf=>(k.block i (FV hi h.size) hf).trans (h.block i hi hf)⟩
theorem Only.mono{F F':List Nat}{a b:World}(h:Only F a b)(hs:∀i∈F,i∈F'):Only F' a b:=
 ⟨h.os,h.tape,h.output,h.size,fun k hk hf=>h.block k hk fun hm=>hf (hs k hm)⟩
theorem Only.of_below{w w':World}(h:Below w.heap.size w w')(F:List Nat):Only F w w':=⟨h.os,h.tape,h.output,h.size,fun k hk _=>h.block k hk⟩
theorem Only.below{w w':World}(h:Only [] w w'):Below w.heap.size w w':=⟨h.os,h.tape,h.output,h.size,fun k hk=>h.block k hk J⟩
def Dj(A:List FU)(W:World):Prop:=(∀E∈A,E.ok W)∧(ids A).Nodup
structure Heap (w0:World) (F:List Nat) (L:List FU) (W:World):Prop where
 ok:∀E∈L,E.ok W
 nd:(ids L).Nodup
 own:∀i∈ids L,i∈F∨w0.heap.size≤i
 only:Only F w0 W
theorem Heap.ents{w0 W:World}{F:List Nat}{L:List FU}(h:Heap w0 F L W):Dj L W:=⟨h.ok,h.nd⟩
theorem Heap.start{L:List FU}{w:World}(h:Dj L w):Heap w (ids L) L w:=⟨h.1,h.2,fun _ hi=> .inl hi,Only.refl _ _⟩
theorem Heap.nil(w:World):Heap w [] [] w:=⟨J,by simp[ids],by simp[ids],Only.refl _ _⟩
theorem Heap.aaQ{w0 W:World}{F:List Nat}{L:List FU}(h:Heap w0 F L W):∀i∈ids L,i<W.heap.size:=by
 intro i hi
 obtain⟨E,hE,hm⟩:=Nl.1 hi
 exact E.lt W (h.ok E hE) i hm
theorem Dj.part{A L:List FU}{W:World}(h:Dj (A++L) W):Dj A W:=
 ⟨fun E hE=>h.1 E (CO _ hE),by have:=h.2;rw[EX]at this;exact(C9.1 this).1⟩
theorem Heap.part{w0 W:World}{F:List Nat}{A L:List FU}(h:Heap w0 F (A++L) W):Dj A W:=h.ents.part
theorem Heap.step{w0 W W':World}{F F':List Nat}{A A' L:List FU}(h:Heap w0 F (A++L) W)(h':Heap W F' A' W')(hF:∀i∈F',i∈ids A):Heap w0 F (A'++L) W':=by
 have hlt:=h.aaQ
 have hnd:=h.nd
 rw[EX]at hnd hlt
 obtain⟨nA,nL,dis⟩:=C9.1 hnd
 have hA:∀i∈ids L,i∉F':=fun i hi hf=>dis i (hF i hf) i hi rfl
 refine⟨fun E hE=>?_,?_,fun i hi=>?_,?_⟩
 ·rcases Ci.1 hE with h1|h1
  ·exact h'.ok E h1
  ·refine E.loc W W' (fun i hi=>?_) (h.ok E (Du _ h1))
   have hm:i∈ids L:=Nl.2 ⟨E,h1,hi⟩
   exact h'.only.block i (hlt i (Du _ hm)) (hA i hm)
 ·rw[EX]
  refine C9.2 ⟨h'.nd,nL,fun a ha b hb hab=>?_⟩
  subst hab
  rcases h'.own a ha with h1|h1
  ·exact hA a hb h1
  ·have:=hlt a (Du _ hb);omega
 ·rw[EX]at hi
  rcases Ci.1 hi with h1|h1
  ·rcases h'.own i h1 with h2|h2
   ·exact h.own i (by rw[EX];exact CO _ (hF i h2))
   ·exact .inr (FC h.only.size h2)
  ·exact h.own i (by rw[EX];exact Du _ h1)
 ·refine⟨h'.only.os.trans h.only.os,h'.only.tape.trans h.only.tape,h'.only.output.trans h.only.output,FC h.only.size h'.only.size,fun k hk hf=>?_⟩
  rw[h'.only.block k (FV hk h.only.size) ?_]
  ·exact h.only.block k hk hf
  ·intro hm
   rcases h.own k (by rw[EX];exact CO _ (hF k hm))with h1|h1
   ·exact hf h1
   ·omega
theorem agt{L L':List FU}(h:L.Perm L'):(ids L).Perm (ids L'):=by
 induction h with
 |nil=>exact .refl _
 |cons x _ ih=>rw[Ep,Ep];exact ih.append_left _
 |swap x y l=>
  rw[Ep,Ep,Ep,Ep,←EK,←EK]
  exact OH.append_right _
 |trans _ _ a b=>exact a.trans b
theorem Heap.perm{w0 W:World}{F:List Nat}{L L':List FU}(h:Heap w0 F L W)(hp:L.Perm L'):Heap w0 F L' W:=
 ⟨fun E hE=>h.ok E (hp.mem_iff.2 hE),(agt hp).nodup_iff.1 h.nd,fun i hi=>h.own i ((agt hp).mem_iff.2 hi),h.only⟩
theorem O0{α:Type _}:∀(L:List α) (k:Nat) (h:k<L.length),L.Perm (L[k]::L.eraseIdx k)
 |a::l,0,_=> .refl _
 |a::l,k+1,h=>by
  have:=O0 l k zU
  exact(this.cons a).trans (.swap _ _ _)
theorem Heap.pick{w0 W:World}{F:List Nat}{L:List FU}(h:Heap w0 F L W)(k:Nat){E:FU}(hk:L[k]? =some E):Heap w0 F (E::L.eraseIdx k) W:=by
 refine h.perm ?_
 obtain⟨hlt,rfl⟩:=BK.1 hk
 exact O0 L k hlt
theorem Heap.back{w0 W:World}{F:List Nat}{L:List FU}{E:FU}(k:Nat)(h:Heap w0 F (E::L.eraseIdx k) W)(hk:k<L.length):Heap w0 F (L.set k E) W:=by
 refine h.perm ?_
 have:(L.set k E).eraseIdx k=L.eraseIdx k:=by
  apply EU
  intro i
  simp only[TT,EJ]
  split
  ·rw[if_neg Y]
  ·rw[if_neg Y]
 rw[←this]
 have h2:=O0 (L.set k E) k (by simpa using hk)
 rw[UQ]at h2
 exact h2.symm
theorem Heap.drop{w0 W:World}{F:List Nat}{E:FU}{L:List FU}(h:Heap w0 F (E::L) W):Heap w0 F L W:=by
 have hnd:=h.nd
 rw[Ep]at hnd
 exact⟨fun X hX=>h.ok X (DZ _ hX),(C9.1 hnd).2.1,fun i hi=>h.own i (by rw[Ep];exact Du _ hi),h.only⟩
theorem Heap.drops{w0 W:World}{F:List Nat}{A L:List FU}(h:Heap w0 F (A++L) W):Heap w0 F A W:=by
 have hnd:=h.nd
 rw[EX]at hnd
 exact⟨fun X hX=>h.ok X (CO _ hX),(C9.1 hnd).1,fun i hi=>h.own i (by rw[EX];exact CO _ hi),h.only⟩
theorem Heap.clear{w0 W:World}{F:List Nat}{L:List FU}(h:Heap w0 F L W):Heap w0 F [] W:=⟨J,by simp[ids],by simp[ids],h.only⟩
theorem Heap.below{w0 W:World}{L:List FU}(h:Heap w0 [] L W):Below w0.heap.size w0 W:=h.only.below
theorem Heap.at{w0 W W':World}{F F':List Nat}{L:List FU}(h:Heap w0 F L W)(k:Nat){E E':FU}(hk:L[k]? =some E)(h':Heap W F' [E'] W')(hF:∀i∈F',i∈E.ids):Heap w0 F (L.set k E') W':=by
 obtain⟨hlt,_⟩:=BK.1 hk
 have h1:Heap w0 F ([E]++L.eraseIdx k) W:=h.pick k hk
 exact(h1.step h' (by simpa [ids]using hF)).back k hlt
theorem Heap.whole{w0 W W':World}{F:List Nat}{A A':List FU}(h:Heap w0 F A W)(h':Heap W (ids A) A' W'):Heap w0 F A' W':=by
 have:=Heap.step (L:=[]) zU h' (fun _ hi=>hi)
 simpa using this
theorem Heap.more{w0 W W':World}{F:List Nat}{A L:List FU}(h:Heap w0 F L W)(h':Heap W [] A W'):Heap w0 F (A++L) W':=Heap.step (A:=[]) zU h' J
theorem Heap.same{w0 W W':World}{F:List Nat}{L:List FU}(h:Heap w0 F L W)(h':Only [] W W'):Heap w0 F L W':=h.more (A:=[]) ⟨J,by simp[ids],by simp[ids],h'⟩
theorem Heap.drew{w0 W:World}{F:List Nat}{L:List FU}(h:Heap w0 F L W):Heap w0 F L W.drew:=h.same ⟨rfl,rfl,rfl,BF _,fun _ _ _=>rfl⟩
theorem OV{α:Type}{a:Array α}{i:Nat}{x:α}(h:a[i]? =some x):i<a.size:=(Array.getElem?_eq_some_iff.1 h).1
def blk(b:Nat)(cs:List Value)(T:TypeId):FU:=
 ⟨[b],fun W=>W.heap[b]? =some (.cells cs.toArray T (0,0)),fun W h i hi=>by rw[Bz.1 hi];exact OV h,fun W W' h hk=>by rw[h b J];exact hk⟩
def vec{α:Type}(enc:α→Value)(b:Nat)(xs:List α)(T:TypeId):FU:=
 ⟨if xs.length=0 then []else [b],fun W=>xs.length≠0→∃rest:List Value,W.heap[b]? =some (.cells (xs.map enc++rest).toArray T (0,0)),by
  intro W h i hi
  by_cases h0:xs.length=0
  ·rw[if_pos h0]at hi;simp at hi
  ·rw[if_neg h0]at hi
   obtain⟨r,hr⟩:=h h0
   rw[Bz.1 hi];exact OV hr,by
  intro W W' h hk h0
  rw[h b (by rw[if_neg h0];simp)];exact hk h0⟩
def own(v:Value)(xs:List Value)(T:TypeId):FU:=
 ⟨v.ownBlock.toList,fun W=>W.ownsRow 0 T 1 v xs.length xs,by
  intro W h i hi
  exact(h.lt i zZ).2,by
  intro W W' h hk
  refine⟨hk.1,?_⟩
  rcases hk.2 with h1|⟨g,cap,cur,rfl,hg,hh,r⟩
  ·exact .inl h1
  ·refine .inr ⟨g,cap,cur,rfl,hg,?_,r⟩
   rw[h g (by simp[Value.ownBlock])];exact hh⟩
theorem Heap.OC{w0 W:World}{F:List Nat}{L:List FU}(h:Heap w0 F L W)(j:Nat){b:Nat}{cs:List Value}{T:TypeId}(hj:L[j]? =some (blk b cs T)):W.heap[b]? =some (.cells cs.toArray T (0,0)):=
 h.ok _ (BP hj)
theorem Heap.RH{α:Type}{enc:α→Value}{w0 W:World}{F:List Nat}{L:List FU}(h:Heap w0 F L W)(j:Nat){b:Nat}{xs:List α}{T:TypeId}(hj:L[j]? =some (vec enc b xs T))(h0:xs.length≠0):
 ∃rest:List Value,W.heap[b]? =some (.cells (xs.map enc++rest).toArray T (0,0)):=h.ok _ (BP hj) h0
theorem Yl{α:Type}{enc:α→Value}{W:World}{b:Nat}{xs:List α}{T:TypeId}{rest:List Value}(h:W.heap[b]? =some (.cells (xs.map enc++rest).toArray T (0,0))){i:Nat}{x:α}(hx:xs[i]? =some x):W.cell? ⟨b,i,none⟩=some (enc x):=by
 rw[Joins.cell_of_block h]
 have hi:i<xs.length:=(BK.1 hx).1
 simp only[Fe]
 rw[Gs zZ,Cb,hx];rfl
theorem heap_set{W:World}{b i:Nat}{cs:List Value}{T:TypeId}{u:Value}(h:W.heap[b]? =some (.cells cs.toArray T (0,0))):(W.setCell ⟨b,i,none⟩ u).heap[b]? =some (.cells (cs.set i u).toArray T (0,0)):=by
 have:=heap_setCell_same W b i cs.toArray T u h
 rw[this];simp
theorem aa7(W:World)(b i:Nat)(u:Value):Only [b] W (W.setCell ⟨b,i,none⟩ u):=
 ⟨rfl,rfl,rfl,by simp[World.setCell],fun k hk hf=>Below.heap_setCell _ _ _ _ (by intro e;exact hf (by simp[e]))⟩
theorem Heap.ao6{w0 W:World}{F:List Nat}{L:List FU}(h:Heap w0 F L W)(j:Nat){b i:Nat}{cs:List Value}{T:TypeId}{u:Value}(hj:L[j]? =some (blk b cs T)):Heap w0 F (L.set j (blk b (cs.set i u) T)) (W.setCell ⟨b,i,none⟩ u):=by
 refine h.at j hj (F':=[b]) ⟨?_,by simp[ids,blk],by simp[ids,blk],aa7 W b i u⟩ (by simp[blk])
 intro E hE
 rw[Bz.1 hE]
 exact heap_set (h.OC j hj)
theorem Heap.ape{α:Type}{enc:α→Value}{w0 W:World}{F:List Nat}{L:List FU}(h:Heap w0 F L W)(j:Nat){b i:Nat}{xs:List α}{T:TypeId}{x:α}(hj:L[j]? =some (vec enc b xs T))(hi:i<xs.length):Heap w0 F (L.set j (vec enc b (xs.set i x) T)) (W.setCell ⟨b,i,none⟩ (enc x)):=by
 have h0:xs.length≠0:=Y
 refine h.at j hj (F':=[b]) ⟨?_,by simp[ids,vec,h0],by simp[ids,vec,h0],aa7 W b i _⟩ (by simp[vec,h0])
 intro E hE
 rw[Bz.1 hE]
 intro _
 obtain⟨rest,hr⟩:=h.RH j hj h0
 refine⟨rest,?_⟩
 rw[heap_set hr]
 congr 2
 rw[List.set_append_left _ _ zZ]
 simp
theorem Heap.alloc{w0 W:World}{F:List Nat}{L:List FU}(h:Heap w0 F L W)(cs:List Value)(T:TypeId):Heap w0 F (blk W.heap.size cs T::L) (W.alloc (.cells cs.toArray T)):=by
 refine h.more (A:=[blk W.heap.size cs T]) ⟨?_,by simp[ids,blk],by simp[ids,blk],?_⟩
 ·intro E hE
  rw[Bz.1 hE]
  exact heap_alloc_new W _
 ·exact Only.of_below ((Below.refl _ _).alloc (BF _) _) _
theorem anr{α:Type}(enc:α→Value)(b:Nat)(xs:List α)(rest:List Value)(T:TypeId){w0 W:World}{F:List Nat}{L:List FU}{cs:List Value}(h:Heap w0 F (blk b cs T::L) W)(hc:cs=xs.map enc++rest):Heap w0 F (vec enc b xs T::L) W:=by
 subst hc
 refine Heap.step (A:=[blk b (xs.map enc++rest) T]) h (A':=[vec enc b xs T]) (F':=[b]) ⟨?_,?_,?_,Only.refl _ _⟩ (by simp[ids,blk])
 ·intro E hE
  rw[Bz.1 hE]
  exact fun _=>⟨rest,h.ok (blk b (xs.map enc++rest) T) J⟩
 ·simp[ids,vec];split<;>simp
 ·intro i hi;simp[ids,vec]at hi;left;simp[hi.2]
end
end
section
section
open Go.RowKit
theorem wI{z:Int}(h: -9223372036854775808≤z∧z≤9223372036854775807):IntKind.i64.wrap z=z:=IntWalk.i64_in _ h
theorem wU{z:Int}(h:0≤z∧z≤18446744073709551615):IntKind.u64.wrap z=z:=IntWalk.u64_in _ h
theorem Xg{α:Type}[Inhabited α]{xs:List α}{i:Nat}(h:i<xs.length):xs[i]? =some (xs.getD i default):=by
 rw[BN,Ba h];rfl
theorem add_plain(b o m:Nat):(⟨b,o,none⟩:Addr).add m=⟨b,o+m,none⟩:=by
 unfold Addr.add;split
 ·subst_vars;rfl
 ·rfl
section
variable{P:Program}{n:Sz}{f:Nat→Value}{W:World}{dst:Option Tmp}{ty:TypeId}{pos:String}{af:Array Edge}{g:Option (Nat×Bool)}{x y:Operand}{v u:Value}{k:IntKind}{a b c d:Int}{t t2 e:TypeId}
theorem Cc(hx:ev n f x=v):(execOp (ev n f) ⟨dst,.move x,ty,pos,af,g⟩).run P W= .ok (.value v) W:=by simp only[execOp,hx];rfl
theorem DK(hx:ev n f x=v):(execOp (ev n f) ⟨dst,.assign x,ty,pos,af,g⟩).run P W= .ok (.value v) W:=by simp only[execOp,hx];rfl
theorem Iz{z:Operand}(hx:ev n f x= .bool true)(hy:ev n f y=v):(execOp (ev n f) ⟨dst,.pick x y z,ty,pos,af,g⟩).run P W= .ok (.value v) W:=by simp only[execOp,hx,hy];rfl
theorem LV{z:Operand}(hx:ev n f x= .bool false)(hz:ev n f z=v):(execOp (ev n f) ⟨dst,.pick x y z,ty,pos,af,g⟩).run P W= .ok (.value v) W:=by simp only[execOp,hx,hz];rfl
theorem DT{p:Addr}(hx:ev n f x= .pointer (some p)):(execOp (ev n f) ⟨dst,.nilCheck x,ty,pos,af,g⟩).run P W= .ok (.value (.pointer (some p))) W:=by simp only[execOp,hx];rfl
theorem Nz{p o m i:Nat}(hx:ev n f x= .pointer (some ⟨p,o,none⟩))(hf:∀(a:Addr) (W:World),(Instr.fieldAt t (.pointer (some a)) i).run P W= .ok (.pointer (some (a.add m))) W):
 (execOp (ev n f) ⟨dst,.fieldAddr t x i,ty,pos,af,g⟩).run P W= .ok (.value (.pointer (some ⟨p,o+m,none⟩))) W:=by
 simp only[execOp,hx,Sem.run_bind,hf,Result.andThen_ok,add_plain];rfl
theorem Cm{p m i:Nat}(hx:ev n f x= .pointer (some ⟨p,0,none⟩))(hf:∀(a:Addr) (W:World),(Instr.fieldAt t (.pointer (some a)) i).run P W= .ok (.pointer (some (a.add m))) W):
 (execOp (ev n f) ⟨dst,.fieldAddr t x i,ty,pos,af,g⟩).run P W= .ok (.value (.pointer (some ⟨p,m,none⟩))) W:=by
 have:=Nz (P:=P) (W:=W) (dst:=dst) (ty:=ty) (pos:=pos) (af:=af) (g:=g) hx hf
 rw[this,EH]
theorem DR{L:List FU}{w0:World}{F:List Nat}(H:Heap w0 F L W)(j:Nat){p o:Nat}{cs:List Value}{T:TypeId}(hx:ev n f x= .pointer (some ⟨p,o,none⟩))(hj:L[j]? =some (blk p cs T))(hv:cs[o]? =some v)
 (hagg:∀W,(isAgg t).run P W= .ok false W):(execOp (ev n f) ⟨dst,.load t x,ty,pos,af,g⟩).run P W= .ok (.value v) W:=by
 have hc:W.cell? ⟨p,o,none⟩=some v:=by rw[Joins.cell_of_block (H.OC j hj)];simpa using hv
 have h2:(load ⟨p,o,none⟩).run P W= .ok v W:=by simp[load,Sem.run,hc]
 simp only[execOp,Instr.loadAt,loadVar,hx,Instr.sureAddr,Sem.run_bind,Sem.run_pure,Result.andThen_ok,hagg,IK,if_false,h2]
theorem Td{α:Type}{enc:α→Value}{L:List FU}{w0:World}{F:List Nat}(H:Heap w0 F L W)(j:Nat){p i:Nat}{xs:List α}{T:TypeId}{z:α}(hx:ev n f x= .pointer (some ⟨p,i,none⟩))(hj:L[j]? =some (vec enc p xs T))(hv:xs[i]? =some z)
 (hagg:∀W,(isAgg t).run P W= .ok false W):(execOp (ev n f) ⟨dst,.load t x,ty,pos,af,g⟩).run P W= .ok (.value (enc z)) W:=by
 have h0:xs.length≠0:=by have:=(BK.1 hv).1;omega
 obtain⟨rest,hr⟩:=H.RH j hj h0
 have hc:=Yl hr hv
 have h2:(load ⟨p,i,none⟩).run P W= .ok (enc z) W:=by simp[load,Sem.run,hc]
 simp only[execOp,Instr.loadAt,loadVar,hx,Instr.sureAddr,Sem.run_bind,Sem.run_pure,Result.andThen_ok,hagg,IK,if_false,h2]
theorem Oe{L:List FU}{w0:World}{F:List Nat}(H:Heap w0 F L W){p i:Nat}(hx:ev n f x= .pointer (some ⟨p,i,none⟩))(hc:w0.cell? ⟨p,i,none⟩=some v)(hF:p∉F)
 (hagg:∀W,(isAgg t).run P W= .ok false W):(execOp (ev n f) ⟨dst,.load t x,ty,pos,af,g⟩).run P W= .ok (.value v) W:=by
 have hlt:p<w0.heap.size:=cell_lt hc
 have hc2:W.cell? ⟨p,i,none⟩=some v:=by
  rw[World.cell?_of_block (w:=w0) (H.only.block p hlt hF)];exact hc
 have h2:(load ⟨p,i,none⟩).run P W= .ok v W:=by simp[load,Sem.run,hc2]
 simp only[execOp,Instr.loadAt,loadVar,hx,Instr.sureAddr,Sem.run_bind,Sem.run_pure,Result.andThen_ok,hagg,IK,if_false,h2]
theorem Dq(hx:ev n f x= .int k a)(hy:ev n f y= .int k b)(hr:k.wrap (a+b)=c):(execOp (ev n f) ⟨dst,.binOp .add t x y t2,ty,pos,af,g⟩).run P W= .ok (.value (.int k c)) W:=by
 simp[execOp,hx,hy,eqGuard,binOp,Op.intArith,hr]
theorem Gu(hx:ev n f x= .int k a)(hy:ev n f y= .int k b)(hr:k.wrap (a-b)=c):(execOp (ev n f) ⟨dst,.binOp .sub t x y t2,ty,pos,af,g⟩).run P W= .ok (.value (.int k c)) W:=by
 simp[execOp,hx,hy,eqGuard,binOp,Op.intArith,hr]
theorem Ya(hx:ev n f x= .int k a)(hy:ev n f y= .int k b)(hr:k.wrap (a*b)=c):(execOp (ev n f) ⟨dst,.binOp .mul t x y t2,ty,pos,af,g⟩).run P W= .ok (.value (.int k c)) W:=by
 simp[execOp,hx,hy,eqGuard,binOp,Op.intArith,hr]
theorem SI(hx:ev n f x= .int k a)(hy:ev n f y= .int k b)(h0:0≤a∧0<b)(hr:k.wrap (a/b)=c):(execOp (ev n f) ⟨dst,.binOp .quo t x y t2,ty,pos,af,g⟩).run P W= .ok (.value (.int k c)) W:=by
 have hb:b≠0:=Y
 simp[execOp,hx,hy,eqGuard,binOp,Op.intDiv,hb,Int.tdiv_eq_ediv_of_nonneg h0.1,hr]
theorem Q8(hx:ev n f x= .int k a)(hy:ev n f y= .int k b)(h0:0≤a∧0<b):(execOp (ev n f) ⟨dst,.binOp .rem t x y t2,ty,pos,af,g⟩).run P W= .ok (.value (.int k (a%b))) W:=by
 have hb:b≠0:=Y
 simp[execOp,hx,hy,eqGuard,binOp,Op.intDiv,hb,Int.tmod_eq_emod_of_nonneg h0.1]
theorem DI(hx:ev n f x= .int k a)(hy:ev n f y= .int k b)(h:a<b):(execOp (ev n f) ⟨dst,.binOp .lss t x y t2,ty,pos,af,g⟩).run P W= .ok (.value (.bool true)) W:=by
 simp[execOp,hx,hy,eqGuard,binOp,Op.intCmp,h];try omega
theorem Di(hx:ev n f x= .int k a)(hy:ev n f y= .int k b)(h:¬a<b):(execOp (ev n f) ⟨dst,.binOp .lss t x y t2,ty,pos,af,g⟩).run P W= .ok (.value (.bool false)) W:=by
 simp[execOp,hx,hy,eqGuard,binOp,Op.intCmp,h];try omega
theorem YU(hx:ev n f x= .int k a)(hy:ev n f y= .int k b)(h:a≤b):(execOp (ev n f) ⟨dst,.binOp .leq t x y t2,ty,pos,af,g⟩).run P W= .ok (.value (.bool true)) W:=by
 simp[execOp,hx,hy,eqGuard,binOp,Op.intCmp,h];try omega
theorem aaJ(hx:ev n f x= .int k a)(hy:ev n f y= .int k b)(h:¬a≤b):(execOp (ev n f) ⟨dst,.binOp .leq t x y t2,ty,pos,af,g⟩).run P W= .ok (.value (.bool false)) W:=by
 simp[execOp,hx,hy,eqGuard,binOp,Op.intCmp,h];try omega
theorem Oz(hx:ev n f x= .int k a)(hy:ev n f y= .int k b)(h:b<a):(execOp (ev n f) ⟨dst,.binOp .gtr t x y t2,ty,pos,af,g⟩).run P W= .ok (.value (.bool true)) W:=by
 simp[execOp,hx,hy,eqGuard,binOp,Op.intCmp,h];try omega
theorem Jy(hx:ev n f x= .int k a)(hy:ev n f y= .int k b)(h:¬b<a):(execOp (ev n f) ⟨dst,.binOp .gtr t x y t2,ty,pos,af,g⟩).run P W= .ok (.value (.bool false)) W:=by
 simp[execOp,hx,hy,eqGuard,binOp,Op.intCmp,h];try omega
theorem GI(hx:ev n f x= .int k a)(hy:ev n f y= .int k b)(h:b≤a):(execOp (ev n f) ⟨dst,.binOp .geq t x y t2,ty,pos,af,g⟩).run P W= .ok (.value (.bool true)) W:=by
 simp[execOp,hx,hy,eqGuard,binOp,Op.intCmp,h];try omega
theorem Fz(hx:ev n f x= .int k a)(hy:ev n f y= .int k b)(h:¬b≤a):(execOp (ev n f) ⟨dst,.binOp .geq t x y t2,ty,pos,af,g⟩).run P W= .ok (.value (.bool false)) W:=by
 simp[execOp,hx,hy,eqGuard,binOp,Op.intCmp,h];try omega
theorem D7(hx:ev n f x= .int k a)(hy:ev n f y= .int k b)(h:a=b):(execOp (ev n f) ⟨dst,.binOp .eql t x y t2,ty,pos,af,g⟩).run P W= .ok (.value (.bool true)) W:=by
 simp[execOp,hx,hy,eqGuard,binOp,Op.intCmp,h];try omega
theorem D5(hx:ev n f x= .int k a)(hy:ev n f y= .int k b)(h:¬a=b):(execOp (ev n f) ⟨dst,.binOp .eql t x y t2,ty,pos,af,g⟩).run P W= .ok (.value (.bool false)) W:=by
 simp[execOp,hx,hy,eqGuard,binOp,Op.intCmp,h];try omega
theorem Jr(hx:ev n f x= .int k a)(hy:ev n f y= .int k b)(h:¬a=b):(execOp (ev n f) ⟨dst,.binOp .neq t x y t2,ty,pos,af,g⟩).run P W= .ok (.value (.bool true)) W:=by
 simp[execOp,hx,hy,eqGuard,binOp,Op.intCmp,h];try omega
theorem Dc(hx:ev n f x= .int k a)(hy:ev n f y= .int k b)(h:a=b):(execOp (ev n f) ⟨dst,.binOp .neq t x y t2,ty,pos,af,g⟩).run P W= .ok (.value (.bool false)) W:=by
 simp[execOp,hx,hy,eqGuard,binOp,Op.intCmp,h];try omega
theorem alk{q:Bool}(hx:ev n f x= .bool q):(execOp (ev n f) ⟨dst,.unOp .not t x,ty,pos,af,g⟩).run P W= .ok (.value (.bool (!q))) W:=by
 simp[execOp,hx,Op.unary]
theorem Ea(hx:ev n f x= .bool true):(execOp (ev n f) ⟨dst,.unOp .not t x,ty,pos,af,g⟩).run P W= .ok (.value (.bool false)) W:=alk hx
theorem Ib(hx:ev n f x= .bool false):(execOp (ev n f) ⟨dst,.unOp .not t x,ty,pos,af,g⟩).run P W= .ok (.value (.bool true)) W:=alk hx
theorem adZ{s:TypeId}{k':IntKind}(hx:ev n f x= .int k' a)(hs:(P.underlying s).isSome=true)(hd:P.underlying e=some (.int k))(hr:k.wrap a=c):(execOp (ev n f) ⟨dst,.convert s e x,ty,pos,af,g⟩).run P W= .ok (.value (.int k c)) W:=by
 obtain⟨d,hd'⟩:=I4.1 hs
 simp[execOp,hx,convert,run_underlying hd',run_underlying hd,Conv.intToInt,hr]
theorem Gw{A:Option Addr}{l c:Nat}(hx:ev n f x= .slice A l c)(h:P.underlying t=some (.slice e)):(execOp (ev n f) ⟨dst,.call ⟨.builtin .len,#[x],#[t]⟩,ty,pos,af,g⟩).run P W= .ok (.value (.int .i64 l)) W:=by
 have h2:(Builtin.len_ #[t] ty #[.slice A l c]).run P W= .ok (.int .i64 l) W:=by simp[Builtin.len_,run_underlying h];rfl
 have h3: #[x].map (ev n f)= #[Value.slice A l c]:=by simp[hx]
 simp only[execOp,resolve,invoke,builtin,h3,Sem.run_bind,Sem.run_pure,Result.andThen_ok,h2]
theorem OO{p o l c:Nat}{i:Nat}{m:Nat}(hx:ev n f x= .slice (some ⟨p,o,none⟩) l c)(hy:ev n f y= .int k a)(ha:a=(i:Int))(hi:i<l)(h:P.underlying t=some (.slice e))(hm:∀W,(Go.sizeOf e).run P W= .ok m W):
 (execOp (ev n f) ⟨dst,.indexAddr t x y,ty,pos,af,g⟩).run P W= .ok (.value (.pointer (some ⟨p,o+i*m,none⟩))) W:=by
 subst ha
 have h1:(0:Int)≤i∧(i:Int)<l:=Y
 simp only[execOp,Instr.indexAt,hx,hy,asIntOf,Sem.run_bind,run_underlying h,Result.andThen_ok,Sem.run_pure,h1,and_self,if_true,hm,BJ,add_plain]
theorem H8{p l c:Nat}{i:Nat}(hx:ev n f x= .slice (some ⟨p,0,none⟩) l c)(hy:ev n f y= .int k a)(ha:a=(i:Int))(hi:i<l)(h:P.underlying t=some (.slice e))(hm:∀W,(Go.sizeOf e).run P W= .ok 1 W):
 (execOp (ev n f) ⟨dst,.indexAddr t x y,ty,pos,af,g⟩).run P W= .ok (.value (.pointer (some ⟨p,i,none⟩))) W:=by
 have:=OO (P:=P) (W:=W) (dst:=dst) (ty:=ty) (pos:=pos) (af:=af) (g:=g) hx hy ha hi h hm
 rw[this];simp
theorem MH{p o l c:Nat}{i:Nat}(hx:ev n f x= .slice (some ⟨p,o,none⟩) l c)(hy:ev n f y= .int k a)(ha:a=(i:Int))(hi:i<l)(h:P.underlying t=some (.slice e))(hm:∀W,(Go.sizeOf e).run P W= .ok 1 W):
 (execOp (ev n f) ⟨dst,.indexAddr t x y,ty,pos,af,g⟩).run P W= .ok (.value (.pointer (some ⟨p,o+i,none⟩))) W:=by
 have:=OO (P:=P) (W:=W) (dst:=dst) (ty:=ty) (pos:=pos) (af:=af) (g:=g) hx hy ha hi h hm
 rw[this];simp
theorem aty{p o l c:Nat}{lo hi:Operand}{i j m:Nat}{k2:IntKind}(hx:ev n f x= .slice (some ⟨p,o,none⟩) l c)(hl:ev n f lo= .int k a)(hh:ev n f hi= .int k2 b)(ha:a=(i:Int))(hb:b=(j:Int))(hij:i≤j∧j≤c)(h:P.underlying t=some (.slice e))(hm:∀W,(Go.sizeOf e).run P W= .ok m W):
 (execOp (ev n f) ⟨dst,.slice t x (some lo) (some hi) none,ty,pos,af,g⟩).run P W= .ok (.value (.slice (some (if c=i then⟨p,o,none⟩else⟨p,o+i*m,none⟩)) (j-i) (c-i))) W:=by
 subst ha;subst hb
 have h1:(0:Int)≤i∧(i:Int)≤j:=Y
 have h2:(0:Int)≤j∧(j:Int)≤c:=Y
 simp only[execOp,Instr.sliceAt,Instr.slice,Instr.sliceBounds,Instr.sliceBound,hx,hl,hh,asIntOf,EG,Jw,Sem.run_bind,run_underlying h,Result.andThen_ok,Sem.run_pure,h1,h2,and_self,if_true,hm,BJ,add_plain]
 split<;>rfl
end
theorem ET{ops:Array Oper}{n:Sz}{j:Nat}{f:Nat→Value}{dst:Option Tmp}{op:Op}{ty:TypeId}{pos:String}{af:Array Edge}{b:Bool}(t:Nat)(hj:(ops[j]?).bind (·.dst)=some t)(hv:ev n f (.tmp t)= .bool b):Region.wanted ⟨dst,op,ty,pos,af,some (j,b)⟩ (yl n f ops)=true:=by
 simp only[Region.wanted,yl,hj,hv];simp
theorem Gj{ops:Array Oper}{n:Sz}{j:Nat}{f:Nat→Value}{dst:Option Tmp}{op:Op}{ty:TypeId}{pos:String}{af:Array Edge}{b c:Bool}(t:Nat)(hj:(ops[j]?).bind (·.dst)=some t)(hv:ev n f (.tmp t)= .bool c)(hc:c= !b):Region.wanted ⟨dst,op,ty,pos,af,some (j,b)⟩ (yl n f ops)=false:=by
 subst hc
 simp only[Region.wanted,yl,hj,hv];simp
theorem awm{ops:Array Oper}{n:Sz}{j:Nat}{f:Nat→Value}{dst:Option Tmp}{op:Op}{ty:TypeId}{pos:String}{af:Array Edge}{b:Bool}(t:Nat)(hj:(ops[j]?).bind (·.dst)=some t)(hv:ev n f (.tmp t)=undef):Region.wanted ⟨dst,op,ty,pos,af,some (j,b)⟩ (yl n f ops)=false:=by
 simp only[Region.wanted,yl,hj,hv];simp[undef]
section
variable{P:Program}{ops:Array Oper}{rest:List Oper}{n:Sz}{f:Nat→Value}{W w0:World}{F:List Nat}{L:List FU}{Q:Exit→Act→World→Prop}{k:Nat}{ty:TypeId}{pos:String}{af:Array Edge}{g:Option (Nat×Bool)}{x y:Operand}{v u:Value}{t e:TypeId}
theorem JL{u:Value}(h1:u.oneCell'=true):u.cells= #[u]:=by cases u<;>simp_all [Value.oneCell',Value.cells]
theorem OZ{p:Addr}{c0:Value}(hs:∀W,(Go.sizeOf t).run P W= .ok 1 W)(hc:W.cell? p=some c0)(hf:W.frozen? p=false)(h1:u.oneCell'=true):(Instr.storeAt t (.pointer (some p)) u).run P W= .ok () (W.setCell p u):=by
 have h2:=run_store P W p u .plain h1
 rw[hc]at h2
 simp only[hf,IK,if_false]at h2
 have h3:p.add 0=p:=by simp[Addr.add]
 have h4:(storeCells p [u]).run P W= .ok () (W.setCell p u):=by
  simp only[storeCells,Sem.run_bind,h3,h2,Result.andThen_ok];rfl
 simp only[Instr.storeAt,storeVar,Instr.sureAddr,JL h1,Sem.run_bind,Sem.run_pure,Result.andThen_ok,hs]
 exact h4
theorem Ik(H:Heap w0 F L W)(j:Nat){p o:Nat}{cs:List Value}{T:TypeId}{c0:Value}(hw:Region.wanted ⟨none,.store t x y,ty,pos,af,g⟩ (yl n f ops)=true)(hx:ev n f x= .pointer (some ⟨p,o,none⟩))(hy:ev n f y=u)(hj:L[j]? =some (blk p cs T))(hv:cs[o]? =some c0)(h1:u.oneCell'=true)(hs:∀W,(Go.sizeOf t).run P W= .ok 1 W)
 (h:∀W',Heap w0 F (L.set j (blk p (cs.set o u) T)) W'→SL P ops Q rest n f W'):SL P ops Q (⟨none,.store t x y,ty,pos,af,g⟩::rest) n f W:=by
 have hg:=H.OC j hj
 have hc:W.cell? ⟨p,o,none⟩=some c0:=by rw[Joins.cell_of_block hg];simpa using hv
 have hr:=OZ (P:=P) (t:=t) hs hc (frozen_of_row W p o cs.toArray T hg) h1
 exact ajj (W':=W.setCell ⟨p,o,none⟩ u) rfl hw Ai (h _ (H.ao6 j hj))
theorem ahs{α:Type}{enc:α→Value}(H:Heap w0 F L W)(j:Nat){p i:Nat}{xs:List α}{T:TypeId}{z:α}(hw:Region.wanted ⟨none,.store t x y,ty,pos,af,g⟩ (yl n f ops)=true)(hx:ev n f x= .pointer (some ⟨p,i,none⟩))(hy:ev n f y=u)(hj:L[j]? =some (vec enc p xs T))(hz:u=enc z)(hi:i<xs.length)(h1:∀q,(enc q).oneCell'=true)(hs:∀W,(Go.sizeOf t).run P W= .ok 1 W)
 (h:∀W',Heap w0 F (L.set j (vec enc p (xs.set i z) T)) W'→SL P ops Q rest n f W'):SL P ops Q (⟨none,.store t x y,ty,pos,af,g⟩::rest) n f W:=by
 subst hz
 obtain⟨rs,hg⟩:=H.RH j hj Y
 have hc:=Yl hg (Ba hi)
 have hr:=OZ (P:=P) (t:=t) (u:=enc z) hs hc (frozen_of_row W p i _ T hg) (h1 z)
 exact ajj (W':=W.setCell ⟨p,i,none⟩ (enc z)) rfl hw Ai (h _ (H.ape j hj hi))
theorem s_call{R:Ending→World→Prop}{fn:FuncId}{xs:Array Operand}{tys:Array TypeId}{vs:List Value}(hw:Region.wanted ⟨some k,.call ⟨.value (.func fn),xs,tys⟩,ty,pos,af,g⟩ (yl n f ops)=true)
 (hc:Calls P fn vs.toArray W R) (hrun:∀W,(execOp (ev n f) ⟨some k,.call ⟨.value (.func fn),xs,tys⟩,ty,pos,af,g⟩).run P W= .ok (.enter fn vs.toArray) W)
 (h:∀e W',R e W'→∃v,e= .returned v∧SL P ops Q rest n (upd f k v) W'):SL P ops Q (⟨some k,.call ⟨.value (.func fn),xs,tys⟩,ty,pos,af,g⟩::rest) n f W:=
 aeI rfl hw (hrun W) hc h
theorem Nr {fn : FuncId} {F : Func} (hf : P.funcs[fn]? = some F) (hn : (F.name == "runtime.NumGoroutine") = false) (hb : F.body.isNone = false) (vs : Array Value) : (callFunc fn vs).run P W = .ok (.enter fn vs) W := by
 unfold callFunc
 rw[Sem.run_bind]
 have hp:(program:Sem Program).run P W= .ok P W:=rfl
 rw[hp,Result.andThen_ok]
 simp only[hf,hn,hb,IK,if_false]
 rfl
theorem arK {fn : FuncId} {F : Func} {xs : Array Operand} {tys : Array TypeId} {dst : Option Tmp} {vs : List Value} (hf : P.funcs[fn]? = some F) (hn : (F.name == "runtime.NumGoroutine") = false) (hb : F.body.isNone = false)
 (hv:xs.toList.map (ev n f)=vs) (W:World):(execOp (ev n f) ⟨dst,.call ⟨.value (.func fn),xs,tys⟩,ty,pos,af,g⟩).run P W= .ok (.enter fn vs.toArray) W:=by
 subst hv
 have h3:xs.map (ev n f)=(xs.toList.map (ev n f)).toArray:=by rw[←Ie]
 simp only[execOp,resolve,Deferred.ofValue,ev,invoke,Sem.run_bind,Sem.run_pure,Result.andThen_ok,h3]
 have h4:(#[]:Array Value)++(xs.toList.map (ev n f)).toArray++ #[]=(xs.toList.map (ev n f)).toArray:=by simp
 rw[h4,Nr hf hn hb]
end
end
end
section
section
open Go.RowKit
section
variable{P:Program}{ops:Array Oper}{md:Region.Mode}{C:World→Prop}
def Xw(P:Program)(md:Region.Mode)(ops:Array Oper)(C:World→Prop)(n:Nat)(M:Array Bool→Act→Prop):Nat→Array Bool→Act→Prop
 |0,listed,a=>M listed a
 |f+1,listed,a=>Region.ready md ops listed≠[]∧∀i∈Region.ready md ops listed,i<n∧qOp P ops C i (Xw P md ops C n M f (listed.setIfInBounds i true)) a
theorem ae5{n g:Nat}{M:Array Bool→Act→Prop}{Q:Exit→Act→World→Prop}(hM:∀listed a,M listed a→∀w,C w→wpAny P md ops Q g listed a w):
 ∀(f:Nat) (listed:Array Bool) (a:Act) (w:World),C w→Xw P md ops C n M f listed a→wpAny P md ops Q (f+g) listed a w:=by
 intro f
 induction f with
 |zero=>intro listed a w hw h;rw[EH];exact hM _ _ h w hw
 |succ f ih=>
  intro listed a w hw h
  rw[Nat.succ_add]
  exact⟨fun h0=>absurd h0 h.1,fun i hi=>wpOp_of_qOp hw (fun a' w' hw' ha=>ih _ a' w' hw' ha) (h.2 i hi).2⟩
theorem ag0{n i:Nat}{oi:Oper}{v:Value}{M:Array Bool→Act→Prop}(hi:ops[i]? =some oi)(hsel:∀(j:Nat) (o:Oper) cs b,ops[j]? =some o→o.op≠ .select cs b)
 (hs:Region.sinkB md ops n=true) (hc:Region.chainB md ops n=true) (hn:n<ops.size) (hin:i<n) (hdone:∀listed a,M listed a→∀j∈Region.ready md ops listed,n≤j):
 ∀(f:Nat) (listed:Array Bool) (a:Act),HeadInv md ops n listed→
  (∀j oj,ops[j]? =some oj→j≠i→listed.getD j true=false→(∀e∈oj.after,Region.binds md e=true→e.on≠i)→oi.apart ops oj=true)→
  i∈Region.ready md ops listed→YieldsIn P ops C oi v a→
  Xw P md ops C n M f (listed.setIfInBounds i true) (a.put oi.dst v)→Xw P md ops C n M (f+1) listed a:=by
 intro f
 induction f with
 |zero=>
  intro listed a inv _ hr hy H
  refine⟨fun h0=>(by rw[h0]at hr;cases hr),fun j hj=>?_⟩
  have hjn:j<n:=Nat.lt_of_not_le fun hle=>tail_waits hs hc hn inv _ i rfl hin (mem_ready.1 hr).1 j hle hj
  by_cases e:j=i
  ·subst e;exact⟨hjn,hy.qOp hi H⟩
  ·have:=hdone _ _ H j (ready_mono hj e);omega
 |succ f ih=>
  intro listed a inv free hr hy H
  refine⟨fun h0=>(by rw[h0]at hr;cases hr),fun j hj=>?_⟩
  have hun:=(mem_ready.1 hr).1
  have hjn:j<n:=Nat.lt_of_not_le fun hle=>tail_waits hs hc hn inv _ i rfl hin hun j hle hj
  refine⟨hjn,?_⟩
  by_cases e:j=i
  ·subst e;exact hy.qOp hi H
  obtain⟨hjun,oj,hoj,hall⟩:=mem_ready.1 hj
  have hno:∀e∈oj.after,Region.binds md e=true→e.on≠i:=fun e he hb heq=>by
   have h1:=hall e he hb
   rw[heq,getD_both hun]at h1;cases h1
  have h2:=qOp_put hoj (free j oj hoj e hjun hno) (fun cs b=>hsel i oi cs b hi) (fun cs b=>hsel j oj cs b hoj) hy (H.2 j (ready_mono hj e)).2
  refine qOp_mono (fun a' h3=>ih _ a' (inv.set hj hjn) (fun k ok hk hki hu hn2=>free k ok hk hki ?_ hn2) (ready_mono hr (Ne.symm e)) h3.1 ?_) h2
  ·by_cases hjk:j=k
   ·subst hjk;exact hjun
   ·rw[getD_set_ne true hjk]at hu;exact hu
  ·rw[Array.setIfInBounds_comm _ _ e];exact h3.2
theorem ae8{n g:Nat}{Qa:Act→Prop}(hsel:Region.noSelect ops=true)(hs:Region.sinkB md ops n=true)(hc:Region.chainB md ops n=true)(hn:n<ops.size):
 ∀(l:List Oper) (k:Nat) (listed:Array Bool) (a:Act),(∀j,j<l.length→l[j]? =ops[k+j]?)→k+l.length=n→HeadInv md ops n listed→
 Region.lexHead md ops g l.length k listed=true→wpQuiet P ops C Qa l a→Xw P md ops C n (fun li a'=>Region.seqB md ops g n li=true∧Qa a') l.length listed a
 | [],k,listed,a,_,hk,_,hB,h=>by
  obtain rfl:k=n:=by simpa using hk
  exact⟨by simpa [Region.lexHead]using hB,h⟩
 |o::l,k,listed,a,hl,hk,inv,hB,h=>by
  have h0:ops[k]? =some o:=by simpa using(hl 0 J).symm
  simp only[Es,Region.lexHead,FQ]at hB
  have hkn:k<n:=by simp only[Es]at hk;omega
  have hr:k∈Region.ready md ops listed:=by simpa using hB.1.1
  obtain⟨v,hy,hK⟩:=yieldsIn_of_qOp h0 (show qOp P ops C k (wpQuiet P ops C Qa l) a by unfold qOp;simp only[h0];exact h)
  refine ag0 h0 (Region.noSelect_spec hsel) hs hc hn hkn (fun li a' hM=>seqB_ready hM.1) l.length listed a inv (Region.free_spec h0 hB.1.2) hr hy ?_
  exact ae8 hsel hs hc hn l (k+1) _ _ (fun j hj=>by have:=hl (j+1) Am;simpa [IZ,XK 1 j]using this) (by simp only[Es]at hk;omega) (inv.set hr hkn) hB.2 hK
theorem afv{id:Nat}{Q:Exit→Act→World→Prop}{a:Act}{w:World}{l:List Oper}(n:Nat)(hm:P.follows .mixedOrders=true)(hB:Region.lexTailB .any l.toArray n=true)(hC:C w.drew)
 (h:wpQuiet P l.toArray C (fun a'=>∀w',C w'→wpList P l.toArray Q (l.drop n) a' w') (l.take n) a):(Code.region id l.toArray true).wp P Q a w:=by
 simp only[Region.lexTailB,FQ,decide_eq_true_eq]at hB
 obtain⟨⟨⟨⟨hsel,hn⟩,hs⟩,hc⟩,hlex⟩:=hB
 have hn':n<l.length:=by simpa using hn
 have htl:(l.take n).length=n:=by simp;omega
 have hdl:(l.drop n).length=l.toArray.size-n:=by simp
 have inv0:HeadInv .any l.toArray n (Array.replicate l.toArray.size false):=
  ⟨J,fun j oj _ hl=>(by rw[getD_replicate_false]at hl;cases hl),fun t _ ht=>getD_in (by simpa using ht) (getD_replicate_false _ _)⟩
 have H:=ae8 (md:= .any) (g:=l.toArray.size-n) hsel hs hc hn (l.take n) 0 _ a (fun j hj=>by
  rw[htl]at hj;simp[hj]) (by simpa using htl) inv0 (by rw[htl];exact hlex) h
 refine wp_region_any hm ?_
 have H2:=ae5 (Q:=Q) (g:=l.toArray.size-n) (fun listed a' hL w' hw'=>by
  have:=wpAny_of_seq (md:= .any) (Q':=Q) (l.drop n) n listed a' w' (fun j=>by simp[EW]) (by rw[hdl];exact hL.1) (hL.2 w' hw')
  rwa [hdl]at this) _ _ _ _ hC H
 rw[htl,show n+(l.toArray.size-n)=l.toArray.size by omega]at H2
 exact H2
end
theorem Qn{P:Program}{ops:Array Oper}{C:World→Prop}{Q Q':Act→Prop}(hq:∀a,Q a→Q' a):∀(l:List Oper) (a:Act),wpQuiet P ops C Q l a→wpQuiet P ops C Q' l a
 | [],a,h=>hq a h
 |o::l,a,h=>by
  unfold wpQuiet at*
  split
  ·rename_i hw;rw[if_pos hw]at h;exact Oper.quiet_mono (Qn hq l) h
  ·rename_i hw;rw[if_neg hw]at h;exact Qn hq l _ h
section
variable{P:Program}{ops:Array Oper}{rest l:List Oper}{n:Sz}{k id:Nat}{f:Nat→Value}{W w0:World}{F:List Nat}{L:List FU}{Q:Exit→Act→World→Prop}{a:Act}{v:Value}{o:Oper}{Qa:Act→Prop}{C:World→Prop}
structure QL (P:Program) (ops:Array Oper) (C:World→Prop) (Qa:(Nat→Value)→Prop) (l:List Oper) (n:Sz) (f:Nat→Value):Prop where
 out:wpQuiet P ops C (fun a=>∃f',a=Fn n f'∧Qa f') l (Fn n f)
theorem k_q(hm:P.follows .mixedOrders=true)(hB:Region.lexB .any l.toArray=true)(H:Heap w0 F L W)
 (h:QL P l.toArray (fun W=>Heap w0 F L W) (fun f'=>∀W',Heap w0 F L W'→PQ Q .normal n f' W') l n f):CW P (Code.region id l.toArray true) Q n f W:=
 .alone rfl (wp_region_quiet hm hB H.drew (by
  refine Qn ?_ _ _ (by simpa using h.out)
  rintro a ⟨f',rfl,h2⟩ W' hW'
  exact(h2 W' hW').out))
theorem XT(m:Nat){l1 l2:List Oper}(hm:P.follows .mixedOrders=true)(hB:Region.lexTailB .any l.toArray m=true)(H:Heap w0 F L W)(h1:l.take m=l1)(h2:l.drop m=l2)
 (h:QL P l.toArray (fun W=>Heap w0 F L W) (fun f'=>∀W',Heap w0 F L W'→SL P l.toArray Q l2 n f' W') l1 n f):CW P (Code.region id l.toArray true) Q n f W:=
 .alone rfl (afv m hm hB H.drew (by
  rw[h1,h2]
  refine Qn ?_ _ _ h.out
  rintro a ⟨f',rfl,h3⟩ W' hW'
  exact(h3 W' hW').out))
theorem Iy{Qa:(Nat→Value)→Prop}(h:Qa f):QL P ops C Qa [] n f:=⟨⟨f,rfl,h⟩⟩
theorem ab8{Qa:(Nat→Value)→Prop}(hd:o.dst=some k)(hw:Region.wanted o (yl n f ops)=true)(hr:∀W,C W→(execOp (ev n f) o).run P W= .ok (.value v) W)(h:QL P ops C Qa rest n (upd f k v)):QL P ops C Qa (o::rest) n f:=by
 constructor
 have hy:yielded ops (Fn n f).tmps=yl n f ops:=funext (Ri n f ops)
 unfold wpQuiet
 rw[hy,if_pos hw]
 refine⟨v,fun W hW=>?_,by rw[hd,NV];exact h.out⟩
 unfold Oper.quietAt
 rw[JC,hr W hW]
 exact⟨rfl,rfl⟩
theorem JZ{Qa:(Nat→Value)→Prop}(hd:o.dst=some k)(hw:Region.wanted o (yl n f ops)=false)(h:QL P ops C Qa rest n (upd f k undef)):QL P ops C Qa (o::rest) n f:=by
 constructor
 have hy:yielded ops (Fn n f).tmps=yl n f ops:=funext (Ri n f ops)
 unfold wpQuiet
 rw[hy,hw,hd,NV]
 exact h.out
theorem LH{Qa:(Nat→Value)→Prop}{fn:FuncId}{vs:List Value}(hd:o.dst=some k)(hw:Region.wanted o (yl n f ops)=true)(hc:∀W,Heap w0 F L W→Calls P fn vs.toArray W (fun e w'=>e= .returned v∧Only [] W w'))(hrun:∀W,(execOp (ev n f) o).run P W= .ok (.enter fn vs.toArray) W)
 (h:QL P ops (fun W=>Heap w0 F L W) Qa rest n (upd f k v)):QL P ops (fun W=>Heap w0 F L W) Qa (o::rest) n f:=by
 constructor
 have hy:yielded ops (Fn n f).tmps=yl n f ops:=funext (Ri n f ops)
 unfold wpQuiet
 rw[hy,if_pos hw]
 refine⟨v,fun W hW=>?_,by rw[hd,NV];exact h.out⟩
 unfold Oper.quietAt
 rw[JC,hrun W]
 exact⟨rfl,(hc W hW).mono fun e w' h2=>⟨h2.1,hW.same h2.2⟩⟩
end
end
end
section
section
open Go.RowKit
structure Inf (P:Program) (e:TypeId) (z:Value) (size bytes:Nat):Prop where
 ex:∃i,P.info? e=some i∧i.zero=some z∧i.size=size∧i.bytes=bytes
theorem KU{P:Program}{e:TypeId}{z:Value}{size bytes:Nat}(h:(P.info? e).map (fun i=>(i.zero,i.size,i.bytes))=some (some z,size,bytes)):Inf P e z size bytes:=by
 cases hi:P.info? e with
 |none=>rw[hi]at h;simp at h
 |some i=>rw[hi]at h;simp at h;exact⟨i,hi,h.1,h.2.1,h.2.2⟩
section
variable{P:Program}{W w0:World}{F:List Nat}{L:List FU}
theorem TV(t ty e:TypeId){z:Value}{size bytes:Nat}(ht:P.underlying t=some (.slice e))(hi:Inf P e z size bytes)(hzs:z.cells.size=size)(hsz:0<size)
 (v:Value) (n:Nat) (xs:List Value) (hown:W.ownsRow 0 e size v n xs) (a:Addr) (m c:Nat) (news:List Value) (hl:news.length=m*size) (hnews:∀j u,news[j]? =some u→W.cell? (a.add j)=some u) (h1:∀u∈news,u.oneCell'=true)
 (h63:n+m≤maxLen) (hbytes:(n+m)*bytes≤140737488355328):
 ∃v' W',(Builtin.append_ #[t,t] ty #[v,.slice (some a) m c]).run P W= .ok v' W'∧W'.ownsRow 0 e size v' (n+m) (xs++news)∧W.grownBy W' v.ownBlock∧(∀k,v'.ownBlock=some k→v.ownBlock=some k∨W.heap.size≤k):=by
 obtain⟨i,hi,hz,hs,hb⟩:=hi.ex
 obtain⟨v',W',hr,h2,h3,_⟩:=run_append_own (P:=P) W 0 t ty e i z size bytes ht hi hz hs hb hzs hsz v n xs hown a m c news hl hnews h1 h63 hbytes (Jh _)
 refine⟨v',W',hr,h2,h3,?_⟩
 rcases hown.2 with⟨rfl,rfl⟩|⟨g,cap,cur,rfl,_,hg,hnc,hcm,hcs,htake⟩
 ·obtain rfl:xs=[]:=DU (by simpa using hown.1)
  obtain⟨v2,W2,hr2,h22,_,_⟩:=run_append_own (P:=P) W W.heap.size t ty e i z size bytes ht hi hz hs hb hzs hsz (.slice none 0 0) 0 [] (World.ownsRow_nil W _ e size) a m c news hl hnews h1 h63 hbytes (BF _)
  rw[hr]at hr2
  injection hr2 with e1 e2
  subst e1;subst e2
  exact fun k hk=> .inr (h22.lt k hk).1
 ·by_cases hroom:n+m≤cap
  ·have hfit:n*i.size+news.length≤cur.size:=by rw[hl,hcs,hs,←Nat.add_mul];exact MK _ hroom
   have hr2:=run_append_room (P:=P) W t ty e i ht hi g n cap cur hg a m c news (by rw[hs];exact hl) hnews h1 hroom hfit
   rw[hr]at hr2
   injection hr2 with e1 e2
   subst e1
   exact fun k hk=> .inl hk
  ·obtain⟨v2,W2,hr2,h22,_⟩:=run_append_arg_grows (P:=P) W t ty e i z size bytes ht hi hz hs hb hzs hsz ⟨g,0,none⟩ n cap xs hown.1 (hown.cells (g:=g) rfl) a m c news hl hnews Y h63 hbytes
   rw[hr]at hr2
   injection hr2 with e1 e2
   subst e1;subst e2
   exact fun k hk=> .inr (h22.lt k hk).1
def Ec(size:Nat)(v:Value)(n:Nat)(xs:List Value)(T:TypeId):FU:=
 ⟨v.ownBlock.toList,fun W=>W.ownsRow 0 T size v n xs,by
  intro W h i hi
  exact(h.lt i zZ).2,by
  intro W W' h hk
  refine⟨hk.1,?_⟩
  rcases hk.2 with h1|⟨g,cap,cur,rfl,hg,hh,r⟩
  ·exact .inl h1
  ·refine .inr ⟨g,cap,cur,rfl,hg,?_,r⟩
   rw[h g (by simp[Value.ownBlock])];exact hh⟩
theorem akd(o:Option Nat):(o.toList).Nodup:=by cases o<;>simp
theorem Heap.app{size n m:Nat}{v v':Value}{xs news:List Value}{T:TypeId}{W':World}(H:Heap w0 F L W)(j:Nat)(hj:L[j]? =some (Ec size v n xs T))(h1:W'.ownsRow 0 T size v' (n+m) (xs++news))(h2:W.grownBy W' v.ownBlock)
 (h3:∀k,v'.ownBlock=some k→v.ownBlock=some k∨W.heap.size≤k):Heap w0 F (L.set j (Ec size v' (n+m) (xs++news) T)) W':=by
 refine H.at j hj (F':=v.ownBlock.toList) ⟨?_,?_,?_,?_⟩ (fun i hi=>hi)
 ·intro E hE;rw[Bz.1 hE];exact h1
 ·simp only[ids,Ec,LW,Nj,Dl];exact akd _
 ·intro i hi
  simp only[ids,Ec,LW,Nj,Dl,Option.mem_toList]at hi
  rcases h3 i hi with h|h
  ·left;simpa using h
  ·exact .inr h
 ·exact⟨h2.os,h2.tape,h2.output,h2.size,fun k hk hf=>h2.block k hk (by intro e;apply hf;rw[←e];simp)⟩
theorem Heap.JE{size n:Nat}{v:Value}{xs:List Value}{T:TypeId}(H:Heap w0 F L W)(j:Nat)(hj:L[j]? =some (Ec size v n xs T)):W.ownsRow 0 T size v n xs:=H.ok _ (BP hj)
theorem Heap.Kr(H:Heap w0 F L W)(size:Nat)(T:TypeId):Heap w0 F (Ec size (.slice none 0 0) 0 [] T::L) W:=by
 refine Heap.more (A:=[Ec size (.slice none 0 0) 0 [] T]) H ⟨?_,by simp[ids,Ec,Value.ownBlock],by simp[ids,Ec,Value.ownBlock],Only.refl _ _⟩
 intro E hE;rw[Bz.1 hE];exact World.ownsRow_nil W 0 T size
theorem aib{α:Type}{enc:α→Value}{v:Value}{n:Nat}{xs:List α}{T:TypeId}(H:Heap w0 F (Ec 1 v n (xs.map enc) T::L) W)(hn:0<n):
 ∃b c,v= .slice (some ⟨b,0,none⟩) n c∧n≤c∧c≤maxLen∧Heap w0 F (vec enc b xs T::L) W:=by
 have ho:=H.JE 0 rfl
 rcases ho.2 with⟨_,h0⟩|⟨g,cap,cur,rfl,_,hg,hnc,hcm,hcs,ht⟩
 ·omega
 ·refine⟨g,cap,rfl,hnc,hcm,?_⟩
  have hlen:xs.length=n:=by have:=ho.1;simpa using this
  refine Heap.step (A:=[Ec 1 (.slice (some ⟨g,0,none⟩) n cap) n (xs.map enc) T]) (A':=[vec enc g xs T]) (F':=[g]) H ⟨?_,?_,?_,Only.refl _ _⟩ (by simp[ids,Ec,Value.ownBlock])
  ·intro E hE
   rw[Bz.1 hE]
   intro _
   refine⟨cur.toList.drop n,?_⟩
   rw[hg]
   congr 2
   rw[←ht]
   simp
  ·simp[ids,vec];split<;>simp
  ·intro i hi;simp[ids,vec]at hi;left;simp[hi.2]
theorem ab3(z:Value)(n:Nat)(h1:z.cells= #[z]):madeCells z.cells n=(List.replicate n z).toArray:=by
 apply JM
 intro i
 simp only[madeCells,h1,Array.getElem?_map,Array.getElem?_range,Fe,Ew]
 by_cases hi:i<n
 ·simp[hi,Nat.mod_one]
 ·simp[hi]
theorem Heap.made{α:Type}{enc:α→Value}(H:Heap w0 F L W)(n:Nat)(z:α)(T:TypeId):Heap w0 F (vec enc W.heap.size (List.replicate n z) T::L) (W.alloc (.cells (List.replicate n (enc z)).toArray T)):=
 anr enc _ _ [] T (H.alloc (List.replicate n (enc z)) T) J
theorem Heap.ahr{α:Type}{enc:α→Value}(H:Heap w0 F L W)(j:Nat){b o:Nat}{xs ys:List α}{T:TypeId}(hj:L[j]? =some (vec enc b xs T))(h0:xs.length≠0)(hfit:o+ys.length≤xs.length){rest:List Value}(hr:W.heap[b]? =some (.cells (xs.map enc++rest).toArray T (0,0))):
 Heap w0 F (L.set j (vec enc b (xs.take o++(ys++xs.drop (o+ys.length))) T)) (W.setRow b (((xs.map enc++rest).take o++ys.map enc++(xs.map enc++rest).drop (o+(ys.map enc).length)).toArray)):=by
 have hl:(xs.take o++(ys++xs.drop (o+ys.length))).length=xs.length:=by simp;omega
 refine H.at j hj (F':=[b]) ⟨?_,?_,?_,?_⟩ (by simp[vec,h0])
 ·intro E hE
  rw[Bz.1 hE]
  intro _
  refine⟨rest,?_⟩
  rw[setRow_heap W b _ _ T _ hr]
  congr 2
  simp only[EY,Kw,List.map_drop,DL]
  rw[Py Am,PL Am]
  simp[EK]
 ·simp only[ids,vec,LW,Nj,Dl];split<;>simp
 ·intro i hi;simp only[ids,vec,LW,Nj,Dl,hl,h0,if_false]at hi;exact .inl hi
 ·exact⟨rfl,rfl,rfl,by simp[World.setRow],fun k _ hk=>setRow_other W b k _ zK⟩
end
section
variable{P:Program}{ops:Array Oper}{rest:List Oper}{n:Sz}{k k2:Nat}{f:Nat→Value}{W w0:World}{F:List Nat}{L:List FU}{Q:Exit→Act→World→Prop}{ty ty2:TypeId}{pos pos2:String}{af af2:Array Edge}{g:Option (Nat×Bool)}{x y s:Operand}{v u:Value}{t e:TypeId}
theorem Jz{α:Type}(enc:α→Value)(z:α){kl kc:IntKind}{a b:Int}(m:Nat){bytes:Nat}(H:Heap w0 F L W)(hw:Region.wanted ⟨some k,.makeSlice t x y,ty,pos,af,g⟩ (yl n f ops)=true)
 (hx:ev n f x= .int kl a) (hy:ev n f y= .int kc b) (ha:a=(m:Int)) (hb:b=(m:Int)) (hm:m*bytes≤140737488355328∧m≤9223372036854775807) (ht:P.underlying t=some (.slice e)) (hi:Inf P e (enc z) 1 bytes) (h1:(enc z).oneCell'=true)
 (h:∀p W',Heap w0 F (vec enc p (List.replicate m z) e::L) W'→SL P ops Q rest n (upd f k (.slice (some ⟨p,0,none⟩) m m)) W'):SL P ops Q (⟨some k,.makeSlice t x y,ty,pos,af,g⟩::rest) n f W:=by
 subst ha;subst hb
 obtain⟨i,hi,hz,hs,hby⟩:=hi.ex
 have hb':(i.bytes:Int)*(m:Int)≤281474976710656:=by
  have h2:((i.bytes*m:Nat):Int)≤281474976710656:=by rw[hby,Ld];omega
  rwa [Lm]at h2
 have hr:=run_make (P:=P) W t e i (enc z) ht hi hz kl kc m m Y (Px _) hb' Y
 simp only[BJ,hs,GY,ab3 _ _ (JL h1)]at hr
 exact Hu rfl hw (W':=W.alloc (.cells (List.replicate m (enc z)).toArray e)) Ai (h _ _ (H.made m z e))
theorem D9{cs:List Value}(H:Heap w0 F L W)(hw:Region.wanted ⟨some k,.box t x,ty,pos,af,g⟩ (yl n f ops)=true)(hx:ev n f x= .agg cs.toArray)
 (h:∀p W',Heap w0 F (blk p cs t::L) W'→SL P ops Q rest n (upd f k (.pointer (some ⟨p,0,none⟩))) W'):SL P ops Q (⟨some k,.box t x,ty,pos,af,g⟩::rest) n f W:=
 Hu rfl hw (W':=W.alloc (.cells cs.toArray t)) (by simp only[execOp,hx];rfl) (h _ _ (H.alloc cs t))
theorem WU(H:Heap w0 F L W)(hw:Region.wanted ⟨some k,.box t x,ty,pos,af,g⟩ (yl n f ops)=true)(hx:ev n f x=u)(h1:u.oneCell'=true)
 (h:∀p W',Heap w0 F (blk p [u] t::L) W'→SL P ops Q rest n (upd f k (.pointer (some ⟨p,0,none⟩))) W'):SL P ops Q (⟨some k,.box t x,ty,pos,af,g⟩::rest) n f W:=
 Hu rfl hw (W':=W.alloc (.cells [u].toArray t)) (by simp only[execOp,hx,Instr.box,newVar,JL h1];rfl) (h _ _ (H.alloc [u] t))
theorem RN{α:Type}{enc:α→Value}{z0:Value}{bytes m:Nat}{xs:List α}{z:α}(H:Heap w0 F L W)(j:Nat)(hj:L[j]? =some (Ec 1 v m (xs.map enc) e))
 (hw:Region.wanted ⟨some k,.buildSlice t 1 #[(0,x)],ty,pos,af,g⟩ (yl n f ops)=true) (hx:ev n f x=enc z) (h1:(enc z).oneCell'=true)
 (hw2:Region.wanted ⟨some k2,.call ⟨.builtin .append,#[s,.tmp k],#[t,t]⟩,ty2,pos2,af2,g⟩ (yl n (upd f k (.slice (some ⟨W.heap.size,0,none⟩) 1 1)) ops)=true) (hs:ev n (upd f k (.slice (some ⟨W.heap.size,0,none⟩) 1 1)) s=v) (hk:Nat.blt k n.n=true)
 (hm:m+1≤100000000000∧(m+1)*bytes≤140737488355328) (ht:P.underlying t=some (.slice e)) (hi:Inf P e z0 1 bytes) (hz:z0.oneCell'=true)
 (h:∀q A c W',Heap w0 F (L.set j (Ec 1 (.slice A (m+1) c) (m+1) ((xs++ [z]).map enc) e)) W'→SL P ops Q rest n (upd (upd f k q) k2 (.slice A (m+1) c)) W'):
 SL P ops Q (⟨some k,.buildSlice t 1 #[(0,x)],ty,pos,af,g⟩::⟨some k2,.call ⟨.builtin .append,#[s,.tmp k],#[t,t]⟩,ty2,pos2,af2,g⟩::rest) n f W:=by
 obtain⟨i,hi0,hz0,hsz,hby⟩:=hi.ex
 have hu:=JL h1
 have r1:(Instr.buildSlice t 1 #[(0,enc z)]).run P W= .ok (.slice (some ⟨W.heap.size,0,none⟩) 1 1) (W.alloc (.cells [enc z].toArray e)):=by
  have hrg:Array.range 1= #[0]:=rfl
  simp[Instr.buildSlice,run_underlying ht,Go.sizeOf,typeInfo,hi0,hsz,zeroValue,hz0,JL hz,Instr.fill,hu,newRow,hrg]
 refine Hu O hw (W':=W.alloc (.cells [enc z].toArray e)) (v:= .slice (some ⟨W.heap.size,0,none⟩) 1 1) zQ ?_
 have H2:=H.alloc [enc z] e
 obtain⟨v',W2,hr,o1,o2,o3⟩:=TV (P:=P) t ty2 e ht hi (by simp[JL hz]) Y v m (xs.map enc) (H2.JE (j+1) zN) ⟨W.heap.size,0,none⟩ 1 1 [enc z] rfl
  (fun q u hq=>by
   rw[add_plain]
   have hc:=(Heap.OC H2 0 rfl)
   rw[Joins.cell_of_block hc]
   simpa using hq) (by simpa using h1) Ac hm.2
 have H3:=(H2.app (j+1) zN (m:=1) o1 o2 o3)
 rw[Bd]at H3
 obtain⟨A',c',rfl⟩:∃A c,v'= .slice A (m+1) c:=by
  rcases o1.2 with⟨rfl,h0⟩|⟨g,cap,cur,rfl,_⟩
  ·omega
  ·exact⟨_,_,rfl⟩
 have hkk:ev n (upd f k (.slice (some ⟨W.heap.size,0,none⟩) 1 1)) (.tmp k)= .slice (some ⟨W.heap.size,0,none⟩) 1 1:=by simp[ev,hk,upd]
 refine Hu O hw2 (W':=W2) (v:= .slice A' (m+1) c') (by
  simp only[execOp,resolve,invoke,builtin,Fj,DJ,Ef,hs,hkk,Sem.run_bind,Sem.run_pure,Result.andThen_ok,hr]) (h _ A' c' W2 ?_)
 have H4:=H3.drop
 rwa [EY]
theorem au0{α:Type}{enc:α→Value}{dst src:Operand}{t1:TypeId}{p o q r l c1 c2:Nat}{xs ys:List α}{T T2:TypeId}(H:Heap w0 F L W)(j i:Nat)(hw:Region.wanted ⟨some k,.call ⟨.builtin .copy,#[dst,src],#[t,t1]⟩,ty,pos,af,g⟩ (yl n f ops)=true)
 (hd:ev n f dst= .slice (some ⟨p,o,none⟩) l c1) (hs:ev n f src= .slice (some ⟨q,r,none⟩) l c2) (hj:L[j]? =some (vec enc p xs T)) (hi:L[i]? =some (vec enc q ys T2)) (h1:∀z,(enc z).oneCell'=true)
 (hfit:o+l≤xs.length∧r+l≤ys.length∧0<l) (ht:P.underlying t=some (.slice e)) {z0:Value} {bytes:Nat} (hin:Inf P e z0 1 bytes)
 (h:∀W',Heap w0 F (L.set j (vec enc p (xs.take o++((ys.drop r).take l++xs.drop (o+l))) T)) W'→SL P ops Q rest n (upd f k (.int .i64 l)) W'):SL P ops Q (⟨some k,.call ⟨.builtin .copy,#[dst,src],#[t,t1]⟩,ty,pos,af,g⟩::rest) n f W:=by
 obtain⟨rs,hr⟩:=H.RH j hj Y
 obtain⟨rs2,hr2⟩:=H.RH i hi Y
 obtain⟨ii,hii,_,hsz,_⟩:=hin.ex
 have hlen:((ys.drop r).take l).length=l:=by simp;omega
 have hrun:=run_copy_row (P:=P) W t t1 ty e p o l c1 ⟨q,r,none⟩ l c2 _ T (((ys.drop r).take l).map enc) ht (by simp[hii,hsz]) hr (by rw[DL,hlen];simp)
  (fun a u ha=>by
   rw[add_plain]
   rw[Cb]at ha
   cases hz:((ys.drop r).take l)[a]? with
   |none=>rw[hz]at ha;simp at ha
   |some z=>
    rw[hz]at ha
    have hal:a<l:=by have:=(BK.1 hz).1;omega
    rw[ES hal,EW]at hz
    rw[Yl hr2 hz];simpa using ha) (by simp only[DL,hlen,Jq,Cj];omega) (by
   intro u hu
   obtain⟨z,_,rfl⟩:=DN.1 hu
   exact h1 z)
 have H2:=H.ahr j hj (o:=o) (ys:=(ys.drop r).take l) Y (by rw[hlen];omega) hr
 simp only[DL,hlen]at hrun H2
 exact Hu rfl hw zX (h _ H2)
theorem FI{parts:Array (Nat×Operand)}{vs:List (Nat×Value)}{cs:List Value}{dst:Option Tmp}(hb:∀W,(Instr.build t vs.toArray).run P W= .ok (.agg cs.toArray) W)(hv:parts.toList.map (fun p=>(p.1,ev n f p.2))=vs):
 (execOp (ev n f) ⟨dst,.build t parts,ty,pos,af,g⟩).run P W= .ok (.value (.agg cs.toArray)) W:=by
 subst hv
 have h3:(parts.map fun p=>(p.1,ev n f p.2))=(parts.toList.map (fun p=>(p.1,ev n f p.2))).toArray:=by rw[←Ie]
 have h4:(parts.map fun|(i,x)=>(i,ev n f x))=(parts.toList.map (fun p=>(p.1,ev n f p.2))).toArray:=h3
 simp only[execOp,Sem.run_bind]
 rw[h4,hb,Result.andThen_ok];rfl
end
section
variable{P:Program}{ops:Array Oper}{l:List Oper}{n:Sz}{k id fuel:Nat}{f:Nat→Value}{W:World}{Q:Exit→Act→World→Prop}{v:Value}{o:Oper}{S:World→Prop}{listed:Array Bool}
theorem Gl{c:Code}(R:(Nat→Value)→World→Prop)(h1:CW P c (fun e a W=>e= .normal∧∃f',a=Fn n f'∧R f' W) n f W)(h2:∀f' W',R f' W'→PQ Q .normal n f' W'):CW P c Q n f W:=
 ⟨Code.wp_mono zG h1.out,fun ho l0 m=>Code.wpIn_mono zG (h1.inr ho l0 m)⟩
theorem Dp{R:(Nat→Value)→World→Prop}(h:R f W):PQ (fun e a W=>e= .normal∧∃f',a=Fn n f'∧R f' W) .normal n f W:=⟨rfl,f,rfl,h⟩
theorem Heap.tree{w0 W:World}{F:List Nat}{L:List FU}(h:Heap w0 F L W):Heap W [] [] W.drew:=(Heap.nil W).drew
structure TR (P:Program) (ops:Array Oper) (Q:Exit→Act→World→Prop) (S:World→Prop) (fuel:Nat) (listed:Array Bool) (n:Sz) (f:Nat→Value) (W:World):Prop where
 out:wpAnyH P .any ops Q S fuel listed (Fn n f) W
theorem axA(hm:P.follows .mixedOrders=true)(h:TR P l.toArray Q (fun W'=>Only [] W W') l.length (Array.replicate l.length false) n f W.drew):CW P (Code.region id l.toArray true) Q n f W:=
 .alone rfl (wp_region_held hm h.out)
theorem G5(hm:P.follows .mixedOrders=true)(h:TR P l.toArray Q (fun _=>True) l.length (Array.replicate l.length false) n f W.drew):CW P (Code.region id l.toArray true) Q n f W:=
 .alone rfl (wp_region_held hm h.out)
theorem amD(i:Nat)(hi:ops[i]? =some o)(hs:Region.noSelect ops=true)(hf:Region.free .any ops listed i=true)(hr:(Region.ready .any ops listed).contains i=true)(hd:o.dst=some k)
 (hQ:∀c a w v,Q (.panic c) (a.put o.dst v) w→Q (.panic c) a w) (hw:Region.wanted o (yl n f ops)=true) (hv:∀W,S W→(execOp (ev n f) o).run P W= .ok (.value v) W) (hS:S W)
 (h:TR P ops Q S fuel (listed.setIfInBounds i true) n (upd f k v) W):TR P ops Q S (fuel+1) listed n f W:=by
 have hy:yielded ops (Fn n f).tmps=yl n f ops:=funext (Ri n f ops)
 refine⟨wpAnyH_take (v:=v) hi hs hf hr (fun c a w=>hQ c a w v) (Or.inl ⟨by rw[hy];exact hw,fun W' hW'=>by rw[JC];exact hv W' hW'⟩) hS ?_⟩
 rw[hd,NV];exact h.out
theorem aqa(i:Nat)(hi:ops[i]? =some o)(hs:Region.noSelect ops=true)(hf:Region.free .any ops listed i=true)(hr:(Region.ready .any ops listed).contains i=true)(hd:o.dst=some k)
 (hQ:∀c a w v,Q (.panic c) (a.put o.dst v) w→Q (.panic c) a w) (hw:Region.wanted o (yl n f ops)=false) (hS:S W)
 (h:TR P ops Q S fuel (listed.setIfInBounds i true) n (upd f k undef) W):TR P ops Q S (fuel+1) listed n f W:=by
 have hy:yielded ops (Fn n f).tmps=yl n f ops:=funext (Ri n f ops)
 refine⟨wpAnyH_take (v:=undef) hi hs hf hr (fun c a w=>hQ c a w undef) (Or.inr ⟨by rw[hy];exact hw,rfl⟩) hS ?_⟩
 rw[hd,NV];exact h.out
def Up(P:Program)(ops:Array Oper)(Q:Exit→Act→World→Prop)(S:World→Prop)(fuel:Nat)(listed:Array Bool)(n:Sz)(f:Nat→Value)(W:World)(i:Nat):Prop:=
 wpOp P ops Q i (fun a' w'=>S w'∧wpAnyH P .any ops Q S fuel (listed.setIfInBounds i true) a' w') (Fn n f) W
theorem CB{i:Nat}(hi:ops[i]? =some o)(h:SL P ops (Exit.then (fun a' w'=>S w'∧wpAnyH P .any ops Q S fuel (listed.setIfInBounds i true) a' w') Q) [o] n f W):Up P ops Q S fuel listed n f W i:=by
 unfold Up wpOp
 rw[hi]
 have h2:=h.out
 unfold wpList at h2
 simp only
 split
 ·rename_i hw
  rw[if_pos hw]at h2
  rcases h2 with h2|h2
  ·refine .inl ?_
   unfold Oper.wp at h2⊢
   generalize(execOp (Fn n f).eval o).run P W=r at h2⊢
   cases r with
   |ok m w'=>
    cases m<;>simp only[Oper.upon]at h2⊢<;>first
     |exact h2
     |exact h2.mono (fun e w'' he=>by cases e<;>first|exact he|exact he)
     |exact h2.mono (fun _ _ he=>he)
   |halt x w'=>cases x<;>simp only[Oper.upon]at h2⊢<;>exact h2
  ·exact .inr ⟨h2.1,h2.2⟩
 ·rename_i hw
  rw[if_neg hw]at h2
  exact h2
theorem auM(i:Nat)(hr:Region.ready .any ops listed=[i])(h:Up P ops Q S fuel listed n f W i):TR P ops Q S (fuel+1) listed n f W:=
 ⟨wpAnyH_all hr J (fun j hj=>by
  obtain rfl:j=i:=by simpa using hj
  exact h)⟩
theorem auG(i i2:Nat)(hr:Region.ready .any ops listed=[i,i2])(h:Up P ops Q S fuel listed n f W i)(h2:Up P ops Q S fuel listed n f W i2):TR P ops Q S (fuel+1) listed n f W:=
 ⟨wpAnyH_all hr J (fun j hj=>by
  rcases Dh.1 hj with rfl|hj
  ·exact h
  ·obtain rfl:j=i2:=by simpa using hj
   exact h2)⟩
theorem Vw(i i2 i3:Nat)(hr:Region.ready .any ops listed=[i,i2,i3])(h:Up P ops Q S fuel listed n f W i)(h2:Up P ops Q S fuel listed n f W i2)(h3:Up P ops Q S fuel listed n f W i3):TR P ops Q S (fuel+1) listed n f W:=
 ⟨wpAnyH_all hr J (fun j hj=>by
  rcases Dh.1 hj with rfl|hj
  ·exact h
  ·rcases Dh.1 hj with rfl|hj
   ·exact h2
   ·obtain rfl:j=i3:=by simpa using hj
    exact h3)⟩
theorem atx(i i2 i3 i4:Nat)(hr:Region.ready .any ops listed=[i,i2,i3,i4])(h:Up P ops Q S fuel listed n f W i)(h2:Up P ops Q S fuel listed n f W i2)(h3:Up P ops Q S fuel listed n f W i3)(h4:Up P ops Q S fuel listed n f W i4):TR P ops Q S (fuel+1) listed n f W:=
 ⟨wpAnyH_all hr J (fun j hj=>by
  rcases Dh.1 hj with rfl|hj
  ·exact h
  ·rcases Dh.1 hj with rfl|hj
   ·exact h2
   ·rcases Dh.1 hj with rfl|hj
    ·exact h3
    ·obtain rfl:j=i4:=by simpa using hj
     exact h4)⟩
theorem BA{i:Nat}(hS:S W)(h:TR P ops Q S fuel (listed.setIfInBounds i true) n f W):PQ (Exit.then (fun a' w'=>S w'∧wpAnyH P .any ops Q S fuel (listed.setIfInBounds i true) a' w') Q) .normal n f W:=⟨hS,h.out⟩
theorem arQ(hr:Region.ready .any ops listed=[])(h:PQ Q .normal n f W):TR P ops Q S fuel listed n f W:=⟨wpAnyH_done hr h.out _⟩
end
end
end
section
section
open Go.RowKit
def Reads{α:Type}(enc:α→Value)(w:World)(b o:Nat)(xs:List α):Prop:=∀i z,xs[i]? =some z→w.cell? ⟨b,o+i,none⟩=some (enc z)
abbrev Cells(w:World)(b o:Nat)(xs:List Int)(k:IntKind):Prop:=Reads (Value.int k) w b o xs
theorem Heap.reads{α:Type}{enc:α→Value}{w0 W:World}{F:List Nat}{L:List FU}(H:Heap w0 F L W)(j:Nat){b:Nat}{xs:List α}{T:TypeId}(hj:L[j]? =some (vec enc b xs T))(o n:Nat):Reads enc W b o ((xs.drop o).take n):=by
 intro i z hz
 have hi:i<n:=by have:=(BK.1 hz).1;simp at this;omega
 rw[ES hi,EW]at hz
 have h0:xs.length≠0:=by have:=(BK.1 hz).1;omega
 obtain⟨rs,hr⟩:=H.RH j hj h0
 exact Yl hr hz
theorem Heap.MP{α:Type}{enc:α→Value}{w0 W:World}{F:List Nat}{L:List FU}(H:Heap w0 F L W)(j:Nat){b:Nat}{xs:List α}{T:TypeId}(hj:L[j]? =some (vec enc b xs T)):Reads enc W b 0 xs:=by
 have:=H.reads j hj 0 xs.length
 simpa using this
def I5{α:Type}(enc:α→Value)(w:World)(F:List Nat)(A:Option Addr)(xs:List α):Prop:=xs.length≠0→∃b o,A=some ⟨b,o,none⟩∧b∉F∧Reads enc w b o xs
theorem I5.nil{α:Type}{enc:α→Value}{w:World}{F:List Nat}{A:Option Addr}:I5 enc w F A ([]:List α):=fun h=>absurd rfl h
theorem Reads.later{α:Type}{enc:α→Value}{w W:World}{F:List Nat}{b o:Nat}{xs:List α}(h:Reads enc w b o xs)(hO:Only F w W)(hb:b∉F):Reads enc W b o xs:=by
 intro i z hz
 have hc:=h i z hz
 rw[World.cell?_of_block (w:=w) (hO.block b (cell_lt hc) hb)];exact hc
theorem I5.later{α:Type}{enc:α→Value}{w W:World}{F G:List Nat}{A:Option Addr}{xs:List α}(h:I5 enc w F A xs)(hO:Only G w W)(hG:∀i∈G,i∈F):I5 enc W F A xs:=by
 intro h0
 obtain⟨b,o,e,hb,hr⟩:=h h0
 exact⟨b,o,e,hb,hr.later hO fun hm=>hb (hG b hm)⟩
theorem I5.mono{α:Type}{enc:α→Value}{w:World}{F G:List Nat}{A:Option Addr}{xs:List α}(h:I5 enc w F A xs)(hG:∀i∈G,i∈F):I5 enc w G A xs:=by
 intro h0
 obtain⟨b,o,e,hb,hr⟩:=h h0
 exact⟨b,o,e,fun hm=>hb (hG b hm),hr⟩
theorem I5.news{α:Type}{enc:α→Value}{w:World}{F G:List Nat}{A:Option Addr}{xs:List α}(h:I5 enc w F A xs)(hG:∀i∈G,i∈F∨w.heap.size≤i):I5 enc w G A xs:=by
 intro h0
 obtain⟨b,o,e,hb,hr⟩:=h h0
 refine⟨b,o,e,fun hm=>?_,hr⟩
 rcases hG b hm with h1|h1
 ·exact hb h1
 ·have:=cell_lt (hr 0 _ (Ba Y))
  simp at this;omega
theorem akL{α:Type}{enc:α→Value}{A:Option Addr}{n c:Nat}{xs:List α}{T:TypeId}{w0 W:World}{F:List Nat}{L:List FU}(H:Heap w0 F (Ec 1 (.slice A n c) n (xs.map enc) T::L) W):
 ∃b,(n≠0→A=some ⟨b,0,none⟩)∧Heap w0 F (vec enc b xs T::L) W:=by
 have hlen:xs.length=n:=by have:=(H.JE 0 rfl).1;simpa using this
 by_cases h0:0<n
 ·obtain⟨b,c2,e1,_,_,H2⟩:=aib H h0
  injection e1 with e4
  exact⟨b,fun _=>e4,H2⟩
 ·obtain rfl:n=0:=Y
  obtain rfl:xs=[]:=DU hlen
  refine⟨0,fun h=>absurd O h,?_⟩
  refine Heap.step (A:=[Ec 1 (.slice A 0 c) 0 ([].map enc) T]) (A':=[vec enc 0 [] T]) (F':=[]) H ⟨fun E hE=>?_,by simp[ids,vec],by simp[ids,vec],Only.refl _ _⟩ J
  rw[Bz.1 hE];exact fun h=>absurd rfl h
section
variable{P:Program}{n:Sz}{f:Nat→Value}{W:World}{dst:Option Tmp}{ty:TypeId}{pos:String}{af:Array Edge}{g:Option (Nat×Bool)}{x y:Operand}{k:IntKind}{a b:Int}{t t2 e:TypeId}
theorem ahN{p:Option Addr}{l c:Nat}(hx:ev n f x= .slice p l c)(hy:ev n f y= .slice none 0 0)(ht:P.underlying t=some (.slice e)):(execOp (ev n f) ⟨dst,.binOp .eql t x y t2,ty,pos,af,g⟩).run P W= .ok (.value (.bool p.isNone)) W:=by
 have h:∀d:Nat,(Op.equalIn (d+1) t (.slice p l c) (.slice none 0 0)).run P W= .ok p.isNone W:=fun d=>by
  cases p<;>simp[Op.equalIn,run_underlying ht]
 have h2:(binOp .eql t (.slice p l c) (.slice none 0 0)).run P W= .ok (.bool p.isNone) W:=by
  simp only[binOp]
  simp[Op.equal,Op.maxDepth,h 9999]
 have h3:(eqGuard .eql t x y (.slice p l c) (.slice none 0 0)).run P W= .ok () W:=by simp[eqGuard]
 simp only[execOp,hx,hy,Sem.run_bind,h3,h2,Result.andThen_ok];rfl
theorem agq{p:Addr}{l c:Nat}(hx:ev n f x= .slice (some p) l c)(hy:ev n f y= .slice none 0 0)(ht:P.underlying t=some (.slice e)):(execOp (ev n f) ⟨dst,.binOp .eql t x y t2,ty,pos,af,g⟩).run P W= .ok (.value (.bool false)) W:=ahN hx hy ht
theorem alP{l c:Nat}(hx:ev n f x= .slice none l c)(hy:ev n f y= .slice none 0 0)(ht:P.underlying t=some (.slice e)):(execOp (ev n f) ⟨dst,.binOp .eql t x y t2,ty,pos,af,g⟩).run P W= .ok (.value (.bool true)) W:=ahN hx hy ht
theorem ao8{p:Option Addr}(hx:ev n f x= .pointer p)(hy:ev n f y= .pointer none){d:TypeId}(ht:P.underlying t=some (.pointer d)):(execOp (ev n f) ⟨dst,.binOp .eql t x y t2,ty,pos,af,g⟩).run P W= .ok (.value (.bool p.isNone)) W:=by
 have h:∀d:Nat,(Op.equalIn (d+1) t (.pointer p) (.pointer none)).run P W= .ok p.isNone W:=fun d=>by
  cases p<;>simp[Op.equalIn,run_underlying ht]
 have h2:(binOp .eql t (.pointer p) (.pointer none)).run P W= .ok (.bool p.isNone) W:=by
  simp only[binOp]
  simp[Op.equal,Op.maxDepth,h 9999]
 have h3:(eqGuard .eql t x y (.pointer p) (.pointer none)).run P W= .ok () W:=by simp[eqGuard]
 simp only[execOp,hx,hy,Sem.run_bind,h3,h2,Result.andThen_ok];rfl
theorem aa8{p:Addr}(hx:ev n f x= .pointer (some p))(hy:ev n f y= .pointer none){d:TypeId}(ht:P.underlying t=some (.pointer d)):(execOp (ev n f) ⟨dst,.binOp .eql t x y t2,ty,pos,af,g⟩).run P W= .ok (.value (.bool false)) W:=ao8 hx hy ht
theorem alS{p:Option Addr}(hx:ev n f x= .pointer p)(hy:ev n f y= .pointer none){d:TypeId}(ht:P.underlying t=some (.pointer d)):(execOp (ev n f) ⟨dst,.binOp .neq t x y t2,ty,pos,af,g⟩).run P W= .ok (.value (.bool (!p.isNone))) W:=by
 have h:∀d:Nat,(Op.equalIn (d+1) t (.pointer p) (.pointer none)).run P W= .ok p.isNone W:=fun d=>by
  cases p<;>simp[Op.equalIn,run_underlying ht]
 have h2:(binOp .neq t (.pointer p) (.pointer none)).run P W= .ok (.bool (!p.isNone)) W:=by
  simp only[binOp]
  simp[Op.equal,Op.maxDepth,h 9999]
 have h3:(eqGuard .neq t x y (.pointer p) (.pointer none)).run P W= .ok () W:=by simp[eqGuard]
 simp only[execOp,hx,hy,Sem.run_bind,h3,h2,Result.andThen_ok];rfl
theorem Y1{p:Addr}(hx:ev n f x= .pointer (some p))(hy:ev n f y= .pointer none){d:TypeId}(ht:P.underlying t=some (.pointer d)):(execOp (ev n f) ⟨dst,.binOp .neq t x y t2,ty,pos,af,g⟩).run P W= .ok (.value (.bool true)) W:=alS hx hy ht
end
section
variable{P:Program}{ops:Array Oper}{rest:List Oper}{n:Sz}{k k2:Nat}{f:Nat→Value}{W w0:World}{F:List Nat}{L:List FU}{Q:Exit→Act→World→Prop}{ty ty2:TypeId}{pos pos2:String}{af af2:Array Edge}{g:Option (Nat×Bool)}{x y s:Operand}{v u:Value}{t e:TypeId}
theorem acy(size:Nat)(hs0:0<size){z0:Value}{bytes:Nat}(H:Heap w0 F L W)(hw:Region.wanted ⟨some k,.buildSlice t 0 #[],ty,pos,af,g⟩ (yl n f ops)=true)(ht:P.underlying t=some (.slice e))(hi:Inf P e z0 size bytes)
 (h:∀p W',Heap w0 F (Ec size (.slice (some ⟨p,0,none⟩) 0 0) 0 [] e::L) W'→SL P ops Q rest n (upd f k (.slice (some ⟨p,0,none⟩) 0 0)) W'):SL P ops Q (⟨some k,.buildSlice t 0 #[],ty,pos,af,g⟩::rest) n f W:=by
 obtain⟨i,hi0,hz0,hsz,hby⟩:=hi.ex
 have hrg:Array.range 0= #[]:=rfl
 have r1:(Instr.buildSlice t 0 #[]).run P W= .ok (.slice (some ⟨W.heap.size,0,none⟩) 0 0) (W.alloc (.cells #[] e)):=by
  simp[Instr.buildSlice,run_underlying ht,Go.sizeOf,typeInfo,hi0,Instr.fill,newRow,hrg]
 refine Hu O hw (W':=W.alloc (.cells #[] e)) (v:= .slice (some ⟨W.heap.size,0,none⟩) 0 0) (by simp only[execOp,Fj,Ef,Sem.run_bind,r1,Result.andThen_ok];rfl) (h _ _ ?_)
 refine H.more (A:=[Ec size (.slice (some ⟨W.heap.size,0,none⟩) 0 0) 0 [] e]) ⟨?_,by simp[ids,Ec,Value.ownBlock],by simp[ids,Ec,Value.ownBlock],Only.of_below ((Below.refl _ _).alloc (BF _) _) _⟩
 intro E hE;rw[Bz.1 hE]
 exact World.ownsRow_made W #[] 0 (Jh _) Ak J
theorem ak1{α:Type}{enc:α→Value}{z0:Value}{bytes m l c:Nat}{A:Option Addr}{xs zs:List α}(H:Heap w0 F L W)(j:Nat)(hj:L[j]? =some (Ec 1 v m (xs.map enc) e))
 (hw:Region.wanted ⟨some k,.call ⟨.builtin .append,#[s,y],#[t,t]⟩,ty,pos,af,g⟩ (yl n f ops)=true) (hs:ev n f s=v) (hy:ev n f y= .slice A l c) (hz:I5 enc w0 F A zs) (hl:zs.length=l) (h1:∀z,(enc z).oneCell'=true)
 (hm:m+l≤100000000000∧(m+l)*bytes≤140737488355328) (ht:P.underlying t=some (.slice e)) (hi:Inf P e z0 1 bytes) (hz0:z0.oneCell'=true)
 (h:∀A' c' W',(v≠ .slice none 0 0→∃b,A'=some ⟨b,0,none⟩)→Heap w0 F (L.set j (Ec 1 (.slice A' (m+l) c') (m+l) ((xs++zs).map enc) e)) W'→SL P ops Q rest n (upd f k (.slice A' (m+l) c')) W'):
 SL P ops Q (⟨some k,.call ⟨.builtin .append,#[s,y],#[t,t]⟩,ty,pos,af,g⟩::rest) n f W:=by
 have hown:=H.JE j hj
 obtain⟨i,hi0,hzz,hsz,hby⟩:=hi.ex
 have key:∃v' W',(Builtin.append_ #[t,t] ty #[v,.slice A l c]).run P W= .ok v' W'∧W'.ownsRow 0 e 1 v' (m+l) (xs.map enc++zs.map enc)∧W.grownBy W' v.ownBlock∧(∀k,v'.ownBlock=some k→v.ownBlock=some k∨W.heap.size≤k):=by
  cases A with
  |some p=>
   by_cases h0:zs.length=0
   ·obtain rfl:zs=[]:=DU h0
    obtain rfl:l=0:=by simpa using hl.symm
    exact TV (P:=P) t ty e ht hi (by simp[JL hz0]) Y v m (xs.map enc) hown p 0 c [] rfl (fun _ _ hq=>by simp at hq) J Ac hm.2
   ·obtain⟨q,r,e0,hq,hr⟩:=hz h0
    injection e0 with e0
    subst e0
    have hr2:=hr.later H.only hq
    refine TV (P:=P) t ty e ht hi (by simp[JL hz0]) Y v m (xs.map enc) hown ⟨q,r,none⟩ l c (zs.map enc) (by simp[hl]) (fun a u ha=>?_) (fun u hu=>?_) Ac hm.2
    ·rw[Cb]at ha
     cases hza:zs[a]? with
     |none=>rw[hza]at ha;simp at ha
     |some z=>rw[hza]at ha;rw[add_plain,hr2 a z hza];simpa using ha
    ·obtain⟨z,_,rfl⟩:=DN.1 hu;exact h1 z
  |none=>
   have h0:zs.length=0:=by
    rcases GV zs.length with h0|h0
    ·exact h0
    ·obtain⟨q,r,e0,_⟩:=hz Y;cases e0
   obtain rfl:zs=[]:=DU h0
   obtain rfl:l=0:=by simpa using hl.symm
   refine⟨v,W,?_,by simpa using hown,⟨rfl,rfl,rfl,BF _,fun _ _ _=>rfl⟩,fun k hk=> .inl hk⟩
   rcases hown.2 with⟨rfl,rfl⟩|⟨q,cap,cur,rfl,_,hg,hnc,_⟩
   ·simp[Builtin.append_,run_underlying ht,Go.sizeOf,typeInfo,hi0,Builtin.lenOf,Builtin.firstCells]
   ·simp[Builtin.append_,run_underlying ht,Go.sizeOf,typeInfo,hi0,Builtin.lenOf,Builtin.firstCells,hnc,storeCells]
 obtain⟨v',W2,hr,o1,o2,o3⟩:=key
 have H3:=H.app j hj (m:=l) o1 o2 o3
 rw[←EY]at H3
 obtain⟨A',c',rfl,hA'⟩:∃A' c',v'= .slice A' (m+l) c'∧(v≠ .slice none 0 0→∃b,A'=some ⟨b,0,none⟩):=by
  rcases o1.2 with⟨rfl,h0⟩|⟨q,cap,cur,rfl,_⟩
  ·refine⟨none,0,by rw[h0],fun hv=>?_⟩
   exfalso
   rcases hown.2 with⟨h2,_⟩|⟨q,cap,cur,rfl,_,hg,hnc,_⟩
   ·exact hv h2
   ·have h5:cap<m+l∨m+l≤cap:=Y
    have hm0:m=0:=Y
    have hl0:l=0:=Y
    subst hm0;subst hl0
    have hr2:(Builtin.append_ #[t,t] ty #[.slice (some ⟨q,0,none⟩) 0 cap,.slice A 0 c]).run P W= .ok (.slice (some ⟨q,0,none⟩) 0 cap) W:=by
     have hl2:∀(x:Addr),(loadCells x 0).run P W= .ok #[] W:=fun x=>by simpa using run_loadCells_list (P:=P) W x [] J
     cases A<;>simp[Builtin.append_,run_underlying ht,Go.sizeOf,typeInfo,hi0,Builtin.lenOf,Builtin.firstCells,storeCells,hl2]
    rw[hr]at hr2
    injection hr2 with e1 e2
    cases e1
  ·exact⟨_,cap,rfl,fun _=>⟨q,rfl⟩⟩
 exact Hu rfl hw (W':=W2) Af (h A' c' W2 hA' H3)
theorem apO{α:Type}{enc:α→Value}{dst:Operand}{t1:TypeId}{p o q r l c1 c2:Nat}{xs zs:List α}{T:TypeId}(H:Heap w0 F L W)(j:Nat)(hw:Region.wanted ⟨some k,.call ⟨.builtin .copy,#[dst,y],#[t,t1]⟩,ty,pos,af,g⟩ (yl n f ops)=true)
 (hd:ev n f dst= .slice (some ⟨p,o,none⟩) l c1) (hs:ev n f y= .slice (some ⟨q,r,none⟩) l c2) (hj:L[j]? =some (vec enc p xs T)) (hr:Reads enc w0 q r zs) (hq:q∉F) (hl:zs.length=l) (h1:∀z,(enc z).oneCell'=true)
 (hfit:o+l≤xs.length∧0<l) (ht:P.underlying t=some (.slice e)) {z0:Value} {bytes:Nat} (hin:Inf P e z0 1 bytes)
 (h:∀W',Heap w0 F (L.set j (vec enc p (xs.take o++(zs++xs.drop (o+l))) T)) W'→SL P ops Q rest n (upd f k (.int .i64 l)) W'):SL P ops Q (⟨some k,.call ⟨.builtin .copy,#[dst,y],#[t,t1]⟩,ty,pos,af,g⟩::rest) n f W:=by
 obtain⟨ii,hii,_,hsz,_⟩:=hin.ex
 have hr2:=hr.later H.only hq
 obtain⟨rs,hrs⟩:=H.RH j hj Y
 have hrun:=run_copy_row (P:=P) W t t1 ty e p o l c1 ⟨q,r,none⟩ l c2 _ T (zs.map enc) ht (by simp[hii,hsz]) hrs (by rw[DL,hl];simp)
  (fun a u ha=>by
   rw[Cb]at ha
   cases hza:zs[a]? with
   |none=>rw[hza]at ha;simp at ha
   |some z=>rw[hza]at ha;rw[add_plain,hr2 a z hza];simpa using ha) Am (fun u hu=>by
   obtain⟨z,_,rfl⟩:=DN.1 hu;exact h1 z)
 have H2:=H.ahr j hj (o:=o) (ys:=zs) Y Y hrs
 simp only[DL,hl]at hrun H2
 exact Hu rfl hw zX (h _ H2)
end
end
end
section
section
section
variable{P:Program}{ops:Array Oper}{l:List Oper}{n:Sz}{k id fuel:Nat}{f:Nat→Value}{W:World}{Q:Exit→Act→World→Prop}{v:Value}{o:Oper}{S:World→Prop}{listed:Array Bool}
theorem CZ(i:Nat)(hi:ops[i]? =some o)(hd:o.dst=some k)(hw:Region.wanted o (yl n f ops)=true)(hv:∀W,S W→(execOp (ev n f) o).run P W= .ok (.value v) W)(hS:S W)
 (h:TR P ops Q S fuel (listed.setIfInBounds i true) n (upd f k v) W)
 (hs:Region.noSelect ops=true:=by kernel_rfl) (hf:Region.free .any ops listed i=true:=by kernel_rfl) (hr:(Region.ready .any ops listed).contains i=true:=by kernel_rfl) (hQ:∀c a w v,Q (.panic c) (a.put o.dst v) w→Q (.panic c) a w:=by exact fun _ _ _ _ h=>nomatch h.1):TR P ops Q S (fuel+1) listed n f W:=
 amD i hi hs hf hr hd hQ hw hv hS h
theorem EC(i:Nat)(hi:ops[i]? =some o)(hd:o.dst=some k)(hw:Region.wanted o (yl n f ops)=true)(hv:∀W,S W→(execOp (ev n f) o).run P W= .ok (.value v) W)(hS:S W)
 (h:TR P ops Q S fuel (listed.setIfInBounds i true) n (upd f k v) W)
 (hs:Region.noSelect ops=true:=by kernel_rfl) (hf:Region.free .any ops listed i=true:=by kernel_rfl) (hr:(Region.ready .any ops listed).contains i=true:=by kernel_rfl) (hQ:∀c a w v,Q (.panic c) (a.put o.dst v) w→Q (.panic c) a w:=by exact fun _ _ _ _ h=>h):TR P ops Q S (fuel+1) listed n f W:=
 amD i hi hs hf hr hd hQ hw hv hS h
theorem ton(i:Nat)(hi:ops[i]? =some o)(hd:o.dst=some k)(hw:Region.wanted o (yl n f ops)=false)(hS:S W)
 (h:TR P ops Q S fuel (listed.setIfInBounds i true) n (upd f k undef) W)
 (hs:Region.noSelect ops=true:=by kernel_rfl) (hf:Region.free .any ops listed i=true:=by kernel_rfl) (hr:(Region.ready .any ops listed).contains i=true:=by kernel_rfl) (hQ:∀c a w v,Q (.panic c) (a.put o.dst v) w→Q (.panic c) a w:=by exact fun _ _ _ _ h=>nomatch h.1):TR P ops Q S (fuel+1) listed n f W:=
 aqa i hi hs hf hr hd hQ hw hS h
theorem ZQ(i:Nat)(hi:ops[i]? =some o)(hd:o.dst=some k)(hw:Region.wanted o (yl n f ops)=false)(hS:S W)
 (h:TR P ops Q S fuel (listed.setIfInBounds i true) n (upd f k undef) W)
 (hs:Region.noSelect ops=true:=by kernel_rfl) (hf:Region.free .any ops listed i=true:=by kernel_rfl) (hr:(Region.ready .any ops listed).contains i=true:=by kernel_rfl) (hQ:∀c a w v,Q (.panic c) (a.put o.dst v) w→Q (.panic c) a w:=by exact fun _ _ _ _ h=>h):TR P ops Q S (fuel+1) listed n f W:=
 aqa i hi hs hf hr hd hQ hw hS h
end
section
variable{α:Type _}{a x:α}{l m:List α}{i:Nat}
theorem jA:(x::l).set 0 a=a::l:=Bf
theorem jB:(x::l).set (i+1) a=x::l.set i a:=Bd
theorem jC:(x::l).take (i+1)=x::l.take i:=List.take_succ_cons
theorem jD:l.take 0=[]:=KJ
theorem jE:(x::l).drop (i+1)=l.drop i:=agC
theorem jF:l.drop 0=l:=abd
theorem jG:(x::l)++m=x::(l++m):=EL
theorem jH: []++l=l:=Ey l
theorem jI:l++ []=l:=Dl l
theorem jJ:(x::l).length=l.length+1:=Es
theorem jK:([]:List α).length=0:=Iu
theorem jL:(x::l).eraseIdx (i+1)=x::l.eraseIdx i:=FD
theorem jM:(x::l).eraseIdx 0=l:=FH
end
section
variable{P:Program}{Q:Exit→Act→World→Prop}{n:Sz}{f:Nat→Value}{W:World}{ops:Array Oper}
theorem AO{y:Code}(h:CW P y Q n f W):SL P ops (Exit.then (wpB P y Q) Q) [] n f W:=AZ (AX h)
theorem AP{y:Code}{id:Nat}{l:List Oper}(h:SL P l.toArray (Exit.then (wpB P y Q) Q) l n f W):CW P (Code.seq (Code.region id l.toArray false) y) Q n f W:=A8 (DF h)
end
section
variable{P:Program}{n:Sz}{f:Nat→Value}{W:World}{dst:Option Tmp}{ty:TypeId}{pos:String}{af:Array Edge}{g:Option (Nat×Bool)}{x y:Operand}{v u:Value}{k:IntKind}{a b c d:Int}{t t2 e:TypeId}
theorem Gm{kq:IntKind}{z:Int}(hx:ev n f x= .int kq z):(execOp (ev n f) ⟨dst,.move x,ty,pos,af,g⟩).run P W= .ok (.value (.int kq z)) W:=Cc hx
theorem Yq{bq:Bool}(hx:ev n f x= .bool bq):(execOp (ev n f) ⟨dst,.move x,ty,pos,af,g⟩).run P W= .ok (.value (.bool bq)) W:=Cc hx
theorem Ls{pq:Option Addr}(hx:ev n f x= .pointer pq):(execOp (ev n f) ⟨dst,.move x,ty,pos,af,g⟩).run P W= .ok (.value (.pointer pq)) W:=Cc hx
theorem rms{aq:Option Addr}{lq cq:Nat}(hx:ev n f x= .slice aq lq cq):(execOp (ev n f) ⟨dst,.move x,ty,pos,af,g⟩).run P W= .ok (.value (.slice aq lq cq)) W:=Cc hx
theorem rmt{tq:Array Value}(hx:ev n f x= .tuple tq):(execOp (ev n f) ⟨dst,.move x,ty,pos,af,g⟩).run P W= .ok (.value (.tuple tq)) W:=Cc hx
theorem rai{kq:IntKind}{z:Int}(hx:ev n f x= .int kq z):(execOp (ev n f) ⟨dst,.assign x,ty,pos,af,g⟩).run P W= .ok (.value (.int kq z)) W:=DK hx
theorem rab{bq:Bool}(hx:ev n f x= .bool bq):(execOp (ev n f) ⟨dst,.assign x,ty,pos,af,g⟩).run P W= .ok (.value (.bool bq)) W:=DK hx
theorem rap{pq:Option Addr}(hx:ev n f x= .pointer pq):(execOp (ev n f) ⟨dst,.assign x,ty,pos,af,g⟩).run P W= .ok (.value (.pointer pq)) W:=DK hx
theorem ras{aq:Option Addr}{lq cq:Nat}(hx:ev n f x= .slice aq lq cq):(execOp (ev n f) ⟨dst,.assign x,ty,pos,af,g⟩).run P W= .ok (.value (.slice aq lq cq)) W:=DK hx
theorem rat{tq:Array Value}(hx:ev n f x= .tuple tq):(execOp (ev n f) ⟨dst,.assign x,ty,pos,af,g⟩).run P W= .ok (.value (.tuple tq)) W:=DK hx
end
end
end
section
section
open Go.RowKit
section
variable{P:Program}{n:Sz}{f:Nat→Value}{W w0:World}{F:List Nat}{L:List FU}{dst:Option Tmp}{ty:TypeId}{pos:String}{af:Array Edge}{g:Option (Nat×Bool)}{x y:Operand}{v:Value}{k:IntKind}{a b:Int}{t t2 e T:TypeId}{p o m:Nat}{cs vs:List Value}
theorem Uk(h:W.heap[p]? =some (.cells cs.toArray T (0,0)))(hv:(cs.drop o).take m=vs)(hl:vs.length=m)(hagg:∀W,(isAgg t).run P W= .ok true W)(hsz:∀W,(Go.sizeOf t).run P W= .ok m W):(loadVar t ⟨p,o,none⟩).run P W= .ok (.agg vs.toArray) W:=by
 have hr:=run_loadCells_list (P:=P) W ⟨p,o,none⟩ vs (fun j u hj=>by
  rw[add_plain,Joins.cell_of_block h]
  subst hv
  have hjm:j<m:=by have:=(BK.1 hj).1;simp at this;omega
  rw[ES hjm,EW]at hj
  simpa using hj)
 simp only[loadVar,Sem.run_bind,hagg,Result.andThen_ok,if_true,hsz]
 rw[hl]at hr
 rw[hr];simp
theorem J5(H:Heap w0 F L W)(j:Nat)(hx:ev n f x= .pointer (some ⟨p,0,none⟩))(hj:L[j]? =some (blk p cs T))(hl:cs.length=m)(hagg:∀W,(isAgg t).run P W= .ok true W)(hsz:∀W,(Go.sizeOf t).run P W= .ok m W):
 (execOp (ev n f) ⟨dst,.load t x,ty,pos,af,g⟩).run P W= .ok (.value (.agg cs.toArray)) W:=by
 have h:=Uk (P:=P) (t:=t) (o:=0) (vs:=cs) (H.OC j hj) (by rw[←hl];simp) hl hagg hsz
 simp only[execOp,Instr.loadAt,hx,Instr.sureAddr,Sem.run_bind,Sem.run_pure,Result.andThen_ok,h]
theorem JY(H:Heap w0 F L W)(j:Nat)(hx:ev n f x= .pointer (some ⟨p,o,none⟩))(hj:L[j]? =some (blk p cs T))(hv:(cs.drop o).take m=vs)(hl:vs.length=m)(hagg:∀W,(isAgg t).run P W= .ok true W)(hsz:∀W,(Go.sizeOf t).run P W= .ok m W):
 (execOp (ev n f) ⟨dst,.load t x,ty,pos,af,g⟩).run P W= .ok (.value (.agg vs.toArray)) W:=by
 have h:=Uk (P:=P) (t:=t) (H.OC j hj) hv hl hagg hsz
 simp only[execOp,Instr.loadAt,hx,Instr.sureAddr,Sem.run_bind,Sem.run_pure,Result.andThen_ok,h]
theorem CQ{i:Nat}(hx:ev n f x= .tuple vs.toArray)(hv:vs[i]? =some v):(execOp (ev n f) ⟨dst,.extract x i,ty,pos,af,g⟩).run P W= .ok (.value v) W:=by
 have h:vs.toArray[i]? =some v:=by simpa using hv
 simp only[execOp,hx,Instr.extract,h,Sem.run_bind,Sem.run_pure,Result.andThen_ok]
theorem ar2{i l:Nat}(hx:ev n f x= .pointer (some ⟨p,o,none⟩))(hy:ev n f y= .int k a)(ha:a=(i:Int))(hi:i<l)(h:P.underlying t=some (.array l e))(hm:∀W,(Go.sizeOf e).run P W= .ok m W):
 (execOp (ev n f) ⟨dst,.indexAddr t x y,ty,pos,af,g⟩).run P W= .ok (.value (.pointer (some ⟨p,o+i*m,none⟩))) W:=by
 subst ha
 have h1:(0:Int)≤i∧(i:Int)<l:=Y
 simp only[execOp,Instr.indexAt,hx,hy,asIntOf,Instr.sureAddr,Sem.run_bind,run_underlying h,Result.andThen_ok,Sem.run_pure,h1,and_self,if_true,hm,BJ,add_plain]
theorem al9{c:Int}(hx:ev n f x= .int k a)(hy:ev n f y= .int k b)(hc:(if b<a then b else a)=c):(execOp (ev n f) ⟨dst,.call ⟨.builtin .min,#[x,y],#[t,t2]⟩,ty,pos,af,g⟩).run P W= .ok (.value (.int k c)) W:=by
 have h3: #[x,y].map (ev n f)= #[.int k a,.int k b]:=by simp[hx,hy]
 have h4:=run_min_int2 (P:=P) W #[t,t2] ty k k a b
 rw[hc]at h4
 simp only[execOp,resolve,invoke,builtin,h3,Sem.run_bind,Sem.run_pure,Result.andThen_ok,h4]
theorem Xr{c:Int}(hx:ev n f x= .int k a)(hy:ev n f y= .int k b)(hc:(if a<b then b else a)=c):(execOp (ev n f) ⟨dst,.call ⟨.builtin .max,#[x,y],#[t,t2]⟩,ty,pos,af,g⟩).run P W= .ok (.value (.int k c)) W:=by
 have h3: #[x,y].map (ev n f)= #[.int k a,.int k b]:=by simp[hx,hy]
 have h4:=run_max_int2 (P:=P) W #[t,t2] ty k k a b
 have h5:(if b>a then b else a)=c:=hc
 rw[h5]at h4
 simp only[execOp,resolve,invoke,builtin,h3,Sem.run_bind,Sem.run_pure,Result.andThen_ok,h4]
theorem agi{i l:Nat}(hx:ev n f x= .pointer (some ⟨p,o,none⟩))(hy:ev n f y= .int k a)(ha:a=(i:Int))(hi:i<l)(h:P.underlying t=some (.array l e))(hm:∀W,(Go.sizeOf e).run P W= .ok 1 W):
 (execOp (ev n f) ⟨dst,.indexAddr t x y,ty,pos,af,g⟩).run P W= .ok (.value (.pointer (some ⟨p,o+i,none⟩))) W:=by
 have:=ar2 (P:=P) (W:=W) (dst:=dst) (ty:=ty) (pos:=pos) (af:=af) (g:=g) hx hy ha hi h hm
 rw[this];simp
theorem Ot{i l:Nat}(hx:ev n f x= .pointer (some ⟨p,0,none⟩))(hy:ev n f y= .int k a)(ha:a=(i:Int))(hi:i<l)(h:P.underlying t=some (.array l e))(hm:∀W,(Go.sizeOf e).run P W= .ok 1 W):
 (execOp (ev n f) ⟨dst,.indexAddr t x y,ty,pos,af,g⟩).run P W= .ok (.value (.pointer (some ⟨p,i,none⟩))) W:=by
 have:=agi (P:=P) (W:=W) (dst:=dst) (ty:=ty) (pos:=pos) (af:=af) (g:=g) hx hy ha hi h hm
 rw[this];simp
theorem QX{l c:Nat}{i:Nat}(hx:ev n f x= .slice (some ⟨p,0,none⟩) l c)(hy:ev n f y= .int k a)(ha:a=(i:Int))(hi:i<l)(h:P.underlying t=some (.slice e))(hm:∀W,(Go.sizeOf e).run P W= .ok m W):
 (execOp (ev n f) ⟨dst,.indexAddr t x y,ty,pos,af,g⟩).run P W= .ok (.value (.pointer (some ⟨p,i*m,none⟩))) W:=by
 have:=OO (P:=P) (W:=W) (dst:=dst) (ty:=ty) (pos:=pos) (af:=af) (g:=g) hx hy ha hi h hm
 rw[this];simp
def RV(P:Program)(W:World)(n:Sz)(f:Nat→Value)(r:ResultVar)(v:Value):Prop:=
 match r with
 | .tmp t=>ev n f (.tmp t)=v
 | .cell a t=>∃q,ev n f (.tmp a)= .pointer (some q)∧(loadVar t q).run P W= .ok v W
theorem Jt{t:Nat}(h:ev n f (.tmp t)=v):RV P W n f (.tmp t) v:=h
theorem JB{q:Nat}(H:Heap w0 F L W)(j:Nat)(ha:ev n f (.tmp q)= .pointer (some ⟨p,0,none⟩))(hj:L[j]? =some (blk p cs T))(hl:cs.length=m)(hagg:∀W,(isAgg t).run P W= .ok true W)(hsz:∀W,(Go.sizeOf t).run P W= .ok m W):RV P W n f (.cell q t) (.agg cs.toArray):=
 ⟨_,ha,Uk (P:=P) (t:=t) (o:=0) (vs:=cs) (H.OC j hj) (by rw[←hl];simp) hl hagg hsz⟩
theorem afd(t:Nat):(Fn n f).tmps[t]?.getD undef=ev n f (.tmp t):=by rw[←Uu,Qo]
theorem VH(r:ResultVar)(h:RV P W n f r v):(∃t,r= .tmp t∧(Fn n f).tmps[t]?.getD undef=v)∨(∃a t q,r= .cell a t∧(Fn n f).tmps[a]?.getD undef= .pointer (some q)∧(loadVar t q).run P W= .ok v W):=by
 cases r with
 |tmp t=>exact .inl ⟨t,rfl,by rw[afd];exact h⟩
 |cell a t=>
  obtain⟨q,h1,h2⟩:=h
  exact .inr ⟨a,t,q,rfl,by rw[afd];exact h1,h2⟩
theorem Xe(q:Addr):(asAddr (.pointer (some q))).run P W= .ok q W:=rfl
theorem Xu{fn:Func}{r:ResultVar}(hr:fn.results= #[r])(h:RV P W n f r v):(results fn (Fn n f).tmps).run P W= .ok v W:=by
 rcases VH r h with⟨t,rfl,h1⟩|⟨a,t,q,rfl,h1,h2⟩<;>simp_all [results,hr,Sem.run_bind,Xe]
theorem aen{fn:Func}{r r2:ResultVar}{v2:Value}(hr:fn.results= #[r,r2])(h:RV P W n f r v)(h2:RV P W n f r2 v2):(results fn (Fn n f).tmps).run P W= .ok (.tuple #[v,v2]) W:=by
 rcases VH r h with⟨t,rfl,h1⟩|⟨a,t,q,rfl,h1,h1'⟩<;>rcases VH r2 h2 with⟨t2,rfl,h3⟩|⟨a2,t2,q2,rfl,h3,h3'⟩<;>simp_all [results,hr,Sem.run_bind,Xe]
theorem adN{fn:Func}{r r2 r3:ResultVar}{v2 v3:Value}(hr:fn.results= #[r,r2,r3])(h:RV P W n f r v)(h2:RV P W n f r2 v2)(h3:RV P W n f r3 v3):(results fn (Fn n f).tmps).run P W= .ok (.tuple #[v,v2,v3]) W:=by
 rcases VH r h with⟨t,rfl,h1⟩|⟨a,t,q,rfl,h1,h1'⟩<;>rcases VH r2 h2 with⟨t2,rfl,h4⟩|⟨a2,t2,q2,rfl,h4,h4'⟩<;>rcases VH r3 h3 with⟨t3,rfl,h5⟩|⟨a3,t3,q3,rfl,h5,h5'⟩<;>simp_all [results,hr,Sem.run_bind,Xe]
theorem abJ{fn:Func}{N:Nat}{R:Ending→World→Prop}{r:ResultVar}(hr:fn.results= #[r])(h:RV P W ⟨N,[]⟩ f r v)(hR:R (.returned v) W):PQ (bodyPost P fn R) .ret ⟨N,[]⟩ f W:=⟨bodyPost_ret (Xu hr h) rfl hR⟩
theorem ND{fn:Func}{N:Nat}{R:Ending→World→Prop}{r r2:ResultVar}{v2:Value}(hr:fn.results= #[r,r2])(h:RV P W ⟨N,[]⟩ f r v)(h2:RV P W ⟨N,[]⟩ f r2 v2)(hR:R (.returned (.tuple #[v,v2])) W):PQ (bodyPost P fn R) .ret ⟨N,[]⟩ f W:=⟨bodyPost_ret (aen hr h h2) rfl hR⟩
theorem ahD{fn:Func}{N:Nat}{R:Ending→World→Prop}{r r2 r3:ResultVar}{v2 v3:Value}(hr:fn.results= #[r,r2,r3])(h:RV P W ⟨N,[]⟩ f r v)(h2:RV P W ⟨N,[]⟩ f r2 v2)(h3:RV P W ⟨N,[]⟩ f r3 v3)(hR:R (.returned (.tuple #[v,v2,v3])) W):PQ (bodyPost P fn R) .ret ⟨N,[]⟩ f W:=⟨bodyPost_ret (adN hr h h2 h3) rfl hR⟩
end
section
variable{P:Program}{ops:Array Oper}{rest:List Oper}{n:Sz}{k k2:Nat}{f:Nat→Value}{W w0:World}{F:List Nat}{L:List FU}{Q:Exit→Act→World→Prop}{ty ty2:TypeId}{pos pos2:String}{af af2:Array Edge}{g:Option (Nat×Bool)}{x y s:Operand}{v u:Value}{t e:TypeId}
theorem Ei{z:List Value}{size bytes:Nat}(H:Heap w0 F L W)(hw:Region.wanted ⟨some k,.alloc t,ty,pos,af,g⟩ (yl n f ops)=true)(hi:Inf P t (.agg z.toArray) size bytes)
 (h:∀p W',Heap w0 F (blk p z t::L) W'→SL P ops Q rest n (upd f k (.pointer (some ⟨p,0,none⟩))) W'):SL P ops Q (⟨some k,.alloc t,ty,pos,af,g⟩::rest) n f W:=by
 obtain⟨i,h1,h2,_,_⟩:=hi.ex
 have hz:∀W,(zeroValue t).run P W= .ok (.agg z.toArray) W:=fun W=>by simp[zeroValue,typeInfo,h1,h2]
 exact Hu rfl hw (W':=W.alloc (.cells z.toArray t)) (by simp only[execOp,Instr.alloc,Sem.run_bind,hz,Result.andThen_ok];rfl) (h _ _ (H.alloc z t))
theorem akk{z:Value}{bytes:Nat}(H:Heap w0 F L W)(hw:Region.wanted ⟨some k,.alloc t,ty,pos,af,g⟩ (yl n f ops)=true)(hi:Inf P t z 1 bytes)(hz1:z.oneCell'=true)
 (h:∀p W',Heap w0 F (blk p [z] t::L) W'→SL P ops Q rest n (upd f k (.pointer (some ⟨p,0,none⟩))) W'):SL P ops Q (⟨some k,.alloc t,ty,pos,af,g⟩::rest) n f W:=by
 obtain⟨i,h1,h2,_,_⟩:=hi.ex
 have hz:∀W,(zeroValue t).run P W= .ok z W:=fun W=>by simp[zeroValue,typeInfo,h1,h2]
 exact Hu rfl hw (W':=W.alloc (.cells [z].toArray t)) (by simp only[execOp,Instr.alloc,Sem.run_bind,hz,Result.andThen_ok,newVar,JL hz1];rfl) (h _ _ (H.alloc [z] t))
theorem Heap.ahL{p o:Nat}{cs vs:List Value}{T:TypeId}(H:Heap w0 F L W)(j:Nat)(hj:L[j]? =some (blk p cs T)):Heap w0 F (L.set j (blk p (cs.take o++vs++cs.drop (o+vs.length)) T)) (W.setRow p (cs.toArray.toList.take o++vs++cs.toArray.toList.drop (o+vs.length)).toArray):=by
 refine H.at j hj (F':=[p]) ⟨?_,by simp[ids,blk],by simp[ids,blk],rfl,rfl,rfl,by simp[World.setRow],fun k _ hk=>setRow_other W p k _ zK⟩ (by simp[blk])
 intro E hE
 rw[Bz.1 hE]
 exact setRow_heap W p _ _ T _ (H.OC j hj)
theorem Va{p o m:Nat}{cs vs:List Value}{T:TypeId}(H:Heap w0 F L W)(j:Nat)(hw:Region.wanted ⟨none,.store t x y,ty,pos,af,g⟩ (yl n f ops)=true)(hx:ev n f x= .pointer (some ⟨p,o,none⟩))(hy:ev n f y= .agg vs.toArray)(hj:L[j]? =some (blk p cs T))
 (hl:vs.length=m) (h1:vs.all (·.oneCell')=true) (hfit:Nat.ble (o+vs.length) cs.length=true) (hs:∀W,(Go.sizeOf t).run P W= .ok m W)
 (h:∀W',Heap w0 F (L.set j (blk p (cs.take o++vs++cs.drop (o+vs.length)) T)) W'→SL P ops Q rest n f W'):SL P ops Q (⟨none,.store t x y,ty,pos,af,g⟩::rest) n f W:=by
 have hg:=H.OC j hj
 have hst:=run_storeCells_at P p o T vs 0 cs.toArray W hg (by simpa using LD hfit) (fun v hv=>Tt.1 h1 v hv)
 simp only[Kt]at hst
 have hr:(Instr.storeAt t (.pointer (some ⟨p,o,none⟩)) (.agg vs.toArray)).run P W= .ok () (W.setRow p (cs.toArray.toList.take o++vs++cs.toArray.toList.drop (o+vs.length)).toArray):=by
  simp only[Instr.storeAt,storeVar,Instr.sureAddr,Value.cells,Sem.run_bind,Sem.run_pure,Result.andThen_ok,hs,Jq,hl,ne_eq,not_true,if_false]
  rw[←hl];exact hst
 exact ajj rfl hw Ai (h _ (H.ahL j hj))
theorem En{p m:Nat}{cs vs:List Value}{T:TypeId}(H:Heap w0 F L W)(j:Nat)(hw:Region.wanted ⟨none,.store t x y,ty,pos,af,g⟩ (yl n f ops)=true)(hx:ev n f x= .pointer (some ⟨p,0,none⟩))(hy:ev n f y= .agg vs.toArray)(hj:L[j]? =some (blk p cs T))
 (hl:vs.length=m) (h1:vs.all (·.oneCell')=true) (hfit:cs.length=m) (hs:∀W,(Go.sizeOf t).run P W= .ok m W)
 (h:∀W',Heap w0 F (L.set j (blk p vs T)) W'→SL P ops Q rest n f W'):SL P ops Q (⟨none,.store t x y,ty,pos,af,g⟩::rest) n f W:=by
 refine Va H j hw hx hy hj hl h1 (by rw[EH,hl,hfit];exact Nat.ble_self_eq_true m) hs fun W' H'=>h W' ?_
 rw[EH,KJ,Ey,hl,←hfit,O7,Dl]at H'
 exact H'
theorem auH{α:Type}{enc:α→Value}{size m i p c:Nat}{xs:List α}{T:TypeId}{z:α}(H:Heap w0 F L W)(j:Nat)(hw:Region.wanted ⟨none,.store t x y,ty,pos,af,g⟩ (yl n f ops)=true)(hx:ev n f x= .pointer (some ⟨p,i,none⟩))(hy:ev n f y=u)(hj:L[j]? =some (Ec size (.slice (some ⟨p,0,none⟩) m c) m (xs.map enc) T))(hz:u=enc z)(hi:i<xs.length)(h1:(enc z).oneCell'=true)(hs:∀W,(Go.sizeOf t).run P W= .ok 1 W)
 (h:∀W',Heap w0 F (L.set j (Ec size (.slice (some ⟨p,0,none⟩) m c) m ((xs.set i z).map enc) T)) W'→SL P ops Q rest n f W'):SL P ops Q (⟨none,.store t x y,ty,pos,af,g⟩::rest) n f W:=by
 subst hz
 have ho:=H.JE j hj
 have hcell:=ho.cellAt i zF
 have hfr:=ho.frozenAt i
 rw[Cb,Ba hi]at hcell
 have hr:=OZ (P:=P) (t:=t) (u:=enc z) hs hcell hfr h1
 refine ajj (W':=W.setCell ⟨p,i,none⟩ (enc z)) O hw Ai (h _ ?_)
 have hst:=(ho.stored i (enc z)).1
 refine H.at j hj (F':=[p]) ⟨fun E hE=>?_,by simp[ids,Ec,Value.ownBlock],by simp[ids,Ec,Value.ownBlock],aa7 W p i _⟩ (by simp[Ec,Value.ownBlock])
 rw[Bz.1 hE]
 show World.ownsRow _ _ _ _ _ _ _
 rw[G7];exact hst
theorem amN{α:Type}{enc:α→Value}{z0:Value}{size bytes m l c:Nat}{A:Option Addr}{xs zs:List α}(H:Heap w0 F L W)(j:Nat)(hj:L[j]? =some (Ec size v m (xs.map enc) e))
 (hw:Region.wanted ⟨some k,.call ⟨.builtin .append,#[s,y],#[t,t]⟩,ty,pos,af,g⟩ (yl n f ops)=true) (hs:ev n f s=v) (hy:ev n f y= .slice A l c) (hz:I5 enc w0 F A zs) (hl:zs.length=l*size) (h1:∀z,(enc z).oneCell'=true) (hsz:0<size)
 (hm:m+l≤100000000000∧(m+l)*bytes≤140737488355328) (ht:P.underlying t=some (.slice e)) (hi:Inf P e z0 size bytes) (hz0:z0.cells.size=size)
 (h:∀A' c' W',Heap w0 F (L.set j (Ec size (.slice A' (m+l) c') (m+l) ((xs++zs).map enc) e)) W'→SL P ops Q rest n (upd f k (.slice A' (m+l) c')) W'):
 SL P ops Q (⟨some k,.call ⟨.builtin .append,#[s,y],#[t,t]⟩,ty,pos,af,g⟩::rest) n f W:=by
 have hown:=H.JE j hj
 obtain⟨i,hi0,hzz,hisz,hby⟩:=hi.ex
 have key:∃v' W',(Builtin.append_ #[t,t] ty #[v,.slice A l c]).run P W= .ok v' W'∧W'.ownsRow 0 e size v' (m+l) (xs.map enc++zs.map enc)∧W.grownBy W' v.ownBlock∧(∀k,v'.ownBlock=some k→v.ownBlock=some k∨W.heap.size≤k):=by
  have hlen0:zs.length=0→l=0∧zs=[]:=fun h0=>⟨by
   rcases GV l with h2|h2
   ·exact h2
   ·have:=Nat.mul_pos h2 hsz;omega,DU h0⟩
  cases A with
  |some p=>
   by_cases h0:zs.length=0
   ·obtain⟨rfl,rfl⟩:=hlen0 h0
    exact TV (P:=P) t ty e ht hi hz0 hsz v m (xs.map enc) hown p 0 c [] J (fun _ _ hq=>by simp at hq) J Ac hm.2
   ·obtain⟨q,r,e0,hq,hr⟩:=hz h0
    injection e0 with e0
    subst e0
    have hr2:=hr.later H.only hq
    refine TV (P:=P) t ty e ht hi hz0 hsz v m (xs.map enc) hown ⟨q,r,none⟩ l c (zs.map enc) (by simpa using hl) (fun a u ha=>?_) (fun u hu=>?_) Ac hm.2
    ·rw[Cb]at ha
     cases hza:zs[a]? with
     |none=>rw[hza]at ha;simp at ha
     |some z=>rw[hza]at ha;rw[add_plain,hr2 a z hza];simpa using ha
    ·obtain⟨z,_,rfl⟩:=DN.1 hu;exact h1 z
  |none=>
   have h0:zs.length=0:=by
    rcases GV zs.length with h0|h0
    ·exact h0
    ·obtain⟨q,r,e0,_⟩:=hz Y;cases e0
   obtain⟨rfl,rfl⟩:=hlen0 h0
   refine⟨v,W,?_,by simpa using hown,⟨rfl,rfl,rfl,BF _,fun _ _ _=>rfl⟩,fun k hk=> .inl hk⟩
   rcases hown.2 with⟨rfl,rfl⟩|⟨q,cap,cur,rfl,_,hg,hnc,_⟩
   ·simp[Builtin.append_,run_underlying ht,Go.sizeOf,typeInfo,hi0,Builtin.lenOf,Builtin.firstCells]
   ·simp[Builtin.append_,run_underlying ht,Go.sizeOf,typeInfo,hi0,Builtin.lenOf,Builtin.firstCells,hnc,storeCells]
 obtain⟨v',W2,hr,o1,o2,o3⟩:=key
 have H3:=H.app j hj (m:=l) o1 o2 o3
 rw[←EY]at H3
 obtain⟨A',c',rfl⟩:∃A' c',v'= .slice A' (m+l) c':=by
  rcases o1.2 with⟨rfl,h0⟩|⟨q,cap,cur,rfl,_⟩
  ·exact⟨none,0,by rw[h0]⟩
  ·exact⟨_,cap,rfl⟩
 exact Hu rfl hw (W':=W2) Af (h A' c' W2 H3)
theorem ab1(z:Value)(size k:Nat)(u:Value)(h:z.cells=(List.replicate size u).toArray)(h0:0<size):madeCells z.cells k=(List.replicate k u).toArray:=by
 apply JM
 intro i
 simp only[madeCells,h,Array.getElem?_map,Array.getElem?_range,Fe,Ew]
 by_cases hi:i<k
 ·have:i%size<size:=WL _ h0
  simp[hi,this]
 ·simp[hi]
theorem aql{α:Type}(enc:α→Value)(z:α)(size:Nat){kl kc:IntKind}{a b:Int}(m:Nat){bytes:Nat}{z0:Value}(H:Heap w0 F L W)(hw:Region.wanted ⟨some k,.makeSlice t x y,ty,pos,af,g⟩ (yl n f ops)=true)
 (hx:ev n f x= .int kl a) (hy:ev n f y= .int kc b) (ha:a=(m:Int)) (hb:b=(m:Int)) (hm:m*bytes≤140737488355328∧m≤9223372036854775807) (ht:P.underlying t=some (.slice e)) (hi:Inf P e z0 size bytes) (hz0:z0.cells=(List.replicate size (enc z)).toArray) (h0:0<size)
 (h:∀p W',Heap w0 F (vec enc p (List.replicate (m*size) z) e::L) W'→SL P ops Q rest n (upd f k (.slice (some ⟨p,0,none⟩) m m)) W'):SL P ops Q (⟨some k,.makeSlice t x y,ty,pos,af,g⟩::rest) n f W:=by
 subst ha;subst hb
 obtain⟨i,hi,hz,hs,hby⟩:=hi.ex
 have hb':(i.bytes:Int)*(m:Int)≤281474976710656:=by
  have h2:((i.bytes*m:Nat):Int)≤281474976710656:=by rw[hby,Ld];omega
  rwa [Lm]at h2
 have hr:=run_make (P:=P) W t e i z0 ht hi hz kl kc m m Y (Px _) hb' Y
 simp only[BJ,hs,ab1 z0 size _ _ hz0 h0]at hr
 exact Hu rfl hw (W':=W.alloc (.cells (List.replicate (m*size) (enc z)).toArray e)) Ai (h _ _ (H.made (m*size) z e))
end
end
end
end Go.Proofs.YtppilhpcmkekbaaGreat
