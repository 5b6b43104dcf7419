/- Parts of the proof. -/
import Derived.Test.YtppilhpcmkekbaaGreatKTopBothh
set_option linter.unusedSimpArgs false
set_option linter.unusedVariables false
set_option linter.unusedSectionVars false
set_option maxRecDepth 100000
set_option maxHeartbeats 16000000
namespace Go.Proofs.YtppilhpcmkekbaaGreat
open Go.Proofs.Tryz
section
section
open Go.RowKit
def aru{α:Type}(P:Program)(g:Nat)(lb:Array Value)(encs:α→Array Value)(xs:List α)(B:List Nat)(w:World):Prop:=
 ∀(l:Nat) (Az:List α→World→Prop) (W:World),Below w.heap.size w W→w.heap.size≤l→l<W.heap.size→
  (∀s V V' F,Az s V→Only F V V'→(∀i∈F,W.heap.size≤i)→Az s V')→
  (∀pre x W1,Az pre W1→pre.length<xs.length→YieldAt Fence.wide 3 P l (encs x) W1 fun e W'=>e= .returned (.bool true)∧Az (pre++ [x]) W'∧Only (l::B) W1 W')→
  Az [] W→CallsIn Fence.wide 4 P g (#[.func (.yield l) #[] #[]]++lb) W fun e W'=>(∃v,e= .returned v)∧Az xs W'
theorem Dj.wide{V V':World}{F':List Nat}{L:List FU}(H:Dj L V)(hO:Only F' V V')(h1:∀i∈ids L,i∉F'):Dj L V':=
 ⟨fun E hE=>E.loc V V' (fun i hi=>hO.block i (E.lt V (H.1 E hE) i hi) (h1 i (Nl.2 ⟨E,hE,hi⟩))) (H.1 E hE),H.2⟩
theorem Heap.wide{w0 V V':World}{F F':List Nat}{L:List FU}(H:Heap w0 F L V)(hO:Only F' V V')(h1:∀i∈ids L,i∉F')(h2:∀i∈F',w0.heap.size≤i):Heap w0 F L V':=
 ⟨fun E hE=>E.loc V V' (fun i hi=>hO.block i (E.lt V (H.ok E hE) i hi) (h1 i (Nl.2 ⟨E,hE,hi⟩))) (H.ok E hE),H.nd,H.own,
  ⟨hO.os.trans H.only.os,hO.tape.trans H.only.tape,hO.output.trans H.only.output,FC H.only.size hO.size,fun k hk hf=>(hO.block k (FV hk H.only.size) (fun hm=>by have:=h2 k hm;omega)).trans (H.only.block k hk hf)⟩⟩
theorem aaC(V:World)(l:Nat)(o:Obj):Only [l] V (V.putObj l o):=
 ⟨rfl,rfl,rfl,by simp[World.putObj],fun k _ hk=>World.putObj_heap_other (by simpa using hk)⟩
section
variable{P:Program}{n:Sz}{f:Nat→Value}{W w0:World}{F:List Nat}{Q:Exit→Act→World→Prop}
theorem aus{α:Type}{g:Operand}{ps:Array Tmp}{assign body:Code}{gf:Nat}{G:Func}{lb:Array Value}{encs:α→Array Value}{xs:List α}{B:List Nat}(I:List α→List FU)(Lk:List FU)(H:Heap w0 F (I []++Lk) W)(hI:∀pre,ids (I pre)=B)
 (hg : ev n f g = .func (.func gf) #[] lb) (hf : P.funcs[gf]? = some G) (hn : (G.name == "runtime.NumGoroutine") = false) (hb : G.body.isNone = false)
 (hseq:aru P gf lb encs xs B W) (hps:∀x,(encs x).size=ps.size) (aqT:(UH assign&&UH body)=true)
 (zs ss:α→List (Nat×Value)) (hz:∀x,(ps.zip (encs x)).toList=zs x)
 (hassign:∀x W,CW P assign (fun e a W'=>e= .normal∧a=Fn ⟨n.n,[]⟩ (NU (ss x) (NU (zs x) f))∧W'=W) ⟨n.n,[]⟩ (NU (zs x) f) W)
 (hbody:∀pre x W,pre.length<xs.length→Heap W (ids (I pre)) (I pre) W→CW P body (RQ (fun p L=>L=I p) (fun _ _ _=>False) (pre++ [x]) (I pre) W) ⟨n.n,[]⟩ (NU (ss x) (NU (zs x) f)) W)
 (hdone:∀D W',Heap w0 F (dfd D::(I xs++Lk)) W'→Kp (ids Lk) W W'→PQ Q .normal ⟨n.n,col D::n.d⟩ f W'):CW P (Code.rangeFunc g ps assign body) Q n f W:=by
 refine .alone O ((wpIn_wide (n:=5)).1 (wpIn_rangeFunc ?_))
 intro fn hfn
 have afx:UH assign=true∧UH body=true:=by simpa using aqT
 have hsz:=H.only.size
 have avP:∀pre,ids (I pre++Lk)=ids (I []++Lk):=fun pre=>by rw[EX,EX,hI,hI]
 have hlt:∀pre,∀i∈ids (I pre++Lk),i<W.heap.size:=fun pre i hi=>H.aaQ i (by rw[←avP pre];exact hi)
 have hlI:∀pre,∀i∈ids (I pre),i<W.heap.size:=fun pre i hi=>hlt pre i (by rw[EX];exact CO _ hi)
 have hlK:∀i∈ids Lk,i<W.heap.size:=fun i hi=>hlt [] i zO
 have hKI:∀pre,∀i∈ids Lk,i∉ids (I pre):=fun pre i hi hm=>by
  have hnd:=H.nd
  rw[←avP pre,EX]at hnd
  exact(C9.1 hnd).2.2 i hm i hi rfl
 obtain⟨rec,hrec⟩:∃rec:LoopState→Option Code→Loop,rec=fun st pe=>{state:=st,pending:=pe,fn,tmps:=(Fn n f).tmps,params:=ps,assign,body,defers:=W.heap.size}:=⟨_,rfl⟩
 obtain⟨W1,hW1⟩:∃W1,(W.alloc (.deferred (some []))).alloc (.loop (rec .ready none))=W1:=⟨_,rfl⟩
 have hL1:W1.heap[W.heap.size+1]? =some (.loop (rec .ready none)):=by
  rw[←hW1];have:=World.alloc_heap_new (W.alloc (.deferred (some []))) (.loop (rec .ready none));rwa [World.size_alloc]at this
 have hK1:W1.heap[W.heap.size]? =some (.deferred (some [])):=by
  rw[←hW1];exact(Below.heap_alloc _ _ _ J).trans (World.alloc_heap_new W _)
 have hs1:W1.heap.size=W.heap.size+2:=by rw[←hW1];simp
 have hb1:Below W.heap.size W W1:=by
  rw[←hW1];exact((Below.refl _ W).alloc (BF _) _).alloc J _
 have H1:Heap w0 F (I []++Lk) W1:=H.same (Only.of_below hb1 [])
 have aw9:Kp (ids Lk) W W1:=fun i hi=>hb1.block i (hlK i hi)
 have turn:∀{pre:List α} {V:World} {l:Nat} {o:Obj} (o':Obj),Heap w0 F (I pre++Lk) V→W.heap.size≤l→V.heap[l]? =some o→o.isCells=false→Heap w0 F (I pre++Lk) (V.putObj l o'):=fun o' h1 h2 h3 h4=>
  h1.wide (aaC _ _ o') (fun i hi hm=>by have:=hlt _ i hi;have:=Bz.1 hm;omega) (fun i hm=>by have:=Bz.1 hm;omega)
 have arM:∀{V:World} {l:Nat} (o':Obj),W.heap.size≤l→Kp (ids Lk) W V→Kp (ids Lk) W (V.putObj l o'):=fun o' h1 h2 i hi=>(World.putObj_heap_other (by have:=hlK i hi;omega)).trans (h2 i hi)
 refine⟨W.heap.size+1,[{target:= .collected W.heap.size,args:= #[]}],W1,{target:= .fn (.func gf) lb,args:= #[.func (.yield (W.heap.size+1)) #[] #[]]},W1,gf,
  #[.func (.yield (W.heap.size+1)) #[] #[]]++lb,W1,?_,?_,fun _ _=>trivial,?_,fun _=>Y,?_⟩
 ·rw[←hW1,hrec];exact run_enterLoop_outer _ _ _ _ _
 ·have hg':(Fn n f).eval g= .func (.func gf) #[] lb:=by rw[JC];exact hg
  simp only[resolve,hg']
  simp[go_sem]
 ·have:=Nr (P:=P) (W:=W1) hf hn hb (#[.func (.yield (W.heap.size+1)) #[] #[]]++lb)
  simpa [invoke,go_sem]using this
 ·refine(hseq (W.heap.size+1) (fun pre V=>Heap w0 F (I pre++Lk) V∧Kp (ids Lk) W V∧V.heap[W.heap.size+1]? =some (.loop (rec .ready none))∧V.heap[W.heap.size]? =some (.deferred (some []))∧W1.heap.size≤V.heap.size) W1 hb1 Y Y ?_ ?_ ⟨H1,aw9,hL1,hK1,BF _⟩).mono ?_
  ·rintro s V V' F' ⟨h1,h2,h3,h4,h5⟩ hO hF
   have hno:∀i,i<W1.heap.size→i∉F':=fun i hi hm=>by have:=hF i hm;omega
   exact⟨h1.wide hO (fun i hi=>hno i (by have:=hlt s i hi;omega)) (fun i hi=>by have:=hF i hi;omega),fun i hi=>(hO.block i (by have:=hlK i hi;omega) (hno i (by have:=hlK i hi;omega))).trans (h2 i hi),(hO.block _ Y (hno _ Y)).trans h3,(hO.block _ Y (hno _ Y)).trans h4,FC h5 hO.size⟩
  ·rintro pre x V ⟨hi,hp,hl,hk,h5⟩ hlen
   have hy:=run_yield (P:=P) (args:=encs x) hl (by rw[hrec];exact hps x)
   rw[hrec]at hy
   have h2:({tmps:=(ps.zip (encs x)).foldl (fun t (p,v)=>t.setIfInBounds p v) (Fn n f).tmps,defers:=[]}:Act)=Fn ⟨n.n,[]⟩ (NU (zs x) f):=by
    have h3:=Vg (ds:=n.d) n.n (ps.zip (encs x)).toList f
    rw[Array.foldl_toList,hz x]at h3
    exact congrArg (fun t=>({tmps:=t,defers:=[]}:Act)) h3
   obtain⟨Vb,hVb⟩:∃Vb,V.putObj (W.heap.size+1) (.loop {rec .ready none with state:= .busy})=Vb:=⟨_,rfl⟩
   have hl2:Vb.heap[W.heap.size+1]? =some (.loop {rec .ready none with state:= .busy}):=by rw[←hVb];exact World.putObj_heap_same Y
   have hk2:Vb.heap[W.heap.size]? =some (.deferred (some [])):=by rw[←hVb];exact(World.putObj_heap_other Y).trans hk
   have hi2:Heap w0 F (I pre++Lk) Vb:=by rw[←hVb];exact turn _ hi Y hl rfl
   have hp2:Kp (ids Lk) W Vb:=by rw[←hVb];exact arM _ Y hp
   have hsb:Vb.heap.size=V.heap.size:=by rw[←hVb];simp[World.putObj]
   have hbd:=(hbody pre x Vb hlen (Heap.start hi2.part)).inr afx.2 (W.heap.size+1) 3
   refine⟨fn,_,assign,body,hy,roundIn_of_wpIn hfn ?_⟩
   rw[h2]
   refine Code.wpIn_mono ?_ ((hassign x V).inr afx.1 (W.heap.size+1) 3)
   rintro e a W2 ⟨rfl,rfl,rfl⟩
   refine⟨Vb,by rw[←hVb];exact run_beginRound hl (by rw[hrec]),Code.wpIn_mono ?_ hbd⟩
   rintro e a V3 hq
   cases e with
   |normal=>
    obtain⟨_,rfl,hH⟩:=hq
    have hno:∀i,W.heap.size≤i→i∉ids (I pre):=fun i h1 hm=>by have:=hlI pre i hm;omega
    have hl3:V3.heap[W.heap.size+1]? =some (.loop {rec .ready none with state:= .busy}):=(hH.only.block _ Y (hno _ Y)).trans hl2
    have hk3:V3.heap[W.heap.size]? =some (.deferred (some [])):=(hH.only.block _ Y (hno _ Y)).trans hk2
    have hi3:Heap w0 F (I (pre++ [x])++Lk) V3:=hi2.step hH (fun _ h=>h)
    have hp3:Kp (ids Lk) W V3:=fun i hm=>(hH.only.block i (by have:=hlK i hm;omega) (hKI pre i hm)).trans (hp2 i hm)
    have hr:=run_endRound (P:=P) none hl3
    rw[hrec]at hr
    refine⟨_,_,hr,rfl,⟨turn _ hi3 Y hl3 O,arM _ Y hp3,?_,(World.putObj_heap_other Y).trans hk3,?_⟩,?_⟩
    ·rw[hrec];exact World.putObj_heap_same (Array.getElem?_eq_some_iff.1 hl3).1
    ·have:=hH.only.size;simp[World.putObj];omega
    ·have o1:Only ((W.heap.size+1)::B) W2 Vb:=by rw[←hVb];exact(aaC _ _ _).mono (fun i hi=>Dh.2 (.inl (Bz.1 hi)))
     have o2:Only ((W.heap.size+1)::B) Vb V3:=hH.only.mono (by rw[hI];exact fun i hi=>DZ _ hi)
     exact(o1.trans o2).trans ((aaC _ _ _).mono (fun i hi=>Dh.2 (.inl (Bz.1 hi))))
   |ret=>obtain⟨_,h,_⟩:=hq;exact h.elim
   |exit i=>obtain⟨_,h,_⟩:=hq;exact h.elim
   |goto _=>exact hq.elim
   |panic _=>exact hq.elim
   |outgrown=>exact hq.elim
  ·rintro e W2 ⟨⟨v,rfl⟩,hi,hp,hl,hk,h5⟩
   refine⟨none,_,by have:=run_endLoop (P:=P) hl (by rw[hrec];simp);rw[hrec]at this;exact this,(hdone W.heap.size _ ⟨fun E hE=>?_,?_,fun i hm=>?_,(turn _ hi Y hl O).only⟩ (arM _ Y hp)).out⟩
   ·rcases Dh.1 hE with rfl|hE
    ·exact(World.putObj_heap_other Y).trans hk
    ·exact(turn _ hi Y hl rfl).ok E hE
   ·rw[Ep]
    refine C9.2 ⟨by simp[dfd],hi.nd,fun a ha b hb hab=>?_⟩
    subst hab
    obtain rfl:a=W.heap.size:=by simpa [dfd]using ha
    have:=hlt xs _ hb
    omega
   ·rw[Ep]at hm
    rcases Ci.1 hm with hm|hm
    ·obtain rfl:i=W.heap.size:=by simpa [dfd]using hm
     exact .inr hsz
    ·exact hi.own i hm
end
end
end
section
section
open Go.RowKit
structure acw where
 f0:Int
 A1:Option Addr
 n1:Nat
 c1:Nat
 xs1:List Int
def acw.cells(u:acw):List Value:=[.int .i64 u.f0,.slice u.A1 u.n1 u.c1]
structure aah (w:World) (u:acw):Prop where
 w0:(Lit.int .i64 u.f0).wf=true
 s1:I5 (Value.int .i64) w [] u.A1 u.xs1
 l1:u.xs1.length=u.n1
 m1:u.n1≤u.c1∧u.c1≤maxLen
 b1:∀z∈u.xs1,(Lit.int .i64 z).wf=true
def Vd(w:World)(A:Option Addr)(ops:List acw):Prop:=(ops.length≠0→∃b o,A=some ⟨b,o,none⟩∧∀i op,ops[i]? =some op→Reads (fun v:Value=>v) w b (o+i*2) op.cells)∧∀op∈ops,aah w op
theorem aah.later{w W:World}{u:acw}(h:aah w u)(hO:Only [] w W):aah W u:=⟨h.w0,h.s1.later hO J,h.l1,h.m1,h.b1⟩
theorem Vd.later{w W:World}{A:Option Addr}{ops:List acw}(h:Vd w A ops)(hO:Only [] w W):Vd W A ops:=
 ⟨fun h0=>by
  obtain⟨b,o,e,hr⟩:=h.1 h0
  exact⟨b,o,e,fun i op hi=>(hr i op hi).later hO J⟩,fun op hop=>(h.2 op hop).later hO⟩
section
open Go.ChangeShapes Go.WideShapes Go.Deep
variable{H:Type}{enc:TypeId×Value→H}{w:World}{base:Nat}{spare:Nat→Bool}{held:Bool}
end
end
end
end Go.Proofs.YtppilhpcmkekbaaGreat
