/-
  TopBoth: for every input the Go function answers true, and its arguments read afterwards as they read before. No condition.
-/
import Derived.Test.YtppilhpcmkekbaaGreatKTopBotht
set_option linter.unusedSimpArgs false
set_option linter.unusedVariables false
set_option linter.unusedSectionVars false
set_option maxRecDepth 100000
set_option maxHeartbeats 16000000
namespace Go.Proofs.YtppilhpcmkekbaaGreat
open Go.Proofs.Tryz
section
namespace lTopBoth
open Go.ChangeShapes Go.WideShapes Go.ChangeAt Go.RowKit
theorem own:ownKnob prog.godebug=none:=by kernel_rfl
theorem laidOut:laidOutB prog=true:=by kernel_rfl
theorem lifted(os:Os)(started:os.Started)(H:Type)(enc:TypeId×Value→H):
 ReturnsInHanded {} Tryz.checked os 4 .any (Rows.topBothSpec.pre6 enc prog Tryz.f4 Rows.topBothRow.domain false) (Rows.topBothSpec.post enc prog Tryz.f4 false true false false):=by
 refine returnsInHanded_of_change (C:=Tryz.checked) own started Aw func4
  (ChangeSpec.witness6 (enc:=enc) (C:=Tryz.checked) false ⟨#[],#[.slice none 0 0],[]⟩ 8 Aw Aw Aw Aw) ?_
 intro W base args ds gs before hval0 hW hcnd _
 have hval:∀(j:Nat) t v,Tryz.f4.params[j]? =some t→args[j]? =some v→Value.okWide prog W .any base t v:=hval0
 have hW':=hW
 obtain⟨p,q,hA0,hV,rfl,hfz,hnd⟩:=hW
 have hA:DataW.TrodAll enc prog W 0 (fun _=>true) true Tryz.f4.params.toList args.toList ds p:=hA0
 rw[Tryz.params4]at hA hval
 obtain⟨v0,vs0,d0,ds0,p0,q0,hargs,rfl,rfl,h0,r0⟩:=trodAll_cons hA
 obtain⟨rfl,rfl,rfl⟩:=trodAll_nil r0
 obtain rfl:args= #[v0]:=by cases args;simp_all
 obtain⟨rfl,rfl⟩:=trodVars_none hV
 have k0:=h0
 have lt0:∀x∈p0,x.block<W.heap.size:=by obtain⟨m,hm⟩:=k0;exact DataW.trod_lt m _ _ _ hm
 obtain⟨x0,rfl,w0⟩:=aji W base v0 d0 p0 (hval 0 50 v0 rfl rfl) h0
 clear hA0 hval0
 refine(adI x0 W w0).mono fun e W' ⟨he,bel⟩=>?_
 subst he
 exact⟨_,rfl,_,_,_,[],_,[],hW',trodAll_mk1 (shut_bool underlying4 _),(trodAll_cons_mk (Below.trod laidOut Aw (of_decide_eq_true Aw) k0 bel lt0) trodAll_mk0),rfl,bel.frame _,fun h=>by cases h⟩
theorem shut1:(Rows.topBothRow.unfollowed==Tryz.prog.unfollowed 4)=true:=by kernel_rfl
theorem shut2:(Rows.topBothRow.recurses==Tryz.prog.recurses 4)=true:=by kernel_rfl
theorem shut3:(Rows.topBothRow.inPlace==Tryz.prog.inPlace 4)=true:=by kernel_rfl
theorem shut4:(Rows.topBothRow.named==Tryz.prog.varsNamed 4)=true:=by kernel_rfl
theorem shut5:Tryz.prog.mayEnter=true:=by kernel_rfl
theorem shut6:mapsRowed Tryz.prog=true:=by kernel_rfl
theorem shut:joinedFacts Tryz.prog 4 Tryz.f4 Rows.topBothSpec Rows.topBothRow=true:=by
 unfold joinedFacts
 rw [laidOut,shut1,shut2,shut3,shut4,shut5,shut6]
 kernel_rfl
theorem over:Rows.topBothRow.holds Tryz.pinned (OpenSpec.ofChange Rows.topBothSpec):=
 OpenClaim.holds_of_wide 4 Tryz.f4 rfl rfl rfl rfl rfl rfl rfl ⟨rfl,rfl,rfl,rfl,rfl⟩ rfl rfl rfl rfl rfl Aw func4 shut
  (of_decide_eq_true Aw) (by unfold Func.isWrapper;first|(rw[if_pos (by decide+kernel)];kernel_rfl)|(rw[if_neg (by decide+kernel)];exact⟨rfl,rfl⟩))
  (fun os started H enc _=>lifted os started H enc)
theorem proved:Rows.TopBothSaid:=over
#print axioms proved
end lTopBoth
end
end Go.Proofs.YtppilhpcmkekbaaGreat
