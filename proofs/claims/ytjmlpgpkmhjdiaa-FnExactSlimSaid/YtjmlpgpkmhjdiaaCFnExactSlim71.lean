import Derived.Test.YtjmlpgpkmhjdiaaCFnExactSlim60
import Derived.Test.YtjmlpgpkmhjdiaaCFnExactSlim69
import Derived.Test.YtjmlpgpkmhjdiaaCFnExactSlim55
import Derived.Test.YtjmlpgpkmhjdiaaRows
import Derived.Test.YtjmlpgpkmhjdiaaCFnExactSlim59
import Derived.WalkKit
import Derived.ProofKit
import Derived.OpenShut
import Derived.ShutString
import Derived.ChangeOld
import Derived.Below
import Derived.SizedLaws
namespace Go.Proofs.Ytjmlpgpkmhjdiaa.Pure
open Go.RowKit Go.Proofs.Ytjmlpgpkmhjdiaa.GSlim Go.Proofs.YtjmlpgpkmhjdiaaW.PrintWords Go.Proofs.YtjmlpgpkmhjdiaaW.PrintLast Go.Proofs.YtjmlpgpkmhjdiaaW.PrintMore Go.Proofs.Ytjmlpgpkmhjdiaa.Evt Go.Proofs.Ytjmlpgpkmhjdiaa.KindsSlim Go.Proofs.Ytjmlpgpkmhjdiaa.Open
theorem FnExactSlim (l0:List LIns) (_hw:∀ z ∈ l0,InsN z) (hl:l0.length≤9223372036854775807):∃ k,Xk.f k l0=some true:=by
  suffices h:Evt (fun k=>Xk.f k l0) true from h.get
  unfold Xk.f
  rw [szInsS_of l0 hl]
  simp only [Option.bind_some]
  by_cases hbig:1048576<l0.length
  · rw [if_pos hbig]
    exact Evt.pos (by omega) (Evt.pure _)
  rw [if_neg hbig]
  refine Evt.neg (by omega) ?_
  have ht:=toInsS_ev l0 (by omega)
  have hcl:(l0.map conv).length≤1048576:=by rw [List.length_map];omega
  obtain ⟨r,h1,h2,h3,_⟩:=slim_both (l0.map conv) hcl
  have he:=eqInsS_ev r (by omega)
  refine Evt.bind ht (Evt.bind h2 (Evt.bind ht (Evt.bind h1 (Evt.bind he (Evt.pos rfl (Evt.bind ht (Evt.bind (eqInsS_ev _ (by omega)) (Evt.pos rfl (Evt.bind (markInsS_ev _ 1 (by omega) (by omega) hcl) (Evt.neg (by simp only [];omega) (Evt.bind he ?_)))))))))))
  refine Evt.step ?_
  simp only [Xk.j0]
  refine Evt.neg (by simp) (Evt.bind (markInsS_ev r 1 (by omega) (by omega) (by omega)) ?_)
  have hh:=heldInsS_ev 1 (by omega) (by omega) r.length (by omega)
  refine Evt.bind hh (Evt.neg (by omega) (Evt.pos rfl (Evt.bind ht (Evt.bind h1 (Evt.bind he (Evt.pos rfl (Evt.bind hh (Evt.neg (by omega) (Evt.pos rfl (Evt.pure _))))))))))
end Go.Proofs.Ytjmlpgpkmhjdiaa.Pure
namespace Go.Proofs.Ytjmlpgpkmhjdiaa.fnExactSlim
open Go.ChangeShapes Go.WideShapes Go.ChangeAt Go.RowKit
open Go.Proofs.Ytjmlpgpkmhjdiaa.Open Go.Proofs.Ytjmlpgpkmhjdiaa.KindsSlim Go.Proofs.YtjmlpgpkmhjdiaaW.PrintWords
set_option linter.unusedVariables false
theorem own:ownKnob Try.prog.godebug=none:=by kernel_rfl
theorem laidOut:laidOutB Try.prog=true:=by kernel_rfl
set_option maxRecDepth 100000 in
theorem lifted (os:Os) (started:os.Started) (H:Type) (enc:TypeId × Value→H) :
    ReturnsInHanded {} Try.checked os 14 .any (Rows.fnExactSlimSpec.pre6 enc Try.prog Try.f14 Rows.fnExactSlimRow.domain false) (Rows.fnExactSlimSpec.post enc Try.prog Try.f14 false true false false):=by
  refine returnsInHanded_of_change_sized (C:=Try.checked) own started (by kernel_rfl) Try.func14
    (ChangeSpec.witness6 (enc:=enc) (C:=Try.checked) false ⟨#[],#[.slice none 0 0],[]⟩ 8 (by kernel_rfl) (by kernel_rfl) (by kernel_rfl) (by kernel_rfl)) ?_
  intro W base args ds gs before hval0 hW hcnd hsz0 _
  have hval:∀ (j:Nat) t v,Try.f14.params[j]?=some t→args[j]?=some v→Value.okWide Try.prog W .any base t v:=hval0
  have hW':=hW
  obtain ⟨p,q,hA0,hV,rfl,hfz,hnd⟩:=hW
  have hA:DataW.TrodAll enc Try.prog W 0 (fun _=>true) true Try.f14.params.toList args.toList ds p:=hA0
  rw [Try.params14] at hA hval
  obtain ⟨v0,vs0,d0,ds0,p0,q0,hargs,rfl,rfl,h0,r0⟩:=trodAll_cons hA
  obtain ⟨rfl,rfl,rfl⟩:=trodAll_nil r0
  obtain rfl:args=#[v0]:=by cases args;simp_all
  obtain ⟨rfl,rfl⟩:=trodVars_none hV
  obtain ⟨a0,len0,cap0,rfl⟩:=okWide_slice Try.underlying32 (hval 0 32 v0 rfl rfl)
  have k0:=h0
  have lt0:∀ x ∈ p0,x.block<W.heap.size:=by obtain ⟨m,hm⟩:=k0;exact DataW.trod_lt m _ _ _ hm
  obtain ⟨z0,rfl,c0,m0,C0,w0⟩:=slice_arg Try.underlying32 (opens59 (enc:=enc)) h0
  clear hA0 hval0 hsz0
  obtain ⟨k,hk⟩:=Pure.FnExactSlim z0 w0 (by unfold maxLen at m0;omega)
  refine (GSlim.Xk.calls k a0 cap0 z0 true W C0 c0 hk).mono fun e W' ⟨he,bel⟩=>?_
  subst he
  exact ⟨_,rfl,_,_,_,[],_,[],hW',trodAll_mk1 (shut_bool Try.underlying4 _),(trodAll_cons_mk (Below.trod laidOut (by kernel_rfl) (of_decide_eq_true (by kernel_rfl)) k0 bel lt0) trodAll_mk0),rfl,bel.frame _,fun h=>by cases h⟩
theorem over:Rows.fnExactSlimRow.holds Try.pinned (OpenSpec.ofChange Rows.fnExactSlimSpec):=
  OpenClaim.holds_of_wide 14 Try.f14 rfl rfl rfl rfl rfl rfl rfl ⟨rfl,rfl,rfl,rfl,rfl⟩ rfl rfl rfl rfl rfl (by kernel_rfl) Try.func14 (by kernel_rfl)
    (of_decide_eq_true (by kernel_rfl)) (by unfold Func.isWrapper;first|(rw [if_pos (by decide +kernel)];kernel_rfl)|(rw [if_neg (by decide +kernel)];exact ⟨rfl,rfl⟩))
    (fun os started H enc _=>lifted os started H enc)
theorem proved:Rows.FnExactSlimSaid:=over
end Go.Proofs.Ytjmlpgpkmhjdiaa.fnExactSlim
namespace Go.Proofs.Ytjmlpgpkmhjdiaa
theorem fnExactSlim_holds:Rows.FnExactSlimSaid:=fnExactSlim.proved
end Go.Proofs.Ytjmlpgpkmhjdiaa
