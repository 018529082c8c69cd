/- The row of the law laws.FnExactWorldText: it returns true for every input that its statement admits. Conditions: none but the row's own. -/
import Derived.Test.YtpcfebhpapdkcaaDoorCards
import Derived.Test.YtpcfebhpapdkcaaDoorTie
import Derived.Test.YtpcfebhpapdkcaaDoorCFnExactWorldText0
import Derived.LaidMore
import Derived.Lay
import Derived.MakeChecks
import Derived.SevenTiedAt
import Derived.Stop.Joined
import Derived.Stop.LaidErr
import Derived.Lib.LaidTab
import Derived.Test.YtpcfebhpapdkcaaDoorRows
import Derived.Test.YtpcfebhpapdkcaaDoorCFnExactWorldText38
import Derived.Test.YtpcfebhpapdkcaaDoorCFnExactWorldText43
import Derived.Test.YtpcfebhpapdkcaaDoorCFnExactWorldText46
import Derived.WalkKit
import Derived.ProofKit
import Derived.OpenShut
import Derived.ShutString
import Derived.ChangeOld
import Derived.Below
import Derived.SizedLaws
namespace Go.Proofs.YtpcfebhpapdkcaaDoor.fnExactWorldText
open Go.ChangeShapes Go.WideShapes Go.ChangeAt Go.RowKit
open Go.Proofs.YtpcfebhpapdkcaaDoor.Open Go.Proofs.YtpcfebhpapdkcaaDoor.KindsWorld Go.Proofs.YtpcfebhpapdkcaaDoorW.PrintWords
set_option linter.unusedVariables false
theorem own:ownKnob Tryd.prog.godebug=none:=by kernel_rfl
theorem laidOut:laidOutB Tryd.prog=true:=by kernel_rfl
set_option maxRecDepth 100000 in
theorem tab_of (W:World) (hL:laidMetH Tryd.prog Rows.fnExactWorldTextRow.laid W):Shelf2.Tab W:=by
  rw [MakeChecks.laidMetH_plain _ _ _ (by kernel_rfl)] at hL
  have h:=laidMet.tail (laidMet.tail hL)
  have e:(Rows.laid_internal_strconv_uint64pow10:DataW Unit)=Lib.tabData .u64 Lib.pow10Tab:=by kernel_rfl
  rw [e] at h
  exact Lib.tabIs_of_head (g:=0) (t:=103) (e:=93) (n:=20) (by kernel_rfl) (by kernel_rfl) Tryd.underlying103 Tryd.underlying93 (by kernel_rfl) (by kernel_rfl) h
set_option maxRecDepth 100000 in
theorem lifted (os:Os) (started:os.Started) (H:Type) (enc:TypeId × Value→H) :
    ReturnsInHanded {} Tryd.checked os 3 .any (fun w args=>(Rows.fnExactWorldTextSpec.pre enc Tryd.prog Tryd.f3 Rows.fnExactWorldTextRow.domain false w args∧laidMetH Tryd.prog Rows.fnExactWorldTextRow.laid w)∧sizedMet enc Tryd.prog Tryd.f3 (OpenSpec.ofChange Rows.fnExactWorldTextSpec) false w args) (Rows.fnExactWorldTextSpec.post enc Tryd.prog Tryd.f3 false true false false):=by
  refine returnsInHanded_of_change_and (C:=Tryd.checked) (X:=fun w _=>laidMetH Tryd.prog Rows.fnExactWorldTextRow.laid w) (fun _ _ _ hh h=>h.of_heap hh) own started (by kernel_rfl) Tryd.func3
    (ChangeSpec.witness_shaped (enc:=enc) (C:=Tryd.checked) (os:=os) (X:=fun w _=>laidMetH Tryd.prog Rows.fnExactWorldTextRow.laid w) false (World.laidAll Tryd.prog os Rows.fnExactWorldTextRow.laid) #[.agg #[.slice none 0 0,.slice none 0 0,.slice none 0 0,.slice none 0 0,.slice none 0 0]] 8 (World.laidAll_os _ _ _)
      (World.shaped_of_ZipB (by kernel_rfl) (by kernel_rfl)) (by kernel_rfl) (by kernel_rfl) (by kernel_rfl)
      (by rw [MakeChecks.laidMetH_plain _ _ _ (by kernel_rfl)];exact laidMet_laidAll _ (by kernel_rfl) (by kernel_rfl))) ?_
  intro W base args ds gs before hval0 hW hcnd hsz0 hL _
  have hval:∀ (j:Nat) t v,Tryd.f3.params[j]?=some t→args[j]?=some v→Value.okWide Tryd.prog W .any base t v:=hval0
  have hW':=hW
  obtain ⟨p,q,hA0,hV,rfl,hfz,hnd⟩:=hW
  have hA:DataW.TrodAll enc Tryd.prog W 0 (fun _=>true) true Tryd.f3.params.toList args.toList ds p:=hA0
  rw [Tryd.params3] at hA hval
  obtain ⟨v0,vs0,d0,ds0,p0,q0,hargs,rfl,rfl,h0,r0⟩:=trodAll_cons hA
  obtain ⟨rfl,rfl,rfl⟩:=trodAll_nil r0
  obtain rfl:args=#[v0]:=by cases args;simp_all
  obtain ⟨rfl,rfl⟩:=trodVars_none hV
  obtain ⟨cs0,rfl,_⟩:=okWide_struct Tryd.underlying27 (hval 0 27 v0 rfl rfl)
  have k0:=h0
  have lt0:∀ x ∈ p0,x.block<W.heap.size:=by obtain ⟨m,hm⟩:=k0;exact DataW.trod_lt m _ _ _ hm
  obtain ⟨a0_0,c0_0,z0_0,a0_1,c0_1,z0_1,a0_2,c0_2,z0_2,a0_3,c0_3,z0_3,a0_4,c0_4,z0_4,rfl,⟨C0_0,m0_0⟩,⟨C0_1,m0_1⟩,⟨C0_2,m0_2⟩,⟨C0_3,m0_3⟩,⟨C0_4,m0_4⟩,w0⟩:=arg27 (enc:=enc) h0
  clear hA0 hval0 hsz0
  obtain ⟨k,hk⟩:=Pure.FnExactWorldText z0_0 z0_1 z0_2 z0_3 z0_4 w0
  have htab:=tab_of W hL
  refine (GWorld.Ua.calls k a0_0 c0_0 z0_0 a0_1 c0_1 z0_1 a0_2 c0_2 z0_2 a0_3 c0_3 z0_3 a0_4 c0_4 z0_4 true W C0_0 m0_0 C0_1 m0_1 C0_2 m0_2 C0_3 m0_3 C0_4 m0_4 hk htab).mono fun e W' ⟨he,bel⟩=>?_
  subst he
  exact ⟨_,rfl,_,_,_,[],_,[],hW',trodAll_mk1 (shut_bool Tryd.underlying4 _),(trodAll_cons_mk (Below.trod laidOut (by kernel_rfl) (of_decide_eq_true (by kernel_rfl)) k0 bel lt0) trodAll_mk0),rfl,bel.frame _,fun h=>by cases h⟩
theorem over:Rows.fnExactWorldTextRow.holds Tryd.pinned (OpenSpec.ofChange Rows.fnExactWorldTextSpec):=
  OpenClaim.holds_of_wide 3 Tryd.f3 rfl rfl rfl rfl rfl rfl rfl ⟨rfl,rfl,rfl,rfl,rfl⟩ rfl rfl rfl rfl rfl (by kernel_rfl) Tryd.func3 (by kernel_rfl)
    (of_decide_eq_true (by kernel_rfl)) (by unfold Func.isWrapper;first|(rw [if_pos (by decide +kernel)];kernel_rfl)|(rw [if_neg (by decide +kernel)];exact ⟨rfl,rfl⟩))
    (fun os started H enc _=>lifted os started H enc)
theorem card:Rows.FnExactWorldTextCardSaid:=
  Claim7.holds_tied_plain_at .later [] [.data,.data,.data] true (true,"9e056e658ea11eb751dd58694aaa58792ea840b9677fbd9efed2bdc409ef6ba8") false over (fun _ h=>by cases h) (by kernel_rfl) (fun _ h=>by cases h) fnExactWorldText_row_tie rfl ⟨rfl,rfl⟩ (by kernel_rfl) rfl
    (fun f fn hf hfn=>by
      obtain rfl:f=3:=Option.some.inj ((show Tryd.prog.funcNamed "loop.example/changeringer/laws.FnExactWorldText" = some 3 by kernel_rfl).symm.trans hf)|>.symm
      obtain rfl:fn=Tryd.f3:=(Option.some.inj (Tryd.func3.symm.trans hfn)).symm
      exact ⟨by kernel_rfl,fun j t ht=>by
        rw [Tryd.params3] at ht
        have hm:t ∈ [27]:=by simpa using Array.mem_of_getElem? ht
        have hall:([27].all fun u=>!Tryd.prog.wantsStandIn u)=true:=by kernel_rfl
        exact (show Tryd.prog.wantsStandIn t=false by simpa using List.all_eq_true.1 hall t hm)⟩)
    (by kernel_rfl)
end Go.Proofs.YtpcfebhpapdkcaaDoor.fnExactWorldText
namespace Go.Proofs.YtpcfebhpapdkcaaDoor
theorem fnExactWorldText_holds:Rows.FnExactWorldTextCardSaid:=fnExactWorldText.card
end Go.Proofs.YtpcfebhpapdkcaaDoor
