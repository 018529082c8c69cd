import Derived.Test.YtdkcjecllbdljaaDoorCards
import Derived.Test.YtdkcjecllbdljaaDoorTie
import Derived.Test.YtdkcjecllbdljaaDoorCFnExactCodeText0
import Derived.LaidMore
import Derived.Lay
import Derived.MakeChecks
import Derived.SevenTiedAt
import Derived.Stop.Joined
import Derived.Stop.LaidErr
import Derived.Lib.LaidTab
import Derived.Test.YtdkcjecllbdljaaDoorRows
import Derived.Test.YtdkcjecllbdljaaDoorCFnExactCodeText43
import Derived.Test.YtdkcjecllbdljaaDoorCFnExactCodeText45
import Derived.Test.YtdkcjecllbdljaaDoorCFnExactCodeText52
import Derived.WalkKit
import Derived.ProofKit
import Derived.OpenShut
import Derived.ShutString
import Derived.ChangeOld
import Derived.Below
import Derived.SizedLaws
namespace Go.Proofs.YtdkcjecllbdljaaDoor.fnExactCodeText
open Go.ChangeShapes Go.WideShapes Go.ChangeAt Go.RowKit
open Go.Proofs.YtdkcjecllbdljaaDoor.Open Go.Proofs.YtdkcjecllbdljaaDoor.KindsCode Go.Proofs.YtdkcjecllbdljaaDoorW.PrintWords
set_option linter.unusedVariables false
theorem own:ownKnob Tryd.prog.godebug=none:=by kernel_rfl
theorem laidOut:laidOutB Tryd.prog=true:=by kernel_rfl
set_option maxRecDepth 100000 in
theorem tab_of (W:World) (hL:laidMetH Tryd.prog Rows.fnExactCodeTextRow.laid W):Shelf2.Tab W:=by
  rw [MakeChecks.laidMetH_plain _ _ _ (by kernel_rfl)] at hL
  have h:=laidMet.tail (laidMet.tail hL)
  have e:(Rows.laid_internal_strconv_uint64pow10:DataW Unit)=Lib.tabData .u64 Lib.pow10Tab:=by kernel_rfl
  rw [e] at h
  exact Lib.tabIs_of_head (g:=0) (t:=112) (e:=99) (n:=20) (by kernel_rfl) (by kernel_rfl) Tryd.underlying112 Tryd.underlying99 (by kernel_rfl) (by kernel_rfl) h
set_option maxRecDepth 100000 in
theorem lifted (os:Os) (started:os.Started) (H:Type) (enc:TypeId × Value→H) :
    ReturnsInHanded {} Tryd.checked os 3 .any (fun w args=>(Rows.fnExactCodeTextSpec.pre enc Tryd.prog Tryd.f3 Rows.fnExactCodeTextRow.domain false w args∧laidMetH Tryd.prog Rows.fnExactCodeTextRow.laid w)∧sizedMet enc Tryd.prog Tryd.f3 (OpenSpec.ofChange Rows.fnExactCodeTextSpec) false w args) (Rows.fnExactCodeTextSpec.post enc Tryd.prog Tryd.f3 false true false false):=by
  refine returnsInHanded_of_change_and (C:=Tryd.checked) (X:=fun w _=>laidMetH Tryd.prog Rows.fnExactCodeTextRow.laid w) (fun _ _ _ hh h=>h.of_heap hh) own started (by kernel_rfl) Tryd.func3
    (ChangeSpec.witness_shaped (enc:=enc) (C:=Tryd.checked) (os:=os) (X:=fun w _=>laidMetH Tryd.prog Rows.fnExactCodeTextRow.laid w) false (World.laidAll Tryd.prog os Rows.fnExactCodeTextRow.laid) #[.slice none 0 0] 8 (World.laidAll_os _ _ _)
      (World.shaped_of_ZipB (by kernel_rfl) (by kernel_rfl)) (by kernel_rfl) (by kernel_rfl) (by kernel_rfl)
      (by rw [MakeChecks.laidMetH_plain _ _ _ (by kernel_rfl)];exact laidMet_laidAll _ (by kernel_rfl) (by kernel_rfl))) ?_
  intro W base args ds gs before hval0 hW hcnd hsz0 hL _
  have hval:∀ (j:Nat) t v,Tryd.f3.params[j]?=some t→args[j]?=some v→Value.okWide Tryd.prog W .any base t v:=hval0
  have hW':=hW
  obtain ⟨p,q,hA0,hV,rfl,hfz,hnd⟩:=hW
  have hA:DataW.TrodAll enc Tryd.prog W 0 (fun _=>true) true Tryd.f3.params.toList args.toList ds p:=hA0
  rw [Tryd.params3] at hA hval
  obtain ⟨v0,vs0,d0,ds0,p0,q0,hargs,rfl,rfl,h0,r0⟩:=trodAll_cons hA
  obtain ⟨rfl,rfl,rfl⟩:=trodAll_nil r0
  obtain rfl:args=#[v0]:=by cases args;simp_all
  obtain ⟨rfl,rfl⟩:=trodVars_none hV
  obtain ⟨a0,len0,cap0,rfl⟩:=okWide_slice Tryd.underlying22 (hval 0 22 v0 rfl rfl)
  have k0:=h0
  have lt0:∀ x ∈ p0,x.block<W.heap.size:=by obtain ⟨m,hm⟩:=k0;exact DataW.trod_lt m _ _ _ hm
  obtain ⟨z0,rfl,c0,m0,C0,w0⟩:=slice_arg Tryd.underlying22 (opens41 (enc:=enc)) h0
  clear hA0 hval0 hsz0
  obtain ⟨k,hk⟩:=Pure.FnExactCodeText z0 w0 (by unfold maxLen at m0;omega)
  have htab:=tab_of W hL
  refine (GCode.Ze.calls k a0 cap0 z0 true W C0 c0 hk htab).mono fun e W' ⟨he,bel⟩=>?_
  subst he
  exact ⟨_,rfl,_,_,_,[],_,[],hW',trodAll_mk1 (shut_bool Tryd.underlying4 _),(trodAll_cons_mk (Below.trod laidOut (by kernel_rfl) (of_decide_eq_true (by kernel_rfl)) k0 bel lt0) trodAll_mk0),rfl,bel.frame _,fun h=>by cases h⟩
theorem over:Rows.fnExactCodeTextRow.holds Tryd.pinned (OpenSpec.ofChange Rows.fnExactCodeTextSpec):=
  OpenClaim.holds_of_wide 3 Tryd.f3 rfl rfl rfl rfl rfl rfl rfl ⟨rfl,rfl,rfl,rfl,rfl⟩ rfl rfl rfl rfl rfl (by kernel_rfl) Tryd.func3 (by kernel_rfl)
    (of_decide_eq_true (by kernel_rfl)) (by unfold Func.isWrapper;first|(rw [if_pos (by decide +kernel)];kernel_rfl)|(rw [if_neg (by decide +kernel)];exact ⟨rfl,rfl⟩))
    (fun os started H enc _=>lifted os started H enc)
theorem card:Rows.FnExactCodeTextCardSaid:=
  Claim7.holds_tied_plain_at .later [] [.data,.data,.data] true (true,"5b0846f9bbf2f265ce1bdbc7800bc04d0a81f44f1dd17078c79363a38bbf5202") false over (fun _ h=>by cases h) (by kernel_rfl) (fun _ h=>by cases h) fnExactCodeText_row_tie rfl ⟨rfl,rfl⟩ (by kernel_rfl) rfl
    (fun f fn hf hfn=>by
      obtain rfl:f=3:=Option.some.inj ((show Tryd.prog.funcNamed "loop.example/changeringer/laws.FnExactCodeText" = some 3 by kernel_rfl).symm.trans hf)|>.symm
      obtain rfl:fn=Tryd.f3:=(Option.some.inj (Tryd.func3.symm.trans hfn)).symm
      exact ⟨by kernel_rfl,fun j t ht=>by
        rw [Tryd.params3] at ht
        have hm:t ∈ [22]:=by simpa using Array.mem_of_getElem? ht
        have hall:([22].all fun u=>!Tryd.prog.wantsStandIn u)=true:=by kernel_rfl
        exact (show Tryd.prog.wantsStandIn t=false by simpa using List.all_eq_true.1 hall t hm)⟩)
    (by kernel_rfl)
end Go.Proofs.YtdkcjecllbdljaaDoor.fnExactCodeText
namespace Go.Proofs.YtdkcjecllbdljaaDoor
theorem fnExactCodeText_holds:Rows.FnExactCodeTextCardSaid:=fnExactCodeText.card
end Go.Proofs.YtdkcjecllbdljaaDoor
