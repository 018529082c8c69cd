import Derived.Test.YtjmlpgpkmhjdiaaCFnSlimJumps75
import Derived.Test.YtjmlpgpkmhjdiaaCFnSlimJumps77
import Derived.Test.YtjmlpgpkmhjdiaaCFnSlimJumps81
import Derived.Test.YtjmlpgpkmhjdiaaCFnSlimJumps66
import Derived.SizedLaws
import Derived.ChangeSlices
import Derived.Test.YtjmlpgpkmhjdiaaRows
import Derived.WalkKit
import Derived.ProofKit
import Derived.OpenShut
import Derived.ShutString
import Derived.ChangeOld
import Derived.Below
namespace Go.Proofs.Ytjmlpgpkmhjdiaa.Pure
open Go.RowKit Go.Proofs.Ytjmlpgpkmhjdiaa.GSlim Go.Proofs.YtjmlpgpkmhjdiaaW.PrintWords Go.Proofs.YtjmlpgpkmhjdiaaW.PrintLast Go.Proofs.YtjmlpgpkmhjdiaaW.PrintMore Go.Proofs.Ytjmlpgpkmhjdiaa.Evt
set_option linter.unusedVariables false
theorem sj_loop {c:List Ins} (hok:Ok c):∀ (d i:Nat),i+d=c.length→Evt (fun k=>Xr.l0 k c (Va c) (i:Int)) true
  |0,i,h=>by
    have hv:=hok.1
    have hm:=hv.most
    have hl:=Vf c
    have hj:=hok.jumps
    obtain ⟨e1,_,_⟩:=hj.code
    obtain ⟨r,_,_,e3,e4⟩:=codeSame_both (Va (Va c)) (Va c) (by rw [Vf,Vf];omega)
    obtain rfl:=e4.2 (slimJ_idem hv)
    have e2:Evt (fun k=>Za.f k (Va c)) (Va (Va c)):=by
      unfold Za.f
      exact Evt.bind e1 (Evt.pos rfl (Evt.bind (impl_jumps_ev hj) (Evt.pure _)))
    refine Evt.step ?_
    simp only [Xr.l0]
    exact Evt.neg (by omega) (Evt.bind e1 (Evt.pos rfl (Evt.pos (by omega) (Evt.bind e2 (Evt.bind e3 (Evt.pure _))))))
  |d+1,i,h=>by
    have hv:=hok.1
    have hm:=hv.most
    have hl:=Vf c
    have hi:i<c.length:=by omega
    have ih:=sj_loop hok d (i+1) (by omega)
    have e:=at_slimJ hi
    refine Evt.step ?_
    simp only [Xr.l0,rdA,e,jmp_f0,jmp_f1,jmp_f2]
    refine Evt.pos (by omega) (Evt.pos (by omega) (Evt.pos (by omega) (Evt.pos trivial (Evt.pos trivial (Evt.step ?_)))))
    simp only [Xr.j1,rdA,e,jmp_f0]
    rw [w64n i (by omega)]
    refine Evt.neg (by simp) (Evt.pos (by omega) (Evt.pos (by omega) ?_))
    have go:∀ (ho:(at_ c i).f0=7∨(at_ c i).f0=6),Evt (fun k=>if 0≤(jmp c (at_ c i)).f3 then (if (jmp c (at_ c i)).f3<((Va c).length:Int) then (if ((Xb (Va c) (jmp c (at_ c i)).f3).f0)=7 then (if (i:Int)<(c.length:Int) then (if (jmp c (at_ c i)).f3=(at_ c i).f3 then (Xr.l0 k c (Va c) ((i+1:Nat):Int)) else (some false)) else (none)) else (Xr.l0 k c (Va c) ((i+1:Nat):Int))) else (none)) else (none)) true:=fun ho=>by
      obtain ⟨t0,t1⟩:=hv.target hi ho.symm
      have hlt:=hv.goal_lt hi ho
      rw [jmp_f3 ho,rdA]
      refine Evt.pos (by omega) (Evt.pos (by omega) ?_)
      by_cases h7:(at_ (Va c) (goal c (at_ c i))).f0=7
      · refine Evt.pos h7 (Evt.pos (by omega) (Evt.pos ?_ ih))
        unfold goal at h7 ⊢
        cases hf:fol c (c.length+1) (at_ c i).f3.toNat with
        |none=>show (((at_ c i).f3.toNat:Nat):Int)=_;omega
        |some t=>
          rw [hf] at h7
          have h8:(at_ (Va c) t).f0=7:=h7
          have htl:=hv.fol_lt _ _ (show (at_ c i).f3.toNat<c.length by omega) t hf
          rw [at_slimJ htl,jmp_f0] at h8
          exact absurd h8 (fol_end c _ _ t hf)
      · exact Evt.neg h7 ih
    by_cases h7:(at_ c i).f0=7
    · exact Evt.pos h7 (go (Or.inl h7))
    · refine Evt.neg h7 ?_
      by_cases h6:(at_ c i).f0=6
      · exact Evt.pos h6 (go (Or.inr h6))
      · exact Evt.neg h6 ih
theorem FnSlimJumps:Xr.Pure:=by
  intro l0 _ _ hw
  suffices h:Evt (fun k=>Xr.f k l0) true from h.get
  unfold Xr.f
  by_cases hbig:(l0.length:Int) > 1048576
  · exact Evt.pos hbig (Evt.pure _)
  refine Evt.neg hbig ?_
  obtain ⟨c,hd,hc⟩:=drawSlim_ok l0 hw
  refine Evt.bind hd ?_
  rcases code_ok c (by omega) with ⟨hok,e1,e2⟩|⟨e1,e2⟩
  · have hm:=hok.1.most
    obtain ⟨r,_,_,e3,e4⟩:=codeSame_both (Va c) (Va c) (by rw [Vf];omega)
    obtain rfl:=e4.2 rfl
    have e5:Evt (fun k=>Za.f k c) (Va c):=by
      unfold Za.f
      exact Evt.bind e1 (Evt.pos rfl (Evt.bind (impl_jumps_ev hok) (Evt.pure _)))
    exact Evt.bind e5 (Evt.bind (spec_jumps_ev hok) (Evt.bind e3 (Evt.pos rfl (Evt.bind e2 (Evt.pos rfl (sj_loop hok c.length 0 (by omega)))))))
  · obtain ⟨r,_,_,e3,e4⟩:=codeSame_both [] [] (by simp)
    obtain rfl:=e4.2 rfl
    have e5:Evt (fun k=>Za.f k c) []:=by
      unfold Za.f
      exact Evt.bind e1 (Evt.neg (by simp) (Evt.pure _))
    have e6:Evt (fun k=>Yh.f k c) []:=by
      unfold Yh.f
      exact Evt.bind e2 (Evt.neg (by simp) (Evt.pure _))
    exact Evt.bind e5 (Evt.bind e6 (Evt.bind e3 (Evt.pos rfl (Evt.bind e2 (Evt.neg (by simp) (Evt.pure _))))))
end Go.Proofs.Ytjmlpgpkmhjdiaa.Pure
namespace Go.Proofs.YtjmlpgpkmhjdiaaW.PrintWords
open Go.ChangeShapes Go.WideShapes
theorem sized_ints {H:Type} {enc:TypeId × Value→H} {P:Program} {W:World} {base:Nat} {spare:Nat→Bool} {held:Bool} {t e:TypeId} {k:IntKind} {a:Option Addr} {len cap:Nat} {d:DataW H} {ps:List MemPlace} {ts:List TypeId} {ds:List (DataW H)} {j:Nat}
    (hsz:(DataW.weightsEach P ts ds).all (·≤reachBytes)=true) (ht:ts[j]?=some t) (hd:ds[j]?=some d) (hu:P.underlying t=some (.slice e)) (he:P.underlying e=some (.int k)) (hc:P.cellsOf e=1) {B:Nat} (hB:P.bytesOf e=B)
    (h:DataW.Trod enc P W base spare held t (.slice a len cap) d ps):len * B≤140737488351232:=by
  obtain ⟨fuel,hf⟩:=h
  rcases open_ints hu he hc hf with ⟨hcs,_⟩|⟨x,l,c,zs,hcs,_,hl,_,hz,hx,_,_⟩
  · simp [Value.cells] at hcs
    obtain ⟨rfl,rfl,rfl⟩:=hcs
    simp
  · simp [Value.cells] at hcs
    obtain ⟨rfl,rfl,rfl⟩:=hcs
    obtain ⟨hx,_⟩:=Prod.mk.inj hx
    subst hx
    have z:=sized_slice hsz ht hd hu
    rw [hB] at z
    have hl2:len≤zs.length:=by
      rw [hz]
      split
      · exact hl
      · exact Nat.le_refl _
    have h1:(lits (H:=H) k (zs.take len)).length+(lits (H:=H) k (zs.drop len)).length=zs.length:=by
      simp [lits]
      omega
    rw [h1] at z
    exact Nat.le_trans (Nat.mul_le_mul_right _ hl2) z
end Go.Proofs.YtjmlpgpkmhjdiaaW.PrintWords
namespace Go.Proofs.Ytjmlpgpkmhjdiaa.fnSlimJumps
open Go.ChangeShapes Go.WideShapes Go.ChangeAt Go.RowKit
open Go.ChangeMaps (open_string shut_string)
set_option linter.unusedVariables false
theorem own:ownKnob Try.prog.godebug=none:=by kernel_rfl
theorem laidOut:laidOutB Try.prog=true:=by kernel_rfl
def IsRow (k:IntKind) (w:World) (a:Option Addr) (len cap:Nat) (zs:List Int):Prop:=
  (a=none∧len=0∧cap=0∧zs=[])∨
  ∃ x,a=some x∧len≤cap∧cap≤maxLen∧zs.length=cap∧(∀ i,i<zs.length→w.cell? (x.add i)=some (.int k (zs.getD i 0)))∧∀ n ∈ zs,(Lit.int k n).wf=true
set_option maxRecDepth 100000 in
theorem lifted (os:Os) (started:os.Started) (H:Type) (enc:TypeId × Value→H) :
    ReturnsInHanded {} Try.checked os 13 .any (Rows.fnSlimJumpsSpec.pre6 enc Try.prog Try.f13 Rows.fnSlimJumpsRow.domain false) (Rows.fnSlimJumpsSpec.post enc Try.prog Try.f13 false true false false):=by
  refine returnsInHanded_of_change_sized (C:=Try.checked) own started (by kernel_rfl) Try.func13
    (ChangeSpec.witness6 (enc:=enc) (C:=Try.checked) false ⟨#[],#[.slice none 0 0],[]⟩ 8 (by kernel_rfl) (by kernel_rfl) (by kernel_rfl) (by kernel_rfl)) ?_
  intro W base args ds gs before hval0 hW hcnd hsz0 _
  have hsz:(DataW.weightsEach Try.prog (Try.f13.params.toList ++ Rows.fnSlimJumpsSpec.plain.varTypes Try.prog) (ds ++ gs)).all (·≤reachBytes)=true:=hsz0
  have hval:∀ (j:Nat) t v,Try.f13.params[j]?=some t→args[j]?=some v→Value.okWide Try.prog W .any base t v:=hval0
  have hW':=hW
  obtain ⟨p,q,hA0,hV,rfl,hfz,hnd⟩:=hW
  have hA:DataW.TrodAll enc Try.prog W 0 (fun _=>true) true Try.f13.params.toList args.toList ds p:=hA0
  rw [Try.params13] at hA hval hsz
  obtain ⟨v0,vs0,d0,ds0,p0,q0,hargs,rfl,rfl,h0,r0⟩:=trodAll_cons hA
  obtain ⟨rfl,rfl,rfl⟩:=trodAll_nil r0
  obtain rfl:args=#[v0]:=by cases args;simp_all
  obtain ⟨rfl,rfl⟩:=trodVars_none hV
  obtain ⟨a0,len0,cap0,rfl⟩:=okWide_slice Try.underlying25 (hval 0 25 v0 rfl rfl)
  have k0:=h0
  have lt0:∀ x ∈ p0,x.block<W.heap.size:=by obtain ⟨m,hm⟩:=k0;exact DataW.trod_lt m _ _ _ hm
  obtain ⟨z0,w0⟩:∃ zs,IsRow .u8 W a0 len0 cap0 zs:=by
    obtain ⟨fuel,hf⟩:=h0
    rcases open_ints Try.underlying25 Try.underlying5 (by kernel_rfl) hf with ⟨hcs,_⟩|⟨x,l,c,zs,hcs,_,hl,hm,hz,_,hcell,hwz⟩
    · simp [Value.cells] at hcs
      obtain ⟨rfl,rfl,rfl⟩:=hcs
      exact ⟨[],.inl ⟨rfl,rfl,rfl,rfl⟩⟩
    · simp [Value.cells] at hcs
      obtain ⟨rfl,rfl,rfl⟩:=hcs
      exact ⟨zs,.inr ⟨_,rfl,hl,hm,by simpa using hz,hcell,hwz⟩⟩
  have y0:len0 * 1≤140737488351232:=Go.Proofs.YtjmlpgpkmhjdiaaW.PrintWords.sized_ints hsz (j:=0) (t:=25) rfl rfl Try.underlying25 Try.underlying5 (by kernel_rfl) (by kernel_rfl) h0
  clear hA0 hval0 hsz0 hsz
  refine (GSlim.Xr.walk Pure.FnSlimJumps a0 len0 cap0 z0 W w0 y0).mono fun e W' ⟨he,bel⟩=>?_
  subst he
  exact ⟨_,rfl,_,_,_,[],_,[],hW',trodAll_mk1 (shut_bool Try.underlying4 _),(trodAll_cons_mk (Below.trod laidOut (by kernel_rfl) (of_decide_eq_true (by kernel_rfl)) k0 bel lt0) trodAll_mk0),rfl,bel.frame _,fun h=>by cases h⟩
theorem over:Rows.fnSlimJumpsRow.holds Try.pinned (OpenSpec.ofChange Rows.fnSlimJumpsSpec):=
  OpenClaim.holds_of_wide 13 Try.f13 rfl rfl rfl rfl rfl rfl rfl ⟨rfl,rfl,rfl,rfl,rfl⟩ rfl rfl rfl rfl rfl (by kernel_rfl) Try.func13 (by kernel_rfl)
    (of_decide_eq_true (by kernel_rfl)) (by unfold Func.isWrapper;first|(rw [if_pos (by decide +kernel)];kernel_rfl)|(rw [if_neg (by decide +kernel)];exact ⟨rfl,rfl⟩))
    (fun os started H enc _=>lifted os started H enc)
theorem proved:Rows.FnSlimJumpsSaid:=over
end Go.Proofs.Ytjmlpgpkmhjdiaa.fnSlimJumps
namespace Go.Proofs.Ytjmlpgpkmhjdiaa
theorem fnSlimJumps_holds:Rows.FnSlimJumpsSaid:=fnSlimJumps.proved
end Go.Proofs.Ytjmlpgpkmhjdiaa
