/- The row of the law laws.FnSlimKeep: it returns true for every input that its statement admits. Conditions: none but the row's own. -/
import Derived.Test.YtokajnfbiddpjaaCFnSlimKeep76
import Derived.Test.YtokajnfbiddpjaaCFnSlimKeep79
import Derived.Test.YtokajnfbiddpjaaCFnSlimKeep84
import Derived.Test.YtokajnfbiddpjaaCFnSlimKeep63
import Derived.SizedLaws
import Derived.ChangeSlices
import Derived.Test.YtokajnfbiddpjaaRows
import Derived.WalkKit
import Derived.ProofKit
import Derived.OpenShut
import Derived.ShutString
import Derived.ChangeOld
import Derived.Below
set_option maxRecDepth 100000
namespace Go.Proofs.Ytokajnfbiddpjaa.Pure
open Go.RowKit Go.Proofs.Ytokajnfbiddpjaa.GSlim Go.Proofs.YtokajnfbiddpjaaW.PrintWords Go.Proofs.YtokajnfbiddpjaaW.PrintLast Go.Proofs.YtokajnfbiddpjaaW.PrintMore Go.Proofs.Ytokajnfbiddpjaa.Evt
set_option linter.unusedVariables false
set_option linter.unusedSimpArgs false
theorem drop_at {c:List Ins} {i:Nat} (h:i<c.length):c.drop i=at_ c i :: c.drop (i+1):=by rw [at_lt h];exact List.drop_eq_getElem_cons h
theorem sk_loop {c x:List Ins} (hc:c.length≤60) (hx:x.length≤60):∀ (d i j:Nat),i+d=c.length→j≤x.length→Ur (c.drop i) (x.drop j)→Evt (fun k=>Xo.l0 k c x (j:Int) (i:Int)) true
  |0,i,j,hi,hj,h=>by
    rw [List.drop_eq_nil_of_le (by omega)] at h
    have hjx:j=x.length:=by
      generalize hy:x.drop j=y at h
      cases h
      have:=List.drop_eq_nil_iff.1 hy
      omega
    refine Evt.step ?_
    simp only [Xo.l0]
    refine Evt.neg (by omega) ?_
    rw [hjx,beq_self_eq_true]
    exact Evt.pure _
  |d+1,i,j,hi,hj,h=>by
    have hil:i<c.length:=by omega
    rw [drop_at hil] at h
    refine Evt.step ?_
    simp only [Xo.l0,rdA]
    refine Evt.pos (by omega) (Evt.pos (by omega) ?_)
    by_cases h7:(at_ c i).f0=7
    · refine Evt.pos h7 ?_
      by_cases hjl:j<x.length
      · rw [drop_at hjl] at h
        refine Evt.pos (by omega) (Evt.pos (by omega) (Evt.step ?_))
        simp only [Xo.j2]
        rw [w64n i (by omega),w64n j (by omega)]
        by_cases hx7:(at_ x j).f0=7
        · exact Evt.pos (beq_iff_eq.2 hx7) (sk_loop hc hx d (i+1) (j+1) (by omega) (by omega) (keeps_jump1 h hx7))
        · refine Evt.neg (by rw [beq_iff_eq];exact hx7) (sk_loop hc hx d (i+1) j (by omega) hj ?_)
          rw [drop_at hjl]
          exact keeps_jump0 h h7 (fun t y e=>by rw [← (List.cons.inj e).1];exact hx7)
      · refine Evt.neg (by omega) (Evt.step ?_)
        simp only [Xo.j2]
        rw [w64n i (by omega)]
        refine Evt.neg (by simp) (sk_loop hc hx d (i+1) j (by omega) hj (keeps_jump0 h h7 (fun t y e=>?_)))
        rw [List.drop_eq_nil_of_le (by omega)] at e
        cases e
    · refine Evt.neg h7 ?_
      obtain ⟨t,y,e,hl,hk⟩:=keeps_other h h7
      have hjl:j<x.length:=Classical.byContradiction (fun hn=>by
        rw [List.drop_eq_nil_of_le (by omega)] at e
        cases e)
      rw [drop_at hjl] at e
      obtain ⟨rfl,rfl⟩:=List.cons.inj e
      have next:=sk_loop hc hx d (i+1) (j+1) (by omega) (by omega) hk
      rw [w64n i (by omega),w64n j (by omega)]
      refine Evt.neg (by omega) (Evt.pos (by omega) (Evt.pos (by omega) (Evt.pos hl.1 (Evt.pos hl.2.1 (Evt.pos hl.2.2.1 ?_)))))
      by_cases h6:(at_ c i).f0=6
      · exact Evt.pos h6 next
      · exact Evt.neg h6 (Evt.pos (hl.2.2.2 h6 h7) next)
theorem FnSlimKeep:Xo.Pure:=by
  intro l0 _ _ hw
  suffices h:Evt (fun k=>Xo.f k l0) true from h.get
  unfold Xo.f
  by_cases hbig:(l0.length:Int) > 1048576
  · exact Evt.pos hbig (Evt.pure _)
  refine Evt.neg hbig ?_
  obtain ⟨l,hd,hs⟩:=drawList_ok l0 hw
  obtain ⟨ec,ic⟩:=Stmts.codeOf_both l hs
  obtain ⟨es,_⟩:=Stmts.stmtsOk_both l hs
  refine Evt.bind hd ?_
  rw [ic]
  simp only [Option.bind_some]
  have hlen:(Stmts.codeOf l).length≤1048576:=by
    unfold Stmts.codeOf
    cases hk:Stmts.okB l
    · rw [if_neg (by simp)];simp
    · have:=(Stmts.codeOf_fine l hs hk).most
      unfold Stmts.codeOf at this
      rw [hk] at this
      omega
  obtain ⟨r,h1,h2,h3,h4⟩:=slim_both (Stmts.codeOf l) hlen
  obtain ⟨b,_,_,e3,e4⟩:=codeSame_both r r (by omega)
  obtain rfl:=e4.2 rfl
  refine Evt.bind h1 (Evt.bind ec (Evt.bind h2 (Evt.bind e3 (Evt.pos rfl (Evt.bind es (Evt.step ?_))))))
  simp only [Xo.j0]
  cases hk:Stmts.okB l
  · exact Evt.pos (by simp) (Evt.bind ec (Evt.bind h2 (Evt.bind e3 (Evt.pure _))))
  · refine Evt.neg (by simp) ?_
    have F:=Stmts.codeOf_fine l hs hk
    rcases h4 with ⟨hok,e2,rfl⟩|⟨_,e2⟩
    · refine sk_loop (by have:=F.most;omega) h3 (Stmts.codeOf l).length 0 0 (by omega) (by omega) ?_
      simp only [List.drop_zero]
      exact keeps_N 60 _ F.ok (fun i hi _=>F.all i hi)
    · obtain ⟨_,e5,_⟩:=F.ok.code
      have:=Evt.unique e5 e2
      cases this
end Go.Proofs.Ytokajnfbiddpjaa.Pure
namespace Go.Proofs.YtokajnfbiddpjaaW.PrintWords
open Go.ChangeShapes Go.WideShapes
theorem sized_ints {H:Type} {enc:TypeId × Value→H} {P:Program} {W:World} {base:Nat} {spare:Nat→Bool} {held:Bool} {t e:TypeId} {k:IntKind} {a:Option Addr} {len cap:Nat} {d:DataW H} {ps:List MemPlace} {ts:List TypeId} {ds:List (DataW H)} {j:Nat}
    (hsz:(DataW.weightsEach P ts ds).all (·≤reachBytes)=true) (ht:ts[j]?=some t) (hd:ds[j]?=some d) (hu:P.underlying t=some (.slice e)) (he:P.underlying e=some (.int k)) (hc:P.cellsOf e=1) {B:Nat} (hB:P.bytesOf e=B)
    (h:DataW.Trod enc P W base spare held t (.slice a len cap) d ps):len * B≤140737488351232:=by
  obtain ⟨fuel,hf⟩:=h
  rcases open_ints hu he hc hf with ⟨hcs,_⟩|⟨x,l,c,zs,hcs,_,hl,_,hz,hx,_,_⟩
  · simp [Value.cells] at hcs
    obtain ⟨rfl,rfl,rfl⟩:=hcs
    simp
  · simp [Value.cells] at hcs
    obtain ⟨rfl,rfl,rfl⟩:=hcs
    obtain ⟨hx,_⟩:=Prod.mk.inj hx
    subst hx
    have z:=sized_slice hsz ht hd hu
    rw [hB] at z
    have hl2:len≤zs.length:=by
      rw [hz]
      split
      · exact hl
      · exact Nat.le_refl _
    have h1:(lits (H:=H) k (zs.take len)).length+(lits (H:=H) k (zs.drop len)).length=zs.length:=by
      simp [lits]
      omega
    rw [h1] at z
    exact Nat.le_trans (Nat.mul_le_mul_right _ hl2) z
end Go.Proofs.YtokajnfbiddpjaaW.PrintWords
namespace Go.Proofs.Ytokajnfbiddpjaa.fnSlimKeep
open Go.ChangeShapes Go.WideShapes Go.ChangeAt Go.RowKit
open Go.ChangeMaps (open_string shut_string)
set_option linter.unusedVariables false
theorem own:ownKnob Try.prog.godebug=none:=by kernel_rfl
theorem laidOut:laidOutB Try.prog=true:=by kernel_rfl
def IsRow (k:IntKind) (w:World) (a:Option Addr) (len cap:Nat) (zs:List Int):Prop:=
  (a=none∧len=0∧cap=0∧zs=[])∨
  ∃ x,a=some x∧len≤cap∧cap≤maxLen∧zs.length=cap∧(∀ i,i<zs.length→w.cell? (x.add i)=some (.int k (zs.getD i 0)))∧∀ n ∈ zs,(Lit.int k n).wf=true
theorem lifted (os:Os) (started:os.Started) (H:Type) (enc:TypeId × Value→H) :
    ReturnsInHanded {} Try.checked os 3 .any (Rows.fnSlimKeepSpec.pre6 enc Try.prog Try.f3 Rows.fnSlimKeepRow.domain false) (Rows.fnSlimKeepSpec.post enc Try.prog Try.f3 false true false false):=by
  refine returnsInHanded_of_change_sized (C:=Try.checked) own started (by kernel_rfl) Try.func3
    (ChangeSpec.witness6 (enc:=enc) (C:=Try.checked) false ⟨#[],#[.slice none 0 0],[]⟩ 8 (by kernel_rfl) (by kernel_rfl) (by kernel_rfl) (by kernel_rfl)) ?_
  intro W base args ds gs before hval0 hW hcnd hsz0 _
  have hsz:(DataW.weightsEach Try.prog (Try.f3.params.toList ++ Rows.fnSlimKeepSpec.plain.varTypes Try.prog) (ds ++ gs)).all (·≤reachBytes)=true:=hsz0
  have hval:∀ (j:Nat) t v,Try.f3.params[j]?=some t→args[j]?=some v→Value.okWide Try.prog W .any base t v:=hval0
  have hW':=hW
  obtain ⟨p,q,aB,hV,rfl,hfz,hnd⟩:=hW
  have hA:DataW.TrodAll enc Try.prog W 0 (fun _=>true) true Try.f3.params.toList args.toList ds p:=aB
  rw [Try.params3] at hA hval hsz
  obtain ⟨v0,vs0,d0,ds0,p0,q0,hargs,rfl,rfl,h0,r0⟩:=trodAll_cons hA
  obtain ⟨rfl,rfl,rfl⟩:=trodAll_nil r0
  obtain rfl:args=#[v0]:=by cases args;simp_all
  obtain ⟨rfl,rfl⟩:=trodVars_none hV
  obtain ⟨a0,aA,cap0,rfl⟩:=okWide_slice Try.underlying22 (hval 0 22 v0 rfl rfl)
  have k0:=h0
  have aC:∀ x ∈ p0,x.block<W.heap.size:=by obtain ⟨m,hm⟩:=k0;exact DataW.trod_lt m _ _ _ hm
  obtain ⟨z0,w0⟩:∃ zs,IsRow .u8 W a0 aA cap0 zs:=by
    obtain ⟨fuel,hf⟩:=h0
    rcases open_ints Try.underlying22 Try.underlying5 (by kernel_rfl) hf with ⟨hcs,_⟩|⟨x,l,c,zs,hcs,_,hl,hm,hz,_,hcell,hwz⟩
    · simp [Value.cells] at hcs
      obtain ⟨rfl,rfl,rfl⟩:=hcs
      exact ⟨[],.inl ⟨rfl,rfl,rfl,rfl⟩⟩
    · simp [Value.cells] at hcs
      obtain ⟨rfl,rfl,rfl⟩:=hcs
      exact ⟨zs,.inr ⟨_,rfl,hl,hm,by simpa using hz,hcell,hwz⟩⟩
  have y0:aA * 1≤140737488351232:=Go.Proofs.YtokajnfbiddpjaaW.PrintWords.sized_ints hsz (j:=0) (t:=22) rfl rfl Try.underlying22 Try.underlying5 (by kernel_rfl) (by kernel_rfl) h0
  clear aB hval0 hsz0 hsz
  refine (GSlim.Xo.walk Pure.FnSlimKeep a0 aA cap0 z0 W w0 y0).mono fun e W' ⟨he,bel⟩=>?_
  subst he
  exact ⟨_,rfl,_,_,_,[],_,[],hW',trodAll_mk1 (shut_bool Try.underlying4 _),(trodAll_cons_mk (Below.trod laidOut (by kernel_rfl) (of_decide_eq_true (by kernel_rfl)) k0 bel aC) trodAll_mk0),rfl,bel.frame _,fun h=>by cases h⟩
theorem over:Rows.fnSlimKeepRow.holds Try.pinned (OpenSpec.ofChange Rows.fnSlimKeepSpec):=
  OpenClaim.holds_of_wide 3 Try.f3 rfl rfl rfl rfl rfl rfl rfl ⟨rfl,rfl,rfl,rfl,rfl⟩ rfl rfl rfl rfl rfl (by kernel_rfl) Try.func3 (by kernel_rfl)
    (of_decide_eq_true (by kernel_rfl)) (by unfold Func.isWrapper;first|(rw [if_pos (by decide +kernel)];kernel_rfl)|(rw [if_neg (by decide +kernel)];exact ⟨rfl,rfl⟩))
    (fun os started H enc _=>lifted os started H enc)
theorem proved:Rows.FnSlimKeepSaid:=over
end Go.Proofs.Ytokajnfbiddpjaa.fnSlimKeep
namespace Go.Proofs.Ytokajnfbiddpjaa
theorem fnSlimKeep_holds:Rows.FnSlimKeepSaid:=fnSlimKeep.proved
end Go.Proofs.Ytokajnfbiddpjaa
