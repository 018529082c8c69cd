/- The row of the law laws.FnSlim: it returns true for every input that its statement admits. Conditions: none but the row's own. -/
import Derived.Test.YtdkcjecllbdljaaCFnSlim73
import Derived.Test.YtdkcjecllbdljaaCFnSlim77
import Derived.Test.YtdkcjecllbdljaaCFnSlim61
import Derived.SizedLaws
import Derived.ChangeSlices
import Derived.Test.YtdkcjecllbdljaaRows
import Derived.WalkKit
import Derived.ProofKit
import Derived.OpenShut
import Derived.ShutString
import Derived.ChangeOld
import Derived.Below
namespace Go.Proofs.Ytdkcjecllbdljaa.Pure
open Go.RowKit Go.Proofs.Ytdkcjecllbdljaa.GSlim Go.Proofs.YtdkcjecllbdljaaW.PrintWords Go.Proofs.YtdkcjecllbdljaaW.PrintLast Go.Proofs.YtdkcjecllbdljaaW.PrintMore Go.Proofs.Ytdkcjecllbdljaa.Evt
set_option linter.unusedVariables false
open Classical in
theorem sl_loop {c x:List Ins} (h:Ok x) (hf:pass2 x=x) (hl:x.length≤c.length):∀ (d i:Nat),i+d+1=x.length→Evt (fun k=>Zh.l0 k c x (Vw x) (i:Int)) true
  |0,i,hi=>by
    have hm:=h.1.most
    obtain ⟨e1,_,_⟩:=h.code
    have e2:Evt (fun k=>We.f k x) x:=by
      obtain ⟨r,h1,_,_,h4⟩:=slim_both x (by omega)
      rcases h4 with ⟨_,_,rfl⟩|⟨_,h5⟩
      · rwa [slimN_fixed hf] at h1
      · obtain ⟨_,e3,_⟩:=h.code
        have:=Evt.unique e3 h5
        cases this
    obtain ⟨r,_,_,e3,e4⟩:=codeSame_both x x (by omega)
    obtain rfl:=e4.2 rfl
    refine Evt.step ?_
    simp only [Zh.l0,length_reachB]
    rw [w64n i (by omega)]
    exact Evt.neg (by omega) (Evt.bind e1 (Evt.pos rfl (Evt.pos (by omega) (Evt.bind e2 (Evt.bind e3 (Evt.pure _))))))
  |d+1,i,hi=>by
    have hm:=h.1.most
    have ih:=sl_loop h hf hl d (i+1) (by omega)
    refine Evt.step ?_
    simp only [Zh.l0,length_reachB,rdOf_nat,reachB_get (show i<x.length by omega)]
    rw [w64n i (by omega)]
    exact Evt.pos (by omega) (Evt.pos (by omega) (Evt.pos (by omega) (Evt.pos (decide_eq_true (fixed_reach h hf (by omega))) ih)))
theorem FnSlim:Zh.Pure:=by
  intro l0 _ _ hw
  suffices h:Evt (fun k=>Zh.f k l0) true from h.get
  unfold Zh.f
  by_cases hbig:(l0.length:Int) > 1048576
  · exact Evt.pos hbig (Evt.pure _)
  refine Evt.neg hbig ?_
  obtain ⟨c,hd,hc⟩:=drawSlim_ok l0 hw
  have hd2:Evt (fun k=>spec_DrawSlim.f k l0) c:=by
    unfold spec_DrawSlim.f
    exact Evt.bind hd (Evt.pure _)
  refine Evt.bind hd2 ?_
  obtain ⟨r,h1,h2,h3,h4⟩:=slim_both c (by omega)
  obtain ⟨b,_,_,e3,e4⟩:=codeSame_both r r (by omega)
  obtain rfl:=e4.2 rfl
  refine Evt.bind h1 (Evt.bind h2 (Evt.bind e3 (Evt.pos rfl ?_)))
  rcases h4 with ⟨hok,e2,rfl⟩|⟨rfl,e2⟩
  · have hx:=slimN_ok 60 c hok
    have hp:=hx.1.pos
    obtain ⟨e1,_,_⟩:=hx.code
    have e6:Evt (fun k=>Ur.f k (slimN 60 c)) (Vw (slimN 60 c)):=by
      unfold Ur.f
      exact Evt.bind e1 (Evt.pos rfl (Evt.bind (impl_reach_ev hx.1) (Evt.pure _)))
    exact Evt.bind e2 (Evt.pos rfl (Evt.bind e6 (sl_loop hx (slimN_end 60 c hok hok.1.most) (length_slimN 60 c) ((slimN 60 c).length - 1) 0 (by omega))))
  · exact Evt.bind e2 (Evt.neg (by simp) (Evt.pure _))
end Go.Proofs.Ytdkcjecllbdljaa.Pure
namespace Go.Proofs.YtdkcjecllbdljaaW.PrintWords
open Go.ChangeShapes Go.WideShapes
theorem sized_ints {H:Type} {enc:TypeId × Value→H} {P:Program} {W:World} {base:Nat} {spare:Nat→Bool} {held:Bool} {t e:TypeId} {k:IntKind} {a:Option Addr} {len cap:Nat} {d:DataW H} {ps:List MemPlace} {ts:List TypeId} {ds:List (DataW H)} {j:Nat}
    (hsz:(DataW.weightsEach P ts ds).all (·≤reachBytes)=true) (ht:ts[j]?=some t) (hd:ds[j]?=some d) (hu:P.underlying t=some (.slice e)) (he:P.underlying e=some (.int k)) (hc:P.cellsOf e=1) {B:Nat} (hB:P.bytesOf e=B)
    (h:DataW.Trod enc P W base spare held t (.slice a len cap) d ps):len * B≤140737488351232:=by
  obtain ⟨fuel,hf⟩:=h
  rcases open_ints hu he hc hf with ⟨hcs,_⟩|⟨x,l,c,zs,hcs,_,hl,_,hz,hx,_,_⟩
  · simp [Value.cells] at hcs
    obtain ⟨rfl,rfl,rfl⟩:=hcs
    simp
  · simp [Value.cells] at hcs
    obtain ⟨rfl,rfl,rfl⟩:=hcs
    obtain ⟨hx,_⟩:=Prod.mk.inj hx
    subst hx
    have z:=sized_slice hsz ht hd hu
    rw [hB] at z
    have hl2:len≤zs.length:=by
      rw [hz]
      split
      · exact hl
      · exact Nat.le_refl _
    have h1:(lits (H:=H) k (zs.take len)).length+(lits (H:=H) k (zs.drop len)).length=zs.length:=by
      simp [lits]
      omega
    rw [h1] at z
    exact Nat.le_trans (Nat.mul_le_mul_right _ hl2) z
end Go.Proofs.YtdkcjecllbdljaaW.PrintWords
namespace Go.Proofs.Ytdkcjecllbdljaa.fnSlim
open Go.ChangeShapes Go.WideShapes Go.ChangeAt Go.RowKit
open Go.ChangeMaps (open_string shut_string)
set_option linter.unusedVariables false
theorem own:ownKnob Try.prog.godebug=none:=by kernel_rfl
theorem laidOut:laidOutB Try.prog=true:=by kernel_rfl
def IsRow (k:IntKind) (w:World) (a:Option Addr) (len cap:Nat) (zs:List Int):Prop:=
  (a=none∧len=0∧cap=0∧zs=[])∨
  ∃ x,a=some x∧len≤cap∧cap≤maxLen∧zs.length=cap∧(∀ i,i<zs.length→w.cell? (x.add i)=some (.int k (zs.getD i 0)))∧∀ n ∈ zs,(Lit.int k n).wf=true
set_option maxRecDepth 100000 in
theorem lifted (os:Os) (started:os.Started) (H:Type) (enc:TypeId × Value→H) :
    ReturnsInHanded {} Try.checked os 5 .any (Rows.fnSlimSpec.pre6 enc Try.prog Try.f5 Rows.fnSlimRow.domain false) (Rows.fnSlimSpec.post enc Try.prog Try.f5 false true false false):=by
  refine returnsInHanded_of_change_sized (C:=Try.checked) own started (by kernel_rfl) Try.func5
    (ChangeSpec.witness6 (enc:=enc) (C:=Try.checked) false ⟨#[],#[.slice none 0 0],[]⟩ 8 (by kernel_rfl) (by kernel_rfl) (by kernel_rfl) (by kernel_rfl)) ?_
  intro W base args ds gs before hval0 hW hcnd hsz0 _
  have hsz:(DataW.weightsEach Try.prog (Try.f5.params.toList ++ Rows.fnSlimSpec.plain.varTypes Try.prog) (ds ++ gs)).all (·≤reachBytes)=true:=hsz0
  have hval:∀ (j:Nat) t v,Try.f5.params[j]?=some t→args[j]?=some v→Value.okWide Try.prog W .any base t v:=hval0
  have hW':=hW
  obtain ⟨p,q,hA0,hV,rfl,hfz,hnd⟩:=hW
  have hA:DataW.TrodAll enc Try.prog W 0 (fun _=>true) true Try.f5.params.toList args.toList ds p:=hA0
  rw [Try.params5] at hA hval hsz
  obtain ⟨v0,vs0,d0,ds0,p0,q0,hargs,rfl,rfl,h0,r0⟩:=trodAll_cons hA
  obtain ⟨rfl,rfl,rfl⟩:=trodAll_nil r0
  obtain rfl:args=#[v0]:=by cases args;simp_all
  obtain ⟨rfl,rfl⟩:=trodVars_none hV
  obtain ⟨a0,len0,cap0,rfl⟩:=okWide_slice Try.underlying22 (hval 0 22 v0 rfl rfl)
  have k0:=h0
  have lt0:∀ x ∈ p0,x.block<W.heap.size:=by obtain ⟨m,hm⟩:=k0;exact DataW.trod_lt m _ _ _ hm
  obtain ⟨z0,w0⟩:∃ zs,IsRow .u8 W a0 len0 cap0 zs:=by
    obtain ⟨fuel,hf⟩:=h0
    rcases open_ints Try.underlying22 Try.underlying5 (by kernel_rfl) hf with ⟨hcs,_⟩|⟨x,l,c,zs,hcs,_,hl,hm,hz,_,hcell,hwz⟩
    · simp [Value.cells] at hcs
      obtain ⟨rfl,rfl,rfl⟩:=hcs
      exact ⟨[],.inl ⟨rfl,rfl,rfl,rfl⟩⟩
    · simp [Value.cells] at hcs
      obtain ⟨rfl,rfl,rfl⟩:=hcs
      exact ⟨zs,.inr ⟨_,rfl,hl,hm,by simpa using hz,hcell,hwz⟩⟩
  have y0:len0 * 1≤140737488351232:=Go.Proofs.YtdkcjecllbdljaaW.PrintWords.sized_ints hsz (j:=0) (t:=22) rfl rfl Try.underlying22 Try.underlying5 (by kernel_rfl) (by kernel_rfl) h0
  clear hA0 hval0 hsz0 hsz
  refine (GSlim.Zh.walk Pure.FnSlim a0 len0 cap0 z0 W w0 y0).mono fun e W' ⟨he,bel⟩=>?_
  subst he
  exact ⟨_,rfl,_,_,_,[],_,[],hW',trodAll_mk1 (shut_bool Try.underlying4 _),(trodAll_cons_mk (Below.trod laidOut (by kernel_rfl) (of_decide_eq_true (by kernel_rfl)) k0 bel lt0) trodAll_mk0),rfl,bel.frame _,fun h=>by cases h⟩
theorem over:Rows.fnSlimRow.holds Try.pinned (OpenSpec.ofChange Rows.fnSlimSpec):=
  OpenClaim.holds_of_wide 5 Try.f5 rfl rfl rfl rfl rfl rfl rfl ⟨rfl,rfl,rfl,rfl,rfl⟩ rfl rfl rfl rfl rfl (by kernel_rfl) Try.func5 (by kernel_rfl)
    (of_decide_eq_true (by kernel_rfl)) (by unfold Func.isWrapper;first|(rw [if_pos (by decide +kernel)];kernel_rfl)|(rw [if_neg (by decide +kernel)];exact ⟨rfl,rfl⟩))
    (fun os started H enc _=>lifted os started H enc)
theorem proved:Rows.FnSlimSaid:=over
end Go.Proofs.Ytdkcjecllbdljaa.fnSlim
namespace Go.Proofs.Ytdkcjecllbdljaa
theorem fnSlim_holds:Rows.FnSlimSaid:=fnSlim.proved
end Go.Proofs.Ytdkcjecllbdljaa
