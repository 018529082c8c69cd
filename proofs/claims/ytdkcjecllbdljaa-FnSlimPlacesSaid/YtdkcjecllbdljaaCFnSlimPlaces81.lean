import Derived.Test.YtdkcjecllbdljaaCFnSlimPlaces58
import Derived.Test.YtdkcjecllbdljaaCFnSlimPlaces55
import Derived.Test.YtdkcjecllbdljaaCFnSlimPlaces73
import Derived.Test.YtdkcjecllbdljaaCFnSlimPlaces77
import Derived.Test.YtdkcjecllbdljaaCFnSlimPlaces56
import Derived.SizedLaws
import Derived.ChangeSlices
import Derived.Test.YtdkcjecllbdljaaRows
import Derived.WalkKit
import Derived.ProofKit
import Derived.OpenShut
import Derived.ShutString
import Derived.ChangeOld
import Derived.Below
namespace Go.Proofs.Ytdkcjecllbdljaa.Pure
open Go.RowKit Go.Proofs.Ytdkcjecllbdljaa.GSlim Go.Proofs.YtdkcjecllbdljaaW.PrintWords Go.Proofs.YtdkcjecllbdljaaW.PrintLast Go.Proofs.YtdkcjecllbdljaaW.PrintMore Go.Proofs.Ytdkcjecllbdljaa.Evt
set_option linter.unusedVariables false
theorem wpBools_loop (l:List Bool) (hl:l.length≤1000000):∀ (d j:Nat),j+d=l.length→Evt (fun k=>Zl.l0 k l l (j:Int)) true
  |0,j,h=>by
    refine Evt.step ?_
    simp only [Zl.l0]
    exact Evt.neg (by omega) (Evt.pure _)
  |d+1,j,h=>by
    refine Evt.step ?_
    simp only [Zl.l0]
    refine Evt.pos (by omega) (Evt.pos (by omega) (Evt.pos (by omega) (Evt.neg (by simp) ?_)))
    rw [w64n j (by omega)]
    exact wpBools_loop l hl d (j+1) (by omega)
theorem wpBools_ev (l:List Bool) (hl:l.length≤1000000):Evt (fun k=>Zl.f k l l) true:=by
  unfold Zl.f
  exact Evt.pos rfl (wpBools_loop l hl l.length 0 (by omega))
end Go.Proofs.Ytdkcjecllbdljaa.Pure
namespace Go.Proofs.Ytdkcjecllbdljaa.Pure
open Go.RowKit Go.Proofs.Ytdkcjecllbdljaa.GSlim Go.Proofs.YtdkcjecllbdljaaW.PrintWords Go.Proofs.YtdkcjecllbdljaaW.PrintLast Go.Proofs.YtdkcjecllbdljaaW.PrintMore Go.Proofs.Ytdkcjecllbdljaa.Evt
set_option linter.unusedVariables false
theorem sp_l1 {c x:List Ins} (hv:Valid x) {n:Int} (hn:(x.length:Int)≤n) (hl:x.length≤c.length):∀ (d j:Nat),j+d=x.length→Evt (fun k=>Xh.l1 k c x n (j:Int)) true
  |0,j,h=>by
    refine Evt.step ?_
    simp only [Xh.l1]
    have:(some (decide ((x.length:Int)≤(c.length:Int))))=some true:=by rw [decide_eq_true (by omega)]
    rw [this]
    exact Evt.neg (by omega) (Evt.pos hn (Evt.pure _))
  |d+1,j,h=>by
    have hm:=hv.most
    have hj:j<x.length:=by omega
    have ih:=sp_l1 hv hn hl d (j+1) (by omega)
    refine Evt.step ?_
    simp only [Xh.l1,rdA]
    rw [w64n j (by omega)]
    refine Evt.pos (by omega) (Evt.pos (by omega) ?_)
    by_cases hN:(at_ x j).f3 ≥ (x.length:Int)
    · refine Evt.pos hN (Evt.neg (fun h7=>?_) (Evt.neg (fun h6=>?_) ih))
      · have:=hv.target hj (Or.inr h7);omega
      · have:=hv.target hj (Or.inl h6);omega
    · exact Evt.neg hN ih
open Classical in
theorem sp_l0 {c x:List Ins} (hc:c.length≤60) (hend:Evt (fun k=>Xh.l1 k c x ((cntP (lv c) c.length:Nat):Int) 0) true):∀ (d j:Nat),j+d=c.length→Evt (fun k=>Xh.l0 k c x (Vo c) ((cntP (lv c) j:Nat):Int) (j:Int)) true
  |0,j,h=>by
    obtain rfl:j=c.length:=by omega
    refine Evt.step ?_
    simp only [Xh.l0]
    exact Evt.neg (by rw [length_reachB];omega) hend
  |d+1,j,h=>by
    have hj:j<c.length:=by omega
    have ih:=sp_l0 hc hend d (j+1) (by omega)
    have hle:=cntP_le (lv c) j
    rw [cntP_succ] at ih
    refine Evt.step ?_
    simp only [Xh.l0,rdOf_nat,reachB_get hj,length_reachB]
    rw [w64n j (by omega),w64n _ (by omega),w64 (n:=(c.length:Int) - 1) (by omega) (by omega)]
    refine Evt.pos (by omega) (Evt.pos (by omega) ?_)
    by_cases hr:Reach c j
    · rw [lv_reach hr,if_pos rfl] at ih
      exact Evt.pos (decide_eq_true hr) ih
    · refine Evt.neg (by simpa using hr) ?_
      by_cases hl:j+1=c.length
      · rw [lv_last hl,if_pos rfl] at ih
        exact Evt.pos (by omega) ih
      · have hf:lv c j=false:=by rw [lv_mid hl];exact decide_eq_false hr
        rw [hf,if_neg (by simp),Nat.add_zero] at ih
        exact Evt.neg (by omega) ih
theorem FnSlimPlaces:Xh.Pure:=by
  intro l0 _ _ hw
  suffices h:Evt (fun k=>Xh.f k l0) true from h.get
  unfold Xh.f
  by_cases hbig:(l0.length:Int) > 1048576
  · exact Evt.pos hbig (Evt.pure _)
  refine Evt.neg hbig ?_
  obtain ⟨c,hd,hc⟩:=drawSlim_ok l0 hw
  have hd2:Evt (fun k=>spec_DrawSlimDead.f k l0) c:=by
    unfold spec_DrawSlimDead.f
    exact Evt.bind hd (Evt.pure _)
  refine Evt.bind hd2 ?_
  rcases code_ok c (by omega) with ⟨hok,e1,e2⟩|⟨e1,e2⟩
  · have hm:=hok.1.most
    have hl:=length_slimD c
    obtain ⟨r,_,_,e3,e4⟩:=codeSame_both (slimD c) (slimD c) (by omega)
    obtain rfl:=e4.2 rfl
    have e5:Evt (fun k=>Vw.f k c) (slimD c):=by
      unfold Vw.f
      exact Evt.bind e1 (Evt.pos rfl (Evt.bind (impl_slimDead_ev hok.1) (Evt.pure _)))
    have e6:Evt (fun k=>Vh.f k c) (Vo c):=by
      unfold Vh.f
      exact Evt.bind e1 (Evt.pos rfl (Evt.bind (impl_reach_ev hok.1) (Evt.pure _)))
    obtain ⟨_,_,rs,h3,h4⟩:=hok.code
    have e7:Evt (fun k=>Uf.f k c) (Vo c):=by
      unfold Uf.f
      exact Evt.bind e2 (Evt.pos rfl (Evt.bind (spec_reach_ev hok.1 h3 h4) (Evt.pure _)))
    refine Evt.bind e5 (Evt.bind e6 (Evt.bind (spec_dead_ev hok) (Evt.bind e3 (Evt.pos rfl (Evt.bind e7 (Evt.bind (wpBools_ev _ (by rw [length_reachB];omega)) (Evt.step ?_)))))))
    simp only [Xh.j0]
    refine Evt.neg (by simp) ?_
    have hle:=slimD_len_le c
    have e8:=sp_l0 (c:=c) (x:=slimD c) hm (sp_l1 hok.dead.1 (by omega) hl (slimD c).length 0 (by omega)) c.length 0 (by omega)
    have z:cntP (lv c) 0=0:=by simp [cntP]
    rw [z] at e8
    exact e8
  · obtain ⟨r,_,_,e3,e4⟩:=codeSame_both [] [] (by simp)
    obtain rfl:=e4.2 rfl
    have e5:Evt (fun k=>Vw.f k c) []:=by
      unfold Vw.f
      exact Evt.bind e1 (Evt.neg (by simp) (Evt.pure _))
    have e6:Evt (fun k=>Uk.f k c) []:=by
      unfold Uk.f
      exact Evt.bind e2 (Evt.neg (by simp) (Evt.pure _))
    have e7:Evt (fun k=>Vh.f k c) []:=by
      unfold Vh.f
      exact Evt.bind e1 (Evt.neg (by simp) (Evt.pure _))
    have e8:Evt (fun k=>Uf.f k c) []:=by
      unfold Uf.f
      exact Evt.bind e2 (Evt.neg (by simp) (Evt.pure _))
    refine Evt.bind e5 (Evt.bind e7 (Evt.bind e6 (Evt.bind e3 (Evt.pos rfl (Evt.bind e8 (Evt.bind (wpBools_ev [] (by simp)) (Evt.step ?_)))))))
    simp only [Xh.j0]
    refine Evt.neg (by simp) (Evt.step ?_)
    simp only [Xh.l0]
    refine Evt.neg (by simp) (Evt.step ?_)
    simp only [Xh.l1]
    have:(some (decide ((([]:List Ins).length:Int)≤(c.length:Int))))=some true:=by rw [decide_eq_true (by simp)]
    rw [this]
    exact Evt.neg (by simp) (Evt.pos (by simp) (Evt.pure _))
end Go.Proofs.Ytdkcjecllbdljaa.Pure
namespace Go.Proofs.YtdkcjecllbdljaaW.PrintWords
open Go.ChangeShapes Go.WideShapes
theorem sized_ints {H:Type} {enc:TypeId × Value→H} {P:Program} {W:World} {base:Nat} {spare:Nat→Bool} {held:Bool} {t e:TypeId} {k:IntKind} {a:Option Addr} {len cap:Nat} {d:DataW H} {ps:List MemPlace} {ts:List TypeId} {ds:List (DataW H)} {j:Nat}
    (hsz:(DataW.weightsEach P ts ds).all (·≤reachBytes)=true) (ht:ts[j]?=some t) (hd:ds[j]?=some d) (hu:P.underlying t=some (.slice e)) (he:P.underlying e=some (.int k)) (hc:P.cellsOf e=1) {B:Nat} (hB:P.bytesOf e=B)
    (h:DataW.Trod enc P W base spare held t (.slice a len cap) d ps):len * B≤140737488351232:=by
  obtain ⟨fuel,hf⟩:=h
  rcases open_ints hu he hc hf with ⟨hcs,_⟩|⟨x,l,c,zs,hcs,_,hl,_,hz,hx,_,_⟩
  · simp [Value.cells] at hcs
    obtain ⟨rfl,rfl,rfl⟩:=hcs
    simp
  · simp [Value.cells] at hcs
    obtain ⟨rfl,rfl,rfl⟩:=hcs
    obtain ⟨hx,_⟩:=Prod.mk.inj hx
    subst hx
    have z:=sized_slice hsz ht hd hu
    rw [hB] at z
    have hl2:len≤zs.length:=by
      rw [hz]
      split
      · exact hl
      · exact Nat.le_refl _
    have h1:(lits (H:=H) k (zs.take len)).length+(lits (H:=H) k (zs.drop len)).length=zs.length:=by
      simp [lits]
      omega
    rw [h1] at z
    exact Nat.le_trans (Nat.mul_le_mul_right _ hl2) z
end Go.Proofs.YtdkcjecllbdljaaW.PrintWords
namespace Go.Proofs.Ytdkcjecllbdljaa.fnSlimPlaces
open Go.ChangeShapes Go.WideShapes Go.ChangeAt Go.RowKit
open Go.ChangeMaps (open_string shut_string)
set_option linter.unusedVariables false
theorem own:ownKnob Try.prog.godebug=none:=by kernel_rfl
theorem laidOut:laidOutB Try.prog=true:=by kernel_rfl
def IsRow (k:IntKind) (w:World) (a:Option Addr) (len cap:Nat) (zs:List Int):Prop:=
  (a=none∧len=0∧cap=0∧zs=[])∨
  ∃ x,a=some x∧len≤cap∧cap≤maxLen∧zs.length=cap∧(∀ i,i<zs.length→w.cell? (x.add i)=some (.int k (zs.getD i 0)))∧∀ n ∈ zs,(Lit.int k n).wf=true
set_option maxRecDepth 100000 in
theorem lifted (os:Os) (started:os.Started) (H:Type) (enc:TypeId × Value→H) :
    ReturnsInHanded {} Try.checked os 4 .any (Rows.fnSlimPlacesSpec.pre6 enc Try.prog Try.f4 Rows.fnSlimPlacesRow.domain false) (Rows.fnSlimPlacesSpec.post enc Try.prog Try.f4 false true false false):=by
  refine returnsInHanded_of_change_sized (C:=Try.checked) own started (by kernel_rfl) Try.func4
    (ChangeSpec.witness6 (enc:=enc) (C:=Try.checked) false ⟨#[],#[.slice none 0 0],[]⟩ 8 (by kernel_rfl) (by kernel_rfl) (by kernel_rfl) (by kernel_rfl)) ?_
  intro W base args ds gs before hval0 hW hcnd hsz0 _
  have hsz:(DataW.weightsEach Try.prog (Try.f4.params.toList ++ Rows.fnSlimPlacesSpec.plain.varTypes Try.prog) (ds ++ gs)).all (·≤reachBytes)=true:=hsz0
  have hval:∀ (j:Nat) t v,Try.f4.params[j]?=some t→args[j]?=some v→Value.okWide Try.prog W .any base t v:=hval0
  have hW':=hW
  obtain ⟨p,q,hA0,hV,rfl,hfz,hnd⟩:=hW
  have hA:DataW.TrodAll enc Try.prog W 0 (fun _=>true) true Try.f4.params.toList args.toList ds p:=hA0
  rw [Try.params4] at hA hval hsz
  obtain ⟨v0,vs0,d0,ds0,p0,q0,hargs,rfl,rfl,h0,r0⟩:=trodAll_cons hA
  obtain ⟨rfl,rfl,rfl⟩:=trodAll_nil r0
  obtain rfl:args=#[v0]:=by cases args;simp_all
  obtain ⟨rfl,rfl⟩:=trodVars_none hV
  obtain ⟨a0,len0,cap0,rfl⟩:=okWide_slice Try.underlying22 (hval 0 22 v0 rfl rfl)
  have k0:=h0
  have lt0:∀ x ∈ p0,x.block<W.heap.size:=by obtain ⟨m,hm⟩:=k0;exact DataW.trod_lt m _ _ _ hm
  obtain ⟨z0,w0⟩:∃ zs,IsRow .u8 W a0 len0 cap0 zs:=by
    obtain ⟨fuel,hf⟩:=h0
    rcases open_ints Try.underlying22 Try.underlying5 (by kernel_rfl) hf with ⟨hcs,_⟩|⟨x,l,c,zs,hcs,_,hl,hm,hz,_,hcell,hwz⟩
    · simp [Value.cells] at hcs
      obtain ⟨rfl,rfl,rfl⟩:=hcs
      exact ⟨[],.inl ⟨rfl,rfl,rfl,rfl⟩⟩
    · simp [Value.cells] at hcs
      obtain ⟨rfl,rfl,rfl⟩:=hcs
      exact ⟨zs,.inr ⟨_,rfl,hl,hm,by simpa using hz,hcell,hwz⟩⟩
  have y0:len0 * 1≤140737488351232:=Go.Proofs.YtdkcjecllbdljaaW.PrintWords.sized_ints hsz (j:=0) (t:=22) rfl rfl Try.underlying22 Try.underlying5 (by kernel_rfl) (by kernel_rfl) h0
  clear hA0 hval0 hsz0 hsz
  refine (GSlim.Xh.walk Pure.FnSlimPlaces a0 len0 cap0 z0 W w0 y0).mono fun e W' ⟨he,bel⟩=>?_
  subst he
  exact ⟨_,rfl,_,_,_,[],_,[],hW',trodAll_mk1 (shut_bool Try.underlying4 _),(trodAll_cons_mk (Below.trod laidOut (by kernel_rfl) (of_decide_eq_true (by kernel_rfl)) k0 bel lt0) trodAll_mk0),rfl,bel.frame _,fun h=>by cases h⟩
theorem over:Rows.fnSlimPlacesRow.holds Try.pinned (OpenSpec.ofChange Rows.fnSlimPlacesSpec):=
  OpenClaim.holds_of_wide 4 Try.f4 rfl rfl rfl rfl rfl rfl rfl ⟨rfl,rfl,rfl,rfl,rfl⟩ rfl rfl rfl rfl rfl (by kernel_rfl) Try.func4 (by kernel_rfl)
    (of_decide_eq_true (by kernel_rfl)) (by unfold Func.isWrapper;first|(rw [if_pos (by decide +kernel)];kernel_rfl)|(rw [if_neg (by decide +kernel)];exact ⟨rfl,rfl⟩))
    (fun os started H enc _=>lifted os started H enc)
theorem proved:Rows.FnSlimPlacesSaid:=over
end Go.Proofs.Ytdkcjecllbdljaa.fnSlimPlaces
namespace Go.Proofs.Ytdkcjecllbdljaa
theorem fnSlimPlaces_holds:Rows.FnSlimPlacesSaid:=fnSlimPlaces.proved
end Go.Proofs.Ytdkcjecllbdljaa
