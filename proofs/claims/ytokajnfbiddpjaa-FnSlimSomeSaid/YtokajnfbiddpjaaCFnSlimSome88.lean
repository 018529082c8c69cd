/- The row of the law laws.FnSlimSome: it returns true for every input that its statement admits. Conditions: none but the row's own. -/
import Derived.Test.YtokajnfbiddpjaaCFnSlimSome77
import Derived.Test.YtokajnfbiddpjaaCFnSlimSome80
import Derived.Test.YtokajnfbiddpjaaCFnSlimSome85
import Derived.Test.YtokajnfbiddpjaaCFnSlimSome63
import Derived.SizedLaws
import Derived.ChangeSlices
import Derived.Test.YtokajnfbiddpjaaRows
import Derived.WalkKit
import Derived.ProofKit
import Derived.OpenShut
import Derived.ShutString
import Derived.ChangeOld
import Derived.Below
set_option maxRecDepth 100000
namespace Go.Proofs.Ytokajnfbiddpjaa.Pure
open Go.RowKit Go.Proofs.Ytokajnfbiddpjaa.GSlim Go.Proofs.YtokajnfbiddpjaaW.PrintWords Go.Proofs.YtokajnfbiddpjaaW.PrintLast Go.Proofs.YtokajnfbiddpjaaW.PrintMore Go.Proofs.Ytokajnfbiddpjaa.Evt
set_option linter.unusedVariables false
set_option linter.unusedSimpArgs false
theorem some_end {c:List Ins} (F:Stmts.Fine c):Evt (fun k=>Xq.l0 k c (slimN 60 c) (more c) (c.length:Int)) true:=by
  have hm:=F.most
  have ok:=F.ok.more (by omega)
  obtain ⟨e1,_,_⟩:=ok.code
  have hl:=Vp c
  have e2:Evt (fun k=>impl_Slim.f k (more c)) (slimN 60 c):=by
    obtain ⟨r,h1,_,_,h4⟩:=slim_both (more c) (by omega)
    rcases h4 with ⟨_,_,rfl⟩|⟨_,h5⟩
    · rwa [slimN_more F.ok F.first] at h1
    · obtain ⟨_,e3,_⟩:=ok.code
      have:=Evt.unique e3 h5
      cases this
  have hs:=length_slimN 60 c
  obtain ⟨b,_,_,e3,e4⟩:=codeSame_both (slimN 60 c) (slimN 60 c) (by omega)
  obtain rfl:=e4.2 rfl
  refine Evt.step ?_
  simp only [Xq.l0]
  exact Evt.neg (by omega) (Evt.bind e1 (Evt.pos rfl (Evt.bind e2 (Evt.bind e3 (Evt.pure _)))))
theorem some_loop2 {c:List Ins} (F:Stmts.Fine c):∀ (B A:List Ins),c=A ++ B→Evt (fun k=>Xq.l0 k c (slimN 60 c) (⟨7,0,0,1⟩ :: A.map sh) (A.length:Int)) true
  |[],A,h=>by
    rw [List.append_nil] at h
    subst h
    exact some_end F
  |b :: B,A,h=>by
    have hm:=F.most
    have hlen:c.length=A.length+B.length+1:=by rw [h];simp;omega
    have hb:at_ c A.length=b:=at_app h
    have ih:=some_loop2 F B (A ++ [b]) (by rw [h];simp)
    rw [List.map_append,List.length_append] at ih
    simp only [List.map_cons,List.map_nil,List.length_cons,List.length_nil,Nat.zero_add] at ih
    refine Evt.step ?_
    simp only [Xq.l0,rdA,hb]
    rw [w64n A.length (by omega)]
    have hroom:((⟨7,0,0,1⟩:Ins) :: A.map sh).length<4398046511104:=by simp;omega
    refine Evt.pos (by omega) (Evt.pos (by omega) ?_)
    by_cases h7:b.f0=7
    · obtain ⟨t0,t1⟩:=F.ok.1.target (show A.length<c.length by omega) (Or.inr (by rw [hb];exact h7))
      rw [hb] at t0 t1
      refine Evt.pos h7 (Evt.pos hroom ?_)
      rw [w64 (by omega) (by omega)]
      have e:sh b=⟨b.f0,b.f1,b.f2,b.f3+1⟩:=by unfold sh;rw [if_pos (Or.inl h7)]
      rw [e] at ih
      exact ih
    refine Evt.neg h7 ?_
    by_cases h6:b.f0=6
    · obtain ⟨t0,t1⟩:=F.ok.1.target (show A.length<c.length by omega) (Or.inl (by rw [hb];exact h6))
      rw [hb] at t0 t1
      refine Evt.pos h6 (Evt.pos hroom ?_)
      rw [w64 (by omega) (by omega)]
      have e:sh b=⟨b.f0,b.f1,b.f2,b.f3+1⟩:=by unfold sh;rw [if_pos (Or.inr h6)]
      rw [e] at ih
      exact ih
    · refine Evt.neg h6 (Evt.pos hroom ?_)
      rw [sh_no (by omega)] at ih
      exact ih
theorem FnSlimSome:Xq.Pure:=by
  intro l0 _ _ hw
  suffices h:Evt (fun k=>Xq.f k l0) true from h.get
  unfold Xq.f
  by_cases hbig:(l0.length:Int) > 1048576
  · exact Evt.pos hbig (Evt.pure _)
  refine Evt.neg hbig ?_
  obtain ⟨l,hd,hs⟩:=drawList_ok l0 hw
  obtain ⟨ec,ic⟩:=Stmts.codeOf_both l hs
  obtain ⟨es,_⟩:=Stmts.stmtsOk_both l hs
  refine Evt.bind hd ?_
  rw [ic]
  simp only [Option.bind_some]
  have hlen:(Stmts.codeOf l).length≤1048576:=by
    unfold Stmts.codeOf
    cases hk:Stmts.okB l
    · rw [if_neg (by simp)];simp
    · have:=(Stmts.codeOf_fine l hs hk).most
      unfold Stmts.codeOf at this
      rw [hk] at this
      omega
  obtain ⟨r,h1,h2,h3,h4⟩:=slim_both (Stmts.codeOf l) hlen
  obtain ⟨b,_,_,e3,e4⟩:=codeSame_both r r (by omega)
  obtain rfl:=e4.2 rfl
  refine Evt.bind h1 (Evt.bind ec (Evt.bind h2 (Evt.bind e3 (Evt.pos rfl (Evt.bind es (Evt.step ?_))))))
  simp only [Xq.j0]
  cases hk:Stmts.okB l
  · exact Evt.pos (by simp) (Evt.bind ec (Evt.bind h2 (Evt.bind e3 (Evt.pure _))))
  · refine Evt.neg (by simp) ?_
    have F:=Stmts.codeOf_fine l hs hk
    rcases h4 with ⟨hok,e2,rfl⟩|⟨_,e2⟩
    · exact some_loop2 F (Stmts.codeOf l) [] rfl
    · obtain ⟨_,e5,_⟩:=F.ok.code
      have:=Evt.unique e5 e2
      cases this
end Go.Proofs.Ytokajnfbiddpjaa.Pure
namespace Go.Proofs.YtokajnfbiddpjaaW.PrintWords
open Go.ChangeShapes Go.WideShapes
theorem sized_ints {H:Type} {enc:TypeId × Value→H} {P:Program} {W:World} {base:Nat} {spare:Nat→Bool} {held:Bool} {t e:TypeId} {k:IntKind} {a:Option Addr} {len cap:Nat} {d:DataW H} {ps:List MemPlace} {ts:List TypeId} {ds:List (DataW H)} {j:Nat}
    (hsz:(DataW.weightsEach P ts ds).all (·≤reachBytes)=true) (ht:ts[j]?=some t) (hd:ds[j]?=some d) (hu:P.underlying t=some (.slice e)) (he:P.underlying e=some (.int k)) (hc:P.cellsOf e=1) {B:Nat} (hB:P.bytesOf e=B)
    (h:DataW.Trod enc P W base spare held t (.slice a len cap) d ps):len * B≤140737488351232:=by
  obtain ⟨fuel,hf⟩:=h
  rcases open_ints hu he hc hf with ⟨hcs,_⟩|⟨x,l,c,zs,hcs,_,hl,_,hz,hx,_,_⟩
  · simp [Value.cells] at hcs
    obtain ⟨rfl,rfl,rfl⟩:=hcs
    simp
  · simp [Value.cells] at hcs
    obtain ⟨rfl,rfl,rfl⟩:=hcs
    obtain ⟨hx,_⟩:=Prod.mk.inj hx
    subst hx
    have z:=sized_slice hsz ht hd hu
    rw [hB] at z
    have hl2:len≤zs.length:=by
      rw [hz]
      split
      · exact hl
      · exact Nat.le_refl _
    have h1:(lits (H:=H) k (zs.take len)).length+(lits (H:=H) k (zs.drop len)).length=zs.length:=by
      simp [lits]
      omega
    rw [h1] at z
    exact Nat.le_trans (Nat.mul_le_mul_right _ hl2) z
end Go.Proofs.YtokajnfbiddpjaaW.PrintWords
namespace Go.Proofs.Ytokajnfbiddpjaa.fnSlimSome
open Go.ChangeShapes Go.WideShapes Go.ChangeAt Go.RowKit
open Go.ChangeMaps (open_string shut_string)
set_option linter.unusedVariables false
theorem own:ownKnob Try.prog.godebug=none:=by kernel_rfl
theorem laidOut:laidOutB Try.prog=true:=by kernel_rfl
def IsRow (k:IntKind) (w:World) (a:Option Addr) (len cap:Nat) (zs:List Int):Prop:=
  (a=none∧len=0∧cap=0∧zs=[])∨
  ∃ x,a=some x∧len≤cap∧cap≤maxLen∧zs.length=cap∧(∀ i,i<zs.length→w.cell? (x.add i)=some (.int k (zs.getD i 0)))∧∀ n ∈ zs,(Lit.int k n).wf=true
theorem lifted (os:Os) (started:os.Started) (H:Type) (enc:TypeId × Value→H) :
    ReturnsInHanded {} Try.checked os 4 .any (Rows.fnSlimSomeSpec.pre6 enc Try.prog Try.f4 Rows.fnSlimSomeRow.domain false) (Rows.fnSlimSomeSpec.post enc Try.prog Try.f4 false true false false):=by
  refine returnsInHanded_of_change_sized (C:=Try.checked) own started (by kernel_rfl) Try.func4
    (ChangeSpec.witness6 (enc:=enc) (C:=Try.checked) false ⟨#[],#[.slice none 0 0],[]⟩ 8 (by kernel_rfl) (by kernel_rfl) (by kernel_rfl) (by kernel_rfl)) ?_
  intro W base args ds gs before hval0 hW hcnd hsz0 _
  have hsz:(DataW.weightsEach Try.prog (Try.f4.params.toList ++ Rows.fnSlimSomeSpec.plain.varTypes Try.prog) (ds ++ gs)).all (·≤reachBytes)=true:=hsz0
  have hval:∀ (j:Nat) t v,Try.f4.params[j]?=some t→args[j]?=some v→Value.okWide Try.prog W .any base t v:=hval0
  have hW':=hW
  obtain ⟨p,q,aB,hV,rfl,hfz,hnd⟩:=hW
  have hA:DataW.TrodAll enc Try.prog W 0 (fun _=>true) true Try.f4.params.toList args.toList ds p:=aB
  rw [Try.params4] at hA hval hsz
  obtain ⟨v0,vs0,d0,ds0,p0,q0,hargs,rfl,rfl,h0,r0⟩:=trodAll_cons hA
  obtain ⟨rfl,rfl,rfl⟩:=trodAll_nil r0
  obtain rfl:args=#[v0]:=by cases args;simp_all
  obtain ⟨rfl,rfl⟩:=trodVars_none hV
  obtain ⟨a0,aA,cap0,rfl⟩:=okWide_slice Try.underlying22 (hval 0 22 v0 rfl rfl)
  have k0:=h0
  have aC:∀ x ∈ p0,x.block<W.heap.size:=by obtain ⟨m,hm⟩:=k0;exact DataW.trod_lt m _ _ _ hm
  obtain ⟨z0,w0⟩:∃ zs,IsRow .u8 W a0 aA cap0 zs:=by
    obtain ⟨fuel,hf⟩:=h0
    rcases open_ints Try.underlying22 Try.underlying5 (by kernel_rfl) hf with ⟨hcs,_⟩|⟨x,l,c,zs,hcs,_,hl,hm,hz,_,hcell,hwz⟩
    · simp [Value.cells] at hcs
      obtain ⟨rfl,rfl,rfl⟩:=hcs
      exact ⟨[],.inl ⟨rfl,rfl,rfl,rfl⟩⟩
    · simp [Value.cells] at hcs
      obtain ⟨rfl,rfl,rfl⟩:=hcs
      exact ⟨zs,.inr ⟨_,rfl,hl,hm,by simpa using hz,hcell,hwz⟩⟩
  have y0:aA * 1≤140737488351232:=Go.Proofs.YtokajnfbiddpjaaW.PrintWords.sized_ints hsz (j:=0) (t:=22) rfl rfl Try.underlying22 Try.underlying5 (by kernel_rfl) (by kernel_rfl) h0
  clear aB hval0 hsz0 hsz
  refine (GSlim.Xq.walk Pure.FnSlimSome a0 aA cap0 z0 W w0 y0).mono fun e W' ⟨he,bel⟩=>?_
  subst he
  exact ⟨_,rfl,_,_,_,[],_,[],hW',trodAll_mk1 (shut_bool Try.underlying4 _),(trodAll_cons_mk (Below.trod laidOut (by kernel_rfl) (of_decide_eq_true (by kernel_rfl)) k0 bel aC) trodAll_mk0),rfl,bel.frame _,fun h=>by cases h⟩
theorem over:Rows.fnSlimSomeRow.holds Try.pinned (OpenSpec.ofChange Rows.fnSlimSomeSpec):=
  OpenClaim.holds_of_wide 4 Try.f4 rfl rfl rfl rfl rfl rfl rfl ⟨rfl,rfl,rfl,rfl,rfl⟩ rfl rfl rfl rfl rfl (by kernel_rfl) Try.func4 (by kernel_rfl)
    (of_decide_eq_true (by kernel_rfl)) (by unfold Func.isWrapper;first|(rw [if_pos (by decide +kernel)];kernel_rfl)|(rw [if_neg (by decide +kernel)];exact ⟨rfl,rfl⟩))
    (fun os started H enc _=>lifted os started H enc)
theorem proved:Rows.FnSlimSomeSaid:=over
end Go.Proofs.Ytokajnfbiddpjaa.fnSlimSome
namespace Go.Proofs.Ytokajnfbiddpjaa
theorem fnSlimSome_holds:Rows.FnSlimSomeSaid:=fnSlimSome.proved
end Go.Proofs.Ytokajnfbiddpjaa
