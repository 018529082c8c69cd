import Derived.Test.YtjmlpgpkmhjdiaaCFnExactSlimJumps51
import Derived.Test.YtjmlpgpkmhjdiaaCFnExactSlimJumps44
namespace Go.Proofs.Ytjmlpgpkmhjdiaa.Pure
open Go.RowKit Go.Proofs.Ytjmlpgpkmhjdiaa.GSlim Go.Proofs.YtjmlpgpkmhjdiaaW.PrintWords Go.Proofs.YtjmlpgpkmhjdiaaW.PrintLast Go.Proofs.YtjmlpgpkmhjdiaaW.PrintMore Go.Proofs.Ytjmlpgpkmhjdiaa.Evt Go.Proofs.Ytjmlpgpkmhjdiaa.KindsSlim Go.Proofs.Ytjmlpgpkmhjdiaa.Open
theorem FnExactSlimJumps (l0 : List LIns) (_hw : ∀ z ∈ l0, InsN z) (hl : l0.length ≤ 9223372036854775807) : ∃ k, laws_FnExactSlimJumps.f k l0 = some true := by
  suffices h : Evt (fun k => laws_FnExactSlimJumps.f k l0) true from h.get
  unfold laws_FnExactSlimJumps.f
  rw [szInsS_of l0 hl]
  simp only [Option.bind_some]
  by_cases hbig : 1048576 < l0.length
  · rw [if_pos hbig]
    exact Evt.pos (by omega) (Evt.pure _)
  rw [if_neg hbig]
  refine Evt.neg (by omega) ?_
  have ht := toInsS_ev l0 (by omega)
  have hcl : (l0.map conv).length ≤ 1048576 := by rw [List.length_map]; omega
  obtain ⟨r, h1, h2, h3, _⟩ := slimJumps_both (l0.map conv) hcl
  have he := eqInsS_ev r (by omega)
  refine Evt.bind ht (Evt.bind h2 (Evt.bind ht (Evt.bind h1 (Evt.bind he (Evt.pos rfl (Evt.bind ht (Evt.bind (eqInsS_ev _ (by omega)) (Evt.pos rfl (Evt.bind (markInsS_ev _ 1 (by omega) (by omega) hcl) (Evt.neg (by simp only []; omega) (Evt.bind he ?_)))))))))))
  refine Evt.step ?_
  simp only [laws_FnExactSlimJumps.j0]
  refine Evt.neg (by simp) (Evt.bind (markInsS_ev r 1 (by omega) (by omega) (by omega)) ?_)
  have hh := heldInsS_ev 1 (by omega) (by omega) r.length (by omega)
  refine Evt.bind hh (Evt.neg (by omega) (Evt.pos rfl (Evt.bind ht (Evt.bind h1 (Evt.bind he (Evt.pos rfl (Evt.bind hh (Evt.neg (by omega) (Evt.pos rfl (Evt.pure _))))))))))
end Go.Proofs.Ytjmlpgpkmhjdiaa.Pure
