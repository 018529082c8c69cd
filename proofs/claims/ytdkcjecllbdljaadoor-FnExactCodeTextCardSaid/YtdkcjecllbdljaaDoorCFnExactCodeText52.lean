import Derived.Test.YtdkcjecllbdljaaDoorCFnExactCodeText48
import Derived.Test.YtdkcjecllbdljaaDoorCFnExactCodeText51
import Derived.Test.YtdkcjecllbdljaaDoorCFnExactCodeText43
namespace Go.Proofs.YtdkcjecllbdljaaDoor.Pure
open Go.RowKit Go.Proofs.YtdkcjecllbdljaaDoor.GCode Go.Proofs.YtdkcjecllbdljaaDoorW.PrintWords Go.Proofs.YtdkcjecllbdljaaDoorW.PrintLast Go.Proofs.YtdkcjecllbdljaaDoorW.PrintMore Go.Proofs.YtdkcjecllbdljaaDoor.Evt Go.Proofs.YtdkcjecllbdljaaDoor.KindsCode Go.Proofs.YtdkcjecllbdljaaDoor.Open
theorem FnExactCodeText (l0:List LIns) (_hw:∀ z ∈ l0,InsN z) (hl:l0.length≤9223372036854775807):∃ k,Ze.f k l0=some true:=by
  suffices h:Evt (fun k=>Ze.f k l0) true from h.get
  unfold Ze.f
  rw [szInsS_of l0 hl]
  simp only [Option.bind_some]
  by_cases hbig:1048576<l0.length
  · rw [if_pos hbig]
    exact Evt.pos (by omega) (Evt.pure _)
  rw [if_neg hbig]
  refine Evt.neg (by omega) ?_
  have ht:=toInsS_ev l0 (by omega)
  have hcl:(l0.map conv).length≤1048576:=by rw [List.length_map];omega
  obtain ⟨b,t,_,h1,h2,_⟩:=codeText_both (l0.map conv) hcl
  exact Evt.bind ht (Evt.bind h2 (Evt.bind ht (Evt.bind h1 (Evt.pos rfl (Evt.bind ht (Evt.bind (eqInsS_ev _ (by omega)) (Evt.pos rfl (Evt.pure _))))))))
end Go.Proofs.YtdkcjecllbdljaaDoor.Pure
