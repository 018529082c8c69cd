import Derived.Test.YtpcfebhpapdkcaaDoorCFnExactWorldText45
import Derived.Test.YtpcfebhpapdkcaaDoorCFnExactWorldText38
namespace Go.Proofs.YtpcfebhpapdkcaaDoor.Pure
open Go.RowKit Go.Proofs.YtpcfebhpapdkcaaDoor.GWorld Go.Proofs.YtpcfebhpapdkcaaDoorW.PrintWords Go.Proofs.YtpcfebhpapdkcaaDoorW.PrintLast Go.Proofs.YtpcfebhpapdkcaaDoorW.PrintMore Go.Proofs.YtpcfebhpapdkcaaDoor.Evt Go.Proofs.YtpcfebhpapdkcaaDoor.Open
theorem FnExactWorldText (P:List LProc) (C R:List Int) (S:List (List Int)) (Q:List LSay) (h:LFits P C R S Q):∃ k,Ua.f k P C R S Q=some true:=by
  suffices h:Evt (fun k=>Ua.f k P C R S Q) true from h.get
  unfold Ua.f
  obtain ⟨r,hr,hw⟩:=world_told P C R S Q h
  refine Evt.bind hr ?_
  by_cases hn:r<0
  · exact Evt.pos hn (Evt.pure _)
  obtain ⟨m,hf,hc,he⟩:=hw (by omega)
  obtain ⟨h1,h2⟩:=text_both hf
  exact Evt.neg hn (Evt.bind hc (Evt.bind h1 (Evt.bind hc (Evt.bind h2 (Evt.pos rfl (Evt.bind hc (Evt.bind he (Evt.pos rfl (Evt.pure _)))))))))
end Go.Proofs.YtpcfebhpapdkcaaDoor.Pure
