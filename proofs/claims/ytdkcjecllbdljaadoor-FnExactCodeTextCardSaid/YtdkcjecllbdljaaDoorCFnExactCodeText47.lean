import Derived.Test.YtdkcjecllbdljaaDoorCFnExactCodeText46
import Derived.Test.YtdkcjecllbdljaaDoorCFnExactCodeText22
namespace Go.Proofs.YtdkcjecllbdljaaDoor.Pure
open Go.RowKit Go.Proofs.YtdkcjecllbdljaaDoor.GCode Go.Proofs.YtdkcjecllbdljaaDoorW.PrintWords Go.Proofs.YtdkcjecllbdljaaDoorW.PrintLast Go.Proofs.YtdkcjecllbdljaaDoorW.PrintMore Go.Proofs.YtdkcjecllbdljaaDoor.Evt
set_option linter.unusedVariables false
abbrev Ins:=S36
abbrev zIns:Ins:=z36
theorem rdT (c:List Ins) (i:Nat):Xb c (i:Int)=c.getD i zIns:=by unfold Xb;simp
theorem getD_app {α:Type} (A:List α) (x:α) (B:List α) (d:α):(A ++ x :: B).getD A.length d=x:=by simp [List.getD_eq_getElem?_getD]
theorem set_app {α:Type} (A:List α) (x v:α) (B:List α):(A ++ x :: B).set A.length v=A ++ v :: B:=by simp
end Go.Proofs.YtdkcjecllbdljaaDoor.Pure
