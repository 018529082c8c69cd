import Derived.Test.YtdkcjecllbdljaaDoorCFnExactCodeText22
import Derived.Test.YtdkcjecllbdljaaDoorCFnExactCodeText44
import Derived.Test.YtdkcjecllbdljaaDoorRows
namespace Go.Proofs.YtdkcjecllbdljaaDoor.KindsCode
open Go.RowKit Go.ChangeShapes Go.WideShapes Go.Proofs.YtdkcjecllbdljaaDoorW.PrintWords Go.Proofs.YtdkcjecllbdljaaDoorW.PrintLast Go.Proofs.YtdkcjecllbdljaaDoorW.PrintMore Go.Proofs.YtdkcjecllbdljaaDoor.Open Go.Proofs.YtdkcjecllbdljaaDoor.GCode
theorem opensI {H:Type} {enc:TypeId × Value→H} {w:World} {base:Nat} {spare:Nat→Bool} {held:Bool}:Opens enc Tryd.prog w base spare held (Kd.int .i64) Num 3:=opens_int Tryd.underlying3 (by kernel_rfl)
def InsN (s:S41):Prop:=Num s.f0∧Num s.f1∧Num s.f2∧Num s.f3
theorem opens41 {H:Type} {enc:TypeId × Value→H} {w:World} {base:Nat} {spare:Nat→Bool} {held:Bool}:Opens enc Tryd.prog w base spare held k41 InsN 41:=
  opens_iso (fun x:S41=>(x.f0,x.f1,x.f2,x.f3)) (fun z=>⟨z.1,z.2.1,z.2.2.1,z.2.2.2⟩) (fun _=>rfl) (opens_struct Tryd.underlying41 (by kernel_rfl) (by kernel_rfl) (opensF_cons opensI (opensF_cons opensI (opensF_cons opensI (opensF_one opensI)))))
end Go.Proofs.YtdkcjecllbdljaaDoor.KindsCode
