import Derived.Test.YtpcfebhpapdkcaaDoorCFnExactWorldText22
import Derived.Test.YtpcfebhpapdkcaaDoorCFnExactWorldText0
namespace Go.Proofs.YtpcfebhpapdkcaaDoor.GWorld
open Go.RowKit Go.Proofs.YtpcfebhpapdkcaaDoorW.PrintWords Go.Proofs.YtpcfebhpapdkcaaDoorW.PrintLast Go.Proofs.YtpcfebhpapdkcaaDoorW.PrintMore
attribute [local go_sem] max2_int min2_int max_two min_two Uc Ud max_four min_four
set_option linter.unusedVariables false
set_option linter.unusedSimpArgs false
def strconv_Itoa.f (a0:Int):Option ByteArray:=if Go.Proofs.YtpcfebhpapdkcaaDoor.Shelf2.in64 a0=true then some (Go.Proofs.YtpcfebhpapdkcaaDoor.Shelf2.itoaB a0) else none
theorem strconv_Itoa.calls (a0:Int) (r:ByteArray) (w:World) (h:strconv_Itoa.f a0=some r) (ht:Go.Proofs.YtpcfebhpapdkcaaDoor.Shelf2.Tab w) :
  Calls Tryd.prog 34 #[.int .i64 a0] w fun e w'=>e=.returned (.string r)∧Below w.heap.size w w':=by
 unfold strconv_Itoa.f at h
 split at h
 ·rename_i hh
  obtain rfl:=Option.some.inj h;exact Go.Proofs.YtpcfebhpapdkcaaDoor.Shelf2.itoa_calls a0 hh w ht
 ·cases h
end Go.Proofs.YtpcfebhpapdkcaaDoor.GWorld
