import Derived.Test.YtpcfebhpapdkcaaDoorCFnExactWorldText22
import Derived.Test.YtpcfebhpapdkcaaDoorCFnExactWorldText0
namespace Go.Proofs.YtpcfebhpapdkcaaDoor.GWorld
open Go.RowKit Go.Proofs.YtpcfebhpapdkcaaDoorW.PrintWords Go.Proofs.YtpcfebhpapdkcaaDoorW.PrintLast Go.Proofs.YtpcfebhpapdkcaaDoorW.PrintMore
attribute [local go_sem] max2_int min2_int max_two min_two Uc Ud max_four min_four
set_option linter.unusedVariables false
set_option linter.unusedSimpArgs false
def strings_Join.f (l0:List ByteArray) (a1:ByteArray):Option ByteArray:=if l0.length≤140737488355328∧(Lib.join (l0.map (·.data.toList)) a1.data.toList).length≤140737488355328 then some (Go.Proofs.YtpcfebhpapdkcaaDoor.Shelf2.joinB l0 a1) else none
theorem strings_Join.calls (A0:Option Addr) (c0:Nat) (l0:List ByteArray) (a1:ByteArray) (r:ByteArray) (w:World) (hr0:Kd.C Kd.string w A0 l0.length l0) (hc0:l0.length≤c0) (h:strings_Join.f l0 a1=some r) :
  Calls Tryd.prog 35 #[.slice A0 l0.length c0,.string a1] w fun e w'=>e=.returned (.string r)∧Below w.heap.size w w':=by
 unfold strings_Join.f at h
 split at h
 ·rename_i hh
  obtain rfl:=Option.some.inj h;refine Go.Proofs.YtpcfebhpapdkcaaDoor.Shelf2.join_calls A0 c0 l0 a1 w hc0 hh.1 ?_ hh.2
  intro hp;obtain ⟨ad,e,hk⟩:=hr0.2.2 hp;refine ⟨ad,e,fun j x hx=>?_⟩
  obtain ⟨c,_,hK,hc⟩:=hk j x hx;have hK':c=[.string x]:=hK;subst hK'
  have:=hc 0 _ rfl
  have e1:j * Kd.string.sz+0=j:=by show j * 1+0=j;omega
  rw [e1] at this;exact this
 ·cases h
end Go.Proofs.YtpcfebhpapdkcaaDoor.GWorld
