import Derived.Test.YtdkcjecllbdljaaDoorCFnCodeLines22
import Derived.Test.YtdkcjecllbdljaaDoorCFnCodeLines0
namespace Go.Proofs.YtdkcjecllbdljaaDoor.GCode
open Go.RowKit Go.Proofs.YtdkcjecllbdljaaDoorW.PrintWords Go.Proofs.YtdkcjecllbdljaaDoorW.PrintLast Go.Proofs.YtdkcjecllbdljaaDoorW.PrintMore
attribute [local go_sem] Zy Ua Uo Uq Zp Zq Zz Ub
set_option linter.unusedVariables false
set_option linter.unusedSimpArgs false
def strconv_Itoa.f (a0:Int):Option ByteArray:=if Go.Proofs.YtdkcjecllbdljaaDoor.Shelf2.in64 a0=true then some (Go.Proofs.YtdkcjecllbdljaaDoor.Shelf2.itoaB a0) else none
theorem strconv_Itoa.calls (a0:Int) (r:ByteArray) (w:World) (h:strconv_Itoa.f a0=some r) (ht:Go.Proofs.YtdkcjecllbdljaaDoor.Shelf2.Tab w) :
  Calls Tryd.prog 25 #[.int .i64 a0] w fun e w'=>e=.returned (.string r)∧Below w.heap.size w w':=by
 unfold strconv_Itoa.f at h
 split at h
 ·rename_i hh
  obtain rfl:=Option.some.inj h;exact Go.Proofs.YtdkcjecllbdljaaDoor.Shelf2.itoa_calls a0 hh w ht
 ·cases h
end Go.Proofs.YtdkcjecllbdljaaDoor.GCode
namespace Go.Proofs.YtdkcjecllbdljaaDoor.GCode
open Go.RowKit Go.Proofs.YtdkcjecllbdljaaDoorW.PrintWords Go.Proofs.YtdkcjecllbdljaaDoorW.PrintLast Go.Proofs.YtdkcjecllbdljaaDoorW.PrintMore
attribute [local go_sem] Zy Ua Uo Uq Zp Zq Zz Ub
set_option linter.unusedVariables false
set_option linter.unusedSimpArgs false
def strings_Join.f (l0:List ByteArray) (a1:ByteArray):Option ByteArray:=if l0.length≤1000∧(Lib.join (l0.map (·.data.toList)) a1.data.toList).length≤140737488355328 then some (Go.Proofs.YtdkcjecllbdljaaDoor.Shelf2.joinB l0 a1) else none
theorem strings_Join.calls (A0:Option Addr) (c0:Nat) (l0:List ByteArray) (a1:ByteArray) (r:ByteArray) (w:World) (hr0:Kd.C Kd.string w A0 l0.length l0) (hc0:l0.length≤c0) (h:strings_Join.f l0 a1=some r) :
  Calls Tryd.prog 26 #[.slice A0 l0.length c0,.string a1] w fun e w'=>e=.returned (.string r)∧Below w.heap.size w w':=by
 unfold strings_Join.f at h
 split at h
 ·rename_i hh
  obtain rfl:=Option.some.inj h;refine Go.Proofs.YtdkcjecllbdljaaDoor.Shelf2.join_calls A0 c0 l0 a1 w hc0 hh.1 ?_ hh.2
  intro hp;obtain ⟨ad,e,hk⟩:=hr0.2.2 hp;refine ⟨ad,e,fun j x hx=>?_⟩
  obtain ⟨c,_,hK,hc⟩:=hk j x hx;have hK':c=[.string x]:=hK;subst hK'
  have:=hc 0 _ rfl
  have e1:j * Kd.string.sz+0=j:=by show j * 1+0=j;omega
  rw [e1] at this;exact this
 ·cases h
end Go.Proofs.YtdkcjecllbdljaaDoor.GCode
