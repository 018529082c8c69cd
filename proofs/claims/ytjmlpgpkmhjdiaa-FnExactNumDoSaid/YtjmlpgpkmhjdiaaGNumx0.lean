/- What functions of the translated program answer (or a law's row out of it), shown by walking their text; no condition. Written for this claim by a program of the session's own (gprint.py, over the kit's print). Not trusted: Lean checks it. -/
import Derived.Test.YtjmlpgpkmhjdiaaProg
import Derived.Below
import Derived.Deep.Draws
import Derived.Deep.AppendLies
import Derived.Maps.AppendAt
import Derived.OwnWalk
import Derived.Laws.BytesArg
import Derived.Laws.MakeOwn
import Derived.Laws.OwnMore
import Derived.Deep.OwnRows
import Derived.Tactics
import Derived.Lib.ConvBytes
import Derived.Laws.Slices
import Derived.WalkKit
import Derived.KernelRfl
import Derived.RowKit3
import Derived.Deep.LoopGhost
import Derived.Deep.QuietTactic
import Derived.BigQuiet
import Derived.WideLaws
import Derived.Deep.DeepCutAuto
import Derived.Deep.CutBlock
import Derived.Deep.RegionHeld3
import Derived.Laws.Rows
import Derived.Lib.AppendStr
import Derived.ArgAppend
import Derived.Laws.IdiomCopy
import Derived.OrdersHeld
import Derived.Laws.BitsLemmas
import Derived.RowKit
import Derived.Test.YtjmlpgpkmhjdiaaWWords
import Derived.Test.YtjmlpgpkmhjdiaaWLast
import Derived.Test.YtjmlpgpkmhjdiaaWTab
import Derived.Test.YtjmlpgpkmhjdiaaWFour
import Derived.Test.YtjmlpgpkmhjdiaaWQPut
import Derived.Test.YtjmlpgpkmhjdiaaWApart
import Derived.Test.YtjmlpgpkmhjdiaaWArr
import Derived.Test.YtjmlpgpkmhjdiaaWZeros
import Derived.Test.YtjmlpgpkmhjdiaaWFoot
import Derived.Test.YtjmlpgpkmhjdiaaWKept
import Derived.Test.YtjmlpgpkmhjdiaaWShare
import Derived.Test.YtjmlpgpkmhjdiaaWN
import Derived.Test.YtjmlpgpkmhjdiaaWFootNe
import Derived.Test.YtjmlpgpkmhjdiaaWAt
import Derived.Test.YtjmlpgpkmhjdiaaWEqStruct
import Derived.Test.YtjmlpgpkmhjdiaaWRepsOne
import Derived.Test.YtjmlpgpkmhjdiaaWInv
import Derived.Test.YtjmlpgpkmhjdiaaWInvWords
import Derived.Test.YtjmlpgpkmhjdiaaWGuard
import Derived.Test.YtjmlpgpkmhjdiaaWNEv
import Derived.Test.YtjmlpgpkmhjdiaaWMore
namespace Go.Proofs.Ytjmlpgpkmhjdiaa.GNum
open Go.RowKit Go.Proofs.YtjmlpgpkmhjdiaaW.PrintWords Go.Proofs.YtjmlpgpkmhjdiaaW.PrintLast Go.Proofs.YtjmlpgpkmhjdiaaW.PrintMore
attribute [local go_sem] max2_int min2_int max_two min_two max_three min_three max_four min_four   -- for this text's walks alone
set_option linter.unusedVariables false
set_option linter.unusedSimpArgs false



def errW : Option Int → Value
  | none => .nilIface
  | some c => .iface 0 (.int .i64 c)
theorem errW_none : errW none = .nilIface := rfl
theorem errW_some (c : Int) : errW (some c) = .iface 0 (.int .i64 c) := rfl

theorem info3 : (Try.prog.info? 3).map (fun i => (i.zero, i.size, i.bytes)) = some (some (.int .i64 0), 1, 8) := by kernel_rfl
theorem info5 : (Try.prog.info? 5).map (fun i => (i.zero, i.size, i.bytes)) = some (some (.int .u8 0), 1, 1) := by kernel_rfl
-- the values' own types

end Go.Proofs.Ytjmlpgpkmhjdiaa.GNum
