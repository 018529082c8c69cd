/-
  NARROWER THAN 'FOR EVERY INPUT', by the rows' own cells (each row's printed sentence says how): FnExactMarksOf: loops · FnExactRacesOf: loops.
  DERIVED. THE GIVEN ROWS OF THIS SEAT. 5 by the template 'for every input the law returns true; each argument reads behind the call as it read before'; 0 by the template 'total and deterministic' (their statements: YtlhogkfmdnpmkaaGreatTotals.lean).
  GIVEN WITH THE SEED: the statements are not yours to turn. If you find one false, say at which input.
  Laid BY PROGRAM, IN A SANDBOX (cutbox-rows.mjs): the forced cells as the released guide's own fill.sh prints them over the translation d3d36f84ea6abc84… (all of the seat's roots in one cut). By AI agents, Wed Nov 11 2026. No macro, syntax, notation, axiom, sorry.
-/
import Derived.Test.YtlhogkfmdnpmkaaGreatChecked
import GoSem.Claim
import GoSem.ClaimJoined
import GoSem.ClaimMapViews
import Derived.JoinedTies
import Derived.KernelRfl
namespace Go.Proofs.YtlhogkfmdnpmkaaGreat
/- THE CELL 'sum', in the pinned program and in every row, IS THE sha256 OF THE DUMP (.gsa) THAT YtlhogkfmdnpmkaaGreatProg.lean LOADS. Nothing in Lean hashes anything: it is a label: what it is worth is what the hold of that sum in a sandbox is worth. -/
noncomputable def Tryz.pinned : Pinned := { name := "ytlhogkfmdnpmkaagreat", sum := "d3d36f84ea6abc84ca7ada3af4a350f83c2e8ac81ed240d2a2e06d96fcb8c36e", checked := Tryz.checked }
namespace Rows
def none {H : Type} : Left H := { results := [], args := [] }

/-- 'laws.FnExactMarksOf': WHATEVER THE INPUT: true; the input reads as it did. -/
def fnExactMarksOfSpec : ChangeSpec := { name := "fnExactMarksOf", fn := fun _ => fun
  | [d1, d2] => { results := [.lit (.bool true)], args := [d1, d2] }
  | _ => none }
def fnExactMarksOfRow : OpenClaim := { program := "ytlhogkfmdnpmkaagreat", sum := "d3d36f84ea6abc84ca7ada3af4a350f83c2e8ac81ed240d2a2e06d96fcb8c36e", func := "loop.example/changeringer/laws.FnExactMarksOf", spec := "fnExactMarksOf", unfollowed := true, recurses := true, loops := true, apart := false }
def FnExactMarksOfSaid : Prop := fnExactMarksOfRow.holds Tryz.pinned (OpenSpec.ofChange fnExactMarksOfSpec)

/-- ITS FALSE NEIGHBOUR: 'it returns false'. Refute it at one input. -/
def fnExactMarksOfWrong : ChangeSpec := { name := "fnExactMarksOf", fn := fun _ => fun
  | [d1, d2] => { results := [.lit (.bool false)], args := [d1, d2] }
  | _ => none }
def FnExactMarksOfWrongFalsely : Prop := fnExactMarksOfRow.holds Tryz.pinned (OpenSpec.ofChange fnExactMarksOfWrong)

/-- 'laws.FnExactRacesOf': WHATEVER THE INPUT: true; the input reads as it did. -/
def fnExactRacesOfSpec : ChangeSpec := { name := "fnExactRacesOf", fn := fun _ => fun
  | [d1, d2] => { results := [.lit (.bool true)], args := [d1, d2] }
  | _ => none }
def fnExactRacesOfRow : OpenClaim := { program := "ytlhogkfmdnpmkaagreat", sum := "d3d36f84ea6abc84ca7ada3af4a350f83c2e8ac81ed240d2a2e06d96fcb8c36e", func := "loop.example/changeringer/laws.FnExactRacesOf", spec := "fnExactRacesOf", unfollowed := true, recurses := true, loops := true, apart := false }
def FnExactRacesOfSaid : Prop := fnExactRacesOfRow.holds Tryz.pinned (OpenSpec.ofChange fnExactRacesOfSpec)

/-- ITS FALSE NEIGHBOUR: 'it returns false'. Refute it at one input. -/
def fnExactRacesOfWrong : ChangeSpec := { name := "fnExactRacesOf", fn := fun _ => fun
  | [d1, d2] => { results := [.lit (.bool false)], args := [d1, d2] }
  | _ => none }
def FnExactRacesOfWrongFalsely : Prop := fnExactRacesOfRow.holds Tryz.pinned (OpenSpec.ofChange fnExactRacesOfWrong)

/-- 'laws.FnMarks': WHATEVER THE INPUT: true; the input reads as it did. -/
def fnMarksSpec : ChangeSpec := { name := "fnMarks", fn := fun _ => fun
  | [d] => { results := [.lit (.bool true)], args := [d] }
  | _ => none }
def fnMarksRow : OpenClaim := { program := "ytlhogkfmdnpmkaagreat", sum := "d3d36f84ea6abc84ca7ada3af4a350f83c2e8ac81ed240d2a2e06d96fcb8c36e", func := "loop.example/changeringer/laws.FnMarks", spec := "fnMarks", unfollowed := true, recurses := true, apart := false }
def FnMarksSaid : Prop := fnMarksRow.holds Tryz.pinned (OpenSpec.ofChange fnMarksSpec)

/-- ITS FALSE NEIGHBOUR: 'it returns false'. Refute it at one input. -/
def fnMarksWrong : ChangeSpec := { name := "fnMarks", fn := fun _ => fun
  | [d] => { results := [.lit (.bool false)], args := [d] }
  | _ => none }
def FnMarksWrongFalsely : Prop := fnMarksRow.holds Tryz.pinned (OpenSpec.ofChange fnMarksWrong)

/-- 'laws.FnClockUp': WHATEVER THE INPUT: true; the input reads as it did. -/
def fnClockUpSpec : ChangeSpec := { name := "fnClockUp", fn := fun _ => fun
  | [d] => { results := [.lit (.bool true)], args := [d] }
  | _ => none }
def fnClockUpRow : OpenClaim := { program := "ytlhogkfmdnpmkaagreat", sum := "d3d36f84ea6abc84ca7ada3af4a350f83c2e8ac81ed240d2a2e06d96fcb8c36e", func := "loop.example/changeringer/laws.FnClockUp", spec := "fnClockUp", unfollowed := true, recurses := true, apart := false }
def FnClockUpSaid : Prop := fnClockUpRow.holds Tryz.pinned (OpenSpec.ofChange fnClockUpSpec)

/-- ITS FALSE NEIGHBOUR: 'it returns false'. Refute it at one input. -/
def fnClockUpWrong : ChangeSpec := { name := "fnClockUp", fn := fun _ => fun
  | [d] => { results := [.lit (.bool false)], args := [d] }
  | _ => none }
def FnClockUpWrongFalsely : Prop := fnClockUpRow.holds Tryz.pinned (OpenSpec.ofChange fnClockUpWrong)

/-- 'laws.FnMarkCut': WHATEVER THE INPUT: true; the input reads as it did. -/
def fnMarkCutSpec : ChangeSpec := { name := "fnMarkCut", fn := fun _ => fun
  | [d1, d2] => { results := [.lit (.bool true)], args := [d1, d2] }
  | _ => none }
def fnMarkCutRow : OpenClaim := { program := "ytlhogkfmdnpmkaagreat", sum := "d3d36f84ea6abc84ca7ada3af4a350f83c2e8ac81ed240d2a2e06d96fcb8c36e", func := "loop.example/changeringer/laws.FnMarkCut", spec := "fnMarkCut", unfollowed := true, recurses := true, apart := false }
def FnMarkCutSaid : Prop := fnMarkCutRow.holds Tryz.pinned (OpenSpec.ofChange fnMarkCutSpec)

/-- ITS FALSE NEIGHBOUR: 'it returns false'. Refute it at one input. -/
def fnMarkCutWrong : ChangeSpec := { name := "fnMarkCut", fn := fun _ => fun
  | [d1, d2] => { results := [.lit (.bool false)], args := [d1, d2] }
  | _ => none }
def FnMarkCutWrongFalsely : Prop := fnMarkCutRow.holds Tryz.pinned (OpenSpec.ofChange fnMarkCutWrong)

/- THE SECOND FORM. 'bulk': how many values and letters a reading holds, each counted each time it is reached (what is shared counts as often as it is met; a slice's spare places count too). A statement '..UptoSaid' is the law's where the arguments, and the package variables that the reading takes, are together of bulk at most 1048576: NARROWER than '..Said'. Prove '..Said' where nothing that the law and all that it calls make is longer than what came in: it says more and counts as full. Else prove '..UptoSaid'. A law counts once. -/
mutual
def uptoBulk {H : Type} : DataW H → Nat
  | .lit (.string bytes) => bytes.length + 1
  | .lit _ => 1
  | .nil => 1
  | .ptr d => uptoBulk d + 1
  | .slice elems spare => uptoBulkAll elems + uptoBulkAll spare + 1
  | .agg parts => uptoBulkAll parts + 1
  | .iface _ d => uptoBulk d + 1
  | .map entries => uptoBulkEntries entries + 1
  | .held _ => 1
def uptoBulkAll {H : Type} : List (DataW H) → Nat
  | [] => 0
  | d :: r => uptoBulk d + uptoBulkAll r
def uptoBulkEntries {H : Type} : List (Lit × DataW H) → Nat
  | [] => 0
  | x :: r => uptoBulkEntry x + uptoBulkEntries r
def uptoBulkEntry {H : Type} : Lit × DataW H → Nat
  | (.string bytes, d) => bytes.length + uptoBulk d + 1
  | (_, d) => uptoBulk d + 1
 end
def uptoSmall : (H : Type) → List (DataW H) → Bool := fun _ ds => decide (uptoBulkAll ds ≤ 1048576)
def OpenSpec.upto (s : _root_.Go.ChangeSpec) : _root_.Go.OpenSpec := { _root_.Go.OpenSpec.ofChange s with cond := some uptoSmall }

/-- 'laws.FnExactMarksOf', WHERE WHAT IT READS IS OF BULK AT MOST 1048576: true; the input reads as it did. -/
def fnExactMarksOfUptoRow : OpenClaim := { program := "ytlhogkfmdnpmkaagreat", sum := "d3d36f84ea6abc84ca7ada3af4a350f83c2e8ac81ed240d2a2e06d96fcb8c36e", func := "loop.example/changeringer/laws.FnExactMarksOf", spec := "fnExactMarksOf", unfollowed := true, recurses := true, loops := true, apart := false, narrowed := true }
def FnExactMarksOfUptoSaid : Prop := fnExactMarksOfUptoRow.holds Tryz.pinned (OpenSpec.upto fnExactMarksOfSpec)

/-- 'laws.FnExactRacesOf', WHERE WHAT IT READS IS OF BULK AT MOST 1048576: true; the input reads as it did. -/
def fnExactRacesOfUptoRow : OpenClaim := { program := "ytlhogkfmdnpmkaagreat", sum := "d3d36f84ea6abc84ca7ada3af4a350f83c2e8ac81ed240d2a2e06d96fcb8c36e", func := "loop.example/changeringer/laws.FnExactRacesOf", spec := "fnExactRacesOf", unfollowed := true, recurses := true, loops := true, apart := false, narrowed := true }
def FnExactRacesOfUptoSaid : Prop := fnExactRacesOfUptoRow.holds Tryz.pinned (OpenSpec.upto fnExactRacesOfSpec)

/-- 'laws.FnMarks', WHERE WHAT IT READS IS OF BULK AT MOST 1048576: true; the input reads as it did. -/
def fnMarksUptoRow : OpenClaim := { program := "ytlhogkfmdnpmkaagreat", sum := "d3d36f84ea6abc84ca7ada3af4a350f83c2e8ac81ed240d2a2e06d96fcb8c36e", func := "loop.example/changeringer/laws.FnMarks", spec := "fnMarks", unfollowed := true, recurses := true, apart := false, narrowed := true }
def FnMarksUptoSaid : Prop := fnMarksUptoRow.holds Tryz.pinned (OpenSpec.upto fnMarksSpec)

/-- 'laws.FnClockUp', WHERE WHAT IT READS IS OF BULK AT MOST 1048576: true; the input reads as it did. -/
def fnClockUpUptoRow : OpenClaim := { program := "ytlhogkfmdnpmkaagreat", sum := "d3d36f84ea6abc84ca7ada3af4a350f83c2e8ac81ed240d2a2e06d96fcb8c36e", func := "loop.example/changeringer/laws.FnClockUp", spec := "fnClockUp", unfollowed := true, recurses := true, apart := false, narrowed := true }
def FnClockUpUptoSaid : Prop := fnClockUpUptoRow.holds Tryz.pinned (OpenSpec.upto fnClockUpSpec)

/-- 'laws.FnMarkCut', WHERE WHAT IT READS IS OF BULK AT MOST 1048576: true; the input reads as it did. -/
def fnMarkCutUptoRow : OpenClaim := { program := "ytlhogkfmdnpmkaagreat", sum := "d3d36f84ea6abc84ca7ada3af4a350f83c2e8ac81ed240d2a2e06d96fcb8c36e", func := "loop.example/changeringer/laws.FnMarkCut", spec := "fnMarkCut", unfollowed := true, recurses := true, apart := false, narrowed := true }
def FnMarkCutUptoSaid : Prop := fnMarkCutUptoRow.holds Tryz.pinned (OpenSpec.upto fnMarkCutSpec)

end Rows
end Go.Proofs.YtlhogkfmdnpmkaaGreat
