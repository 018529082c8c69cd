/-
  No cell of these rows narrows 'for every input' (looked for: loops, veiled, ifaces, maps, wideKeys, modest, calm, conditions, laid).
  DERIVED. THE GIVEN ROWS OF THIS SEAT. 3 by the template 'for every input the law returns true; each argument reads behind the call as it read before'; 0 by the template 'total and deterministic' (their statements: YtdkcjecllbdljaaTotals.lean).
  GIVEN WITH THE SEED: the statements are not yours to turn. If you find one false, say at which input.
  Laid BY PROGRAM, IN A SANDBOX (cutbox-rows.mjs): the forced cells as the released guide's own fill.sh prints them over the translation b21f093b0b6b65bc… (all of the seat's roots in one cut). By AI agents, Wed Nov 11 2026. No macro, syntax, notation, axiom, sorry.
-/
import Derived.Test.YtdkcjecllbdljaaChecked
import GoSem.Claim
import GoSem.ClaimJoined
import GoSem.ClaimMapViews
import Derived.JoinedTies
import Derived.KernelRfl
namespace Go.Proofs.Ytdkcjecllbdljaa
/- THE CELL 'sum', in the pinned program and in every row, IS THE sha256 OF THE DUMP (.gsa) THAT YtdkcjecllbdljaaProg.lean LOADS. Nothing in Lean hashes anything: it is a label: what it is worth is what the hold of that sum in a sandbox is worth. -/
noncomputable def Try.pinned : Pinned := { name := "ytdkcjecllbdljaa", sum := "b21f093b0b6b65bcc91cf9da13b7b8faa1e92bb01e5b5af4247261ac4d2037bb", checked := Try.checked }
namespace Rows
def none {H : Type} : Left H := { results := [], args := [] }

/-- 'laws.FnSlimDead': WHATEVER THE INPUT: true; the input reads as it did. -/
def fnSlimDeadSpec : ChangeSpec := { name := "fnSlimDead", fn := fun _ => fun
  | [d] => { results := [.lit (.bool true)], args := [d] }
  | _ => none }
def fnSlimDeadRow : OpenClaim := { program := "ytdkcjecllbdljaa", sum := "b21f093b0b6b65bcc91cf9da13b7b8faa1e92bb01e5b5af4247261ac4d2037bb", func := "loop.example/changeringer/laws.FnSlimDead", spec := "fnSlimDead", unfollowed := true, recurses := true, apart := false }
def FnSlimDeadSaid : Prop := fnSlimDeadRow.holds Try.pinned (OpenSpec.ofChange fnSlimDeadSpec)

/-- ITS FALSE NEIGHBOUR: 'it returns false'. Refute it at one input. -/
def fnSlimDeadWrong : ChangeSpec := { name := "fnSlimDead", fn := fun _ => fun
  | [d] => { results := [.lit (.bool false)], args := [d] }
  | _ => none }
def FnSlimDeadWrongFalsely : Prop := fnSlimDeadRow.holds Try.pinned (OpenSpec.ofChange fnSlimDeadWrong)

/-- 'laws.FnSlimPlaces': WHATEVER THE INPUT: true; the input reads as it did. -/
def fnSlimPlacesSpec : ChangeSpec := { name := "fnSlimPlaces", fn := fun _ => fun
  | [d] => { results := [.lit (.bool true)], args := [d] }
  | _ => none }
def fnSlimPlacesRow : OpenClaim := { program := "ytdkcjecllbdljaa", sum := "b21f093b0b6b65bcc91cf9da13b7b8faa1e92bb01e5b5af4247261ac4d2037bb", func := "loop.example/changeringer/laws.FnSlimPlaces", spec := "fnSlimPlaces", unfollowed := true, recurses := true, apart := false }
def FnSlimPlacesSaid : Prop := fnSlimPlacesRow.holds Try.pinned (OpenSpec.ofChange fnSlimPlacesSpec)

/-- ITS FALSE NEIGHBOUR: 'it returns false'. Refute it at one input. -/
def fnSlimPlacesWrong : ChangeSpec := { name := "fnSlimPlaces", fn := fun _ => fun
  | [d] => { results := [.lit (.bool false)], args := [d] }
  | _ => none }
def FnSlimPlacesWrongFalsely : Prop := fnSlimPlacesRow.holds Try.pinned (OpenSpec.ofChange fnSlimPlacesWrong)

/-- 'laws.FnSlim': WHATEVER THE INPUT: true; the input reads as it did. -/
def fnSlimSpec : ChangeSpec := { name := "fnSlim", fn := fun _ => fun
  | [d] => { results := [.lit (.bool true)], args := [d] }
  | _ => none }
def fnSlimRow : OpenClaim := { program := "ytdkcjecllbdljaa", sum := "b21f093b0b6b65bcc91cf9da13b7b8faa1e92bb01e5b5af4247261ac4d2037bb", func := "loop.example/changeringer/laws.FnSlim", spec := "fnSlim", unfollowed := true, recurses := true, apart := false }
def FnSlimSaid : Prop := fnSlimRow.holds Try.pinned (OpenSpec.ofChange fnSlimSpec)

/-- ITS FALSE NEIGHBOUR: 'it returns false'. Refute it at one input. -/
def fnSlimWrong : ChangeSpec := { name := "fnSlim", fn := fun _ => fun
  | [d] => { results := [.lit (.bool false)], args := [d] }
  | _ => none }
def FnSlimWrongFalsely : Prop := fnSlimRow.holds Try.pinned (OpenSpec.ofChange fnSlimWrong)

/- THE SECOND FORM. 'bulk': how many values and letters a reading holds, each counted each time it is reached (what is shared counts as often as it is met; a slice's spare places count too). A statement '..UptoSaid' is the law's where the arguments, and the package variables that the reading takes, are together of bulk at most 1048576: NARROWER than '..Said'. Prove '..Said' where nothing that the law and all that it calls make is longer than what came in: it says more and counts as full. Else prove '..UptoSaid'. A law counts once. -/
mutual
def uptoBulk {H : Type} : DataW H → Nat
  | .lit (.string bytes) => bytes.length + 1
  | .lit _ => 1
  | .nil => 1
  | .ptr d => uptoBulk d + 1
  | .slice elems spare => uptoBulkAll elems + uptoBulkAll spare + 1
  | .agg parts => uptoBulkAll parts + 1
  | .iface _ d => uptoBulk d + 1
  | .map entries => uptoBulkEntries entries + 1
  | .held _ => 1
def uptoBulkAll {H : Type} : List (DataW H) → Nat
  | [] => 0
  | d :: r => uptoBulk d + uptoBulkAll r
def uptoBulkEntries {H : Type} : List (Lit × DataW H) → Nat
  | [] => 0
  | x :: r => uptoBulkEntry x + uptoBulkEntries r
def uptoBulkEntry {H : Type} : Lit × DataW H → Nat
  | (.string bytes, d) => bytes.length + uptoBulk d + 1
  | (_, d) => uptoBulk d + 1
 end
def uptoSmall : (H : Type) → List (DataW H) → Bool := fun _ ds => decide (uptoBulkAll ds ≤ 1048576)
def OpenSpec.upto (s : _root_.Go.ChangeSpec) : _root_.Go.OpenSpec := { _root_.Go.OpenSpec.ofChange s with cond := some uptoSmall }

/-- 'laws.FnSlimDead', WHERE WHAT IT READS IS OF BULK AT MOST 1048576: true; the input reads as it did. -/
def fnSlimDeadUptoRow : OpenClaim := { program := "ytdkcjecllbdljaa", sum := "b21f093b0b6b65bcc91cf9da13b7b8faa1e92bb01e5b5af4247261ac4d2037bb", func := "loop.example/changeringer/laws.FnSlimDead", spec := "fnSlimDead", unfollowed := true, recurses := true, apart := false, narrowed := true }
def FnSlimDeadUptoSaid : Prop := fnSlimDeadUptoRow.holds Try.pinned (OpenSpec.upto fnSlimDeadSpec)

/-- 'laws.FnSlimPlaces', WHERE WHAT IT READS IS OF BULK AT MOST 1048576: true; the input reads as it did. -/
def fnSlimPlacesUptoRow : OpenClaim := { program := "ytdkcjecllbdljaa", sum := "b21f093b0b6b65bcc91cf9da13b7b8faa1e92bb01e5b5af4247261ac4d2037bb", func := "loop.example/changeringer/laws.FnSlimPlaces", spec := "fnSlimPlaces", unfollowed := true, recurses := true, apart := false, narrowed := true }
def FnSlimPlacesUptoSaid : Prop := fnSlimPlacesUptoRow.holds Try.pinned (OpenSpec.upto fnSlimPlacesSpec)

/-- 'laws.FnSlim', WHERE WHAT IT READS IS OF BULK AT MOST 1048576: true; the input reads as it did. -/
def fnSlimUptoRow : OpenClaim := { program := "ytdkcjecllbdljaa", sum := "b21f093b0b6b65bcc91cf9da13b7b8faa1e92bb01e5b5af4247261ac4d2037bb", func := "loop.example/changeringer/laws.FnSlim", spec := "fnSlim", unfollowed := true, recurses := true, apart := false, narrowed := true }
def FnSlimUptoSaid : Prop := fnSlimUptoRow.holds Try.pinned (OpenSpec.upto fnSlimSpec)

end Rows
end Go.Proofs.Ytdkcjecllbdljaa
