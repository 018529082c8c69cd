/-
  No cell of these rows narrows 'for every input' (looked for: loops, veiled, ifaces, maps, wideKeys, modest, calm, conditions, laid).
  DERIVED. THE GIVEN ROWS OF THIS SEAT. 12 by the template 'for every input the law returns true; each argument reads behind the call as it read before'; 0 by the template 'total and deterministic' (their statements: YtjmlpgpkmhjdiaaTotals.lean).
  GIVEN WITH THE SEED: the statements are not yours to turn. If you find one false, say at which input.
  Laid BY PROGRAM, IN A SANDBOX (cutbox-rows.mjs): the forced cells as the released guide's own fill.sh prints them over the translation 15200d6438f6ab28… (all of the seat's roots in one cut). By AI agents, Wed Nov 11 2026. No macro, syntax, notation, axiom, sorry.
-/
import Derived.Test.YtjmlpgpkmhjdiaaChecked
import GoSem.Claim
import GoSem.ClaimJoined
import GoSem.ClaimMapViews
import Derived.JoinedTies
import Derived.KernelRfl
namespace Go.Proofs.Ytjmlpgpkmhjdiaa
/- THE CELL 'sum', in the pinned program and in every row, IS THE sha256 OF THE DUMP (.gsa) THAT YtjmlpgpkmhjdiaaProg.lean LOADS. Nothing in Lean hashes anything: it is a label: what it is worth is what the hold of that sum in a sandbox is worth. -/
noncomputable def Try.pinned : Pinned := { name := "ytjmlpgpkmhjdiaa", sum := "15200d6438f6ab288500a1a2a83cbeff98a36aece8385132a503b3620446bb17", checked := Try.checked }
namespace Rows
def none {H : Type} : Left H := { results := [], args := [] }

/-- 'laws.FnExactNumDo': WHATEVER THE INPUT: true; the input reads as it did. -/
def fnExactNumDoSpec : ChangeSpec := { name := "fnExactNumDo", fn := fun _ => fun
  | [d1, d2, d3] => { results := [.lit (.bool true)], args := [d1, d2, d3] }
  | _ => none }
def fnExactNumDoRow : OpenClaim := { program := "ytjmlpgpkmhjdiaa", sum := "15200d6438f6ab288500a1a2a83cbeff98a36aece8385132a503b3620446bb17", func := "loop.example/changeringer/laws.FnExactNumDo", spec := "fnExactNumDo", unfollowed := true, recurses := true, apart := false }
def FnExactNumDoSaid : Prop := fnExactNumDoRow.holds Try.pinned (OpenSpec.ofChange fnExactNumDoSpec)

/-- ITS FALSE NEIGHBOUR: 'it returns false'. Refute it at one input. -/
def fnExactNumDoWrong : ChangeSpec := { name := "fnExactNumDo", fn := fun _ => fun
  | [d1, d2, d3] => { results := [.lit (.bool false)], args := [d1, d2, d3] }
  | _ => none }
def FnExactNumDoWrongFalsely : Prop := fnExactNumDoRow.holds Try.pinned (OpenSpec.ofChange fnExactNumDoWrong)

/-- 'laws.FnNumDo': WHATEVER THE INPUT: true; the input reads as it did. -/
def fnNumDoSpec : ChangeSpec := { name := "fnNumDo", fn := fun _ => fun
  | [d] => { results := [.lit (.bool true)], args := [d] }
  | _ => none }
def fnNumDoRow : OpenClaim := { program := "ytjmlpgpkmhjdiaa", sum := "15200d6438f6ab288500a1a2a83cbeff98a36aece8385132a503b3620446bb17", func := "loop.example/changeringer/laws.FnNumDo", spec := "fnNumDo", unfollowed := true, recurses := true, apart := false }
def FnNumDoSaid : Prop := fnNumDoRow.holds Try.pinned (OpenSpec.ofChange fnNumDoSpec)

/-- ITS FALSE NEIGHBOUR: 'it returns false'. Refute it at one input. -/
def fnNumDoWrong : ChangeSpec := { name := "fnNumDo", fn := fun _ => fun
  | [d] => { results := [.lit (.bool false)], args := [d] }
  | _ => none }
def FnNumDoWrongFalsely : Prop := fnNumDoRow.holds Try.pinned (OpenSpec.ofChange fnNumDoWrong)

/-- 'laws.FnNumFar': WHATEVER THE INPUT: true; the input reads as it did. -/
def fnNumFarSpec : ChangeSpec := { name := "fnNumFar", fn := fun _ => fun
  | [d] => { results := [.lit (.bool true)], args := [d] }
  | _ => none }
def fnNumFarRow : OpenClaim := { program := "ytjmlpgpkmhjdiaa", sum := "15200d6438f6ab288500a1a2a83cbeff98a36aece8385132a503b3620446bb17", func := "loop.example/changeringer/laws.FnNumFar", spec := "fnNumFar", unfollowed := true, recurses := true, apart := false }
def FnNumFarSaid : Prop := fnNumFarRow.holds Try.pinned (OpenSpec.ofChange fnNumFarSpec)

/-- ITS FALSE NEIGHBOUR: 'it returns false'. Refute it at one input. -/
def fnNumFarWrong : ChangeSpec := { name := "fnNumFar", fn := fun _ => fun
  | [d] => { results := [.lit (.bool false)], args := [d] }
  | _ => none }
def FnNumFarWrongFalsely : Prop := fnNumFarRow.holds Try.pinned (OpenSpec.ofChange fnNumFarWrong)

/-- 'laws.FnNumNought': WHATEVER THE INPUT: true; the input reads as it did. -/
def fnNumNoughtSpec : ChangeSpec := { name := "fnNumNought", fn := fun _ => fun
  | [d] => { results := [.lit (.bool true)], args := [d] }
  | _ => none }
def fnNumNoughtRow : OpenClaim := { program := "ytjmlpgpkmhjdiaa", sum := "15200d6438f6ab288500a1a2a83cbeff98a36aece8385132a503b3620446bb17", func := "loop.example/changeringer/laws.FnNumNought", spec := "fnNumNought", unfollowed := true, recurses := true, apart := false }
def FnNumNoughtSaid : Prop := fnNumNoughtRow.holds Try.pinned (OpenSpec.ofChange fnNumNoughtSpec)

/-- ITS FALSE NEIGHBOUR: 'it returns false'. Refute it at one input. -/
def fnNumNoughtWrong : ChangeSpec := { name := "fnNumNought", fn := fun _ => fun
  | [d] => { results := [.lit (.bool false)], args := [d] }
  | _ => none }
def FnNumNoughtWrongFalsely : Prop := fnNumNoughtRow.holds Try.pinned (OpenSpec.ofChange fnNumNoughtWrong)

/-- 'laws.FnNumOrder': WHATEVER THE INPUT: true; the input reads as it did. -/
def fnNumOrderSpec : ChangeSpec := { name := "fnNumOrder", fn := fun _ => fun
  | [d1, d2] => { results := [.lit (.bool true)], args := [d1, d2] }
  | _ => none }
def fnNumOrderRow : OpenClaim := { program := "ytjmlpgpkmhjdiaa", sum := "15200d6438f6ab288500a1a2a83cbeff98a36aece8385132a503b3620446bb17", func := "loop.example/changeringer/laws.FnNumOrder", spec := "fnNumOrder", unfollowed := true, recurses := true, apart := false }
def FnNumOrderSaid : Prop := fnNumOrderRow.holds Try.pinned (OpenSpec.ofChange fnNumOrderSpec)

/-- ITS FALSE NEIGHBOUR: 'it returns false'. Refute it at one input. -/
def fnNumOrderWrong : ChangeSpec := { name := "fnNumOrder", fn := fun _ => fun
  | [d1, d2] => { results := [.lit (.bool false)], args := [d1, d2] }
  | _ => none }
def FnNumOrderWrongFalsely : Prop := fnNumOrderRow.holds Try.pinned (OpenSpec.ofChange fnNumOrderWrong)

/-- 'laws.FnNumTurn': WHATEVER THE INPUT: true; the input reads as it did. -/
def fnNumTurnSpec : ChangeSpec := { name := "fnNumTurn", fn := fun _ => fun
  | [d] => { results := [.lit (.bool true)], args := [d] }
  | _ => none }
def fnNumTurnRow : OpenClaim := { program := "ytjmlpgpkmhjdiaa", sum := "15200d6438f6ab288500a1a2a83cbeff98a36aece8385132a503b3620446bb17", func := "loop.example/changeringer/laws.FnNumTurn", spec := "fnNumTurn", unfollowed := true, recurses := true, apart := false }
def FnNumTurnSaid : Prop := fnNumTurnRow.holds Try.pinned (OpenSpec.ofChange fnNumTurnSpec)

/-- ITS FALSE NEIGHBOUR: 'it returns false'. Refute it at one input. -/
def fnNumTurnWrong : ChangeSpec := { name := "fnNumTurn", fn := fun _ => fun
  | [d] => { results := [.lit (.bool false)], args := [d] }
  | _ => none }
def FnNumTurnWrongFalsely : Prop := fnNumTurnRow.holds Try.pinned (OpenSpec.ofChange fnNumTurnWrong)

/-- 'laws.FnExactSlimReach': WHATEVER THE INPUT: true; the input reads as it did. -/
def fnExactSlimReachSpec : ChangeSpec := { name := "fnExactSlimReach", fn := fun _ => fun
  | [d] => { results := [.lit (.bool true)], args := [d] }
  | _ => none }
def fnExactSlimReachRow : OpenClaim := { program := "ytjmlpgpkmhjdiaa", sum := "15200d6438f6ab288500a1a2a83cbeff98a36aece8385132a503b3620446bb17", func := "loop.example/changeringer/laws.FnExactSlimReach", spec := "fnExactSlimReach", unfollowed := true, recurses := true, apart := false }
def FnExactSlimReachSaid : Prop := fnExactSlimReachRow.holds Try.pinned (OpenSpec.ofChange fnExactSlimReachSpec)

/-- ITS FALSE NEIGHBOUR: 'it returns false'. Refute it at one input. -/
def fnExactSlimReachWrong : ChangeSpec := { name := "fnExactSlimReach", fn := fun _ => fun
  | [d] => { results := [.lit (.bool false)], args := [d] }
  | _ => none }
def FnExactSlimReachWrongFalsely : Prop := fnExactSlimReachRow.holds Try.pinned (OpenSpec.ofChange fnExactSlimReachWrong)

/-- 'laws.FnExactSlimJumps': WHATEVER THE INPUT: true; the input reads as it did. -/
def fnExactSlimJumpsSpec : ChangeSpec := { name := "fnExactSlimJumps", fn := fun _ => fun
  | [d] => { results := [.lit (.bool true)], args := [d] }
  | _ => none }
def fnExactSlimJumpsRow : OpenClaim := { program := "ytjmlpgpkmhjdiaa", sum := "15200d6438f6ab288500a1a2a83cbeff98a36aece8385132a503b3620446bb17", func := "loop.example/changeringer/laws.FnExactSlimJumps", spec := "fnExactSlimJumps", apart := false }
def FnExactSlimJumpsSaid : Prop := fnExactSlimJumpsRow.holds Try.pinned (OpenSpec.ofChange fnExactSlimJumpsSpec)

/-- ITS FALSE NEIGHBOUR: 'it returns false'. Refute it at one input. -/
def fnExactSlimJumpsWrong : ChangeSpec := { name := "fnExactSlimJumps", fn := fun _ => fun
  | [d] => { results := [.lit (.bool false)], args := [d] }
  | _ => none }
def FnExactSlimJumpsWrongFalsely : Prop := fnExactSlimJumpsRow.holds Try.pinned (OpenSpec.ofChange fnExactSlimJumpsWrong)

/-- 'laws.FnExactSlimDead': WHATEVER THE INPUT: true; the input reads as it did. -/
def fnExactSlimDeadSpec : ChangeSpec := { name := "fnExactSlimDead", fn := fun _ => fun
  | [d] => { results := [.lit (.bool true)], args := [d] }
  | _ => none }
def fnExactSlimDeadRow : OpenClaim := { program := "ytjmlpgpkmhjdiaa", sum := "15200d6438f6ab288500a1a2a83cbeff98a36aece8385132a503b3620446bb17", func := "loop.example/changeringer/laws.FnExactSlimDead", spec := "fnExactSlimDead", unfollowed := true, recurses := true, apart := false }
def FnExactSlimDeadSaid : Prop := fnExactSlimDeadRow.holds Try.pinned (OpenSpec.ofChange fnExactSlimDeadSpec)

/-- ITS FALSE NEIGHBOUR: 'it returns false'. Refute it at one input. -/
def fnExactSlimDeadWrong : ChangeSpec := { name := "fnExactSlimDead", fn := fun _ => fun
  | [d] => { results := [.lit (.bool false)], args := [d] }
  | _ => none }
def FnExactSlimDeadWrongFalsely : Prop := fnExactSlimDeadRow.holds Try.pinned (OpenSpec.ofChange fnExactSlimDeadWrong)

/-- 'laws.FnSlimReach': WHATEVER THE INPUT: true; the input reads as it did. -/
def fnSlimReachSpec : ChangeSpec := { name := "fnSlimReach", fn := fun _ => fun
  | [d] => { results := [.lit (.bool true)], args := [d] }
  | _ => none }
def fnSlimReachRow : OpenClaim := { program := "ytjmlpgpkmhjdiaa", sum := "15200d6438f6ab288500a1a2a83cbeff98a36aece8385132a503b3620446bb17", func := "loop.example/changeringer/laws.FnSlimReach", spec := "fnSlimReach", unfollowed := true, recurses := true, apart := false }
def FnSlimReachSaid : Prop := fnSlimReachRow.holds Try.pinned (OpenSpec.ofChange fnSlimReachSpec)

/-- ITS FALSE NEIGHBOUR: 'it returns false'. Refute it at one input. -/
def fnSlimReachWrong : ChangeSpec := { name := "fnSlimReach", fn := fun _ => fun
  | [d] => { results := [.lit (.bool false)], args := [d] }
  | _ => none }
def FnSlimReachWrongFalsely : Prop := fnSlimReachRow.holds Try.pinned (OpenSpec.ofChange fnSlimReachWrong)

/-- 'laws.FnSlimJumps': WHATEVER THE INPUT: true; the input reads as it did. -/
def fnSlimJumpsSpec : ChangeSpec := { name := "fnSlimJumps", fn := fun _ => fun
  | [d] => { results := [.lit (.bool true)], args := [d] }
  | _ => none }
def fnSlimJumpsRow : OpenClaim := { program := "ytjmlpgpkmhjdiaa", sum := "15200d6438f6ab288500a1a2a83cbeff98a36aece8385132a503b3620446bb17", func := "loop.example/changeringer/laws.FnSlimJumps", spec := "fnSlimJumps", recurses := true, apart := false }
def FnSlimJumpsSaid : Prop := fnSlimJumpsRow.holds Try.pinned (OpenSpec.ofChange fnSlimJumpsSpec)

/-- ITS FALSE NEIGHBOUR: 'it returns false'. Refute it at one input. -/
def fnSlimJumpsWrong : ChangeSpec := { name := "fnSlimJumps", fn := fun _ => fun
  | [d] => { results := [.lit (.bool false)], args := [d] }
  | _ => none }
def FnSlimJumpsWrongFalsely : Prop := fnSlimJumpsRow.holds Try.pinned (OpenSpec.ofChange fnSlimJumpsWrong)

/-- 'laws.FnExactSlim': WHATEVER THE INPUT: true; the input reads as it did. -/
def fnExactSlimSpec : ChangeSpec := { name := "fnExactSlim", fn := fun _ => fun
  | [d] => { results := [.lit (.bool true)], args := [d] }
  | _ => none }
def fnExactSlimRow : OpenClaim := { program := "ytjmlpgpkmhjdiaa", sum := "15200d6438f6ab288500a1a2a83cbeff98a36aece8385132a503b3620446bb17", func := "loop.example/changeringer/laws.FnExactSlim", spec := "fnExactSlim", unfollowed := true, recurses := true, apart := false }
def FnExactSlimSaid : Prop := fnExactSlimRow.holds Try.pinned (OpenSpec.ofChange fnExactSlimSpec)

/-- ITS FALSE NEIGHBOUR: 'it returns false'. Refute it at one input. -/
def fnExactSlimWrong : ChangeSpec := { name := "fnExactSlim", fn := fun _ => fun
  | [d] => { results := [.lit (.bool false)], args := [d] }
  | _ => none }
def FnExactSlimWrongFalsely : Prop := fnExactSlimRow.holds Try.pinned (OpenSpec.ofChange fnExactSlimWrong)

/- THE SECOND FORM. 'bulk': how many values and letters a reading holds, each counted each time it is reached (what is shared counts as often as it is met; a slice's spare places count too). A statement '..UptoSaid' is the law's where the arguments, and the package variables that the reading takes, are together of bulk at most 1048576: NARROWER than '..Said'. Prove '..Said' where nothing that the law and all that it calls make is longer than what came in: it says more and counts as full. Else prove '..UptoSaid'. A law counts once. -/
mutual
def uptoBulk {H : Type} : DataW H → Nat
  | .lit (.string bytes) => bytes.length + 1
  | .lit _ => 1
  | .nil => 1
  | .ptr d => uptoBulk d + 1
  | .slice elems spare => uptoBulkAll elems + uptoBulkAll spare + 1
  | .agg parts => uptoBulkAll parts + 1
  | .iface _ d => uptoBulk d + 1
  | .map entries => uptoBulkEntries entries + 1
  | .held _ => 1
def uptoBulkAll {H : Type} : List (DataW H) → Nat
  | [] => 0
  | d :: r => uptoBulk d + uptoBulkAll r
def uptoBulkEntries {H : Type} : List (Lit × DataW H) → Nat
  | [] => 0
  | x :: r => uptoBulkEntry x + uptoBulkEntries r
def uptoBulkEntry {H : Type} : Lit × DataW H → Nat
  | (.string bytes, d) => bytes.length + uptoBulk d + 1
  | (_, d) => uptoBulk d + 1
 end
def uptoSmall : (H : Type) → List (DataW H) → Bool := fun _ ds => decide (uptoBulkAll ds ≤ 1048576)
def OpenSpec.upto (s : _root_.Go.ChangeSpec) : _root_.Go.OpenSpec := { _root_.Go.OpenSpec.ofChange s with cond := some uptoSmall }

/-- 'laws.FnExactNumDo', WHERE WHAT IT READS IS OF BULK AT MOST 1048576: true; the input reads as it did. -/
def fnExactNumDoUptoRow : OpenClaim := { program := "ytjmlpgpkmhjdiaa", sum := "15200d6438f6ab288500a1a2a83cbeff98a36aece8385132a503b3620446bb17", func := "loop.example/changeringer/laws.FnExactNumDo", spec := "fnExactNumDo", unfollowed := true, recurses := true, apart := false, narrowed := true }
def FnExactNumDoUptoSaid : Prop := fnExactNumDoUptoRow.holds Try.pinned (OpenSpec.upto fnExactNumDoSpec)

/-- 'laws.FnNumDo', WHERE WHAT IT READS IS OF BULK AT MOST 1048576: true; the input reads as it did. -/
def fnNumDoUptoRow : OpenClaim := { program := "ytjmlpgpkmhjdiaa", sum := "15200d6438f6ab288500a1a2a83cbeff98a36aece8385132a503b3620446bb17", func := "loop.example/changeringer/laws.FnNumDo", spec := "fnNumDo", unfollowed := true, recurses := true, apart := false, narrowed := true }
def FnNumDoUptoSaid : Prop := fnNumDoUptoRow.holds Try.pinned (OpenSpec.upto fnNumDoSpec)

/-- 'laws.FnNumFar', WHERE WHAT IT READS IS OF BULK AT MOST 1048576: true; the input reads as it did. -/
def fnNumFarUptoRow : OpenClaim := { program := "ytjmlpgpkmhjdiaa", sum := "15200d6438f6ab288500a1a2a83cbeff98a36aece8385132a503b3620446bb17", func := "loop.example/changeringer/laws.FnNumFar", spec := "fnNumFar", unfollowed := true, recurses := true, apart := false, narrowed := true }
def FnNumFarUptoSaid : Prop := fnNumFarUptoRow.holds Try.pinned (OpenSpec.upto fnNumFarSpec)

/-- 'laws.FnNumNought', WHERE WHAT IT READS IS OF BULK AT MOST 1048576: true; the input reads as it did. -/
def fnNumNoughtUptoRow : OpenClaim := { program := "ytjmlpgpkmhjdiaa", sum := "15200d6438f6ab288500a1a2a83cbeff98a36aece8385132a503b3620446bb17", func := "loop.example/changeringer/laws.FnNumNought", spec := "fnNumNought", unfollowed := true, recurses := true, apart := false, narrowed := true }
def FnNumNoughtUptoSaid : Prop := fnNumNoughtUptoRow.holds Try.pinned (OpenSpec.upto fnNumNoughtSpec)

/-- 'laws.FnNumOrder', WHERE WHAT IT READS IS OF BULK AT MOST 1048576: true; the input reads as it did. -/
def fnNumOrderUptoRow : OpenClaim := { program := "ytjmlpgpkmhjdiaa", sum := "15200d6438f6ab288500a1a2a83cbeff98a36aece8385132a503b3620446bb17", func := "loop.example/changeringer/laws.FnNumOrder", spec := "fnNumOrder", unfollowed := true, recurses := true, apart := false, narrowed := true }
def FnNumOrderUptoSaid : Prop := fnNumOrderUptoRow.holds Try.pinned (OpenSpec.upto fnNumOrderSpec)

/-- 'laws.FnNumTurn', WHERE WHAT IT READS IS OF BULK AT MOST 1048576: true; the input reads as it did. -/
def fnNumTurnUptoRow : OpenClaim := { program := "ytjmlpgpkmhjdiaa", sum := "15200d6438f6ab288500a1a2a83cbeff98a36aece8385132a503b3620446bb17", func := "loop.example/changeringer/laws.FnNumTurn", spec := "fnNumTurn", unfollowed := true, recurses := true, apart := false, narrowed := true }
def FnNumTurnUptoSaid : Prop := fnNumTurnUptoRow.holds Try.pinned (OpenSpec.upto fnNumTurnSpec)

/-- 'laws.FnExactSlimReach', WHERE WHAT IT READS IS OF BULK AT MOST 1048576: true; the input reads as it did. -/
def fnExactSlimReachUptoRow : OpenClaim := { program := "ytjmlpgpkmhjdiaa", sum := "15200d6438f6ab288500a1a2a83cbeff98a36aece8385132a503b3620446bb17", func := "loop.example/changeringer/laws.FnExactSlimReach", spec := "fnExactSlimReach", unfollowed := true, recurses := true, apart := false, narrowed := true }
def FnExactSlimReachUptoSaid : Prop := fnExactSlimReachUptoRow.holds Try.pinned (OpenSpec.upto fnExactSlimReachSpec)

/-- 'laws.FnExactSlimJumps', WHERE WHAT IT READS IS OF BULK AT MOST 1048576: true; the input reads as it did. -/
def fnExactSlimJumpsUptoRow : OpenClaim := { program := "ytjmlpgpkmhjdiaa", sum := "15200d6438f6ab288500a1a2a83cbeff98a36aece8385132a503b3620446bb17", func := "loop.example/changeringer/laws.FnExactSlimJumps", spec := "fnExactSlimJumps", apart := false, narrowed := true }
def FnExactSlimJumpsUptoSaid : Prop := fnExactSlimJumpsUptoRow.holds Try.pinned (OpenSpec.upto fnExactSlimJumpsSpec)

/-- 'laws.FnExactSlimDead', WHERE WHAT IT READS IS OF BULK AT MOST 1048576: true; the input reads as it did. -/
def fnExactSlimDeadUptoRow : OpenClaim := { program := "ytjmlpgpkmhjdiaa", sum := "15200d6438f6ab288500a1a2a83cbeff98a36aece8385132a503b3620446bb17", func := "loop.example/changeringer/laws.FnExactSlimDead", spec := "fnExactSlimDead", unfollowed := true, recurses := true, apart := false, narrowed := true }
def FnExactSlimDeadUptoSaid : Prop := fnExactSlimDeadUptoRow.holds Try.pinned (OpenSpec.upto fnExactSlimDeadSpec)

/-- 'laws.FnSlimReach', WHERE WHAT IT READS IS OF BULK AT MOST 1048576: true; the input reads as it did. -/
def fnSlimReachUptoRow : OpenClaim := { program := "ytjmlpgpkmhjdiaa", sum := "15200d6438f6ab288500a1a2a83cbeff98a36aece8385132a503b3620446bb17", func := "loop.example/changeringer/laws.FnSlimReach", spec := "fnSlimReach", unfollowed := true, recurses := true, apart := false, narrowed := true }
def FnSlimReachUptoSaid : Prop := fnSlimReachUptoRow.holds Try.pinned (OpenSpec.upto fnSlimReachSpec)

/-- 'laws.FnSlimJumps', WHERE WHAT IT READS IS OF BULK AT MOST 1048576: true; the input reads as it did. -/
def fnSlimJumpsUptoRow : OpenClaim := { program := "ytjmlpgpkmhjdiaa", sum := "15200d6438f6ab288500a1a2a83cbeff98a36aece8385132a503b3620446bb17", func := "loop.example/changeringer/laws.FnSlimJumps", spec := "fnSlimJumps", recurses := true, apart := false, narrowed := true }
def FnSlimJumpsUptoSaid : Prop := fnSlimJumpsUptoRow.holds Try.pinned (OpenSpec.upto fnSlimJumpsSpec)

/-- 'laws.FnExactSlim', WHERE WHAT IT READS IS OF BULK AT MOST 1048576: true; the input reads as it did. -/
def fnExactSlimUptoRow : OpenClaim := { program := "ytjmlpgpkmhjdiaa", sum := "15200d6438f6ab288500a1a2a83cbeff98a36aece8385132a503b3620446bb17", func := "loop.example/changeringer/laws.FnExactSlim", spec := "fnExactSlim", unfollowed := true, recurses := true, apart := false, narrowed := true }
def FnExactSlimUptoSaid : Prop := fnExactSlimUptoRow.holds Try.pinned (OpenSpec.upto fnExactSlimSpec)

end Rows
end Go.Proofs.Ytjmlpgpkmhjdiaa
