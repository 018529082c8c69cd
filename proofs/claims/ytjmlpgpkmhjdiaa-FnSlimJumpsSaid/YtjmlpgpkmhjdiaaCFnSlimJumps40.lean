import Derived.Test.YtjmlpgpkmhjdiaaCFnSlimJumps0
import Derived.RangeFuncLeaves
import Derived.RangeFuncFrom
import Derived.RangeFuncIn
import Derived.RangeFuncRecord
import Derived.Shelf.Abstract
namespace Go.Proofs.Ytjmlpgpkmhjdiaa.Range
open Go Go.RowKit Go.Proofs.YtjmlpgpkmhjdiaaW.PrintWords
set_option linter.unusedVariables false
def Ab {β:Type} (B:Nat) (J:β→World→Prop):Prop:=∀ s W W',J s W→Below B W W'→J s W'
structure Keeps (B:Nat) (X:Nat→Prop) (W W':World):Prop where
  size:W.heap.size≤W'.heap.size
  high:∀ k,B≤k→k<W.heap.size→W'.heap[k]?=W.heap[k]?
  seen:∀ k,X k→W'.heap[k]?=W.heap[k]?
  os:W'.os=W.os
  tape:W'.tape=W.tape
  output:W'.output=W.output
theorem Keeps.refl (B:Nat) (X:Nat→Prop) (W:World):Keeps B X W W:=⟨Nat.le_refl _,fun _ _ _=>rfl,fun _ _=>rfl,rfl,rfl,rfl⟩
theorem Keeps.trans {B:Nat} {X:Nat→Prop} {A C D:World} (h:Keeps B X A C) (h':Keeps B X C D):Keeps B X A D:=
  ⟨Nat.le_trans h.size h'.size,fun k hk hlt=>(h'.high k hk (Nat.lt_of_lt_of_le hlt h.size)).trans (h.high k hk hlt),fun k hk=>(h'.seen k hk).trans (h.seen k hk),h'.os.trans h.os,h'.tape.trans h.tape,h'.output.trans h.output⟩
theorem Keeps.mono {B B':Nat} {X X':Nat→Prop} {W W':World} (h:Keeps B X W W') (hB:B≤B') (hX:∀ k,X' k→X k):Keeps B' X' W W':=⟨h.size,fun k hk hlt=>h.high k (by omega) hlt,fun k hk=>h.seen k (hX k hk),h.os,h.tape,h.output⟩
def Seq {α:Type} (P:Program) (g:Nat) (lb:Array Value) (encs:α→Array Value) (X:Nat→Prop) (S Sp:List α→Prop) (Ok:List α→α→Prop) (w:World):Prop:=
  ∀ (l:Nat) (J Jx:List α→World→Prop) (W:World),Below w.heap.size w W→Ab W.heap.size J→Ab W.heap.size Jx→
    (∀ pre x W1,J pre W1→Ok pre x→YieldAt Fence.wide 0 P l (encs x) W1 fun e W'=>
      (e=.returned (.bool true)∧J (pre ++ [x]) W'∧Keeps W.heap.size X W1 W')∨(e=.returned (.bool false)∧Jx (pre ++ [x]) W'∧Keeps W.heap.size X W1 W'))→
    J [] W→
    Calls P g (#[.func (.yield l) #[] #[]] ++ lb) W fun e W'=>(∃ v,e=.returned v)∧((∃ xs,S xs∧J xs W')∨(∃ pre,Sp pre∧Jx pre W'))
end Go.Proofs.Ytjmlpgpkmhjdiaa.Range
