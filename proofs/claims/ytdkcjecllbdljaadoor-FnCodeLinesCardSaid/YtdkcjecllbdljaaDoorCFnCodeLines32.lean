import Derived.Test.YtdkcjecllbdljaaDoorCFnCodeLines31
import Derived.Test.YtdkcjecllbdljaaDoorProg
import Derived.WalkSpells
import Derived.Laws.EntriesVeiled
namespace Go.Proofs.YtdkcjecllbdljaaDoor.HForms
open Go.RowKit Go.Proofs.YtdkcjecllbdljaaDoor.HMap
set_option linter.unusedVariables false
set_option linter.unusedSimpArgs false
def sNum:ByteArray:=⟨#[110,117,109]⟩
def sDo:ByteArray:=⟨#[100,111]⟩
def sLoad:ByteArray:=⟨#[108,111,97,100]⟩
def sStore:ByteArray:=⟨#[115,116,111,114,101]⟩
def sSay:ByteArray:=⟨#[115,97,121]⟩
def sSkip:ByteArray:=⟨#[115,107,105,112]⟩
def sJump:ByteArray:=⟨#[106,117,109,112]⟩
def sEnter:ByteArray:=⟨#[101,110,116,101,114]⟩
def sLeave:ByteArray:=⟨#[108,101,97,118,101]⟩
def sWait:ByteArray:=⟨#[119,97,105,116]⟩
def sSignal:ByteArray:=⟨#[115,105,103,110,97,108]⟩
def sYield:ByteArray:=⟨#[121,105,101,108,100]⟩
def sEnd:ByteArray:=⟨#[101,110,100]⟩
structure InsForm where
  word:ByteArray
  a:Int
  b:Int
  n:Bool
  index:Bool
def InsForm.val (f:InsForm):Value:=.agg #[.string f.word,.int .i64 f.a,.int .i64 f.b,.bool f.n,.bool f.index]
def insForms:List (Int × InsForm):=
  [(1,⟨sNum,3,0,true,false⟩),(2,⟨sDo,3,3,true,false⟩),(3,⟨sLoad,3,3,false,false⟩),(4,⟨sStore,3,3,false,false⟩),(5,⟨sSay,3,0,false,false⟩),
   (6,⟨sSkip,3,0,true,true⟩),(7,⟨sJump,0,0,true,true⟩),(8,⟨sEnter,2,0,false,false⟩),(9,⟨sLeave,2,0,false,false⟩),(10,⟨sWait,2,0,false,false⟩),
   (11,⟨sSignal,2,0,false,false⟩),(12,⟨sYield,0,0,false,false⟩),(13,⟨sEnd,0,0,false,false⟩)]
def insMap:List (Int × Value):=insForms.map (fun p=>(p.1,p.2.val))
def Zv (n limit:Int):Bool:=decide (n=0)||(decide (n > 0) && decide (n<limit))
def Zm (op n many:Int) (idx:Bool):Bool:=
  if idx=true then decide (0≤n) && decide (n<many) else if op=1 then decide (-999≤n) && decide (n≤999) else if op=2 then decide (1≤n) && decide (n≤5) else decide (n=0)
def insOkF (op a b n many:Int):Bool:=
  match (insForms.find? (fun p=>p.1 == op)).map (·.2) with
  |some f=>Zv a f.a && (Zv b f.b && Zm op n many f.index)
  |none=>false
def noForm:InsForm:=⟨⟨#[]⟩,0,0,false,false⟩
def Xz (op:Int):Bool × InsForm:=match (insForms.find? (fun p=>p.1 == op)).map (·.2) with
  |some f=>(true,f)
  |none=>(false,noForm)
theorem at_insMap (op:Int):at_ insMap op=((insForms.find? (fun p=>p.1 == op)).map (·.2)).map InsForm.val:=by
  unfold at_ insMap
  generalize insForms=l
  induction l with
  |nil=>rfl
  |cons p l ih=>
    simp only [List.map_cons,List.find?_cons]
    cases p.1 == op with
    |true=>rfl
    |false=>exact ih
theorem look_is (op:Int):(at_ insMap op).isSome=(Xz op).1∧(at_ insMap op).getD noForm.val=(Xz op).2.val:=by
  rw [at_insMap]
  unfold Xz
  cases (insForms.find? (fun p=>p.1 == op)).map (·.2) <;> exact ⟨rfl,rfl⟩
theorem look_run {W:World} {b:Nat} (h:IntMap W b insMap) (op:Int) :
    (Instr.lookup 50 (.map (some b)) (.int .i64 op) true).run Tryd.prog W =
      .ok (.tuple #[.agg #[.string (Xz op).2.word,.int .i64 (Xz op).2.a,.int .i64 (Xz op).2.b,.bool (Xz op).2.n,.bool (Xz op).2.index],.bool (Xz op).1]) W:=by
  have hz:(zeroValue 49).run Tryd.prog W=.ok noForm.val W:=by kernel_rfl
  rw [run_lookup_im Tryd.underlying50 Tryd.underlying3 h op true _ hz,(look_is op).1,(look_is op).2]
  rfl
set_option maxHeartbeats 8000000 in
set_option maxRecDepth 100000 in
theorem insForms_calls (w:World) :
    Calls Tryd.prog 24 #[] w fun e w'=>∃ b,e=.returned (.map (some b))∧IntMap w' b insMap∧w.heap.size≤b∧Below w.heap.size w w':=by
  have hmm:=@run_makeMap Tryd.prog
  go_enter Tryd.func24,Tryd.ntmps24
  have hm0:=IntMap.made w
  have hB0:=(Below.refl w.heap.size w).alloc (Nat.le_refl _) (.map #[] 0)
  go_wp2_with (refine wpList_update_im rfl _ _ _ (.inr rfl) Tryd.underlying50 Tryd.underlying3 _ rfl rfl (by assumption) ?_;intro w1 hm1 hg1 hs1;clear hs1;have hB1:=Below.grown (by assumption) hg1 (Below.size (by assumption)) (fun k e=>by cases e;exact Nat.le_refl _);clear hg1;clear hm0 hB0;have hm0:=hm1;have hB0:=hB1;clear hm1 hB1)
  go_ret
  exact ⟨_,rfl,hm0,Nat.le_refl _,hB0⟩
end Go.Proofs.YtdkcjecllbdljaaDoor.HForms
