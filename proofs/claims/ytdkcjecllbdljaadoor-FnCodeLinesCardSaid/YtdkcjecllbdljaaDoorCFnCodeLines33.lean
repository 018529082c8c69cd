import Derived.Test.YtdkcjecllbdljaaDoorCFnCodeLines31
import Derived.Test.YtdkcjecllbdljaaDoorCFnCodeLines2
namespace Go.Proofs.YtdkcjecllbdljaaDoor.HStep
open Go.RowKit Go.Proofs.YtdkcjecllbdljaaDoor.HMap Go.Proofs.YtdkcjecllbdljaaDoorW.PrintLast
section
variable {P:Program} {ops:Array Oper} {Q:Exit→Act→World→Prop} {oi:Oper} {N:Option Tmp} {a:Act} {w:World} {K:Act→World→Prop}
theorem alloc_ (t:TypeId) (cs:Array Value) (hw:Region.wanted oi (yielded ops a.tmps)=true) (hN:oi.dst=N) (hop:oi.op=.alloc t)
    (hrun:∀ W:World,(Instr.alloc t true (.tuple #[])).run P W=.ok (.pointer (some ⟨W.heap.size,0,none⟩)) (W.alloc (.cells cs t)))
    (h:K (a.put N (.pointer (some ⟨w.heap.size,0,none⟩))) (w.alloc (.cells cs t))):if Region.wanted oi (yielded ops a.tmps)=true then Oper.wp P oi a w K Q else K (a.put N undef) w:=by
  refine value_ hw hN ?_ h
  unfold execOp
  simp only [hop,Sem.run_bind,hrun,Result.andThen]
  rfl
theorem store_row_ (hw:Region.wanted oi (yielded ops a.tmps)=true) (hN:oi.dst=none) (ty:TypeId) (x y:Operand) (ho:oi.op=.store ty x y)
    (g:Nat) (cells:Array Value) (hx:a.eval x=.pointer (some ⟨g,0,none⟩)) (hy:a.eval y=.agg cells)
    (t:TypeId) (old:Array Value) (hg:w.heap[g]?=some (.cells old t (0,0))) (hi:(P.info? ty).map (·.size)=some cells.size)
    (hold:old.size=cells.size) (h1:cells.all (·.oneCell')=true)
    (h:K a (w.setRow g cells)):if Region.wanted oi (yielded ops a.tmps)=true then Oper.wp P oi a w K Q else K (a.put none undef) w:=by
  rw [if_pos hw]
  refine wp_store_row ty x y ho g cells hx hy t old hg hi hold h1 ?_
  rw [hN]
  exact h
theorem lookup_ (hw:Region.wanted oi (yielded ops a.tmps)=true) (hN:oi.dst=N) (T:TypeId) (mo x:Operand) (ok:Bool) (hop:oi.op=Op.lookup T mo x ok) (M X v:Value) (hmo:a.eval mo=M) (hx:a.eval x=X)
    (hrun:(Instr.lookup T M X ok).run P w=.ok v w)
    (h:K (a.put N v) w):if Region.wanted oi (yielded ops a.tmps)=true then Oper.wp P oi a w K Q else K (a.put N undef) w:=by
  refine value_ hw hN ?_ h
  unfold execOp
  simp only [hop,hmo,hx,Sem.run_bind,hrun,Result.andThen]
  rfl
end
theorem heap_setRow {w:World} {g:Nat} {cs old:Array Value} {t:TypeId} (hg:w.heap[g]?=some (.cells old t (0,0))):(w.setRow g cs).heap[g]?=some (.cells cs t (0,0)):=setRow_heap w g old cs t _ hg
end Go.Proofs.YtdkcjecllbdljaaDoor.HStep
