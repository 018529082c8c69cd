import Derived.Test.YtjmlpgpkmhjdiaaCFnSlimJumps72
import Derived.Test.YtjmlpgpkmhjdiaaCFnSlimJumps49
import Derived.Test.YtjmlpgpkmhjdiaaCFnSlimJumps52
namespace Go.Proofs.Ytjmlpgpkmhjdiaa.Pure
open Go.RowKit Go.Proofs.Ytjmlpgpkmhjdiaa.GSlim Go.Proofs.YtjmlpgpkmhjdiaaW.PrintWords Go.Proofs.YtjmlpgpkmhjdiaaW.PrintLast Go.Proofs.YtjmlpgpkmhjdiaaW.PrintMore Go.Proofs.Ytjmlpgpkmhjdiaa.Evt Go.Proofs.Ytjmlpgpkmhjdiaa.HForms
set_option linter.unusedVariables false
set_option linter.unusedSimpArgs false
@[irreducible] def tabB (n : Nat) (p : Nat → Bool) : List Bool := (List.range n).map p
theorem length_tabB (n:Nat) (p:Nat→Bool):(tabB n p).length=n:=by simp [tabB]
theorem tabB_get {n i:Nat} (p:Nat→Bool) (h:i<n):(tabB n p).getD i false=p i:=by
  simp [tabB,List.getD_eq_getElem?_getD,List.getElem?_map,List.getElem?_range h]
theorem tabB_elem {n i:Nat} (p:Nat→Bool) (h:i<(tabB n p).length):(tabB n p)[i]=p i:=by
  have h2:i<n:=by rwa [length_tabB] at h
  rw [← getD_at false h,tabB_get p h2]
def nxt (p:Nat→Bool):Nat→Nat→Nat
  |0,k=>k
  |d+1,k=>if p k=true then k else nxt p d (k+1)
theorem nxt_ge (p:Nat→Bool):∀ d k,k≤nxt p d k
  |0,k=>Nat.le_refl k
  |d+1,k=>by
    unfold nxt
    split
    · exact Nat.le_refl k
    · exact Nat.le_trans (Nat.le_succ k) (nxt_ge p d (k+1))
theorem nxt_le (p:Nat→Bool):∀ d k,nxt p d k≤k+d
  |0,k=>Nat.le_refl k
  |d+1,k=>by
    unfold nxt
    split
    · omega
    · have:=nxt_le p d (k+1);omega
theorem nxt_not (p:Nat→Bool):∀ d k j,k≤j→j<nxt p d k→p j=false
  |0,k,j,h1,h2=>by unfold nxt at h2;omega
  |d+1,k,j,h1,h2=>by
    unfold nxt at h2
    split at h2
    · omega
    · rename_i hk
      rcases Nat.eq_or_lt_of_le h1 with rfl|hlt
      · simpa using hk
      · exact nxt_not p d (k+1) j hlt h2
theorem nxt_is (p:Nat→Bool):∀ d k,p (k+d)=true→p (nxt p d k)=true
  |0,k,h=>h
  |d+1,k,h=>by
    unfold nxt
    split
    · rename_i hk;exact hk
    · exact nxt_is p d (k+1) (by rw [show k+1+d=k+(d+1) by omega];exact h)
open Classical in
noncomputable def lv (c:List Ins) (i:Nat):Bool:=decide (Reach c i∨i+1=c.length)
noncomputable def nx (c:List Ins) (i:Nat):Nat:=nxt (lv c) (c.length - 1 - (i+1)) (i+1)
open Classical in
noncomputable def kp (c:List Ins) (i:Nat):Bool:=decide (i+1=c.length∨(Reach c i∧¬ ((at_ c i).f0=7∧(at_ c i).f3=(nx c i:Int))))
noncomputable def keepB (c:List Ins):List Bool:=tabB c.length (kp c)
noncomputable def slimD (c:List Ins):List Ins:=dead.out (keepB c) c (keepB c)
section Contains
end Contains
theorem Uv.mem {c:List Ins} (hv:Uv c) {s:Ins} (h:s ∈ c):∃ i,i<c.length∧at_ c i=s:=by
  obtain ⟨i,hi,e⟩:=List.getElem_of_mem h
  exact ⟨i,hi,by rw [at_lt hi];exact e⟩
theorem length_slimD (c:List Ins):(slimD c).length≤c.length:=dead.out_len _ _ _
end Go.Proofs.Ytjmlpgpkmhjdiaa.Pure
