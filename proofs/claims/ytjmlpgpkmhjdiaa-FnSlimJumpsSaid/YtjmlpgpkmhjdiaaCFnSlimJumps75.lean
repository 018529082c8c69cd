import Derived.Test.YtjmlpgpkmhjdiaaCFnSlimJumps74
import Derived.Test.YtjmlpgpkmhjdiaaCFnSlimJumps72
namespace Go.Proofs.Ytjmlpgpkmhjdiaa.Pure
open Go.RowKit Go.Proofs.Ytjmlpgpkmhjdiaa.GSlim Go.Proofs.YtjmlpgpkmhjdiaaW.PrintWords Go.Proofs.YtjmlpgpkmhjdiaaW.PrintLast Go.Proofs.YtjmlpgpkmhjdiaaW.PrintMore Go.Proofs.Ytjmlpgpkmhjdiaa.Evt Go.Proofs.Ytjmlpgpkmhjdiaa.HForms
set_option linter.unusedVariables false
set_option linter.unusedSimpArgs false
def node (c:List Ins) (u:Nat):Nat→Nat
  |0=>u
  |k+1=>(at_ c (node c u k)).f3.toNat
theorem node_succ (c:List Ins) (u:Nat):∀ k,node c u (k+1)=node c (at_ c u).f3.toNat k
  |0=>rfl
  |k+1=>by
    show (at_ c (node c u (k+1))).f3.toNat=_
    rw [node_succ c u k]
    rfl
theorem fol_none (c:List Ins):∀ (d u:Nat),fol c d u=none↔∀ k,k<d→(at_ c (node c u k)).f0=7
  |0,u=>by simp [fol]
  |d+1,u=>by
    rw [fol]
    by_cases h7:(at_ c u).f0=7
    · rw [if_pos h7,fol_none c d]
      constructor
      · intro h k hk
        cases k with
        |zero=>exact h7
        |succ k=>rw [node_succ];exact h k (by omega)
      · intro h k hk
        have:=h (k+1) (by omega)
        rwa [node_succ] at this
    · rw [if_neg h7]
      constructor
      · intro h;cases h
      · intro h;exact absurd (h 0 (by omega)) h7
theorem fol_end (c:List Ins):∀ (d u t:Nat),fol c d u=some t→(at_ c t).f0≠7
  |0,u,t,h=>by simp [fol] at h
  |d+1,u,t,h=>by
    rw [fol] at h
    split at h
    · exact fol_end c d _ t h
    · rename_i h7
      obtain rfl:=Option.some.inj h
      exact h7
theorem node_again {c:List Ins} {u a b:Nat} (h:node c u a=node c u b):∀ m,node c u (a+m)=node c u (b+m)
  |0=>h
  |m+1=>by
    show (at_ c (node c u (a+m))).f3.toNat=(at_ c (node c u (b+m))).f3.toNat
    rw [node_again h m]
theorem fol_ever {c:List Ins} (hv:Uv c) {u:Nat} (hu:u<c.length) (h:fol c (c.length+1) u=none):∀ d,fol c d u=none:=by
  rw [fol_none] at h
  have hlt:∀ k,k≤c.length→node c u k<c.length:=fun k=>by
    induction k with
    |zero=>intro _;exact hu
    |succ k ih=>
      intro hk
      obtain ⟨t0,t1⟩:=hv.target (ih (by omega)) (Or.inr (h k (by omega)))
      show (at_ c (node c u k)).f3.toNat<_
      omega
  have hrep:∃ a b,a<b∧b≤c.length∧node c u a=node c u b:=by
    refine Classical.byContradiction (fun hn=>?_)
    have hne:∀ a b,a<b→b≤c.length→node c u a≠node c u b:=fun a b h1 h2 h3=>hn ⟨a,b,h1,h2,h3⟩
    have hnd:((List.range (c.length+1)).map (fun k=>((node c u k:Nat):Int))).Nodup:=by
      unfold List.Nodup
      rw [List.pairwise_map]
      refine List.Pairwise.imp_of_mem (R:=fun a b=>a<b) (fun {a b} _ hb hab=>?_) List.pairwise_lt_range
      have:=hne a b hab (by have:=List.mem_range.1 hb;omega)
      omega
    have:=nodup_le c.length _ hnd (fun x hx=>by
      obtain ⟨k,hk,rfl⟩:=List.mem_map.1 hx
      have:=hlt k (by have:=List.mem_range.1 hk;omega)
      omega)
    simp at this
    omega
  obtain ⟨a,b,hab,hb,he⟩:=hrep
  have hall:∀ k,(at_ c (node c u k)).f0=7:=fun k=>by
    induction k using Nat.strongRecOn with
    |_ k ih=>
      by_cases hk:k<c.length+1
      · exact h k hk
      · have e:=node_again he (k - b)
        rw [show b+(k - b)=k by omega] at e
        rw [← e]
        exact ih _ (by omega)
  intro d
  rw [fol_none]
  exact fun k _=>hall k
theorem ever_next {c:List Ins} {u:Nat} (h:∀ d,fol c d u=none):(at_ c u).f0=7∧∀ d,fol c d (at_ c u).f3.toNat=none:=by
  have h7:(at_ c u).f0=7:=((fol_none c 1 u).1 (h 1)) 0 (by omega)
  refine ⟨h7,fun d=>?_⟩
  have:=h (d+1)
  rwa [fol,if_pos h7] at this
theorem ever_slimJ {c:List Ins} (hv:Uv c):∀ (d u:Nat),u<c.length→(∀ d,fol c d u=none)→fol (Va c) d u=none
  |0,u,_,_=>rfl
  |d+1,u,hu,h=>by
    obtain ⟨h7,hn⟩:=ever_next h
    obtain ⟨t0,t1⟩:=hv.target hu (Or.inr h7)
    have e:=at_slimJ hu
    rw [fol,e,jmp_f0,if_pos h7,jmp_f3 (Or.inl h7)]
    have hg:goal c (at_ c u)=(at_ c u).f3.toNat:=by unfold goal;rw [hn];rfl
    rw [hg]
    exact ever_slimJ hv d _ (by omega) hn
theorem goal_again {c:List Ins} (hv:Uv c) {i:Nat} (hi:i<c.length) (ho:(at_ c i).f0=7∨(at_ c i).f0=6):(fol (Va c) ((Va c).length+1) (goal c (at_ c i))).getD (goal c (at_ c i))=goal c (at_ c i):=by
  obtain ⟨t0,t1⟩:=hv.target hi ho.symm
  have hlt:=hv.goal_lt hi ho
  have hu:(at_ c i).f3.toNat<c.length:=by omega
  cases hf:fol c (c.length+1) (at_ c i).f3.toNat with
  |none=>
    have hg:goal c (at_ c i)=(at_ c i).f3.toNat:=by unfold goal;rw [hf];rfl
    rw [hg,ever_slimJ hv _ _ hu (fol_ever hv hu hf)]
    rfl
  |some t=>
    have hg:goal c (at_ c i)=t:=by unfold goal;rw [hf];rfl
    have h7:=fol_end c _ _ t hf
    rw [hg] at hlt ⊢
    rw [fol,at_slimJ hlt,jmp_f0,if_neg h7]
    rfl
theorem slimJ_idem {c:List Ins} (hv:Uv c):Va (Va c)=Va c:=by
  have hl:=Vf c
  apply List.ext_getElem (Vf (Va c))
  intro i h1 h2
  rw [← at_lt h1,← at_lt h2]
  have hi:i<c.length:=by omega
  rw [at_slimJ (by omega),at_slimJ hi]
  by_cases ho:(at_ c i).f0=7∨(at_ c i).f0=6
  · have ho2:(jmp c (at_ c i)).f0=7∨(jmp c (at_ c i)).f0=6:=by rw [jmp_f0];exact ho
    have e3:=jmp_f3 (c:=c) ho
    have ha:=goal_again hv hi ho
    have e:(jmp (Va c) (jmp c (at_ c i))).f3=(jmp c (at_ c i)).f3:=by
      rw [jmp_f3 ho2]
      unfold goal
      rw [e3,Int.toNat_natCast,ha]
    have key:∀ s t:Ins,s.f0=t.f0→s.f1=t.f1→s.f2=t.f2→s.f3=t.f3→s=t:=fun s t a b c d=>by cases s;cases t;simp_all
    exact key _ _ (jmp_f0 _ _) (jmp_f1 _ _) (jmp_f2 _ _) e
  · rw [jmp_no (c:=c) ho,jmp_no ho]
end Go.Proofs.Ytjmlpgpkmhjdiaa.Pure
