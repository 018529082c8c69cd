import Derived.Test.YtdkcjecllbdljaaCFnSlim69
import Derived.Test.YtdkcjecllbdljaaCFnSlim66
import Derived.Test.YtdkcjecllbdljaaCFnSlim67
import Derived.Test.YtdkcjecllbdljaaCFnSlim60
import Derived.Test.YtdkcjecllbdljaaCFnSlim47
namespace Go.Proofs.Ytdkcjecllbdljaa.Pure
open Go.RowKit Go.Proofs.Ytdkcjecllbdljaa.GSlim Go.Proofs.YtdkcjecllbdljaaW.PrintWords Go.Proofs.YtdkcjecllbdljaaW.PrintLast Go.Proofs.YtdkcjecllbdljaaW.PrintMore Go.Proofs.Ytdkcjecllbdljaa.Evt Go.Proofs.Ytdkcjecllbdljaa.HForms
set_option linter.unusedVariables false
set_option linter.unusedSimpArgs false
def node (c:List Ins) (u:Nat):Nat→Nat
  |0=>u
  |k+1=>(at_ c (node c u k)).f3.toNat
theorem node_succ (c:List Ins) (u:Nat):∀ k,node c u (k+1)=node c (at_ c u).f3.toNat k
  |0=>rfl
  |k+1=>by
    show (at_ c (node c u (k+1))).f3.toNat=_
    rw [node_succ c u k]
    rfl
theorem fol_none (c:List Ins):∀ (d u:Nat),fol c d u=none↔∀ k,k<d→(at_ c (node c u k)).f0=7
  |0,u=>by simp [fol]
  |d+1,u=>by
    rw [fol]
    by_cases h7:(at_ c u).f0=7
    · rw [if_pos h7,fol_none c d]
      constructor
      · intro h k hk
        cases k with
        |zero=>exact h7
        |succ k=>rw [node_succ];exact h k (by omega)
      · intro h k hk
        have:=h (k+1) (by omega)
        rwa [node_succ] at this
    · rw [if_neg h7]
      constructor
      · intro h;cases h
      · intro h;exact absurd (h 0 (by omega)) h7
theorem fol_end (c:List Ins):∀ (d u t:Nat),fol c d u=some t→(at_ c t).f0≠7
  |0,u,t,h=>by simp [fol] at h
  |d+1,u,t,h=>by
    rw [fol] at h
    split at h
    · exact fol_end c d _ t h
    · rename_i h7
      obtain rfl:=Option.some.inj h
      exact h7
theorem node_again {c:List Ins} {u a b:Nat} (h:node c u a=node c u b):∀ m,node c u (a+m)=node c u (b+m)
  |0=>h
  |m+1=>by
    show (at_ c (node c u (a+m))).f3.toNat=(at_ c (node c u (b+m))).f3.toNat
    rw [node_again h m]
theorem fol_ever {c:List Ins} (hv:Uq c) {u:Nat} (hu:u<c.length) (h:fol c (c.length+1) u=none):∀ d,fol c d u=none:=by
  rw [fol_none] at h
  have hlt:∀ k,k≤c.length→node c u k<c.length:=fun k=>by
    induction k with
    |zero=>intro _;exact hu
    |succ k ih=>
      intro hk
      obtain ⟨t0,t1⟩:=hv.target (ih (by omega)) (Or.inr (h k (by omega)))
      show (at_ c (node c u k)).f3.toNat<_
      omega
  have hrep:∃ a b,a<b∧b≤c.length∧node c u a=node c u b:=by
    refine Classical.byContradiction (fun hn=>?_)
    have hne:∀ a b,a<b→b≤c.length→node c u a≠node c u b:=fun a b h1 h2 h3=>hn ⟨a,b,h1,h2,h3⟩
    have hnd:((List.range (c.length+1)).map (fun k=>((node c u k:Nat):Int))).Nodup:=by
      unfold List.Nodup
      rw [List.pairwise_map]
      refine List.Pairwise.imp_of_mem (R:=fun a b=>a<b) (fun {a b} _ hb hab=>?_) List.pairwise_lt_range
      have:=hne a b hab (by have:=List.mem_range.1 hb;omega)
      omega
    have:=nodup_le c.length _ hnd (fun x hx=>by
      obtain ⟨k,hk,rfl⟩:=List.mem_map.1 hx
      have:=hlt k (by have:=List.mem_range.1 hk;omega)
      omega)
    simp at this
    omega
  obtain ⟨a,b,hab,hb,he⟩:=hrep
  have hall:∀ k,(at_ c (node c u k)).f0=7:=fun k=>by
    induction k using Nat.strongRecOn with
    |_ k ih=>
      by_cases hk:k<c.length+1
      · exact h k hk
      · have e:=node_again he (k - b)
        rw [show b+(k - b)=k by omega] at e
        rw [← e]
        exact ih _ (by omega)
  intro d
  rw [fol_none]
  exact fun k _=>hall k
theorem ever_next {c:List Ins} {u:Nat} (h:∀ d,fol c d u=none):(at_ c u).f0=7∧∀ d,fol c d (at_ c u).f3.toNat=none:=by
  have h7:(at_ c u).f0=7:=((fol_none c 1 u).1 (h 1)) 0 (by omega)
  refine ⟨h7,fun d=>?_⟩
  have:=h (d+1)
  rwa [fol,if_pos h7] at this
theorem ever_slimJ {c:List Ins} (hv:Uq c):∀ (d u:Nat),u<c.length→(∀ d,fol c d u=none)→fol (slimJ c) d u=none
  |0,u,_,_=>rfl
  |d+1,u,hu,h=>by
    obtain ⟨h7,hn⟩:=ever_next h
    obtain ⟨t0,t1⟩:=hv.target hu (Or.inr h7)
    have e:=at_slimJ hu
    rw [fol,e,jmp_f0,if_pos h7,jmp_f3 (Or.inl h7)]
    have hg:goal c (at_ c u)=(at_ c u).f3.toNat:=by unfold goal;rw [hn];rfl
    rw [hg]
    exact ever_slimJ hv d _ (by omega) hn
theorem goal_again {c:List Ins} (hv:Uq c) {i:Nat} (hi:i<c.length) (ho:(at_ c i).f0=7∨(at_ c i).f0=6):(fol (slimJ c) ((slimJ c).length+1) (goal c (at_ c i))).getD (goal c (at_ c i))=goal c (at_ c i):=by
  obtain ⟨t0,t1⟩:=hv.target hi ho.symm
  have hlt:=hv.goal_lt hi ho
  have hu:(at_ c i).f3.toNat<c.length:=by omega
  cases hf:fol c (c.length+1) (at_ c i).f3.toNat with
  |none=>
    have hg:goal c (at_ c i)=(at_ c i).f3.toNat:=by unfold goal;rw [hf];rfl
    rw [hg,ever_slimJ hv _ _ hu (fol_ever hv hu hf)]
    rfl
  |some t=>
    have hg:goal c (at_ c i)=t:=by unfold goal;rw [hf];rfl
    have h7:=fol_end c _ _ t hf
    rw [hg] at hlt ⊢
    rw [fol,at_slimJ hlt,jmp_f0,if_neg h7]
    rfl
theorem slimJ_idem {c:List Ins} (hv:Uq c):slimJ (slimJ c)=slimJ c:=by
  have hl:=length_slimJ c
  apply List.ext_getElem (length_slimJ (slimJ c))
  intro i h1 h2
  rw [← at_lt h1,← at_lt h2]
  have hi:i<c.length:=by omega
  rw [at_slimJ (by omega),at_slimJ hi]
  by_cases ho:(at_ c i).f0=7∨(at_ c i).f0=6
  · have ho2:(jmp c (at_ c i)).f0=7∨(jmp c (at_ c i)).f0=6:=by rw [jmp_f0];exact ho
    have e3:=jmp_f3 (c:=c) ho
    have ha:=goal_again hv hi ho
    have e:(jmp (slimJ c) (jmp c (at_ c i))).f3=(jmp c (at_ c i)).f3:=by
      rw [jmp_f3 ho2]
      unfold goal
      rw [e3,Int.toNat_natCast,ha]
    have key:∀ s t:Ins,s.f0=t.f0→s.f1=t.f1→s.f2=t.f2→s.f3=t.f3→s=t:=fun s t a b c d=>by cases s;cases t;simp_all
    exact key _ _ (jmp_f0 _ _) (jmp_f1 _ _) (jmp_f2 _ _) e
  · rw [jmp_no (c:=c) ho,jmp_no ho]
end Go.Proofs.Ytdkcjecllbdljaa.Pure
namespace Go.Proofs.Ytdkcjecllbdljaa.Pure
open Go.RowKit Go.Proofs.Ytdkcjecllbdljaa.GSlim Go.Proofs.YtdkcjecllbdljaaW.PrintWords Go.Proofs.YtdkcjecllbdljaaW.PrintLast Go.Proofs.YtdkcjecllbdljaaW.PrintMore Go.Proofs.Ytdkcjecllbdljaa.Evt Go.Proofs.Ytdkcjecllbdljaa.HForms
set_option linter.unusedVariables false
set_option linter.unusedSimpArgs false
theorem Ins.ext4 {s t:Ins} (h0:s.f0=t.f0) (h1:s.f1=t.f1) (h2:s.f2=t.f2) (h3:s.f3=t.f3):s=t:=by
  cases s;cases t;simp_all
theorem Ins.ne4 (s t:Ins):((!(s.f0 == t.f0)||(!(s.f1 == t.f1)||(!(s.f2 == t.f2)||(!(s.f3 == t.f3)))))=true)↔s≠t:=by
  constructor
  · intro h e
    subst e
    simp at h
  · intro h
    cases hx:(!(s.f0 == t.f0)||(!(s.f1 == t.f1)||(!(s.f2 == t.f2)||(!(s.f3 == t.f3))))) with
    |true=>rfl
    |false=>
      simp at hx
      exact absurd (Ins.ext4 hx.1 hx.2.1 hx.2.2.1 hx.2.2.2) h
theorem code_ext {a b:List Ins} (h:a.length=b.length) (h2:∀ i,i<a.length→at_ a i=at_ b i):a=b:=by
  apply List.ext_getElem h
  intro i h3 h4
  have:=h2 i h3
  rwa [at_lt h3,at_lt h4] at this
theorem equal_loop (a b:List Ins) (hl:a.length=b.length) (hm:a.length≤4398046511104):∀ (d j:Nat),j+d=a.length→
    ∃ r,Evt (fun k=>Zr.l0 k a b (a.length:Int) (j:Int)) r∧Evt (fun k=>Zq.l0 k a b (j:Int)) r∧(r=true↔∀ i,j≤i→i<a.length→at_ a i=at_ b i)
  |0,j,h=>by
    refine ⟨true,Evt.step ?_,Evt.step ?_,⟨fun _ i h1 h2=>by omega,fun _=>rfl⟩⟩
    · simp only [Zr.l0]
      exact Evt.neg (by omega) (Evt.pure _)
    · simp only [Zq.l0]
      exact Evt.neg (by omega) (Evt.pure _)
  |d+1,j,h=>by
    by_cases he:at_ a j=at_ b j
    · obtain ⟨r,h1,h2,h3⟩:=equal_loop a b hl hm d (j+1) (by omega)
      have hn:=fun h=>(Ins.ne4 (at_ a j) (at_ b j)).1 h he
      refine ⟨r,Evt.step ?_,Evt.step ?_,h3.trans ⟨fun h i h1 h2=>?_,fun h i h1 h2=>h i (by omega) h2⟩⟩
      · simp only [Zr.l0,rdA]
        refine Evt.pos (by omega) (Evt.pos (by omega) (Evt.pos (by omega) (Evt.pos (by omega) (Evt.neg hn ?_))))
        rw [w64n j (by omega)];exact h1
      · simp only [Zq.l0,rdA]
        refine Evt.pos (by omega) (Evt.pos (by omega) (Evt.pos (by omega) (Evt.neg hn ?_)))
        rw [w64n j (by omega)];exact h2
      · rcases Nat.eq_or_lt_of_le h1 with rfl|hlt
        · exact he
        · exact h i hlt h2
    · have hn:=(Ins.ne4 (at_ a j) (at_ b j)).2 he
      refine ⟨false,Evt.step ?_,Evt.step ?_,(fun h=>by cases h),fun h=>absurd (h j (Nat.le_refl j) (by omega)) he⟩
      · simp only [Zr.l0,rdA]
        exact Evt.pos (by omega) (Evt.pos (by omega) (Evt.pos (by omega) (Evt.pos (by omega) (Evt.pos hn (Evt.pure _)))))
      · simp only [Zq.l0,rdA]
        exact Evt.pos (by omega) (Evt.pos (by omega) (Evt.pos (by omega) (Evt.pos hn (Evt.pure _))))
theorem codeSame_both (a b:List Ins) (hm:a.length≤4398046511104):∃ r,Evt (fun k=>Zr.f k a b) r∧Evt (fun k=>Zq.f k a b) r∧Evt (fun k=>Uc.f k a b) r∧(r=true↔a=b):=by
  have fin:∀ r,Evt (fun k=>Zr.f k a b) r→Evt (fun k=>Uc.f k a b) r:=fun r h=>by
    unfold Uc.f
    exact Evt.bind h (Evt.pure _)
  by_cases hl:a.length=b.length
  · obtain ⟨r,h1,h2,h3⟩:=equal_loop a b hl hm a.length 0 (by omega)
    have e1:Evt (fun k=>Zr.f k a b) r:=by
      unfold Zr.f
      exact Evt.pos (by omega) h1
    refine ⟨r,e1,?_,fin r e1,h3.trans ⟨fun h=>code_ext hl (fun i hi=>h i (by omega) hi),fun h i _ _=>by rw [h]⟩⟩
    unfold Zq.f
    exact Evt.pos (by omega) h2
  · have e1:Evt (fun k=>Zr.f k a b) false:=by
      unfold Zr.f
      exact Evt.neg (by omega) (Evt.pure _)
    refine ⟨false,e1,?_,fin _ e1,(fun h=>by cases h),fun h=>absurd (by rw [h]) hl⟩
    unfold Zq.f
    exact Evt.neg (by omega) (Evt.pure _)
end Go.Proofs.Ytdkcjecllbdljaa.Pure
