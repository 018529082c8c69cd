import Derived.Test.YtdkcjecllbdljaaCFnSlimDead64
import Derived.Test.YtdkcjecllbdljaaCFnSlimDead47
namespace Go.Proofs.Ytdkcjecllbdljaa.Pure
open Go.RowKit Go.Proofs.Ytdkcjecllbdljaa.GSlim Go.Proofs.YtdkcjecllbdljaaW.PrintWords Go.Proofs.YtdkcjecllbdljaaW.PrintLast Go.Proofs.YtdkcjecllbdljaaW.PrintMore Go.Proofs.Ytdkcjecllbdljaa.Evt Go.Proofs.Ytdkcjecllbdljaa.HForms
set_option linter.unusedVariables false
set_option linter.unusedSimpArgs false
theorem Ins.ext4 {s t:Ins} (h0:s.f0=t.f0) (h1:s.f1=t.f1) (h2:s.f2=t.f2) (h3:s.f3=t.f3):s=t:=by
  cases s;cases t;simp_all
theorem Ins.ne4 (s t:Ins):((!(s.f0 == t.f0)||(!(s.f1 == t.f1)||(!(s.f2 == t.f2)||(!(s.f3 == t.f3)))))=true)↔s≠t:=by
  constructor
  · intro h e
    subst e
    simp at h
  · intro h
    cases hx:(!(s.f0 == t.f0)||(!(s.f1 == t.f1)||(!(s.f2 == t.f2)||(!(s.f3 == t.f3))))) with
    |true=>rfl
    |false=>
      simp at hx
      exact absurd (Ins.ext4 hx.1 hx.2.1 hx.2.2.1 hx.2.2.2) h
theorem code_ext {a b:List Ins} (h:a.length=b.length) (h2:∀ i,i<a.length→at_ a i=at_ b i):a=b:=by
  apply List.ext_getElem h
  intro i h3 h4
  have:=h2 i h3
  rwa [at_lt h3,at_lt h4] at this
theorem equal_loop (a b:List Ins) (hl:a.length=b.length) (hm:a.length≤4398046511104):∀ (d j:Nat),j+d=a.length→
    ∃ r,Evt (fun k=>Zu.l0 k a b (a.length:Int) (j:Int)) r∧Evt (fun k=>Vw.l0 k a b (j:Int)) r∧(r=true↔∀ i,j≤i→i<a.length→at_ a i=at_ b i)
  |0,j,h=>by
    refine ⟨true,Evt.step ?_,Evt.step ?_,⟨fun _ i h1 h2=>by omega,fun _=>rfl⟩⟩
    · simp only [Zu.l0]
      exact Evt.neg (by omega) (Evt.pure _)
    · simp only [Vw.l0]
      exact Evt.neg (by omega) (Evt.pure _)
  |d+1,j,h=>by
    by_cases he:at_ a j=at_ b j
    · obtain ⟨r,h1,h2,h3⟩:=equal_loop a b hl hm d (j+1) (by omega)
      have hn:=fun h=>(Ins.ne4 (at_ a j) (at_ b j)).1 h he
      refine ⟨r,Evt.step ?_,Evt.step ?_,h3.trans ⟨fun h i h1 h2=>?_,fun h i h1 h2=>h i (by omega) h2⟩⟩
      · simp only [Zu.l0,rdA]
        refine Evt.pos (by omega) (Evt.pos (by omega) (Evt.pos (by omega) (Evt.pos (by omega) (Evt.neg hn ?_))))
        rw [w64n j (by omega)];exact h1
      · simp only [Vw.l0,rdA]
        refine Evt.pos (by omega) (Evt.pos (by omega) (Evt.pos (by omega) (Evt.neg hn ?_)))
        rw [w64n j (by omega)];exact h2
      · rcases Nat.eq_or_lt_of_le h1 with rfl|hlt
        · exact he
        · exact h i hlt h2
    · have hn:=(Ins.ne4 (at_ a j) (at_ b j)).2 he
      refine ⟨false,Evt.step ?_,Evt.step ?_,(fun h=>by cases h),fun h=>absurd (h j (Nat.le_refl j) (by omega)) he⟩
      · simp only [Zu.l0,rdA]
        exact Evt.pos (by omega) (Evt.pos (by omega) (Evt.pos (by omega) (Evt.pos (by omega) (Evt.pos hn (Evt.pure _)))))
      · simp only [Vw.l0,rdA]
        exact Evt.pos (by omega) (Evt.pos (by omega) (Evt.pos (by omega) (Evt.pos hn (Evt.pure _))))
theorem codeSame_both (a b:List Ins) (hm:a.length≤4398046511104):∃ r,Evt (fun k=>Zu.f k a b) r∧Evt (fun k=>Vw.f k a b) r∧Evt (fun k=>Uz.f k a b) r∧(r=true↔a=b):=by
  have fin:∀ r,Evt (fun k=>Zu.f k a b) r→Evt (fun k=>Uz.f k a b) r:=fun r h=>by
    unfold Uz.f
    exact Evt.bind h (Evt.pure _)
  by_cases hl:a.length=b.length
  · obtain ⟨r,h1,h2,h3⟩:=equal_loop a b hl hm a.length 0 (by omega)
    have e1:Evt (fun k=>Zu.f k a b) r:=by
      unfold Zu.f
      exact Evt.pos (by omega) h1
    refine ⟨r,e1,?_,fin r e1,h3.trans ⟨fun h=>code_ext hl (fun i hi=>h i (by omega) hi),fun h i _ _=>by rw [h]⟩⟩
    unfold Vw.f
    exact Evt.pos (by omega) h2
  · have e1:Evt (fun k=>Zu.f k a b) false:=by
      unfold Zu.f
      exact Evt.neg (by omega) (Evt.pure _)
    refine ⟨false,e1,?_,fin _ e1,(fun h=>by cases h),fun h=>absurd (by rw [h]) hl⟩
    unfold Vw.f
    exact Evt.neg (by omega) (Evt.pure _)
end Go.Proofs.Ytdkcjecllbdljaa.Pure
