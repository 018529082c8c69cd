import Derived.Test.YtdkcjecllbdljaaCFnSlimPlaces65
import Derived.Test.YtdkcjecllbdljaaCFnSlimPlaces47
import Derived.Test.YtdkcjecllbdljaaCFnSlimPlaces21
import Derived.Test.YtdkcjecllbdljaaCFnSlimPlaces40
import Derived.Test.YtdkcjecllbdljaaCFnSlimPlaces46
import Derived.Lib.Hide
import Derived.WalkSpells
import Derived.Deep.DeepMust
import Derived.Test.YtdkcjecllbdljaaCFnSlimPlaces51
import Derived.Test.YtdkcjecllbdljaaCFnSlimPlaces53
import Derived.Test.YtdkcjecllbdljaaCFnSlimPlaces54
import Derived.Test.YtdkcjecllbdljaaCFnSlimPlaces56
import Derived.Test.YtdkcjecllbdljaaCFnSlimPlaces67
import Derived.Test.YtdkcjecllbdljaaCFnSlimPlaces61
namespace Go.Proofs.Ytdkcjecllbdljaa.Pure
open Go.RowKit Go.Proofs.Ytdkcjecllbdljaa.GSlim Go.Proofs.YtdkcjecllbdljaaW.PrintWords Go.Proofs.YtdkcjecllbdljaaW.PrintLast Go.Proofs.YtdkcjecllbdljaaW.PrintMore Go.Proofs.Ytdkcjecllbdljaa.Evt Go.Proofs.Ytdkcjecllbdljaa.HForms
set_option linter.unusedVariables false
set_option linter.unusedSimpArgs false
theorem Ins.ext4 {s t:Ins} (h0:s.f0=t.f0) (h1:s.f1=t.f1) (h2:s.f2=t.f2) (h3:s.f3=t.f3):s=t:=by
  cases s;cases t;simp_all
theorem Ins.ne4 (s t:Ins):((!(s.f0 == t.f0)||(!(s.f1 == t.f1)||(!(s.f2 == t.f2)||(!(s.f3 == t.f3)))))=true)↔s≠t:=by
  constructor
  · intro h e
    subst e
    simp at h
  · intro h
    cases hx:(!(s.f0 == t.f0)||(!(s.f1 == t.f1)||(!(s.f2 == t.f2)||(!(s.f3 == t.f3))))) with
    |true=>rfl
    |false=>
      simp at hx
      exact absurd (Ins.ext4 hx.1 hx.2.1 hx.2.2.1 hx.2.2.2) h
theorem code_ext {a b:List Ins} (h:a.length=b.length) (h2:∀ i,i<a.length→at_ a i=at_ b i):a=b:=by
  apply List.ext_getElem h
  intro i h3 h4
  have:=h2 i h3
  rwa [at_lt h3,at_lt h4] at this
theorem equal_loop (a b:List Ins) (hl:a.length=b.length) (hm:a.length≤4398046511104):∀ (d j:Nat),j+d=a.length→
    ∃ r,Evt (fun k=>Zw.l0 k a b (a.length:Int) (j:Int)) r∧Evt (fun k=>Vx.l0 k a b (j:Int)) r∧(r=true↔∀ i,j≤i→i<a.length→at_ a i=at_ b i)
  |0,j,h=>by
    refine ⟨true,Evt.step ?_,Evt.step ?_,⟨fun _ i h1 h2=>by omega,fun _=>rfl⟩⟩
    · simp only [Zw.l0]
      exact Evt.neg (by omega) (Evt.pure _)
    · simp only [Vx.l0]
      exact Evt.neg (by omega) (Evt.pure _)
  |d+1,j,h=>by
    by_cases he:at_ a j=at_ b j
    · obtain ⟨r,h1,h2,h3⟩:=equal_loop a b hl hm d (j+1) (by omega)
      have hn:=fun h=>(Ins.ne4 (at_ a j) (at_ b j)).1 h he
      refine ⟨r,Evt.step ?_,Evt.step ?_,h3.trans ⟨fun h i h1 h2=>?_,fun h i h1 h2=>h i (by omega) h2⟩⟩
      · simp only [Zw.l0,rdA]
        refine Evt.pos (by omega) (Evt.pos (by omega) (Evt.pos (by omega) (Evt.pos (by omega) (Evt.neg hn ?_))))
        rw [w64n j (by omega)];exact h1
      · simp only [Vx.l0,rdA]
        refine Evt.pos (by omega) (Evt.pos (by omega) (Evt.pos (by omega) (Evt.neg hn ?_)))
        rw [w64n j (by omega)];exact h2
      · rcases Nat.eq_or_lt_of_le h1 with rfl|hlt
        · exact he
        · exact h i hlt h2
    · have hn:=(Ins.ne4 (at_ a j) (at_ b j)).2 he
      refine ⟨false,Evt.step ?_,Evt.step ?_,(fun h=>by cases h),fun h=>absurd (h j (Nat.le_refl j) (by omega)) he⟩
      · simp only [Zw.l0,rdA]
        exact Evt.pos (by omega) (Evt.pos (by omega) (Evt.pos (by omega) (Evt.pos (by omega) (Evt.pos hn (Evt.pure _)))))
      · simp only [Vx.l0,rdA]
        exact Evt.pos (by omega) (Evt.pos (by omega) (Evt.pos (by omega) (Evt.pos hn (Evt.pure _))))
theorem codeSame_both (a b:List Ins) (hm:a.length≤4398046511104):∃ r,Evt (fun k=>Zw.f k a b) r∧Evt (fun k=>Vx.f k a b) r∧Evt (fun k=>Uz.f k a b) r∧(r=true↔a=b):=by
  have fin:∀ r,Evt (fun k=>Zw.f k a b) r→Evt (fun k=>Uz.f k a b) r:=fun r h=>by
    unfold Uz.f
    exact Evt.bind h (Evt.pure _)
  by_cases hl:a.length=b.length
  · obtain ⟨r,h1,h2,h3⟩:=equal_loop a b hl hm a.length 0 (by omega)
    have e1:Evt (fun k=>Zw.f k a b) r:=by
      unfold Zw.f
      exact Evt.pos (by omega) h1
    refine ⟨r,e1,?_,fin r e1,h3.trans ⟨fun h=>code_ext hl (fun i hi=>h i (by omega) hi),fun h i _ _=>by rw [h]⟩⟩
    unfold Vx.f
    exact Evt.pos (by omega) h2
  · have e1:Evt (fun k=>Zw.f k a b) false:=by
      unfold Zw.f
      exact Evt.neg (by omega) (Evt.pure _)
    refine ⟨false,e1,?_,fin _ e1,(fun h=>by cases h),fun h=>absurd (by rw [h]) hl⟩
    unfold Vx.f
    exact Evt.neg (by omega) (Evt.pure _)
end Go.Proofs.Ytdkcjecllbdljaa.Pure
namespace Go.Proofs.Ytdkcjecllbdljaa.GSlim
open Go.RowKit Go.Proofs.YtdkcjecllbdljaaW.PrintWords Go.Proofs.YtdkcjecllbdljaaW.PrintLast Go.Proofs.YtdkcjecllbdljaaW.PrintMore
attribute [local go_sem] Zq Zt Uh Ui Zi Zj Zr Zu
set_option linter.unusedVariables false
set_option linter.unusedSimpArgs false
set_option maxHeartbeats 8000000 in
set_option maxRecDepth 100000 in
theorem impl_passes.made (w:World):Calls Try.prog 29 #[] w fun e w'=>∃ g,e=.returned (.slice (some ⟨g,0,none⟩) 2 2)∧w.heap.size≤g∧w'.heap[g]?=some (.cells #[.func (.func 49) #[] #[],.func (.func 19) #[] #[]] 41 (0,0))∧Below w.heap.size w w':=by
 go_enter Try.func29,Try.ntmps29
 go_wp2
 go_ret
 exact ⟨_,rfl,Nat.le_refl _,heap_alloc_new w _,Vv (Below.refl _ _) _⟩
def slim.step (k:Nat) (now:List (S31)):Option (List (S31)):=(impl_slimJumps.f k now).bind fun a=>Vn.f k a
def slim.go (k:Nat):Nat→List (S31)→Option (List (S31))
 |0,now=>some now
 |d+1,now=>(slim.step k now).bind fun next=>(Zw.f k next now).bind fun b=>if b=true then some now else slim.go k d next
end Go.Proofs.Ytdkcjecllbdljaa.GSlim
namespace Go.Proofs.Ytdkcjecllbdljaa.GSlim
open Go.RowKit Go.Proofs.YtdkcjecllbdljaaW.PrintWords Go.Proofs.YtdkcjecllbdljaaW.PrintLast Go.Proofs.YtdkcjecllbdljaaW.PrintMore
attribute [local go_sem] Zq Zt Uh Ui Zi Zj Zr Zu
set_option linter.unusedVariables false
set_option linter.unusedSimpArgs false
end Go.Proofs.Ytdkcjecllbdljaa.GSlim
namespace Go.Proofs.Ytdkcjecllbdljaa.Pure
open Go.RowKit Go.Proofs.Ytdkcjecllbdljaa.GSlim Go.Proofs.YtdkcjecllbdljaaW.PrintWords Go.Proofs.YtdkcjecllbdljaaW.PrintLast Go.Proofs.YtdkcjecllbdljaaW.PrintMore Go.Proofs.Ytdkcjecllbdljaa.Evt Go.Proofs.Ytdkcjecllbdljaa.HForms
set_option linter.unusedVariables false
set_option linter.unusedSimpArgs false
theorem Ok.code {c:List Ins} (h:Ok c):Evt (fun k=>Yp.f k c) true∧Evt (fun k=>Yk.f k c) true∧∃ rs,Evt (fun k=>Xq.f k c) (rs,true)∧Good c rs:=by
  obtain ⟨hv,ρ,hρ⟩:=h
  have:=hv.most
  obtain ⟨b,h1,h2,h3,h4⟩:=codeOk_both c (by omega)
  obtain rfl:=h4 ρ hv hρ
  exact ⟨h1,h2,(h3 rfl).2⟩
theorem code_ok (c:List Ins) (hl:c.length≤1048576):(Ok c∧Evt (fun k=>Yp.f k c) true∧Evt (fun k=>Yk.f k c) true)∨(Evt (fun k=>Yp.f k c) false∧Evt (fun k=>Yk.f k c) false):=by
  obtain ⟨b,h1,h2,h3,h4⟩:=codeOk_both c hl
  cases b with
  |false=>exact Or.inr ⟨h1,h2⟩
  |true=>
    obtain ⟨hv,rs,_,hg⟩:=h3 rfl
    exact Or.inl ⟨⟨hv,_,hg.2.2.2⟩,h1,h2⟩
theorem spec_dead_ev {c:List Ins} (h:Ok c):Evt (fun k=>Uk.f k c) (slimD c):=by
  obtain ⟨_,h2,rs,h3,h4⟩:=h.code
  exact spec_slimDead_ev h.1 h2 h3 h4
end Go.Proofs.Ytdkcjecllbdljaa.Pure
namespace Go.Proofs.Ytdkcjecllbdljaa.Pure
open Go.RowKit Go.Proofs.Ytdkcjecllbdljaa.GSlim Go.Proofs.YtdkcjecllbdljaaW.PrintWords Go.Proofs.YtdkcjecllbdljaaW.PrintLast Go.Proofs.YtdkcjecllbdljaaW.PrintMore Go.Proofs.Ytdkcjecllbdljaa.Evt Go.Proofs.Ytdkcjecllbdljaa.HForms
set_option linter.unusedVariables false
set_option linter.unusedSimpArgs false
def cntP (p:Nat→Bool) (i:Nat):Nat:=(List.range i).countP p
theorem cntP_succ (p:Nat→Bool) (i:Nat):cntP p (i+1)=cntP p i+(if p i then 1 else 0):=by
  unfold cntP
  rw [List.range_succ,List.countP_append]
  cases h:p i <;> simp [h]
theorem cntP_le (p:Nat→Bool) (i:Nat):cntP p i≤i:=by
  unfold cntP
  exact Nat.le_trans List.countP_le_length (by simp)
theorem cntP_mono {p q:Nat→Bool}:∀ {n:Nat},(∀ i,i<n→p i=true→q i=true)→cntP p n≤cntP q n
  |0,_=>by simp [cntP]
  |n+1,h=>by
    have:=cntP_mono (p:=p) (q:=q) (n:=n) (fun i hi=>h i (by omega))
    rw [cntP_succ,cntP_succ]
    cases hp:p n with
    |false=>simp;omega
    |true=>rw [h n (by omega) hp];simp;omega
theorem slimD_len_le (c:List Ins):(slimD c).length≤cntP (lv c) c.length:=by
  have h:∀ i,i≤c.length→pl c i=cntP (kp c) i:=fun i=>by
    induction i with
    |zero=>intro _;rw [pl_zero];simp [cntP]
    |succ i ih=>intro hi;rw [pl_succ (by omega),cntP_succ,ih (by omega)]
  rw [slimD_len,h _ (Nat.le_refl _)]
  exact cntP_mono (fun i _ hk=>kp_live hk)
end Go.Proofs.Ytdkcjecllbdljaa.Pure
