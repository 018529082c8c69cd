import Derived.Test.YtdkcjecllbdljaaCFnSlimDead21
import Derived.Test.YtdkcjecllbdljaaCFnSlimDead39
import Derived.Test.YtdkcjecllbdljaaCFnSlimDead46
import Derived.Test.YtdkcjecllbdljaaCFnSlimDead47
import Derived.Test.YtdkcjecllbdljaaCFnSlimDead64
import Derived.Lib.Hide
import Derived.WalkSpells
import Derived.Deep.DeepMust
import Derived.Test.YtdkcjecllbdljaaCFnSlimDead31
import Derived.Test.YtdkcjecllbdljaaCFnSlimDead53
import Derived.Test.YtdkcjecllbdljaaCFnSlimDead54
import Derived.Test.YtdkcjecllbdljaaCFnSlimDead60
import Derived.Test.YtdkcjecllbdljaaCFnSlimDead51
import Derived.Test.YtdkcjecllbdljaaCFnSlimDead66
import Derived.Test.YtdkcjecllbdljaaCFnSlimDead68
namespace Go.Proofs.Ytdkcjecllbdljaa.GSlim
open Go.RowKit Go.Proofs.YtdkcjecllbdljaaW.PrintWords Go.Proofs.YtdkcjecllbdljaaW.PrintLast Go.Proofs.YtdkcjecllbdljaaW.PrintMore
attribute [local go_sem] Zo Zq Uf Ug Zi Zj Zp Zr
set_option linter.unusedVariables false
set_option linter.unusedSimpArgs false
set_option maxHeartbeats 8000000 in
set_option maxRecDepth 100000 in
theorem impl_passes.made (w:World):Calls Try.prog 29 #[] w fun e w'=>∃ g,e=.returned (.slice (some ⟨g,0,none⟩) 2 2)∧w.heap.size≤g∧w'.heap[g]?=some (.cells #[.func (.func 49) #[] #[],.func (.func 19) #[] #[]] 41 (0,0))∧Below w.heap.size w w':=by
 go_enter Try.func29,Try.ntmps29
 go_wp2
 go_ret
 exact ⟨_,rfl,Nat.le_refl _,heap_alloc_new w _,Vu (Below.refl _ _) _⟩
def slim.step (k:Nat) (now:List (S31)):Option (List (S31)):=(impl_slimJumps.f k now).bind fun a=>Vo.f k a
def slim.go (k:Nat):Nat→List (S31)→Option (List (S31))
 |0,now=>some now
 |d+1,now=>(slim.step k now).bind fun next=>(Zu.f k next now).bind fun b=>if b=true then some now else slim.go k d next
end Go.Proofs.Ytdkcjecllbdljaa.GSlim
namespace Go.Proofs.Ytdkcjecllbdljaa.GSlim
open Go.RowKit Go.Proofs.YtdkcjecllbdljaaW.PrintWords Go.Proofs.YtdkcjecllbdljaaW.PrintLast Go.Proofs.YtdkcjecllbdljaaW.PrintMore
attribute [local go_sem] Zo Zq Uf Ug Zi Zj Zp Zr
set_option linter.unusedVariables false
set_option linter.unusedSimpArgs false
end Go.Proofs.Ytdkcjecllbdljaa.GSlim
namespace Go.Proofs.Ytdkcjecllbdljaa.GSlim
open Go.RowKit Go.Proofs.YtdkcjecllbdljaaW.PrintWords Go.Proofs.YtdkcjecllbdljaaW.PrintLast Go.Proofs.YtdkcjecllbdljaaW.PrintMore
attribute [local go_sem] Zo Zq Uf Ug Zi Zj Zp Zr
set_option linter.unusedVariables false
set_option linter.unusedSimpArgs false
end Go.Proofs.Ytdkcjecllbdljaa.GSlim
namespace Go.Proofs.Ytdkcjecllbdljaa.Pure
open Go.RowKit Go.Proofs.Ytdkcjecllbdljaa.GSlim Go.Proofs.YtdkcjecllbdljaaW.PrintWords Go.Proofs.YtdkcjecllbdljaaW.PrintLast Go.Proofs.YtdkcjecllbdljaaW.PrintMore Go.Proofs.Ytdkcjecllbdljaa.Evt Go.Proofs.Ytdkcjecllbdljaa.HForms
set_option linter.unusedVariables false
set_option linter.unusedSimpArgs false
theorem Ok.code {c:List Ins} (h:Ok c):Evt (fun k=>Yn.f k c) true∧Evt (fun k=>Yg.f k c) true∧∃ rs,Evt (fun k=>Xq.f k c) (rs,true)∧Good c rs:=by
  obtain ⟨hv,ρ,hρ⟩:=h
  have:=hv.most
  obtain ⟨b,h1,h2,h3,h4⟩:=codeOk_both c (by omega)
  obtain rfl:=h4 ρ hv hρ
  exact ⟨h1,h2,(h3 rfl).2⟩
theorem code_ok (c:List Ins) (hl:c.length≤1048576):(Ok c∧Evt (fun k=>Yn.f k c) true∧Evt (fun k=>Yg.f k c) true)∨(Evt (fun k=>Yn.f k c) false∧Evt (fun k=>Yg.f k c) false):=by
  obtain ⟨b,h1,h2,h3,h4⟩:=codeOk_both c hl
  cases b with
  |false=>exact Or.inr ⟨h1,h2⟩
  |true=>
    obtain ⟨hv,rs,_,hg⟩:=h3 rfl
    exact Or.inl ⟨⟨hv,_,hg.2.2.2⟩,h1,h2⟩
theorem spec_dead_ev {c:List Ins} (h:Ok c):Evt (fun k=>Ui.f k c) (slimD c):=by
  obtain ⟨_,h2,rs,h3,h4⟩:=h.code
  exact spec_slimDead_ev h.1 h2 h3 h4
end Go.Proofs.Ytdkcjecllbdljaa.Pure
namespace Go.Proofs.Ytdkcjecllbdljaa.Pure
open Go.RowKit Go.Proofs.Ytdkcjecllbdljaa.GSlim Go.Proofs.YtdkcjecllbdljaaW.PrintWords Go.Proofs.YtdkcjecllbdljaaW.PrintLast Go.Proofs.YtdkcjecllbdljaaW.PrintMore Go.Proofs.Ytdkcjecllbdljaa.Evt Go.Proofs.Ytdkcjecllbdljaa.HForms
set_option linter.unusedVariables false
set_option linter.unusedSimpArgs false
def cntP (p:Nat→Bool) (i:Nat):Nat:=(List.range i).countP p
theorem cntP_succ (p:Nat→Bool) (i:Nat):cntP p (i+1)=cntP p i+(if p i then 1 else 0):=by
  unfold cntP
  rw [List.range_succ,List.countP_append]
  cases h:p i <;> simp [h]
theorem cntP_le (p:Nat→Bool) (i:Nat):cntP p i≤i:=by
  unfold cntP
  exact Nat.le_trans List.countP_le_length (by simp)
theorem cntP_mono {p q:Nat→Bool}:∀ {n:Nat},(∀ i,i<n→p i=true→q i=true)→cntP p n≤cntP q n
  |0,_=>by simp [cntP]
  |n+1,h=>by
    have:=cntP_mono (p:=p) (q:=q) (n:=n) (fun i hi=>h i (by omega))
    rw [cntP_succ,cntP_succ]
    cases hp:p n with
    |false=>simp;omega
    |true=>rw [h n (by omega) hp];simp;omega
theorem cntP_congr {p q:Nat→Bool} {n:Nat} (h:∀ i,i<n→p i=q i):cntP p n=cntP q n:=
  Nat.le_antisymm (cntP_mono (fun i hi hp=>by rw [← h i hi];exact hp)) (cntP_mono (fun i hi hp=>by rw [h i hi];exact hp))
theorem upto_count (c:List Ins) (op:Int):∀ i,i≤c.length→(dead.upto (keepB c) c i).countP (fun s=>s.f0 == op)=cntP (fun j=>kp c j && (at_ c j).f0 == op) i
  |0,_=>by simp [dead.upto,dead.out,cntP]
  |i+1,hi=>by
    rw [dead.upto_succ _ _ i (by rw [length_keepB];omega) (by omega),List.countP_append,upto_count c op i (by omega),cntP_succ,keepB_at,← at_lt (by omega)]
    cases hk:kp c i with
    |false=>simp
    |true=>
      simp only [if_true,Bool.true_and,List.countP_cons,List.countP_nil,fix_f0]
      omega
theorem slimD_count (c:List Ins) (op:Int):(slimD c).countP (fun s=>s.f0 == op)=cntP (fun j=>kp c j && (at_ c j).f0 == op) c.length:=by
  have:=upto_count c op c.length (Nat.le_refl _)
  rw [dead.upto_all _ _ (length_keepB c)] at this
  exact this
open Classical in
theorem kp_plain {c:List Ins} {i:Nat} (h:(at_ c i).f0≠7):kp c i=lv c i:=by
  cases hl:lv c i with
  |true=>
    unfold kp
    rw [decide_eq_true_eq]
    rcases lv_live hl with h1|h1
    · exact Or.inr ⟨h1,fun e=>h e.1⟩
    · exact Or.inl h1
  |false=>
    cases hk:kp c i with
    |false=>rfl
    |true=>rw [kp_live hk] at hl;cases hl
end Go.Proofs.Ytdkcjecllbdljaa.Pure
