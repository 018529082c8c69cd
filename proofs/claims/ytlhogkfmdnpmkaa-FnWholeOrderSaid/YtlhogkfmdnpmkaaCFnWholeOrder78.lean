import Derived.Test.YtlhogkfmdnpmkaaCFnWholeOrder77
set_option linter.unusedVariables false
set_option linter.unusedSimpArgs false
namespace Go.Proofs.Ytlhogkfmdnpmkaa.GWhole
open RowKit YtlhogkfmdnpmkaaW.PrintWords YtlhogkfmdnpmkaaW.PrintLast YtlhogkfmdnpmkaaW.PrintMore
attribute [local go_sem] Uq Us max_two min_two Zz Ua Ur Ut
def Zo.f (l0:List (List (S69))) (l1:List Int):Option (List Int):=if Mean.tameB l0=true then some (Mean.whole l0 l1) else none
theorem Zo.calls (A0:Option Addr) (c0:Nat) (l0:List (List (S69))) (A1:Option Addr) (c1:Nat) (l1:List Int) (r:List Int) (w:World) (hr0:Kd.C (Kd.slice 69 k69) w A0 l0.length l0) (hc0:l0.length≤c0) (hr1:Kd.C (Kd.int .i64) w A1 l1.length l1) (hc1:l1.length≤c1) (h:Zo.f l0 l1=some r) :
  Calls Try.prog 6 #[.slice A0 l0.length c0,.slice A1 l1.length c1] w fun e w'=>∃ aA:Value,e=.returned (aA)∧Kd.R (Kd.int .i64) 3 w' w.heap.size (fun _=>True) aA r∧Below w.heap.size w w':=by
 unfold Zo.f at h;by_cases hc:Mean.tameB l0=true
 ·rw [if_pos hc] at h;obtain rfl:=sj_ h;obtain ⟨h1,h2,h3⟩:=Mean.tame_of hc;exact @Mean.rwhole_do ⟨fun k=>w.heap[k]?⟩ A0 c0 l0 A1 c1 l1 w hr0 hc0 hr1 hc1 h1 h2 (fun hq=>Mean.openS_inv hq h3) (fun _ _ h=>h) (fun _ _ h=>h)
 ·rw [if_neg hc] at h;cases h
end Go.Proofs.Ytlhogkfmdnpmkaa.GWhole
