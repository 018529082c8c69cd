import Derived.Test.YtlhogkfmdnpmkaaCFnExactWholeOrder32
import Derived.Test.YtlhogkfmdnpmkaaCFnExactWholeOrder66
import Derived.Test.YtlhogkfmdnpmkaaCFnExactWholeOrder65
set_option linter.unusedVariables false
namespace Go.Proofs.Ytlhogkfmdnpmkaa.Mean
open Go.RowKit Go.Proofs.Ytlhogkfmdnpmkaa.GWhole Go.Proofs.YtlhogkfmdnpmkaaW.PrintWords
theorem rOk (n:Int):Ua.f n=some (nOk n):=by
  unfold Ua.f nOk
  by_cases c:n ≥ -999
  · rw [if_pos c];simp [c]
  · rw [if_neg c];simp;omega
theorem rCut (n:Int):Uv.f n=some (nCut n):=by
  unfold Uv.f nCut
  by_cases c:n < -999
  · have d:¬ n > 999:=by omega
    simp only [if_pos c,if_neg d]
  · by_cases d:n > 999
    · simp only [if_neg c,if_pos d]
    · simp only [if_neg c,if_neg d]
theorem rIf (b:Bool):spec_l1If.f b=some (if b=true then 1 else 0):=by unfold spec_l1If.f;split <;> rfl
theorem refNum (op a b:Int):∃ q,Zv.f 1 op a b=some (num op a b,q):=by
  unfold Zv.f num
  rw [rOk,rOk]
  simp only [Option.bind_some]
  by_cases ha:nOk a=true
  · rw [if_pos ha]
    by_cases hb:nOk b=true
    · rw [hb]
      have h1:-999≤a∧a≤999:=by simpa [nOk] using ha
      have h2:-999≤b∧b≤999:=by simpa [nOk] using hb
      have hm:(a * b).natAbs≤999 * 999:=by rw [Int.natAbs_mul];exact Nat.mul_le_mul (by omega) (by omega)
      have w1:wrap64 (a+b)=a+b:=by unfold wrap64;omega
      have w2:wrap64 (a - b)=a - b:=by unfold wrap64;omega
      have w3:wrap64 (a * b)=a * b:=by generalize a * b=p at *;unfold wrap64;omega
      have d1:nCut 1=1:=by decide
      have d0:nCut 0=0:=by decide
      rw [ha]
      simp only [Zv.j0,Bool.not_true,Bool.false_eq_true,if_false,w1,w2,w3]
      simp only [rCut,rIf,Option.bind_some,Bool.and_true,decide_eq_true_eq,beq_iff_eq,Bool.and_eq_true]
      by_cases c1:op=1
      · subst c1;exact ⟨true,by simp⟩
      by_cases c2:op=2
      · subst c2;exact ⟨true,by simp⟩
      by_cases c3:op=3
      · subst c3;exact ⟨true,by simp⟩
      by_cases c4:op=4
      · subst c4;exact ⟨true,by simp;split <;> simp [d1,d0]⟩
      by_cases c5:op=5
      · subst c5;exact ⟨true,by simp;split <;> simp [d1,d0]⟩
      exact ⟨false,by rw [if_neg c1,if_neg c2,if_neg c3,if_neg c4,if_neg c5,if_neg (by omega)]⟩
    · have hb':nOk b=false:=by simpa using hb
      exact ⟨false,by rw [ha,hb'];simp [Zv.j0]⟩
  · have ha':nOk a=false:=by simpa using ha
    rw [ha',if_neg (by decide)]
    exact ⟨false,by simp [Zv.j0]⟩
end Go.Proofs.Ytlhogkfmdnpmkaa.Mean
