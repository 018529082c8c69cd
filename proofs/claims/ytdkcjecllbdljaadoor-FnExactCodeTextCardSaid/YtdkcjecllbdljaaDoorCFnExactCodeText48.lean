import Derived.Test.YtdkcjecllbdljaaDoorCFnExactCodeText47
import Derived.Test.YtdkcjecllbdljaaDoorCFnExactCodeText45
import Derived.Test.YtdkcjecllbdljaaDoorCFnExactCodeText30
import Derived.Test.YtdkcjecllbdljaaDoorCFnExactCodeText23
import Derived.Test.YtdkcjecllbdljaaDoorCFnExactCodeText42
namespace Go.Proofs.YtdkcjecllbdljaaDoor.Pure
open Go.RowKit Go.Proofs.YtdkcjecllbdljaaDoor.GCode Go.Proofs.YtdkcjecllbdljaaDoorW.PrintWords Go.Proofs.YtdkcjecllbdljaaDoorW.PrintLast Go.Proofs.YtdkcjecllbdljaaDoorW.PrintMore Go.Proofs.YtdkcjecllbdljaaDoor.Evt Go.Proofs.YtdkcjecllbdljaaDoor.KindsCode Go.Proofs.YtdkcjecllbdljaaDoor.Open
set_option linter.unusedVariables false
abbrev LIns:=S41
def conv (s:LIns):Ins:=⟨s.f0,s.f1,s.f2,s.f3⟩
theorem rdL (c:List LIns) (i:Nat):rd_T41 c (i:Int)=c.getD i z41:=by unfold rd_T41;simp
theorem toInsS_loop (l0:List LIns) (hl:l0.length≤1048576):∀ (B:List LIns) (A:List LIns) (R:List Ins),l0=A ++ B→R.length=B.length→
    Evt (fun k=>Xr.l0 k l0 (A.map conv ++ R) (A.length:Int)) (l0.map conv)
  |[],A,R,he,hr=>by
    refine Evt.step ?_
    simp only [Xr.l0]
    obtain rfl:R=[]:=List.eq_nil_of_length_eq_zero (by simpa using hr)
    rw [List.append_nil] at he
    subst he
    refine Evt.neg (by omega) ?_
    rw [List.append_nil]
    exact Evt.pure _
  |b :: B,A,R,he,hr=>by
    refine Evt.step ?_
    simp only [Xr.l0]
    have hlen:l0.length=A.length+B.length+1:=by rw [he];simp;omega
    refine Evt.pos (by omega) (Evt.pos (by omega) ?_)
    simp only [laws_toIns.f,Option.bind_some,rdL]
    match R,hr with
    |r :: R,hr=>
      have hr':R.length=B.length:=by simpa using hr
      refine Evt.pos (by simp;omega) ?_
      rw [w64s (by omega) (by omega),set_nat]
      have hb:l0.getD A.length z41=b:=by rw [he];exact getD_app A b B _
      rw [hb]
      have hm:(A.map conv ++ r :: R).set A.length (conv b)=(A ++ [b]).map conv ++ R:=by
        have:=set_app (A.map conv) r (conv b) R
        rw [List.length_map] at this
        rw [this];simp
      have ih:=toInsS_loop l0 hl B (A ++ [b]) R (by rw [he];simp) hr'
      rw [show ((A.length:Int)+1)=((A ++ [b]).length:Int) by simp]
      show Evt (fun k=>Xr.l0 k l0 ((A.map conv ++ r :: R).set A.length (conv b)) _) _
      rw [hm]
      exact ih
theorem toInsS_ev (l0:List LIns) (hl:l0.length≤1048576):Evt (fun k=>Xr.f k l0) (l0.map conv):=by
  unfold Xr.f
  refine Evt.pos (by omega) (Evt.pos (by omega) ?_)
  have:=toInsS_loop l0 hl l0 [] (List.replicate l0.length zIns) rfl (by simp)
  simpa using this
theorem eqIns_self (s:Ins):laws_eqIns.f s.f0 s.f1 s.f2 s.f3 s.f0 s.f1 s.f2 s.f3=some true:=by simp [laws_eqIns.f]
theorem eqInsS_loop (l:List Ins) (hl:l.length≤4398046511104):∀ (d i:Nat),i+d=l.length→Evt (fun k=>Xu.l0 k l l (i:Int)) true
  |0,i,h=>by
    refine Evt.step ?_
    simp only [Xu.l0]
    exact Evt.neg (by omega) (Evt.pure _)
  |d+1,i,h=>by
    refine Evt.step ?_
    simp only [Xu.l0]
    refine Evt.pos (by omega) (Evt.pos (by omega) (Evt.pos (by omega) ?_))
    simp only [eqIns_self,Option.bind_some,if_true]
    rw [w64s (by omega) (by omega)]
    exact eqInsS_loop l hl d (i+1) (by omega)
theorem eqInsS_ev (l:List Ins) (hl:l.length≤4398046511104):Evt (fun k=>Xu.f k l l) true:=by
  unfold Xu.f
  exact Evt.pos rfl (eqInsS_loop l hl l.length 0 (by omega))
theorem szInsS_of (l:List LIns) (hl:l.length≤9223372036854775807):laws_szInsS.f l 1048576=some (if 1048576<l.length then -1 else 1048576 - (l.length:Int)):=by
  unfold laws_szInsS.f
  rw [w64 (by omega) (by omega)]
  split
  · rw [if_pos (by omega)]
  · rw [if_neg (by omega)]
end Go.Proofs.YtdkcjecllbdljaaDoor.Pure
