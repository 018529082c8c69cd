import Derived.Test.YtdkcjecllbdljaaCFnSlimDead73
import Derived.Test.YtdkcjecllbdljaaCFnSlimDead77
import Derived.Test.YtdkcjecllbdljaaCFnSlimDead54
namespace Go.Proofs.Ytdkcjecllbdljaa.Pure
open Go.RowKit Go.Proofs.Ytdkcjecllbdljaa.GSlim Go.Proofs.YtdkcjecllbdljaaW.PrintWords Go.Proofs.YtdkcjecllbdljaaW.PrintLast Go.Proofs.YtdkcjecllbdljaaW.PrintMore Go.Proofs.Ytdkcjecllbdljaa.Evt
set_option linter.unusedVariables false
theorem take_count (l:List Ins) (op:Int) {j:Nat} (h:j<l.length):(l.take (j+1)).countP (fun s=>s.f0 == op)=(l.take j).countP (fun s=>s.f0 == op)+(if (at_ l j).f0=op then 1 else 0):=by
  rw [List.take_succ_eq_append_getElem h,List.countP_append,← at_lt h]
  by_cases he:(at_ l j).f0=op
  · rw [if_pos he];simp [he]
  · rw [if_neg he];simp [he]
theorem sd_l2 {c x:List Ins} {re:List Bool} {op:Int} {n:Nat} (hx:x.length≤60) (hok:(op=7→x.countP (fun s=>s.f0 == op)≤n)∧(op≠7→n=x.countP (fun s=>s.f0 == op))) (hnext:Evt (fun k=>Xn.l0 k c x re (wrap64 (op+1))) true) :
    ∀ (d j:Nat),j+d=x.length→Evt (fun k=>Xn.l2 k c x re op (n:Int) (((x.take j).countP (fun s=>s.f0 == op):Nat):Int) (j:Int)) true
  |0,j,h=>by
    obtain rfl:j=x.length:=by omega
    rw [List.take_length]
    refine Evt.step ?_
    simp only [Xn.l2]
    refine Evt.neg (by omega) ?_
    by_cases h7:op=7
    · have:=hok.1 h7
      exact Evt.pos h7 (Evt.neg (by omega) hnext)
    · have:=hok.2 h7
      exact Evt.neg h7 (Evt.pos (by omega) hnext)
  |d+1,j,h=>by
    have hj:j<x.length:=by omega
    have ih:=sd_l2 hx hok hnext d (j+1) (by omega)
    have hle:(x.take j).countP (fun s=>s.f0 == op)≤60:=Nat.le_trans List.countP_le_length (by rw [List.length_take];omega)
    rw [take_count x op hj] at ih
    refine Evt.step ?_
    simp only [Xn.l2,rdA]
    rw [w64n j (by omega),w64n _ (by omega)]
    refine Evt.pos (by omega) (Evt.pos (by omega) ?_)
    by_cases he:(at_ x j).f0=op
    · rw [if_pos he] at ih
      exact Evt.pos he ih
    · rw [if_neg he,Nat.add_zero] at ih
      exact Evt.neg he ih
open Classical in
theorem sd_l1 {c x:List Ins} {op:Int} (hc:c.length≤60) (hend:Evt (fun k=>Xn.l2 k c x (Vi c) op ((cntP (fun i=>lv c i && (at_ c i).f0 == op) c.length:Nat):Int) 0 0) true) :
    ∀ (d j:Nat),j+d=c.length→Evt (fun k=>Xn.l1 k c x (Vi c) op ((cntP (fun i=>lv c i && (at_ c i).f0 == op) j:Nat):Int) (j:Int)) true
  |0,j,h=>by
    obtain rfl:j=c.length:=by omega
    refine Evt.step ?_
    simp only [Xn.l1]
    exact Evt.neg (by omega) hend
  |d+1,j,h=>by
    have hj:j<c.length:=by omega
    have ih:=sd_l1 hc hend d (j+1) (by omega)
    have hle:=cntP_le (fun i=>lv c i && (at_ c i).f0 == op) j
    rw [cntP_succ] at ih
    refine Evt.step ?_
    simp only [Xn.l1,rdA,rdOf_nat,reachB_get hj]
    rw [w64n j (by omega),w64n _ (by omega),w64 (n:=(c.length:Int) - 1) (by omega) (by omega)]
    refine Evt.pos (by omega) (Evt.pos (by omega) ?_)
    by_cases he:(at_ c j).f0=op
    · have hb:((at_ c j).f0 == op)=true:=by simp [he]
      rw [hb,Bool.and_true] at ih
      refine Evt.pos he (Evt.pos (by rw [length_reachB];omega) ?_)
      by_cases hr:Reach c j
      · rw [lv_reach hr,if_pos rfl] at ih
        exact Evt.pos (decide_eq_true hr) ih
      · refine Evt.neg (by simpa using hr) ?_
        by_cases hl:j+1=c.length
        · rw [lv_last hl,if_pos rfl] at ih
          exact Evt.pos (by omega) ih
        · have hf:lv c j=false:=by rw [lv_mid hl];exact decide_eq_false hr
          rw [hf,if_neg (by simp),Nat.add_zero] at ih
          exact Evt.neg (by omega) ih
    · have hb:((at_ c j).f0 == op)=false:=by simp [he]
      rw [hb,Bool.and_false,if_neg (by simp),Nat.add_zero] at ih
      exact Evt.neg he ih
open Classical in
theorem sd_l0 {c:List Ins} (h:Ok c):∀ (d op:Nat),op+d=14→1≤op→Evt (fun k=>Xn.l0 k c (slimD c) (Vi c) (op:Int)) true
  |0,op,ho,h1=>by
    obtain ⟨e1,_,_⟩:=h.dead.code
    refine Evt.step ?_
    simp only [Xn.l0]
    exact Evt.neg (by omega) (Evt.bind e1 (Evt.pure _))
  |d+1,op,ho,h1=>by
    have hm:=h.1.most
    have hl:=length_slimD c
    have ih:=sd_l0 h d (op+1) (by omega) (by omega)
    have hcount:=slimD_count c (op:Int)
    refine Evt.step ?_
    simp only [Xn.l0]
    refine Evt.pos (by omega) ?_
    have e:=sd_l1 (c:=c) (x:=slimD c) (op:=(op:Int)) hm ?_ c.length 0 (by omega)
    · have z:cntP (fun i=>lv c i && (at_ c i).f0 == (op:Int)) 0=0:=by simp [cntP]
      rw [z] at e
      exact e
    · have e2:=sd_l2 (c:=c) (x:=slimD c) (re:=Vi c) (op:=(op:Int)) (n:=cntP (fun i=>lv c i && (at_ c i).f0 == (op:Int)) c.length) (by omega) ⟨fun _=>?_,fun h7=>?_⟩ (by rw [w64n op (by omega)];exact ih) (slimD c).length 0 (by omega)
      · rw [List.take_zero,List.countP_nil] at e2
        exact e2
      · rw [hcount]
        refine cntP_mono (fun i _ hk=>?_)
        rw [Bool.and_eq_true] at hk ⊢
        exact ⟨kp_live hk.1,hk.2⟩
      · rw [hcount]
        refine cntP_congr (fun i _=>?_)
        by_cases he:(at_ c i).f0=(op:Int)
        · rw [kp_plain (by omega)]
        · have hb:((at_ c i).f0 == (op:Int))=false:=by simp [he]
          rw [hb,Bool.and_false,Bool.and_false]
theorem FnSlimDead:Xn.Pure:=by
  intro l0 _ _ hw
  suffices h:Evt (fun k=>Xn.f k l0) true from h.get
  unfold Xn.f
  by_cases hbig:(l0.length:Int) > 1048576
  · exact Evt.pos hbig (Evt.pure _)
  refine Evt.neg hbig ?_
  obtain ⟨c,hd,hc⟩:=drawSlim_ok l0 hw
  have hd2:Evt (fun k=>Vb.f k l0) c:=by
    unfold Vb.f
    exact Evt.bind hd (Evt.pure _)
  refine Evt.bind hd2 ?_
  rcases code_ok c (by omega) with ⟨hok,e1,e2⟩|⟨e1,e2⟩
  · have hm:=hok.1.most
    have hl:=length_slimD c
    obtain ⟨r,_,_,e3,e4⟩:=codeSame_both (slimD c) (slimD c) (by omega)
    obtain rfl:=e4.2 rfl
    have e5:Evt (fun k=>Vh.f k c) (slimD c):=by
      unfold Vh.f
      exact Evt.bind e1 (Evt.pos rfl (Evt.bind (impl_slimDead_ev hok.1) (Evt.pure _)))
    have e6:Evt (fun k=>Uh.f k c) (Vi c):=by
      unfold Uh.f
      exact Evt.bind e1 (Evt.pos rfl (Evt.bind (impl_reach_ev hok.1) (Evt.pure _)))
    exact Evt.bind e5 (Evt.bind (spec_dead_ev hok) (Evt.bind e3 (Evt.pos rfl (Evt.bind e2 (Evt.pos rfl (Evt.bind e6 (sd_l0 hok 13 1 (by omega) (by omega))))))))
  · obtain ⟨r,_,_,e3,e4⟩:=codeSame_both [] [] (by simp)
    obtain rfl:=e4.2 rfl
    have e5:Evt (fun k=>Vh.f k c) []:=by
      unfold Vh.f
      exact Evt.bind e1 (Evt.neg (by simp) (Evt.pure _))
    have e6:Evt (fun k=>Ui.f k c) []:=by
      unfold Ui.f
      exact Evt.bind e2 (Evt.neg (by simp) (Evt.pure _))
    exact Evt.bind e5 (Evt.bind e6 (Evt.bind e3 (Evt.pos rfl (Evt.bind e2 (Evt.neg (by simp) (Evt.pure _))))))
end Go.Proofs.Ytdkcjecllbdljaa.Pure
