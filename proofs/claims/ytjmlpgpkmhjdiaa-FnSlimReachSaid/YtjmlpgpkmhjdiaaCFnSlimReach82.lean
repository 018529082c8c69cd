import Derived.Test.YtjmlpgpkmhjdiaaCFnSlimReach73
import Derived.Test.YtjmlpgpkmhjdiaaCFnSlimReach72
import Derived.Test.YtjmlpgpkmhjdiaaCFnSlimReach54
import Derived.Test.YtjmlpgpkmhjdiaaCFnSlimReach77
import Derived.Test.YtjmlpgpkmhjdiaaCFnSlimReach80
import Derived.Test.YtjmlpgpkmhjdiaaCFnSlimReach81
import Derived.Test.YtjmlpgpkmhjdiaaCFnSlimReach65
namespace Go.Proofs.Ytjmlpgpkmhjdiaa.Pure
open Go.RowKit Go.Proofs.Ytjmlpgpkmhjdiaa.GSlim Go.Proofs.YtjmlpgpkmhjdiaaW.PrintWords Go.Proofs.YtjmlpgpkmhjdiaaW.PrintLast Go.Proofs.YtjmlpgpkmhjdiaaW.PrintMore Go.Proofs.Ytjmlpgpkmhjdiaa.Evt
set_option linter.unusedVariables false
def jumpTo (c:List Ins) (i k:Nat):Prop:=Reach c k∧((at_ c k).f0=7∨(at_ c k).f0=6)∧(at_ c k).f3=(i:Int)
open Classical in
theorem sr_inner {c:List Ins} (hv:Valid c) {i:Nat} (hi:i<c.length) (hnext:Evt (fun k=>Xf.l0 k c (Uz c) ((i+1:Nat):Int)) true):∀ (d j:Nat) (comes:Bool),j+d=c.length→(Reach c i↔(comes=true∨∃ k,j≤k∧k<c.length∧jumpTo c i k))→
    Evt (fun k=>Xf.l1 k c (Uz c) (i:Int) comes (j:Int)) true
  |0,j,comes,h,hr=>by
    have hm:=hv.most
    have hr2:Reach c i↔comes=true:=hr.trans ⟨fun hh=>hh.elim id (fun ⟨k,a,b,_⟩=>by omega),Or.inl⟩
    refine Evt.step ?_
    simp only [Xf.l1,rdOf_nat,reachB_get hi]
    rw [w64n i (by omega)]
    refine Evt.neg (by omega) (Evt.pos (by omega) (Evt.pos (by rw [length_reachB];omega) ?_))
    by_cases hc:comes=true
    · exact Evt.pos (decide_eq_true (hr2.2 hc)) (Evt.pos hc hnext)
    · exact Evt.neg (by simpa using fun h=>hc (hr2.1 h)) (Evt.neg hc hnext)
  |d+1,j,comes,h,hr=>by
    have hm:=hv.most
    have hj:j<c.length:=by omega
    refine Evt.step ?_
    simp only [Xf.l1,rdOf_nat,reachB_get hj,rdA]
    rw [w64n j (by omega)]
    refine Evt.pos (by omega) ?_
    have rest:∀ b:Bool,(b=true↔comes=true∨jumpTo c i j)→Evt (fun k=>Xf.l1 k c (Uz c) (i:Int) b ((j+1:Nat):Int)) true:=fun b hb=>by
      refine sr_inner hv hi hnext d (j+1) b (by omega) (hr.trans ⟨fun hh=>?_,fun hh=>?_⟩)
      · rcases hh with hh|⟨k,a,b',e⟩
        · exact Or.inl (hb.2 (Or.inl hh))
        · rcases Nat.eq_or_lt_of_le a with rfl|hlt
          · exact Or.inl (hb.2 (Or.inr e))
          · exact Or.inr ⟨k,hlt,b',e⟩
      · rcases hh with hh|⟨k,a,b',e⟩
        · rcases hb.1 hh with hh|hh
          · exact Or.inl hh
          · exact Or.inr ⟨j,Nat.le_refl j,hj,hh⟩
        · exact Or.inr ⟨k,by omega,b',e⟩
    by_cases hc:comes=true
    · exact Evt.pos hc (rest true ⟨fun _=>Or.inl hc,fun _=>rfl⟩)
    · refine Evt.neg hc (Evt.pos (by omega) (Evt.pos (by rw [length_reachB];omega) ?_))
      by_cases hrj:Reach c j
      · refine Evt.pos (decide_eq_true hrj) ?_
        have hbq:∀ ho:(at_ c j).f0=7∨(at_ c j).f0=6,(((at_ c j).f3 == (i:Int))=true↔comes=true∨jumpTo c i j):=fun ho=>by
          rw [beq_iff_eq]
          exact ⟨fun e=>Or.inr ⟨hrj,ho,e⟩,fun hh=>hh.elim (fun z=>absurd z hc) (fun z=>z.2.2)⟩
        by_cases h7:(at_ c j).f0=7
        · exact Evt.pos h7 (rest _ (hbq (Or.inl h7)))
        · refine Evt.neg h7 ?_
          by_cases h6:(at_ c j).f0=6
          · exact Evt.pos h6 (rest _ (hbq (Or.inr h6)))
          · exact Evt.neg h6 (rest false ⟨(fun h=>by cases h),fun hh=>hh.elim (fun z=>absurd z hc) (fun z=>absurd z.2.1 (by omega))⟩)
      · exact Evt.neg (by simpa using hrj) (rest false ⟨(fun h=>by cases h),fun hh=>hh.elim (fun z=>absurd z hc) (fun z=>absurd z.1 hrj)⟩)
theorem reach_from {c:List Ins} (hv:Valid c) {i:Nat} (h1:1≤i) (hi:i<c.length):Reach c i↔(Reach c (i - 1)∧(at_ c (i - 1)).f0≠7∧(at_ c (i - 1)).f0≠13)∨∃ k,0≤k∧k<c.length∧jumpTo c i k:=by
  constructor
  · intro h
    cases h with
    |first=>omega
    |@go j _ hr hj ht=>
      by_cases h7:(at_ c j).f0=7
      · obtain ⟨t0,_⟩:=hv.target hj (Or.inr h7)
        rw [succ_jump h7] at ht
        have:i=(at_ c j).f3.toNat:=by simpa using ht
        exact Or.inr ⟨j,by omega,hj,hr,Or.inl h7,by omega⟩
      · by_cases h13:(at_ c j).f0=13
        · rw [succ_end h13] at ht;simp at ht
        · by_cases h6:(at_ c j).f0=6
          · obtain ⟨t0,_⟩:=hv.target hj (Or.inl h6)
            rw [succ_skip h6] at ht
            rcases List.mem_cons.1 ht with e|ht
            · have:j=i - 1:=by omega
              subst this
              exact Or.inl ⟨hr,h7,h13⟩
            · have:i=(at_ c j).f3.toNat:=by simpa using ht
              exact Or.inr ⟨j,by omega,hj,hr,Or.inr h6,by omega⟩
          · rw [succ_plain h13 h7 h6] at ht
            have e:i=j+1:=by simpa using ht
            have:j=i - 1:=by omega
            subst this
            exact Or.inl ⟨hr,h7,h13⟩
  · intro h
    rcases h with ⟨hr,h7,h13⟩|⟨k,_,hk,hr,ho,h3⟩
    · refine Reach.go hr (by omega) ?_
      have e:i - 1+1=i:=by omega
      by_cases h6:(at_ c (i - 1)).f0=6
      · rw [succ_skip h6,e];simp
      · rw [succ_plain h13 h7 h6,e];simp
    · refine Reach.go hr hk ?_
      rcases ho with h7|h6
      · rw [succ_jump h7,h3];simp
      · rw [succ_skip h6,h3];simp
open Classical in
theorem sr_outer {c:List Ins} (hv:Valid c):∀ (d i:Nat),i+d=c.length→1≤i→Evt (fun k=>Xf.l0 k c (Uz c) (i:Int)) true
  |0,i,h,h1=>by
    have hp:=hv.pos
    refine Evt.step ?_
    simp only [Xf.l0]
    have e:rdOf false (Uz c) 0=true:=by
      have:=rdOf_nat false (Uz c) 0
      rw [show ((0:Nat):Int)=0 from rfl] at this
      rw [this,reachB_get (by omega)]
      exact decide_eq_true Reach.first
    rw [e]
    exact Evt.neg (by omega) (Evt.pos (by rw [length_reachB];omega) (Evt.pure _))
  |d+1,i,h,h1=>by
    have hm:=hv.most
    have hi:i<c.length:=by omega
    have ih:=sr_outer hv d (i+1) (by omega) (by omega)
    have e:wrap64 ((i:Int) - 1)=((i - 1:Nat):Int):=by rw [w64 (by omega) (by omega)];omega
    have hf:=reach_from hv h1 hi
    have inner:∀ b:Bool,(b=true↔(Reach c (i - 1)∧(at_ c (i - 1)).f0≠7∧(at_ c (i - 1)).f0≠13))→Evt (fun k=>Xf.j1 k c (Uz c) (i:Int) b) true:=fun b hb=>by
      refine Evt.step ?_
      simp only [Xf.j1]
      refine sr_inner hv hi ih c.length 0 b (by omega) (hf.trans ?_)
      rw [hb]
    refine Evt.step ?_
    simp only [Xf.l0]
    rw [e]
    simp only [rdOf_nat,reachB_get (show i - 1<c.length by omega),rdA]
    refine Evt.pos (by omega) (Evt.pos (by omega) (Evt.pos (by rw [length_reachB];omega) ?_))
    by_cases hr:Reach c (i - 1)
    · refine Evt.pos (decide_eq_true hr) (Evt.pos (by omega) ?_)
      by_cases h7:(at_ c (i - 1)).f0=7
      · exact Evt.pos h7 (inner false ⟨(fun h=>by cases h),fun hh=>absurd h7 hh.2.1⟩)
      · refine Evt.neg h7 (inner _ ?_)
        simp only [bne_iff_ne,ne_eq]
        exact ⟨fun h=>⟨hr,h7,h⟩,fun h=>h.2.2⟩
    · exact Evt.neg (by simpa using hr) (inner false ⟨(fun h=>by cases h),fun hh=>absurd hh.1 hr⟩)
theorem FnSlimReach:Xf.Pure:=by
  intro l0 _ _ hw
  suffices h:Evt (fun k=>Xf.f k l0) true from h.get
  unfold Xf.f
  by_cases hbig:(l0.length:Int) > 1048576
  · exact Evt.pos hbig (Evt.pure _)
  refine Evt.neg hbig ?_
  obtain ⟨c,hd,hc⟩:=drawSlim_ok l0 hw
  have hd2:Evt (fun k=>Ud.f k l0) c:=by
    unfold Ud.f
    exact Evt.bind hd (Evt.pure _)
  refine Evt.bind hd2 ?_
  obtain ⟨r,h1,h2,h3,h4⟩:=slimReach_both c (by omega)
  refine Evt.bind h1 (Evt.bind h2 (Evt.bind (wpBools_ev r (by omega)) (Evt.pos rfl ?_)))
  rcases h4 with ⟨hv,e2,rfl⟩|⟨rfl,e2⟩
  · have hp:=hv.pos
    exact Evt.bind e2 (Evt.pos rfl (sr_outer hv (c.length - 1) 1 (by omega) (by omega)))
  · exact Evt.bind e2 (Evt.neg (by simp) (Evt.pure _))
end Go.Proofs.Ytjmlpgpkmhjdiaa.Pure
