import Derived.Test.YtdkcjecllbdljaaCFnSlim65
import Derived.Test.YtdkcjecllbdljaaCFnSlim58
import Derived.Test.YtdkcjecllbdljaaCFnSlim60
namespace Go.Proofs.Ytdkcjecllbdljaa.Pure
open Go.RowKit Go.Proofs.Ytdkcjecllbdljaa.GSlim Go.Proofs.YtdkcjecllbdljaaW.PrintWords Go.Proofs.YtdkcjecllbdljaaW.PrintLast Go.Proofs.YtdkcjecllbdljaaW.PrintMore Go.Proofs.Ytdkcjecllbdljaa.Evt Go.Proofs.Ytdkcjecllbdljaa.HForms
set_option linter.unusedVariables false
set_option linter.unusedSimpArgs false
def fol (c:List Ins):Nat→Nat→Option Nat
  |0,_=>none
  |d+1,i=>if (at_ c i).f0=7 then fol c d (at_ c i).f3.toNat else some i
def jmp (c:List Ins) (s:Ins):Ins:=if s.f0=7∨s.f0=6 then ⟨s.f0,s.f1,s.f2,(((fol c (c.length+1) s.f3.toNat).getD s.f3.toNat:Nat):Int)⟩ else s
def slimJ (c:List Ins):List Ins:=c.map (jmp c)
theorem at_lt {c:List Ins} {i:Nat} (h:i<c.length):at_ c i=c[i]:=by unfold at_;exact getD_at _ h
theorem Uq.target {c:List Ins} (hv:Uq c) {i:Nat} (hi:i<c.length) (ho:(at_ c i).f0=6∨(at_ c i).f0=7):0≤(at_ c i).f3∧(at_ c i).f3<c.length:=index_ok (hv.ins i hi) ho
theorem Uq.fol_lt {c:List Ins} (hv:Uq c):∀ (d i:Nat),i<c.length→∀ t,fol c d i=some t→t<c.length
  |0,i,hi,t,h=>by simp [fol] at h
  |d+1,i,hi,t,h=>by
    rw [fol] at h
    split at h
    · rename_i h7
      have:=hv.target hi (Or.inr h7)
      exact hv.fol_lt d _ (by omega) t h
    · obtain rfl:=Option.some.inj h;exact hi
theorem follow_loop {c:List Ins} (hv:Uq c):∀ (d j i:Nat),j+d=c.length+1→i<c.length→
    Evt (fun k=>Uw.l0 k c (i:Int) ((c.length+1:Nat):Int) (j:Int)) (match fol c d i with|some t=>((t:Int),true)|none=>(0,false))
  |0,j,i,h,hi=>by
    refine Evt.step ?_
    simp only [Uw.l0,fol]
    exact Evt.neg (by omega) (Evt.pure _)
  |d+1,j,i,h,hi=>by
    have hm:=hv.most
    refine Evt.step ?_
    simp only [Uw.l0,fol,rdA]
    refine Evt.pos (by omega) (Evt.pos (by omega) (Evt.pos (by omega) ?_))
    by_cases h7:(at_ c i).f0=7
    · obtain ⟨t0,t1⟩:=hv.target hi (Or.inr h7)
      have ih:=follow_loop hv d (j+1) (at_ c i).f3.toNat (by omega) (by omega)
      rw [if_pos h7,w64n j (by omega)]
      rw [Int.toNat_of_nonneg t0] at ih
      exact Evt.pos h7 ih
    · rw [if_neg h7]
      exact Evt.neg h7 (Evt.pure _)
theorem follow_ev {c:List Ins} (hv:Uq c) {i:Nat} (hi:i<c.length):Evt (fun k=>Uw.f k c (i:Int)) (match fol c (c.length+1) i with|some t=>((t:Int),true)|none=>(0,false)):=by
  have hm:=hv.most
  unfold Uw.f
  rw [w64n c.length (by omega)]
  exact follow_loop hv (c.length+1) 0 i (by omega) hi
theorem l9To_loop {c:List Ins} (hv:Uq c) (from_:Int):∀ (d j i:Nat),j+d=c.length→i<c.length→
    Evt (fun k=>Vn.l0 k c from_ (i:Int) (j:Int)) (match fol c (d+1) i with|some t=>(t:Int)|none=>from_)
  |0,j,i,h,hi=>by
    refine Evt.step ?_
    rw [fol,fol]
    simp only [Vn.l0,rdA]
    refine Evt.neg (by omega) (Evt.pos (by omega) (Evt.pos (by omega) ?_))
    by_cases h7:(at_ c i).f0=7
    · rw [if_pos h7,if_pos h7];exact Evt.pure _
    · rw [if_neg h7,if_neg h7];exact Evt.pure _
  |d+1,j,i,h,hi=>by
    have hm:=hv.most
    refine Evt.step ?_
    rw [fol]
    simp only [Vn.l0,rdA]
    refine Evt.pos (by omega) (Evt.pos (by omega) (Evt.pos (by omega) ?_))
    by_cases h7:(at_ c i).f0=7
    · obtain ⟨t0,t1⟩:=hv.target hi (Or.inr h7)
      have ih:=l9To_loop hv from_ d (j+1) (at_ c i).f3.toNat (by omega) (by omega)
      rw [if_pos h7,w64n j (by omega)]
      rw [Int.toNat_of_nonneg t0] at ih
      exact Evt.pos h7 ih
    · rw [if_neg h7]
      exact Evt.neg h7 (Evt.pure _)
theorem l9To_ev {c:List Ins} (hv:Uq c) {i:Nat} (hi:i<c.length):Evt (fun k=>Vn.f k c (i:Int)) (((fol c (c.length+1) i).getD i:Nat):Int):=by
  unfold Vn.f
  have:=l9To_loop hv (i:Int) c.length 0 i (by omega) hi
  cases h:fol c (c.length+1) i with
  |none=>rw [h] at this;exact this
  |some t=>rw [h] at this;exact this
theorem at_app {A B:List Ins} {b:Ins} {c:List Ins} (h:c=A ++ b :: B):at_ c A.length=b:=by unfold at_;rw [h];exact getD_app A b B _
theorem spec_jumps_loop {c:List Ins} (hv:Uq c):∀ (B A:List Ins),c=A ++ B→Evt (fun k=>Yy.l0 k c (A.map (jmp c) ++ B) (A.length:Int)) (slimJ c)
  |[],A,h=>by
    refine Evt.step ?_
    simp only [Yy.l0]
    refine Evt.neg (by simp) ?_
    rw [List.append_nil] at h ⊢
    unfold slimJ
    rw [← h]
    exact Evt.pure _
  |b :: B,A,h=>by
    have hm:=hv.most
    have hcl:c.length=A.length+(B.length+1):=by rw [h];simp
    have hb:at_ c A.length=b:=at_app h
    have hx:at_ (A.map (jmp c) ++ b :: B) A.length=b:=by
      have:=at_app (A:=A.map (jmp c)) (b:=b) (B:=B) rfl
      rwa [List.length_map] at this
    have hset:∀ v,(A.map (jmp c) ++ b :: B).set A.length v=A.map (jmp c) ++ v :: B:=fun v=>by
      have:=set_app (A.map (jmp c)) b v B
      rwa [List.length_map] at this
    have ih:=spec_jumps_loop hv B (A ++ [b]) (by rw [h];simp)
    rw [List.length_append,List.length_singleton,List.map_append,List.map_singleton,List.append_assoc] at ih
    have hal:A.length<c.length:=by omega
    refine Evt.step ?_
    simp only [Yy.l0,rdA,hx,hb,set_nat,hset]
    refine Evt.pos (by simp;omega) (Evt.pos (by omega) ?_)
    have htgt:=hv.target hal
    rw [hb] at htgt
    have goal:∀ (ho:b.f0=6∨b.f0=7),Evt (fun k=>(Vn.f k c b.f3).bind fun t=>Yy.l0 k c (A.map (jmp c) ++ ⟨b.f0,b.f1,b.f2,t⟩ :: B) (wrap64 ((A.length:Int)+1))) (slimJ c):=fun ho=>by
      obtain ⟨t0,t1⟩:=htgt ho
      have e:=l9To_ev hv (i:=b.f3.toNat) (by omega)
      rw [Int.toNat_of_nonneg t0] at e
      refine Evt.bind e ?_
      rw [w64n A.length (by omega)]
      have hj:jmp c b=⟨b.f0,b.f1,b.f2,(((fol c (c.length+1) b.f3.toNat).getD b.f3.toNat:Nat):Int)⟩:=by unfold jmp;rw [if_pos (by omega)]
      rw [hj] at ih
      exact ih
    by_cases h7:b.f0=7
    · exact Evt.pos h7 (Evt.pos (by omega) (goal (Or.inr h7)))
    · refine Evt.neg h7 ?_
      by_cases h6:b.f0=6
      · exact Evt.pos h6 (Evt.pos (by omega) (goal (Or.inl h6)))
      · refine Evt.neg h6 ?_
        rw [w64n A.length (by omega)]
        have hj:jmp c b=b:=by unfold jmp;rw [if_neg (by omega)]
        rw [hj] at ih
        exact ih
theorem impl_jumps_loop {c:List Ins} (hv:Uq c):∀ (B A:List Ins),c=A ++ B→Evt (fun k=>Yi.l0 k c (A.map (jmp c) ++ B) c (c.length:Int) (A.length:Int)) (slimJ c)
  |[],A,h=>by
    refine Evt.step ?_
    simp only [Yi.l0]
    refine Evt.neg (by rw [h];simp) ?_
    rw [List.append_nil] at h ⊢
    unfold slimJ
    rw [← h]
    exact Evt.pure _
  |b :: B,A,h=>by
    have hm:=hv.most
    have hcl:c.length=A.length+(B.length+1):=by rw [h];simp
    have hb:at_ c A.length=b:=at_app h
    have hx:at_ (A.map (jmp c) ++ b :: B) A.length=b:=by
      have:=at_app (A:=A.map (jmp c)) (b:=b) (B:=B) rfl
      rwa [List.length_map] at this
    have hset:∀ v,(A.map (jmp c) ++ b :: B).set A.length v=A.map (jmp c) ++ v :: B:=fun v=>by
      have:=set_app (A.map (jmp c)) b v B
      rwa [List.length_map] at this
    have ih:=impl_jumps_loop hv B (A ++ [b]) (by rw [h];simp)
    rw [List.length_append,List.length_singleton,List.map_append,List.map_singleton,List.append_assoc] at ih
    have hal:A.length<c.length:=by omega
    have htgt:=hv.target hal
    rw [hb] at htgt
    have goal:∀ (ho:b.f0=6∨b.f0=7),Evt (fun k=>Yi.j1 k c (A.map (jmp c) ++ b :: B) (A.length:Int) c (c.length:Int) (A.length:Int) false b.f0 b.f1 b.f2 b.f3) (slimJ c):=fun ho=>by
      obtain ⟨t0,t1⟩:=htgt ho
      refine Evt.step ?_
      simp only [Yi.j1]
      refine Evt.neg (by simp) ?_
      have e:=follow_ev hv (i:=b.f3.toNat) (by omega)
      rw [Int.toNat_of_nonneg t0] at e
      refine Evt.bind e ?_
      have hj:jmp c b=⟨b.f0,b.f1,b.f2,(((fol c (c.length+1) b.f3.toNat).getD b.f3.toNat:Nat):Int)⟩:=by unfold jmp;rw [if_pos (by omega)]
      rw [hj] at ih
      cases hf:fol c (c.length+1) b.f3.toNat with
      |some t=>
        rw [hf] at ih
        simp only [rdA,hx,set_nat,hset]
        refine Evt.pos trivial (Evt.pos (by omega) (Evt.pos (by simp;omega) ?_))
        rw [w64n A.length (by omega)]
        exact ih
      |none=>
        rw [hf] at ih
        refine Evt.neg (by simp) ?_
        rw [w64n A.length (by omega)]
        have hsame:(⟨b.f0,b.f1,b.f2,(((none:Option Nat).getD b.f3.toNat:Nat):Int)⟩:Ins)=b:=by
          show (⟨b.f0,b.f1,b.f2,((b.f3.toNat:Nat):Int)⟩:Ins)=b
          rw [Int.toNat_of_nonneg t0]
        rw [hsame] at ih
        exact ih
    refine Evt.step ?_
    simp only [Yi.l0,rdA,hb]
    refine Evt.pos (by omega) (Evt.pos (by omega) (Evt.pos (by omega) ?_))
    by_cases h7:b.f0=7
    · exact Evt.pos h7 (goal (Or.inr h7))
    · refine Evt.neg h7 ?_
      by_cases h6:b.f0=6
      · have e:(b.f0 != 6)=false:=by simp [h6]
        rw [e]
        exact goal (Or.inl h6)
      · have e:(b.f0 != 6)=true:=by simp [h6]
        rw [e]
        refine Evt.step ?_
        simp only [Yi.j1]
        refine Evt.pos trivial ?_
        rw [w64n A.length (by omega)]
        have hj:jmp c b=b:=by unfold jmp;rw [if_neg (by omega)]
        rw [hj] at ih
        exact ih
theorem length_slimJ (c:List Ins):(slimJ c).length=c.length:=by simp [slimJ]
end Go.Proofs.Ytdkcjecllbdljaa.Pure
