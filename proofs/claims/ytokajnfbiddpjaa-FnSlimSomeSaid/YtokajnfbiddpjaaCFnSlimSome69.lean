import Derived.Test.YtokajnfbiddpjaaCFnSlimSome67
import Derived.Test.YtokajnfbiddpjaaCFnSlimSome46
import Derived.Test.YtokajnfbiddpjaaCFnSlimSome56
import Derived.Test.YtokajnfbiddpjaaCFnSlimSome45
import Derived.Test.YtokajnfbiddpjaaCFnSlimSome59
namespace Go.Proofs.Ytokajnfbiddpjaa.Pure
open Go.RowKit Go.Proofs.Ytokajnfbiddpjaa.GSlim Go.Proofs.YtokajnfbiddpjaaW.PrintWords Go.Proofs.YtokajnfbiddpjaaW.PrintLast Go.Proofs.YtokajnfbiddpjaaW.PrintMore Go.Proofs.Ytokajnfbiddpjaa.Evt Go.Proofs.Ytokajnfbiddpjaa.HForms
set_option linter.unusedVariables false
set_option linter.unusedSimpArgs false
theorem nodup_le:∀ (n:Nat) (S:List Int),S.Nodup→(∀ x ∈ S,0≤x∧x<(n:Int))→S.length≤n
  |0,S,_,h=>by
    cases S with
    |nil=>simp
    |cons x s=>have:=h x (by simp);omega
  |n+1,S,hd,h=>by
    have h1:(S.erase (n:Int)).length≤n:=nodup_le n _ (hd.erase _) (fun x hx=>by
      have h2:=(List.Nodup.mem_erase_iff hd).1 hx
      have:=h x h2.2
      have h3:x≠(n:Int):=h2.1
      omega)
    by_cases hm:(n:Int) ∈ S
    · have:=List.length_erase_of_mem hm
      omega
    · rw [List.erase_of_not_mem hm] at h1
      omega
theorem addAll_is:∀ (nx S P:List Int),∃ E,reach.Vu S P nx=(S ++ E,P ++ E)∧(∀ t ∈ nx,t ∈ S ++ E)∧(∀ e ∈ E,e ∈ nx)∧(S.Nodup→(S ++ E).Nodup)
  |[],S,P=>⟨[],by simp [reach.Vu],by simp,by simp,by simp⟩
  |t :: nx,S,P=>by
    rw [reach.Vu]
    by_cases h:t ∈ S
    · rw [if_pos h]
      obtain ⟨E,e1,e2,e3,e4⟩:=addAll_is nx S P
      refine ⟨E,e1,fun u hu=>?_,fun e he=>List.mem_cons_of_mem _ (e3 e he),e4⟩
      rcases List.mem_cons.1 hu with rfl|hu
      · exact List.mem_append_left _ h
      · exact e2 u hu
    · rw [if_neg h]
      obtain ⟨E,e1,e2,e3,e4⟩:=addAll_is nx (S ++ [t]) (P ++ [t])
      refine ⟨t :: E,by rw [e1];simp,fun u hu=>?_,fun e he=>?_,fun hn=>?_⟩
      · rcases List.mem_cons.1 hu with rfl|hu
        · simp
        · have:=e2 u hu;simpa using this
      · rcases List.mem_cons.1 he with rfl|he
        · simp
        · exact List.mem_cons_of_mem _ (e3 e he)
      · have:(S ++ [t]).Nodup:=by
          rw [List.nodup_append]
          refine ⟨hn,by simp,fun a ha b hb=>?_⟩
          obtain rfl:b=t:=by simpa using hb
          intro e;subst e;exact h ha
        have:=e4 this
        simpa using this
structure TInv (c:List Ins) (S P A:List Int):Prop where
  nodup:S.Nodup
  ok:∀ x ∈ S,∃ i:Nat,x=(i:Int)∧i<c.length∧Reach c i
  count:A.length+P.length=S.length
  mem:∀ x,x ∈ S↔x ∈ A∨x ∈ P
  closed:∀ i:Nat,(i:Int) ∈ A→∀ t ∈ succs c i,(t:Int) ∈ S
  zero:(0:Int) ∈ S
theorem trav_ev {c:List Ins} (hv:Zo c):∀ (d:Nat) (S P A:List Int),A.length+d=c.length+1→TInv c S P A→
    ∃ xs,Evt (fun k=>reach.trav k c S P A) xs∧(∀ x ∈ xs,0≤x)∧∀ i,i<c.length→((i:Int) ∈ xs↔Reach c i)
  |0,S,P,A,hd,h=>by
    have h1:=nodup_le c.length S h.nodup (fun x hx=>by obtain ⟨i,rfl,hi,_⟩:=h.ok x hx;omega)
    have:=h.count
    omega
  |d+1,S,[],A,hd,h=>by
    refine ⟨A,Evt.step ?_,fun x hx=>?_,fun i hi=>⟨fun hx=>?_,fun hr=>?_⟩⟩
    · simp only [reach.trav];exact Evt.pure _
    · obtain ⟨i,rfl,_⟩:=h.ok x ((h.mem x).2 (Or.inl hx));omega
    · obtain ⟨j,e,_,hr⟩:=h.ok _ ((h.mem _).2 (Or.inl hx))
      obtain rfl:i=j:=by omega
      exact hr
    · clear hi
      have key:(i:Int) ∈ S:=by
        induction hr with
        |first=>exact h.zero
        |go hr hi ht ih=>
          have:=(h.mem _).1 ih
          exact h.closed _ (by simpa using this) _ ht
      simpa using (h.mem _).1 key
  |d+1,S,x :: P,A,hd,h=>by
    have hm:=hv.most
    have hle:=nodup_le c.length S h.nodup (fun x hx=>by obtain ⟨i,rfl,hi,_⟩:=h.ok x hx;omega)
    have hcount:=h.count
    obtain ⟨i,rfl,hi,hr⟩:=h.ok x ((h.mem x).2 (Or.inr (by simp)))
    obtain ⟨E,e1,e2,e3,e4⟩:=addAll_is (ints (succs c i)) S P
    have hmi:∀ t:Nat,(t:Int) ∈ ints (succs c i)↔t ∈ succs c i:=fun t=>by
      unfold ints
      rw [List.mem_map]
      constructor
      · rintro ⟨a,ha,e⟩
        obtain rfl:a=t:=by omega
        exact ha
      · exact fun h=>⟨t,h,rfl⟩
    have hinv:TInv c (S ++ E) (P ++ E) (A ++ [(i:Int)]):=by
      refine ⟨e4 h.nodup,fun y hy=>?_,?_,fun y=>?_,fun j hj t ht=>?_,List.mem_append_left _ h.zero⟩
      · rcases List.mem_append.1 hy with hy|hy
        · exact h.ok y hy
        · have hy':=e3 y hy
          unfold ints at hy'
          obtain ⟨t,ht,rfl⟩:=List.mem_map.1 hy'
          exact ⟨t,rfl,hv.succs_lt hi t ht,Reach.go hr hi ht⟩
      · simp at hcount ⊢;omega
      · have:=h.mem y
        simp only [List.mem_append,List.mem_cons,List.mem_singleton,List.not_mem_nil,or_false] at this ⊢
        rw [this]
        constructor
        · rintro ((h1|h1|h1)|h1)
          · exact Or.inl (Or.inl h1)
          · exact Or.inl (Or.inr h1)
          · exact Or.inr (Or.inl h1)
          · exact Or.inr (Or.inr h1)
        · rintro ((h1|h1)|(h1|h1))
          · exact Or.inl (Or.inl h1)
          · exact Or.inl (Or.inr (Or.inl h1))
          · exact Or.inl (Or.inr (Or.inr h1))
          · exact Or.inr h1
      · rcases List.mem_append.1 hj with hj|hj
        · exact List.mem_append_left _ (h.closed j hj t ht)
        · have:(j:Int)=i:=by simpa using hj
          obtain rfl:j=i:=by omega
          exact e2 _ ((hmi t).2 ht)
    obtain ⟨xs,h1,h2,h3⟩:=trav_ev hv d (S ++ E) (P ++ E) (A ++ [(i:Int)]) (by simp;omega) hinv
    refine ⟨xs,Evt.step ?_,h2,h3⟩
    simp only [reach.trav,rdA,hv.successors hi,Option.bind_some,e1]
    have hs2:(ints (succs c i)).length<1000:=by
      rw [Ut]
      unfold succs;split
      · simp
      · split
        · simp
        · split <;> simp
    refine Evt.pos ⟨by omega,by omega,?_⟩ (Evt.pos hs2 h1)
    simp at hcount
    omega
theorem marked_get:∀ (xs:List Int) (l:List Bool) (i:Nat),(∀ x ∈ xs,0≤x)→i<l.length→(xs.foldl (fun out x=>out.set x.toNat true) l).getD i false=(l.getD i false||decide ((i:Int) ∈ xs))
  |[],l,i,_,_=>by simp
  |x :: xs,l,i,hx,hi=>by
    rw [List.foldl_cons,marked_get xs _ i (fun y hy=>hx y (List.mem_cons_of_mem _ hy)) (by simpa using hi),getD_set]
    have h0:=hx x (by simp)
    by_cases h:x.toNat=i
    · have:x=(i:Int):=by omega
      subst this
      simp [hi]
    · have:¬ ((i:Int)=x):=by omega
      simp [h,this]
theorem ext_bool {l m:List Bool} (hl:l.length=m.length) (h:∀ i,i<l.length→l.getD i false=m.getD i false):l=m:=by
  apply List.ext_getElem hl
  intro i h1 h2
  have:=h i h1
  rwa [getD_at _ h1,getD_at _ h2] at this
open Classical in
noncomputable def reachB (c:List Ins):List Bool:=(List.range c.length).map (fun i=>decide (Reach c i))
open Classical in
theorem length_reachB (c:List Ins):(reachB c).length=c.length:=by simp [reachB]
open Classical in
theorem reachB_get {c:List Ins} {i:Nat} (hi:i<c.length):(reachB c).getD i false=decide (Reach c i):=by
  unfold reachB
  simp [List.getD_eq_getElem?_getD,List.getElem?_map,List.getElem?_range hi]
open Classical in
theorem impl_reach_ev {c:List Ins} (hv:Zo c):Evt (fun k=>impl_reach.f k c) (reachB c):=by
  have hm:=hv.most
  obtain ⟨xs,h1,h2,h3⟩:=trav_ev hv (c.length+1) [0] [0] [] (by simp) ⟨by simp,fun x hx=>⟨0,by simpa using hx,hv.pos,Reach.first⟩,by simp,by simp,by simp,by simp⟩
  have he:reach.marked c.length xs=reachB c:=by
    refine ext_bool (by rw [reach.length_marked,length_reachB]) (fun i hi=>?_)
    rw [reach.length_marked] at hi
    rw [reachB_get hi]
    unfold reach.marked
    rw [marked_get xs _ i h2 (by simpa using hi)]
    have:(List.replicate c.length false).getD i false=false:=by simp [List.getD_eq_getElem?_getD,List.getElem?_replicate,hi]
    rw [this,Bool.false_or,decide_eq_decide]
    exact h3 i hi
  unfold impl_reach.f
  refine Evt.pos (by omega) ?_
  rw [← he]
  obtain ⟨k0,hk⟩:=h1
  exact ⟨k0,fun k hk'=>by have h:=hk k hk';show Option.map _ _=_;simp only at h;rw [h];rfl⟩
theorem l9_loop (c:List Ins) (rs:List Int) (hl:rs.length=c.length) (hc:c.length≤60):∀ (d i:Nat),i+d=c.length→Evt (fun k=>Uj.l0 k c rs ((List.range i).map (fun j=>decide (0≤rs.getD j 0))) (i:Int)) ((List.range c.length).map (fun j=>decide (0≤rs.getD j 0)))
  |0,i,h=>by
    obtain rfl:i=c.length:=by omega
    refine Evt.step ?_
    simp only [Uj.l0]
    exact Evt.neg (by omega) (Evt.pure _)
  |d+1,i,h=>by
    refine Evt.step ?_
    simp only [Uj.l0,rd_nat]
    refine Evt.pos (by omega) (Evt.pos (by omega) (Evt.pos (by omega) (Evt.pos (by simp;omega) ?_)))
    rw [w64n i (by omega)]
    have ih:=l9_loop c rs hl hc d (i+1) (by omega)
    rw [List.range_succ,List.map_append,List.map_singleton] at ih
    exact ih
open Classical in
theorem spec_reach_ev {c:List Ins} (hv:Zo c) {rs:List Int} (hr:Evt (fun k=>Xp.f k c) (rs,true)) (hg:Good c rs):Evt (fun k=>Uj.f k c) (reachB c):=by
  unfold Uj.f
  refine Evt.bind hr ?_
  have h1:=l9_loop c rs hg.1 hv.most c.length 0 (by omega)
  have:(List.range c.length).map (fun j=>decide (0≤rs.getD j 0))=reachB c:=by
    unfold reachB
    refine List.map_congr_left (fun i hi=>?_)
    rw [decide_eq_decide]
    exact hg.2.1 i (List.mem_range.1 hi)
  rw [this] at h1
  exact h1
end Go.Proofs.Ytokajnfbiddpjaa.Pure
namespace Go.Proofs.Ytokajnfbiddpjaa.Pure
open Go.RowKit Go.Proofs.Ytokajnfbiddpjaa.GSlim Go.Proofs.YtokajnfbiddpjaaW.PrintWords Go.Proofs.YtokajnfbiddpjaaW.PrintLast Go.Proofs.YtokajnfbiddpjaaW.PrintMore Go.Proofs.Ytokajnfbiddpjaa.Evt Go.Proofs.Ytokajnfbiddpjaa.HForms
set_option linter.unusedVariables false
set_option linter.unusedSimpArgs false
def fol (c:List Ins):Nat→Nat→Option Nat
  |0,_=>none
  |d+1,i=>if (at_ c i).f0=7 then fol c d (at_ c i).f3.toNat else some i
def jmp (c:List Ins) (s:Ins):Ins:=if s.f0=7∨s.f0=6 then ⟨s.f0,s.f1,s.f2,(((fol c (c.length+1) s.f3.toNat).getD s.f3.toNat:Nat):Int)⟩ else s
def slimJ (c:List Ins):List Ins:=c.map (jmp c)
theorem at_lt {c:List Ins} {i:Nat} (h:i<c.length):at_ c i=c[i]:=by unfold at_;exact getD_at _ h
theorem Zo.target {c:List Ins} (hv:Zo c) {i:Nat} (hi:i<c.length) (ho:(at_ c i).f0=6∨(at_ c i).f0=7):0≤(at_ c i).f3∧(at_ c i).f3<c.length:=index_ok (hv.ins i hi) ho
theorem Zo.fol_lt {c:List Ins} (hv:Zo c):∀ (d i:Nat),i<c.length→∀ t,fol c d i=some t→t<c.length
  |0,i,hi,t,h=>by simp [fol] at h
  |d+1,i,hi,t,h=>by
    rw [fol] at h
    split at h
    · rename_i h7
      have:=hv.target hi (Or.inr h7)
      exact hv.fol_lt d _ (by omega) t h
    · obtain rfl:=Option.some.inj h;exact hi
theorem follow_loop {c:List Ins} (hv:Zo c):∀ (d j i:Nat),j+d=c.length+1→i<c.length→
    Evt (fun k=>Us.l0 k c (i:Int) ((c.length+1:Nat):Int) (j:Int)) (match fol c d i with|some t=>((t:Int),true)|none=>(0,false))
  |0,j,i,h,hi=>by
    refine Evt.step ?_
    simp only [Us.l0,fol]
    exact Evt.neg (by omega) (Evt.pure _)
  |d+1,j,i,h,hi=>by
    have hm:=hv.most
    refine Evt.step ?_
    simp only [Us.l0,fol,rdA]
    refine Evt.pos (by omega) (Evt.pos (by omega) (Evt.pos (by omega) ?_))
    by_cases h7:(at_ c i).f0=7
    · obtain ⟨t0,t1⟩:=hv.target hi (Or.inr h7)
      have ih:=follow_loop hv d (j+1) (at_ c i).f3.toNat (by omega) (by omega)
      rw [if_pos h7,w64n j (by omega)]
      rw [Int.toNat_of_nonneg t0] at ih
      exact Evt.pos h7 ih
    · rw [if_neg h7]
      exact Evt.neg h7 (Evt.pure _)
theorem follow_ev {c:List Ins} (hv:Zo c) {i:Nat} (hi:i<c.length):Evt (fun k=>Us.f k c (i:Int)) (match fol c (c.length+1) i with|some t=>((t:Int),true)|none=>(0,false)):=by
  have hm:=hv.most
  unfold Us.f
  rw [w64n c.length (by omega)]
  exact follow_loop hv (c.length+1) 0 i (by omega) hi
theorem l9To_loop {c:List Ins} (hv:Zo c) (from_:Int):∀ (d j i:Nat),j+d=c.length→i<c.length→
    Evt (fun k=>Vl.l0 k c from_ (i:Int) (j:Int)) (match fol c (d+1) i with|some t=>(t:Int)|none=>from_)
  |0,j,i,h,hi=>by
    refine Evt.step ?_
    rw [fol,fol]
    simp only [Vl.l0,rdA]
    refine Evt.neg (by omega) (Evt.pos (by omega) (Evt.pos (by omega) ?_))
    by_cases h7:(at_ c i).f0=7
    · rw [if_pos h7,if_pos h7];exact Evt.pure _
    · rw [if_neg h7,if_neg h7];exact Evt.pure _
  |d+1,j,i,h,hi=>by
    have hm:=hv.most
    refine Evt.step ?_
    rw [fol]
    simp only [Vl.l0,rdA]
    refine Evt.pos (by omega) (Evt.pos (by omega) (Evt.pos (by omega) ?_))
    by_cases h7:(at_ c i).f0=7
    · obtain ⟨t0,t1⟩:=hv.target hi (Or.inr h7)
      have ih:=l9To_loop hv from_ d (j+1) (at_ c i).f3.toNat (by omega) (by omega)
      rw [if_pos h7,w64n j (by omega)]
      rw [Int.toNat_of_nonneg t0] at ih
      exact Evt.pos h7 ih
    · rw [if_neg h7]
      exact Evt.neg h7 (Evt.pure _)
theorem l9To_ev {c:List Ins} (hv:Zo c) {i:Nat} (hi:i<c.length):Evt (fun k=>Vl.f k c (i:Int)) (((fol c (c.length+1) i).getD i:Nat):Int):=by
  unfold Vl.f
  have:=l9To_loop hv (i:Int) c.length 0 i (by omega) hi
  cases h:fol c (c.length+1) i with
  |none=>rw [h] at this;exact this
  |some t=>rw [h] at this;exact this
theorem at_app {A B:List Ins} {b:Ins} {c:List Ins} (h:c=A ++ b :: B):at_ c A.length=b:=by unfold at_;rw [h];exact getD_app A b B _
theorem spec_jumps_loop {c:List Ins} (hv:Zo c):∀ (B A:List Ins),c=A ++ B→Evt (fun k=>Yx.l0 k c (A.map (jmp c) ++ B) (A.length:Int)) (slimJ c)
  |[],A,h=>by
    refine Evt.step ?_
    simp only [Yx.l0]
    refine Evt.neg (by simp) ?_
    rw [List.append_nil] at h ⊢
    unfold slimJ
    rw [← h]
    exact Evt.pure _
  |b :: B,A,h=>by
    have hm:=hv.most
    have hcl:c.length=A.length+(B.length+1):=by rw [h];simp
    have hb:at_ c A.length=b:=at_app h
    have hx:at_ (A.map (jmp c) ++ b :: B) A.length=b:=by
      have:=at_app (A:=A.map (jmp c)) (b:=b) (B:=B) rfl
      rwa [List.length_map] at this
    have hset:∀ v,(A.map (jmp c) ++ b :: B).set A.length v=A.map (jmp c) ++ v :: B:=fun v=>by
      have:=set_app (A.map (jmp c)) b v B
      rwa [List.length_map] at this
    have ih:=spec_jumps_loop hv B (A ++ [b]) (by rw [h];simp)
    rw [List.length_append,List.length_singleton,List.map_append,List.map_singleton,List.append_assoc] at ih
    have hal:A.length<c.length:=by omega
    refine Evt.step ?_
    simp only [Yx.l0,rdA,hx,hb,set_nat,hset]
    refine Evt.pos (by simp;omega) (Evt.pos (by omega) ?_)
    have htgt:=hv.target hal
    rw [hb] at htgt
    have goal:∀ (ho:b.f0=6∨b.f0=7),Evt (fun k=>(Vl.f k c b.f3).bind fun t=>Yx.l0 k c (A.map (jmp c) ++ ⟨b.f0,b.f1,b.f2,t⟩ :: B) (wrap64 ((A.length:Int)+1))) (slimJ c):=fun ho=>by
      obtain ⟨t0,t1⟩:=htgt ho
      have e:=l9To_ev hv (i:=b.f3.toNat) (by omega)
      rw [Int.toNat_of_nonneg t0] at e
      refine Evt.bind e ?_
      rw [w64n A.length (by omega)]
      have hj:jmp c b=⟨b.f0,b.f1,b.f2,(((fol c (c.length+1) b.f3.toNat).getD b.f3.toNat:Nat):Int)⟩:=by unfold jmp;rw [if_pos (by omega)]
      rw [hj] at ih
      exact ih
    by_cases h7:b.f0=7
    · exact Evt.pos h7 (Evt.pos (by omega) (goal (Or.inr h7)))
    · refine Evt.neg h7 ?_
      by_cases h6:b.f0=6
      · exact Evt.pos h6 (Evt.pos (by omega) (goal (Or.inl h6)))
      · refine Evt.neg h6 ?_
        rw [w64n A.length (by omega)]
        have hj:jmp c b=b:=by unfold jmp;rw [if_neg (by omega)]
        rw [hj] at ih
        exact ih
theorem impl_jumps_loop {c:List Ins} (hv:Zo c):∀ (B A:List Ins),c=A ++ B→Evt (fun k=>Ya.l0 k c (A.map (jmp c) ++ B) c (c.length:Int) (A.length:Int)) (slimJ c)
  |[],A,h=>by
    refine Evt.step ?_
    simp only [Ya.l0]
    refine Evt.neg (by rw [h];simp) ?_
    rw [List.append_nil] at h ⊢
    unfold slimJ
    rw [← h]
    exact Evt.pure _
  |b :: B,A,h=>by
    have hm:=hv.most
    have hcl:c.length=A.length+(B.length+1):=by rw [h];simp
    have hb:at_ c A.length=b:=at_app h
    have hx:at_ (A.map (jmp c) ++ b :: B) A.length=b:=by
      have:=at_app (A:=A.map (jmp c)) (b:=b) (B:=B) rfl
      rwa [List.length_map] at this
    have hset:∀ v,(A.map (jmp c) ++ b :: B).set A.length v=A.map (jmp c) ++ v :: B:=fun v=>by
      have:=set_app (A.map (jmp c)) b v B
      rwa [List.length_map] at this
    have ih:=impl_jumps_loop hv B (A ++ [b]) (by rw [h];simp)
    rw [List.length_append,List.length_singleton,List.map_append,List.map_singleton,List.append_assoc] at ih
    have hal:A.length<c.length:=by omega
    have htgt:=hv.target hal
    rw [hb] at htgt
    have goal:∀ (ho:b.f0=6∨b.f0=7),Evt (fun k=>Ya.j1 k c (A.map (jmp c) ++ b :: B) (A.length:Int) c (c.length:Int) (A.length:Int) false b.f0 b.f1 b.f2 b.f3) (slimJ c):=fun ho=>by
      obtain ⟨t0,t1⟩:=htgt ho
      refine Evt.step ?_
      simp only [Ya.j1]
      refine Evt.neg (by simp) ?_
      have e:=follow_ev hv (i:=b.f3.toNat) (by omega)
      rw [Int.toNat_of_nonneg t0] at e
      refine Evt.bind e ?_
      have hj:jmp c b=⟨b.f0,b.f1,b.f2,(((fol c (c.length+1) b.f3.toNat).getD b.f3.toNat:Nat):Int)⟩:=by unfold jmp;rw [if_pos (by omega)]
      rw [hj] at ih
      cases hf:fol c (c.length+1) b.f3.toNat with
      |some t=>
        rw [hf] at ih
        simp only [rdA,hx,set_nat,hset]
        refine Evt.pos trivial (Evt.pos (by omega) (Evt.pos (by simp;omega) ?_))
        rw [w64n A.length (by omega)]
        exact ih
      |none=>
        rw [hf] at ih
        refine Evt.neg (by simp) ?_
        rw [w64n A.length (by omega)]
        have hsame:(⟨b.f0,b.f1,b.f2,(((none:Option Nat).getD b.f3.toNat:Nat):Int)⟩:Ins)=b:=by
          show (⟨b.f0,b.f1,b.f2,((b.f3.toNat:Nat):Int)⟩:Ins)=b
          rw [Int.toNat_of_nonneg t0]
        rw [hsame] at ih
        exact ih
    refine Evt.step ?_
    simp only [Ya.l0,rdA,hb]
    refine Evt.pos (by omega) (Evt.pos (by omega) (Evt.pos (by omega) ?_))
    by_cases h7:b.f0=7
    · exact Evt.pos h7 (goal (Or.inr h7))
    · refine Evt.neg h7 ?_
      by_cases h6:b.f0=6
      · have e:(b.f0 != 6)=false:=by simp [h6]
        rw [e]
        exact goal (Or.inl h6)
      · have e:(b.f0 != 6)=true:=by simp [h6]
        rw [e]
        refine Evt.step ?_
        simp only [Ya.j1]
        refine Evt.pos trivial ?_
        rw [w64n A.length (by omega)]
        have hj:jmp c b=b:=by unfold jmp;rw [if_neg (by omega)]
        rw [hj] at ih
        exact ih
theorem length_slimJ (c:List Ins):(slimJ c).length=c.length:=by simp [slimJ]
end Go.Proofs.Ytokajnfbiddpjaa.Pure
