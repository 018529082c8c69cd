import Derived.Test.YtokajnfbiddpjaaCFnSlimSome69
import Derived.Test.YtokajnfbiddpjaaCFnSlimSome50
import Derived.Test.YtokajnfbiddpjaaCFnSlimSome58
import Derived.Test.YtokajnfbiddpjaaCFnSlimSome48
namespace Go.Proofs.Ytokajnfbiddpjaa.Pure
open Go.RowKit Go.Proofs.Ytokajnfbiddpjaa.GSlim Go.Proofs.YtokajnfbiddpjaaW.PrintWords Go.Proofs.YtokajnfbiddpjaaW.PrintLast Go.Proofs.YtokajnfbiddpjaaW.PrintMore Go.Proofs.Ytokajnfbiddpjaa.Evt Go.Proofs.Ytokajnfbiddpjaa.HForms
set_option linter.unusedVariables false
set_option linter.unusedSimpArgs false
@[irreducible] def tabB (n : Nat) (p : Nat → Bool) : List Bool := (List.range n).map p
theorem length_tabB (n:Nat) (p:Nat→Bool):(tabB n p).length=n:=by simp [tabB]
theorem tabB_get {n i:Nat} (p:Nat→Bool) (h:i<n):(tabB n p).getD i false=p i:=by
  simp [tabB,List.getD_eq_getElem?_getD,List.getElem?_map,List.getElem?_range h]
theorem tabB_rd {n i:Nat} (p:Nat→Bool) (h:i<n):rdOf false (tabB n p) (i:Int)=p i:=by rw [rdOf_nat,tabB_get p h]
theorem tabB_ext {n:Nat} {l:List Bool} {p:Nat→Bool} (hl:l.length=n) (h:∀ i,i<n→l.getD i false=p i):l=tabB n p:=by
  refine ext_bool (by rw [hl,length_tabB]) (fun i hi=>?_)
  rw [tabB_get p (by omega)]
  exact h i (by omega)
theorem tabB_congr {n:Nat} {p q:Nat→Bool} (h:∀ i,i<n→p i=q i):tabB n p=tabB n q:=tabB_ext (length_tabB n p) (fun i hi=>by rw [tabB_get p hi];exact h i hi)
theorem tabB_set {n i:Nat} (p:Nat→Bool) (v:Bool):(tabB n p).set i v=tabB n (fun j=>if j=i then v else p j):=by
  refine tabB_ext (by rw [List.length_set,length_tabB]) (fun j hj=>?_)
  rw [getD_set,length_tabB]
  by_cases e:i=j
  · subst e
    rw [if_pos ⟨rfl,hj⟩,if_pos rfl]
  · rw [if_neg (fun h=>e h.1),if_neg (fun h=>e h.symm),tabB_get p hj]
theorem tabB_succ (n:Nat) (p:Nat→Bool):tabB (n+1) p=tabB n p ++ [p n]:=by simp [tabB,List.range_succ]
theorem tabB_elem {n i:Nat} (p:Nat→Bool) (h:i<(tabB n p).length):(tabB n p)[i]=p i:=by
  have h2:i<n:=by rwa [length_tabB] at h
  rw [← getD_at false h,tabB_get p h2]
def nxt (p:Nat→Bool):Nat→Nat→Nat
  |0,k=>k
  |d+1,k=>if p k=true then k else nxt p d (k+1)
theorem nxt_ge (p:Nat→Bool):∀ d k,k≤nxt p d k
  |0,k=>Nat.le_refl k
  |d+1,k=>by
    unfold nxt
    split
    · exact Nat.le_refl k
    · exact Nat.le_trans (Nat.le_succ k) (nxt_ge p d (k+1))
theorem nxt_le (p:Nat→Bool):∀ d k,nxt p d k≤k+d
  |0,k=>Nat.le_refl k
  |d+1,k=>by
    unfold nxt
    split
    · omega
    · have:=nxt_le p d (k+1);omega
theorem nxt_not (p:Nat→Bool):∀ d k j,k≤j→j<nxt p d k→p j=false
  |0,k,j,h1,h2=>by unfold nxt at h2;omega
  |d+1,k,j,h1,h2=>by
    unfold nxt at h2
    split at h2
    · omega
    · rename_i hk
      rcases Nat.eq_or_lt_of_le h1 with rfl|hlt
      · simpa using hk
      · exact nxt_not p d (k+1) j hlt h2
theorem nxt_is (p:Nat→Bool):∀ d k,p (k+d)=true→p (nxt p d k)=true
  |0,k,h=>h
  |d+1,k,h=>by
    unfold nxt
    split
    · rename_i hk;exact hk
    · exact nxt_is p d (k+1) (by rw [show k+1+d=k+(d+1) by omega];exact h)
theorem nxt_eq (p:Nat→Bool) (d k N:Nat) (h1:k≤N) (h2:N≤k+d) (h3:∀ j,k≤j→j<N→p j=false) (h4:p N=true) (h5:p (k+d)=true):nxt p d k=N:=by
  rcases Nat.lt_trichotomy (nxt p d k) N with h|h|h
  · have:=h3 _ (nxt_ge p d k) h
    rw [nxt_is p d k h5] at this
    cases this
  · exact h
  · have:=nxt_not p d k N h1 h
    rw [h4] at this
    cases this
open Classical in
noncomputable def lv (c:List Ins) (i:Nat):Bool:=decide (Reach c i∨i+1=c.length)
noncomputable def nx (c:List Ins) (i:Nat):Nat:=nxt (lv c) (c.length - 1 - (i+1)) (i+1)
open Classical in
noncomputable def kp (c:List Ins) (i:Nat):Bool:=decide (i+1=c.length∨(Reach c i∧¬ ((at_ c i).f0=7∧(at_ c i).f3=(nx c i:Int))))
noncomputable def keepB (c:List Ins):List Bool:=tabB c.length (kp c)
noncomputable def slimD (c:List Ins):List Ins:=dead.out (keepB c) c (keepB c)
open Classical in
theorem reach_tab (c:List Ins):reachB c=tabB c.length (fun i=>decide (Reach c i)):=by unfold tabB reachB;rfl
open Classical in
theorem lv_mid {c:List Ins} {i:Nat} (h:i+1≠c.length):lv c i=decide (Reach c i):=by
  unfold lv
  rw [decide_eq_decide]
  exact ⟨fun hh=>hh.resolve_right h,Or.inl⟩
open Classical in
theorem lv_last {c:List Ins} {i:Nat} (h:i+1=c.length):lv c i=true:=decide_eq_true (Or.inr h)
open Classical in
theorem lv_reach {c:List Ins} {i:Nat} (h:Reach c i):lv c i=true:=decide_eq_true (Or.inl h)
section Contains
theorem index_ev (l:List Bool) (hl:l.length≤1000000):∀ (d j:Nat),j+d=l.length→∃ r:Int,Evt (fun k=>Yu.l0 k l true (l.length:Int) (j:Int)) r∧(0≤r↔∃ i,j≤i∧i<l.length∧l.getD i false=true)
  |0,j,h=>by
    refine ⟨-1,Evt.step ?_,by omega,fun ⟨i,h1,h2,_⟩=>by omega⟩
    simp only [Yu.l0]
    exact Evt.neg (by omega) (Evt.pure _)
  |d+1,j,h=>by
    by_cases hj:l.getD j false=true
    · refine ⟨j,Evt.step ?_,fun _=>⟨j,Nat.le_refl j,by omega,hj⟩,fun _=>by omega⟩
      simp only [Yu.l0,rdOf_nat]
      exact Evt.pos (by omega) (Evt.pos (by omega) (Evt.pos (by omega) (Evt.pos (by rw [hj];rfl) (Evt.pure _))))
    · obtain ⟨r,h1,h2⟩:=index_ev l hl d (j+1) (by omega)
      refine ⟨r,Evt.step ?_,h2.trans ⟨fun ⟨i,a,b,e⟩=>⟨i,by omega,b,e⟩,fun ⟨i,a,b,e⟩=>⟨i,?_,b,e⟩⟩⟩
      · simp only [Yu.l0,rdOf_nat]
        refine Evt.pos (by omega) (Evt.pos (by omega) (Evt.pos (by omega) (Evt.neg ?_ ?_)))
        · cases hx:l.getD j false with
          |true=>exact absurd hx hj
          |false=>simp
        · rw [w64n j (by omega)];exact h1
      · rcases Nat.eq_or_lt_of_le a with rfl|hlt
        · exact absurd e hj
        · exact hlt
theorem contains_ev (l:List Bool) (hl:l.length≤1000000):∃ b:Bool,Evt (fun k=>Zi.f k l true) b∧(b=true↔∃ i,i<l.length∧l.getD i false=true):=by
  obtain ⟨r,h1,h2⟩:=index_ev l hl l.length 0 (by omega)
  refine ⟨decide (r ≥ 0),?_,?_⟩
  · unfold Zi.f Yu.f
    exact Evt.bind h1 (Evt.pure _)
  · rw [decide_eq_true_eq]
    exact h2.trans ⟨fun ⟨i,_,a,b⟩=>⟨i,a,b⟩,fun ⟨i,a,b⟩=>⟨i,by omega,a,b⟩⟩
end Contains
theorem cut_get (n:Nat) (p:Nat→Bool) (a b m:Nat) (hb:b≤n) (hm:m<b - a):(((tabB n p).take b).drop a).getD m false=p (a+m):=by
  rw [List.getD_eq_getElem?_getD,List.getElem?_drop,List.getElem?_take,if_pos (by omega),← List.getD_eq_getElem?_getD,tabB_get p (by omega)]
open Classical in
theorem keep_loop {c:List Ins} (hv:Zo c):∀ (d i:Nat),i+d=c.length→
    Evt (fun k=>Yq.l0 k (tabB c.length (lv c)) (tabB c.length (fun j=>if j<i then kp c j else lv c j)) c (c.length:Int) (i:Int)) (keepB c)
  |0,i,h=>by
    refine Evt.step ?_
    simp only [Yq.l0]
    refine Evt.neg (by omega) ?_
    have:tabB c.length (fun j=>if j<i then kp c j else lv c j)=keepB c:=tabB_congr (fun j hj=>if_pos (by omega))
    rw [this]
    exact Evt.pure _
  |d+1,i,h=>by
    have hm:=hv.most
    have hi:i<c.length:=by omega
    have ih:=keep_loop hv d (i+1) (by omega)
    have hins:=hv.ins i hi
    have hlast:=hv.last i hi
    have same:kp c i=lv c i→tabB c.length (fun j=>if j<i+1 then kp c j else lv c j)=tabB c.length (fun j=>if j<i then kp c j else lv c j):=fun e=>tabB_congr (fun j hj=>by
      by_cases h1:j<i
      · rw [if_pos h1,if_pos (by omega)]
      · rw [if_neg h1]
        by_cases h2:j=i
        · subst h2;rw [if_pos (by omega),e]
        · rw [if_neg (by omega)])
    have gone:kp c i=false→tabB c.length (fun j=>if j<i+1 then kp c j else lv c j)=(tabB c.length (fun j=>if j<i then kp c j else lv c j)).set i false:=fun e=>by
      rw [tabB_set]
      refine tabB_congr (fun j hj=>?_)
      by_cases h2:j=i
      · subst h2;rw [if_pos (by omega),if_pos rfl,e]
      · rw [if_neg h2]
        by_cases h1:j<i
        · rw [if_pos h1,if_pos (by omega)]
        · rw [if_neg h1,if_neg (by omega)]
    refine Evt.step ?_
    simp only [Yq.l0,rdA]
    refine Evt.pos (by omega) (Evt.pos (by omega) (Evt.pos (by omega) ?_))
    by_cases h7:(at_ c i).f0=7
    · have hne:i+1≠c.length:=fun e=>by have:=hlast.2 e;omega
      obtain ⟨t0,t1⟩:=index_ok hins (Or.inr h7)
      obtain ⟨N,hN⟩:∃ N:Nat,(at_ c i).f3=(N:Int):=⟨_,(Int.toNat_of_nonneg t0).symm⟩
      have hNlt:N<c.length:=by omega
      have hsuc:Reach c i→Reach c N:=fun hr=>Reach.go hr hi (by
        unfold succs
        rw [if_neg (by omega),if_pos h7,hN]
        simp)
      refine Evt.pos h7 (Evt.step ?_)
      simp only [Yq.j1]
      by_cases hle:(at_ c i).f3≤(i:Int)
      · refine Evt.pos (decide_eq_true hle) ?_
        rw [w64n i (by omega)]
        rw [same ?_] at ih
        · exact ih
        · rw [lv_mid hne]
          unfold kp
          rw [decide_eq_decide]
          refine ⟨fun hh=>(hh.resolve_left hne).1,fun hr=>Or.inr ⟨hr,fun ⟨_,e⟩=>?_⟩⟩
          have:=nxt_ge (lv c) (c.length - 1 - (i+1)) (i+1)
          unfold nx at e
          omega
      · refine Evt.neg (by simpa using hle) ?_
        rw [w64n i (by omega),hN]
        refine Evt.pos (by omega) (Evt.pos (by omega) (Evt.pos (by rw [length_tabB];omega) ?_))
        have hcut:((N:Int)).toNat=N:=rfl
        have aA:(((i+1:Nat):Int)).toNat=i+1:=rfl
        rw [hcut,aA]
        have hll:(((tabB c.length (lv c)).take N).drop (i+1)).length=N - (i+1):=by rw [List.length_drop,List.length_take,length_tabB];omega
        obtain ⟨b,hb1,hb2⟩:=contains_ev (((tabB c.length (lv c)).take N).drop (i+1)) (by omega)
        refine Evt.bind hb1 ?_
        rw [hll] at hb2
        have hb3:b=true↔∃ j,i+1≤j∧j<N∧lv c j=true:=hb2.trans ⟨fun ⟨m,h1,h2⟩=>⟨i+1+m,by omega,by omega,by rw [← h2];exact (cut_get c.length (lv c) (i+1) N m (by omega) h1).symm⟩,fun ⟨j,h1,h2,h3⟩=>⟨j - (i+1),by omega,by rw [cut_get c.length (lv c) (i+1) N _ (by omega) (by omega),show i+1+(j - (i+1))=j by omega];exact h3⟩⟩
        have hend:lv c (i+1+(c.length - 1 - (i+1)))=true:=lv_last (by omega)
        cases b with
        |true=>
          refine Evt.pos rfl ?_
          rw [same ?_] at ih
          · exact ih
          · rw [lv_mid hne]
            unfold kp
            rw [decide_eq_decide]
            refine ⟨fun hh=>(hh.resolve_left hne).1,fun hr=>Or.inr ⟨hr,fun ⟨_,e⟩=>?_⟩⟩
            obtain ⟨j,h1,h2,h3⟩:=hb3.1 rfl
            unfold nx at e
            rw [hN] at e
            have:=nxt_not (lv c) (c.length - 1 - (i+1)) (i+1) j h1 (by omega)
            rw [h3] at this
            cases this
        |false=>
          refine Evt.neg (by simp) (Evt.pos (by omega) (Evt.pos (by rw [length_tabB];omega) ?_))
          rw [tabB_rd _ hNlt]
          have hno:∀ j,i+1≤j→j<N→lv c j=false:=fun j h1 h2=>by
            cases hx:lv c j with
            |false=>rfl
            |true=>exact absurd (hb3.2 ⟨j,h1,h2,hx⟩) (by simp)
          by_cases hN1:lv c N=true
          · refine Evt.pos hN1 (Evt.pos (by omega) (Evt.pos (by rw [length_tabB];omega) ?_))
            rw [set_nat]
            rw [gone ?_] at ih
            · exact ih
            · unfold kp
              refine decide_eq_false (fun hh=>?_)
              refine (hh.resolve_left hne).2 ⟨h7,?_⟩
              rw [hN]
              unfold nx
              rw [nxt_eq (lv c) _ _ N (by omega) (by omega) hno hN1 hend]
          · refine Evt.neg hN1 ?_
            rw [same ?_] at ih
            · exact ih
            · rw [lv_mid hne]
              unfold kp
              rw [decide_eq_decide]
              exact ⟨fun hh=>(hh.resolve_left hne).1,fun hr=>absurd (lv_reach (hsuc hr)) hN1⟩
    · refine Evt.neg h7 (Evt.step ?_)
      simp only [Yq.j1]
      refine Evt.pos trivial ?_
      rw [w64n i (by omega)]
      rw [same ?_] at ih
      · exact ih
      · unfold kp lv
        rw [decide_eq_decide]
        exact ⟨fun hh=>hh.elim Or.inr (fun z=>Or.inl z.1),fun hh=>hh.elim (fun z=>Or.inr ⟨z,fun e=>h7 e.1⟩) Or.inl⟩
open Classical in
theorem impl_keep_ev {c:List Ins} (hv:Zo c):Evt (fun k=>Yq.f k c) (keepB c):=by
  have hm:=hv.most
  have hp:=hv.pos
  unfold Yq.f
  refine Evt.bind (impl_reach_ev hv) ?_
  have hw:wrap64 ((c.length:Int) - 1)=((c.length - 1:Nat):Int):=by rw [w64 (by omega) (by omega)];omega
  rw [hw,set_nat]
  refine Evt.pos (by omega) (Evt.pos (by rw [length_reachB];omega) ?_)
  have he:(reachB c).set (c.length - 1) true=tabB c.length (lv c):=by
    rw [reach_tab,tabB_set]
    refine tabB_congr (fun j hj=>?_)
    by_cases h:j=c.length - 1
    · rw [if_pos h,lv_last (by omega)]
    · rw [if_neg h,lv_mid (by omega)]
  rw [he]
  simp only [Option.bind_some]
  unfold Ud.f
  rw [if_pos (by rw [length_tabB];omega)]
  simp only [Option.bind_some]
  have h1:=keep_loop hv c.length 0 (by omega)
  have h2:tabB c.length (fun j=>if j<0 then kp c j else lv c j)=tabB c.length (lv c):=tabB_congr (fun j hj=>if_neg (by omega))
  rw [h2] at h1
  exact h1
open Classical in
theorem next_loop {c:List Ins} (hv:Zo c) {i:Nat} (hi:i<c.length):∀ (d k0:Nat),k0+d+1=c.length→
    Evt (fun k=>Uk.l0 k c (reachB c) (i:Int) (k0:Int)) ((at_ c i).f3 == ((nxt (lv c) d k0:Nat):Int))
  |0,k0,h=>by
    have hm:=hv.most
    refine Evt.step ?_
    simp only [Uk.l0,rdA,nxt]
    rw [w64 (n:=(c.length:Int) - 1) (by omega) (by omega)]
    exact Evt.neg (by omega) (Evt.pos (by omega) (Evt.pos (by omega) (Evt.pure _)))
  |d+1,k0,h=>by
    have hm:=hv.most
    have ih:=next_loop hv hi d (k0+1) (by omega)
    refine Evt.step ?_
    simp only [Uk.l0,rdA,nxt]
    rw [w64 (n:=(c.length:Int) - 1) (by omega) (by omega)]
    refine Evt.pos (by omega) (Evt.pos (by omega) (Evt.pos (by rw [length_reachB];omega) ?_))
    rw [rdOf_nat,reachB_get (by omega),← lv_mid (by omega)]
    by_cases hk:lv c k0=true
    · rw [if_pos hk]
      exact Evt.pos hk (Evt.pos (by omega) (Evt.pos (by omega) (Evt.pure _)))
    · rw [if_neg hk,w64n k0 (by omega)]
      exact Evt.neg hk ih
open Classical in
theorem spec_keeps_ev {c:List Ins} (hv:Zo c) {i:Nat} (hi:i<c.length):Evt (fun k=>spec_l9Keeps.f k c (reachB c) (i:Int)) (kp c i):=by
  have hm:=hv.most
  unfold spec_l9Keeps.f
  rw [w64 (n:=(c.length:Int) - 1) (by omega) (by omega)]
  by_cases hl:i+1=c.length
  · have:kp c i=true:=decide_eq_true (Or.inl hl)
    rw [this]
    exact Evt.pos (by omega) (Evt.pure _)
  · refine Evt.neg (by omega) (Evt.pos (by omega) (Evt.pos (by rw [length_reachB];omega) ?_))
    rw [rdOf_nat,reachB_get hi]
    by_cases hr:Reach c i
    · refine Evt.pos (decide_eq_true hr) (Evt.pos (by omega) ?_)
      rw [rdA]
      by_cases h7:(at_ c i).f0=7
      · refine Evt.pos h7 ?_
        have h1:=next_loop hv hi (c.length - 1 - (i+1)) (i+1) (by omega)
        have h2:Evt (fun k=>Uk.f k c (reachB c) (i:Int)) ((at_ c i).f3 == ((nx c i:Nat):Int)):=by
          unfold Uk.f
          rw [w64n i (by omega)]
          exact h1
        have h3:kp c i = !((at_ c i).f3 == ((nx c i:Nat):Int)):=by
          unfold kp
          rw [Bool.eq_iff_iff,decide_eq_true_eq]
          simp only [Bool.not_eq_true',beq_eq_false_iff_ne,ne_eq]
          exact ⟨fun hh e=>(hh.resolve_left hl).2 ⟨h7,e⟩,fun hh=>Or.inr ⟨hr,fun e=>hh e.2⟩⟩
        rw [h3]
        exact Evt.bind h2 (Evt.pure _)
      · have:kp c i=true:=decide_eq_true (Or.inr ⟨hr,fun e=>h7 e.1⟩)
        rw [this]
        exact Evt.neg h7 (Evt.pure _)
    · have:kp c i=false:=decide_eq_false (fun hh=>hr (hh.resolve_left hl).1)
      rw [this]
      exact Evt.neg (by simpa using hr) (Evt.pure _)
theorem keeps_ev {c:List Ins} (hv:Zo c):∀ j,j≤c.length→Evt (fun k=>Ux.keeps k c (reachB c) j) (tabB j (kp c))
  |0,_=>by
    have:tabB 0 (kp c)=[]:=by simp [tabB]
    rw [this]
    simp only [Ux.keeps]
    exact Evt.pure _
  |j+1,h=>by
    simp only [Ux.keeps]
    rw [tabB_succ]
    exact Evt.bind (keeps_ev hv j (by omega)) (Evt.bind (spec_keeps_ev hv (by omega)) (Evt.pure _))
theorem okN_all (n:Nat):∀ (c:List Ins) (ks:List Bool),(∀ s ∈ c,s.f0=7∨s.f0=6→0≤s.f3∧s.f3<(n:Int))→Ux.okN n c ks=true
  |[],_,_=>by simp [Ux.okN]
  |_ :: _,[],_=>by simp [Ux.okN]
  |s :: c,b :: ks,h=>by
    rw [Ux.okN,okN_all n c ks (fun x hx=>h x (List.mem_cons_of_mem _ hx)),Bool.and_true]
    by_cases ho:s.f0=7∨s.f0=6
    · have:=h s (List.mem_cons_self ..) ho
      simp [this.1,this.2]
    · simp [ho]
theorem Zo.mem {c:List Ins} (hv:Zo c) {s:Ins} (h:s ∈ c):∃ i,i<c.length∧at_ c i=s:=by
  obtain ⟨i,hi,e⟩:=List.getElem_of_mem h
  exact ⟨i,hi,by rw [at_lt hi];exact e⟩
theorem length_slimD (c:List Ins):(slimD c).length≤c.length:=dead.out_len _ _ _
theorem impl_slimDead_ev {c:List Ins} (hv:Zo c):Evt (fun k=>impl_slimDead.f k c) (slimD c):=by
  have hm:=hv.most
  unfold impl_slimDead.f
  refine Evt.bind (impl_keep_ev hv) (Evt.pos ⟨?_,by omega⟩ (Evt.pure _))
  unfold keepB
  rw [length_tabB]
theorem spec_slimDead_ev {c:List Ins} (hv:Zo c) {rs:List Int} (hk:Evt (fun k=>Yb.f k c) true) (hr:Evt (fun k=>Xp.f k c) (rs,true)) (hg:Good c rs):Evt (fun k=>Vy.f k c) (slimD c):=by
  have hm:=hv.most
  unfold Vy.f
  refine Evt.bind hk (Evt.pos rfl (Evt.bind (spec_reach_ev hv hr hg) (Evt.pos (by omega) (Evt.bind (keeps_ev hv c.length (Nat.le_refl _)) (Evt.pos ?_ (Evt.pure _))))))
  refine okN_all _ _ _ (fun s hs ho=>?_)
  obtain ⟨i,hi,rfl⟩:=hv.mem hs
  exact index_ok (hv.ins i hi) ho.symm
end Go.Proofs.Ytokajnfbiddpjaa.Pure
