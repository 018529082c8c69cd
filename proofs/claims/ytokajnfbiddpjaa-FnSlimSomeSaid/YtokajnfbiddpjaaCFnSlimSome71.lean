import Derived.Test.YtokajnfbiddpjaaCFnSlimSome70
namespace Go.Proofs.Ytokajnfbiddpjaa.Pure
open Go.RowKit Go.Proofs.Ytokajnfbiddpjaa.GSlim Go.Proofs.YtokajnfbiddpjaaW.PrintWords Go.Proofs.YtokajnfbiddpjaaW.PrintLast Go.Proofs.YtokajnfbiddpjaaW.PrintMore Go.Proofs.Ytokajnfbiddpjaa.Evt Go.Proofs.Ytokajnfbiddpjaa.HForms
set_option linter.unusedVariables false
set_option linter.unusedSimpArgs false
def Ok (c:List Ins):Prop:=Zo c∧∃ ρ,Rooms c ρ
theorem ins_index {op a b n m n' m':Int} (h:Vv op a b n m=true) (ho:op=6∨op=7) (h0:0≤n') (h1:n'<m'):Vv op a b n' m'=true:=by
  rw [insF_cases] at h ⊢
  rcases ho with rfl|rfl <;> simp [Zr] at h ⊢ <;> exact ⟨h.1,h.2.1,h0,h1⟩
theorem ins_other {op a b n m m':Int} (h:Vv op a b n m=true) (h6:op≠6) (h7:op≠7):Vv op a b n m'=true:=by
  rw [insF_cases] at h ⊢
  simp only [if_neg h6,if_neg h7,Zr,Bool.false_eq_true,if_false] at h ⊢
  exact h
section Jumps
theorem at_slimJ {c:List Ins} {i:Nat} (hi:i<c.length):at_ (slimJ c) i=jmp c (at_ c i):=by
  rw [at_lt (by rw [length_slimJ];exact hi),at_lt hi]
  unfold slimJ
  rw [List.getElem_map]
theorem jmp_f0 (c:List Ins) (s:Ins):(jmp c s).f0=s.f0:=by unfold jmp;split <;> rfl
theorem jmp_f1 (c:List Ins) (s:Ins):(jmp c s).f1=s.f1:=by unfold jmp;split <;> rfl
theorem jmp_f2 (c:List Ins) (s:Ins):(jmp c s).f2=s.f2:=by unfold jmp;split <;> rfl
theorem jmp_no {c:List Ins} {s:Ins} (h:¬ (s.f0=7∨s.f0=6)):jmp c s=s:=by unfold jmp;rw [if_neg h]
def goal (c:List Ins) (s:Ins):Nat:=(fol c (c.length+1) s.f3.toNat).getD s.f3.toNat
theorem jmp_f3 {c:List Ins} {s:Ins} (h:s.f0=7∨s.f0=6):(jmp c s).f3=(goal c s:Int):=by unfold jmp goal;rw [if_pos h]
theorem Zo.goal_lt {c:List Ins} (hv:Zo c) {i:Nat} (hi:i<c.length) (ho:(at_ c i).f0=7∨(at_ c i).f0=6):goal c (at_ c i)<c.length:=by
  obtain ⟨t0,t1⟩:=hv.target hi ho.symm
  unfold goal
  cases h:fol c (c.length+1) (at_ c i).f3.toNat with
  |none=>show (at_ c i).f3.toNat<_;omega
  |some t=>exact hv.fol_lt _ _ (by omega) t h
theorem Zo.slimJ {c:List Ins} (hv:Zo c):Zo (slimJ c):=by
  refine ⟨by rw [length_slimJ];exact hv.pos,by rw [length_slimJ];exact hv.most,fun i hi=>?_,fun i hi=>?_⟩
  · rw [length_slimJ] at hi ⊢
    rw [at_slimJ hi,jmp_f0,jmp_f1,jmp_f2]
    by_cases ho:(at_ c i).f0=7∨(at_ c i).f0=6
    · rw [jmp_f3 ho]
      have:=hv.goal_lt hi ho
      exact ins_index (hv.ins i hi) ho.symm (by omega) (by omega)
    · rw [jmp_no ho]
      exact hv.ins i hi
  · rw [length_slimJ] at hi ⊢
    rw [at_slimJ hi,jmp_f0]
    exact hv.last i hi
theorem succ_jump {c:List Ins} {i:Nat} (h:(at_ c i).f0=7):succs c i=[(at_ c i).f3.toNat]:=by
  unfold succs;rw [if_neg (by omega),if_pos h]
theorem succ_skip {c:List Ins} {i:Nat} (h:(at_ c i).f0=6):succs c i=[i+1,(at_ c i).f3.toNat]:=by
  unfold succs;rw [if_neg (by omega),if_neg (by omega),if_pos h]
theorem succ_end {c:List Ins} {i:Nat} (h:(at_ c i).f0=13):succs c i=[]:=by
  unfold succs;rw [if_pos h]
theorem succ_plain {c:List Ins} {i:Nat} (aA:(at_ c i).f0≠13) (h7:(at_ c i).f0≠7) (h6:(at_ c i).f0≠6):succs c i=[i+1]:=by
  unfold succs;rw [if_neg aA,if_neg h7,if_neg h6]
theorem held_go {s:Ins} (h:s.f0=6∨s.f0=7) (room:Int):held s room=(room,true):=by
  unfold held;rw [if_neg (by omega),if_neg (by omega),if_neg (by omega),if_neg (by omega)]
theorem fol_reach {c:List Ins} (hv:Zo c):∀ (d i:Nat),Reach c i→∀ t,fol c d i=some t→Reach c t∧∀ ρ,Rooms c ρ→ρ t=ρ i
  |0,i,_,t,h=>by simp [fol] at h
  |d+1,i,hr,t,h=>by
    rw [fol] at h
    split at h
    · rename_i h7
      have hm:(at_ c i).f3.toNat ∈ succs c i:=by rw [succ_jump h7];simp
      have hr2:=Reach.go hr (hv.reach_lt hr) hm
      obtain ⟨h1,h2⟩:=fol_reach hv d _ hr2 t h
      refine ⟨h1,fun ρ hρ=>?_⟩
      rw [h2 ρ hρ,hρ.go i _ hr hm,held_go (Or.inr h7)]
    · obtain rfl:=Option.some.inj h
      exact ⟨hr,fun _ _=>rfl⟩
theorem goal_reach {c:List Ins} (hv:Zo c) {i:Nat} (hr:Reach c i) (ho:(at_ c i).f0=7∨(at_ c i).f0=6):Reach c (goal c (at_ c i))∧∀ ρ,Rooms c ρ→ρ (goal c (at_ c i))=ρ i:=by
  have hm:(at_ c i).f3.toNat ∈ succs c i:=by
    rcases ho with h|h
    · rw [succ_jump h];simp
    · rw [succ_skip h];simp
  have hr2:=Reach.go hr (hv.reach_lt hr) hm
  have aB:∀ ρ,Rooms c ρ→ρ (at_ c i).f3.toNat=ρ i:=fun ρ hρ=>by rw [hρ.go i _ hr hm,held_go ho.symm]
  unfold goal
  cases h:fol c (c.length+1) (at_ c i).f3.toNat with
  |none=>exact ⟨hr2,aB⟩
  |some t=>
    obtain ⟨h1,h2⟩:=fol_reach hv _ _ hr2 t h
    exact ⟨h1,fun ρ hρ=>(h2 ρ hρ).trans (aB ρ hρ)⟩
theorem slimJ_succ {c:List Ins} (hv:Zo c) {i:Nat} (hr:Reach c i) {t:Nat} (ht:t ∈ succs (slimJ c) i):Reach c t∧∀ ρ,Rooms c ρ→ρ t=(held (at_ c i) (ρ i)).1:=by
  have hi:=hv.reach_lt hr
  have e:=at_slimJ hi
  have e0:(at_ (slimJ c) i).f0=(at_ c i).f0:=by rw [e,jmp_f0]
  by_cases h7:(at_ c i).f0=7
  · rw [succ_jump (e0.trans h7),e,jmp_f3 (Or.inl h7)] at ht
    obtain rfl:t=goal c (at_ c i):=by simpa using ht
    obtain ⟨h1,h2⟩:=goal_reach hv hr (Or.inl h7)
    exact ⟨h1,fun ρ hρ=>by rw [h2 ρ hρ,held_go (Or.inr h7)]⟩
  · by_cases h6:(at_ c i).f0=6
    · rw [succ_skip (e0.trans h6),e,jmp_f3 (Or.inr h6)] at ht
      have hm:i+1 ∈ succs c i:=by rw [succ_skip h6];simp
      rcases List.mem_cons.1 ht with rfl|ht
      · exact ⟨Reach.go hr hi hm,fun ρ hρ=>hρ.go i _ hr hm⟩
      · obtain rfl:t=goal c (at_ c i):=by simpa using ht
        obtain ⟨h1,h2⟩:=goal_reach hv hr (Or.inr h6)
        exact ⟨h1,fun ρ hρ=>by rw [h2 ρ hρ,held_go (Or.inl h6)]⟩
    · have hs:succs (slimJ c) i=succs c i:=by
        by_cases aA:(at_ c i).f0=13
        · rw [succ_end (e0.trans aA),succ_end aA]
        · rw [succ_plain (by rw [e0];exact aA) (by rw [e0];exact h7) (by rw [e0];exact h6),succ_plain aA h7 h6]
      rw [hs] at ht
      exact ⟨Reach.go hr hi ht,fun ρ hρ=>hρ.go i _ hr ht⟩
theorem slimJ_reach {c:List Ins} (hv:Zo c) {i:Nat} (h:Reach (slimJ c) i):Reach c i:=by
  induction h with
  |first=>exact Reach.first
  |go _ _ ht ih=>exact (slimJ_succ hv ih ht).1
theorem held_jmp (c:List Ins) (s:Ins) (r:Int):held (jmp c s) r=held s r:=by
  unfold held;rw [jmp_f0,jmp_f1]
theorem Ok.jumps {c:List Ins} (h:Ok c):Ok (slimJ c):=by
  obtain ⟨hv,ρ,hρ⟩:=h
  refine ⟨hv.slimJ,ρ,hρ.zero,fun i hr=>?_,fun i t hr ht=>?_⟩
  · have h1:=slimJ_reach hv hr
    rw [at_slimJ (hv.reach_lt h1),held_jmp]
    exact hρ.ok i h1
  · have h1:=slimJ_reach hv hr
    rw [at_slimJ (hv.reach_lt h1),held_jmp]
    exact (slimJ_succ hv h1 ht).2 ρ hρ
end Jumps
section Dead
noncomputable def pl (c:List Ins) (i:Nat):Nat:=dead.cnt (keepB c) i
theorem length_keepB (c:List Ins):(keepB c).length=c.length:=by unfold keepB;rw [length_tabB]
theorem keepB_at {c:List Ins} {i:Nat} (hi:i<(keepB c).length):(keepB c)[i]=kp c i:=tabB_elem _ _
theorem pl_zero (c:List Ins):pl c 0=0:=by unfold pl dead.cnt;simp
theorem pl_succ {c:List Ins} {i:Nat} (hi:i<c.length):pl c (i+1)=pl c i+(if kp c i then 1 else 0):=by
  unfold pl
  rw [dead.cnt_succ _ i (by rw [length_keepB];exact hi),keepB_at]
theorem pl_le {c:List Ins}:∀ {j i:Nat},i≤j→j≤c.length→pl c i≤pl c j
  |0,i,h,_=>by
    obtain rfl:i=0:=by omega
    exact Nat.le_refl _
  |j+1,i,h,hj=>by
    rcases Nat.eq_or_lt_of_le h with rfl|hlt
    · exact Nat.le_refl _
    · have:=pl_le (c:=c) (j:=j) (i:=i) (by omega) (by omega)
      rw [pl_succ (by omega)]
      omega
theorem pl_lt {c:List Ins} {i j:Nat} (hk:kp c i=true) (h:i<j) (hj:j≤c.length):pl c i<pl c j:=by
  have h1:=pl_succ (c:=c) (i:=i) (by omega)
  rw [hk,if_pos rfl] at h1
  have:=pl_le (c:=c) (i:=i+1) (j:=j) (by omega) hj
  omega
theorem pl_same {c:List Ins} {t:Nat}:∀ {m:Nat},t≤m→m≤c.length→(∀ j,t≤j→j<m→kp c j=false)→pl c m=pl c t
  |0,h,_,_=>by
    obtain rfl:t=0:=by omega
    rfl
  |m+1,h,hm,hn=>by
    rcases Nat.eq_or_lt_of_le h with rfl|hlt
    · rfl
    · rw [pl_succ (by omega),hn m (by omega) (by omega),pl_same (m:=m) (by omega) (by omega) (fun j h1 h2=>hn j h1 (by omega))]
      simp
theorem pl_inj {c:List Ins} {i j:Nat} (hi:kp c i=true) (hj:kp c j=true) (hil:i<c.length) (hjl:j<c.length) (h:pl c i=pl c j):i=j:=by
  rcases Nat.lt_trichotomy i j with h1|h1|h1
  · have:=pl_lt hi h1 (by omega);omega
  · exact h1
  · have:=pl_lt hj h1 (by omega);omega
open Classical in
theorem kp_last {c:List Ins} {i:Nat} (h:i+1=c.length):kp c i=true:=decide_eq_true (Or.inl h)
theorem out_get (K:List Bool):∀ (c:List Ins) (ks:List Bool) (i:Nat) (h1:i<c.length) (h2:i<ks.length),ks[i]=true→(dead.out K c ks)[dead.cnt ks i]?=some (dead.fix K c[i])
  |[],_,_,h1,_,_=>by simp at h1
  |_ :: _,[],_,_,h2,_=>by simp at h2
  |s :: c,b :: ks,0,_,_,h=>by
    simp only [List.getElem_cons_zero] at h
    subst h
    simp [dead.out,dead.cnt]
  |s :: c,b :: ks,i+1,h1,h2,h=>by
    have ih:=out_get K c ks i (by simpa using h1) (by simpa using h2) (by simpa using h)
    have hc:dead.cnt (b :: ks) (i+1)=dead.cnt ks i+(if b then 1 else 0):=by
      unfold dead.cnt
      rw [List.take_succ_cons,List.countP_cons]
      rfl
    rw [hc,dead.out]
    cases b with
    |true=>simpa using ih
    |false=>simpa using ih
theorem out_count (K:List Bool):∀ (c:List Ins) (ks:List Bool),ks.length=c.length→(dead.out K c ks).length=dead.cnt ks ks.length
  |[],[],_=>by simp [dead.out,dead.cnt]
  |[],_ :: _,h=>by simp at h
  |_ :: _,[],h=>by simp at h
  |s :: c,b :: ks,h=>by
    have ih:=out_count K c ks (by simpa using h)
    have hc:dead.cnt (b :: ks) (b :: ks).length=dead.cnt ks ks.length+(if b then 1 else 0):=by
      unfold dead.cnt
      rw [List.length_cons,List.take_succ_cons,List.countP_cons]
      rfl
    rw [hc,dead.out]
    cases b with
    |true=>simp [ih]
    |false=>simpa using ih
theorem slimD_len (c:List Ins):(slimD c).length=pl c c.length:=by
  unfold slimD pl
  rw [out_count _ _ _ (length_keepB c),length_keepB]
theorem at_slimD {c:List Ins} {i:Nat} (hi:i<c.length) (hk:kp c i=true):at_ (slimD c) (pl c i)=dead.fix (keepB c) (at_ c i):=by
  have h:=out_get (keepB c) c (keepB c) i hi (by rw [length_keepB];exact hi) (by rw [keepB_at];exact hk)
  rw [at_lt hi]
  unfold at_ slimD pl
  rw [List.getD_eq_getElem?_getD,h]
  rfl
theorem pl_lt_len {c:List Ins} {i:Nat} (hi:i<c.length) (hk:kp c i=true):pl c i<(slimD c).length:=by
  rw [slimD_len]
  exact pl_lt hk hi (Nat.le_refl _)
theorem pl_onto {c:List Ins}:∀ {m j:Nat},m≤c.length→j<pl c m→∃ i,i<m∧kp c i=true∧pl c i=j
  |0,j,_,h=>by rw [pl_zero] at h;omega
  |m+1,j,hm,h=>by
    rw [pl_succ (by omega)] at h
    by_cases hj:j<pl c m
    · obtain ⟨i,h1,h2,h3⟩:=pl_onto (c:=c) (m:=m) (by omega) hj
      exact ⟨i,by omega,h2,h3⟩
    · cases hk:kp c m with
      |false=>rw [hk] at h;simp at h;omega
      |true=>rw [hk,if_pos rfl] at h;exact ⟨m,by omega,hk,by omega⟩
theorem slimD_onto {c:List Ins} {j:Nat} (h:j<(slimD c).length):∃ i,i<c.length∧kp c i=true∧pl c i=j:=by
  rw [slimD_len] at h
  exact pl_onto (Nat.le_refl _) h
noncomputable def nk (c:List Ins) (t:Nat):Nat:=nxt (kp c) (c.length - 1 - t) t
theorem nk_spec {c:List Ins} {t:Nat} (ht:t<c.length):t≤nk c t∧nk c t<c.length∧kp c (nk c t)=true∧∀ j,t≤j→j<nk c t→kp c j=false:=by
  have h2:=nxt_le (kp c) (c.length - 1 - t) t
  refine ⟨nxt_ge _ _ _,?_,nxt_is _ _ _ (kp_last (by omega)),fun j h1 h3=>nxt_not _ _ _ j h1 h3⟩
  unfold nk
  omega
theorem pl_nk {c:List Ins} {t:Nat} (ht:t<c.length):pl c (nk c t)=pl c t:=by
  obtain ⟨h1,h2,_,h4⟩:=nk_spec ht
  exact pl_same h1 (by omega) h4
theorem nk_eq {c:List Ins} {t m:Nat} (ht:t≤m) (hm:m<c.length) (hk:kp c m=true) (hn:∀ j,t≤j→j<m→kp c j=false):nk c t=m:=by
  obtain ⟨h1,h2,h3,h4⟩:=nk_spec (c:=c) (t:=t) (by omega)
  rcases Nat.lt_trichotomy (nk c t) m with h|h|h
  · rw [hn _ h1 h] at h3;cases h3
  · exact h
  · rw [h4 _ ht h] at hk;cases hk
open Classical in
theorem kp_live {c:List Ins} {i:Nat} (h:kp c i=true):lv c i=true:=by
  unfold kp at h
  unfold lv
  rw [decide_eq_true_eq] at h ⊢
  rcases h with h|h
  · exact Or.inr h
  · exact Or.inl h.1
open Classical in
theorem nk_reach {c:List Ins} (hv:Zo c):∀ (d t:Nat),t+d=c.length→Reach c t→Reach c (nk c t)∧∀ ρ,Rooms c ρ→ρ (nk c t)=ρ t
  |d,t,hd,hr=>by
    have ht:=hv.reach_lt hr
    by_cases hk:kp c t=true
    · rw [nk_eq (Nat.le_refl t) ht hk (fun j h1 h2=>by omega)]
      exact ⟨hr,fun _ _=>rfl⟩
    · have hn:=hk
      unfold kp at hn
      rw [decide_eq_true_eq,not_or] at hn
      obtain ⟨hl,hn⟩:=hn
      have h2:(at_ c t).f0=7∧(at_ c t).f3=(nx c t:Int):=Classical.byContradiction (fun h=>hn ⟨hr,h⟩)
      obtain ⟨h7,h3⟩:=h2
      have hm:nx c t ∈ succs c t:=by rw [succ_jump h7,h3];simp
      have hr2:=Reach.go hr ht hm
      have hge:t+1≤nx c t:=nxt_ge _ _ _
      have hlt:=hv.reach_lt hr2
      obtain ⟨h4,h5⟩:=nk_reach hv (c.length - nx c t) (nx c t) (by omega) hr2
      have e:nk c t=nk c (nx c t):=by
        obtain ⟨a1,a2,a3,a4⟩:=nk_spec hlt
        refine nk_eq (by omega) a2 a3 (fun j h1 h2=>?_)
        by_cases h6:nx c t≤j
        · exact a4 j h6 h2
        · by_cases h8:j=t
          · subst h8;simpa using hk
          · have h9:lv c j=false:=nxt_not (lv c) (c.length - 1 - (t+1)) (t+1) j (by omega) (by unfold nx at h6;omega)
            cases hx:kp c j with
            |false=>rfl
            |true=>rw [kp_live hx] at h9;cases h9
      rw [e]
      exact ⟨h4,fun ρ hρ=>by rw [h5 ρ hρ,hρ.go t _ hr hm,held_go (Or.inr h7)]⟩
termination_by d=>d
theorem fix_f0 (K:List Bool) (s:Ins):(dead.fix K s).f0=s.f0:=by unfold dead.fix;split <;> rfl
theorem fix_f1 (K:List Bool) (s:Ins):(dead.fix K s).f1=s.f1:=by unfold dead.fix;split <;> rfl
theorem fix_f2 (K:List Bool) (s:Ins):(dead.fix K s).f2=s.f2:=by unfold dead.fix;split <;> rfl
theorem fix_no {K:List Bool} {s:Ins} (h:¬ (s.f0=7∨s.f0=6)):dead.fix K s=s:=by unfold dead.fix;rw [if_neg h]
theorem fix_f3 {c:List Ins} {s:Ins} (h:s.f0=7∨s.f0=6) (h0:0≤s.f3) (h1:s.f3<c.length):(dead.fix (keepB c) s).f3=(pl c s.f3.toNat:Int):=by
  unfold dead.fix dead.look pl
  rw [if_pos h,length_keepB]
  simp only []
  rw [if_pos ⟨h0,h1⟩]
theorem Zo.slimD {c:List Ins} (hv:Zo c):Zo (slimD c):=by
  have hp:=hv.pos
  have hlast:kp c (c.length - 1)=true:=kp_last (by omega)
  have hll:=pl_lt_len (c:=c) (i:=c.length - 1) (by omega) hlast
  have hlen:=slimD_len c
  have hend:pl c c.length=pl c (c.length - 1)+1:=by
    have:=pl_succ (c:=c) (i:=c.length - 1) (by omega)
    rw [hlast,if_pos rfl,show c.length - 1+1=c.length by omega] at this
    exact this
  refine ⟨by omega,by have:=length_slimD c;have:=hv.most;omega,fun j hj=>?_,fun j hj=>?_⟩
  · obtain ⟨i,hi,hk,rfl⟩:=slimD_onto hj
    rw [at_slimD hi hk,fix_f0,fix_f1,fix_f2]
    by_cases ho:(at_ c i).f0=7∨(at_ c i).f0=6
    · obtain ⟨t0,t1⟩:=hv.target hi ho.symm
      rw [fix_f3 ho t0 t1]
      have htl:(at_ c i).f3.toNat<c.length:=by omega
      obtain ⟨_,a2,a3,_⟩:=nk_spec htl
      have:=pl_lt_len a2 a3
      rw [pl_nk htl] at this
      exact ins_index (hv.ins i hi) ho.symm (by omega) (by omega)
    · rw [fix_no ho]
      exact ins_other (hv.ins i hi) (fun h=>ho (Or.inr h)) (fun h=>ho (Or.inl h))
  · obtain ⟨i,hi,hk,rfl⟩:=slimD_onto hj
    rw [at_slimD hi hk,fix_f0,hv.last i hi,hlen,hend]
    constructor
    · intro h
      rw [show i=c.length - 1 by omega]
    · intro h
      have:=pl_inj hk hlast hi (by omega) (by omega)
      omega
theorem slimD_succ {c:List Ins} (hv:Zo c) {i:Nat} (hi:i<c.length) (hk:kp c i=true) {u:Nat} (hu:u ∈ succs (slimD c) (pl c i)):∃ t,t ∈ succs c i∧t<c.length∧u=pl c t:=by
  have e:=at_slimD hi hk
  have e0:(at_ (slimD c) (pl c i)).f0=(at_ c i).f0:=by rw [e,fix_f0]
  have hs:pl c (i+1)=pl c i+1:=by rw [pl_succ hi,hk,if_pos rfl]
  by_cases h7:(at_ c i).f0=7
  · obtain ⟨t0,t1⟩:=hv.target hi (Or.inr h7)
    rw [succ_jump (e0.trans h7),e,fix_f3 (Or.inl h7) t0 t1] at hu
    refine ⟨(at_ c i).f3.toNat,by rw [succ_jump h7];simp,by omega,by simpa using hu⟩
  · have hnx:(at_ c i).f0≠13→i+1<c.length:=fun h=>by
      have:¬ (i+1=c.length):=fun e=>h ((hv.last i hi).2 e)
      omega
    by_cases h6:(at_ c i).f0=6
    · obtain ⟨t0,t1⟩:=hv.target hi (Or.inl h6)
      rw [succ_skip (e0.trans h6),e,fix_f3 (Or.inr h6) t0 t1] at hu
      rcases List.mem_cons.1 hu with rfl|hu
      · exact ⟨i+1,by rw [succ_skip h6];simp,hnx (by omega),hs.symm⟩
      · exact ⟨(at_ c i).f3.toNat,by rw [succ_skip h6];simp,by omega,by simpa using hu⟩
    · by_cases aA:(at_ c i).f0=13
      · rw [succ_end (e0.trans aA)] at hu
        simp at hu
      · rw [succ_plain (by rw [e0];exact aA) (by rw [e0];exact h7) (by rw [e0];exact h6)] at hu
        obtain rfl:u=pl c i+1:=by simpa using hu
        exact ⟨i+1,by rw [succ_plain aA h7 h6];simp,hnx aA,hs.symm⟩
theorem slimD_reach {c:List Ins} (hv:Zo c) {j:Nat} (h:Reach (slimD c) j):∃ i,i<c.length∧kp c i=true∧Reach c i∧pl c i=j:=by
  have step:∀ t,Reach c t→∃ i,i<c.length∧kp c i=true∧Reach c i∧pl c i=pl c t:=fun t ht=>by
    have hl:=hv.reach_lt ht
    obtain ⟨_,a2,a3,_⟩:=nk_spec hl
    exact ⟨nk c t,a2,a3,(nk_reach hv _ t (Nat.add_sub_of_le (Nat.le_of_lt hl)) ht).1,pl_nk hl⟩
  induction h with
  |first=>
    obtain ⟨i,h1,h2,h3,h4⟩:=step 0 Reach.first
    exact ⟨i,h1,h2,h3,by rw [h4,pl_zero]⟩
  |go _ _ ht ih=>
    obtain ⟨i,h1,h2,h3,rfl⟩:=ih
    obtain ⟨t,h4,h5,rfl⟩:=slimD_succ hv h1 h2 ht
    exact step t (Reach.go h3 h1 h4)
open Classical in
theorem Ok.dead {c:List Ins} (h:Ok c):Ok (slimD c):=by
  obtain ⟨hv,ρ,hρ⟩:=h
  have hinv:∀ j,∃ i,∀ i',i'<c.length→kp c i'=true→pl c i'=j→i=i':=fun j=>by
    by_cases hj:∃ i',i'<c.length∧kp c i'=true∧pl c i'=j
    · obtain ⟨i,h1,h2,h3⟩:=hj
      exact ⟨i,fun i' a b e=>pl_inj h2 b h1 a (h3.trans e.symm)⟩
    · exact ⟨0,fun i' a b e=>absurd ⟨i',a,b,e⟩ hj⟩
  have hroom:∀ i,i<c.length→kp c i=true→ρ (hinv (pl c i)).choose=ρ i:=fun i h1 h2=>by
    rw [(hinv (pl c i)).choose_spec i h1 h2 rfl]
  have hplace:∀ t,Reach c t→ρ (hinv (pl c t)).choose=ρ t:=fun t ht=>by
    have hl:=hv.reach_lt ht
    obtain ⟨_,a2,a3,_⟩:=nk_spec hl
    rw [← pl_nk hl,hroom _ a2 a3]
    exact (nk_reach hv _ t (Nat.add_sub_of_le (Nat.le_of_lt hl)) ht).2 ρ hρ
  refine ⟨hv.slimD,fun j=>ρ (hinv j).choose,?_,fun j hr=>?_,fun j u hr hu=>?_⟩
  · have:=hplace 0 Reach.first
    rw [pl_zero] at this
    exact this.trans hρ.zero
  · obtain ⟨i,h1,h2,h3,rfl⟩:=slimD_reach hv hr
    show (held (at_ (slimD c) (pl c i)) (ρ (hinv (pl c i)).choose)).2=true
    rw [hroom i h1 h2,at_slimD h1 h2]
    have:=hρ.ok i h3
    unfold held at this ⊢
    rw [fix_f0,fix_f1]
    exact this
  · obtain ⟨i,h1,h2,h3,rfl⟩:=slimD_reach hv hr
    obtain ⟨t,h4,h5,rfl⟩:=slimD_succ hv h1 h2 hu
    show ρ (hinv (pl c t)).choose=(held (at_ (slimD c) (pl c i)) (ρ (hinv (pl c i)).choose)).1
    rw [hroom i h1 h2,hplace t (Reach.go h3 h1 h4),at_slimD h1 h2]
    have:=hρ.go i t h3 h4
    unfold held at this ⊢
    rw [fix_f0,fix_f1]
    exact this
end Dead
end Go.Proofs.Ytokajnfbiddpjaa.Pure
