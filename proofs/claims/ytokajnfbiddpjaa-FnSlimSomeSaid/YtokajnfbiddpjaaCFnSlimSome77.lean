import Derived.Test.YtokajnfbiddpjaaCFnSlimSome76
namespace Go.Proofs.Ytokajnfbiddpjaa.Pure
open Go.RowKit Go.Proofs.Ytokajnfbiddpjaa.GSlim Go.Proofs.YtokajnfbiddpjaaW.PrintWords Go.Proofs.YtokajnfbiddpjaaW.PrintLast Go.Proofs.YtokajnfbiddpjaaW.PrintMore Go.Proofs.Ytokajnfbiddpjaa.Evt Go.Proofs.Ytokajnfbiddpjaa.HForms
set_option linter.unusedVariables false
set_option linter.unusedSimpArgs false
def sh (s:Ins):Ins:=if s.f0=7∨s.f0=6 then ⟨s.f0,s.f1,s.f2,s.f3+1⟩ else s
def more (c:List Ins):List Ins:=⟨7,0,0,1⟩ :: c.map sh
theorem Vp (c:List Ins):(more c).length=c.length+1:=by simp [more]
theorem at_more0 (c:List Ins):at_ (more c) 0=⟨7,0,0,1⟩:=by rw [at_lt (by rw [Vp];omega)];rfl
theorem at_more {c:List Ins} {i:Nat} (hi:i<c.length):at_ (more c) (i+1)=sh (at_ c i):=by
  rw [at_lt (by rw [Vp];omega),at_lt hi]
  simp [more]
theorem sh_f0 (s:Ins):(sh s).f0=s.f0:=by unfold sh;split <;> rfl
theorem sh_f1 (s:Ins):(sh s).f1=s.f1:=by unfold sh;split <;> rfl
theorem sh_f2 (s:Ins):(sh s).f2=s.f2:=by unfold sh;split <;> rfl
theorem sh_f3 {s:Ins} (h:s.f0=7∨s.f0=6):(sh s).f3=s.f3+1:=by unfold sh;rw [if_pos h]
theorem sh_no {s:Ins} (h:¬ (s.f0=7∨s.f0=6)):sh s=s:=by unfold sh;rw [if_neg h]
theorem succ_more0 (c:List Ins):succs (more c) 0=[1]:=by rw [succ_jump (by rw [at_more0]),at_more0];rfl
theorem succ_more {c:List Ins} (hv:Zo c) {i:Nat} (hi:i<c.length):succs (more c) (i+1)=(succs c i).map (· + 1):=by
  have e:=at_more hi
  have e0:(at_ (more c) (i+1)).f0=(at_ c i).f0:=by rw [e,sh_f0]
  by_cases h7:(at_ c i).f0=7
  · obtain ⟨t0,t1⟩:=hv.target hi (Or.inr h7)
    rw [succ_jump (e0.trans h7),succ_jump h7,e,sh_f3 (Or.inl h7)]
    simp only [List.map_cons,List.map_nil,List.cons.injEq,and_true]
    omega
  by_cases h6:(at_ c i).f0=6
  · obtain ⟨t0,t1⟩:=hv.target hi (Or.inl h6)
    rw [succ_skip (e0.trans h6),succ_skip h6,e,sh_f3 (Or.inr h6)]
    simp only [List.map_cons,List.map_nil,List.cons.injEq,and_true,true_and]
    omega
  by_cases aA:(at_ c i).f0=13
  · rw [succ_end (e0.trans aA),succ_end aA];rfl
  · rw [succ_plain (by rw [e0];exact aA) (by rw [e0];exact h7) (by rw [e0];exact h6),succ_plain aA h7 h6];rfl
theorem more_reach {c:List Ins} (hv:Zo c) {i:Nat} (h:Reach c i):Reach (more c) (i+1):=by
  induction h with
  |first=>exact Reach.go Reach.first (by rw [Vp];omega) (by rw [succ_more0];simp)
  |@go i t hr hi ht ih=>exact Reach.go ih (by rw [Vp];omega) (by rw [succ_more hv hi];exact List.mem_map.2 ⟨t,ht,rfl⟩)
theorem reach_more {c:List Ins} (hv:Zo c) {j:Nat} (h:Reach (more c) j):j=0∨∃ i,j=i+1∧Reach c i:=by
  induction h with
  |first=>exact Or.inl rfl
  |@go j t hr hj ht ih=>
    rcases ih with rfl|⟨i,rfl,hi⟩
    · rw [succ_more0] at ht
      obtain rfl:t=1:=by simpa using ht
      exact Or.inr ⟨0,rfl,Reach.first⟩
    · have hil:=hv.reach_lt hi
      rw [succ_more hv hil] at ht
      obtain ⟨u,hu,rfl⟩:=List.mem_map.1 ht
      exact Or.inr ⟨u,rfl,Reach.go hi hil hu⟩
theorem more_iff {c:List Ins} (hv:Zo c) (i:Nat):Reach (more c) (i+1)↔Reach c i:=
  ⟨fun h=>by
    rcases reach_more hv h with h|⟨k,e,hk⟩
    · omega
    · rw [show i=k by omega];exact hk,more_reach hv⟩
theorem Ok.more {c:List Ins} (h:Ok c) (hl:c.length≤59):Ok (more c):=by
  obtain ⟨hv,ρ,hρ⟩:=h
  have hp:=hv.pos
  have hlen:=Vp c
  refine ⟨⟨by omega,by omega,fun i hi=>?_,fun i hi=>?_⟩,fun j=>match j with|0=>0|i+1=>ρ i,rfl,fun j hr=>?_,fun j t hr ht=>?_⟩
  · cases i with
    |zero=>
      rw [at_more0,insF_cases]
      simp [Zr,Zq]
      omega
    |succ i=>
      have hi':i<c.length:=by omega
      rw [at_more hi',sh_f0,sh_f1,sh_f2]
      have hin:=hv.ins i hi'
      by_cases ho:(at_ c i).f0=7∨(at_ c i).f0=6
      · obtain ⟨t0,t1⟩:=hv.target hi' ho.symm
        rw [sh_f3 ho]
        exact ins_index hin ho.symm (by omega) (by omega)
      · rw [sh_no ho]
        exact ins_other hin (fun h=>ho (Or.inr h)) (fun h=>ho (Or.inl h))
  · cases i with
    |zero=>rw [at_more0];exact ⟨fun h=>(by cases h),fun h=>by omega⟩
    |succ i=>
      have hi':i<c.length:=by omega
      rw [at_more hi',sh_f0,hv.last i hi']
      omega
  · rcases reach_more hv hr with rfl|⟨i,rfl,hi⟩
    · rw [at_more0];rfl
    · rw [at_more (hv.reach_lt hi)]
      have:held (sh (at_ c i)) (ρ i)=held (at_ c i) (ρ i):=by unfold held;rw [sh_f0,sh_f1]
      show (held (sh (at_ c i)) (ρ i)).2=true
      rw [this]
      exact hρ.ok i hi
  · rcases reach_more hv hr with rfl|⟨i,rfl,hi⟩
    · rw [succ_more0] at ht
      obtain rfl:t=1:=by simpa using ht
      rw [at_more0]
      show ρ 0=_
      rw [hρ.zero];rfl
    · have hil:=hv.reach_lt hi
      rw [succ_more hv hil] at ht
      obtain ⟨u,hu,rfl⟩:=List.mem_map.1 ht
      rw [at_more hil]
      have:held (sh (at_ c i)) (ρ i)=held (at_ c i) (ρ i):=by unfold held;rw [sh_f0,sh_f1]
      show ρ u=(held (sh (at_ c i)) (ρ i)).1
      rw [this]
      exact hρ.go i u hi hu
theorem fol_shift {c:List Ins} (hv:Zo c):∀ (d u:Nat),u<c.length→fol (more c) d (u+1)=(fol c d u).map (· + 1)
  |0,u,_=>rfl
  |d+1,u,hu=>by
    rw [fol,fol,at_more hu,sh_f0]
    by_cases h7:(at_ c u).f0=7
    · obtain ⟨t0,t1⟩:=hv.target hu (Or.inr h7)
      rw [if_pos h7,if_pos h7,sh_f3 (Or.inl h7),show ((at_ c u).f3+1).toNat=(at_ c u).f3.toNat+1 by omega]
      exact fol_shift hv d _ (by omega)
    · rw [if_neg h7,if_neg h7];rfl
theorem fol_next {c:List Ins} (hv:Zo c) {u:Nat} (hu:u<c.length):fol c (c.length+1+1) u=fol c (c.length+1) u:=by
  cases h:fol c (c.length+1) u with
  |none=>exact fol_ever hv hu h _
  |some t=>exact fol_more _ _ _ h 1
theorem jmp_more {c:List Ins} (hv:Zo c) {s:Ins} (hs:s.f0=7∨s.f0=6→0≤s.f3∧s.f3<(c.length:Int)):jmp (more c) (sh s)=sh (jmp c s):=by
  by_cases ho:s.f0=7∨s.f0=6
  · obtain ⟨t0,t1⟩:=hs ho
    have e:(sh s)=⟨s.f0,s.f1,s.f2,s.f3+1⟩:=by unfold sh;rw [if_pos ho]
    have e2:jmp c s=⟨s.f0,s.f1,s.f2,(((fol c (c.length+1) s.f3.toNat).getD s.f3.toNat:Nat):Int)⟩:=by unfold jmp;rw [if_pos ho]
    rw [e,e2]
    unfold jmp sh
    simp only []
    rw [if_pos ho,if_pos ho,Vp,show (s.f3+1).toNat=s.f3.toNat+1 by omega,fol_shift hv _ _ (by omega),fol_next hv (by omega)]
    cases fol c (c.length+1) s.f3.toNat <;> rfl
  · rw [sh_no ho,jmp_no ho,jmp_no ho,sh_no ho]
theorem slimJ_more {c:List Ins} (hv:Zo c) (h0:(at_ c 0).f0≠7):slimJ (more c)=more (slimJ c):=by
  have hp:=hv.pos
  have ej:jmp (more c) ⟨7,0,0,1⟩=⟨7,0,0,1⟩:=by
    unfold jmp
    rw [if_pos (Or.inl rfl)]
    have:fol (more c) ((more c).length+1) ((1:Int).toNat)=some 1:=by
      show fol (more c) ((more c).length+1) (0+1)=some 1
      rw [fol_shift hv _ _ (by omega),fol,if_neg h0];rfl
    rw [this];rfl
  show jmp (more c) ⟨7,0,0,1⟩ :: (c.map sh).map (jmp (more c))=⟨7,0,0,1⟩ :: (c.map (jmp c)).map sh
  rw [ej,List.map_map,List.map_map]
  congr 1
  refine List.map_congr_left (fun s hs=>?_)
  obtain ⟨i,hi,rfl⟩:=hv.mem hs
  exact jmp_more hv (fun ho=>hv.target hi ho.symm)
theorem nxt_shift {p q:Nat→Bool} (h:∀ j,q (j+1)=p j):∀ d k,nxt q d (k+1)=nxt p d k+1
  |0,k=>rfl
  |d+1,k=>by
    unfold nxt
    rw [h k]
    cases p k
    · exact nxt_shift h d (k+1)
    · rfl
open Classical in
theorem lv_more {c:List Ins} (hv:Zo c) (j:Nat):lv (more c) (j+1)=lv c j:=by
  unfold lv
  have e:(j+1+1=c.length+1)↔(j+1=c.length):=by omega
  rw [decide_eq_decide,more_iff hv,Vp,e]
open Classical in
theorem kp_more {c:List Ins} (hv:Zo c) {i:Nat} (hi:i<c.length):kp (more c) (i+1)=kp c i:=by
  have hn:nx (more c) (i+1)=nx c i+1:=by
    unfold nx
    rw [Vp,show c.length+1 - 1 - (i+1+1)=c.length - 1 - (i+1) by omega]
    exact nxt_shift (lv_more hv) _ _
  unfold kp
  rw [decide_eq_decide,more_iff hv,Vp,at_more hi,sh_f0,hn]
  have e:((at_ c i).f0=7∧(sh (at_ c i)).f3=((nx c i+1:Nat):Int))↔((at_ c i).f0=7∧(at_ c i).f3=(nx c i:Int)):=by
    constructor
    · rintro ⟨a,b⟩;rw [sh_f3 (Or.inl a)] at b;exact ⟨a,by omega⟩
    · rintro ⟨a,b⟩;exact ⟨a,by rw [sh_f3 (Or.inl a)];omega⟩
  have e2:(i+1+1=c.length+1)↔(i+1=c.length):=by omega
  rw [e,e2]
open Classical in
theorem kp_more0 {c:List Ins} (hv:Zo c):kp (more c) 0=false:=by
  have hp:=hv.pos
  have h1:lv (more c) 1=true:=lv_reach (more_reach hv Reach.first)
  have hn:nx (more c) 0=1:=by
    unfold nx
    refine nxt_eq _ _ _ 1 (by omega) (by omega) (fun j a b=>by omega) h1 (lv_last ?_)
    rw [Vp];omega
  refine decide_eq_false ?_
  rw [Vp,at_more0,hn]
  rintro (h|⟨_,h⟩)
  · omega
  · exact h ⟨rfl,rfl⟩
theorem keepB_more {c:List Ins} (hv:Zo c):keepB (more c)=false :: keepB c:=by
  unfold keepB tabB
  rw [Vp,List.range_succ_eq_map,List.map_cons,List.map_map,kp_more0 hv]
  congr 1
  exact List.map_congr_left (fun i hi=>kp_more hv (List.mem_range.1 hi))
theorem fix_more (K:List Bool) (s:Ins):dead.fix (false :: K) (sh s)=dead.fix K s:=by
  by_cases ho:s.f0=7∨s.f0=6
  · have e:(sh s)=⟨s.f0,s.f1,s.f2,s.f3+1⟩:=by unfold sh;rw [if_pos ho]
    rw [e]
    unfold dead.fix
    simp only []
    rw [if_pos ho,if_pos ho]
    have:dead.look (false :: K) (s.f3+1)=dead.look K s.f3:=by
      unfold dead.look dead.cnt
      rw [List.length_cons]
      by_cases h:0≤s.f3∧s.f3<(K.length:Int)
      · rw [if_pos (by omega),if_pos h,show (s.f3+1).toNat=s.f3.toNat+1 by omega,List.take_succ_cons,List.countP_cons]
        simp
      · rw [if_neg h]
        by_cases h2:0≤s.f3+1∧s.f3+1<((K.length+1:Nat):Int)
        · rw [if_pos h2,show (s.f3+1).toNat=0 by omega];rfl
        · rw [if_neg h2]
    rw [this]
  · rw [sh_no ho,fix_no ho,fix_no ho]
theorem out_more (K:List Bool):∀ (l:List Ins) (ks:List Bool),dead.out (false :: K) (l.map sh) ks=dead.out K l ks
  |[],ks=>by simp only [List.map_nil,dead.out]
  |s :: l,[]=>by simp only [List.map_cons,dead.out]
  |s :: l,b :: ks=>by
    simp only [List.map_cons,dead.out]
    rw [out_more K l ks,fix_more]
theorem slimD_more {c:List Ins} (hv:Zo c):slimD (more c)=slimD c:=by
  unfold slimD
  rw [keepB_more hv]
  unfold more
  rw [dead.out,if_neg (by simp),out_more]
theorem pass2_more {c:List Ins} (h:Ok c) (h0:(at_ c 0).f0≠7):pass2 (more c)=pass2 c:=by
  unfold pass2
  rw [slimJ_more h.1 h0,slimD_more h.1.slimJ]
open Classical in
theorem slimN_more {c:List Ins} (h:Ok c) (h0:(at_ c 0).f0≠7):slimN 60 (more c)=slimN 60 c:=by
  have hl:=length_pass2 c
  have hne:¬ pass2 (more c)=more c:=fun e=>by
    have:=congrArg List.length e
    rw [pass2_more h h0,Vp] at this
    omega
  have s1:slimN 60 (more c)=slimN 59 (pass2 c):=by
    show slimN (59+1) (more c)=_
    rw [slimN,if_neg hne,pass2_more h h0]
  have s2:slimN 60 c=if pass2 c=c then c else slimN 59 (pass2 c):=by
    show slimN (59+1) c=_
    rw [slimN]
  rw [s1,s2]
  by_cases hc:pass2 c=c
  · rw [if_pos hc,hc];exact slimN_fixed hc 59
  · rw [if_neg hc]
end Go.Proofs.Ytokajnfbiddpjaa.Pure
