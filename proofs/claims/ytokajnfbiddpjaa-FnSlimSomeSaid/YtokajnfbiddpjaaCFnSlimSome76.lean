import Derived.Test.YtokajnfbiddpjaaCFnSlimSome71
import Derived.Test.YtokajnfbiddpjaaCFnSlimSome69
import Derived.Test.YtokajnfbiddpjaaCFnSlimSome59
import Derived.Test.YtokajnfbiddpjaaCFnSlimSome52
import Derived.Test.YtokajnfbiddpjaaCFnSlimSome45
import Derived.Test.YtokajnfbiddpjaaCFnSlimSome60
namespace Go.Proofs.Ytokajnfbiddpjaa.Pure
open Go.RowKit Go.Proofs.Ytokajnfbiddpjaa.GSlim Go.Proofs.YtokajnfbiddpjaaW.PrintWords Go.Proofs.YtokajnfbiddpjaaW.PrintLast Go.Proofs.YtokajnfbiddpjaaW.PrintMore Go.Proofs.Ytokajnfbiddpjaa.Evt Go.Proofs.Ytokajnfbiddpjaa.HForms
set_option linter.unusedVariables false
set_option linter.unusedSimpArgs false
def node (c:List Ins) (u:Nat):Nat→Nat
  |0=>u
  |k+1=>(at_ c (node c u k)).f3.toNat
theorem node_succ (c:List Ins) (u:Nat):∀ k,node c u (k+1)=node c (at_ c u).f3.toNat k
  |0=>rfl
  |k+1=>by
    show (at_ c (node c u (k+1))).f3.toNat=_
    rw [node_succ c u k]
    rfl
theorem fol_none (c:List Ins):∀ (d u:Nat),fol c d u=none↔∀ k,k<d→(at_ c (node c u k)).f0=7
  |0,u=>by simp [fol]
  |d+1,u=>by
    rw [fol]
    by_cases h7:(at_ c u).f0=7
    · rw [if_pos h7,fol_none c d]
      constructor
      · intro h k hk
        cases k with
        |zero=>exact h7
        |succ k=>rw [node_succ];exact h k (by omega)
      · intro h k hk
        have:=h (k+1) (by omega)
        rwa [node_succ] at this
    · rw [if_neg h7]
      constructor
      · intro h;cases h
      · intro h;exact absurd (h 0 (by omega)) h7
theorem node_again {c:List Ins} {u a b:Nat} (h:node c u a=node c u b):∀ m,node c u (a+m)=node c u (b+m)
  |0=>h
  |m+1=>by
    show (at_ c (node c u (a+m))).f3.toNat=(at_ c (node c u (b+m))).f3.toNat
    rw [node_again h m]
theorem fol_ever {c:List Ins} (hv:Zo c) {u:Nat} (hu:u<c.length) (h:fol c (c.length+1) u=none):∀ d,fol c d u=none:=by
  rw [fol_none] at h
  have hlt:∀ k,k≤c.length→node c u k<c.length:=fun k=>by
    induction k with
    |zero=>intro _;exact hu
    |succ k ih=>
      intro hk
      obtain ⟨t0,t1⟩:=hv.target (ih (by omega)) (Or.inr (h k (by omega)))
      show (at_ c (node c u k)).f3.toNat<_
      omega
  have hrep:∃ a b,a<b∧b≤c.length∧node c u a=node c u b:=by
    refine Classical.byContradiction (fun hn=>?_)
    have hne:∀ a b,a<b→b≤c.length→node c u a≠node c u b:=fun a b h1 h2 h3=>hn ⟨a,b,h1,h2,h3⟩
    have hnd:((List.range (c.length+1)).map (fun k=>((node c u k:Nat):Int))).Nodup:=by
      unfold List.Nodup
      rw [List.pairwise_map]
      refine List.Pairwise.imp_of_mem (R:=fun a b=>a<b) (fun {a b} _ hb hab=>?_) List.pairwise_lt_range
      have:=hne a b hab (by have:=List.mem_range.1 hb;omega)
      omega
    have:=nodup_le c.length _ hnd (fun x hx=>by
      obtain ⟨k,hk,rfl⟩:=List.mem_map.1 hx
      have:=hlt k (by have:=List.mem_range.1 hk;omega)
      omega)
    simp at this
    omega
  obtain ⟨a,b,hab,hb,he⟩:=hrep
  have hall:∀ k,(at_ c (node c u k)).f0=7:=fun k=>by
    induction k using Nat.strongRecOn with
    |_ k ih=>
      by_cases hk:k<c.length+1
      · exact h k hk
      · have e:=node_again he (k - b)
        rw [show b+(k - b)=k by omega] at e
        rw [← e]
        exact ih _ (by omega)
  intro d
  rw [fol_none]
  exact fun k _=>hall k
end Go.Proofs.Ytokajnfbiddpjaa.Pure
namespace Go.Proofs.Ytokajnfbiddpjaa.Pure
open Go.RowKit Go.Proofs.Ytokajnfbiddpjaa.GSlim Go.Proofs.YtokajnfbiddpjaaW.PrintWords Go.Proofs.YtokajnfbiddpjaaW.PrintLast Go.Proofs.YtokajnfbiddpjaaW.PrintMore Go.Proofs.Ytokajnfbiddpjaa.Evt Go.Proofs.Ytokajnfbiddpjaa.HForms
set_option linter.unusedVariables false
set_option linter.unusedSimpArgs false
theorem Ins.ext4 {s t:Ins} (h0:s.f0=t.f0) (h1:s.f1=t.f1) (h2:s.f2=t.f2) (h3:s.f3=t.f3):s=t:=by
  cases s;cases t;simp_all
theorem Ins.ne4 (s t:Ins):((!(s.f0 == t.f0)||(!(s.f1 == t.f1)||(!(s.f2 == t.f2)||(!(s.f3 == t.f3)))))=true)↔s≠t:=by
  constructor
  · intro h e
    subst e
    simp at h
  · intro h
    cases hx:(!(s.f0 == t.f0)||(!(s.f1 == t.f1)||(!(s.f2 == t.f2)||(!(s.f3 == t.f3))))) with
    |true=>rfl
    |false=>
      simp at hx
      exact absurd (Ins.ext4 hx.1 hx.2.1 hx.2.2.1 hx.2.2.2) h
theorem code_ext {a b:List Ins} (h:a.length=b.length) (h2:∀ i,i<a.length→at_ a i=at_ b i):a=b:=by
  apply List.ext_getElem h
  intro i h3 h4
  have:=h2 i h3
  rwa [at_lt h3,at_lt h4] at this
theorem equal_loop (a b:List Ins) (hl:a.length=b.length) (hm:a.length≤4398046511104):∀ (d j:Nat),j+d=a.length→
    ∃ r,Evt (fun k=>Zw.l0 k a b (a.length:Int) (j:Int)) r∧Evt (fun k=>Zt.l0 k a b (j:Int)) r∧(r=true↔∀ i,j≤i→i<a.length→at_ a i=at_ b i)
  |0,j,h=>by
    refine ⟨true,Evt.step ?_,Evt.step ?_,⟨fun _ i h1 h2=>by omega,fun _=>rfl⟩⟩
    · simp only [Zw.l0]
      exact Evt.neg (by omega) (Evt.pure _)
    · simp only [Zt.l0]
      exact Evt.neg (by omega) (Evt.pure _)
  |d+1,j,h=>by
    by_cases he:at_ a j=at_ b j
    · obtain ⟨r,h1,h2,h3⟩:=equal_loop a b hl hm d (j+1) (by omega)
      have hn:=fun h=>(Ins.ne4 (at_ a j) (at_ b j)).1 h he
      refine ⟨r,Evt.step ?_,Evt.step ?_,h3.trans ⟨fun h i h1 h2=>?_,fun h i h1 h2=>h i (by omega) h2⟩⟩
      · simp only [Zw.l0,rdA]
        refine Evt.pos (by omega) (Evt.pos (by omega) (Evt.pos (by omega) (Evt.pos (by omega) (Evt.neg hn ?_))))
        rw [w64n j (by omega)];exact h1
      · simp only [Zt.l0,rdA]
        refine Evt.pos (by omega) (Evt.pos (by omega) (Evt.pos (by omega) (Evt.neg hn ?_)))
        rw [w64n j (by omega)];exact h2
      · rcases Nat.eq_or_lt_of_le h1 with rfl|hlt
        · exact he
        · exact h i hlt h2
    · have hn:=(Ins.ne4 (at_ a j) (at_ b j)).2 he
      refine ⟨false,Evt.step ?_,Evt.step ?_,(fun h=>by cases h),fun h=>absurd (h j (Nat.le_refl j) (by omega)) he⟩
      · simp only [Zw.l0,rdA]
        exact Evt.pos (by omega) (Evt.pos (by omega) (Evt.pos (by omega) (Evt.pos (by omega) (Evt.pos hn (Evt.pure _)))))
      · simp only [Zt.l0,rdA]
        exact Evt.pos (by omega) (Evt.pos (by omega) (Evt.pos (by omega) (Evt.pos hn (Evt.pure _))))
theorem codeSame_both (a b:List Ins) (hm:a.length≤4398046511104):∃ r,Evt (fun k=>Zw.f k a b) r∧Evt (fun k=>Zt.f k a b) r∧Evt (fun k=>Zj.f k a b) r∧(r=true↔a=b):=by
  have fin:∀ r,Evt (fun k=>Zw.f k a b) r→Evt (fun k=>Zj.f k a b) r:=fun r h=>by
    unfold Zj.f
    exact Evt.bind h (Evt.pure _)
  by_cases hl:a.length=b.length
  · obtain ⟨r,h1,h2,h3⟩:=equal_loop a b hl hm a.length 0 (by omega)
    have e1:Evt (fun k=>Zw.f k a b) r:=by
      unfold Zw.f
      exact Evt.pos (by omega) h1
    refine ⟨r,e1,?_,fin r e1,h3.trans ⟨fun h=>code_ext hl (fun i hi=>h i (by omega) hi),fun h i _ _=>by rw [h]⟩⟩
    unfold Zt.f
    exact Evt.pos (by omega) h2
  · have e1:Evt (fun k=>Zw.f k a b) false:=by
      unfold Zw.f
      exact Evt.neg (by omega) (Evt.pure _)
    refine ⟨false,e1,?_,fin _ e1,(fun h=>by cases h),fun h=>absurd (by rw [h]) hl⟩
    unfold Zt.f
    exact Evt.neg (by omega) (Evt.pure _)
end Go.Proofs.Ytokajnfbiddpjaa.Pure
namespace Go.Proofs.Ytokajnfbiddpjaa.Pure
open Go.RowKit Go.Proofs.Ytokajnfbiddpjaa.GSlim Go.Proofs.YtokajnfbiddpjaaW.PrintWords Go.Proofs.YtokajnfbiddpjaaW.PrintLast Go.Proofs.YtokajnfbiddpjaaW.PrintMore Go.Proofs.Ytokajnfbiddpjaa.Evt Go.Proofs.Ytokajnfbiddpjaa.HForms
set_option linter.unusedVariables false
set_option linter.unusedSimpArgs false
noncomputable def pass2 (c:List Ins):List Ins:=slimD (slimJ c)
open Classical in
noncomputable def slimN:Nat→List Ins→List Ins
  |0,c=>c
  |d+1,c=>if pass2 c=c then c else slimN d (pass2 c)
theorem Ok.pass2 {c:List Ins} (h:Ok c):Ok (pass2 c):=h.jumps.dead
theorem length_pass2 (c:List Ins):(pass2 c).length≤c.length:=by
  have:=length_slimD (slimJ c)
  rw [length_slimJ] at this
  exact this
theorem Ok.code {c:List Ins} (h:Ok c):Evt (fun k=>Yw.f k c) true∧Evt (fun k=>Yb.f k c) true∧∃ rs,Evt (fun k=>Xp.f k c) (rs,true)∧Good c rs:=by
  obtain ⟨hv,ρ,hρ⟩:=h
  have:=hv.most
  obtain ⟨b,h1,h2,h3,h4⟩:=codeOk_both c (by omega)
  obtain rfl:=h4 ρ hv hρ
  exact ⟨h1,h2,(h3 rfl).2⟩
theorem code_ok (c:List Ins) (hl:c.length≤1048576):(Ok c∧Evt (fun k=>Yw.f k c) true∧Evt (fun k=>Yb.f k c) true)∨(Evt (fun k=>Yw.f k c) false∧Evt (fun k=>Yb.f k c) false):=by
  obtain ⟨b,h1,h2,h3,h4⟩:=codeOk_both c hl
  cases b with
  |false=>exact Or.inr ⟨h1,h2⟩
  |true=>
    obtain ⟨hv,rs,_,hg⟩:=h3 rfl
    exact Or.inl ⟨⟨hv,_,hg.2.2.2⟩,h1,h2⟩
theorem spec_jumps_ev {c:List Ins} (h:Ok c):Evt (fun k=>Yx.f k c) (slimJ c):=by
  obtain ⟨_,h2,_⟩:=h.code
  have hm:=h.1.most
  unfold Yx.f
  refine Evt.bind h2 (Evt.pos rfl ?_)
  simp only [Option.bind_some]
  exact Evt.pos (by simp;omega) (spec_jumps_loop h.1 c [] rfl)
theorem spec_dead_ev {c:List Ins} (h:Ok c):Evt (fun k=>Vy.f k c) (slimD c):=by
  obtain ⟨_,h2,rs,h3,h4⟩:=h.code
  exact spec_slimDead_ev h.1 h2 h3 h4
theorem impl_jumps_ev {c:List Ins} (h:Ok c):Evt (fun k=>Ya.f k c) (slimJ c):=by
  have hm:=h.1.most
  unfold Ya.f impl_Ins_16.f
  rw [if_pos (by omega)]
  exact impl_jumps_loop h.1 c [] rfl
open Classical in
theorem impl_go_ev:∀ (d:Nat) (c:List Ins),Ok c→Evt (fun k=>slim.go k d c) (slimN d c)
  |0,c,h=>Evt.pure _
  |d+1,c,h=>by
    have hm:=h.pass2.1.most
    obtain ⟨r,e1,_,_,e3⟩:=codeSame_both (pass2 c) c (by omega)
    have hs:Evt (fun k=>slim.step k c) (pass2 c):=by
      unfold slim.step
      exact Evt.bind (impl_jumps_ev h) (impl_slimDead_ev h.jumps.1)
    simp only [slim.go,slimN]
    refine Evt.bind hs (Evt.bind e1 ?_)
    by_cases he:pass2 c=c
    · rw [if_pos he]
      exact Evt.pos (e3.2 he) (Evt.pure _)
    · rw [if_neg he]
      exact Evt.neg (fun h=>he (e3.1 h)) (impl_go_ev d _ h.pass2)
open Classical in
theorem spec_go_ev:∀ (d j:Nat) (c:List Ins),j+d=60→Ok c→Evt (fun k=>Zu.l0 k c (j:Int)) (slimN d c)
  |0,j,c,hj,h=>by
    refine Evt.step ?_
    simp only [Zu.l0,slimN]
    exact Evt.neg (by omega) (Evt.pure _)
  |d+1,j,c,hj,h=>by
    have hm:=h.pass2.1.most
    obtain ⟨r,_,e2,_,e3⟩:=codeSame_both (pass2 c) c (by omega)
    refine Evt.step ?_
    simp only [Zu.l0,slimN]
    refine Evt.pos (by omega) (Evt.bind (spec_jumps_ev h) (Evt.bind (spec_dead_ev h.jumps) (Evt.bind e2 ?_)))
    by_cases he:pass2 c=c
    · rw [if_pos he]
      refine Evt.pos (e3.2 he) ?_
      show Evt (fun k=>some (pass2 c)) c
      rw [he]
      exact Evt.pure _
    · rw [if_neg he,w64n j (by omega)]
      exact Evt.neg (fun h=>he (e3.1 h)) (spec_go_ev d (j+1) _ (by omega) h.pass2)
open Classical in
theorem length_slimN:∀ (d:Nat) (c:List Ins),(slimN d c).length≤c.length
  |0,c=>Nat.le_refl _
  |d+1,c=>by
    rw [slimN]
    split
    · exact Nat.le_refl _
    · exact Nat.le_trans (length_slimN d _) (length_pass2 c)
theorem slim_both (c:List Ins) (hl:c.length≤1048576):∃ r,Evt (fun k=>impl_Slim.f k c) r∧Evt (fun k=>Zu.f k c) r∧r.length≤60∧((Ok c∧Evt (fun k=>Yb.f k c) true∧r=slimN 60 c)∨(r=[]∧Evt (fun k=>Yb.f k c) false)):=by
  rcases code_ok c hl with ⟨h,h1,h2⟩|⟨h1,h2⟩
  · have hm:=h.1.most
    refine ⟨slimN 60 c,?_,?_,by have:=length_slimN 60 c;omega,Or.inl ⟨h,h2,rfl⟩⟩
    · unfold impl_Slim.f impl_Ins_16.f
      rw [if_pos (show c.length<4398046511104 by omega)]
      exact Evt.bind h1 (Evt.pos rfl (impl_go_ev 60 c h))
    · unfold Zu.f
      exact Evt.bind h2 (Evt.pos rfl (spec_go_ev 60 0 c (by omega) h))
  · refine ⟨[],?_,?_,by simp,Or.inr ⟨rfl,h2⟩⟩
    · unfold impl_Slim.f
      exact Evt.bind h1 (Evt.neg (by simp) (Evt.pure _))
    · unfold Zu.f
      exact Evt.bind h2 (Evt.neg (by simp) (Evt.pure _))
end Go.Proofs.Ytokajnfbiddpjaa.Pure
namespace Go.Proofs.Ytokajnfbiddpjaa.Pure
open Go.RowKit Go.Proofs.Ytokajnfbiddpjaa.GSlim Go.Proofs.YtokajnfbiddpjaaW.PrintWords Go.Proofs.YtokajnfbiddpjaaW.PrintLast Go.Proofs.YtokajnfbiddpjaaW.PrintMore Go.Proofs.Ytokajnfbiddpjaa.Evt Go.Proofs.Ytokajnfbiddpjaa.HForms
set_option linter.unusedVariables false
set_option linter.unusedSimpArgs false
open Classical in
theorem slimN_fixed {c:List Ins} (h:pass2 c=c):∀ d,slimN d c=c
  |0=>rfl
  |d+1=>by rw [slimN,if_pos h]
end Go.Proofs.Ytokajnfbiddpjaa.Pure
namespace Go.Proofs.Ytokajnfbiddpjaa.Pure
open Go.RowKit Go.Proofs.Ytokajnfbiddpjaa.GSlim Go.Proofs.YtokajnfbiddpjaaW.PrintWords Go.Proofs.YtokajnfbiddpjaaW.PrintLast Go.Proofs.YtokajnfbiddpjaaW.PrintMore Go.Proofs.Ytokajnfbiddpjaa.Evt Go.Proofs.Ytokajnfbiddpjaa.HForms
set_option linter.unusedVariables false
set_option linter.unusedSimpArgs false
def Like (s t:Ins):Prop:=t.f0=s.f0∧t.f1=s.f1∧t.f2=s.f2∧(s.f0≠6→s.f0≠7→t.f3=s.f3)
inductive Vr:List Ins→List Ins→Prop
  |nil:Vr [] []
  |same {s t:Ins} {c x:List Ins}:Like s t→Vr c x→Vr (s :: c) (t :: x)
  |drop {s:Ins} {c x:List Ins}:s.f0=7→Vr c x→Vr (s :: c) x
theorem Like.refl (s:Ins):Like s s:=⟨rfl,rfl,rfl,fun _ _=>rfl⟩
theorem Like.trans {s t u:Ins} (h:Like s t) (h':Like t u):Like s u:=⟨h'.1.trans h.1,h'.2.1.trans h.2.1,h'.2.2.1.trans h.2.2.1,fun a b=>(h'.2.2.2 (by rw [h.1];exact a) (by rw [h.1];exact b)).trans (h.2.2.2 a b)⟩
theorem Vr.refl:∀ c,Vr c c
  |[]=>.nil
  |s :: c=>.same (.refl s) (Vr.refl c)
theorem Vr.trans {a b:List Ins} (h:Vr a b):∀ {c},Vr b c→Vr a c:=by
  induction h with
  |nil=>intro c h;exact h
  |same hs h1 ih=>
    intro c h
    cases h with
    |same ht h2=>exact .same (hs.trans ht) (ih h2)
    |drop ht h2=>exact .drop (by rw [← hs.1];exact ht) (ih h2)
  |drop hs h1 ih=>intro c h;exact .drop hs (ih h)
def NJ (c:List Ins):Prop:=∀ i,i<c.length→(at_ c i).f0≠7→Reach c i
theorem fol_more {c:List Ins}:∀ (d u t:Nat),fol c d u=some t→∀ e,fol c (d+e) u=some t
  |0,u,t,h,e=>by simp [fol] at h
  |d+1,u,t,h,e=>by
    rw [show d+1+e=d+e+1 by omega,fol]
    rw [fol] at h
    split at h
    · rename_i h7;rw [if_pos h7];exact fol_more d _ t h e
    · rename_i h7;rw [if_neg h7];exact h
theorem fol_is {c:List Ins} (hv:Zo c) {u d t:Nat} (hu:u<c.length) (h:fol c d u=some t):fol c (c.length+1) u=some t:=by
  cases hf:fol c (c.length+1) u with
  |none=>rw [fol_ever hv hu hf d] at h;cases h
  |some t'=>
    have h1:=fol_more _ _ _ h (c.length+1)
    have h2:=fol_more _ _ _ hf d
    rw [Nat.add_comm] at h2
    rw [← h1,h2]
theorem goal_is {c:List Ins} (hv:Zo c) {i d t:Nat} (hi:i<c.length) (ho:(at_ c i).f0=7∨(at_ c i).f0=6) (h:fol c d (at_ c i).f3.toNat=some t):goal c (at_ c i)=t:=by
  obtain ⟨t0,t1⟩:=hv.target hi ho.symm
  unfold goal
  rw [fol_is hv (by omega) h]
  rfl
theorem short_fol {c:List Ins} (hv:Zo c) {p:Nat} (hr:Reach (slimJ c) p):∀ d t,fol c d p=some t→Reach (slimJ c) t
  |0,t,h=>by simp [fol] at h
  |d+1,t,h=>by
    have hi:p<c.length:=by have:=hv.slimJ.reach_lt hr;rwa [length_slimJ] at this
    rw [fol] at h
    split at h
    · rename_i h7
      refine Reach.go hr (by rw [length_slimJ];exact hi) ?_
      rw [succ_jump (by rw [at_slimJ hi,jmp_f0];exact h7),at_slimJ hi,jmp_f3 (Or.inl h7),goal_is hv hi (Or.inl h7) h]
      simp
    · obtain rfl:=Option.some.inj h;exact hr
theorem short_reach {c:List Ins} (hv:Zo c) {p:Nat} (hr:Reach c p):∀ d t,fol c d p=some t→Reach (slimJ c) t:=by
  induction hr with
  |first=>exact short_fol hv Reach.first
  |@go i t hr hi ht ih=>
    intro d u hu
    have hl:=length_slimJ c
    by_cases h7:(at_ c i).f0=7
    · rw [succ_jump h7] at ht
      obtain rfl:t=(at_ c i).f3.toNat:=by simpa using ht
      exact ih (d+1) u (by rw [fol,if_pos h7];exact hu)
    have hri:Reach (slimJ c) i:=ih 1 i (by rw [fol,if_neg h7])
    have e0:(at_ (slimJ c) i).f0=(at_ c i).f0:=by rw [at_slimJ hi,jmp_f0]
    by_cases h6:(at_ c i).f0=6
    · rw [succ_skip h6] at ht
      simp only [List.mem_cons,List.mem_singleton,List.not_mem_nil,or_false] at ht
      rcases ht with rfl|rfl
      · exact short_fol hv (Reach.go hri (by omega) (by rw [succ_skip (e0.trans h6)];simp)) d u hu
      · refine Reach.go hri (by omega) ?_
        rw [succ_skip (e0.trans h6),at_slimJ hi,jmp_f3 (Or.inr h6),goal_is hv hi (Or.inr h6) hu]
        simp
    by_cases aA:(at_ c i).f0=13
    · rw [succ_end aA] at ht;cases ht
    · rw [succ_plain aA h7 h6] at ht
      obtain rfl:t=i+1:=by simpa using ht
      exact short_fol hv (Reach.go hri (by omega) (by rw [succ_plain (by rw [e0];exact aA) (by rw [e0];exact h7) (by rw [e0];exact h6)];simp)) d u hu
theorem NJ.jumps {c:List Ins} (hv:Zo c) (h:NJ c):NJ (slimJ c):=fun i hi h7=>by
  rw [length_slimJ] at hi
  rw [at_slimJ hi,jmp_f0] at h7
  exact short_reach hv (h i hi h7) 1 i (by rw [fol,if_neg h7])
open Classical in
theorem dead_reach {c:List Ins} (hv:Zo c) {p:Nat} (hr:Reach c p):Reach (slimD c) (pl c p):=by
  induction hr with
  |first=>rw [pl_zero];exact Reach.first
  |@go i t hr hi ht ih=>
    have htl:=hv.succs_lt hi t ht
    cases hk:kp c i with
    |true=>
      refine Reach.go ih (pl_lt_len hi hk) ?_
      have e:=at_slimD hi hk
      have e0:(at_ (slimD c) (pl c i)).f0=(at_ c i).f0:=by rw [e,fix_f0]
      have hn:pl c (i+1)=pl c i+1:=by rw [pl_succ hi,if_pos hk]
      by_cases h7:(at_ c i).f0=7
      · obtain ⟨t0,t1⟩:=hv.target hi (Or.inr h7)
        rw [succ_jump h7] at ht
        obtain rfl:t=(at_ c i).f3.toNat:=by simpa using ht
        rw [succ_jump (e0.trans h7),e,fix_f3 (Or.inl h7) t0 t1]
        simp
      by_cases h6:(at_ c i).f0=6
      · obtain ⟨t0,t1⟩:=hv.target hi (Or.inl h6)
        rw [succ_skip h6] at ht
        rw [succ_skip (e0.trans h6),e,fix_f3 (Or.inr h6) t0 t1]
        simp only [List.mem_cons,List.mem_singleton,List.not_mem_nil,or_false] at ht
        rcases ht with rfl|rfl
        · rw [hn];simp
        · simp
      by_cases aA:(at_ c i).f0=13
      · rw [succ_end aA] at ht;cases ht
      · rw [succ_plain aA h7 h6] at ht
        obtain rfl:t=i+1:=by simpa using ht
        rw [succ_plain (by rw [e0];exact aA) (by rw [e0];exact h7) (by rw [e0];exact h6),hn]
        simp
    |false=>
      have hn:=of_decide_eq_false hk
      have hlast:i+1≠c.length:=fun h=>hn (Or.inl h)
      have hj:(at_ c i).f0=7∧(at_ c i).f3=(nx c i:Int):=Classical.byContradiction (fun h=>hn (Or.inr ⟨hr,h⟩))
      rw [succ_jump hj.1,hj.2] at ht
      obtain rfl:t=nx c i:=by simpa using ht
      have h1:=nxt_ge (lv c) (c.length - 1 - (i+1)) (i+1)
      have h2:=nxt_le (lv c) (c.length - 1 - (i+1)) (i+1)
      have e:pl c (nx c i)=pl c i:=pl_same (by unfold nx;omega) (by omega) (fun j j1 j2=>by
        by_cases ji:j=i
        · rw [ji];exact hk
        · cases hkj:kp c j with
          |false=>rfl
          |true=>
            have:=kp_live hkj
            rw [nxt_not (lv c) _ _ j (by omega) j2] at this
            cases this)
      rw [e];exact ih
theorem NJ.dead {c:List Ins} (hv:Zo c) (h:NJ c):NJ (slimD c):=fun j hj h7=>by
  obtain ⟨i,hi,hk,rfl⟩:=slimD_onto hj
  rw [at_slimD hi hk,fix_f0] at h7
  exact dead_reach hv (h i hi h7)
end Go.Proofs.Ytokajnfbiddpjaa.Pure
