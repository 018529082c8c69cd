import Derived.Test.YtdkcjecllbdljaaCFnSlim69
import Derived.Test.YtdkcjecllbdljaaCFnSlim71
import Derived.Test.YtdkcjecllbdljaaCFnSlim59
import Derived.Test.YtdkcjecllbdljaaCFnSlim61
namespace Go.Proofs.Ytdkcjecllbdljaa.Pure
open Go.RowKit Go.Proofs.Ytdkcjecllbdljaa.GSlim Go.Proofs.YtdkcjecllbdljaaW.PrintWords Go.Proofs.YtdkcjecllbdljaaW.PrintLast Go.Proofs.YtdkcjecllbdljaaW.PrintMore Go.Proofs.Ytdkcjecllbdljaa.Evt Go.Proofs.Ytdkcjecllbdljaa.HForms
set_option linter.unusedVariables false
set_option linter.unusedSimpArgs false
noncomputable def pass2 (c:List Ins):List Ins:=slimD (slimJ c)
open Classical in
noncomputable def slimN:Nat→List Ins→List Ins
  |0,c=>c
  |d+1,c=>if pass2 c=c then c else slimN d (pass2 c)
theorem Ok.pass2 {c:List Ins} (h:Ok c):Ok (pass2 c):=h.jumps.dead
theorem length_pass2 (c:List Ins):(pass2 c).length≤c.length:=by
  have:=length_slimD (slimJ c)
  rw [length_slimJ] at this
  exact this
theorem Ok.code {c:List Ins} (h:Ok c):Evt (fun k=>Yo.f k c) true∧Evt (fun k=>Yb.f k c) true∧∃ rs,Evt (fun k=>Xp.f k c) (rs,true)∧Good c rs:=by
  obtain ⟨hv,ρ,hρ⟩:=h
  have:=hv.most
  obtain ⟨b,h1,h2,h3,h4⟩:=codeOk_both c (by omega)
  obtain rfl:=h4 ρ hv hρ
  exact ⟨h1,h2,(h3 rfl).2⟩
theorem code_ok (c:List Ins) (hl:c.length≤1048576):(Ok c∧Evt (fun k=>Yo.f k c) true∧Evt (fun k=>Yb.f k c) true)∨(Evt (fun k=>Yo.f k c) false∧Evt (fun k=>Yb.f k c) false):=by
  obtain ⟨b,h1,h2,h3,h4⟩:=codeOk_both c hl
  cases b with
  |false=>exact Or.inr ⟨h1,h2⟩
  |true=>
    obtain ⟨hv,rs,_,hg⟩:=h3 rfl
    exact Or.inl ⟨⟨hv,_,hg.2.2.2⟩,h1,h2⟩
theorem spec_jumps_ev {c:List Ins} (h:Ok c):Evt (fun k=>Yy.f k c) (slimJ c):=by
  obtain ⟨_,h2,_⟩:=h.code
  have hm:=h.1.most
  unfold Yy.f
  refine Evt.bind h2 (Evt.pos rfl ?_)
  simp only [Option.bind_some]
  exact Evt.pos (by simp;omega) (spec_jumps_loop h.1 c [] rfl)
theorem spec_dead_ev {c:List Ins} (h:Ok c):Evt (fun k=>Wi.f k c) (slimD c):=by
  obtain ⟨_,h2,rs,h3,h4⟩:=h.code
  exact spec_slimDead_ev h.1 h2 h3 h4
theorem impl_jumps_ev {c:List Ins} (h:Ok c):Evt (fun k=>Yi.f k c) (slimJ c):=by
  have hm:=h.1.most
  unfold Yi.f impl_Ins_28.f
  rw [if_pos (by omega)]
  exact impl_jumps_loop h.1 c [] rfl
open Classical in
theorem impl_go_ev:∀ (d:Nat) (c:List Ins),Ok c→Evt (fun k=>slim.go k d c) (slimN d c)
  |0,c,h=>Evt.pure _
  |d+1,c,h=>by
    have hm:=h.pass2.1.most
    obtain ⟨r,e1,_,_,e3⟩:=codeSame_both (pass2 c) c (by omega)
    have hs:Evt (fun k=>slim.step k c) (pass2 c):=by
      unfold slim.step
      exact Evt.bind (impl_jumps_ev h) (impl_slimDead_ev h.jumps.1)
    simp only [slim.go,slimN]
    refine Evt.bind hs (Evt.bind e1 ?_)
    by_cases he:pass2 c=c
    · rw [if_pos he]
      exact Evt.pos (e3.2 he) (Evt.pure _)
    · rw [if_neg he]
      exact Evt.neg (fun h=>he (e3.1 h)) (impl_go_ev d _ h.pass2)
open Classical in
theorem spec_go_ev:∀ (d j:Nat) (c:List Ins),j+d=60→Ok c→Evt (fun k=>Uf.l0 k c (j:Int)) (slimN d c)
  |0,j,c,hj,h=>by
    refine Evt.step ?_
    simp only [Uf.l0,slimN]
    exact Evt.neg (by omega) (Evt.pure _)
  |d+1,j,c,hj,h=>by
    have hm:=h.pass2.1.most
    obtain ⟨r,_,e2,_,e3⟩:=codeSame_both (pass2 c) c (by omega)
    refine Evt.step ?_
    simp only [Uf.l0,slimN]
    refine Evt.pos (by omega) (Evt.bind (spec_jumps_ev h) (Evt.bind (spec_dead_ev h.jumps) (Evt.bind e2 ?_)))
    by_cases he:pass2 c=c
    · rw [if_pos he]
      refine Evt.pos (e3.2 he) ?_
      show Evt (fun k=>some (pass2 c)) c
      rw [he]
      exact Evt.pure _
    · rw [if_neg he,w64n j (by omega)]
      exact Evt.neg (fun h=>he (e3.1 h)) (spec_go_ev d (j+1) _ (by omega) h.pass2)
open Classical in
theorem length_slimN:∀ (d:Nat) (c:List Ins),(slimN d c).length≤c.length
  |0,c=>Nat.le_refl _
  |d+1,c=>by
    rw [slimN]
    split
    · exact Nat.le_refl _
    · exact Nat.le_trans (length_slimN d _) (length_pass2 c)
theorem slim_both (c:List Ins) (hl:c.length≤1048576):∃ r,Evt (fun k=>We.f k c) r∧Evt (fun k=>Uf.f k c) r∧r.length≤60∧((Ok c∧Evt (fun k=>Yb.f k c) true∧r=slimN 60 c)∨(r=[]∧Evt (fun k=>Yb.f k c) false)):=by
  rcases code_ok c hl with ⟨h,h1,h2⟩|⟨h1,h2⟩
  · have hm:=h.1.most
    refine ⟨slimN 60 c,?_,?_,by have:=length_slimN 60 c;omega,Or.inl ⟨h,h2,rfl⟩⟩
    · unfold We.f impl_Ins_28.f
      rw [if_pos (show c.length<4398046511104 by omega)]
      exact Evt.bind h1 (Evt.pos rfl (impl_go_ev 60 c h))
    · unfold Uf.f
      exact Evt.bind h2 (Evt.pos rfl (spec_go_ev 60 0 c (by omega) h))
  · refine ⟨[],?_,?_,by simp,Or.inr ⟨rfl,h2⟩⟩
    · unfold We.f
      exact Evt.bind h1 (Evt.neg (by simp) (Evt.pure _))
    · unfold Uf.f
      exact Evt.bind h2 (Evt.neg (by simp) (Evt.pure _))
end Go.Proofs.Ytdkcjecllbdljaa.Pure
namespace Go.Proofs.Ytdkcjecllbdljaa.Pure
open Go.RowKit Go.Proofs.Ytdkcjecllbdljaa.GSlim Go.Proofs.YtdkcjecllbdljaaW.PrintWords Go.Proofs.YtdkcjecllbdljaaW.PrintLast Go.Proofs.YtdkcjecllbdljaaW.PrintMore Go.Proofs.Ytdkcjecllbdljaa.Evt Go.Proofs.Ytdkcjecllbdljaa.HForms
set_option linter.unusedVariables false
set_option linter.unusedSimpArgs false
theorem pl_add {c:List Ins} {i:Nat}:∀ {j:Nat},i≤j→j≤c.length→pl c j≤pl c i+(j - i)
  |0,h,_=>by
    obtain rfl:i=0:=by omega
    omega
  |j+1,h,hj=>by
    rcases Nat.eq_or_lt_of_le h with rfl|hlt
    · omega
    · have:=pl_add (c:=c) (i:=i) (j:=j) (by omega) (by omega)
      rw [pl_succ (by omega)]
      split <;> omega
theorem all_kept {c:List Ins} (h:(slimD c).length=c.length) {i:Nat} (hi:i<c.length):kp c i=true:=by
  rw [slimD_len] at h
  cases hk:kp c i with
  |true=>rfl
  |false=>
    have h1:=pl_succ (c:=c) hi
    rw [hk] at h1
    have h2:pl c i≤i:=dead.cnt_le _ _
    have h3:=pl_add (c:=c) (i:=i+1) (j:=c.length) (by omega) (Nat.le_refl _)
    simp at h1
    omega
theorem pl_all {c:List Ins} (h:∀ i,i<c.length→kp c i=true):∀ i,i≤c.length→pl c i=i
  |0,_=>pl_zero c
  |i+1,hi=>by rw [pl_succ (by omega),h i (by omega),if_pos rfl,pl_all h i (by omega)]
theorem slimD_same {c:List Ins} (hv:Uq c) (h:(slimD c).length=c.length):slimD c=c:=by
  have hk:∀ i,i<c.length→kp c i=true:=fun i hi=>all_kept h hi
  have hp:=pl_all hk
  refine code_ext h (fun i hi=>?_)
  have hil:i<c.length:=by omega
  have e:=at_slimD hil (hk i hil)
  rw [hp i (by omega)] at e
  rw [e]
  by_cases ho:(at_ c i).f0=7∨(at_ c i).f0=6
  · obtain ⟨t0,t1⟩:=hv.target hil ho.symm
    refine Ins.ext4 (fix_f0 _ _) (fix_f1 _ _) (fix_f2 _ _) ?_
    rw [fix_f3 ho t0 t1,hp _ (by omega)]
    omega
  · exact fix_no ho
theorem pass2_again {c:List Ins} (h:Ok c) (hl:(pass2 c).length=c.length):pass2 c=slimJ c∧pass2 (pass2 c)=pass2 c:=by
  have e:slimD (slimJ c)=slimJ c:=slimD_same h.jumps.1 (by rw [length_slimJ];exact hl)
  have e1:pass2 c=slimJ c:=e
  refine ⟨e1,?_⟩
  rw [e1]
  show slimD (slimJ (slimJ c))=slimJ c
  rw [slimJ_idem h.1]
  exact e
open Classical in
theorem slimN_fixed {c:List Ins} (h:pass2 c=c):∀ d,slimN d c=c
  |0=>rfl
  |d+1=>by rw [slimN,if_pos h]
open Classical in
theorem slimN_ok:∀ (d:Nat) (c:List Ins),Ok c→Ok (slimN d c)
  |0,c,h=>h
  |d+1,c,h=>by
    rw [slimN]
    split
    · exact h
    · exact slimN_ok d _ h.pass2
open Classical in
theorem slimN_end:∀ (d:Nat) (c:List Ins),Ok c→c.length≤d→pass2 (slimN d c)=slimN d c
  |0,c,h,hl=>by have:=h.1.pos;omega
  |d+1,c,h,hl=>by
    rw [slimN]
    split
    · rename_i he;exact he
    · rename_i he
      have hle:=length_pass2 c
      by_cases hs:(pass2 c).length=c.length
      · have e:=(pass2_again h hs).2
        rw [slimN_fixed e d]
        exact e
      · exact slimN_end d _ h.pass2 (by omega)
theorem fixed_reach {c:List Ins} (h:Ok c) (he:pass2 c=c) {i:Nat} (hi:i+1<c.length):Reach c i:=by
  have e:=(pass2_again h (by rw [he])).1
  rw [he] at e
  have hl:(slimD c).length=c.length:=by
    have:pass2 c=slimD c:=by unfold pass2;rw [← e]
    rw [← this,he]
  exact kp_reach (all_kept hl (by omega)) (by omega)
end Go.Proofs.Ytdkcjecllbdljaa.Pure
