import Derived.Test.YtjmlpgpkmhjdiaaCFnExactSlim66
import Derived.Test.YtjmlpgpkmhjdiaaCFnExactSlim68
import Derived.Test.YtjmlpgpkmhjdiaaCFnExactSlim54
import Derived.Test.YtjmlpgpkmhjdiaaCFnExactSlim52
namespace Go.Proofs.Ytjmlpgpkmhjdiaa.Pure
open Go.RowKit Go.Proofs.Ytjmlpgpkmhjdiaa.GSlim Go.Proofs.YtjmlpgpkmhjdiaaW.PrintWords Go.Proofs.YtjmlpgpkmhjdiaaW.PrintLast Go.Proofs.YtjmlpgpkmhjdiaaW.PrintMore Go.Proofs.Ytjmlpgpkmhjdiaa.Evt Go.Proofs.Ytjmlpgpkmhjdiaa.HForms
set_option linter.unusedVariables false
set_option linter.unusedSimpArgs false
noncomputable def pass2 (c:List Ins):List Ins:=slimD (slimJ c)
open Classical in
noncomputable def slimN:Nat→List Ins→List Ins
  |0,c=>c
  |d+1,c=>if pass2 c=c then c else slimN d (pass2 c)
theorem Ok.pass2 {c:List Ins} (h:Ok c):Ok (pass2 c):=h.jumps.dead
theorem length_pass2 (c:List Ins):(pass2 c).length≤c.length:=by
  have:=length_slimD (slimJ c)
  rw [length_slimJ] at this
  exact this
theorem Ok.code {c:List Ins} (h:Ok c):Evt (fun k=>Yg.f k c) true∧Evt (fun k=>Xo.f k c) true∧∃ rs,Evt (fun k=>Xh.f k c) (rs,true)∧Good c rs:=by
  obtain ⟨hv,ρ,hρ⟩:=h
  have:=hv.most
  obtain ⟨b,h1,h2,h3,h4⟩:=codeOk_both c (by omega)
  obtain rfl:=h4 ρ hv hρ
  exact ⟨h1,h2,(h3 rfl).2⟩
theorem code_ok (c:List Ins) (hl:c.length≤1048576):(Ok c∧Evt (fun k=>Yg.f k c) true∧Evt (fun k=>Xo.f k c) true)∨(Evt (fun k=>Yg.f k c) false∧Evt (fun k=>Xo.f k c) false):=by
  obtain ⟨b,h1,h2,h3,h4⟩:=codeOk_both c hl
  cases b with
  |false=>exact Or.inr ⟨h1,h2⟩
  |true=>
    obtain ⟨hv,rs,_,hg⟩:=h3 rfl
    exact Or.inl ⟨⟨hv,_,hg.2.2.2⟩,h1,h2⟩
theorem spec_jumps_ev {c:List Ins} (h:Ok c):Evt (fun k=>Yf.f k c) (slimJ c):=by
  obtain ⟨_,h2,_⟩:=h.code
  have hm:=h.1.most
  unfold Yf.f
  refine Evt.bind h2 (Evt.pos rfl ?_)
  simp only [Option.bind_some]
  exact Evt.pos (by simp;omega) (spec_jumps_loop h.1 c [] rfl)
theorem spec_dead_ev {c:List Ins} (h:Ok c):Evt (fun k=>Um.f k c) (slimD c):=by
  obtain ⟨_,h2,rs,h3,h4⟩:=h.code
  exact spec_slimDead_ev h.1 h2 h3 h4
theorem impl_jumps_ev {c:List Ins} (h:Ok c):Evt (fun k=>Xn.f k c) (slimJ c):=by
  have hm:=h.1.most
  unfold Xn.f impl_Ins_71.f
  rw [if_pos (by omega)]
  exact impl_jumps_loop h.1 c [] rfl
open Classical in
theorem impl_go_ev:∀ (d:Nat) (c:List Ins),Ok c→Evt (fun k=>slim.go k d c) (slimN d c)
  |0,c,h=>Evt.pure _
  |d+1,c,h=>by
    have hm:=h.pass2.1.most
    obtain ⟨r,e1,_,_,e3⟩:=codeSame_both (pass2 c) c (by omega)
    have hs:Evt (fun k=>slim.step k c) (pass2 c):=by
      unfold slim.step
      exact Evt.bind (impl_jumps_ev h) (impl_slimDead_ev h.jumps.1)
    simp only [slim.go,slimN]
    refine Evt.bind hs (Evt.bind e1 ?_)
    by_cases he:pass2 c=c
    · rw [if_pos he]
      exact Evt.pos (e3.2 he) (Evt.pure _)
    · rw [if_neg he]
      exact Evt.neg (fun h=>he (e3.1 h)) (impl_go_ev d _ h.pass2)
open Classical in
theorem spec_go_ev:∀ (d j:Nat) (c:List Ins),j+d=60→Ok c→Evt (fun k=>Ze.l0 k c (j:Int)) (slimN d c)
  |0,j,c,hj,h=>by
    refine Evt.step ?_
    simp only [Ze.l0,slimN]
    exact Evt.neg (by omega) (Evt.pure _)
  |d+1,j,c,hj,h=>by
    have hm:=h.pass2.1.most
    obtain ⟨r,_,e2,_,e3⟩:=codeSame_both (pass2 c) c (by omega)
    refine Evt.step ?_
    simp only [Ze.l0,slimN]
    refine Evt.pos (by omega) (Evt.bind (spec_jumps_ev h) (Evt.bind (spec_dead_ev h.jumps) (Evt.bind e2 ?_)))
    by_cases he:pass2 c=c
    · rw [if_pos he]
      refine Evt.pos (e3.2 he) ?_
      show Evt (fun k=>some (pass2 c)) c
      rw [he]
      exact Evt.pure _
    · rw [if_neg he,w64n j (by omega)]
      exact Evt.neg (fun h=>he (e3.1 h)) (spec_go_ev d (j+1) _ (by omega) h.pass2)
open Classical in
theorem length_slimN:∀ (d:Nat) (c:List Ins),(slimN d c).length≤c.length
  |0,c=>Nat.le_refl _
  |d+1,c=>by
    rw [slimN]
    split
    · exact Nat.le_refl _
    · exact Nat.le_trans (length_slimN d _) (length_pass2 c)
theorem slim_both (c:List Ins) (hl:c.length≤1048576):∃ r,Evt (fun k=>Zr.f k c) r∧Evt (fun k=>Ze.f k c) r∧r.length≤60∧((Ok c∧Evt (fun k=>Xo.f k c) true∧r=slimN 60 c)∨(r=[]∧Evt (fun k=>Xo.f k c) false)):=by
  rcases code_ok c hl with ⟨h,h1,h2⟩|⟨h1,h2⟩
  · have hm:=h.1.most
    refine ⟨slimN 60 c,?_,?_,by have:=length_slimN 60 c;omega,Or.inl ⟨h,h2,rfl⟩⟩
    · unfold Zr.f impl_Ins_71.f
      rw [if_pos (show c.length<4398046511104 by omega)]
      exact Evt.bind h1 (Evt.pos rfl (impl_go_ev 60 c h))
    · unfold Ze.f
      exact Evt.bind h2 (Evt.pos rfl (spec_go_ev 60 0 c (by omega) h))
  · refine ⟨[],?_,?_,by simp,Or.inr ⟨rfl,h2⟩⟩
    · unfold Zr.f
      exact Evt.bind h1 (Evt.neg (by simp) (Evt.pure _))
    · unfold Ze.f
      exact Evt.bind h2 (Evt.neg (by simp) (Evt.pure _))
end Go.Proofs.Ytjmlpgpkmhjdiaa.Pure
