import Derived.Test.YtlhogkfmdnpmkaaCFnWholeOrder33
set_option linter.unusedSectionVars false
set_option linter.unusedVariables false
namespace Go.Proofs.Ytlhogkfmdnpmkaa.Mean
open RowKit GWhole YtlhogkfmdnpmkaaW.PrintWords YtlhogkfmdnpmkaaW.PrintMore
variable [Prot]
def Uy (n:Nat) (f:Nat→Int):List Int:=(List.range n).map f
def asP (p:PS):S67:=⟨Uy 3 p.regs,p.todo,p.mode,p.on,p.room⟩
def procsL (s:WS):List S67:=(List.range s.n).map fun i=>asP (s.proc i)
theorem ints_C {W:World} {base n:Nat} {v:Value} {f:Nat→Int} (h:W.ownsRow base 3 1 v n (ints n f)):∃ A c,v=.slice A (Uy n f).length c∧(Uy n f).length≤c∧(Kd.int .i64).C W A (Uy n f).length (Uy n f):=by
 have hl:(Uy n f).length=n:=by simp [Uy]
 have hR:(Kd.int .i64).R 3 W base (fun _=>True) v (Uy n f):=Kd.R_of_own (by rw [hl];exact h) (fun _ _=>trivial);obtain ⟨A,c,e⟩:=Kd.Zd hR;rw [e] at hR;obtain ⟨_,h2,h3⟩:=Kd.V_reads' (Kd.R_V (base':=base) hR);exact ⟨A,c,e,h2,h3⟩
theorem At.procs_C {W:World} {base:Nat} {ok:Nat→Prop} {b:BK} {s:WS} (h:At W base ok b s) (hn:0<s.n) (hn2:s.n≤1000):∃ A c,b.p=.slice A (procsL s).length c∧(procsL s).length≤c∧k67.C W A (procsL s).length (procsL s):=by
 have hl:(procsL s).length=s.n:=by simp [procsL]
 obtain ⟨g,cap,e,_,_,_,_,hcap⟩:=row_form (h.rows.at_ 0 _ rfl) hn;have HP:=h.Ye hn e;refine ⟨some ⟨g,0,none⟩,cap,by rw [hl];exact e,by rw [hl];exact hcap,rfl,by rw [hl];omega,fun _=>⟨_,rfl,fun j p hj=>?_⟩⟩
 have hjn:j<s.n:=by
  have:=(List.getElem?_eq_some_iff.1 hj).1
  rw [hl] at this;exact this
 have ep:p=asP (s.proc j):=by
  unfold procsL at hj;rw [List.getElem?_map,List.getElem?_range hjn] at hj;injection hj with hj;exact hj.symm
 subst ep;obtain ⟨A0,c0,e0,l0,g0⟩:∃ A c,b.r j=.slice A (Uy 3 (s.proc j).regs).length c∧(Uy 3 (s.proc j).regs).length≤c∧(Kd.int .i64).C W A (Uy 3 (s.proc j).regs).length (Uy 3 (s.proc j).regs):=ints_C (h.rows.at_ (j+7) _ (lay_reg b s hjn));obtain ⟨A1,c1,e1⟩:=Kd.V_slice (h.tree j hjn);have ht:=h.tree j hjn;rw [e1] at ht;obtain ⟨_,l1,g1⟩:=Kd.V_reads' ht;refine ⟨_,?_,k67_mk W (asP (s.proc j)) l0 g0 l1 g1,fun i u hu=>?_⟩
 ·rfl
 ·have hi:i<5:=by
   have:=(List.getElem?_eq_some_iff.1 hu).1
   simpa using this
  rw [add_plain];show W.cell? ⟨g,j * 5+i,none⟩=some u
  refine (HP.cell j i hjn hi).trans ?_;unfold Yp
  rcases (show i=0∨i=1∨i=2∨i=3∨i=4 by omega) with rfl|rfl|rfl|rfl|rfl
  ·simp only [if_true];rw [e0];exact hu
  ·rw [if_neg de_,if_pos rfl,e1];exact hu
  all_goals exact hu
end Go.Proofs.Ytlhogkfmdnpmkaa.Mean
