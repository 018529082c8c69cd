import Derived.Test.YtlhogkfmdnpmkaaGreatCFnExactMarksOf93
set_option linter.unusedSectionVars false
set_option linter.unusedVariables false
set_option linter.unusedSimpArgs false
namespace Go.Proofs.YtlhogkfmdnpmkaaGreat.Mean
open RowKit GMarks YtlhogkfmdnpmkaaGreatW.PrintWords YtlhogkfmdnpmkaaGreatW.PrintLast YtlhogkfmdnpmkaaGreatW.PrintMore
variable [Prot]
theorem cells5 {W:World} {g:Nat} {a b c d e:Value} {t:TypeId} (h:W.heap[g]?=some (.cells #[a,b,c,d,e] t (0,0))):W.cell? ⟨g,0,none⟩=some a∧W.cell? ⟨g,1,none⟩=some b∧W.cell? ⟨g,2,none⟩=some c∧W.cell? ⟨g,3,none⟩=some d∧W.cell? ⟨g,4,none⟩=some e:=
 ⟨(Xd h 0).trans rfl,(Xd h 1).trans rfl,(Xd h 2).trans rfl,(Xd h 3).trans rfl,(Xd h 4).trans rfl⟩
theorem frozen5 {W:World} {g:Nat} {cs:Array Value} {t:TypeId} (h:W.heap[g]?=some (.cells cs t (0,0))):W.frozen? ⟨g,0,none⟩=false∧W.frozen? ⟨g,1,none⟩=false∧W.frozen? ⟨g,2,none⟩=false∧W.frozen? ⟨g,3,none⟩=false∧W.frozen? ⟨g,4,none⟩=false:=
 ⟨Xc h 0,Xc h 1,Xc h 2,Xc h 3,Xc h 4⟩
theorem At.low_below {w W W':World} {ok:Nat→Prop} {b:BK} {s:WS} (hp:∀ k o,w.heap[k]?=some o→Prot.low k=some o) (hA:At W' w.heap.size ok b s) (hB:Below w.heap.size w W) (hO:Only W W' ok):Below w.heap.size w W':=
 ⟨hO.os.trans hB.os,hO.tape.trans hB.tape,hO.output.trans hB.output,nt_ hB.size hO.size,fun k hk=>by
  have e:w.heap[k]?=some w.heap[k]:=Array.getElem?_eq_getElem hk
  rw [e];exact (hA.low k _ (hp k _ e)).2.2⟩
def put5 (W:World) (g:Nat) (b:BK):World:=((((W.setCell ⟨g,0,none⟩ b.p).setCell ⟨g,1,none⟩ b.c).setCell ⟨g,2,none⟩ b.m).setCell ⟨g,3,none⟩ b.s).setCell ⟨g,4,none⟩ b.d
theorem put5_far {W:World} {g:Nat} {b:BK} {k:Nat} (hk:k≠g):(put5 W g b).heap[k]?=W.heap[k]?:=by
 unfold put5;rw [Below.heap_setCell _ _ _ k hk,Below.heap_setCell _ _ _ k hk,Below.heap_setCell _ _ _ k hk,Below.heap_setCell _ _ _ k hk,Below.heap_setCell _ _ _ k hk]
theorem put5_below {w W:World} {N g:Nat} (b:BK) (h:Below N w W) (hg:N≤g):Below N w (put5 W g b):=
 Below.setCell (p:=⟨g,4,none⟩) (Below.setCell (p:=⟨g,3,none⟩) (Below.setCell (p:=⟨g,2,none⟩) (Below.setCell (p:=⟨g,1,none⟩) (Below.setCell (p:=⟨g,0,none⟩) h hg _) hg _) hg _) hg _) hg _
theorem put5_blk {W:World} {g:Nat} (b:BK) {a0 a1 a2 a3 a4:Value} (h:W.heap[g]?=some (.cells #[a0,a1,a2,a3,a4] 56 (0,0))):Wb (put5 W g b) g b:=Yt (Yt (Yt (Yt (Yt h 0 b.p) 1 b.c) 2 b.m) 3 b.s) 4 b.d
theorem At.put5 {W:World} {base g:Nat} {ok:Nat→Prop} {b b':BK} {s:WS} (h:At W base ok b s) (hok:∀ k,ok k→k≠g):At (put5 W g b') base ok b s:=h.step (fun k hk _=>put5_far (hok k hk))
theorem SC.bound {W:World} {e0 n:Nat} {pv rv mv:Value} {pc rc:Nat→Value} {c:CK} {xs:List El} {V:Nat→Prop} (h:SC W e0 n pv rv mv pc rc c xs V):SC W e0 n pv rv mv pc rc c xs (fun k=>V k∧e0≤k∧k<W.heap.size):=
 ⟨h.p,h.r,h.m,h.pr,h.rr,h.cl,h.pk,h.rk,h.ab,fun k hk=>⟨h.in_ k hk,by
  rcases hk with e|e|e|⟨i,hi,e⟩|⟨i,hi,e⟩|⟨x,hx,e⟩
  ·exact ⟨Zl h.p k e,Za h.p k e⟩
  ·exact ⟨Zl h.r k e,Za h.r k e⟩
  ·exact ⟨Zl h.m k e,Za h.m k e⟩
  ·exact ⟨Zl (h.pr i hi) k e,Za (h.pr i hi) k e⟩
  ·exact ⟨Zl (h.rr i hi) k e,Za (h.rr i hi) k e⟩
  ·exact h.cl.lt hx e⟩⟩
theorem cells3 {W:World} {g:Nat} {a b c:Value} {t:TypeId} (h:W.heap[g]?=some (.cells #[a,b,c] t (0,0))):W.cell? ⟨g,0,none⟩=some a∧W.cell? ⟨g,1,none⟩=some b∧W.cell? ⟨g,2,none⟩=some c:=
 ⟨(Xd h 0).trans rfl,(Xd h 1).trans rfl,(Xd h 2).trans rfl⟩
def put3 (W:World) (g:Nat) (a b c:Value):World:=((W.setCell ⟨g,0,none⟩ a).setCell ⟨g,1,none⟩ b).setCell ⟨g,2,none⟩ c
theorem put3_far {W:World} {g:Nat} {a b c:Value} {k:Nat} (hk:k≠g):(put3 W g a b c).heap[k]?=W.heap[k]?:=by
 unfold put3;rw [Below.heap_setCell _ _ _ k hk,Below.heap_setCell _ _ _ k hk,Below.heap_setCell _ _ _ k hk]
theorem put3_below {w W:World} {N g:Nat} (a b c:Value) (h:Below N w W) (hg:N≤g):Below N w (put3 W g a b c):=
 Below.setCell (p:=⟨g,2,none⟩) (Below.setCell (p:=⟨g,1,none⟩) (Below.setCell (p:=⟨g,0,none⟩) h hg _) hg _) hg _
theorem put3_blk {W:World} {g:Nat} {t:TypeId} (a b c:Value) {a0 a1 a2:Value} (h:W.heap[g]?=some (.cells #[a0,a1,a2] t (0,0))):(put3 W g a b c).heap[g]?=some (.cells #[a,b,c] t (0,0)):=Yt (Yt (Yt h 0 a) 1 b) 2 c
structure RM (e0 gw gc n:Nat) (w W:World) (b:BK) (s:WS) (pv rv mv:Value) (pc rc:Nat→Value) (c:CK) (xs:List El) (V:Nat→Prop):Prop where
 at_:At W e0 (fun k=>k≠gw∧k≠gc∧¬ V k) b s
 wb:Wb W gw b
 cb:W.heap[gc]?=some (.cells #[pv,rv,mv] 59 (0,0))
 sc:SC W e0 n pv rv mv pc rc c xs V
 vl:∀ k,V k→e0≤k∧k<W.heap.size∧k≠gw∧k≠gc
 ne:gw≠gc
 below:Below e0 w W
 gl:e0≤gw∧e0≤gc
section
variable {e0 gw gc n:Nat} {w W W':World} {b:BK} {s:WS} {pv rv mv:Value} {pc rc:Nat→Value} {c:CK} {xs:List El} {V:Nat→Prop}
theorem RM.size (h:RM e0 gw gc n w W b s pv rv mv pc rc c xs V):e0≤W.heap.size:=nt_ h.gl.1 (Nat.le_of_lt (Xq h.wb))
theorem RM.next (h:RM e0 gw gc n w W b s pv rv mv pc rc c xs V) (hb:Below W.heap.size W W'):RM e0 gw gc n w W' b s pv rv mv pc rc c xs V:=
 ⟨h.at_.below hb,Xm h.wb hb,Xm h.cb hb,h.sc.below hb,fun k hk=>⟨(h.vl k hk).1,nl_ (h.vl k hk).2.1 hb.size,(h.vl k hk).2.2⟩,h.ne,h.below.trans (hb.mono h.size),h.gl⟩
theorem RM.drew (h:RM e0 gw gc n w W b s pv rv mv pc rc c xs V):RM e0 gw gc n w W.drew b s pv rv mv pc rc c xs V:=h.next (Xh (Below.refl _ _))
theorem RM.up (h:RM e0 gw gc n w W b s pv rv mv pc rc c xs V):∀ k,W.heap.size≤k→k≠gw∧k≠gc∧¬ V k:=fun k hk=>⟨by have:=Xq h.wb;omega,by have:=Xq h.cb;omega,fun hv=>by have:=(h.vl k hv).2.1;omega⟩
theorem RM.mark {pv' rv' mv':Value} {pc' rc':Nat→Value} {c':CK} {xs':List El} (h:RM e0 gw gc n w W b s pv rv mv pc rc c xs V) (hS:SC W' e0 n pv' rv' mv' pc' rc' c' xs' (fun k=>V k∨W.heap.size≤k)) (hO:Only W W' V) :
  W'.heap[gc]?=some (.cells #[pv,rv,mv] 59 (0,0))∧Wb W' gw b∧Below e0 w W'∧RM e0 gw gc n w (put3 W' gc pv' rv' mv') b s pv' rv' mv' pc' rc' c' xs' (fun k=>V k∨W.heap.size≤k∧k<W'.heap.size):=by
 have hgw:=Xq h.wb;have hgc:=Xq h.cb;have hwb:Wb W' gw b:=(hO.block gw hgw (fun x=>(h.vl gw x).2.2.1 rfl)).trans h.wb;have hcb:=(hO.block gc hgc (fun x=>(h.vl gc x).2.2.2 rfl)).trans h.cb;have hb:Below e0 w W':=h.below.trans (hO.below h.size (fun k hk=>(h.vl k hk).1));have hsz:W'.heap.size≤(put3 W' gc pv' rv' mv').heap.size:=(put3_below pv' rv' mv' (Below.refl 0 W') (Nat.zero_le _)).size;refine ⟨hcb,hwb,hb,?_,(put3_far h.ne).trans hwb,put3_blk pv' rv' mv' hcb,?_,fun k hk=>?_,h.ne,put3_below pv' rv' mv' hb h.gl.2,h.gl⟩
 ·refine (h.at_.lt.step (fun k hk hlt=>(put3_far hk.1.2.1).trans (hO.block k hlt hk.1.2.2))).mono (fun k hk=>⟨hk.1.1,hk.1.2.1,fun e=>e.elim hk.1.2.2 (fun e=>by have:=hk.2;omega)⟩)
 ·have h1:=hS.bound.more (V':=fun k=>V k∨W.heap.size≤k∧k<W'.heap.size) (fun k hk=>hk.1.elim .inl (fun e=>.inr ⟨e,hk.2.2⟩));exact h1.step (fun k hk _=>put3_far (hk.elim (fun e=>(h.vl k e).2.2.2) (fun e=>om_)))
 ·rcases hk with hk|hk
  ·have:=h.vl k hk
   exact ⟨this.1,by have:=hO.size;omega,this.2.2⟩
  ·have:=h.size
   exact ⟨om_,om_,om_,om_⟩
theorem RM.step {b':BK} {s':WS} (hw:w.heap.size=e0) (hp:∀ k o,w.heap[k]?=some o→Prot.low k=some o) (h:RM e0 gw gc n w W b s pv rv mv pc rc c xs V) (hA:At W' e0 (fun k=>k≠gw∧k≠gc∧¬ V k) b' s') (hO:Only W W' (fun k=>k≠gw∧k≠gc∧¬ V k)) :
  Wb W' gw b∧Below e0 w W'∧RM e0 gw gc n w (put5 W' gw b') b' s' pv rv mv pc rc c xs V:=by
 subst hw;have hb:=At.low_below hp hA h.below hO;have hwb:Wb W' gw b:=(hO.block gw (Xq h.wb) (fun x=>x.1 rfl)).trans h.wb;have hcb:=(hO.block gc (Xq h.cb) (fun x=>x.2.1 rfl)).trans h.cb;have hsz:W'.heap.size≤(put5 W' gw b').heap.size:=(put5_below b' (Below.refl 0 W') (Nat.zero_le _)).size;have hos:=hO.size
 exact ⟨hwb,hb,hA.put5 (fun k hk=>hk.1),put5_blk b' hwb,(put5_far (fun e=>h.ne e.symm)).trans hcb,h.sc.step (fun k hk hlt=>(put5_far (h.vl k hk).2.2.1).trans (hO.block k hlt (fun x=>x.2.2 hk))),fun k hk=>by
  have:=h.vl k hk
  exact ⟨this.1,om_,this.2.2⟩,h.ne,put5_below b' hb h.gl.1,h.gl⟩
end
end Go.Proofs.YtlhogkfmdnpmkaaGreat.Mean
