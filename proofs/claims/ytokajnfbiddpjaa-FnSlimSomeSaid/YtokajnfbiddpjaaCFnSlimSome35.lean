import Derived.Test.YtokajnfbiddpjaaCFnSlimSome21
import Derived.Test.YtokajnfbiddpjaaCFnSlimSome31
import Derived.Laws.EntriesVeiled
import Derived.Laws.CopyOwn
import Derived.Lib.Hide
import Derived.WalkSpells
import Derived.Deep.DeepMust
set_option maxHeartbeats 16000000
set_option maxRecDepth 100000
namespace Go.Proofs.Ytokajnfbiddpjaa.GSlim
open Go.RowKit Go.Proofs.YtokajnfbiddpjaaW.PrintWords Go.Proofs.YtokajnfbiddpjaaW.PrintLast Go.Proofs.YtokajnfbiddpjaaW.PrintMore
attribute [local go_sem] Zx Zz Ul Um Zl Zm Zy Ua
set_option linter.unusedVariables false
set_option linter.unusedSimpArgs false
section
open Go.Proofs.Ytokajnfbiddpjaa.HMap Go.Proofs.Ytokajnfbiddpjaa.HStep
abbrev Xf.I:=S31
abbrev Xf.T:=S63
def Xf.lateV (x:Nat × Nat × Nat):Value:=.func (.func 79) #[] #[.pointer (some ⟨x.1,0,none⟩),.pointer (some ⟨x.2.1,0,none⟩),.pointer (some ⟨x.2.2,0,none⟩)]
def Xf.kl:Kd (Nat × Nat × Nat):=Kd.scalar Xf.lateV (fun _=>rfl)
structure Xf.M (w:World) (g:Nat) (vc vl:Value) (code:List Xf.I) (late:List (Nat × Nat × Nat)) (W:World):Prop where
 box:W.heap[g]?=some (.cells #[vc,vl] 51 (0,0))
 row:Kd.R k31 31 W w.heap.size (fun _=>True) vc code
 lrow:Kd.R Xf.kl 1 W w.heap.size (fun _=>True) vl late
 bel:Below w.heap.size w W
 ge:w.heap.size≤g
structure Xf.Kp (w W W':World):Prop where
 bel:Below w.heap.size w W'
 size:W.heap.size≤W'.heap.size
 cells:∀ (k:Nat) (cs:Array Value) (q:TypeId),W.heap[k]?=some (Obj.cells cs q (0,0))→q≠31→q≠1→q≠51→W'.heap[k]?=some (Obj.cells cs q (0,0))
theorem Xf.Kp.trans {w A B C:World} (h:Xf.Kp w A B) (h':Xf.Kp w B C):Xf.Kp w A C:=⟨h'.bel,Nat.le_trans h.size h'.size,fun k cs q hk h1 h2 h3=>h'.cells k cs q (h.cells k cs q hk h1 h2 h3) h1 h2 h3⟩
theorem Xf.frz {W w1:World} {g:Nat} {cs:Array Value} {t:TypeId} (hb:w1.heap[g]?=W.heap[g]?) (h:W.heap[g]?=some (.cells cs t (0,0))):w1.frozen? ⟨g,0,none⟩=false:=by
 rw [h] at hb
 simp [World.frozen?,hb]
theorem Xf.R_set {α:Type} {d:Kd α} {e base:Nat} {ok:Nat→Prop} {W:World} {v u:Value} {xs:List α} {g i:Nat} {cs:Array Value} {t:TypeId} (h:Kd.R d e W base ok v xs) (hg:W.heap[g]?=some (.cells cs t (0,0))) (ht:∀ q,q ∈ e :: d.E→q≠t):Kd.R d e (W.setCell ⟨g,i,none⟩ u) base ok v xs:=
 Kd.Xo (Kd.R_move (Kd.Vf h) (fun k hk=>Below.heap_setCell W _ u k (fun e'=>by
  obtain ⟨_,_,_,q,hq,cells,hc⟩:=hk;have e2:k=g:=e';subst e2;rw [hg] at hc
  injection hc with hc
  injection hc with _ hc
  exact ht q hq hc.symm))) (fun _ hk=>hk.1)
structure Xf.ES (g bx:Nat) (vc:Value) (op a b n:Int) (W:World):Prop where
 c:W.cell? ⟨g,0,none⟩=some vc
 b0:W.cell? ⟨bx,0,none⟩=some (.int .i64 op)
 b1:W.cell? ⟨bx,1,none⟩=some (.int .i64 a)
 b2:W.cell? ⟨bx,2,none⟩=some (.int .i64 b)
 b3:W.cell? ⟨bx,3,none⟩=some (.int .i64 n)
theorem Xf.ES.later {g bx:Nat} {vc:Value} {op a b n:Int} {W W1:World} (h:Xf.ES g bx vc op a b n W) (hb:Below W.heap.size W W1):Xf.ES g bx vc op a b n W1:=⟨cell_later hb h.c,cell_later hb h.b0,cell_later hb h.b1,cell_later hb h.b2,cell_later hb h.b3⟩
theorem Xf.ES.grown {g bx:Nat} {vc:Value} {op a b n:Int} {W W1:World} {row:Option Nat} (h:Xf.ES g bx vc op a b n W) (hg:W.grownBy W1 row) (h1:some g≠row) (h2:some bx≠row):Xf.ES g bx vc op a b n W1:=⟨cell_grown hg h.c h1,cell_grown hg h.b0 h2,cell_grown hg h.b1 h2,cell_grown hg h.b2 h2,cell_grown hg h.b3 h2⟩
theorem Xf.emit (w:World) (g:Nat) (vc vl:Value) (code:List Xf.I) (late:List (Nat × Nat × Nat)) (W:World) (op a b n:Int) (hM:Xf.M w g vc vl code late W) (hl:code.length≤1000000) :
  Calls Try.prog 34 #[.pointer (some ⟨g,0,none⟩),.agg #[.int .i64 op,.int .i64 a,.int .i64 b,.int .i64 n]] W fun e W'=>e=.returned (.int .i64 (code.length:Int))∧(∃ bV,Xf.M w g bV vl (code ++ [⟨op,a,b,n⟩]) late W')∧Xf.Kp w W W':=by
 obtain ⟨Ac,cc,rfl⟩:=Kd.Yo hM.row;obtain ⟨aI,hc2⟩:∃ c2:List Xf.I,c2=code ++ [(⟨op,a,b,n⟩:Xf.I)]:=⟨_,rfl⟩;have bQ:=Xa.mk hc2;clear hc2;have hbx:=World.alloc_heap_new W (.cells #[.int .i64 op,.int .i64 a,.int .i64 b,.int .i64 n] 31);obtain ⟨Wb,hWb⟩:∃ Wb,W.alloc (.cells #[.int .i64 op,.int .i64 a,.int .i64 b,.int .i64 n] 31)=Wb:=⟨_,rfl⟩
 have hbb:Below W.heap.size W Wb:=by rw [← hWb];exact (Below.refl _ _).alloc (Nat.le_refl _) _
 have hbd:Below W.heap.size W Wb.drew:=Xy hbb;rw [hWb] at hbx;have hgl:g<W.heap.size:=(Array.getElem?_eq_some_iff.1 hM.box).1
 have hng:some g≠(Value.slice Ac code.length cc).ownBlock:=fun e=>by
  obtain ⟨cells,hc⟩:=Kd.R_typed hM.row g e.symm;rw [hM.box] at hc
  injection hc with hc
  injection hc with _ hc
  exact absurd hc (by decide)
 have hnb:some W.heap.size≠(Value.slice Ac code.length cc).ownBlock:=fun e=>absurd (Kd.Uu hM.row _ e.symm) (by omega);have hgb:Wb.drew.heap[g]?=some (.cells #[.slice Ac code.length cc,vl] 51 (0,0)):=(hbd.block g hgl).trans hM.box;have hbxd:Wb.drew.heap[W.heap.size]?=some (.cells #[.int .i64 op,.int .i64 a,.int .i64 b,.int .i64 n] 31 (0,0)):=hbx;have aL:Xa (Xf.ES g W.heap.size (.slice Ac code.length cc) op a b n Wb.drew):=⟨⟨by simp [World.cell?,hgb],by simp only [World.cell?,hbxd];rfl,by simp only [World.cell?,hbxd];rfl,by simp only [World.cell?,hbxd];rfl,by simp only [World.cell?,hbxd];rfl⟩⟩;have HNG:=Xa.mk hng;have HNB:=Xa.mk hnb;have HGL:Xa (g<Wb.drew.heap.size):=⟨Nat.lt_of_lt_of_le hgl hbd.size⟩;have HGB:=Xa.mk hgb;have HROW:=Xa.mk (Kd.Zf hM.row hbd);have HLROW:=Xa.mk (Kd.Zf hM.lrow hbd);have HBEL:=Xa.mk (Xe hM.bel hbd);have HSZ:=Xa.mk (show w.heap.size≤Wb.drew.heap.size from Nat.le_trans hM.bel.size hbd.size);have HLEN:Xa ((code.length+1) * 32≤140737488355328):=⟨by omega⟩;have HBD:=Xa.mk hbd;have HGE:=Xa.mk hM.ge;clear hbx hbxd hbb hbd hgl hng hnb hgb hM hl
 go_enter Try.func34,Try.ntmps34
 go_upto_region 1 with (fail)
 try rw [hWb]
 clear hWb;refine start_ (n:=11) (S:=Xf.ES g W.heap.size (.slice Ac code.length cc) op a b n) (ds:=[10]) #[false,false,false,false,false,false,false,false,false,false,false] (by kernel_rfl) rfl (by rfl) aL.out (fun hHeld=>?_)
 refine Za (i:=0) (N:=some 5) (v:=?_) (a':=?_) #[true,false,false,false,false,false,false,false,false,false,false] rfl rfl (by kernel_rfl) (fun _ _ _ h=>h) (Or.inl ⟨by rfl,?_⟩) ?_ ?_
 rotate_left
 · exact wr_
 rotate_left
 · exact ap_
 refine Za (i:=1) (N:=some 6) (v:=?_) (a':=?_) #[true,true,false,false,false,false,false,false,false,false,false] rfl rfl (by kernel_rfl) (fun _ _ _ h=>h) (Or.inl ⟨by rfl,?_⟩) ?_ ?_
 rotate_left
 · exact wr_
 rotate_left
 · exact ap_
 refine Za (i:=2) (N:=some 7) (v:=?_) (a':=?_) #[true,true,true,false,false,false,false,false,false,false,false] rfl rfl (by kernel_rfl) (fun _ _ _ h=>h) (Or.inl ⟨by rfl,?_⟩) ?_ ?_
 rotate_left
 · exact wr_
 rotate_left
 · exact ap_
 refine Za (i:=3) (N:=some 8) (v:=?_) (a':=?_) #[true,true,true,true,false,false,false,false,false,false,false] rfl rfl (by kernel_rfl) (fun _ _ _ h=>h) (Or.inl ⟨by rfl,?_⟩) ?_ ?_
 rotate_left
 · exact wr_
 rotate_left
 · exact ap_
 refine take_ (i:=4) (N:=some 9) (v:=?_) (a':=?_) #[true,true,true,true,true,false,false,false,false,false,false] rfl rfl (by kernel_rfl) (fun _ _ _ h=>h) (Or.inl ⟨by rfl,?_⟩) hHeld ?_ ?_
 rotate_left
 ·rintro w' s0;have c0:=s0.c;have c1:=s0.b0;have c2:=s0.b1;have c3:=s0.b2;have c4:=s0.b3;clear s0
  go_simp
  with_reducible rfl
 rotate_left
 · exact ap_
 refine take_ (i:=5) (N:=some 10) (v:=?_) (a':=?_) #[true,true,true,true,true,true,false,false,false,false,false] rfl rfl (by kernel_rfl) (fun _ _ _ h=>h) (Or.inl ⟨by rfl,?_⟩) hHeld ?_ ?_
 rotate_left
 ·rintro w' s0;have c0:=s0.c;have c1:=s0.b0;have c2:=s0.b1;have c3:=s0.b2;have c4:=s0.b3;clear s0
  go_simp
  with_reducible rfl
 rotate_left
 · exact ap_
 refine one_ (i:=6) (N:=some 11) #[true,true,true,true,true,true,true,false,false,false,false] rfl rfl (by kernel_rfl) (by decide) (fun K hK=>?_)
 refine value_ (v:=.slice (some ⟨Wb.drew.heap.size,0,none⟩) 1 1) (w1:=Wb.drew.alloc (.cells #[.int .i64 op,.int .i64 a,.int .i64 b,.int .i64 n] 31)) rfl rfl (by kernel_rfl) ?_
 refine hK.out _ _ (aL.out.later ((Below.refl _ _).alloc (Nat.le_refl _) _)) (fun hHeld=>?_)
 clear hK K;refine norm_ (a':=?_) ?_ ?_
 rotate_left
 ·show Act.put _ (some 11) _=_
  simp only [Act.put,List.setIfInBounds_toArray,List.set_cons_zero,List.set_cons_succ,Ub,Uf];rfl
 refine one_ (i:=7) (N:=some 12) #[true,true,true,true,true,true,true,true,false,false,false] rfl rfl (by kernel_rfl) (by decide) (fun K hK=>?_)
 refine Kd.R_append_step k31 (w0:=w) w.heap.size rfl (.tmp 9) (.tmp 11) 25 31 (.agg #[(.int .i64 0),(.int .i64 0),(.int .i64 0),(.int .i64 0)]) 32 rfl Try.underlying25 info31 rfl (by decide) (by omega) (.slice Ac code.length cc) code (⟨op,a,b,n⟩:Xf.I) [.int .i64 op,.int .i64 a,.int .i64 b,.int .i64 n] (fun _=>True) (fun _=>False) rfl (by rfl) (Vg _ _ _ (⟨op,a,b,n⟩:Xf.I)) (fun _ hk=>hk.elim) (fun _ _=>trivial) HROW.out HBEL.out HSZ.out HLEN.out ?_
 intro v1 w1 hq1 hb1 hg1 bN;rw [← bQ.out] at hq1;obtain ⟨A1,c1,dA⟩:=Kd.Yo hq1;subst dA;have bT:=Xa.mk hq1;have HB1:=Xa.mk hb1;have bB:=Xa.mk hg1;have hx1:=(aL.out.grown hg1 HNG.out HNB.out).c;have hf1:=Xf.frz (bB.out.block g HGL.out HNG.out) HGB.out;clear hq1 hb1 hg1 bN;refine hK.out _ _ (aL.out.grown bB.out HNG.out HNB.out) (fun hHeld=>?_)
 clear hK K;refine norm_ (a':=?_) ?_ ?_
 rotate_left
 ·show Act.put _ (some 12) _=_
  simp only [Act.put,List.setIfInBounds_toArray,List.set_cons_zero,List.set_cons_succ,Ub,Uf];rfl
 refine Za (i:=8) (N:=some 13) (v:=?_) (a':=?_) #[true,true,true,true,true,true,true,true,true,false,false] rfl rfl (by kernel_rfl) (fun _ _ _ h=>h) (Or.inl ⟨by rfl,?_⟩) ?_ ?_
 rotate_left
 · exact wr_
 rotate_left
 · exact ap_
 refine Za (i:=9) (N:=some 14) (v:=?_) (a':=?_) #[true,true,true,true,true,true,true,true,true,true,false] rfl rfl (by kernel_rfl) (fun _ _ _ h=>h) (Or.inl ⟨by rfl,?_⟩) ?_ ?_
 rotate_left
 · exact wr_
 rotate_left
 · exact ap_
 refine last_ (i:=10) (N:=none) #[true,true,true,true,true,true,true,true,true,true,true] rfl rfl (by kernel_rfl) (by decide) (fun K hK=>?_)
 refine skip_ (w1:=w1.setCell ⟨g,0,none⟩ (.slice A1 aI.length c1)) rfl rfl ?_ ?_
 ·first|(go_simp;done)|(go_simp;rfl)
 refine hK.out _ _ ?_
 clear hK K;refine done_ (by kernel_rfl) ?_
 skip
 have hg2:w1.heap[g]?=some (.cells #[.slice Ac code.length cc,vl] 51 (0,0)):=(bB.out.block g HGL.out HNG.out).trans HGB.out;have HW2:Xa ((w1.setCell ⟨g,0,none⟩ (.slice A1 aI.length c1)).heap[g]?=some (.cells #[.slice A1 aI.length c1,vl] 51 (0,0))):=⟨by simp [World.setCell,Array.getElem?_modify,hg2]⟩;have HG2:=Xa.mk hg2;obtain ⟨w2,hw2⟩:∃ w2,w1.setCell ⟨g,0,none⟩ (.slice A1 aI.length c1)=w2:=⟨_,rfl⟩;have hR:=Xf.R_set (i:=0) (u:=.slice A1 aI.length c1) bT.out hg2 (by decide);have hL:=Xf.R_set (i:=0) (u:=.slice A1 aI.length c1) (Kd.R_over HLROW.out HROW.out (by decide) bB.out) hg2 (by decide);have hB:=(HB1.out.trans (show Below w.heap.size w1 (w1.setCell ⟨g,0,none⟩ (.slice A1 aI.length c1)) from ⟨rfl,rfl,rfl,by simp,fun k hk=>Below.heap_setCell _ _ _ k (fun e=>by have h1:k=g:=e;have:=HGE.out;omega)⟩))
 have hK:∀ (k:Nat) (cs:Array Value) (q:TypeId),W.heap[k]?=some (Obj.cells cs q (0,0))→q≠31→q≠1→q≠51→(w1.setCell ⟨g,0,none⟩ (.slice A1 aI.length c1)).heap[k]?=some (Obj.cells cs q (0,0)):=fun k cs q hk h1 _ h3=>by
  have hk1:Wb.drew.heap[k]?=some (Obj.cells cs q (0,0)):=(HBD.out.block k (Array.getElem?_eq_some_iff.1 hk).1).trans hk
  have hk2:w1.heap[k]?=some (Obj.cells cs q (0,0)):=(bB.out.block k (Array.getElem?_eq_some_iff.1 hk1).1 (fun e=>by
   obtain ⟨cells,hc⟩:=Kd.R_typed HROW.out k e.symm;rw [hk1] at hc
   injection hc with hc
   injection hc with _ hc
   exact h1 hc)).trans hk1
  refine (Below.heap_setCell _ _ _ k (fun e=>?_)).trans hk2
  have h4:k=g:=e;subst h4;rw [hk2] at hg2
  injection hg2 with hg2
  injection hg2 with _ hg2
  exact h3 hg2
 have hS:W.heap.size≤(w1.setCell ⟨g,0,none⟩ (.slice A1 aI.length c1)).heap.size:=by
  have:=HBD.out.size
  have:=bB.out.size
  simp
  omega
 rw [hw2] at HW2 hR hL hB hK hS ⊢;have HR2:=Xa.mk hR;have HL2:=Xa.mk hL;have HB2:=Xa.mk hB;have bX:=Xa.mk hK;have HS2:=Xa.mk hS
 have hx2:w2.cell? ⟨g,0,none⟩=some (.slice A1 aI.length c1):=by simp [World.cell?,HW2.out]
 clear hg2 hw2 hR hL hB hK hS hx1 hf1 aL HROW HLROW bT HB1 bB HG2 HGB HNG HNB hHeld;go_wp2
 go_ret
 have hlen:(aI.length:Int) - 1=(code.length:Int):=by rw [bQ.out];simp
 have hl32:=HLEN.out;refine ⟨?_,⟨.slice A1 aI.length c1,?_⟩,⟨HB2.out,HS2.out,bX.out⟩⟩
 ·show Ending.returned (Value.int .i64 (wrap64 ((aI.length:Int) - 1)))=_
  rw [hlen]
  have:wrap64 (code.length:Int)=(code.length:Int):=by unfold wrap64;omega
  rw [this]
 ·rw [← bQ.out];exact ⟨HW2.out,HR2.out,HL2.out,HB2.out,HGE.out⟩
theorem Xf.M.below {w W W1:World} {g:Nat} {vc vl:Value} {code:List Xf.I} {late:List (Nat × Nat × Nat)} (h:Xf.M w g vc vl code late W) (hb:Below W.heap.size W W1):Xf.M w g vc vl code late W1:=
 ⟨(hb.block g (Array.getElem?_eq_some_iff.1 h.box).1).trans h.box,Kd.Zf h.row hb,Kd.Zf h.lrow hb,Xe h.bel hb,h.ge⟩
theorem Xf.Kp.of_below {w W W1:World} (h:Below w.heap.size w W) (hb:Below W.heap.size W W1):Xf.Kp w W W1:=⟨Xe h hb,hb.size,fun k cs q hk _ _ _=>(hb.block k (Array.getElem?_eq_some_iff.1 hk).1).trans hk⟩
def Xf.PB (b g:Nat) (W:World):Prop:=W.heap[b]?=some (Obj.cells #[.pointer (some ⟨g,0,none⟩)] 48 (0,0))
def Xf.IB (b:Nat) (n:Int) (W:World):Prop:=W.heap[b]?=some (Obj.cells #[.int .i64 n] 3 (0,0))
theorem Xf.PB.keep {b g:Nat} {w W W':World} (h:Xf.PB b g W) (hk:Xf.Kp w W W'):Xf.PB b g W':=hk.cells b _ _ h (by decide) (by decide) (by decide)
theorem Xf.IB.keep {b:Nat} {n:Int} {w W W':World} (h:Xf.IB b n W) (hk:Xf.Kp w W W'):Xf.IB b n W':=hk.cells b _ _ h (by decide) (by decide) (by decide)
theorem Xf.PB.cell {b g:Nat} {W:World} (h:Xf.PB b g W):W.cell? ⟨b,0,none⟩=some (.pointer (some ⟨g,0,none⟩)):=by
 unfold Xf.PB at h
 simp only [World.cell?,h];rfl
theorem Xf.IB.cell {b:Nat} {n:Int} {W:World} (h:Xf.IB b n W):W.cell? ⟨b,0,none⟩=some (.int .i64 n):=by
 unfold Xf.IB at h
 simp only [World.cell?,h];rfl
theorem Xf.forward (w:World) (g:Nat) (vc vl:Value) (code:List Xf.I) (late:List (Nat × Nat × Nat)) (W:World) (op a b n:Int) (hM:Xf.M w g vc vl code late W) (hl:code.length≤1000000) :
  Calls Try.prog 71 #[.pointer (some ⟨g,0,none⟩),.agg #[.int .i64 op,.int .i64 a,.int .i64 b,.int .i64 n]] W fun e W'=>∃ cb ab,e=.returned (.func (.func 78) #[] #[.pointer (some ⟨cb,0,none⟩),.pointer (some ⟨ab,0,none⟩)])∧
   Xf.PB cb g W'∧Xf.IB ab (code.length:Int) W'∧(∃ bV,Xf.M w g bV vl (code ++ [⟨op,a,b,n⟩]) late W')∧Xf.Kp w W W':=by
 have hb1:Below W.heap.size W ((W.alloc (.cells #[.pointer (some ⟨g,0,none⟩)] 48)).alloc (.cells #[.int .i64 op,.int .i64 a,.int .i64 b,.int .i64 n] 31)):=((Below.refl _ _).alloc (Nat.le_refl _) _).alloc (by simp) _;have hp1:Xf.PB W.heap.size g ((W.alloc (.cells #[.pointer (some ⟨g,0,none⟩)] 48)).alloc (.cells #[.int .i64 op,.int .i64 a,.int .i64 b,.int .i64 n] 31)):=(Below.heap_alloc _ _ _ (by simp)).trans (World.alloc_heap_new W _)
 have hi1:((W.alloc (.cells #[.pointer (some ⟨g,0,none⟩)] 48)).alloc (.cells #[.int .i64 op,.int .i64 a,.int .i64 b,.int .i64 n] 31)).heap[W.heap.size+1]?=some (.cells #[.int .i64 op,.int .i64 a,.int .i64 b,.int .i64 n] 31 (0,0)):=by
  have:=World.alloc_heap_new (W.alloc (.cells #[.pointer (some ⟨g,0,none⟩)] 48)) (.cells #[.int .i64 op,.int .i64 a,.int .i64 b,.int .i64 n] 31)
  rw [World.size_alloc] at this;exact this
 obtain ⟨W1,hW1⟩:∃ W1,((W.alloc (.cells #[.pointer (some ⟨g,0,none⟩)] 48)).alloc (.cells #[.int .i64 op,.int .i64 a,.int .i64 b,.int .i64 n] 31))=W1:=⟨_,rfl⟩;rw [hW1] at hb1 hp1 hi1;have X:=Lib.hid (Xf.emit w g vc vl code late W1 op a b n (hM.below hb1) hl);have cB:=Xa.mk (Xf.Kp.of_below hM.bel hb1);have z0:=hp1.cell
 have z1:W1.cell? ⟨W.heap.size+1,0,none⟩=some (.int .i64 op):=by simp only [World.cell?,hi1];rfl
 have z2:W1.cell? ⟨W.heap.size+1,1,none⟩=some (.int .i64 a):=by simp only [World.cell?,hi1];rfl
 have z3:W1.cell? ⟨W.heap.size+1,2,none⟩=some (.int .i64 b):=by simp only [World.cell?,hi1];rfl
 have z4:W1.cell? ⟨W.heap.size+1,3,none⟩=some (.int .i64 n):=by simp only [World.cell?,hi1];rfl
 have aM:=Xa.mk hp1;clear hb1 hp1 hi1 hM hl
 go_enter Try.func71,Try.ntmps71
 go_wp2_with (fail)
 try rw [hW1]
 clear hW1;refine X.out.mono ?_
 rintro e w2 ⟨rfl,⟨bV,hm2⟩,hk2⟩
 have bI:=Xa.mk hm2;have bX:=Xa.mk hk2;clear X z0 z1 z2 z3 z4 hm2 hk2;go_wp2
 go_ret
 have hb3:Below w2.heap.size w2 (w2.alloc (.cells #[.int .i64 (code.length:Int)] 3)):=(Below.refl _ _).alloc (Nat.le_refl _) _;have hk3:=Xf.Kp.of_below bI.out.bel hb3;exact ⟨W.heap.size,w2.heap.size,rfl,(aM.out.keep bX.out).keep hk3,World.alloc_heap_new w2 _,⟨bV,bI.out.below hb3⟩,(cB.out.trans bX.out).trans hk3⟩
theorem Xf.infoF:(Try.prog.info? 1).map (fun i=>(i.zero,i.size,i.bytes))=some (some Value.nilFunc,1,8):=by kernel_rfl
structure Xf.ET (cb g:Nat) (vl:Value) (W:World):Prop where
 c:W.cell? ⟨cb,0,none⟩=some (.pointer (some ⟨g,0,none⟩))
 l:W.cell? ⟨g,1,none⟩=some vl
theorem Xf.ET.later {cb g:Nat} {vl:Value} {W W1:World} (h:Xf.ET cb g vl W) (hb:Below W.heap.size W W1):Xf.ET cb g vl W1:=⟨cell_later hb h.c,cell_later hb h.l⟩
theorem Xf.ET.grown {cb g:Nat} {vl:Value} {W W1:World} {row:Option Nat} (h:Xf.ET cb g vl W) (hg:W.grownBy W1 row) (h1:some cb≠row) (h2:some g≠row):Xf.ET cb g vl W1:=⟨cell_grown hg h.c h1,cell_grown hg h.l h2⟩
theorem Xf.ne_row {α:Type} {d:Kd α} {e base:Nat} {ok:Nat→Prop} {W:World} {v:Value} {xs:List α} {k:Nat} {cs:Array Value} {t:TypeId} (h:Kd.R d e W base ok v xs) (hk:W.heap[k]?=some (Obj.cells cs t (0,0))) (ht:t≠e):some k≠v.ownBlock:=fun e'=>by
 obtain ⟨cells,hc⟩:=Kd.R_typed h k e'.symm;rw [hk] at hc
 injection hc with hc
 injection hc with _ hc
 exact ht hc
theorem Xf.tell (w:World) (g:Nat) (vc vl:Value) (code:List Xf.I) (late:List (Nat × Nat × Nat)) (W:World) (cb ab:Nat) (hM:Xf.M w g vc vl code late W) (hl:late.length≤1000000) (hp:Xf.PB cb g W) :
  Calls Try.prog 78 #[.pointer (some ⟨cb,0,none⟩),.pointer (some ⟨ab,0,none⟩)] W fun e W'=>(∃ v,e=.returned v)∧∃ t dF,Xf.IB t (code.length:Int) W'∧Xf.M w g vc dF code (late ++ [(t,cb,ab)]) W'∧Xf.Kp w W W':=by
 obtain ⟨Ac,cc,rfl⟩:=Kd.Yo hM.row;obtain ⟨Al,cl,rfl⟩:=Kd.Yo hM.lrow;obtain ⟨aK,hc2⟩:∃ l2:List (Nat × Nat × Nat),l2=late ++ [(W.heap.size,cb,ab)]:=⟨_,rfl⟩;have bQ:=Xa.mk hc2;clear hc2;have z0:=hp.cell
 have z1:W.cell? ⟨g,0,none⟩=some (.slice Ac code.length cc):=by simp only [World.cell?,hM.box];rfl
 have hti:=World.alloc_heap_new W (.cells #[.int .i64 (code.length:Int)] 3);obtain ⟨Wb,hWb⟩:∃ Wb,W.alloc (.cells #[.int .i64 (code.length:Int)] 3)=Wb:=⟨_,rfl⟩
 have hbb:Below W.heap.size W Wb:=by rw [← hWb];exact (Below.refl _ _).alloc (Nat.le_refl _) _
 have hbd:Below W.heap.size W Wb.drew:=Xy hbb;rw [hWb] at hti;have hMd:=hM.below hbd;have hpd:Xf.PB cb g Wb.drew:=hp.keep (Xf.Kp.of_below hM.bel hbd);have aL:Xa (Xf.ET cb g (.slice Al late.length cl) Wb.drew):=⟨⟨hpd.cell,by simp only [World.cell?,hMd.box];rfl⟩⟩;have HNC:=Xa.mk (Xf.ne_row hMd.lrow hpd (by decide));have HNG:=Xa.mk (Xf.ne_row hMd.lrow hMd.box (by decide));have HGL:Xa (g<Wb.drew.heap.size):=⟨(Array.getElem?_eq_some_iff.1 hMd.box).1⟩;have HGB:=Xa.mk hMd.box;have HROW:=Xa.mk hMd.row;have HLROW:=Xa.mk hMd.lrow;have HBEL:=Xa.mk hMd.bel;have HSZ:=Xa.mk (show w.heap.size≤Wb.drew.heap.size from Nat.le_trans hM.bel.size hbd.size);have HLEN:Xa ((late.length+1) * 8≤140737488355328):=⟨by omega⟩;have HKD:=Xa.mk (Xf.Kp.of_below hM.bel hbd);have HTI:Xa (Xf.IB W.heap.size (code.length:Int) Wb.drew):=⟨hti⟩;have HGE:=Xa.mk hM.ge;clear hti hbb hbd hMd hpd hM hl hp
 go_enter Try.func78,Try.ntmps78
 go_upto_region 1 with (fail)
 try rw [hWb]
 clear hWb z0 z1;refine start_ (n:=11) (S:=Xf.ET cb g (.slice Al late.length cl)) (ds:=[10]) #[false,false,false,false,false,false,false,false,false,false,false] (by kernel_rfl) rfl (by rfl) aL.out (fun hHeld=>?_)
 refine Za (i:=5) (N:=some 13) (v:=?_) (a':=?_) #[false,false,false,false,false,true,false,false,false,false,false] rfl rfl (by kernel_rfl) (fun _ _ _ h=>h) (Or.inl ⟨by rfl,?_⟩) ?_ ?_
 rotate_left
 · exact wr_
 rotate_left
 · exact ap_
 refine take_ (i:=0) (N:=some 8) (v:=?_) (a':=?_) #[true,false,false,false,false,true,false,false,false,false,false] rfl rfl (by kernel_rfl) (fun _ _ _ h=>h) (Or.inl ⟨by rfl,?_⟩) hHeld ?_ ?_
 rotate_left
 ·rintro w' s0;have c0:=s0.c;have c1:=s0.l;clear s0
  go_simp
  with_reducible rfl
 rotate_left
 · exact ap_
 refine take_ (i:=1) (N:=some 9) (v:=?_) (a':=?_) #[true,true,false,false,false,true,false,false,false,false,false] rfl rfl (by kernel_rfl) (fun _ _ _ h=>h) (Or.inl ⟨by rfl,?_⟩) hHeld ?_ ?_
 rotate_left
 ·rintro w' s0;have c0:=s0.c;have c1:=s0.l;clear s0
  go_simp
  with_reducible rfl
 rotate_left
 · exact ap_
 refine Za (i:=2) (N:=some 10) (v:=?_) (a':=?_) #[true,true,true,false,false,true,false,false,false,false,false] rfl rfl (by kernel_rfl) (fun _ _ _ h=>h) (Or.inl ⟨by rfl,?_⟩) ?_ ?_
 rotate_left
 · exact wr_
 rotate_left
 · exact ap_
 refine Za (i:=3) (N:=some 11) (v:=?_) (a':=?_) #[true,true,true,true,false,true,false,false,false,false,false] rfl rfl (by kernel_rfl) (fun _ _ _ h=>h) (Or.inl ⟨by rfl,?_⟩) ?_ ?_
 rotate_left
 · exact wr_
 rotate_left
 · exact ap_
 refine take_ (i:=4) (N:=some 12) (v:=?_) (a':=?_) #[true,true,true,true,true,true,false,false,false,false,false] rfl rfl (by kernel_rfl) (fun _ _ _ h=>h) (Or.inl ⟨by rfl,?_⟩) hHeld ?_ ?_
 rotate_left
 ·rintro w' s0;have c0:=s0.c;have c1:=s0.l;clear s0
  go_simp
  with_reducible rfl
 rotate_left
 · exact ap_
 refine one_ (i:=6) (N:=some 14) #[true,true,true,true,true,true,true,false,false,false,false] rfl rfl (by kernel_rfl) (by decide) (fun K hK=>?_)
 refine value_ (v:=.slice (some ⟨Wb.drew.heap.size,0,none⟩) 1 1) (w1:=Wb.drew.alloc (.cells #[Xf.lateV (W.heap.size,cb,ab)] 1)) rfl rfl (by kernel_rfl) ?_
 refine hK.out _ _ (aL.out.later ((Below.refl _ _).alloc (Nat.le_refl _) _)) (fun hHeld=>?_)
 clear hK K;refine norm_ (a':=?_) ?_ ?_
 rotate_left
 ·show Act.put _ (some 14) _=_
  simp only [Act.put,List.setIfInBounds_toArray,List.set_cons_zero,List.set_cons_succ,Ub,Uf];rfl
 refine one_ (i:=7) (N:=some 15) #[true,true,true,true,true,true,true,true,false,false,false] rfl rfl (by kernel_rfl) (by decide) (fun K hK=>?_)
 refine Kd.R_append_step Xf.kl (w0:=w) w.heap.size rfl (.tmp 12) (.tmp 14) 49 1 Value.nilFunc 8 rfl Try.underlying49 Xf.infoF rfl (by decide) (by omega) (.slice Al late.length cl) late (W.heap.size,cb,ab) [Xf.lateV (W.heap.size,cb,ab)] (fun _=>True) (fun _=>False) rfl (by rfl) rfl (fun _ hk=>hk.elim) (fun _ _=>trivial) HLROW.out HBEL.out HSZ.out HLEN.out ?_
 intro v1 w1 hq1 hb1 hg1 bN;rw [← bQ.out] at hq1;obtain ⟨A1,c1,dA⟩:=Kd.Yo hq1;subst dA;have bT:=Xa.mk hq1;have HB1:=Xa.mk hb1;have bB:=Xa.mk hg1;have hx1:=(aL.out.grown hg1 HNC.out HNG.out).l
 have hf1:w1.frozen? ⟨g,1,none⟩=false:=by have h_:=(bB.out.block g HGL.out HNG.out).trans HGB.out;simp [World.frozen?,h_]
 clear hq1 hb1 hg1 bN;refine hK.out _ _ (aL.out.grown bB.out HNC.out HNG.out) (fun hHeld=>?_)
 clear hK K;refine norm_ (a':=?_) ?_ ?_
 rotate_left
 ·show Act.put _ (some 15) _=_
  simp only [Act.put,List.setIfInBounds_toArray,List.set_cons_zero,List.set_cons_succ,Ub,Uf];rfl
 refine Za (i:=8) (N:=some 16) (v:=?_) (a':=?_) #[true,true,true,true,true,true,true,true,true,false,false] rfl rfl (by kernel_rfl) (fun _ _ _ h=>h) (Or.inl ⟨by rfl,?_⟩) ?_ ?_
 rotate_left
 · exact wr_
 rotate_left
 · exact ap_
 refine Za (i:=9) (N:=some 17) (v:=?_) (a':=?_) #[true,true,true,true,true,true,true,true,true,true,false] rfl rfl (by kernel_rfl) (fun _ _ _ h=>h) (Or.inl ⟨by rfl,?_⟩) ?_ ?_
 rotate_left
 · exact wr_
 rotate_left
 · exact ap_
 refine last_ (i:=10) (N:=none) #[true,true,true,true,true,true,true,true,true,true,true] rfl rfl (by kernel_rfl) (by decide) (fun K hK=>?_)
 refine skip_ (w1:=w1.setCell ⟨g,1,none⟩ (.slice A1 aK.length c1)) rfl rfl ?_ ?_
 ·first|(go_simp;done)|(go_simp;rfl)
 refine hK.out _ _ ?_
 clear hK K;refine done_ (by kernel_rfl) ?_
 skip
 have hg2:w1.heap[g]?=some (.cells #[.slice Ac code.length cc,.slice Al late.length cl] 51 (0,0)):=(bB.out.block g HGL.out HNG.out).trans HGB.out
 have hbx:(w1.setCell ⟨g,1,none⟩ (.slice A1 aK.length c1)).heap[g]?=some (.cells #[.slice Ac code.length cc,.slice A1 aK.length c1] 51 (0,0)):=by simp [World.setCell,Array.getElem?_modify,hg2]
 have hR:=Xf.R_set (i:=1) (u:=.slice A1 aK.length c1) (Kd.R_over HROW.out HLROW.out (by decide) bB.out) hg2 (by decide);have hL:=Xf.R_set (i:=1) (u:=.slice A1 aK.length c1) bT.out hg2 (by decide);have hB:=(HB1.out.trans (show Below w.heap.size w1 (w1.setCell ⟨g,1,none⟩ (.slice A1 aK.length c1)) from ⟨rfl,rfl,rfl,by simp,fun k hk=>Below.heap_setCell _ _ _ k (fun e=>by have h1:k=g:=e;have:=HGE.out;omega)⟩))
 have hK:∀ (k:Nat) (cs:Array Value) (q:TypeId),Wb.drew.heap[k]?=some (Obj.cells cs q (0,0))→q≠31→q≠1→q≠51→(w1.setCell ⟨g,1,none⟩ (.slice A1 aK.length c1)).heap[k]?=some (Obj.cells cs q (0,0)):=fun k cs q hk1 _ h2 h3=>by
  have hk2:w1.heap[k]?=some (Obj.cells cs q (0,0)):=(bB.out.block k (Array.getElem?_eq_some_iff.1 hk1).1 (Xf.ne_row HLROW.out hk1 h2)).trans hk1;refine (Below.heap_setCell _ _ _ k (fun e=>?_)).trans hk2
  have h4:k=g:=e;subst h4;rw [hk2] at hg2
  injection hg2 with hg2
  injection hg2 with _ hg2
  exact h3 hg2
 have hS:Wb.drew.heap.size≤(w1.setCell ⟨g,1,none⟩ (.slice A1 aK.length c1)).heap.size:=by
  have:=bB.out.size
  simpa using this
 have hk3:Xf.Kp w Wb.drew (w1.setCell ⟨g,1,none⟩ (.slice A1 aK.length c1)):=⟨hB,hS,hK⟩
 have HE:=Xa.mk (show ∃ t dF,Xf.IB t (code.length:Int) (w1.setCell ⟨g,1,none⟩ (.slice A1 aK.length c1))∧Xf.M w g (.slice Ac code.length cc) dF code (late ++ [(t,cb,ab)]) (w1.setCell ⟨g,1,none⟩ (.slice A1 aK.length c1))∧Xf.Kp w W (w1.setCell ⟨g,1,none⟩ (.slice A1 aK.length c1)) from
  ⟨W.heap.size,_,HTI.out.keep hk3,⟨hbx,hR,by rw [← bQ.out];exact hL,hB,HGE.out⟩,HKD.out.trans hk3⟩)
 clear hg2 hbx hR hL hB hK hS hk3 hx1 hf1 aL HROW HLROW bT HB1 bB HGB HNG HNC hHeld HTI HKD;go_wp2
 go_end0
 exact ⟨⟨_,rfl⟩,HE.out⟩
structure Xf.EU (t cb ab g:Nat) (vc:Value) (n target:Int) (W:World):Prop where
 p:W.cell? ⟨cb,0,none⟩=some (.pointer (some ⟨g,0,none⟩))
 c:W.cell? ⟨g,0,none⟩=some vc
 i:W.cell? ⟨ab,0,none⟩=some (.int .i64 n)
 t:W.cell? ⟨t,0,none⟩=some (.int .i64 target)
theorem Xf.run (w:World) (g:Nat) (vc vl:Value) (code:List Xf.I) (late:List (Nat × Nat × Nat)) (W:World) (t cb ab:Nat) (n target:Int) (hM:Xf.M w g vc vl code late W) (hp:Xf.PB cb g W) (hi:Xf.IB ab n W) (ht:Xf.IB t target W) (h0:0≤n) (h1:n<(code.length:Int)) :
  Calls Try.prog 79 #[.pointer (some ⟨t,0,none⟩),.pointer (some ⟨cb,0,none⟩),.pointer (some ⟨ab,0,none⟩)] W fun e W'=>(∃ v,e=.returned v)∧Xf.M w g vc vl (code.set n.toNat ⟨(Xb code n).f0,(Xb code n).f1,(Xb code n).f2,target⟩) late W'∧Xf.Kp w W W':=by
 have hbd:Below W.heap.size W W.drew:=Xy (Below.refl _ _);have hMd:=hM.below hbd;have hk:=Xf.Kp.of_below hM.bel hbd;obtain ⟨go,cc,ec,gb,gl,cells,hG⟩:=Kd.R_form hMd.row (by omega);subst ec;obtain ⟨ce,hcl,hMe,hcc,hfr⟩:=Kd.R_elem hMd.row z31 n h0 h1;obtain rfl:=k31_openM hMe;have hP:=Kd.R_seg hMd.row n h0 h1 (seg:=[.int .i64 target]) (j:=3) hcl hcc (show 3+1≤4 from by decide) (x':=(⟨(Xb code n).f0,(Xb code n).f1,(Xb code n).f2,target⟩:Xf.I)) (Vg _ _ (fun _=>False) (⟨(Xb code n).f0,(Xb code n).f1,(Xb code n).f2,target⟩:Xf.I)) (fun _ h=>h.elim);have hx3:W.drew.cell? ⟨go,n.toNat * 4+3,none⟩=some (.int .i64 (code.getD n.toNat z31).f3):=hcc 3 _ rfl;have hf3:W.drew.frozen? ⟨go,n.toNat * 4+3,none⟩=false:=hfr 3;have hR:Kd.R k31 31 (W.drew.setCell ⟨go,n.toNat * 4+3,none⟩ (.int .i64 target)) w.heap.size (fun _=>True) (.slice (some ⟨go,0,none⟩) code.length cc) (code.set n.toNat ⟨(Xb code n).f0,(Xb code n).f1,(Xb code n).f2,target⟩):=hP.1;have hgg:W.drew.grownBy (W.drew.setCell ⟨go,n.toNat * 4+3,none⟩ (.int .i64 target)) (some go):=hP.2;have hG2:W.drew.heap[go]?=some (.cells cells 31 (0,0)):=hG;have hL:Kd.R Xf.kl 1 (W.drew.setCell ⟨go,n.toNat * 4+3,none⟩ (.int .i64 target)) w.heap.size (fun _=>True) vl late:=Xf.R_set hMd.lrow hG2 (by decide)
 have hng:g≠go:=fun e=>by
  have:=hMd.box
  rw [e,hG2] at this
  injection this with this
  injection this with _ this
  exact absurd this (by decide)
 have hbx:(W.drew.setCell ⟨go,n.toNat * 4+3,none⟩ (.int .i64 target)).heap[g]?=some (.cells #[.slice (some ⟨go,0,none⟩) code.length cc,vl] 51 (0,0)):=(Below.heap_setCell _ _ _ g hng).trans hMd.box;have hB:Below w.heap.size w (W.drew.setCell ⟨go,n.toNat * 4+3,none⟩ (.int .i64 target)):=hMd.bel.trans ⟨rfl,rfl,rfl,by simp,fun k hk=>Below.heap_setCell _ _ _ k (fun e=>by have h1:k=go:=e;omega)⟩
 have hK:Xf.Kp w W.drew (W.drew.setCell ⟨go,n.toNat * 4+3,none⟩ (.int .i64 target)):=⟨hB,by simp,fun k cs q hk1 h1 _ _=>(Below.heap_setCell _ _ _ k (fun e=>by
  have h4:k=go:=e;subst h4;rw [hG2] at hk1
  injection hk1 with hk1
  injection hk1 with _ hk1
  exact h1 hk1.symm)).trans hk1⟩
 have HE:=Xa.mk (show Xf.M w g (.slice (some ⟨go,0,none⟩) code.length cc) vl (code.set n.toNat ⟨(Xb code n).f0,(Xb code n).f1,(Xb code n).f2,target⟩) late (W.drew.setCell ⟨go,n.toNat * 4+3,none⟩ (.int .i64 target))∧Xf.Kp w W (W.drew.setCell ⟨go,n.toNat * 4+3,none⟩ (.int .i64 target)) from ⟨⟨hbx,by have h_:=(Kd.R_reads' hR).1;simpa using hR,hL,hB,hM.ge⟩,hk.trans hK⟩);have aL:Xa (Xf.EU t cb ab g (.slice (some ⟨go,0,none⟩) code.length cc) n target W.drew):=⟨⟨(hp.keep hk).cell,by simp only [World.cell?,hMd.box];rfl,(hi.keep hk).cell,(ht.keep hk).cell⟩⟩;have p0:=eq_true h0;have q0:=eq_true h1;clear hbd hMd hk gb gl hG hcl hMe hcc hfr hP hR hgg hG2 hL hng hbx hB hK hM hp hi ht h0 h1
 go_enter Try.func79,Try.ntmps79
 refine start_ (n:=9) (S:=Xf.EU t cb ab g (.slice (some ⟨go,0,none⟩) code.length cc) n target) (ds:=[8]) #[false,false,false,false,false,false,false,false,false] (by kernel_rfl) rfl (by rfl) aL.out (fun hHeld=>?_)
 refine take_ (i:=0) (N:=some 3) (v:=?_) (a':=?_) #[true,false,false,false,false,false,false,false,false] rfl rfl (by kernel_rfl) (fun _ _ _ h=>h) (Or.inl ⟨by rfl,?_⟩) hHeld ?_ ?_
 rotate_left
 ·rintro w' s0;have c0:=s0.p;have c1:=s0.c;have c2:=s0.i;have c3:=s0.t;clear s0
  go_simp
  with_reducible rfl
 rotate_left
 · exact ap_
 refine Za (i:=1) (N:=some 4) (v:=?_) (a':=?_) #[true,true,false,false,false,false,false,false,false] rfl rfl (by kernel_rfl) (fun _ _ _ h=>h) (Or.inl ⟨by rfl,?_⟩) ?_ ?_
 rotate_left
 · exact wr_
 rotate_left
 · exact ap_
 refine Za (i:=2) (N:=some 5) (v:=?_) (a':=?_) #[true,true,true,false,false,false,false,false,false] rfl rfl (by kernel_rfl) (fun _ _ _ h=>h) (Or.inl ⟨by rfl,?_⟩) ?_ ?_
 rotate_left
 · exact wr_
 rotate_left
 · exact ap_
 refine take_ (i:=3) (N:=some 6) (v:=?_) (a':=?_) #[true,true,true,true,false,false,false,false,false] rfl rfl (by kernel_rfl) (fun _ _ _ h=>h) (Or.inl ⟨by rfl,?_⟩) hHeld ?_ ?_
 rotate_left
 ·rintro w' s0;have c0:=s0.p;have c1:=s0.c;have c2:=s0.i;have c3:=s0.t;clear s0
  go_simp
  with_reducible rfl
 rotate_left
 · exact ap_
 refine take_ (i:=4) (N:=some 7) (v:=?_) (a':=?_) #[true,true,true,true,true,false,false,false,false] rfl rfl (by kernel_rfl) (fun _ _ _ h=>h) (Or.inl ⟨by rfl,?_⟩) hHeld ?_ ?_
 rotate_left
 ·rintro w' s0;have c0:=s0.p;have c1:=s0.c;have c2:=s0.i;have c3:=s0.t;clear s0
  go_simp
  with_reducible rfl
 rotate_left
 · exact ap_
 refine take_ (i:=5) (N:=some 8) (v:=?_) (a':=?_) #[true,true,true,true,true,true,false,false,false] rfl rfl (by kernel_rfl) (fun _ _ _ h=>h) (Or.inl ⟨by rfl,?_⟩) hHeld ?_ ?_
 rotate_left
 ·rintro w' s0;have c0:=s0.p;have c1:=s0.c;have c2:=s0.i;have c3:=s0.t;clear s0
  go_simp
  with_reducible rfl
 rotate_left
 · exact ap_
 refine Za (i:=6) (N:=some 9) (v:=?_) (a':=?_) #[true,true,true,true,true,true,true,false,false] rfl rfl (by kernel_rfl) (fun _ _ _ h=>h) (Or.inl ⟨by rfl,?_⟩) ?_ ?_
 rotate_left
 · exact wr_
 rotate_left
 · exact ap_
 refine Za (i:=7) (N:=some 10) (v:=?_) (a':=?_) #[true,true,true,true,true,true,true,true,false] rfl rfl (by kernel_rfl) (fun _ _ _ h=>h) (Or.inl ⟨by rfl,?_⟩) ?_ ?_
 rotate_left
 · exact wr_
 rotate_left
 · exact ap_
 refine last_ (i:=8) (N:=none) #[true,true,true,true,true,true,true,true,true] rfl rfl (by kernel_rfl) (by decide) (fun K hK=>?_)
 refine skip_ (w1:=W.drew.setCell ⟨go,n.toNat * 4+3,none⟩ (.int .i64 target)) rfl rfl ?_ ?_
 ·first|(go_simp;done)|(go_simp;rfl)
 refine hK.out _ _ ?_
 clear hK K;refine done_ (by kernel_rfl) ?_
 skip
 clear hx3 hf3 aL p0 q0 hHeld;go_wp2
 go_end0
 exact ⟨⟨_,rfl⟩,HE.out⟩
abbrev Xf.St:=List Xf.I × List (Nat × Nat)
def Xf.Rel (g:Nat) (x:Nat × Nat × Nat) (p:Nat × Nat) (W:World):Prop:=Xf.IB x.1 (p.2:Int) W∧Xf.PB x.2.1 g W∧Xf.IB x.2.2 (p.1:Int) W
def Xf.Rels (g:Nat):List (Nat × Nat × Nat)→List (Nat × Nat)→World→Prop
 |[],[],_=>True
 |x :: l,p :: q,W=>Xf.Rel g x p W∧Xf.Rels g l q W
 |_,_,_=>False
theorem Xf.Rels.keep {g:Nat} {w W W':World} (hk:Xf.Kp w W W'):∀ {l:List (Nat × Nat × Nat)} {q:List (Nat × Nat)},Xf.Rels g l q W→Xf.Rels g l q W'
 |[],[],_=>trivial
 |x :: l,p :: q,h=>⟨⟨h.1.1.keep hk,h.1.2.1.keep hk,h.1.2.2.keep hk⟩,Xf.Rels.keep hk h.2⟩
 |[],_ :: _,h=>h.elim
 |_ :: _,[],h=>h.elim
theorem Xf.Rels.snoc {g:Nat} {W:World} {x:Nat × Nat × Nat} {p:Nat × Nat} (hx:Xf.Rel g x p W):∀ {l:List (Nat × Nat × Nat)} {q:List (Nat × Nat)},Xf.Rels g l q W→Xf.Rels g (l ++ [x]) (q ++ [p]) W
 |[],[],_=>⟨hx,trivial⟩
 |y :: l,r :: q,h=>⟨h.1,Xf.Rels.snoc hx h.2⟩
 |[],_ :: _,h=>h.elim
 |_ :: _,[],h=>h.elim
theorem Xf.Rels.len {g:Nat} {W:World}:∀ {l:List (Nat × Nat × Nat)} {q:List (Nat × Nat)},Xf.Rels g l q W→l.length=q.length
 |[],[],_=>rfl
 |x :: l,p :: q,h=>by rw [List.length_cons,List.length_cons,Xf.Rels.len h.2]
 |[],_ :: _,h=>h.elim
 |_ :: _,[],h=>h.elim
structure Xf.CS (w:World) (g:Nat) (st:Xf.St) (W:World):Prop where
 ex:∃ vc vl late,Xf.M w g vc vl st.1 late W∧Xf.Rels g late st.2 W
def Xf.simple (k:Int):Int:=if k=1 then 1 else if k=2 then 2 else if k=3 then 3 else if k=4 then 4 else if k=5 then 5 else if k=9 then 10 else if k=10 then 11 else if k=11 then 12 else 0
def Xf.put (st:Xf.St) (i:Xf.I):Xf.St:=(st.1 ++ [i],st.2)
def Xf.tells (st:Xf.St) (p:Nat):Xf.St:=(st.1,st.2 ++ [(p,st.1.length)])
def Xf.cS (cL:List Xf.T→Xf.St→Xf.St) (s:Xf.T) (st:Xf.St):Xf.St:=
 if s.f0=6 then
  Xf.tells (cL s.f5 (Xf.tells (Xf.put (cL s.f4 (Xf.put st ⟨6,s.f1,0,0⟩)) ⟨7,0,0,0⟩) st.1.length)) (cL s.f4 (Xf.put st ⟨6,s.f1,0,0⟩)).1.length
 else if s.f0=7 then Xf.tells (Xf.put (cL s.f4 (Xf.put st ⟨6,s.f1,0,0⟩)) ⟨7,0,0,(st.1.length:Int)⟩) st.1.length
 else if s.f0=8 then Xf.put (cL s.f4 (Xf.put st ⟨8,s.f1,0,0⟩)) ⟨9,s.f1,0,0⟩
 else Xf.put st ⟨Xf.simple s.f0,s.f1,s.f2,s.f3⟩
def Xf.cL:Nat→List Xf.T→Xf.St→Xf.St
 |0,_,st=>st
 |d+1,l,st=>l.foldl (fun st s=>Xf.cS (Xf.cL d) s st) st
def Xf.cnt:Nat→List Xf.T→Nat
 |0,_=>0
 |d+1,l=>(l.map (fun s=>1+Xf.cnt d s.f4+Xf.cnt d s.f5)).sum
def Xf.Deep:Nat→List Xf.T→Prop
 |0,l=>l=[]
 |d+1,l=>∀ s ∈ l,Xf.Deep d s.f4∧Xf.Deep d s.f5
def Xf.room (st:Xf.St) (n:Nat):Prop:=st.1.length+3 * n≤100000∧st.2.length+3 * n≤100000
def Xf.Grows (cL:List Xf.T→Xf.St→Xf.St) (cnt:List Xf.T→Nat):Prop:=∀ l st,(cL l st).1.length≤st.1.length+3 * cnt l∧(cL l st).2.length≤st.2.length+3 * cnt l
theorem Xf.cS_grows {cL:List Xf.T→Xf.St→Xf.St} {cnt:List Xf.T→Nat} (h:Xf.Grows cL cnt) (s:Xf.T) (st:Xf.St):(Xf.cS cL s st).1.length≤st.1.length+3 * (1+cnt s.f4+cnt s.f5)∧(Xf.cS cL s st).2.length≤st.2.length+3 * (1+cnt s.f4+cnt s.f5):=by
 unfold Xf.cS
 split
 ·have h1:=h s.f4 (Xf.put st ⟨6,s.f1,0,0⟩);have h2:=h s.f5 (Xf.tells (Xf.put (cL s.f4 (Xf.put st ⟨6,s.f1,0,0⟩)) ⟨7,0,0,0⟩) st.1.length);simp only [Xf.tells,Xf.put,List.length_append,List.length_singleton] at h1 h2 ⊢
  omega
 ·split
  ·have h1:=h s.f4 (Xf.put st ⟨6,s.f1,0,0⟩);simp only [Xf.tells,Xf.put,List.length_append,List.length_singleton] at h1 ⊢
   omega
  ·split
   ·have h1:=h s.f4 (Xf.put st ⟨8,s.f1,0,0⟩);simp only [Xf.put,List.length_append,List.length_singleton] at h1 ⊢
    omega
   ·simp only [Xf.put,List.length_append,List.length_singleton]
    omega
theorem Xf.cL_grows:∀ d,Xf.Grows (Xf.cL d) (Xf.cnt d)
 |0=>fun l st=>⟨by simp [Xf.cL],by simp [Xf.cL]⟩
 |d+1=>fun l=>by
  induction l with
  |nil=>intro st;simp [Xf.cL]
  |cons s l ih=>
   intro st;have h1:=Xf.cS_grows (Xf.cL_grows d) s st;have h2:=ih (Xf.cS (Xf.cL d) s st);simp only [Xf.cL,Xf.cnt,List.foldl_cons,List.map_cons,List.sum_cons] at h2 ⊢
   omega
def Xf.LS (w:World) (g d:Nat):Prop:=∀ (l:List Xf.T) (A:Option Addr) (c:Nat) (st:Xf.St) (W:World),Xf.Deep d l→Kd.C k63 w A l.length l→l.length≤c→Xf.CS w g st W→Xf.room st (Xf.cnt d l)→
 Calls Try.prog 33 #[.pointer (some ⟨g,0,none⟩),.slice A l.length c] W fun e W'=>(∃ v,e=.returned v)∧Xf.CS w g (Xf.cL d l st) W'∧Xf.Kp w W W'
def Xf.SS (w:World) (g d:Nat):Prop:=∀ (s:Xf.T) (A4:Option Addr) (c4:Nat) (A5:Option Addr) (c5:Nat) (st:Xf.St) (W:World),Xf.Deep d s.f4→Xf.Deep d s.f5→Kd.C k63 w A4 s.f4.length s.f4→s.f4.length≤c4→Kd.C k63 w A5 s.f5.length s.f5→s.f5.length≤c5→Xf.CS w g st W→Xf.room st (1+Xf.cnt d s.f4+Xf.cnt d s.f5)→
 Calls Try.prog 59 #[.pointer (some ⟨g,0,none⟩),.agg #[.int .i64 s.f0,.int .i64 s.f1,.int .i64 s.f2,.int .i64 s.f3,.slice A4 s.f4.length c4,.slice A5 s.f5.length c5]] W fun e W'=>(∃ v,e=.returned v)∧Xf.CS w g (Xf.cS (Xf.cL d) s st) W'∧Xf.Kp w W W'
theorem Xf.cnt_take (d:Nat) (l:List Xf.T) (i:Nat) (h:i<l.length):Xf.cnt (d+1) (l.take (i+1))=Xf.cnt (d+1) (l.take i)+(1+Xf.cnt d l[i].f4+Xf.cnt d l[i].f5):=by
 rw [List.take_succ_eq_append_getElem h];simp only [Xf.cnt,List.map_append,List.map_cons,List.map_nil,List.sum_append,List.sum_cons,List.sum_nil,Nat.add_zero]
theorem Xf.cnt_take_le (d:Nat) (l:List Xf.T) (i:Nat):Xf.cnt (d+1) (l.take i)≤Xf.cnt (d+1) l:=by
 conv=>rhs;rw [← List.take_append_drop i l]
 simp only [Xf.cnt,List.map_append,List.sum_append]
 omega
theorem Xf.cL_take (d:Nat) (l:List Xf.T) (i:Nat) (h:i<l.length) (st:Xf.St):Xf.cL (d+1) (l.take (i+1)) st=Xf.cS (Xf.cL d) l[i] (Xf.cL (d+1) (l.take i) st):=by
 rw [List.take_succ_eq_append_getElem h];simp only [Xf.cL,List.foldl_append,List.foldl_cons,List.foldl_nil]
theorem Xf.Kp.refl {w W:World} (h:Below w.heap.size w W):Xf.Kp w W W:=⟨h,Nat.le_refl _,fun _ _ _ h _ _ _=>h⟩
theorem Xf.CS.bel {w:World} {g:Nat} {st:Xf.St} {W:World} (h:Xf.CS w g st W):Below w.heap.size w W:=by obtain ⟨_,_,_,h,_⟩:=h.ex;exact h.bel
theorem Xf.CS.below {w:World} {g:Nat} {st:Xf.St} {W W1:World} (h:Xf.CS w g st W) (hb:Below W.heap.size W W1):Xf.CS w g st W1:=by
 obtain ⟨vc,vl,late,hM,hr⟩:=h.ex;exact ⟨vc,vl,late,hM.below hb,hr.keep (Xf.Kp.of_below hM.bel hb)⟩
theorem Xf.list0 (w:World) (g:Nat):Xf.LS w g 0:=by
 intro l A c st W hd hC hlc hs hr;obtain rfl:l=[]:=hd;have HS:=Xa.mk hs;clear hC hlc hs hr
 go_enter Try.func33,Try.ntmps33
 go_wp2
 go_loopw [8] (fun v8 w'=>v8=.int .i64 0∧Xa (w'=W)) (fun _ _=>0)
 case atStart=>exact ⟨rfl,⟨rfl⟩⟩
 case round=>
  obtain ⟨rfl,hw⟩:=hrel;go_wp2
  go_end0
  exact ⟨⟨_,rfl⟩,by rw [hw.out];exact HS.out,by rw [hw.out];exact Xf.Kp.refl HS.out.bel⟩
theorem Xf.listS (w:World) (g d:Nat) (hS:Xf.SS w g d):Xf.LS w g (d+1):=by
 intro l A c st W hd hC hlc hs hr;have HLEN:=Xa.mk (show l.length≤9223372036854775807 from hC.2.1);have HD:=Xa.mk hd;have HC:=Xa.mk hC;have aL:=Xa.mk hs;have HR:=Xa.mk hr;have HSS:=Lib.hid hS;have dG:=Xa.mk (Xf.Kp.refl hs.bel);clear hd hC hs hr hS
 go_enter Try.func33,Try.ntmps33
 go_wp2
 go_loopw [8] (fun v8 w'=>∃ (i:Nat),v8=.int .i64 (i:Int)∧Xa (i≤l.length)∧Xa (Xf.CS w g (Xf.cL (d+1) (l.take i) st) w')∧Xa (Xf.Kp w W w')) (fun v8 _=>l.length - (intOf v8).toNat)
 case atStart=>exact ⟨0,rfl,⟨Nat.zero_le _⟩,⟨by rw [List.take_zero];exact aL.out⟩,dG⟩
 case round=>
  clear dG aL;obtain ⟨i,rfl,Hi,HS,HK⟩:=hrel;by_cases hlt:i<l.length
  ·have Hlt:=Xa.mk hlt;have hd1:decide ((i:Int)<(l.length:Int))=true:=decide_eq_true (by omega)
   have p0:0≤(i:Int):=by omega
   have q0:(i:Int)<(l.length:Int):=by omega
   obtain ⟨ad,A4,c4,A5,c5,e,hx0,hx1,hx2,hx3,hx4,hx5,hl4,hi4,hl5,hi5⟩:=at_T63 HC.out (i:Int) p0 q0;subst e
   have hrd:Xc l (i:Int)=l[i]:=by unfold Xc;simp [List.getD_eq_getElem?_getD,hlt]
   rw [hrd] at hx0 hx1 hx2 hx3 hx4 hx5 hl4 hi4 hl5 hi5;have hin:=HD.out l[i] (List.getElem_mem hlt);have hstep:=Xf.cL_take d l i hlt st;have hc1:=Xf.cnt_take d l i hlt;have hc2:=Xf.cnt_take_le d l (i+1);have hg:=Xf.cL_grows (d+1) (l.take i) st
   have hroom:Xf.room (Xf.cL (d+1) (l.take i) st) (1+Xf.cnt d l[i].f4+Xf.cnt d l[i].f5):=by
    have:=HR.out
    unfold Xf.room at this ⊢
    omega
   obtain ⟨s,hs⟩:∃ s,l[i]=s:=⟨_,rfl⟩;rw [hs] at hx0 hx1 hx2 hx3 hx4 hx5 hl4 hi4 hl5 hi5 hin hstep hroom;replace hx0:=cell_later HS.out.bel hx0;replace hx1:=cell_later HS.out.bel hx1;replace hx2:=cell_later HS.out.bel hx2;replace hx3:=cell_later HS.out.bel hx3;replace hx4:=cell_later HS.out.bel hx4;replace hx5:=cell_later HS.out.bel hx5;simp only [Int.toNat_natCast] at hx0 hx1 hx2 hx3 hx4 hx5;have X:=Lib.hid (fun W1 (hb:Below wr.heap.size wr W1)=>HSS.out s A4 c4 A5 c5 _ W1 hin.1 hin.2 hi4 hl4 hi5 hl5 (HS.out.below hb) hroom);have Hstep:=Xa.mk hstep;have HB0:=Xa.mk HS.out.bel
   have dC:IntKind.i64.wrap ((i:Int)+1)=((i+1:Nat):Int):=by have:=HLEN.out;rw [IntKind.wrap_i64];omega
   have hjw:wrap64 ((i:Int)+1)=((i+1:Nat):Int):=by have:=HLEN.out;unfold wrap64;omega
   replace p0:=eq_true p0;replace q0:=eq_true q0;clear hstep hlt hrd hl4 hi4 hl5 hi5 hs hin hc1 hc2 hg hroom HS;go_wp2_with (fail)
   refine (X.out _ (by repeat (first|exact Below.refl _ _|apply Vj)) ).mono ?_
   rintro e w1 ⟨⟨v,rfl⟩,hs1,hk1⟩
   have dN:=Xa.mk hs1;have cB:=Xa.mk (HK.out.trans ((Xf.Kp.of_below HB0.out (by repeat (first|exact Below.refl _ _|apply Vj))).trans hk1));clear hs1 hk1 X hx0 hx1 hx2 hx3 hx4 hx5 HK HB0;go_wp2
   go_roundw
   case measure=>have:=Hlt.out;simp [intOf];omega
   case rel=>exact ⟨i+1,by simp,⟨Hlt.out⟩,⟨by rw [Hstep.out];exact dN.out⟩,cB⟩
  ·have hi:i=l.length:=by have:=Hi.out;omega
   subst hi;have HS2:Xa (Xf.CS w g (Xf.cL (d+1) l st) wr):=⟨by have:=HS.out;rwa [List.take_of_length_le (Nat.le_refl _)] at this⟩;clear hlt HS Hi;go_wp2
   go_end0
   exact ⟨⟨_,rfl⟩,HS2.out,HK.out⟩
theorem Xf.stmt6 (w:World) (g d:Nat) (hL:Xf.LS w g d) (s:Xf.T) (A4:Option Addr) (c4:Nat) (A5:Option Addr) (c5:Nat) (st:Xf.St) (W:World) (hd4:Xf.Deep d s.f4) (hd5:Xf.Deep d s.f5) (aZ:Kd.C k63 w A4 s.f4.length s.f4) (hl4:s.f4.length≤c4) (bA:Kd.C k63 w A5 s.f5.length s.f5) (hl5:s.f5.length≤c5) (hs:Xf.CS w g st W) (hr:Xf.room st (1+Xf.cnt d s.f4+Xf.cnt d s.f5)) (k_:s.f0=6) :
  Calls Try.prog 59 #[.pointer (some ⟨g,0,none⟩),.agg #[.int .i64 s.f0,.int .i64 s.f1,.int .i64 s.f2,.int .i64 s.f3,.slice A4 s.f4.length c4,.slice A5 s.f5.length c5]] W fun e W'=>(∃ v,e=.returned v)∧Xf.CS w g (Xf.cS (Xf.cL d) s st) W'∧Xf.Kp w W W':=by
 have K_:=Xa.mk k_;clear k_;obtain ⟨bO,bP,bC,aJ,_⟩:=hs.ex;obtain ⟨Ac,cc,rfl⟩:=Kd.Yo aJ.row;have aT:=Xa.mk aJ.box;have aU:=Xa.mk (Array.getElem?_eq_some_iff.1 aJ.box).1;clear aJ;have aL:=Xa.mk hs;have HL:=Lib.hid hL;have HD4:=Xa.mk hd4;have HD5:=Xa.mk hd5;have bR:=Xa.mk aZ;have bW:=Xa.mk bA;have bS:=Xa.mk hl4;have bY:=Xa.mk hl5;have HR:=Xa.mk hr;have hxq:(W.alloc (.cells #[.int .i64 s.f0,.int .i64 s.f1,.int .i64 s.f2,.int .i64 s.f3,.slice A4 s.f4.length c4,.slice A5 s.f5.length c5] 63)).heap[W.heap.size]?=some (.cells #[.int .i64 s.f0,.int .i64 s.f1,.int .i64 s.f2,.int .i64 s.f3,.slice A4 s.f4.length c4,.slice A5 s.f5.length c5] 63 (0,0)):=World.alloc_heap_new W _;have HXq:=Xa.mk hxq;clear hs hL hd4 hd5 aZ bA hl4 hl5 hr hxq;have hmm:=@run_makeMap Try.prog;have hm0:=Uc.made (W.alloc (.cells #[.int .i64 s.f0,.int .i64 s.f1,.int .i64 s.f2,.int .i64 s.f3,.slice A4 s.f4.length c4,.slice A5 s.f5.length c5] 63));simp only [World.size_alloc] at hm0;have HM:=Xa.mk hm0;clear hm0;have HB1:=Xa.mk (((Below.refl _ W).alloc (Nat.le_refl _) (.cells #[.int .i64 s.f0,.int .i64 s.f1,.int .i64 s.f2,.int .i64 s.f3,.slice A4 s.f4.length c4,.slice A5 s.f5.length c5] 63)).alloc (by simp) (.map #[] 0));have HB2:=Xa.mk ((Below.refl (W.heap.size+1) (W.alloc (.cells #[.int .i64 s.f0,.int .i64 s.f1,.int .i64 s.f2,.int .i64 s.f3,.slice A4 s.f4.length c4,.slice A5 s.f5.length c5] 63))).alloc (by simp) (.map #[] 0));have dE:(s.f0 == 6)=true:=beq_iff_eq.mpr K_.out
 go_enter Try.func59,Try.ntmps59
 go_wp2_with (first|(refine Vd rfl _ _ _ (.inr rfl) Try.underlying89 Try.underlying3 _ rfl rfl HM.out ?_;intro w1 hm1 hg1 hs1;have aC:=Xa.mk hm1;have aD:=Xa.mk (Below.grown HB1.out hg1 (Below.size HB1.out) (fun k e=>by cases e;omega));have aF:=Xa.mk (HB2.out.trans (Below.grown (Below.refl (W.heap.size+1) _) hg1 (by have h_:=Below.size HB2.out;rw [World.size_alloc] at h_;exact h_) (fun k e=>by cases e;omega)));clear hg1 hs1 hm1 HM HB1 HB2;have HM:=aC;have HB1:=aD;have HB2:=aF;clear aC aD aF;skip;have h_:=(HB2.out.block W.heap.size (by omega)).trans HXq.out;have b0:w1.cell? ⟨W.heap.size,0,none⟩=some (.int .i64 s.f0):=(by simp only [World.cell?,h_];rfl);have b1:w1.cell? ⟨W.heap.size,1,none⟩=some (.int .i64 s.f1):=(by simp only [World.cell?,h_];rfl);have b2:w1.cell? ⟨W.heap.size,2,none⟩=some (.int .i64 s.f2):=(by simp only [World.cell?,h_];rfl);have b3:w1.cell? ⟨W.heap.size,3,none⟩=some (.int .i64 s.f3):=(by simp only [World.cell?,h_];rfl);have bF:=(HB1.out.block g aU.out).trans aT.out;have c0:w1.cell? ⟨g,0,none⟩=some (.slice Ac st.1.length cc):=(by simp only [World.cell?,bF];rfl);clear h_ bF))
 clear hmm b0 b1 b2 b3 c0;have HS:=Xa.mk (aL.out.below HB1.out);have HK:=Xa.mk (Xf.Kp.of_below aL.out.bel HB1.out);have HBX:=Xa.mk ((HB2.out.block W.heap.size (by omega)).trans HXq.out);clear aL HB1 HB2 HXq aT aU
 have b0:w1.cell? ⟨W.heap.size,0,none⟩=some (.int .i64 s.f0):=by simp only [World.cell?,HBX.out];rfl
 have b1:w1.cell? ⟨W.heap.size,1,none⟩=some (.int .i64 s.f1):=by simp only [World.cell?,HBX.out];rfl
 have b2:w1.cell? ⟨W.heap.size,2,none⟩=some (.int .i64 s.f2):=by simp only [World.cell?,HBX.out];rfl
 have b3:w1.cell? ⟨W.heap.size,3,none⟩=some (.int .i64 s.f3):=by simp only [World.cell?,HBX.out];rfl
 have b4:w1.cell? ⟨W.heap.size,4,none⟩=some (.slice A4 s.f4.length c4):=by simp only [World.cell?,HBX.out];rfl
 have b5:w1.cell? ⟨W.heap.size,5,none⟩=some (.slice A5 s.f5.length c5):=by simp only [World.cell?,HBX.out];rfl
 have k6:=K_.out;have g1:=Xf.cL_grows d s.f4 (Xf.put st ⟨6,s.f1,0,0⟩);have g2:=Xf.cL_grows d s.f5 (Xf.tells (Xf.put (Xf.cL d s.f4 (Xf.put st ⟨6,s.f1,0,0⟩)) ⟨7,0,0,0⟩) st.1.length);have HFIN:=Xa.mk (show Xf.cS (Xf.cL d) s st=Xf.tells (Xf.cL d s.f5 (Xf.tells (Xf.put (Xf.cL d s.f4 (Xf.put st ⟨6,s.f1,0,0⟩)) ⟨7,0,0,0⟩) st.1.length)) (Xf.cL d s.f4 (Xf.put st ⟨6,s.f1,0,0⟩)).1.length from by unfold Xf.cS;rw [if_pos k6]);have hr2:=HR.out
 unfold Xf.room at hr2
 simp only [Xf.tells,Xf.put,List.length_append,List.length_singleton] at g1 g2;have HB0:Xa (st.1.length≤1000000):=⟨by omega⟩;have bE:Xa (Xf.room (Xf.put st ⟨6,s.f1,0,0⟩) (Xf.cnt d s.f4)):=⟨by unfold Xf.room;simp only [Xf.put,List.length_append,List.length_singleton];omega⟩;have HB2:Xa ((Xf.cL d s.f4 (Xf.put st ⟨6,s.f1,0,0⟩)).1.length≤1000000):=⟨by simp only [Xf.put];omega⟩;have HB3:Xa ((Xf.put (Xf.cL d s.f4 (Xf.put st ⟨6,s.f1,0,0⟩)) ⟨7,0,0,0⟩).2.length≤1000000):=⟨by simp only [Xf.put];omega⟩;have bU:Xa (Xf.room (Xf.tells (Xf.put (Xf.cL d s.f4 (Xf.put st ⟨6,s.f1,0,0⟩)) ⟨7,0,0,0⟩) st.1.length) (Xf.cnt d s.f5)):=⟨by unfold Xf.room;simp only [Xf.tells,Xf.put,List.length_append,List.length_singleton];omega⟩;have bZ:Xa ((Xf.cL d s.f5 (Xf.tells (Xf.put (Xf.cL d s.f4 (Xf.put st ⟨6,s.f1,0,0⟩)) ⟨7,0,0,0⟩) st.1.length)).2.length≤1000000):=⟨by simp only [Xf.tells,Xf.put,List.length_append,List.length_singleton];omega⟩;clear g1 g2 hr2 k6 HR K_;obtain ⟨aV,aS,aB,aO,hr_⟩:=HS.out.ex;have X:=Lib.hid (Xf.forward w g aV aS st.1 aB _ 6 s.f1 0 0 aO HB0.out);have aN:=Xa.mk hr_;clear aO hr_;refine X.out.mono ?_
 rintro e W1 ⟨cZ,cO,rfl,bK,bJ,⟨aQ,aP⟩,aA⟩
 have hs_:Xf.CS w g (Xf.put st ⟨6,s.f1,0,0⟩) W1:=⟨aQ,aS,aB,aP,aN.out.keep aA⟩;have aM:=Xa.mk bK;have HI1:=Xa.mk bJ;clear bK bJ aP aN;have aC:=Xa.mk hs_;have aD:=Xa.mk (HK.out.trans aA);have aF:=Xa.mk (aA.cells _ _ _ HBX.out (by decide) (by decide) (by decide));clear HS HK HBX b0 b1 b2 b3 b4 b5 X hs_ aA;have HS:=aC;have HK:=aD;have HBX:=aF;clear aC aD aF
 have b0:W1.cell? ⟨W.heap.size,0,none⟩=some (.int .i64 s.f0):=by simp only [World.cell?,HBX.out];rfl
 have b1:W1.cell? ⟨W.heap.size,1,none⟩=some (.int .i64 s.f1):=by simp only [World.cell?,HBX.out];rfl
 have b2:W1.cell? ⟨W.heap.size,2,none⟩=some (.int .i64 s.f2):=by simp only [World.cell?,HBX.out];rfl
 have b3:W1.cell? ⟨W.heap.size,3,none⟩=some (.int .i64 s.f3):=by simp only [World.cell?,HBX.out];rfl
 have b4:W1.cell? ⟨W.heap.size,4,none⟩=some (.slice A4 s.f4.length c4):=by simp only [World.cell?,HBX.out];rfl
 have b5:W1.cell? ⟨W.heap.size,5,none⟩=some (.slice A5 s.f5.length c5):=by simp only [World.cell?,HBX.out];rfl
 have X:=Lib.hid (HL.out s.f4 _ _ (Xf.put st ⟨6,s.f1,0,0⟩) _ HD4.out bR.out bS.out HS.out bE.out);go_wp2_with (fail)
 refine X.out.mono ?_
 rintro e W2 ⟨⟨v_,rfl⟩,hs_,aA⟩
 have aC:=Xa.mk hs_;have aD:=Xa.mk (HK.out.trans aA);have aF:=Xa.mk (aA.cells _ _ _ HBX.out (by decide) (by decide) (by decide));have aH:=Xa.mk (aM.out.keep aA);have aG:=Xa.mk (HI1.out.keep aA);clear HS HK HBX b0 b1 b2 b3 b4 b5 X hs_ aA aM HI1;have HS:=aC;have HK:=aD;have HBX:=aF;clear aC aD aF;have aM:=aH;have HI1:=aG;clear aH aG
 have b0:W2.cell? ⟨W.heap.size,0,none⟩=some (.int .i64 s.f0):=by simp only [World.cell?,HBX.out];rfl
 have b1:W2.cell? ⟨W.heap.size,1,none⟩=some (.int .i64 s.f1):=by simp only [World.cell?,HBX.out];rfl
 have b2:W2.cell? ⟨W.heap.size,2,none⟩=some (.int .i64 s.f2):=by simp only [World.cell?,HBX.out];rfl
 have b3:W2.cell? ⟨W.heap.size,3,none⟩=some (.int .i64 s.f3):=by simp only [World.cell?,HBX.out];rfl
 have b4:W2.cell? ⟨W.heap.size,4,none⟩=some (.slice A4 s.f4.length c4):=by simp only [World.cell?,HBX.out];rfl
 have b5:W2.cell? ⟨W.heap.size,5,none⟩=some (.slice A5 s.f5.length c5):=by simp only [World.cell?,HBX.out];rfl
 obtain ⟨st2,bG⟩:∃ x,Xf.cL d s.f4 (Xf.put st ⟨6,s.f1,0,0⟩)=x:=⟨_,rfl⟩;rw [bG] at HS HB2 HB3 bU HFIN bZ;obtain ⟨aV,aS,aB,aO,hr_⟩:=HS.out.ex;have X:=Lib.hid (Xf.forward w g aV aS st2.1 aB _ 7 0 0 0 aO HB2.out);have aN:=Xa.mk hr_;clear aO hr_;go_wp2_with (fail)
 refine X.out.mono ?_
 rintro e W3 ⟨dP,dO,rfl,bK,bJ,⟨aQ,aP⟩,aA⟩
 have hs_:Xf.CS w g (Xf.put st2 ⟨7,0,0,0⟩) W3:=⟨aQ,aS,aB,aP,aN.out.keep aA⟩;have bD:=Xa.mk bK;have HI2:=Xa.mk bJ;clear bK bJ aP aN;have aC:=Xa.mk hs_;have aD:=Xa.mk (HK.out.trans aA);have aF:=Xa.mk (aA.cells _ _ _ HBX.out (by decide) (by decide) (by decide));have aH:=Xa.mk (aM.out.keep aA);have aG:=Xa.mk (HI1.out.keep aA);clear HS HK HBX b0 b1 b2 b3 b4 b5 X hs_ aA aM HI1;have HS:=aC;have HK:=aD;have HBX:=aF;clear aC aD aF;have aM:=aH;have HI1:=aG;clear aH aG
 have b0:W3.cell? ⟨W.heap.size,0,none⟩=some (.int .i64 s.f0):=by simp only [World.cell?,HBX.out];rfl
 have b1:W3.cell? ⟨W.heap.size,1,none⟩=some (.int .i64 s.f1):=by simp only [World.cell?,HBX.out];rfl
 have b2:W3.cell? ⟨W.heap.size,2,none⟩=some (.int .i64 s.f2):=by simp only [World.cell?,HBX.out];rfl
 have b3:W3.cell? ⟨W.heap.size,3,none⟩=some (.int .i64 s.f3):=by simp only [World.cell?,HBX.out];rfl
 have b4:W3.cell? ⟨W.heap.size,4,none⟩=some (.slice A4 s.f4.length c4):=by simp only [World.cell?,HBX.out];rfl
 have b5:W3.cell? ⟨W.heap.size,5,none⟩=some (.slice A5 s.f5.length c5):=by simp only [World.cell?,HBX.out];rfl
 obtain ⟨aV,aS,aB,aO,hr_⟩:=HS.out.ex;have X:=Lib.hid (Xf.tell w g aV aS (Xf.put st2 ⟨7,0,0,0⟩).1 aB _ cZ cO aO (by rw [hr_.len];exact HB3.out) aM.out);have aN:=Xa.mk hr_;clear aO hr_;go_wp2_with (fail)
 refine X.out.mono ?_
 rintro e W4 ⟨⟨v_,rfl⟩,t_,bH,bL,aP,aA⟩
 have hs_:Xf.CS w g (Xf.tells (Xf.put st2 ⟨7,0,0,0⟩) st.1.length) W4:=⟨aV,bH,_,aP,Xf.Rels.snoc ⟨bL,aM.out.keep aA,HI1.out.keep aA⟩ (aN.out.keep aA)⟩;clear aP aN bL;have aC:=Xa.mk hs_;have aD:=Xa.mk (HK.out.trans aA);have aF:=Xa.mk (aA.cells _ _ _ HBX.out (by decide) (by decide) (by decide));have aH:=Xa.mk (aM.out.keep aA);have aG:=Xa.mk (HI1.out.keep aA);have aY:=Xa.mk (bD.out.keep aA);have aX:=Xa.mk (HI2.out.keep aA);clear HS HK HBX b0 b1 b2 b3 b4 b5 X hs_ aA aM HI1 bD HI2;have HS:=aC;have HK:=aD;have HBX:=aF;clear aC aD aF;have aM:=aH;have HI1:=aG;clear aH aG;have bD:=aY;have HI2:=aX;clear aY aX
 have b0:W4.cell? ⟨W.heap.size,0,none⟩=some (.int .i64 s.f0):=by simp only [World.cell?,HBX.out];rfl
 have b1:W4.cell? ⟨W.heap.size,1,none⟩=some (.int .i64 s.f1):=by simp only [World.cell?,HBX.out];rfl
 have b2:W4.cell? ⟨W.heap.size,2,none⟩=some (.int .i64 s.f2):=by simp only [World.cell?,HBX.out];rfl
 have b3:W4.cell? ⟨W.heap.size,3,none⟩=some (.int .i64 s.f3):=by simp only [World.cell?,HBX.out];rfl
 have b4:W4.cell? ⟨W.heap.size,4,none⟩=some (.slice A4 s.f4.length c4):=by simp only [World.cell?,HBX.out];rfl
 have b5:W4.cell? ⟨W.heap.size,5,none⟩=some (.slice A5 s.f5.length c5):=by simp only [World.cell?,HBX.out];rfl
 have X:=Lib.hid (HL.out s.f5 _ _ (Xf.tells (Xf.put st2 ⟨7,0,0,0⟩) st.1.length) _ HD5.out bW.out bY.out HS.out bU.out);go_wp2_with (fail)
 refine X.out.mono ?_
 rintro e W5 ⟨⟨v_,rfl⟩,hs_,aA⟩
 have aC:=Xa.mk hs_;have aD:=Xa.mk (HK.out.trans aA);have aF:=Xa.mk (aA.cells _ _ _ HBX.out (by decide) (by decide) (by decide));have aH:=Xa.mk (aM.out.keep aA);have aG:=Xa.mk (HI1.out.keep aA);have aY:=Xa.mk (bD.out.keep aA);have aX:=Xa.mk (HI2.out.keep aA);clear HS HK HBX b0 b1 b2 b3 b4 b5 X hs_ aA aM HI1 bD HI2;have HS:=aC;have HK:=aD;have HBX:=aF;clear aC aD aF;have aM:=aH;have HI1:=aG;clear aH aG;have bD:=aY;have HI2:=aX;clear aY aX
 have b0:W5.cell? ⟨W.heap.size,0,none⟩=some (.int .i64 s.f0):=by simp only [World.cell?,HBX.out];rfl
 have b1:W5.cell? ⟨W.heap.size,1,none⟩=some (.int .i64 s.f1):=by simp only [World.cell?,HBX.out];rfl
 have b2:W5.cell? ⟨W.heap.size,2,none⟩=some (.int .i64 s.f2):=by simp only [World.cell?,HBX.out];rfl
 have b3:W5.cell? ⟨W.heap.size,3,none⟩=some (.int .i64 s.f3):=by simp only [World.cell?,HBX.out];rfl
 have b4:W5.cell? ⟨W.heap.size,4,none⟩=some (.slice A4 s.f4.length c4):=by simp only [World.cell?,HBX.out];rfl
 have b5:W5.cell? ⟨W.heap.size,5,none⟩=some (.slice A5 s.f5.length c5):=by simp only [World.cell?,HBX.out];rfl
 obtain ⟨dJ,dD⟩:∃ x,Xf.cL d s.f5 (Xf.tells (Xf.put st2 ⟨7,0,0,0⟩) st.1.length)=x:=⟨_,rfl⟩;rw [dD] at HS bZ HFIN;obtain ⟨aV,aS,aB,aO,hr_⟩:=HS.out.ex;have X:=Lib.hid (Xf.tell w g aV aS dJ.1 aB _ dP dO aO (by rw [hr_.len];exact bZ.out) bD.out);have aN:=Xa.mk hr_;clear aO hr_;go_wp2_with (fail)
 refine X.out.mono ?_
 rintro e W6 ⟨⟨v_,rfl⟩,t_,bH,bL,aP,aA⟩
 have hs_:Xf.CS w g (Xf.tells dJ st2.1.length) W6:=⟨aV,bH,_,aP,Xf.Rels.snoc ⟨bL,bD.out.keep aA,HI2.out.keep aA⟩ (aN.out.keep aA)⟩;clear aP aN bL;have aC:=Xa.mk hs_;have aD:=Xa.mk (HK.out.trans aA);have aF:=Xa.mk (aA.cells _ _ _ HBX.out (by decide) (by decide) (by decide));have aH:=Xa.mk (aM.out.keep aA);have aG:=Xa.mk (HI1.out.keep aA);have aY:=Xa.mk (bD.out.keep aA);have aX:=Xa.mk (HI2.out.keep aA);clear HS HK HBX b0 b1 b2 b3 b4 b5 X hs_ aA aM HI1 bD HI2;have HS:=aC;have HK:=aD;have HBX:=aF;clear aC aD aF;have aM:=aH;have HI1:=aG;clear aH aG;have bD:=aY;have HI2:=aX;clear aY aX
 have b0:W6.cell? ⟨W.heap.size,0,none⟩=some (.int .i64 s.f0):=by simp only [World.cell?,HBX.out];rfl
 have b1:W6.cell? ⟨W.heap.size,1,none⟩=some (.int .i64 s.f1):=by simp only [World.cell?,HBX.out];rfl
 have b2:W6.cell? ⟨W.heap.size,2,none⟩=some (.int .i64 s.f2):=by simp only [World.cell?,HBX.out];rfl
 have b3:W6.cell? ⟨W.heap.size,3,none⟩=some (.int .i64 s.f3):=by simp only [World.cell?,HBX.out];rfl
 have b4:W6.cell? ⟨W.heap.size,4,none⟩=some (.slice A4 s.f4.length c4):=by simp only [World.cell?,HBX.out];rfl
 have b5:W6.cell? ⟨W.heap.size,5,none⟩=some (.slice A5 s.f5.length c5):=by simp only [World.cell?,HBX.out];rfl
 go_wp2
 go_end0
 exact ⟨⟨_,rfl⟩,by rw [HFIN.out];exact HS.out,HK.out⟩
theorem Xf.stmt7 (w:World) (g d:Nat) (hL:Xf.LS w g d) (s:Xf.T) (A4:Option Addr) (c4:Nat) (A5:Option Addr) (c5:Nat) (st:Xf.St) (W:World) (hd4:Xf.Deep d s.f4) (hd5:Xf.Deep d s.f5) (aZ:Kd.C k63 w A4 s.f4.length s.f4) (hl4:s.f4.length≤c4) (bA:Kd.C k63 w A5 s.f5.length s.f5) (hl5:s.f5.length≤c5) (hs:Xf.CS w g st W) (hr:Xf.room st (1+Xf.cnt d s.f4+Xf.cnt d s.f5)) (k_:s.f0=7) :
  Calls Try.prog 59 #[.pointer (some ⟨g,0,none⟩),.agg #[.int .i64 s.f0,.int .i64 s.f1,.int .i64 s.f2,.int .i64 s.f3,.slice A4 s.f4.length c4,.slice A5 s.f5.length c5]] W fun e W'=>(∃ v,e=.returned v)∧Xf.CS w g (Xf.cS (Xf.cL d) s st) W'∧Xf.Kp w W W':=by
 have K_:=Xa.mk k_;clear k_;obtain ⟨bO,bP,bC,aJ,_⟩:=hs.ex;obtain ⟨Ac,cc,rfl⟩:=Kd.Yo aJ.row;have aT:=Xa.mk aJ.box;have aU:=Xa.mk (Array.getElem?_eq_some_iff.1 aJ.box).1;clear aJ;have aL:=Xa.mk hs;have HL:=Lib.hid hL;have HD4:=Xa.mk hd4;have HD5:=Xa.mk hd5;have bR:=Xa.mk aZ;have bW:=Xa.mk bA;have bS:=Xa.mk hl4;have bY:=Xa.mk hl5;have HR:=Xa.mk hr;have hxq:(W.alloc (.cells #[.int .i64 s.f0,.int .i64 s.f1,.int .i64 s.f2,.int .i64 s.f3,.slice A4 s.f4.length c4,.slice A5 s.f5.length c5] 63)).heap[W.heap.size]?=some (.cells #[.int .i64 s.f0,.int .i64 s.f1,.int .i64 s.f2,.int .i64 s.f3,.slice A4 s.f4.length c4,.slice A5 s.f5.length c5] 63 (0,0)):=World.alloc_heap_new W _;have HXq:=Xa.mk hxq;clear hs hL hd4 hd5 aZ bA hl4 hl5 hr hxq;have hmm:=@run_makeMap Try.prog;have hm0:=Uc.made (W.alloc (.cells #[.int .i64 s.f0,.int .i64 s.f1,.int .i64 s.f2,.int .i64 s.f3,.slice A4 s.f4.length c4,.slice A5 s.f5.length c5] 63));simp only [World.size_alloc] at hm0;have HM:=Xa.mk hm0;clear hm0;have HB1:=Xa.mk (((Below.refl _ W).alloc (Nat.le_refl _) (.cells #[.int .i64 s.f0,.int .i64 s.f1,.int .i64 s.f2,.int .i64 s.f3,.slice A4 s.f4.length c4,.slice A5 s.f5.length c5] 63)).alloc (by simp) (.map #[] 0));have HB2:=Xa.mk ((Below.refl (W.heap.size+1) (W.alloc (.cells #[.int .i64 s.f0,.int .i64 s.f1,.int .i64 s.f2,.int .i64 s.f3,.slice A4 s.f4.length c4,.slice A5 s.f5.length c5] 63))).alloc (by simp) (.map #[] 0));have dE:(s.f0 == 6)=false:=beq_eq_false_iff_ne.mpr (by have:=K_.out;omega);have dI:(s.f0 == 7)=true:=beq_iff_eq.mpr K_.out
 go_enter Try.func59,Try.ntmps59
 go_wp2_with (first|(refine Vd rfl _ _ _ (.inr rfl) Try.underlying89 Try.underlying3 _ rfl rfl HM.out ?_;intro w1 hm1 hg1 hs1;have aC:=Xa.mk hm1;have aD:=Xa.mk (Below.grown HB1.out hg1 (Below.size HB1.out) (fun k e=>by cases e;omega));have aF:=Xa.mk (HB2.out.trans (Below.grown (Below.refl (W.heap.size+1) _) hg1 (by have h_:=Below.size HB2.out;rw [World.size_alloc] at h_;exact h_) (fun k e=>by cases e;omega)));clear hg1 hs1 hm1 HM HB1 HB2;have HM:=aC;have HB1:=aD;have HB2:=aF;clear aC aD aF;skip;have h_:=(HB2.out.block W.heap.size (by omega)).trans HXq.out;have b0:w1.cell? ⟨W.heap.size,0,none⟩=some (.int .i64 s.f0):=(by simp only [World.cell?,h_];rfl);have b1:w1.cell? ⟨W.heap.size,1,none⟩=some (.int .i64 s.f1):=(by simp only [World.cell?,h_];rfl);have b2:w1.cell? ⟨W.heap.size,2,none⟩=some (.int .i64 s.f2):=(by simp only [World.cell?,h_];rfl);have b3:w1.cell? ⟨W.heap.size,3,none⟩=some (.int .i64 s.f3):=(by simp only [World.cell?,h_];rfl);have bF:=(HB1.out.block g aU.out).trans aT.out;have c0:w1.cell? ⟨g,0,none⟩=some (.slice Ac st.1.length cc):=(by simp only [World.cell?,bF];rfl);clear h_ bF))
 clear hmm b0 b1 b2 b3 c0;have HS:=Xa.mk (aL.out.below HB1.out);have HK:=Xa.mk (Xf.Kp.of_below aL.out.bel HB1.out);have HBX:=Xa.mk ((HB2.out.block W.heap.size (by omega)).trans HXq.out);clear aL HB1 HB2 HXq aT aU
 have b0:w1.cell? ⟨W.heap.size,0,none⟩=some (.int .i64 s.f0):=by simp only [World.cell?,HBX.out];rfl
 have b1:w1.cell? ⟨W.heap.size,1,none⟩=some (.int .i64 s.f1):=by simp only [World.cell?,HBX.out];rfl
 have b2:w1.cell? ⟨W.heap.size,2,none⟩=some (.int .i64 s.f2):=by simp only [World.cell?,HBX.out];rfl
 have b3:w1.cell? ⟨W.heap.size,3,none⟩=some (.int .i64 s.f3):=by simp only [World.cell?,HBX.out];rfl
 have b4:w1.cell? ⟨W.heap.size,4,none⟩=some (.slice A4 s.f4.length c4):=by simp only [World.cell?,HBX.out];rfl
 have b5:w1.cell? ⟨W.heap.size,5,none⟩=some (.slice A5 s.f5.length c5):=by simp only [World.cell?,HBX.out];rfl
 have k7:=K_.out;have g1:=Xf.cL_grows d s.f4 (Xf.put st ⟨6,s.f1,0,0⟩);have HFIN:=Xa.mk (show Xf.cS (Xf.cL d) s st=Xf.tells (Xf.put (Xf.cL d s.f4 (Xf.put st ⟨6,s.f1,0,0⟩)) ⟨7,0,0,(st.1.length:Int)⟩) st.1.length from by unfold Xf.cS;rw [if_neg (by omega),if_pos k7]);have hr2:=HR.out
 unfold Xf.room at hr2
 simp only [Xf.tells,Xf.put,List.length_append,List.length_singleton] at g1;have HB0:Xa (st.1.length≤1000000):=⟨by omega⟩;have bE:Xa (Xf.room (Xf.put st ⟨6,s.f1,0,0⟩) (Xf.cnt d s.f4)):=⟨by unfold Xf.room;simp only [Xf.put,List.length_append,List.length_singleton];omega⟩;have HB2:Xa ((Xf.cL d s.f4 (Xf.put st ⟨6,s.f1,0,0⟩)).1.length≤1000000):=⟨by simp only [Xf.put];omega⟩;have HB3:Xa ((Xf.put (Xf.cL d s.f4 (Xf.put st ⟨6,s.f1,0,0⟩)) ⟨7,0,0,(st.1.length:Int)⟩).2.length≤1000000):=⟨by simp only [Xf.put];omega⟩;clear g1 hr2 k7 HR K_;obtain ⟨aV,aS,aB,aO,hr_⟩:=HS.out.ex;have X:=Lib.hid (Xf.forward w g aV aS st.1 aB _ 6 s.f1 0 0 aO HB0.out);have aN:=Xa.mk hr_;clear aO hr_;refine X.out.mono ?_
 rintro e W1 ⟨cZ,cO,rfl,bK,bJ,⟨aQ,aP⟩,aA⟩
 have hs_:Xf.CS w g (Xf.put st ⟨6,s.f1,0,0⟩) W1:=⟨aQ,aS,aB,aP,aN.out.keep aA⟩;have aM:=Xa.mk bK;have HI1:=Xa.mk bJ;clear bK bJ aP aN;have aC:=Xa.mk hs_;have aD:=Xa.mk (HK.out.trans aA);have aF:=Xa.mk (aA.cells _ _ _ HBX.out (by decide) (by decide) (by decide));clear HS HK HBX b0 b1 b2 b3 b4 b5 X hs_ aA;have HS:=aC;have HK:=aD;have HBX:=aF;clear aC aD aF
 have b0:W1.cell? ⟨W.heap.size,0,none⟩=some (.int .i64 s.f0):=by simp only [World.cell?,HBX.out];rfl
 have b1:W1.cell? ⟨W.heap.size,1,none⟩=some (.int .i64 s.f1):=by simp only [World.cell?,HBX.out];rfl
 have b2:W1.cell? ⟨W.heap.size,2,none⟩=some (.int .i64 s.f2):=by simp only [World.cell?,HBX.out];rfl
 have b3:W1.cell? ⟨W.heap.size,3,none⟩=some (.int .i64 s.f3):=by simp only [World.cell?,HBX.out];rfl
 have b4:W1.cell? ⟨W.heap.size,4,none⟩=some (.slice A4 s.f4.length c4):=by simp only [World.cell?,HBX.out];rfl
 have b5:W1.cell? ⟨W.heap.size,5,none⟩=some (.slice A5 s.f5.length c5):=by simp only [World.cell?,HBX.out];rfl
 have X:=Lib.hid (HL.out s.f4 _ _ (Xf.put st ⟨6,s.f1,0,0⟩) _ HD4.out bR.out bS.out HS.out bE.out);go_wp2_with (fail)
 refine X.out.mono ?_
 rintro e W2 ⟨⟨v_,rfl⟩,hs_,aA⟩
 have aC:=Xa.mk hs_;have aD:=Xa.mk (HK.out.trans aA);have aF:=Xa.mk (aA.cells _ _ _ HBX.out (by decide) (by decide) (by decide));have aH:=Xa.mk (aM.out.keep aA);have aG:=Xa.mk (HI1.out.keep aA);clear HS HK HBX b0 b1 b2 b3 b4 b5 X hs_ aA aM HI1;have HS:=aC;have HK:=aD;have HBX:=aF;clear aC aD aF;have aM:=aH;have HI1:=aG;clear aH aG
 have b0:W2.cell? ⟨W.heap.size,0,none⟩=some (.int .i64 s.f0):=by simp only [World.cell?,HBX.out];rfl
 have b1:W2.cell? ⟨W.heap.size,1,none⟩=some (.int .i64 s.f1):=by simp only [World.cell?,HBX.out];rfl
 have b2:W2.cell? ⟨W.heap.size,2,none⟩=some (.int .i64 s.f2):=by simp only [World.cell?,HBX.out];rfl
 have b3:W2.cell? ⟨W.heap.size,3,none⟩=some (.int .i64 s.f3):=by simp only [World.cell?,HBX.out];rfl
 have b4:W2.cell? ⟨W.heap.size,4,none⟩=some (.slice A4 s.f4.length c4):=by simp only [World.cell?,HBX.out];rfl
 have b5:W2.cell? ⟨W.heap.size,5,none⟩=some (.slice A5 s.f5.length c5):=by simp only [World.cell?,HBX.out];rfl
 obtain ⟨st2,bG⟩:∃ x,Xf.cL d s.f4 (Xf.put st ⟨6,s.f1,0,0⟩)=x:=⟨_,rfl⟩;rw [bG] at HS HB2 HB3 HFIN;obtain ⟨aV,aS,aB,aO,hr_⟩:=HS.out.ex;have X:=Lib.hid (Xf.emit w g aV aS st2.1 aB _ 7 0 0 (st.1.length:Int) aO HB2.out);have aN:=Xa.mk hr_;clear aO hr_;go_wp2_with (fail)
 refine X.out.mono ?_
 rintro e W3 ⟨rfl,⟨aQ,aP⟩,aA⟩
 have hs_:Xf.CS w g (Xf.put st2 ⟨7,0,0,(st.1.length:Int)⟩) W3:=⟨aQ,aS,aB,aP,aN.out.keep aA⟩;clear aP aN;have aC:=Xa.mk hs_;have aD:=Xa.mk (HK.out.trans aA);have aF:=Xa.mk (aA.cells _ _ _ HBX.out (by decide) (by decide) (by decide));have aH:=Xa.mk (aM.out.keep aA);have aG:=Xa.mk (HI1.out.keep aA);clear HS HK HBX b0 b1 b2 b3 b4 b5 X hs_ aA aM HI1;have HS:=aC;have HK:=aD;have HBX:=aF;clear aC aD aF;have aM:=aH;have HI1:=aG;clear aH aG
 have b0:W3.cell? ⟨W.heap.size,0,none⟩=some (.int .i64 s.f0):=by simp only [World.cell?,HBX.out];rfl
 have b1:W3.cell? ⟨W.heap.size,1,none⟩=some (.int .i64 s.f1):=by simp only [World.cell?,HBX.out];rfl
 have b2:W3.cell? ⟨W.heap.size,2,none⟩=some (.int .i64 s.f2):=by simp only [World.cell?,HBX.out];rfl
 have b3:W3.cell? ⟨W.heap.size,3,none⟩=some (.int .i64 s.f3):=by simp only [World.cell?,HBX.out];rfl
 have b4:W3.cell? ⟨W.heap.size,4,none⟩=some (.slice A4 s.f4.length c4):=by simp only [World.cell?,HBX.out];rfl
 have b5:W3.cell? ⟨W.heap.size,5,none⟩=some (.slice A5 s.f5.length c5):=by simp only [World.cell?,HBX.out];rfl
 obtain ⟨aV,aS,aB,aO,hr_⟩:=HS.out.ex;have X:=Lib.hid (Xf.tell w g aV aS (Xf.put st2 ⟨7,0,0,(st.1.length:Int)⟩).1 aB _ cZ cO aO (by rw [hr_.len];exact HB3.out) aM.out);have aN:=Xa.mk hr_;clear aO hr_;go_wp2_with (fail)
 refine X.out.mono ?_
 rintro e W4 ⟨⟨v_,rfl⟩,t_,bH,bL,aP,aA⟩
 have hs_:Xf.CS w g (Xf.tells (Xf.put st2 ⟨7,0,0,(st.1.length:Int)⟩) st.1.length) W4:=⟨aV,bH,_,aP,Xf.Rels.snoc ⟨bL,aM.out.keep aA,HI1.out.keep aA⟩ (aN.out.keep aA)⟩;clear aP aN bL;have aC:=Xa.mk hs_;have aD:=Xa.mk (HK.out.trans aA);have aF:=Xa.mk (aA.cells _ _ _ HBX.out (by decide) (by decide) (by decide));have aH:=Xa.mk (aM.out.keep aA);have aG:=Xa.mk (HI1.out.keep aA);clear HS HK HBX b0 b1 b2 b3 b4 b5 X hs_ aA aM HI1;have HS:=aC;have HK:=aD;have HBX:=aF;clear aC aD aF;have aM:=aH;have HI1:=aG;clear aH aG
 have b0:W4.cell? ⟨W.heap.size,0,none⟩=some (.int .i64 s.f0):=by simp only [World.cell?,HBX.out];rfl
 have b1:W4.cell? ⟨W.heap.size,1,none⟩=some (.int .i64 s.f1):=by simp only [World.cell?,HBX.out];rfl
 have b2:W4.cell? ⟨W.heap.size,2,none⟩=some (.int .i64 s.f2):=by simp only [World.cell?,HBX.out];rfl
 have b3:W4.cell? ⟨W.heap.size,3,none⟩=some (.int .i64 s.f3):=by simp only [World.cell?,HBX.out];rfl
 have b4:W4.cell? ⟨W.heap.size,4,none⟩=some (.slice A4 s.f4.length c4):=by simp only [World.cell?,HBX.out];rfl
 have b5:W4.cell? ⟨W.heap.size,5,none⟩=some (.slice A5 s.f5.length c5):=by simp only [World.cell?,HBX.out];rfl
 go_wp2
 go_end0
 exact ⟨⟨_,rfl⟩,by rw [HFIN.out];exact HS.out,HK.out⟩
theorem Xf.stmt8 (w:World) (g d:Nat) (hL:Xf.LS w g d) (s:Xf.T) (A4:Option Addr) (c4:Nat) (A5:Option Addr) (c5:Nat) (st:Xf.St) (W:World) (hd4:Xf.Deep d s.f4) (hd5:Xf.Deep d s.f5) (aZ:Kd.C k63 w A4 s.f4.length s.f4) (hl4:s.f4.length≤c4) (bA:Kd.C k63 w A5 s.f5.length s.f5) (hl5:s.f5.length≤c5) (hs:Xf.CS w g st W) (hr:Xf.room st (1+Xf.cnt d s.f4+Xf.cnt d s.f5)) (k_:s.f0=8) :
  Calls Try.prog 59 #[.pointer (some ⟨g,0,none⟩),.agg #[.int .i64 s.f0,.int .i64 s.f1,.int .i64 s.f2,.int .i64 s.f3,.slice A4 s.f4.length c4,.slice A5 s.f5.length c5]] W fun e W'=>(∃ v,e=.returned v)∧Xf.CS w g (Xf.cS (Xf.cL d) s st) W'∧Xf.Kp w W W':=by
 have K_:=Xa.mk k_;clear k_;obtain ⟨bO,bP,bC,aJ,_⟩:=hs.ex;obtain ⟨Ac,cc,rfl⟩:=Kd.Yo aJ.row;have aT:=Xa.mk aJ.box;have aU:=Xa.mk (Array.getElem?_eq_some_iff.1 aJ.box).1;clear aJ;have aL:=Xa.mk hs;have HL:=Lib.hid hL;have HD4:=Xa.mk hd4;have HD5:=Xa.mk hd5;have bR:=Xa.mk aZ;have bW:=Xa.mk bA;have bS:=Xa.mk hl4;have bY:=Xa.mk hl5;have HR:=Xa.mk hr;have hxq:(W.alloc (.cells #[.int .i64 s.f0,.int .i64 s.f1,.int .i64 s.f2,.int .i64 s.f3,.slice A4 s.f4.length c4,.slice A5 s.f5.length c5] 63)).heap[W.heap.size]?=some (.cells #[.int .i64 s.f0,.int .i64 s.f1,.int .i64 s.f2,.int .i64 s.f3,.slice A4 s.f4.length c4,.slice A5 s.f5.length c5] 63 (0,0)):=World.alloc_heap_new W _;have HXq:=Xa.mk hxq;clear hs hL hd4 hd5 aZ bA hl4 hl5 hr hxq;have hmm:=@run_makeMap Try.prog;have hm0:=Uc.made (W.alloc (.cells #[.int .i64 s.f0,.int .i64 s.f1,.int .i64 s.f2,.int .i64 s.f3,.slice A4 s.f4.length c4,.slice A5 s.f5.length c5] 63));simp only [World.size_alloc] at hm0;have HM:=Xa.mk hm0;clear hm0;have HB1:=Xa.mk (((Below.refl _ W).alloc (Nat.le_refl _) (.cells #[.int .i64 s.f0,.int .i64 s.f1,.int .i64 s.f2,.int .i64 s.f3,.slice A4 s.f4.length c4,.slice A5 s.f5.length c5] 63)).alloc (by simp) (.map #[] 0));have HB2:=Xa.mk ((Below.refl (W.heap.size+1) (W.alloc (.cells #[.int .i64 s.f0,.int .i64 s.f1,.int .i64 s.f2,.int .i64 s.f3,.slice A4 s.f4.length c4,.slice A5 s.f5.length c5] 63))).alloc (by simp) (.map #[] 0));have dE:(s.f0 == 6)=false:=beq_eq_false_iff_ne.mpr (by have:=K_.out;omega);have dI:(s.f0 == 7)=false:=beq_eq_false_iff_ne.mpr (by have:=K_.out;omega);have dQ:(s.f0 == 8)=true:=beq_iff_eq.mpr K_.out
 go_enter Try.func59,Try.ntmps59
 go_wp2_with (first|(refine Vd rfl _ _ _ (.inr rfl) Try.underlying89 Try.underlying3 _ rfl rfl HM.out ?_;intro w1 hm1 hg1 hs1;have aC:=Xa.mk hm1;have aD:=Xa.mk (Below.grown HB1.out hg1 (Below.size HB1.out) (fun k e=>by cases e;omega));have aF:=Xa.mk (HB2.out.trans (Below.grown (Below.refl (W.heap.size+1) _) hg1 (by have h_:=Below.size HB2.out;rw [World.size_alloc] at h_;exact h_) (fun k e=>by cases e;omega)));clear hg1 hs1 hm1 HM HB1 HB2;have HM:=aC;have HB1:=aD;have HB2:=aF;clear aC aD aF;skip;have h_:=(HB2.out.block W.heap.size (by omega)).trans HXq.out;have b0:w1.cell? ⟨W.heap.size,0,none⟩=some (.int .i64 s.f0):=(by simp only [World.cell?,h_];rfl);have b1:w1.cell? ⟨W.heap.size,1,none⟩=some (.int .i64 s.f1):=(by simp only [World.cell?,h_];rfl);have b2:w1.cell? ⟨W.heap.size,2,none⟩=some (.int .i64 s.f2):=(by simp only [World.cell?,h_];rfl);have b3:w1.cell? ⟨W.heap.size,3,none⟩=some (.int .i64 s.f3):=(by simp only [World.cell?,h_];rfl);have bF:=(HB1.out.block g aU.out).trans aT.out;have c0:w1.cell? ⟨g,0,none⟩=some (.slice Ac st.1.length cc):=(by simp only [World.cell?,bF];rfl);clear h_ bF))
 clear hmm b0 b1 b2 b3 c0;have HS:=Xa.mk (aL.out.below HB1.out);have HK:=Xa.mk (Xf.Kp.of_below aL.out.bel HB1.out);have HBX:=Xa.mk ((HB2.out.block W.heap.size (by omega)).trans HXq.out);clear aL HB1 HB2 HXq aT aU
 have b0:w1.cell? ⟨W.heap.size,0,none⟩=some (.int .i64 s.f0):=by simp only [World.cell?,HBX.out];rfl
 have b1:w1.cell? ⟨W.heap.size,1,none⟩=some (.int .i64 s.f1):=by simp only [World.cell?,HBX.out];rfl
 have b2:w1.cell? ⟨W.heap.size,2,none⟩=some (.int .i64 s.f2):=by simp only [World.cell?,HBX.out];rfl
 have b3:w1.cell? ⟨W.heap.size,3,none⟩=some (.int .i64 s.f3):=by simp only [World.cell?,HBX.out];rfl
 have b4:w1.cell? ⟨W.heap.size,4,none⟩=some (.slice A4 s.f4.length c4):=by simp only [World.cell?,HBX.out];rfl
 have b5:w1.cell? ⟨W.heap.size,5,none⟩=some (.slice A5 s.f5.length c5):=by simp only [World.cell?,HBX.out];rfl
 have k8:=K_.out;have g1:=Xf.cL_grows d s.f4 (Xf.put st ⟨8,s.f1,0,0⟩);have HFIN:=Xa.mk (show Xf.cS (Xf.cL d) s st=Xf.put (Xf.cL d s.f4 (Xf.put st ⟨8,s.f1,0,0⟩)) ⟨9,s.f1,0,0⟩ from by unfold Xf.cS;rw [if_neg (by omega),if_neg (by omega),if_pos k8]);have hr2:=HR.out
 unfold Xf.room at hr2
 simp only [Xf.tells,Xf.put,List.length_append,List.length_singleton] at g1;have HB0:Xa (st.1.length≤1000000):=⟨by omega⟩;have bE:Xa (Xf.room (Xf.put st ⟨8,s.f1,0,0⟩) (Xf.cnt d s.f4)):=⟨by unfold Xf.room;simp only [Xf.put,List.length_append,List.length_singleton];omega⟩;have HB2:Xa ((Xf.cL d s.f4 (Xf.put st ⟨8,s.f1,0,0⟩)).1.length≤1000000):=⟨by simp only [Xf.put];omega⟩;clear g1 hr2 k8 HR K_;obtain ⟨aV,aS,aB,aO,hr_⟩:=HS.out.ex;have X:=Lib.hid (Xf.emit w g aV aS st.1 aB _ 8 s.f1 0 0 aO HB0.out);have aN:=Xa.mk hr_;clear aO hr_;refine X.out.mono ?_
 rintro e W1 ⟨rfl,⟨aQ,aP⟩,aA⟩
 have hs_:Xf.CS w g (Xf.put st ⟨8,s.f1,0,0⟩) W1:=⟨aQ,aS,aB,aP,aN.out.keep aA⟩;clear aP aN;have aC:=Xa.mk hs_;have aD:=Xa.mk (HK.out.trans aA);have aF:=Xa.mk (aA.cells _ _ _ HBX.out (by decide) (by decide) (by decide));clear HS HK HBX b0 b1 b2 b3 b4 b5 X hs_ aA;have HS:=aC;have HK:=aD;have HBX:=aF;clear aC aD aF
 have b0:W1.cell? ⟨W.heap.size,0,none⟩=some (.int .i64 s.f0):=by simp only [World.cell?,HBX.out];rfl
 have b1:W1.cell? ⟨W.heap.size,1,none⟩=some (.int .i64 s.f1):=by simp only [World.cell?,HBX.out];rfl
 have b2:W1.cell? ⟨W.heap.size,2,none⟩=some (.int .i64 s.f2):=by simp only [World.cell?,HBX.out];rfl
 have b3:W1.cell? ⟨W.heap.size,3,none⟩=some (.int .i64 s.f3):=by simp only [World.cell?,HBX.out];rfl
 have b4:W1.cell? ⟨W.heap.size,4,none⟩=some (.slice A4 s.f4.length c4):=by simp only [World.cell?,HBX.out];rfl
 have b5:W1.cell? ⟨W.heap.size,5,none⟩=some (.slice A5 s.f5.length c5):=by simp only [World.cell?,HBX.out];rfl
 have X:=Lib.hid (HL.out s.f4 _ _ (Xf.put st ⟨8,s.f1,0,0⟩) _ HD4.out bR.out bS.out HS.out bE.out);go_wp2_with (fail)
 refine X.out.mono ?_
 rintro e W2 ⟨⟨v_,rfl⟩,hs_,aA⟩
 have aC:=Xa.mk hs_;have aD:=Xa.mk (HK.out.trans aA);have aF:=Xa.mk (aA.cells _ _ _ HBX.out (by decide) (by decide) (by decide));clear HS HK HBX b0 b1 b2 b3 b4 b5 X hs_ aA;have HS:=aC;have HK:=aD;have HBX:=aF;clear aC aD aF
 have b0:W2.cell? ⟨W.heap.size,0,none⟩=some (.int .i64 s.f0):=by simp only [World.cell?,HBX.out];rfl
 have b1:W2.cell? ⟨W.heap.size,1,none⟩=some (.int .i64 s.f1):=by simp only [World.cell?,HBX.out];rfl
 have b2:W2.cell? ⟨W.heap.size,2,none⟩=some (.int .i64 s.f2):=by simp only [World.cell?,HBX.out];rfl
 have b3:W2.cell? ⟨W.heap.size,3,none⟩=some (.int .i64 s.f3):=by simp only [World.cell?,HBX.out];rfl
 have b4:W2.cell? ⟨W.heap.size,4,none⟩=some (.slice A4 s.f4.length c4):=by simp only [World.cell?,HBX.out];rfl
 have b5:W2.cell? ⟨W.heap.size,5,none⟩=some (.slice A5 s.f5.length c5):=by simp only [World.cell?,HBX.out];rfl
 obtain ⟨st2,bG⟩:∃ x,Xf.cL d s.f4 (Xf.put st ⟨8,s.f1,0,0⟩)=x:=⟨_,rfl⟩;rw [bG] at HS HB2 HFIN;obtain ⟨aV,aS,aB,aO,hr_⟩:=HS.out.ex;have X:=Lib.hid (Xf.emit w g aV aS st2.1 aB _ 9 s.f1 0 0 aO HB2.out);have aN:=Xa.mk hr_;clear aO hr_;go_wp2_with (fail)
 refine X.out.mono ?_
 rintro e W3 ⟨rfl,⟨aQ,aP⟩,aA⟩
 have hs_:Xf.CS w g (Xf.put st2 ⟨9,s.f1,0,0⟩) W3:=⟨aQ,aS,aB,aP,aN.out.keep aA⟩;clear aP aN;have aC:=Xa.mk hs_;have aD:=Xa.mk (HK.out.trans aA);have aF:=Xa.mk (aA.cells _ _ _ HBX.out (by decide) (by decide) (by decide));clear HS HK HBX b0 b1 b2 b3 b4 b5 X hs_ aA;have HS:=aC;have HK:=aD;have HBX:=aF;clear aC aD aF
 have b0:W3.cell? ⟨W.heap.size,0,none⟩=some (.int .i64 s.f0):=by simp only [World.cell?,HBX.out];rfl
 have b1:W3.cell? ⟨W.heap.size,1,none⟩=some (.int .i64 s.f1):=by simp only [World.cell?,HBX.out];rfl
 have b2:W3.cell? ⟨W.heap.size,2,none⟩=some (.int .i64 s.f2):=by simp only [World.cell?,HBX.out];rfl
 have b3:W3.cell? ⟨W.heap.size,3,none⟩=some (.int .i64 s.f3):=by simp only [World.cell?,HBX.out];rfl
 have b4:W3.cell? ⟨W.heap.size,4,none⟩=some (.slice A4 s.f4.length c4):=by simp only [World.cell?,HBX.out];rfl
 have b5:W3.cell? ⟨W.heap.size,5,none⟩=some (.slice A5 s.f5.length c5):=by simp only [World.cell?,HBX.out];rfl
 go_wp2
 go_end0
 exact ⟨⟨_,rfl⟩,by rw [HFIN.out];exact HS.out,HK.out⟩
def Xf.simpleM:List (Int × Value):=[(1,.int .i64 1),(2,.int .i64 2),(3,.int .i64 3),(4,.int .i64 4),(5,.int .i64 5),(9,.int .i64 10),(10,.int .i64 11),(11,.int .i64 12)]
theorem Xf.at_simple (k:Int):(at_ Xf.simpleM k).getD (.int .i64 0)=.int .i64 (Xf.simple k):=by
 unfold Xf.simple
 repeat' split
 all_goals first|(subst_vars;rfl)|skip
 rename_i h1 h2 h3 h4 h5 h9 h10 h11
 have e1:((1:Int) == k)=false:=beq_eq_false_iff_ne.mpr (fun e=>h1 e.symm);have e2:((2:Int) == k)=false:=beq_eq_false_iff_ne.mpr (fun e=>h2 e.symm);have e3:((3:Int) == k)=false:=beq_eq_false_iff_ne.mpr (fun e=>h3 e.symm);have e4:((4:Int) == k)=false:=beq_eq_false_iff_ne.mpr (fun e=>h4 e.symm);have e5:((5:Int) == k)=false:=beq_eq_false_iff_ne.mpr (fun e=>h5 e.symm);have e9:((9:Int) == k)=false:=beq_eq_false_iff_ne.mpr (fun e=>h9 e.symm);have e10:((10:Int) == k)=false:=beq_eq_false_iff_ne.mpr (fun e=>h10 e.symm);have e11:((11:Int) == k)=false:=beq_eq_false_iff_ne.mpr (fun e=>h11 e.symm)
 simp [at_,Xf.simpleM,List.find?_cons,e1,e2,e3,e4,e5,e9,e10,e11]
theorem Xf.wp_simple {w:World} {b:Nat} {ops:Array Oper} {rest:List Oper} {o:Oper} {a:Act} {Q:Exit→Act→World→Prop}
  (hg:o.guard=none) (mo x:Operand) (hop:o.op=Op.lookup 89 mo x false) (n:Int)
  (hmo:a.eval mo=.map (some b)) (hx:a.eval x=.int .i64 n) (hm:Uc w b Xf.simpleM)
  (hK':wpList Try.prog ops Q rest (a.put o.dst (.int .i64 (Xf.simple n))) w):wpList Try.prog ops Q (o :: rest) a w:=by
 refine wpList_lookup_im hg mo x false hop Try.underlying89 Try.underlying3 n (.int .i64 0) hmo hx hm (by kernel_rfl) ?_
 rw [if_neg (by simp),Xf.at_simple];exact hK'
theorem Xf.stmt0 (w:World) (g d:Nat) (hL:Xf.LS w g d) (s:Xf.T) (A4:Option Addr) (c4:Nat) (A5:Option Addr) (c5:Nat) (st:Xf.St) (W:World) (hd4:Xf.Deep d s.f4) (hd5:Xf.Deep d s.f5) (aZ:Kd.C k63 w A4 s.f4.length s.f4) (hl4:s.f4.length≤c4) (bA:Kd.C k63 w A5 s.f5.length s.f5) (hl5:s.f5.length≤c5) (hs:Xf.CS w g st W) (hr:Xf.room st (1+Xf.cnt d s.f4+Xf.cnt d s.f5)) (k_:s.f0≠6∧s.f0≠7∧s.f0≠8) :
  Calls Try.prog 59 #[.pointer (some ⟨g,0,none⟩),.agg #[.int .i64 s.f0,.int .i64 s.f1,.int .i64 s.f2,.int .i64 s.f3,.slice A4 s.f4.length c4,.slice A5 s.f5.length c5]] W fun e W'=>(∃ v,e=.returned v)∧Xf.CS w g (Xf.cS (Xf.cL d) s st) W'∧Xf.Kp w W W':=by
 have K_:=Xa.mk k_;clear k_;obtain ⟨bO,bP,bC,aJ,_⟩:=hs.ex;obtain ⟨Ac,cc,rfl⟩:=Kd.Yo aJ.row;have aT:=Xa.mk aJ.box;have aU:=Xa.mk (Array.getElem?_eq_some_iff.1 aJ.box).1;clear aJ;have aL:=Xa.mk hs;have HL:=Lib.hid hL;have HD4:=Xa.mk hd4;have HD5:=Xa.mk hd5;have bR:=Xa.mk aZ;have bW:=Xa.mk bA;have bS:=Xa.mk hl4;have bY:=Xa.mk hl5;have HR:=Xa.mk hr;have hxq:(W.alloc (.cells #[.int .i64 s.f0,.int .i64 s.f1,.int .i64 s.f2,.int .i64 s.f3,.slice A4 s.f4.length c4,.slice A5 s.f5.length c5] 63)).heap[W.heap.size]?=some (.cells #[.int .i64 s.f0,.int .i64 s.f1,.int .i64 s.f2,.int .i64 s.f3,.slice A4 s.f4.length c4,.slice A5 s.f5.length c5] 63 (0,0)):=World.alloc_heap_new W _;have HXq:=Xa.mk hxq;clear hs hL hd4 hd5 aZ bA hl4 hl5 hr hxq;have hmm:=@run_makeMap Try.prog;have hm0:=Uc.made (W.alloc (.cells #[.int .i64 s.f0,.int .i64 s.f1,.int .i64 s.f2,.int .i64 s.f3,.slice A4 s.f4.length c4,.slice A5 s.f5.length c5] 63));simp only [World.size_alloc] at hm0;have HM:=Xa.mk hm0;clear hm0;have HB1:=Xa.mk (((Below.refl _ W).alloc (Nat.le_refl _) (.cells #[.int .i64 s.f0,.int .i64 s.f1,.int .i64 s.f2,.int .i64 s.f3,.slice A4 s.f4.length c4,.slice A5 s.f5.length c5] 63)).alloc (by simp) (.map #[] 0));have HB2:=Xa.mk ((Below.refl (W.heap.size+1) (W.alloc (.cells #[.int .i64 s.f0,.int .i64 s.f1,.int .i64 s.f2,.int .i64 s.f3,.slice A4 s.f4.length c4,.slice A5 s.f5.length c5] 63))).alloc (by simp) (.map #[] 0));have dE:(s.f0 == 6)=false:=beq_eq_false_iff_ne.mpr K_.out.1;have dI:(s.f0 == 7)=false:=beq_eq_false_iff_ne.mpr K_.out.2.1;have dQ:(s.f0 == 8)=false:=beq_eq_false_iff_ne.mpr K_.out.2.2
 go_enter Try.func59,Try.ntmps59
 go_wp2_with (first|(refine Vd rfl _ _ _ (.inr rfl) Try.underlying89 Try.underlying3 _ rfl rfl HM.out ?_;intro w1 hm1 hg1 hs1;have aC:=Xa.mk hm1;have aD:=Xa.mk (Below.grown HB1.out hg1 (Below.size HB1.out) (fun k e=>by cases e;omega));have aF:=Xa.mk (HB2.out.trans (Below.grown (Below.refl (W.heap.size+1) _) hg1 (by have h_:=Below.size HB2.out;rw [World.size_alloc] at h_;exact h_) (fun k e=>by cases e;omega)));clear hg1 hs1 hm1 HM HB1 HB2;have HM:=aC;have HB1:=aD;have HB2:=aF;clear aC aD aF;skip;have h_:=(HB2.out.block W.heap.size (by omega)).trans HXq.out;have b0:w1.cell? ⟨W.heap.size,0,none⟩=some (.int .i64 s.f0):=(by simp only [World.cell?,h_];rfl);have b1:w1.cell? ⟨W.heap.size,1,none⟩=some (.int .i64 s.f1):=(by simp only [World.cell?,h_];rfl);have b2:w1.cell? ⟨W.heap.size,2,none⟩=some (.int .i64 s.f2):=(by simp only [World.cell?,h_];rfl);have b3:w1.cell? ⟨W.heap.size,3,none⟩=some (.int .i64 s.f3):=(by simp only [World.cell?,h_];rfl);have bF:=(HB1.out.block g aU.out).trans aT.out;have c0:w1.cell? ⟨g,0,none⟩=some (.slice Ac st.1.length cc):=(by simp only [World.cell?,bF];rfl);clear h_ bF)|(refine Xf.wp_simple rfl _ _ rfl _ rfl rfl HM.out ?_))
 clear hmm b0 b1 b2 b3 c0;have HS:=Xa.mk (aL.out.below HB1.out);have HK:=Xa.mk (Xf.Kp.of_below aL.out.bel HB1.out);have HBX:=Xa.mk ((HB2.out.block W.heap.size (by omega)).trans HXq.out);clear aL HB1 HB2 HXq aT aU
 have b0:w1.cell? ⟨W.heap.size,0,none⟩=some (.int .i64 s.f0):=by simp only [World.cell?,HBX.out];rfl
 have b1:w1.cell? ⟨W.heap.size,1,none⟩=some (.int .i64 s.f1):=by simp only [World.cell?,HBX.out];rfl
 have b2:w1.cell? ⟨W.heap.size,2,none⟩=some (.int .i64 s.f2):=by simp only [World.cell?,HBX.out];rfl
 have b3:w1.cell? ⟨W.heap.size,3,none⟩=some (.int .i64 s.f3):=by simp only [World.cell?,HBX.out];rfl
 have b4:w1.cell? ⟨W.heap.size,4,none⟩=some (.slice A4 s.f4.length c4):=by simp only [World.cell?,HBX.out];rfl
 have b5:w1.cell? ⟨W.heap.size,5,none⟩=some (.slice A5 s.f5.length c5):=by simp only [World.cell?,HBX.out];rfl
 have k0:=K_.out;have HFIN:=Xa.mk (show Xf.cS (Xf.cL d) s st=Xf.put st ⟨Xf.simple s.f0,s.f1,s.f2,s.f3⟩ from by unfold Xf.cS;rw [if_neg k0.1,if_neg k0.2.1,if_neg k0.2.2]);have hr2:=HR.out
 unfold Xf.room at hr2
 have HB0:Xa (st.1.length≤1000000):=⟨by omega⟩;clear hr2 k0 HR K_;obtain ⟨aV,aS,aB,aO,hr_⟩:=HS.out.ex;have X:=Lib.hid (Xf.emit w g aV aS st.1 aB _ (Xf.simple s.f0) s.f1 s.f2 s.f3 aO HB0.out);have aN:=Xa.mk hr_;clear aO hr_;refine X.out.mono ?_
 rintro e W1 ⟨rfl,⟨aQ,aP⟩,aA⟩
 have hs_:Xf.CS w g (Xf.put st ⟨Xf.simple s.f0,s.f1,s.f2,s.f3⟩) W1:=⟨aQ,aS,aB,aP,aN.out.keep aA⟩;clear aP aN;have aC:=Xa.mk hs_;have aD:=Xa.mk (HK.out.trans aA);have aF:=Xa.mk (aA.cells _ _ _ HBX.out (by decide) (by decide) (by decide));clear HS HK HBX b0 b1 b2 b3 b4 b5 X hs_ aA;have HS:=aC;have HK:=aD;have HBX:=aF;clear aC aD aF
 have b0:W1.cell? ⟨W.heap.size,0,none⟩=some (.int .i64 s.f0):=by simp only [World.cell?,HBX.out];rfl
 have b1:W1.cell? ⟨W.heap.size,1,none⟩=some (.int .i64 s.f1):=by simp only [World.cell?,HBX.out];rfl
 have b2:W1.cell? ⟨W.heap.size,2,none⟩=some (.int .i64 s.f2):=by simp only [World.cell?,HBX.out];rfl
 have b3:W1.cell? ⟨W.heap.size,3,none⟩=some (.int .i64 s.f3):=by simp only [World.cell?,HBX.out];rfl
 have b4:W1.cell? ⟨W.heap.size,4,none⟩=some (.slice A4 s.f4.length c4):=by simp only [World.cell?,HBX.out];rfl
 have b5:W1.cell? ⟨W.heap.size,5,none⟩=some (.slice A5 s.f5.length c5):=by simp only [World.cell?,HBX.out];rfl
 go_wp2
 go_end0
 exact ⟨⟨_,rfl⟩,by rw [HFIN.out];exact HS.out,HK.out⟩
theorem Xf.stmtS (w:World) (g d:Nat) (hL:Xf.LS w g d):Xf.SS w g d:=by
 intro s A4 c4 A5 c5 st W hd4 hd5 aZ hl4 bA hl5 hs hr;by_cases k6:s.f0=6
 ·exact Xf.stmt6 w g d hL s A4 c4 A5 c5 st W hd4 hd5 aZ hl4 bA hl5 hs hr k6
 by_cases k7:s.f0=7
 ·exact Xf.stmt7 w g d hL s A4 c4 A5 c5 st W hd4 hd5 aZ hl4 bA hl5 hs hr k7
 by_cases k8:s.f0=8
 ·exact Xf.stmt8 w g d hL s A4 c4 A5 c5 st W hd4 hd5 aZ hl4 bA hl5 hs hr k8
 ·exact Xf.stmt0 w g d hL s A4 c4 A5 c5 st W hd4 hd5 aZ hl4 bA hl5 hs hr ⟨k6,k7,k8⟩
theorem Xf.lists (w:World) (g:Nat):∀ d,Xf.LS w g d
 |0=>Xf.list0 w g
 |d+1=>Xf.listS w g d (Xf.stmtS w g d (Xf.lists w g d))
def Xf.setN (c:List Xf.I) (p:Nat × Nat):List Xf.I:=c.set p.1 ⟨(Xb c p.1).f0,(Xb c p.1).f1,(Xb c p.1).f2,(p.2:Int)⟩
def Xf.fin (code:List Xf.I) (pend:List (Nat × Nat)):List Xf.I:=pend.foldl Xf.setN code
theorem Xf.fin_len:∀ (q:List (Nat × Nat)) (code:List Xf.I),(Xf.fin code q).length=code.length
 |[],code=>rfl
 |p :: q,code=>by
  show (Xf.fin (Xf.setN code p) q).length=_
  rw [Xf.fin_len q]
  simp [Xf.setN]
def Xf.Good (st:Xf.St):Prop:=∀ p ∈ st.2,p.1<st.1.length
theorem Xf.Good.put {st:Xf.St} (h:Xf.Good st) (i:Xf.I):Xf.Good (Xf.put st i):=fun p hp=>by
 have:=h p hp
 simp only [Xf.put,List.length_append,List.length_singleton]
 omega
theorem Xf.Good.tells {st:Xf.St} (h:Xf.Good st) {n:Nat} (hn:n<st.1.length):Xf.Good (Xf.tells st n):=fun p hp=>by
 rcases List.mem_append.1 hp with hp|hp
 ·exact h p hp
 ·obtain rfl:=List.mem_singleton.1 hp;exact hn
def Xf.Up (cL:List Xf.T→Xf.St→Xf.St):Prop:=∀ l st,Xf.Good st→Xf.Good (cL l st)∧st.1.length≤(cL l st).1.length
theorem Xf.cS_up {cL:List Xf.T→Xf.St→Xf.St} (h:Xf.Up cL) (s:Xf.T) (st:Xf.St) (hs:Xf.Good st):Xf.Good (Xf.cS cL s st)∧st.1.length≤(Xf.cS cL s st).1.length:=by
 have hp:∀ (x:Xf.St) (i:Xf.I),(Xf.put x i).1.length=x.1.length+1:=fun x i=>by simp [Xf.put]
 have ht:∀ (x:Xf.St) (n:Nat),(Xf.tells x n).1.length=x.1.length:=fun x n=>rfl
 unfold Xf.cS
 split
 ·have h1:=h s.f4 (Xf.put st ⟨6,s.f1,0,0⟩) (hs.put _);have q1:=hp st ⟨6,s.f1,0,0⟩;have q2:=hp (cL s.f4 (Xf.put st ⟨6,s.f1,0,0⟩)) ⟨7,0,0,0⟩;have g2:Xf.Good (Xf.tells (Xf.put (cL s.f4 (Xf.put st ⟨6,s.f1,0,0⟩)) ⟨7,0,0,0⟩) st.1.length):=(h1.1.put _).tells (by omega);have h2:=h s.f5 _ g2;rw [ht] at h2;refine ⟨h2.1.tells (by omega),?_⟩
  rw [ht]
  omega
 ·split
  ·have h1:=h s.f4 (Xf.put st ⟨6,s.f1,0,0⟩) (hs.put _);have q1:=hp st ⟨6,s.f1,0,0⟩;have q2:=hp (cL s.f4 (Xf.put st ⟨6,s.f1,0,0⟩)) ⟨7,0,0,(st.1.length:Int)⟩;refine ⟨(h1.1.put _).tells (by omega),?_⟩
   rw [ht]
   omega
  ·split
   ·have h1:=h s.f4 (Xf.put st ⟨8,s.f1,0,0⟩) (hs.put _);have q1:=hp st ⟨8,s.f1,0,0⟩;have q2:=hp (cL s.f4 (Xf.put st ⟨8,s.f1,0,0⟩)) ⟨9,s.f1,0,0⟩;exact ⟨h1.1.put _,by omega⟩
   ·exact ⟨hs.put _,by rw [hp];omega⟩
theorem Xf.cL_up:∀ d,Xf.Up (Xf.cL d)
 |0=>fun l st hs=>⟨hs,Nat.le_refl _⟩
 |d+1=>fun l=>by
  induction l with
  |nil=>intro st hs;exact ⟨hs,Nat.le_refl _⟩
  |cons s l ih=>
   intro st hs;have h1:=Xf.cS_up (Xf.cL_up d) s st hs;have h2:=ih (Xf.cS (Xf.cL d) s st) h1.1;exact ⟨h2.1,Nat.le_trans h1.2 h2.2⟩
theorem Xf.Rels.get {g:Nat} {W:World}:∀ {l:List (Nat × Nat × Nat)} {q:List (Nat × Nat)},Xf.Rels g l q W→∀ (i:Nat) (h:i<l.length) (h':i<q.length),Xf.Rel g l[i] q[i] W
 |x :: l,p :: q,hr,0,h,h'=>hr.1
 |x :: l,p :: q,hr,i+1,h,h'=>Xf.Rels.get hr.2 i (by simpa using h) (by simpa using h')
 |[],_,_,i,h,_=>absurd h (by simp)
 |_ :: _,[],hr,i,h,h'=>hr.elim
def Xf.deepB:Nat→List Xf.T→Bool
 |0,l=>l.isEmpty
 |d+1,l=>l.all (fun s=>Xf.deepB d s.f4 && Xf.deepB d s.f5)
theorem Xf.deepB_is:∀ (d:Nat) (l:List Xf.T),Xf.deepB d l=true→Xf.Deep d l
 |0,l,h=>show l=[] from by simpa [Xf.deepB] using h
 |d+1,l,h=>fun s hs=>by
  have:=List.all_eq_true.1 h s hs
  rw [Bool.and_eq_true] at this;exact ⟨Xf.deepB_is d _ this.1,Xf.deepB_is d _ this.2⟩
end
def impl_codeOf.f (l0:List (S63)):Option (List (S31)):=
 if Xf.deepB 3 l0=true∧Xf.cnt 3 l0≤1000 then some (Xf.fin ((Xf.cL 3 l0 ([],[])).1 ++ [⟨13,0,0,0⟩]) (Xf.cL 3 l0 ([],[])).2) else none
section
open Go.Proofs.Ytokajnfbiddpjaa.HMap Go.Proofs.Ytokajnfbiddpjaa.HStep
theorem impl_codeOf.calls (A0:Option Addr) (c0:Nat) (l0:List (S63)) (r:List (S31)) (w:World) (hr0:Kd.C k63 w A0 l0.length l0) (hc0:l0.length≤c0) (h:impl_codeOf.f l0=some r) :
  Calls Try.prog 15 #[.slice A0 l0.length c0] w fun e w'=>∃ dK:Value,e=.returned (dK)∧Kd.R k31 31 w' w.heap.size (fun _=>True) dK r∧Below w.heap.size w w':=by
 unfold impl_codeOf.f at h
 by_cases hh:Xf.deepB 3 l0=true∧Xf.cnt 3 l0≤1000
 case neg=>rw [if_neg hh] at h;cases h
 rw [if_pos hh] at h;have hr:=Option.some.inj h;clear h
 have hcs:Xf.CS w w.heap.size ([],[]) (w.alloc (.cells #[.slice none 0 0,.slice none 0 0] 51)):=
  ⟨.slice none 0 0,.slice none 0 0,[],⟨World.alloc_heap_new w _,Kd.R_nil _ _ _ _ _,Kd.R_nil _ _ _ _ _,(Below.refl _ _).alloc (Nat.le_refl _) _,Nat.le_refl _⟩,trivial⟩
 have X:=Lib.hid (Xf.lists w w.heap.size 3 l0 A0 c0 ([],[]) _ (Xf.deepB_is 3 l0 hh.1) hr0 hc0 hcs (by unfold Xf.room;simp only [List.length_nil];omega));have hgr:=Xf.cL_grows 3 l0 ([],[]);have hup:=Xf.cL_up 3 l0 ([],[]) (fun p hp=>by cases hp)
 generalize Xf.cL 3 l0 ([],[])=st at *
 have dL:Xa (st.1.length≤1000000):=⟨by simp only [List.length_nil] at hgr;omega⟩;have HL2:Xa (st.2.length≤1000000):=⟨by simp only [List.length_nil] at hgr;omega⟩;have HGD:=Xa.mk hup.1;have HR:=Xa.mk hr;clear hcs hgr hup hh hr hr0 hc0
 go_enter Try.func15,Try.ntmps15
 go_wp2_with (fail)
 refine X.out.mono ?_
 rintro e w1 ⟨⟨v_,rfl⟩,hs,hk⟩
 obtain ⟨vc,vl,late,hM,hrl⟩:=hs.ex;have X2:=Lib.hid (Xf.emit w w.heap.size vc vl st.1 late w1 13 0 0 0 hM dL.out);have HRL:=Xa.mk hrl;clear X hs hk hM hrl;go_wp2_with (fail)
 refine X2.out.mono ?_
 rintro e w2 ⟨rfl,⟨vc2,hm2⟩,hk2⟩
 obtain ⟨Al,cl,rfl⟩:=Kd.Yo hm2.lrow;obtain ⟨Ac,cc,rfl⟩:=Kd.Yo hm2.row;have bM:=Xa.mk (HRL.out.keep hk2);obtain ⟨aR,aW⟩:∃ c,st.1 ++ [(⟨13,0,0,0⟩:Xf.I)]=c:=⟨_,rfl⟩
 have hlen1:aR.length=st.1.length+1:=by rw [← aW];simp
 rw [aW] at hm2;rw [aW] at HR;have HLN:=Xa.mk hlen1;have HLL:=Xa.mk bM.out.len;have bI:=Xa.mk hm2
 have x1:w2.cell? ⟨w.heap.size,1,none⟩=some (.slice Al late.length cl):=by simp only [World.cell?,hm2.box];rfl
 clear X2 HRL hm2 hk2 hlen1 aW;go_wp2
 go_loopw [19] (fun v19 w'=>∃ (i:Nat),v19=.int .i64 (i:Int)∧Xa (i≤late.length)∧Xa (Xf.M w w.heap.size (.slice Ac aR.length cc) (.slice Al late.length cl) (Xf.fin aR (st.2.take i)) late w')∧Xa (Xf.Rels w.heap.size late st.2 w')) (fun v19 _=>late.length - (intOf v19).toNat)
 case atStart=>exact ⟨0,rfl,⟨Nat.zero_le _⟩,⟨by rw [List.take_zero];exact bI.out⟩,bM⟩
 case round=>
  clear bI bM x1;obtain ⟨i,rfl,Hi,HM,HRL⟩:=hrel;by_cases hlt:i<late.length
  ·have Hlt:=Xa.mk hlt
   have hlt2:i<st.2.length:=by have:=HLL.out;omega
   have hd1:decide ((i:Int)<(late.length:Int))=true:=decide_eq_true (by omega)
   have p0:0≤(i:Int):=by omega
   have q0:(i:Int)<(late.length:Int):=by omega
   obtain ⟨ad,c,e,_,hKc,hc0⟩:=Kd.C_get (Kd.R_reads' HM.out.lrow).2.2 ((0,0,0):Nat × Nat × Nat) (i:Int) p0 q0;subst e
   have hgd:late.getD (i:Int).toNat (0,0,0)=late[i]:=by simp [List.getD_eq_getElem?_getD,hlt]
   rw [hgd] at hKc;have hrel:=HRL.out.get i hlt hlt2;have hgood:=HGD.out st.2[i] (List.getElem_mem hlt2);have hfl:=Xf.fin_len (st.2.take i) aR
   have hfs:Xf.fin aR (st.2.take (i+1))=Xf.setN (Xf.fin aR (st.2.take i)) st.2[i]:=by
    rw [List.take_succ_eq_append_getElem hlt2];simp only [Xf.fin,List.foldl_append,List.foldl_cons,List.foldl_nil]
   obtain ⟨x,hx⟩:∃ x,late[i]=x:=⟨_,rfl⟩;obtain ⟨p,hp⟩:∃ p,st.2[i]=p:=⟨_,rfl⟩;rw [hx] at hKc;rw [hx,hp] at hrel;rw [hp] at hgood hfs;have dB:c=[Xf.lateV x]:=hKc;subst dB;have hcx:wr.cell? (ad.add ((i:Int).toNat * 1+0))=some (Xf.lateV x):=hc0 0 _ rfl;rw [Nat.mul_one,Nat.add_zero] at hcx
   unfold Xf.lateV at hcx
   simp only [Int.toNat_natCast] at hcx;have X:=Lib.hid (Xf.run w w.heap.size _ _ _ late wr x.1 x.2.1 x.2.2 (p.1:Int) (p.2:Int) HM.out hrel.2.1 hrel.2.2 hrel.1 (by omega) (by rw [hfl];have:=HLN.out;omega));have HFS:=Xa.mk hfs
   have dC:IntKind.i64.wrap ((i:Int)+1)=((i+1:Nat):Int):=by have:=HL2.out;rw [IntKind.wrap_i64];omega
   have hjw:wrap64 ((i:Int)+1)=((i+1:Nat):Int):=by have:=HL2.out;unfold wrap64;omega
   replace p0:=eq_true p0;replace q0:=eq_true q0;clear hlt hlt2 hgd hrel hgood hfl hfs hx hp hKc hc0 HM;go_wp2_with (fail)
   refine X.out.mono ?_
   rintro e w3 ⟨⟨v2_,rfl⟩,dH,hk3⟩
   have dM:=Xa.mk dH;have cK:=Xa.mk (HRL.out.keep hk3);clear dH hk3 X hcx HRL;go_wp2
   go_roundw
   case measure=>have:=Hlt.out;simp [intOf];omega
   case rel=>exact ⟨i+1,by simp,⟨Hlt.out⟩,⟨by rw [HFS.out];exact dM.out⟩,cK⟩
  ·have hi:i=late.length:=by have:=Hi.out;omega
   subst hi
   have hall:Xf.fin aR (st.2.take late.length)=r:=by rw [HLL.out,List.take_of_length_le (Nat.le_refl _)];exact HR.out
   have bI:=Xa.mk HM.out;rw [hall] at bI
   have x0:wr.cell? ⟨w.heap.size,0,none⟩=some (.slice Ac aR.length cc):=by simp only [World.cell?,HM.out.box];rfl
   clear hlt HM HRL Hi hall;go_wp2
   go_ret
   exact ⟨_,rfl,bI.out.row,bI.out.bel⟩
end
end Go.Proofs.Ytokajnfbiddpjaa.GSlim
