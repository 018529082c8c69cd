import Derived.Test.YtlhogkfmdnpmkaaCFnWholeOrder45
set_option linter.unusedSectionVars false
set_option linter.unusedVariables false
set_option linter.unusedSimpArgs false
set_option maxHeartbeats 4000000
set_option maxRecDepth 100000
namespace Go.Proofs.Ytlhogkfmdnpmkaa.Pack
open RowKit YtlhogkfmdnpmkaaW.PrintWords YtlhogkfmdnpmkaaW.PrintLast YtlhogkfmdnpmkaaW.PrintMore
section
variable {P:Program} {ops:Array Oper} {Q:Exit→Act→World→Prop}
theorem count_set {l:Array Bool} {i:Nat} (h:l.getD i true=false):(l.setIfInBounds i true).toList.count false+1=l.toList.count false:=by
 have hi:i<l.size:=by
  rcases Nat.lt_or_ge i l.size with h'|h'
  ·exact h'
  ·simp [Array.getD_eq_getD_getElem?,Array.getElem?_eq_none h'] at h
 have hg:l.toList[i]'(by simpa using hi)=false:=by
  simp [Array.getD_eq_getD_getElem?,Array.getElem?_eq_getElem hi] at h;simpa using h
 have hp:0<l.toList.count false:=List.count_pos_iff.2 (hg ▸ List.getElem_mem _);have hc:=List.count_set (a:=true) (b:=false) (l:=l.toList) (i:=i) (by rw [Array.length_toList];exact hi);rw [Array.toList_setIfInBounds,hc,hg];have e1:((false == false)=true):=rfl
 have e2:¬ ((true == false)=true):=de_
 rw [if_pos e1,if_neg e2];omega
theorem any_inv {J:Array Bool→Act→World→Prop} (hdone:∀ l a w,J l a w→Region.ready .any ops l=[]→Q .normal a w)
  (hstep:∀ l a w i,J l a w→i ∈ Region.ready .any ops l→∃ o,ops[i]?=some o∧∀ K':Act→World→Prop,Shut (∀ a' w',J (l.setIfInBounds i true) a' w'→K' a' w')→if Region.wanted o (yielded ops a.tmps)=true then Oper.wp P o a w K' Q else K' (a.put o.dst undef) w) :
  ∀ fuel l a w,l.toList.count false≤fuel→J l a w→Yc P .any ops Q (fun _=>True) [] fuel l a w
 |0,l,a,w,hc,hJ=>by
  have hr:Region.ready .any ops l=[]:=by
   apply List.eq_nil_iff_forall_not_mem.2
   intro i hi
   have:=count_set (mem_ready.1 hi).1
   omega
  exact ⟨hr,hdone l a w hJ hr⟩
 |fuel+1,l,a,w,hc,hJ=>by
  refine ⟨fun hr=>hdone l a w hJ hr,fun i hi=>?_⟩;obtain ⟨o,ho,h⟩:=hstep l a w i hJ hi;have hcnt:=count_set (mem_ready.1 hi).1;exact wpOp_step ho (fun K' hK=>h K' (fun a' w' hJ'=>hK a' w' ⟨fun _ _=>trivial,any_inv hdone hstep fuel _ a' w' om_ hJ'⟩))
theorem start_inv {id n:Nat} {a:Act} {w:World} {J:Array Bool→Act→World→Prop} (l:Array Bool) (hm:P.follows .mixedOrders=true) (hn:ops.size=n) (hl:Array.replicate n false=l) (hJ:J l a w.drew) (hdone:∀ l a w,J l a w→Region.ready .any ops l=[]→Q .normal a w)
  (hstep:∀ l a w i,J l a w→i ∈ Region.ready .any ops l→∃ o,ops[i]?=some o∧∀ K':Act→World→Prop,Shut (∀ a' w',J (l.setIfInBounds i true) a' w'→K' a' w')→if Region.wanted o (yielded ops a.tmps)=true then Oper.wp P o a w K' Q else K' (a.put o.dst undef) w):(Code.region id ops true).wp P Q a w:=by
 refine wp_region_last_drew (S:=fun _=>True) (ds:=[]) hm trivial (fun _=>any_inv hdone hstep _ _ _ _ (nt_ List.count_le_length ?_) (by subst hn;subst hl;exact hJ));simp
theorem start_inv2 {id n:Nat} {a:Act} {w:World} {J:Array Oper→Array Bool→Act→World→Prop} (l:Array Bool) (hm:P.follows .mixedOrders=true) (hn:ops.size=n) (hl:Array.replicate n false=l) (hJ:J ops l a w.drew) (hdone:∀ l a w,J ops l a w→Region.ready .any ops l=[]→Q .normal a w)
  (hstep:∀ l a w i,J ops l a w→i ∈ Region.ready .any ops l→∃ o,ops[i]?=some o∧∀ K':Act→World→Prop,Shut (∀ a' w',J ops (l.setIfInBounds i true) a' w'→K' a' w')→if Region.wanted o (yielded ops a.tmps)=true then Oper.wp P o a w K' Q else K' (a.put o.dst undef) w):(Code.region id ops true).wp P Q a w:=
 start_inv (J:=J ops) l hm hn hl hJ hdone hstep
end
structure Made (F:Nat→Value→World→Nat→Nat→Prop) (B:Nat→Bool) (val:Nat→Value) (lo hi:Nat→Nat) (W0 w:World):Prop where
 each:∀ i,B i=true→F i (val i) w (lo i) (hi i)∧W0.heap.size≤lo i∧lo i≤hi i∧hi i≤w.heap.size
 apart:∀ i j,i≠j→B i=true→B j=true→hi i≤lo j∨hi j≤lo i
 below:Below W0.heap.size W0 w
def upd {α:Type} (f:Nat→α) (i:Nat) (x:α):Nat→α:=fun k=>if k=i then x else f k
theorem Made.none {F:Nat→Value→World→Nat→Nat→Prop} {val:Nat→Value} {lo hi:Nat→Nat} (w:World):Made F (fun _=>false) val lo hi w w:=
 ⟨(fun i h=>by cases h),(fun i j _ h=>by cases h),Below.refl _ _⟩
theorem Made.add {F:Nat→Value→World→Nat→Nat→Prop} {B:Nat→Bool} {val:Nat→Value} {lo hi:Nat→Nat} {W0 w w':World} (hF:∀ i v lo hi (w w':World),F i v w lo hi→hi≤w.heap.size→Below w.heap.size w w'→F i v w' lo hi)
  (h:Made F B val lo hi W0 w) (i:Nat) (v:Value) (hb:Below w.heap.size w w') (hv:F i v w' w.heap.size w'.heap.size):Made F (upd B i true) (upd val i v) (upd lo i w.heap.size) (upd hi i w'.heap.size) W0 w':=by
 have hs0:=h.below.size;have hs1:=hb.size;refine ⟨fun k hk=>?_,fun j k hjk hj hk=>?_,h.below.trans (hb.mono hs0)⟩
 ·by_cases e:k=i
  ·subst e;simp only [upd,if_true];exact ⟨hv,hs0,hs1,nr_ _⟩
  ·simp only [upd,if_neg e] at hk ⊢;obtain ⟨a,b,c,d⟩:=h.each k hk;exact ⟨hF _ _ _ _ _ _ a d hb,b,c,om_⟩
 ·by_cases e:j=i
  ·by_cases e2:k=i
   ·exact absurd (e.trans e2.symm) hjk
   ·simp only [upd,if_neg e2] at hk
    have:=(h.each k hk).2.2.2
    simp only [upd,if_pos e,if_neg e2];omega
  ·simp only [upd,if_neg e] at hj;by_cases e2:k=i
   ·have:=(h.each j hj).2.2.2
    simp only [upd,if_pos e2,if_neg e];omega
   ·simp only [upd,if_neg e2] at hk;simp only [upd,if_neg e,if_neg e2];exact h.apart j k hjk hj hk
theorem Made.congr {F:Nat→Value→World→Nat→Nat→Prop} {B B':Nat→Bool} {val:Nat→Value} {lo hi:Nat→Nat} {W0 w:World} (h:Made F B val lo hi W0 w) (e:∀ i,B' i=B i):Made F B' val lo hi W0 w:=
 ⟨fun i hi=>h.each i (e i ▸ hi),fun i j hij hi hj=>h.apart i j hij (e i ▸ hi) (e j ▸ hj),h.below⟩
theorem make_run {P:Program} {t e:TypeId} {z:Value} {size bytes:Nat} {cs:Array Value} (ht:P.underlying t=some (.slice e)) (hinfo:(P.info? e).map (fun i=>(i.zero,i.size,i.bytes))=some (some z,size,bytes)) (m:Int) (h0:0≤m) (hl:(bytes:Int) * m≤281474976710656) (h63:m≤9223372036854775807) (hc:madeCells z.cells (m.toNat * size)=cs) (W:World) :
  (Instr.makeSlice t (.int .i64 m) (.int .i64 m)).run P W=.ok (.slice (some ⟨W.heap.size,0,none⟩) m.toNat m.toNat) (W.alloc (.cells cs e)):=by
 obtain ⟨i0,hi,hzz⟩:=Option.map_eq_some_iff.1 hinfo;simp only [Prod.mk.injEq] at hzz;obtain ⟨hz0,hz1,hz2⟩:=hzz
 have:=run_make (P:=P) W t e i0 z ht hi hz0 .i64 .i64 m m h0 (Int.le_refl _) (by rw [hz2];exact hl) h63
 rw [hz1,hc] at this;exact this
theorem ready_ne {md:Region.Mode} {ops:Array Oper} {l:Array Bool} (h:(Region.ready md ops l).isEmpty=false) (e:Region.ready md ops l=[]):False:=by rw [e] at h;cases h
theorem ready_not {md:Region.Mode} {ops:Array Oper} {l:Array Bool} {i:Nat} (h:(Region.ready md ops l).contains i=false):¬ i ∈ Region.ready md ops l:=fun e=>by rw [List.contains_iff_mem.2 e] at h;cases h
theorem size7 {l:Array Bool} (h:l.size=7):∃ b0 b1 b2 b3 b4 b5 b6,l=#[b0,b1,b2,b3,b4,b5,b6]:=by
 obtain ⟨l⟩:=l
 match l,h with
 |[b0,b1,b2,b3,b4,b5,b6],_=>exact ⟨b0,b1,b2,b3,b4,b5,b6,rfl⟩
end Go.Proofs.Ytlhogkfmdnpmkaa.Pack
namespace Go.Proofs.Ytlhogkfmdnpmkaa.Mean
open RowKit GWhole YtlhogkfmdnpmkaaW.PrintWords YtlhogkfmdnpmkaaW.PrintLast YtlhogkfmdnpmkaaW.PrintMore
variable [Prot]
theorem V_first {W:World} {base n c:Nat} {ok:Nat→Prop} {A:Option Addr} {t:T} {r:List T} (h:Kd.V KT 69 W base ok (.slice A n c) (t :: r)) :
  ∃ ad A4 c4 A5 c5,A=some ad∧W.cell? (ad.add 0)=some (.int .i64 t.f0)∧W.cell? ⟨(ad.add 0).block,(ad.add 0).off+1,none⟩=some (.int .i64 t.f1)∧W.cell? ⟨(ad.add 0).block,(ad.add 0).off+2,none⟩=some (.int .i64 t.f2)∧W.cell? ⟨(ad.add 0).block,(ad.add 0).off+3,none⟩=some (.int .i64 t.f3)∧W.cell? ⟨(ad.add 0).block,(ad.add 0).off+4,none⟩=some (.slice A4 t.f4.length c4)∧W.cell? ⟨(ad.add 0).block,(ad.add 0).off+5,none⟩=some (.slice A5 t.f5.length c5)∧
   Kd.V KT 69 W base ok (.slice A4 t.f4.length c4) t.f4∧Kd.V KT 69 W base ok (.slice A5 t.f5.length c5) t.f5:=by
 obtain ⟨hn,hcn,hf⟩:=Kd.V_at h;obtain ⟨ad,c,e,_,hK,hc0,_⟩:=Kd.F_get hf z69 0 (Int.le_refl _) (by simp only [List.length_cons];omega)
 have hc:∀ j u,c[j]?=some u→W.cell? (ad.add (0+j))=some u:=fun j u hj=>by have:=hc0 j u hj;simpa using this
 have e0:(t :: r).getD (0:Int).toNat z69=t:=rfl;rw [e0] at hK;obtain ⟨A4,c4,A5,c5,rfl,l4,g4,l5,g5⟩:=k69_openF hK;exact ⟨ad,A4,c4,A5,c5,e,hc 0 _ rfl,by rw [← add_field _ _ 1 om_];exact hc 1 _ rfl,by rw [← add_field _ _ 2 om_];exact hc 2 _ rfl,by rw [← add_field _ _ 3 om_];exact hc 3 _ rfl,by rw [← add_field _ _ 4 om_];exact hc 4 _ rfl,by rw [← add_field _ _ 5 om_];exact hc 5 _ rfl,Kd.V_mk l4 g4,Kd.V_mk l5 g5⟩
theorem V_tail {W:World} {base n c:Nat} {ok:Nat→Prop} {A:Option Addr} {t:T} {r:List T} (h:Kd.V KT 69 W base ok (.slice A n c) (t :: r)) :
  Kd.V KT 69 W base ok (.slice (if c=1 then A else A.map (·.add (1 * 6))) r.length (c - 1)) r:=by
 obtain ⟨hn,hcn,hf⟩:=Kd.V_at h;have h1:=Kd.F_cut (m:=1) hf sm_ (hn ▸ hcn);exact Kd.V_mk (by rw [hn,List.length_cons] at hcn;omega) h1
theorem step_back_do (W:World) (base:Nat) (ok:Nat→Prop) (b:BK) (s:WS) (g i:Nat) (h:St W base ok b s g) (hi:i<s.n) (hn:s.n≤1000) (hm:(s.proc i).mode=2) (hr:0≤(s.proc i).room∧(s.proc i).room<2) :
  Calls Try.prog 28 #[.pointer (some ⟨g,0,none⟩),.int .i64 (i:Int)] W fun e W'=>e=.returned (.tuple #[])∧Left W base ok (step s i) g W':=by
 obtain ⟨P,cp,HP⟩:=h.at_.procs om_;obtain ⟨c0,c1,c2,c3,c4⟩:=h.wb.cells;rw [HP.v_] at c0;obtain ⟨M,cm,HM⟩:=h.at_.rooms;rw [HM.v_] at c2;obtain ⟨r,hrr⟩:=Int.eq_ofNat_of_zero_le hr.1;have p2:=HP.cell i 2 hi om_;have p4:=HP.cell i 4 hi om_;simp only [Yp,hm,hrr] at p2 p4;simp at p2 p4;have pf2:=HP.free_ (i * 5+2);have m_a:=HM.cell r om_;have m_f:=HM.free_ r
 have r3:(r:Int)<2:=om_
 have r4:decide (r<2)=true:=dt_ om_
 have i0:(0:Int)≤(i:Int):=om_
 have i1:(i:Int)<(s.n:Int):=om_
 have i2:decide (i<s.n)=true:=dt_ hi
 have hw1:IntKind.i64.wrap ((i:Int)+1)=(i:Int)+1:=by rw [IntKind.wrap_i64];omega
 have HRR:=Xa.mk hrr;clear hrr hr;go_enter Try.func28,Try.ntmps28;go_upto_region 2 with (fail)
 go_region
 all_goals skip
 go_wp2
 (try simp only [Exit.inBlock,Exit.then])
 refine bodyPost_ret (results_none rfl _ _ _) rfl ?_;refine ⟨rfl,?_⟩;have hr1:=h.at_.roomSet h.up r ((i:Int)+1) HM;have h2:=h.write (t':=b.t) (q':=b.q) hr1;have hw2:=h2.at_.mode h2.up (i:=i) hi 0 (h2.at_.Ye (show 0<s.n by omega) HP.v_);have h3:=h2.write (t':=b.t) (q':=b.q) hw2
 have e1:(s.proc i).room.toNat=r:=by rw [HRR.out];rfl
 rw [step_back hm,e1];exact Left.of (h3.below (Xi (Below.refl _ _) 1)) (Below.refl _ _) (((hr1.2.mono (fun k hk=>.inl hk)).trans (hw2.2.mono (fun k hk=>.inl (.inl hk)))).trans (Only.of_below (Xi (Below.refl _ _) 1) _)) h.up
theorem Fit.small:∀ (d:Nat) {room:Int} {t:T},Fit d room t→Small d t.f4∧Small d t.f5
 |0,_,_,h=>h.elim
 |d+1,room,t,h=>⟨⟨by have:=h.2.1;omega,fun x hx=>Fit.small d (h.2.2.2.1 x hx)⟩,⟨by have:=h.2.2.1;omega,fun x hx=>Fit.small d (h.2.2.2.2 x hx)⟩⟩
theorem free_todo {b:BK} {s:WS} {i k:Nat} (v:Value) (l:List T) (h:free (lay b s) k):free (lay { b with t:=up b.t i v } (s.Yz i { s.proc i with todo:=l })) k:=by
 intro a x hx
 match a with
 |0=>exact (by injection hx with hx;subst hx;exact (h 0 ⟨b.p,67,5,s.n,cellsOf 5 s.n (Yp b s)⟩ rfl:b.p.ownBlock≠some k))
 |1=>exact (by injection hx with hx;subst hx;exact h 1 _ rfl)
 |2=>exact (by injection hx with hx;subst hx;exact h 2 _ rfl)
 |3=>exact (by injection hx with hx;subst hx;exact h 3 _ rfl)
 |4=>exact (by injection hx with hx;subst hx;exact h 4 _ rfl)
 |5=>exact (by injection hx with hx;subst hx;exact h 5 _ rfl)
 |6=>exact (by injection hx with hx;subst hx;exact h 6 _ rfl)
 |j+7=>
  have hx':(if j<s.n then some (Row.mk (b.r j) 3 1 3 (ints 3 ((s.Yz i { s.proc i with todo:=l }).proc j).regs)) else none)=some x:=hx;by_cases hj:j<s.n
  ·rw [if_pos hj] at hx';injection hx' with hx';subst hx';exact (h (j+7) ⟨b.r j,3,1,3,ints 3 (s.proc j).regs⟩ (lay_reg b s hj):(b.r j).ownBlock≠some k)
  ·rw [if_neg hj] at hx';cases hx'
theorem step_on_do (W:World) (base:Nat) (ok:Nat→Prop) (b:BK) (s:WS) (g i:Nat) (t:T) (r:List T) (h:St W base ok b s g) (hi:i<s.n) (hm:(s.proc i).mode≠2) (hm1:(s.proc i).mode≠1) (ht:(s.proc i).todo=t :: r) (hs4:Small 3 t.f4) (hs5:Small 3 t.f5) (hl4:t.f4.length≤100) (hl5:t.f5.length≤100) (hok:DoOk (s.Yz i { s.proc i with todo:=r }) i t) :
  Calls Try.prog 28 #[.pointer (some ⟨g,0,none⟩),.int .i64 (i:Int)] W fun e W'=>e=.returned (.tuple #[])∧Left W base ok (step s i) g W':=by
 obtain ⟨P,cp,HP⟩:=h.at_.procs om_;obtain ⟨c0,c1,c2,c3,c4⟩:=h.wb.cells;rw [HP.v_] at c0;have hV:=h.at_.tree i hi;rw [ht] at hV;obtain ⟨A,c,eT⟩:=Kd.V_slice hV;rw [eT] at hV;rw [List.length_cons] at eT;obtain ⟨ad,A4,aA,A5,aB,eA,a0,a1,a2,a3,a4,a5,hv4,hv5⟩:=V_first hV;subst eA;have hcap:=(Kd.V_at hV).2.1;rw [List.length_cons] at hcap;have hVt:=V_tail hV;have p1:=HP.cell i 1 hi om_;have p2:=HP.cell i 2 hi om_;simp only [Yp,eT] at p1;simp only [Yp] at p2;simp at p1 p2;have aD:=HP.free_ (i * 5+1)
 have q2:((s.proc i).mode == 2)=false:=by simpa using hm
 have q3:decide ((s.proc i).mode=2)=false:=df_ hm
 have i0:(0:Int)≤(i:Int):=om_
 have i1:(i:Int)<(s.n:Int):=om_
 have i2:decide (i<s.n)=true:=dt_ hi
 have n1:(0:Int)<((r.length+1:Nat):Int):=om_
 have n2:(0:Int)<((r.length:Int)+1):=om_
 have ad0:ad.add 0=ad:=by simp [Addr.add]
 rw [ad0] at a0 a1 a2 a3 a4 a5;go_enter Try.func28,Try.ntmps28;go_upto_region 3 with (fail);go_upto_region 4 with (fail);have HB:=Xf (Below.refl W.heap.size W) (.cells (CSV t A4 aA A5 aB) 69);have hbx:=Ym W (.cells (CSV t A4 aA A5 aB) 69);generalize W.alloc (.cells (CSV t A4 aA A5 aB) 69)=W1 at *;clear c0 c1 c2 c3 c4 p1 p2 aD a0 a1 a2 a3 a4 a5;have h1:=h.below HB;have aC:=h1.at_.Ye om_ HP.v_;have p1:=aC.cell i 1 hi om_;simp only [Yp,eT] at p1;simp at p1;have aD:=aC.free_ (i * 5+1);obtain ⟨i0,hi0,hx2,hsz,hx3⟩:=info_parts info69;have hcut:=cut_from (P:=Try.prog) 50 69 .i64 Try.underlying50 hi0 6 hsz (some ad) (r.length+1) c 1 om_ om_;have e1:(1:Int).toNat=1:=rfl;have hl1:r.length+1 - 1=r.length:=rfl;obtain ⟨A1,hA1⟩:∃ A1,A1=(if c=1 then some ad else Option.map (·.add (1 * 6)) (some ad)):=⟨_,rfl⟩;obtain ⟨c1,hc1⟩:∃ c1,c1=c - 1:=⟨_,rfl⟩;rw [e1,hl1,← hA1,← hc1] at hcut;rw [← hA1,← hc1] at hVt;clear e1 hl1 hA1 hc1 hx2 hx3 hsz hi0;go_upto_region 5 with (fail);have hw:=h1.at_.todo h1.up hi (.slice A1 r.length c1) r aC (Kd.V_below hVt HB);have h2:=h1.write (t':=up b.t i (.slice A1 r.length c1)) (q':=b.q) hw;have hg:=(stored (h1.at_.rows.at_ 0 _ rfl) aC.v_ (i * 5+1) (.slice A1 r.length c1)).2;have ht1:StmtIn W 3 t A4 aA A5 aB (fun k=>ok k∧free (lay b s) k):=⟨hv4,hv5,hs4,hs5,hl4,hl5⟩;have ht2:=(ht1.below HB).grown hg (fun k hk e=>hk.2 0 _ rfl e.symm);have hp:∀ k,(ok k∧free (lay b s) k)→free (lay { b with t:=up b.t i (.slice A1 r.length c1) } (s.Yz i { s.proc i with todo:=r })) k:=fun k hk=>free_todo _ _ hk.2;have hPlt:P<W.heap.size:=HP.lt;have hb2:(W1.setCell ⟨P,i * 5+1,none⟩ (.slice A1 r.length c1)).heap[W.heap.size]?=some (.cells (CSV t A4 aA A5 aB) 69 (0,0)):=Zv hbx (fun e=>by have:W.heap.size=P:=e;omega) _;have o2:Only W (W1.setCell ⟨P,i * 5+1,none⟩ (.slice A1 r.length c1)) ok:=(Only.of_below HB ok).trans (hw.2.mono (fun k hk=>.inl hk));clear hw p1 aD hcut h1 aC hbx HB;change St (W1.setCell ⟨P,i * 5+1,none⟩ (.slice A1 r.length c1)) _ _ _ _ _ at h2;change StmtIn (W1.setCell ⟨P,i * 5+1,none⟩ (.slice A1 r.length c1)) _ _ _ _ _ _ _ at ht2;generalize (W1.setCell ⟨P,i * 5+1,none⟩ (.slice A1 r.length c1))=W2 at *;obtain ⟨b0,b1,b2,b3,b4,b5⟩:=box6 hb2;have ho:DoOk (s.Yz i { s.proc i with todo:=r }) i t:=hok;have dsp:=disp W2 base ok _ _ g i t A4 aA A5 aB _ h2 hi ht2 hp ho;clear ho hok ht2 hp ht1;obtain ⟨Ty,v,f,hD,hM,hC,hX⟩:=dsp;go_wp2_with (first|(go_at_call 43;refine hD.mono ?_;rintro e w3 ⟨rfl,hb3⟩)|(refine (hX w3 hb3).mono ?_;rintro e w4 ⟨rfl,hL⟩));go_end0;refine ⟨rfl,?_⟩;rw [step_on hm ht];exact Left.only o2 (Left.after hb3 hL)
theorem step_do (W:World) (base:Nat) (ok:Nat→Prop) (b:BK) (s:WS) (g i K:Nat) (h:St W base ok b s g) (hi:i<s.n) (inv:Inv s K) (hK:K≤20000) (hc:codeN s i=0) :
  Calls Try.prog 28 #[.pointer (some ⟨g,0,none⟩),.int .i64 (i:Int)] W fun e W'=>e=.returned (.tuple #[])∧Left W base ok (step s i) g W':=by
 have hn:s.n≤1000:=by have:=inv.n.2;omega
 rcases codeN_fine hc with ⟨h2,h3⟩|⟨h2,h1,t,r,ht,h8⟩
 ·refine step_back_do W base ok b s g i h hi hn h2 ?_
  rcases inv.mode i hi with hm|hm
  ·omega
  ·rcases inv.room hi with hr|hr
   ·omega
   ·exact hr
 ·have hlen:=inv.len i hi;rw [ht,List.length_cons] at hlen;have hok:=inv.todo i hi;rw [ht] at hok;have e1:(s.Yz i { s.proc i with todo:=r }).proc i = { s.proc i with todo:=r }:=Yw _ _ _
  have hq:∀ j,j<2→(s.sign j).length≤1000∧∀ q ∈ s.sign j,0≤q∧q<(s.n:Int):=fun j hj=>⟨by have:=inv.qlen hj;omega,fun q hq=>by
   obtain ⟨k,hk,e,_,_⟩:=inv.queue j hj q hq
   omega⟩
  have ho:∀ (hh:Head t.f0 t.f1 t.f2 t.f3 (s.proc i).room t.f4.length t.f5.length∨(t.f0=12∧0≤t.f1∧t.f1<2)),DoOk (s.Yz i { s.proc i with todo:=r }) i t:=fun hh=>⟨hn,by rw [e1];exact hh,fun h9=>by
   rw [e1]
   rcases hh with hh|hh
   ·rcases inv.room hi with hr|hr
    ·unfold Head at hh;omega
    ·exact hr
   ·omega,hq,by have:=inv.said;show s.said.length≤_;omega,by rw [e1];show r.length≤_;omega⟩
  rcases hok.first with ⟨hf,hr⟩|⟨h0,hl2,rfl,hr⟩
  ·have hs:=Fit.small 3 hf;exact step_on_do W base ok b s g i t r h hi h2 h1 ht hs.1 hs.2 (by have:=hf.len;omega) (by have:=hf.len;omega) (ho (.inl hf.head))
  ·exact step_on_do W base ok b s g i _ r h hi h2 h1 ht (Small.nil _) (Small.nil _) (Nat.zero_le _) (Nat.zero_le _) (ho (.inr ⟨rfl,h0,hl2⟩))
end Go.Proofs.Ytlhogkfmdnpmkaa.Mean
