import Derived.Test.YtdkcjecllbdljaaDoorCFnCodeLines0
import Derived.Test.YtdkcjecllbdljaaDoorCFnCodeLines22
import Derived.Test.YtdkcjecllbdljaaDoorCFnCodeLines23
import Derived.Test.YtdkcjecllbdljaaDoorCFnCodeLines30
import Derived.Test.YtdkcjecllbdljaaDoorCFnCodeLines42
namespace Go.Proofs.YtdkcjecllbdljaaDoor.GCode
open Go.RowKit Go.Proofs.YtdkcjecllbdljaaDoorW.PrintWords Go.Proofs.YtdkcjecllbdljaaDoorW.PrintLast Go.Proofs.YtdkcjecllbdljaaDoorW.PrintMore
attribute [local go_sem] Zy Ua Uo Uq Zp Zq Zz Ub
set_option linter.unusedVariables false
set_option linter.unusedSimpArgs false
def Xk (w0 W:World) (g:Nat) (f0:List Int) (f1:Int):Prop:=∃ A0 c0,W.heap[g]?=some (.cells #[.slice A0 f0.length c0,.int .i64 f1] 81 (0,0))∧w0.heap.size≤g∧Kd.C (Kd.int .u8) w0 A0 f0.length f0
theorem Xk.grown {w0 W:World} {g:Nat} {f0:List Int} {f1:Int} {W1:World} {row:Option Nat} (h:Xk w0 W g f0 f1) (hw:W.grownBy W1 row) (hne:some g≠row):Xk w0 W1 g f0 f1:=by
 obtain ⟨A0,c0,hb,hg,hr0⟩:=h;exact ⟨A0,c0,blk_grown hb hw hne,hg,hr0⟩
theorem Xk.own_neN {w0 W:World} {g:Nat} {f0:List Int} {f1:Int} {α:Type} {d:Kd α} {e:Nat} {base:Nat} {ok:Nat→Prop} {v:Value} {xs:List α} (h:Xk w0 W g f0 f1) (ho:Kd.N d e W base ok v xs) (ht:e≠81):some g≠v.ownBlock:=by
 obtain ⟨A0,c0,hb,hg,hr0⟩:=h;exact Kd.N_ne ho hb ht
theorem Xk.fresh {w0 W:World} {g:Nat} {f0:List Int} {f1:Int} (h:Xk w0 W g f0 f1):∀ k,W.heap.size≤k→k≠g:=by
 obtain ⟨A0,c0,hb,hg,hr0⟩:=h;exact Kd.freshB hb
theorem Xk.kept {w0 W:World} {g:Nat} {f0:List Int} {f1:Int} {W1:World} {S:Nat→Prop} (h:Xk w0 W g f0 f1) (hk:Kept W W1 S) (hne:¬ S g):Xk w0 W1 g f0 f1:=by
 obtain ⟨A0,c0,hb,hg,hr0⟩:=h;exact ⟨A0,c0,blk_kept hb hk hne,hg,hr0⟩
theorem Xk.below {w0 W:World} {g:Nat} {f0:List Int} {f1:Int} {W1:World} (h:Xk w0 W g f0 f1) (hw:Below W.heap.size W W1):Xk w0 W1 g f0 f1:=h.grown (grown_of_below hw none) (by simp)
theorem Xk.alloc {w0 W:World} {g:Nat} {f0:List Int} {f1:Int} (h:Xk w0 W g f0 f1) (o:Obj):Xk w0 (W.alloc o) g f0 f1:=h.below (below_alloc (Below.refl _ _) o)
theorem Xk.drewN {w0 W:World} {g:Nat} {f0:List Int} {f1:Int} (h:Xk w0 W g f0 f1) (m:Nat):Xk w0 (W.drewN m) g f0 f1:=h
theorem Xk.drew {w0 W:World} {g:Nat} {f0:List Int} {f1:Int} (h:Xk w0 W g f0 f1):Xk w0 W.drew g f0 f1:=h
theorem Xk.at_ {w0 W:World} {g:Nat} {f0:List Int} {f1:Int} {w':World} {m:Nat} (hq:W.drewN m=w') (h:Xk w0 W g f0 f1):Xk w0 w' g f0 f1:=by subst hq;exact Xk.drewN h m
theorem Xk.apart {w0 W:World} {g:Nat} {f0:List Int} {f1:Int} {α:Type} {d:Kd α} {e:Nat} {base:Nat} {ok:Nat→Prop} {v:Value} {xs:List α} (h:Xk w0 W g f0 f1) (ho:d.R e W base ok v xs) (ht:∀ q,q ∈ e :: d.E→q≠81):d.R e W base (fun k=>ok k∧k≠g) v xs:=by
 obtain ⟨A0,c0,hb,hg,hr0⟩:=h;exact Kd.R_types ho hb ht
theorem Xk.own_ne {w0 W:World} {g:Nat} {f0:List Int} {f1:Int} {α:Type} {d:Kd α} {e:Nat} {base:Nat} {ok:Nat→Prop} {v:Value} {xs:List α} (h:Xk w0 W g f0 f1) (ho:d.R e W base ok v xs) (ht:e≠81):some g≠v.ownBlock:=by
 obtain ⟨A0,c0,hb,hg,hr0⟩:=h;exact Kd.R_ne ho hb ht
theorem Xk.lt {w0 W:World} {g:Nat} {f0:List Int} {f1:Int} (h:Xk w0 W g f0 f1):g<W.heap.size:=by
 obtain ⟨A0,c0,hb,hg,hr0⟩:=h;exact blk_lt hb
theorem Xk.ge {w0 W:World} {g:Nat} {f0:List Int} {f1:Int} (h:Xk w0 W g f0 f1):w0.heap.size≤g:=by
 obtain ⟨A0,c0,hb,hg,hr0⟩:=h;exact hg
theorem Xk.far {w0 W:World} {g:Nat} {f0:List Int} {f1:Int} {p:Addr} (h:Xk w0 W g f0 f1) (hne:g≠p.block) (u:Value):Xk w0 (W.setCell p u) g f0 f1:=by
 obtain ⟨A0,c0,hb,hg,hr0⟩:=h;exact ⟨A0,c0,blk_far hb hne u,hg,hr0⟩
theorem cellS81_0 {W:World} {g:Nat} {A0:Option Addr} {c0:Nat} {f0:List Int} {f1:Int} (h:W.heap[g]?=some (.cells #[.slice A0 f0.length c0,.int .i64 f1] 81 (0,0))):W.cell? ⟨g,0,none⟩=some (.slice A0 f0.length c0):=(Ya h 0).trans rfl
theorem cellS81_1 {W:World} {g:Nat} {A0:Option Addr} {c0:Nat} {f0:List Int} {f1:Int} (h:W.heap[g]?=some (.cells #[.slice A0 f0.length c0,.int .i64 f1] 81 (0,0))):W.cell? ⟨g,1,none⟩=some (.int .i64 f1):=(Ya h 1).trans rfl
theorem Xk.set_1 {w0 W:World} {g:Nat} {f0:List Int} {f1:Int} (h:Xk w0 W g f0 f1) (x:Int):Xk w0 (W.setCell ⟨g,1,none⟩ (.int .i64 x)) g f0 x:=by
 obtain ⟨A0,c0,hb,hg,hr0⟩:=h;exact ⟨A0,c0,by simpa using blk_set hb 1 (.int .i64 x),hg,hr0⟩
theorem Xk.new (w0 W:World) (A0:Option Addr) (c0:Nat) (f0:List Int) (f1:Int) (hB:Below w0.heap.size w0 W) (hr0:Kd.C (Kd.int .u8) w0 A0 f0.length f0):Xk w0 (W.alloc (.cells #[.slice A0 f0.length c0,.int .i64 f1] 81)) W.heap.size f0 f1:=⟨A0,c0,by simpa using heap_alloc_new W _,hB.size,hr0⟩
theorem Yg {b:Nat} {w W W1:World} (h:Xa (Below b w W)) (s:Below b w W→Below b w W1:=by intro h_;repeat (first|(with_reducible first|exact h_|apply below_alloc|apply Ze|apply below_drew1|refine below_set ?_ (Xk.ge (Xa.out (by assumption)))|refine below_set ?_ (Xa.out (by assumption)))|exact h_)):Below b w W1:=s h.out
theorem Xy {w0 W W1:World} {g:Nat} {f0 f0':List Int} {f1 f1':Int} (h:Xa (Xk w0 W g f0 f1)) (s:Xk w0 W g f0 f1→Xk w0 W1 g f0' f1':=by intro h_;repeat (first|(with_reducible first|exact h_|apply Xk.alloc|apply Xk.drewN|apply Xk.drew|apply Xk.set_1|refine Xk.far ?_ (Xa.out (by assumption)) _)|exact h_)):Xk w0 W1 g f0' f1':=s h.out
def spec_l11Open.f (l0:List Int):Option (List Int × Int):=if (l0.length:Int) > 2000 then (if 2000≤(l0.length:Int) then (some (l0.take 2000,0)) else (none)) else (some (l0,0))
set_option maxHeartbeats 8000000 in
set_option maxRecDepth 100000 in
theorem spec_l11Open.calls (A0:Option Addr) (c0:Nat) (l0:List Int) (r1:List Int) (r2:Int) (w0 w:World) (hB:Below w0.heap.size w0 w) (hr0:Kd.C (Kd.int .u8) w0 A0 l0.length l0) (hc0:l0.length≤c0) (h:spec_l11Open.f l0=some (r1,r2)) :
  Calls Tryd.prog 27 #[.slice A0 l0.length c0] w fun e w'=>∃ g_:Nat,e=.returned (.pointer (some ⟨g_,0,none⟩))∧Xk w0 w' g_ r1 r2∧Below w0.heap.size w0 w'∧Below w.heap.size w w':=by
 have hu81:=Tryd.underlying81;have HR0:=Xa.mk hr0;have HC0:=Xa.mk hc0;clear hr0 hc0;have HBW:=Xa.mk (Below.refl w.heap.size w);have HW0:=Xa.mk hB.size;have HB:=Xa.mk hB;clear hB;have H:(if (l0.length:Int) > 2000 then (if 2000≤(l0.length:Int) then (some (l0.take 2000,0)) else (none)) else (some (l0,0)))=some (r1,r2):=h;clear h;by_cases c2:(l0.length:Int) > 2000
 ·rw [if_pos c2] at H;have c2b0:decide (2000<(l0.length:Int))=true:=decide_eq_true c2;have c2b1:decide (2000<l0.length)=true:=decide_eq_true (by omega);clear c2;by_cases c3:2000≤(l0.length:Int)
  ·rw [if_pos c3] at H;have c3b0:=eq_true c3;have c3b1:decide (2000≤(l0.length:Int))=true:=decide_eq_true c3;clear c3;simp only [Option.some.injEq,Prod.mk.injEq] at H;obtain ⟨rfl,rfl⟩:=H;obtain ⟨i04,hi04,_,hsz4,_⟩:=info_parts info5;obtain ⟨hcut4,hA4,hC4⟩:=print_take_of (P:=Tryd.prog) (Value.int .u8) 0 29 5 .i64 Tryd.underlying29 hi04 hsz4 A0 c0 l0 2000 (by omega) (of_decide_eq_true (by first|(with_reducible assumption)|assumption)) HC0.out;have HR283:=Xa.mk (Kd.C_of_reads (h1:=fun _=>rfl) (hA4 _ (Kd.reads_of_C HR0.out)));have HC283:=Xa.mk hC4;clear hA4 hC4 hi04 hsz4
   go_enter Tryd.func27,Tryd.ntmps27
   go_wp2_with (first|((with_reducible refine Xq (N:=10) rfl ?_);refine Yq ?hg (N:=10) ?hd (cs:=#[.slice A0 (l0.take 2000).length c0,.int .i64 0]) (t:=81) ?hr ?_;(case hd=>rfl);(case hg=>rfl);(case hr=>first|(go_simp;done)|(go_simp;rfl));intro gb284 hg w5 hbox hb;have n0_:=Xa.mk (Xc HBW.out hb);have n1_:=Xa.mk (Xc (bl_ HB) hb);have n2_:=Xa.mk (hbox);have n3_:=Xa.mk ((by rw [hg];exact (Xd (bl_ HBW)):w.heap.size≤gb284));have n4_:=Xa.mk ((Nat.le_trans HW0.out (by rw [hg];exact (Xd (bl_ HBW)):w.heap.size≤gb284):w0.heap.size≤gb284));clear HBW;clear HB;have HBW:=n0_;have HB:=n1_;have BK284:=n2_;have GW284:=n3_;have GE284:=n4_;clear n0_ n1_ n2_ n3_ n4_;clear hb hbox hg))
   go_ret
   exact ⟨_,rfl,(show Xk w0 _ gb284 (l0.take 2000) 0 from ⟨_,_,ba_ BK284,GE284.out,HR283.out⟩),bl_ HB,bl_ HBW⟩
  ·rw [if_neg c3] at H;exact absurd H (by simp)
 ·rw [if_neg c2] at H;have c2b0:decide (2000<(l0.length:Int))=false:=decide_eq_false c2;have c2b1:decide (2000<l0.length)=false:=decide_eq_false (by omega);clear c2;simp only [Option.some.injEq,Prod.mk.injEq] at H;obtain ⟨rfl,rfl⟩:=H
  go_enter Tryd.func27,Tryd.ntmps27
  go_wp2_with (first|((with_reducible refine Xq (N:=10) rfl ?_);refine Yq ?hg (N:=10) ?hd (cs:=#[.slice A0 l0.length c0,.int .i64 0]) (t:=81) ?hr ?_;(case hd=>rfl);(case hg=>rfl);(case hr=>first|(go_simp;done)|(go_simp;rfl));intro gb285 hg w6 hbox hb;have n0_:=Xa.mk (Xc HBW.out hb);have n1_:=Xa.mk (Xc (bl_ HB) hb);have n2_:=Xa.mk (hbox);have n3_:=Xa.mk ((by rw [hg];exact (Xd (bl_ HBW)):w.heap.size≤gb285));have n4_:=Xa.mk ((Nat.le_trans HW0.out (by rw [hg];exact (Xd (bl_ HBW)):w.heap.size≤gb285):w0.heap.size≤gb285));clear HBW;clear HB;have HBW:=n0_;have HB:=n1_;have BK285:=n2_;have GW285:=n3_;have GE285:=n4_;clear n0_ n1_ n2_ n3_ n4_;clear hb hbox hg))
  go_ret
  exact ⟨_,rfl,(show Xk w0 _ gb285 l0 0 from ⟨_,_,ba_ BK285,GE285.out,HR0.out⟩),bl_ HB,bl_ HBW⟩
def Xf.j0:Nat→Int→Bool→List Int→Int→Option (Int × Int)
 |0,_,_,_,_=>none
 |k+1,x1,x24,x1000,x1001=>if x24=true then (some (0,x1001)) else (if (wrap64 (x1001 - 1))<(x1000.length:Int) then (if 0≤(wrap64 (x1001 - 1)) then (if x1=0 then (none) else (some (Int.tmod (wrap64 (rd x1000 (wrap64 (x1001 - 1)))) x1,x1001))) else (none)) else (if (x1000.length:Int)=0 then (none) else (if 0≤(Int.tmod (wrap64 (x1001 - 1)) (x1000.length:Int)) then (if (Int.tmod (wrap64 (x1001 - 1)) (x1000.length:Int))<(x1000.length:Int) then (if 0≤(Int.tmod (wrap64 ((wrap64 ((wrap64 (x1001 - 1)) * 7))+3)) (x1000.length:Int)) then (if (Int.tmod (wrap64 ((wrap64 ((wrap64 (x1001 - 1)) * 7))+3)) (x1000.length:Int))<(x1000.length:Int) then (if x1=0 then (none) else (some (Int.tmod (Go.bits .xor .i64 (wrap64 ((wrap64 ((wrap64 ((wrap64 ((wrap64 (rd x1000 (Int.tmod (wrap64 (x1001 - 1)) (x1000.length:Int)))) * 131))+(wrap64 ((wrap64 (rd x1000 (Int.tmod (wrap64 ((wrap64 ((wrap64 (x1001 - 1)) * 7))+3)) (x1000.length:Int)))) * 1117))))+(wrap64 ((wrap64 (x1001 - 1)) * 29))))+(wrap64 ((wrap64 (Int.tdiv (wrap64 (x1001 - 1)) (x1000.length:Int))) * 53)))) (wrap64 (Int.tdiv (wrap64 ((wrap64 ((wrap64 ((wrap64 ((wrap64 (rd x1000 (Int.tmod (wrap64 (x1001 - 1)) (x1000.length:Int)))) * 131))+(wrap64 ((wrap64 (rd x1000 (Int.tmod (wrap64 ((wrap64 ((wrap64 (x1001 - 1)) * 7))+3)) (x1000.length:Int)))) * 1117))))+(wrap64 ((wrap64 (x1001 - 1)) * 29))))+(wrap64 ((wrap64 (Int.tdiv (wrap64 (x1001 - 1)) (x1000.length:Int))) * 53)))) 64))) x1,x1001))) else (none)) else (none)) else (none)) else (none))))
def Xf.f (k:Nat) (s0_0:List Int) (s0_1:Int) (a1:Int):Option (Int × Int):=if a1<1 then (Xf.j0 k a1 true s0_0 (wrap64 (s0_1+1))) else (Xf.j0 k a1 ((s0_0.length:Int) == 0) s0_0 (wrap64 (s0_1+1)))
theorem Xf.mono_l:∀ k,(∀ y0 y1 y2 y3,LeO (Xf.j0 k y0 y1 y2 y3) (Xf.j0 (k+1) y0 y1 y2 y3))
 |0=>fun _ _ _ _ r h=>by simp [Xf.j0] at h
 |k+1=>by
  have ih0:=Xf.mono_l k
  ·intro y0 y1 y2 y3
   unfold Xf.j0
   repeat' first
   |(with_reducible exact ih0 _ _ _ _)
   |(with_reducible exact LeO.refl _)
   |(with_reducible exact LeO.none _)
   |(with_reducible refine LeO.ite ?_ ?_)
   |(with_reducible refine LeO.bind ?_ (fun _=>?_))
   |exact ih0 _ _ _ _
   |exact LeO.none _
   |refine LeO.ite ?_ ?_
   |refine LeO.bind ?_ (fun _=>?_)
theorem Xf.mono:∀ a0 a1 a2 k,LeO (Xf.f k a0 a1 a2) (Xf.f (k+1) a0 a1 a2):=by
 intro a0 a1 a2 k;have ih0:=Xf.mono_l k
 unfold Xf.f
 repeat' first
   |(with_reducible exact ih0 _ _ _ _)
   |(with_reducible exact LeO.refl _)
   |(with_reducible exact LeO.none _)
   |(with_reducible refine LeO.ite ?_ ?_)
   |(with_reducible refine LeO.bind ?_ (fun _=>?_))
   |exact ih0 _ _ _ _
   |exact LeO.none _
   |refine LeO.ite ?_ ?_
   |refine LeO.bind ?_ (fun _=>?_)
set_option maxHeartbeats 8000000 in
set_option maxRecDepth 100000 in
theorem Xf.calls (k:Nat) (g:Nat) (s0_0:List Int) (s0_1:Int) (a1:Int) (r1:Int) (r2:Int) (w0 w:World) (hI:Xk w0 w g s0_0 s0_1) (hB:Below w0.heap.size w0 w) (h:Xf.f k s0_0 s0_1 a1=some (r1,r2)) :
  Calls Tryd.prog 44 #[.pointer (some ⟨g,0,none⟩),.int .i64 a1] w fun e w'=>e=.returned (.int .i64 r1)∧Xk w0 w' g s0_0 r2∧Below w0.heap.size w0 w'∧Xg w w' g none:=by
 have HI0:=Xa.mk hI;have HK:=Xa.mk (Xg.refl w g none);have HL:=Xa.mk hB.size;clear hI;have HW0:=Xa.mk hB.size;have HB:=Xa.mk hB;clear hB;have H:(if a1<1 then (Xf.j0 k a1 true s0_0 (wrap64 (s0_1+1))) else (Xf.j0 k a1 ((s0_0.length:Int) == 0) s0_0 (wrap64 (s0_1+1))))=some (r1,r2):=h;clear h;have HC3:=Xa.mk H;clear H;obtain ⟨ASz4_0,cSz4_0,HGz4,hgz4,HSz4_0⟩:=HI0.out;have hcz4_0:=cellS81_0 HGz4;have hcz4_1:=cellS81_1 HGz4;have hfz4_1:=Zt HGz4 1;clear HGz4 hgz4
 go_enter Tryd.func44,Tryd.ntmps44
 go_upto_region 2 with (fail)
 repeat (go_quiet (fail);go_upto_region 2 with (fail))
 go_cut [24] (fun v24 wc=>∃ (kq:Nat) (x24_2:Bool),v24=.bool x24_2∧Xa (Xf.j0 kq a1 x24_2 s0_0 (wrap64 (s0_1+1))=some (r1,r2))∧Xa (kq≤k)∧Xa (Xk w0 wc g s0_0 (wrap64 (s0_1+1)))∧Xa (Xg w wc g none)∧Xa (Below w0.heap.size w0 wc))
 case first=>
  have H:=HC3.out;clear HC3;by_cases c5:a1<1
  ·rw [if_pos c5] at H;have c5b0:decide (a1<1)=true:=decide_eq_true c5;clear c5
   (first|rw [c5b0]|(simp only [Xt,Xu];rw [c5b0])|skip)
   have H':=Xa.mk H;clear H;go_wp2
   repeat (go_quiet (fail);try go_wp2)
   go_meet
   case rel=>exact ⟨_,(true),(by first|rfl|(simp;done)|(simp [*];done)),H',⟨by first|omega|exact Nat.le_refl _⟩,⟨Xy HI0⟩,⟨kp_ HK⟩,⟨Yg HB⟩⟩
  ·rw [if_neg c5] at H;have c5b0:decide (a1<1)=false:=decide_eq_false c5;clear c5
   (first|rw [c5b0]|(simp only [Xt,Xu];rw [c5b0])|skip)
   have H':=Xa.mk H;clear H;obtain ⟨ASz6_0,cSz6_0,HGz6,hgz6,HSz6_0⟩:=HI0.out;have hcz6_0:=cellS81_0 HGz6;have hcz6_1:=cellS81_1 HGz6;have hfz6_1:=Zt HGz6 1;clear HGz6 hgz6;go_wp2
   repeat (go_quiet (fail);try go_wp2)
   go_meet
   case rel=>exact ⟨_,(((s0_0.length:Int) == 0)),(by first|rfl|(simp;done)|(simp [*];done)),H',⟨by first|omega|exact Nat.le_refl _⟩,⟨Xy HI0⟩,⟨kp_ HK⟩,⟨Yg HB⟩⟩
 case rest=>
  clear HC3
  try clear p2
  try clear c4
  try clear c5
  try clear c5b0
  try clear p6
  try clear hcz4_0
  try clear hcz4_1
  try clear hcz6_0
  try clear hcz6_1
  try clear hfz4_1
  try clear hfz6_1
  obtain ⟨kq,x24_2,rfl,HA,HJ2,HI0,HK,HB⟩:=hcut
  cases kq with
  |zero=>exact absurd HA.out (by simp [Xf.j0])
  |succ kj2=>
   have H:=HA.out;clear HA;simp only [Xf.j0] at H;by_cases c7:x24_2=true
   ·subst c7
    have H1:(some (0,(wrap64 (s0_1+1))))=some (r1,r2):=by rw [if_pos rfl] at H;exact H
    clear H;have H:=H1;clear H1;simp only [Option.some.injEq,Prod.mk.injEq] at H;obtain ⟨rfl,rfl⟩:=H;go_wp2
    repeat (go_quiet (fail);try go_wp2)
    go_ret
    exact ⟨rf_,Xy HI0,Yg HB,kp_ HK⟩
   ·replace c7:=Bool.eq_false_iff.mpr c7;subst c7
    have H1:(if (wrap64 ((wrap64 (s0_1+1)) - 1))<(s0_0.length:Int) then (if 0≤(wrap64 ((wrap64 (s0_1+1)) - 1)) then (if a1=0 then (none) else (some (Int.tmod (wrap64 (rd s0_0 (wrap64 ((wrap64 (s0_1+1)) - 1)))) a1,(wrap64 (s0_1+1))))) else (none)) else (if (s0_0.length:Int)=0 then (none) else (if 0≤(Int.tmod (wrap64 ((wrap64 (s0_1+1)) - 1)) (s0_0.length:Int)) then (if (Int.tmod (wrap64 ((wrap64 (s0_1+1)) - 1)) (s0_0.length:Int))<(s0_0.length:Int) then (if 0≤(Int.tmod (wrap64 ((wrap64 ((wrap64 ((wrap64 (s0_1+1)) - 1)) * 7))+3)) (s0_0.length:Int)) then (if (Int.tmod (wrap64 ((wrap64 ((wrap64 ((wrap64 (s0_1+1)) - 1)) * 7))+3)) (s0_0.length:Int))<(s0_0.length:Int) then (if a1=0 then (none) else (some (Int.tmod (Go.bits .xor .i64 (wrap64 ((wrap64 ((wrap64 ((wrap64 ((wrap64 (rd s0_0 (Int.tmod (wrap64 ((wrap64 (s0_1+1)) - 1)) (s0_0.length:Int)))) * 131))+(wrap64 ((wrap64 (rd s0_0 (Int.tmod (wrap64 ((wrap64 ((wrap64 ((wrap64 (s0_1+1)) - 1)) * 7))+3)) (s0_0.length:Int)))) * 1117))))+(wrap64 ((wrap64 ((wrap64 (s0_1+1)) - 1)) * 29))))+(wrap64 ((wrap64 (Int.tdiv (wrap64 ((wrap64 (s0_1+1)) - 1)) (s0_0.length:Int))) * 53)))) (wrap64 (Int.tdiv (wrap64 ((wrap64 ((wrap64 ((wrap64 ((wrap64 (rd s0_0 (Int.tmod (wrap64 ((wrap64 (s0_1+1)) - 1)) (s0_0.length:Int)))) * 131))+(wrap64 ((wrap64 (rd s0_0 (Int.tmod (wrap64 ((wrap64 ((wrap64 ((wrap64 (s0_1+1)) - 1)) * 7))+3)) (s0_0.length:Int)))) * 1117))))+(wrap64 ((wrap64 ((wrap64 (s0_1+1)) - 1)) * 29))))+(wrap64 ((wrap64 (Int.tdiv (wrap64 ((wrap64 (s0_1+1)) - 1)) (s0_0.length:Int))) * 53)))) 64))) a1,(wrap64 (s0_1+1))))) else (none)) else (none)) else (none)) else (none))))=some (r1,r2):=by rw [if_neg (show ¬ (false=true) by decide)] at H;exact H
    clear H;have H:=H1;clear H1;by_cases c8:(wrap64 ((wrap64 (s0_1+1)) - 1))<(s0_0.length:Int)
    ·rw [if_pos c8] at H;have c8b0:decide ((wrap64 ((wrap64 (s0_1+1)) - 1))<(s0_0.length:Int))=true:=decide_eq_true c8;clear c8;obtain ⟨ji9,hji9⟩:∃ j_:Int,(wrap64 ((wrap64 (s0_1+1)) - 1))=j_:=⟨_,rfl⟩
     replace H:(if 0≤(ji9) then (if a1=0 then (none) else (some (Int.tmod (wrap64 (rd s0_0 (ji9))) a1,(wrap64 (s0_1+1))))) else (none))=some (r1,r2):=by first|(rw [hji9] at H;exact H)|(simp only [hji9] at H ⊢;exact H)
     (try rw [hji9] at c8b0)
     have hji9w:(IntKind.i64.wrap ((wrap64 (s0_1+1)) - 1))=ji9:=(Xt _).trans hji9;by_cases c10:0≤(ji9)
     ·rw [if_pos c10] at H;have c10b0:decide (0≤(ji9))=true:=decide_eq_true c10;clear c10;by_cases c11:a1=0
      ·rw [if_pos c11] at H;exact absurd H (by simp)
      ·rw [if_neg c11] at H;have c11b0:(a1 == 0)=false:=beq_eq_false_iff_ne.mpr c11;have c11b1:(a1 != 0)=true:=bne_iff_ne.mpr c11;simp only [Option.some.injEq,Prod.mk.injEq] at H;obtain ⟨rfl,rfl⟩:=H;obtain ⟨ASz12_0,cSz12_0,HGz12,hgz12,HSz12_0⟩:=HI0.out;have hcz12_0:=cellS81_0 HGz12;have hcz12_1:=cellS81_1 HGz12;have hfz12_1:=Zt HGz12 1;clear HGz12 hgz12;have p286:0≤((ji9):Int):=of_decide_eq_true (by first|(with_reducible assumption)|assumption);have q286:(ji9)<(s0_0.length:Int):=of_decide_eq_true (by first|(with_reducible assumption)|assumption);obtain ⟨ad286,e286,hx286_0⟩:=Kd.Zr HSz12_0 (ji9) p286 q286;cases e286
       replace hx286_0:=pw_cell_below HB.out hx286_0;replace p286:=eq_true p286;replace q286:=eq_true q286;go_wp2
       repeat (go_quiet (fail);try go_wp2)
       go_ret
       exact ⟨by first|rfl|(simp [errW_none,errW_some] <;> rfl)|(simp only [← hji9];first|rfl|(simp [errW_none,errW_some] <;> rfl))|(simp [*,errW_none,errW_some] <;> rfl),Xy HI0,Yg HB,kp_ HK⟩
     ·rw [if_neg c10] at H;exact absurd H (by simp)
    ·rw [if_neg c8] at H;have c8b0:decide ((wrap64 ((wrap64 (s0_1+1)) - 1))<(s0_0.length:Int))=false:=decide_eq_false c8;clear c8;by_cases c13:(s0_0.length:Int)=0
     ·rw [if_pos c13] at H;exact absurd H (by simp)
     ·rw [if_neg c13] at H;have c13b0:((s0_0.length:Int) == 0)=false:=beq_eq_false_iff_ne.mpr c13;have c13b1:((s0_0.length:Int) != 0)=true:=bne_iff_ne.mpr c13;have c13b2:¬ (s0_0=[]):=fun h_=>c13 (by rw [h_];rfl);obtain ⟨ji14,hji14⟩:∃ j_:Int,(Int.tmod (wrap64 ((wrap64 (s0_1+1)) - 1)) (s0_0.length:Int))=j_:=⟨_,rfl⟩
      replace H:(if 0≤(ji14) then (if (ji14)<(s0_0.length:Int) then (if 0≤(Int.tmod (wrap64 ((wrap64 ((wrap64 ((wrap64 (s0_1+1)) - 1)) * 7))+3)) (s0_0.length:Int)) then (if (Int.tmod (wrap64 ((wrap64 ((wrap64 ((wrap64 (s0_1+1)) - 1)) * 7))+3)) (s0_0.length:Int))<(s0_0.length:Int) then (if a1=0 then (none) else (some (Int.tmod (Go.bits .xor .i64 (wrap64 ((wrap64 ((wrap64 ((wrap64 ((wrap64 (rd s0_0 (ji14))) * 131))+(wrap64 ((wrap64 (rd s0_0 (Int.tmod (wrap64 ((wrap64 ((wrap64 ((wrap64 (s0_1+1)) - 1)) * 7))+3)) (s0_0.length:Int)))) * 1117))))+(wrap64 ((wrap64 ((wrap64 (s0_1+1)) - 1)) * 29))))+(wrap64 ((wrap64 (Int.tdiv (wrap64 ((wrap64 (s0_1+1)) - 1)) (s0_0.length:Int))) * 53)))) (wrap64 (Int.tdiv (wrap64 ((wrap64 ((wrap64 ((wrap64 ((wrap64 (rd s0_0 (ji14))) * 131))+(wrap64 ((wrap64 (rd s0_0 (Int.tmod (wrap64 ((wrap64 ((wrap64 ((wrap64 (s0_1+1)) - 1)) * 7))+3)) (s0_0.length:Int)))) * 1117))))+(wrap64 ((wrap64 ((wrap64 (s0_1+1)) - 1)) * 29))))+(wrap64 ((wrap64 (Int.tdiv (wrap64 ((wrap64 (s0_1+1)) - 1)) (s0_0.length:Int))) * 53)))) 64))) a1,(wrap64 (s0_1+1))))) else (none)) else (none)) else (none)) else (none))=some (r1,r2):=by first|(rw [hji14] at H;exact H)|(simp only [hji14] at H ⊢;exact H)
      by_cases c15:0≤(ji14)
      ·rw [if_pos c15] at H;have c15b0:decide (0≤(ji14))=true:=decide_eq_true c15;clear c15;by_cases c16:(ji14)<(s0_0.length:Int)
       ·rw [if_pos c16] at H;have c16b0:decide ((ji14)<(s0_0.length:Int))=true:=decide_eq_true c16;clear c16;obtain ⟨ji17,hji17⟩:∃ j_:Int,(Int.tmod (wrap64 ((wrap64 ((wrap64 ((wrap64 (s0_1+1)) - 1)) * 7))+3)) (s0_0.length:Int))=j_:=⟨_,rfl⟩
        replace H:(if 0≤(ji17) then (if (ji17)<(s0_0.length:Int) then (if a1=0 then (none) else (some (Int.tmod (Go.bits .xor .i64 (wrap64 ((wrap64 ((wrap64 ((wrap64 ((wrap64 (rd s0_0 (ji14))) * 131))+(wrap64 ((wrap64 (rd s0_0 (ji17))) * 1117))))+(wrap64 ((wrap64 ((wrap64 (s0_1+1)) - 1)) * 29))))+(wrap64 ((wrap64 (Int.tdiv (wrap64 ((wrap64 (s0_1+1)) - 1)) (s0_0.length:Int))) * 53)))) (wrap64 (Int.tdiv (wrap64 ((wrap64 ((wrap64 ((wrap64 ((wrap64 (rd s0_0 (ji14))) * 131))+(wrap64 ((wrap64 (rd s0_0 (ji17))) * 1117))))+(wrap64 ((wrap64 ((wrap64 (s0_1+1)) - 1)) * 29))))+(wrap64 ((wrap64 (Int.tdiv (wrap64 ((wrap64 (s0_1+1)) - 1)) (s0_0.length:Int))) * 53)))) 64))) a1,(wrap64 (s0_1+1))))) else (none)) else (none))=some (r1,r2):=by first|(rw [hji17] at H;exact H)|(simp only [hji17] at H ⊢;exact H)
        by_cases c18:0≤(ji17)
        ·rw [if_pos c18] at H;have c18b0:decide (0≤(ji17))=true:=decide_eq_true c18;clear c18;by_cases c19:(ji17)<(s0_0.length:Int)
         ·rw [if_pos c19] at H;have c19b0:decide ((ji17)<(s0_0.length:Int))=true:=decide_eq_true c19;clear c19;by_cases c20:a1=0
          ·rw [if_pos c20] at H;exact absurd H (by simp)
          ·rw [if_neg c20] at H;have c20b0:(a1 == 0)=false:=beq_eq_false_iff_ne.mpr c20;have c20b1:(a1 != 0)=true:=bne_iff_ne.mpr c20;simp only [Option.some.injEq,Prod.mk.injEq] at H;obtain ⟨rfl,rfl⟩:=H;obtain ⟨ASz21_0,cSz21_0,HGz21,hgz21,HSz21_0⟩:=HI0.out;have hcz21_0:=cellS81_0 HGz21;have hcz21_1:=cellS81_1 HGz21;have hfz21_1:=Zt HGz21 1;clear HGz21 hgz21;have p287:0≤((ji14):Int):=of_decide_eq_true (by first|(with_reducible assumption)|assumption);have q287:(ji14)<(s0_0.length:Int):=of_decide_eq_true (by first|(with_reducible assumption)|assumption);obtain ⟨ad287,e287,hx287_0⟩:=Kd.Zr HSz21_0 (ji14) p287 q287;cases e287
           replace hx287_0:=pw_cell_below HB.out hx287_0;replace p287:=eq_true p287;replace q287:=eq_true q287;have p288:0≤((ji17):Int):=of_decide_eq_true (by first|(with_reducible assumption)|assumption);have q288:(ji17)<(s0_0.length:Int):=of_decide_eq_true (by first|(with_reducible assumption)|assumption);obtain ⟨ad288,e288,hx288_0⟩:=Kd.Zr HSz21_0 (ji17) p288 q288;obtain rfl:ad287=ad288:=(by injection e288);replace hx288_0:=pw_cell_below HB.out hx288_0;replace p288:=eq_true p288;replace q288:=eq_true q288;go_wp2
           repeat (go_quiet (fail);try go_wp2)
           go_ret
           exact ⟨by first|rfl|(simp [errW_none,errW_some] <;> rfl)|(simp only [← hji14,← hji17];first|rfl|(simp [errW_none,errW_some] <;> rfl))|(simp [*,errW_none,errW_some] <;> rfl),Xy HI0,Yg HB,kp_ HK⟩
         ·rw [if_neg c19] at H;exact absurd H (by simp)
        ·rw [if_neg c18] at H;exact absurd H (by simp)
       ·rw [if_neg c16] at H;exact absurd H (by simp)
      ·rw [if_neg c15] at H;exact absurd H (by simp)
def Xp.f (k:Nat) (s0_0:List Int) (s0_1:Int) (l1:List Int):Option (Int × Int):=(Xf.f k s0_0 s0_1 (l1.length:Int)).bind fun bt289=>(if 0≤bt289.1 then (if bt289.1<(l1.length:Int) then (some (rd l1 bt289.1,bt289.2)) else (none)) else (none))
theorem Xp.mono:∀ a0 a1 a2 k,LeO (Xp.f k a0 a1 a2) (Xp.f (k+1) a0 a1 a2):=by
 intro a0 a1 a2 k
 unfold Xp.f
 repeat' first
   |(with_reducible exact Xf.mono _ _ _ _)
   |(with_reducible exact LeO.refl _)
   |(with_reducible exact LeO.none _)
   |(with_reducible refine LeO.ite ?_ ?_)
   |(with_reducible refine LeO.bind ?_ (fun _=>?_))
   |exact Xf.mono _ _ _ _
   |exact LeO.none _
   |refine LeO.ite ?_ ?_
   |refine LeO.bind ?_ (fun _=>?_)
set_option maxHeartbeats 8000000 in
set_option maxRecDepth 100000 in
theorem Xp.calls (k:Nat) (g:Nat) (s0_0:List Int) (s0_1:Int) (A1:Option Addr) (c1:Nat) (l1:List Int) (r1:Int) (r2:Int) (w0 w:World) (hI:Xk w0 w g s0_0 s0_1) (hB:Below w0.heap.size w0 w) (hr1:Kd.C (Kd.int .i64) w A1 l1.length l1) (hc1:l1.length≤c1) (hf1:∀ ad,A1=some ad→0<l1.length→ad.block≠g) (h:Xp.f k s0_0 s0_1 l1=some (r1,r2)) :
  Calls Tryd.prog 45 #[.pointer (some ⟨g,0,none⟩),.slice A1 l1.length c1] w fun e w'=>e=.returned (.int .i64 r1)∧Xk w0 w' g s0_0 r2∧Below w0.heap.size w0 w'∧Xg w w' g none:=by
 have HR1:=Xa.mk hr1;have HC1:=Xa.mk hc1;clear hr1 hc1;have HI0:=Xa.mk hI;have HK:=Xa.mk (Xg.refl w g none);have HL:=Xa.mk hB.size;clear hI;have HW0:=Xa.mk hB.size;have HB:=Xa.mk hB;clear hB;have H:((Xf.f k s0_0 s0_1 (l1.length:Int)).bind fun bt289=>(if 0≤bt289.1 then (if bt289.1<(l1.length:Int) then (some (rd l1 bt289.1,bt289.2)) else (none)) else (none)))=some (r1,r2):=h;clear h;replace H:=Option.bind_eq_some_iff.mp H;obtain ⟨⟨t289,t290⟩,A30,H⟩:=H;replace H:(if 0≤t289 then (if t289<(l1.length:Int) then (some (rd l1 t289,t290)) else (none)) else (none))=some (r1,r2):=H;have A3:=Xa.mk A30;clear A30;by_cases c4:0≤t289
 ·rw [if_pos c4] at H;have c4b0:decide (0≤t289)=true:=decide_eq_true c4;clear c4;by_cases c5:t289<(l1.length:Int)
  ·rw [if_pos c5] at H;have c5b0:decide (t289<(l1.length:Int))=true:=decide_eq_true c5;clear c5;simp only [Option.some.injEq,Prod.mk.injEq] at H;obtain ⟨rfl,rfl⟩:=H
   go_enter Tryd.func45,Tryd.ntmps45
   go_wp2_with (first|((with_reducible refine Xj (f:=44) rfl ?_);refine Yu (some 9) rfl rfl Tryd.func44 (by kernel_rfl) rfl #[.pointer (some ⟨g,0,none⟩),.int .i64 (l1.length:Int)] rfl ga_ ?_;(with_reducible refine (Xf.calls k g s0_0 s0_1 (l1.length:Int) t289 t290 w0 _ ?side1 ?side2 A3.out).mono ?_);(case side1=>exact Xy HI0);(case side2=>exact Yg HB);rintro e w6 ⟨rfl,hi,hb,hk⟩;refine ⟨_,rfl,?_⟩;have n0_:=Xa.mk (Xg.trans (kp_ HK) hk (.inl rfl));have n1_:=Xa.mk (hb);have n2_:=Xa.mk (hi);clear HK;clear HB;clear HI0;have HK:=n0_;have HB:=n1_;have HI0:=n2_;clear n0_ n1_ n2_;(try clear hb);(try clear hb2);(try clear hk);(try clear hi);have p291:0≤(t289:Int):=of_decide_eq_true (by first|(with_reducible assumption)|assumption);have q291:t289<(l1.length:Int):=of_decide_eq_true (by first|(with_reducible assumption)|assumption);obtain ⟨ad291,e291,hx291_0⟩:=Kd.Zr HR1.out t289 p291 q291;cases e291;replace hx291_0:=keep_cell HK.out hx291_0 (by first|(rw [add_block];exact hf1 _ rfl (by omega))|exact hf1 _ rfl (by omega)|exact hf1 ad291 rfl (by omega));replace p291:=eq_true p291;replace q291:=eq_true q291))
   go_ret
   exact ⟨rf_,Xy HI0,Yg HB,kp_ HK⟩
  ·rw [if_neg c5] at H;exact absurd H (by simp)
 ·rw [if_neg c4] at H;exact absurd H (by simp)
end Go.Proofs.YtdkcjecllbdljaaDoor.GCode
