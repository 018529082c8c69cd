import Derived.Test.YtlhogkfmdnpmkaaCFnWholeOrder21
set_option linter.unusedVariables false
set_option linter.unusedSimpArgs false
set_option maxHeartbeats 8000000
set_option maxRecDepth 100000
namespace Go.Proofs.Ytlhogkfmdnpmkaa.GWhole
open RowKit YtlhogkfmdnpmkaaW.PrintWords YtlhogkfmdnpmkaaW.PrintLast YtlhogkfmdnpmkaaW.PrintMore
attribute [local go_sem] Uq Us max_two min_two Zz Ua Ur Ut
def Xp (w0 W:World) (g:Nat) (f0:List Int) (f1:Int):Prop:=∃ A0 c0,W.heap[g]?=some (.cells #[.slice A0 f0.length c0,.int .i64 f1] 83 (0,0))∧w0.heap.size≤g∧Kd.C (Kd.int .u8) w0 A0 f0.length f0
theorem Xp.grown {w0 W:World} {g:Nat} {f0:List Int} {f1:Int} {W1:World} {row:Option Nat} (h:Xp w0 W g f0 f1) (hw:W.grownBy W1 row) (hne:some g≠row):Xp w0 W1 g f0 f1:=by
 obtain ⟨A0,c0,hb,hg,hr0⟩:=h;exact ⟨A0,c0,blk_grown hb hw hne,hg,hr0⟩
theorem Xp.own_neN {w0 W:World} {g:Nat} {f0:List Int} {f1:Int} {α:Type} {d:Kd α} {e:Nat} {base:Nat} {ok:Nat→Prop} {v:Value} {xs:List α} (h:Xp w0 W g f0 f1) (ho:Kd.N d e W base ok v xs) (ht:e≠83):some g≠v.ownBlock:=by
 obtain ⟨A0,c0,hb,hg,hr0⟩:=h;exact Kd.N_ne ho hb ht
theorem Xp.fresh {w0 W:World} {g:Nat} {f0:List Int} {f1:Int} (h:Xp w0 W g f0 f1):∀ k,W.heap.size≤k→k≠g:=by
 obtain ⟨A0,c0,hb,hg,hr0⟩:=h;exact Kd.freshB hb
theorem Xp.kept {w0 W:World} {g:Nat} {f0:List Int} {f1:Int} {W1:World} {S:Nat→Prop} (h:Xp w0 W g f0 f1) (hk:Kept W W1 S) (hne:¬ S g):Xp w0 W1 g f0 f1:=by
 obtain ⟨A0,c0,hb,hg,hr0⟩:=h;exact ⟨A0,c0,blk_kept hb hk hne,hg,hr0⟩
theorem Xp.below {w0 W:World} {g:Nat} {f0:List Int} {f1:Int} {W1:World} (h:Xp w0 W g f0 f1) (hw:Below W.heap.size W W1):Xp w0 W1 g f0 f1:=h.grown (grown_of_below hw none) sm_
theorem Xp.alloc {w0 W:World} {g:Nat} {f0:List Int} {f1:Int} (h:Xp w0 W g f0 f1) (o:Obj):Xp w0 (W.alloc o) g f0 f1:=h.below (Xf (Below.refl _ _) o)
theorem Xp.drewN {w0 W:World} {g:Nat} {f0:List Int} {f1:Int} (h:Xp w0 W g f0 f1) (m:Nat):Xp w0 (W.drewN m) g f0 f1:=h
theorem Xp.drew {w0 W:World} {g:Nat} {f0:List Int} {f1:Int} (h:Xp w0 W g f0 f1):Xp w0 W.drew g f0 f1:=h
theorem Xp.at_ {w0 W:World} {g:Nat} {f0:List Int} {f1:Int} {w':World} {m:Nat} (hq:W.drewN m=w') (h:Xp w0 W g f0 f1):Xp w0 w' g f0 f1:=by subst hq;exact Xp.drewN h m
theorem Xp.apart {w0 W:World} {g:Nat} {f0:List Int} {f1:Int} {α:Type} {d:Kd α} {e:Nat} {base:Nat} {ok:Nat→Prop} {v:Value} {xs:List α} (h:Xp w0 W g f0 f1) (ho:d.R e W base ok v xs) (ht:∀ q,q ∈ e :: d.E→q≠83):d.R e W base (fun k=>ok k∧k≠g) v xs:=by
 obtain ⟨A0,c0,hb,hg,hr0⟩:=h;exact Kd.R_types ho hb ht
theorem Xp.own_ne {w0 W:World} {g:Nat} {f0:List Int} {f1:Int} {α:Type} {d:Kd α} {e:Nat} {base:Nat} {ok:Nat→Prop} {v:Value} {xs:List α} (h:Xp w0 W g f0 f1) (ho:d.R e W base ok v xs) (ht:e≠83):some g≠v.ownBlock:=by
 obtain ⟨A0,c0,hb,hg,hr0⟩:=h;exact Kd.R_ne ho hb ht
theorem Xp.lt {w0 W:World} {g:Nat} {f0:List Int} {f1:Int} (h:Xp w0 W g f0 f1):g<W.heap.size:=by
 obtain ⟨A0,c0,hb,hg,hr0⟩:=h;exact Yt hb
theorem Xp.ge {w0 W:World} {g:Nat} {f0:List Int} {f1:Int} (h:Xp w0 W g f0 f1):w0.heap.size≤g:=by
 obtain ⟨A0,c0,hb,hg,hr0⟩:=h;exact hg
theorem Xp.far {w0 W:World} {g:Nat} {f0:List Int} {f1:Int} {p:Addr} (h:Xp w0 W g f0 f1) (hne:g≠p.block) (u:Value):Xp w0 (W.setCell p u) g f0 f1:=by
 obtain ⟨A0,c0,hb,hg,hr0⟩:=h;exact ⟨A0,c0,Zv hb hne u,hg,hr0⟩
theorem cellS83_0 {W:World} {g:Nat} {A0:Option Addr} {c0:Nat} {f0:List Int} {f1:Int} (h:W.heap[g]?=some (.cells #[.slice A0 f0.length c0,.int .i64 f1] 83 (0,0))):W.cell? ⟨g,0,none⟩=some (.slice A0 f0.length c0):=(Xh h 0).trans rfl
theorem cellS83_1 {W:World} {g:Nat} {A0:Option Addr} {c0:Nat} {f0:List Int} {f1:Int} (h:W.heap[g]?=some (.cells #[.slice A0 f0.length c0,.int .i64 f1] 83 (0,0))):W.cell? ⟨g,1,none⟩=some (.int .i64 f1):=(Xh h 1).trans rfl
theorem Xp.set_1 {w0 W:World} {g:Nat} {f0:List Int} {f1:Int} (h:Xp w0 W g f0 f1) (x:Int):Xp w0 (W.setCell ⟨g,1,none⟩ (.int .i64 x)) g f0 x:=by
 obtain ⟨A0,c0,hb,hg,hr0⟩:=h;exact ⟨A0,c0,by simpa using Yb hb 1 (.int .i64 x),hg,hr0⟩
theorem Xp.new (w0 W:World) (A0:Option Addr) (c0:Nat) (f0:List Int) (f1:Int) (hB:Below w0.heap.size w0 W) (hr0:Kd.C (Kd.int .u8) w0 A0 f0.length f0):Xp w0 (W.alloc (.cells #[.slice A0 f0.length c0,.int .i64 f1] 83)) W.heap.size f0 f1:=⟨A0,c0,by simpa using heap_alloc_new W _,hB.size,hr0⟩
theorem Yl {b:Nat} {w W W1:World} (h:Xa (Below b w W)) (s:Below b w W→Below b w W1:=by intro h_;repeat (first|(with_reducible first|exact h_|apply Xf|apply Xi|apply below_drew1|refine below_set ?_ (Xp.ge (Xa.out as_))|refine below_set ?_ (Xa.out as_))|exact h_)):Below b w W1:=s h.out
theorem Xw {w0 W W1:World} {g:Nat} {f0 dD:List Int} {f1 dE:Int} (h:Xa (Xp w0 W g f0 f1)) (s:Xp w0 W g f0 f1→Xp w0 W1 g dD dE:=by intro h_;repeat (first|(with_reducible first|exact h_|apply Xp.alloc|apply Xp.drewN|apply Xp.drew|apply Xp.set_1|refine Xp.far ?_ (Xa.out as_) _)|exact h_)):Xp w0 W1 g dD dE:=s h.out
def spec_l11Open.f (l0:List Int):Option (List Int × Int):=if (l0.length:Int) > 2000 then (if 2000≤(l0.length:Int) then (some (l0.take 2000,0)) else (none)) else (some (l0,0))
theorem spec_l11Open.calls (A0:Option Addr) (c0:Nat) (l0:List Int) (r1:List Int) (r2:Int) (w0 w:World) (hB:Below w0.heap.size w0 w) (hr0:Kd.C (Kd.int .u8) w0 A0 l0.length l0) (hc0:l0.length≤c0) (h:spec_l11Open.f l0=some (r1,r2)) :
  Calls Try.prog 31 #[.slice A0 l0.length c0] w fun e w'=>∃ g_:Nat,e=.returned (.pointer (some ⟨g_,0,none⟩))∧Xp w0 w' g_ r1 r2∧Below w0.heap.size w0 w'∧Below w.heap.size w w':=by
 have hu83:=Try.underlying83;have dC:=Xa.mk hr0;have dH:=Xa.mk hc0;clear hr0 hc0;have HBW:=Xa.mk (Below.refl w.heap.size w);have HW0:=Xa.mk hB.size;have HB:=Xa.mk hB;clear hB;have H:(if (l0.length:Int) > 2000 then (if 2000≤(l0.length:Int) then (some (l0.take 2000,0)) else (none)) else (some (l0,0)))=some (r1,r2):=h;clear h;by_cases c2:(l0.length:Int) > 2000
 ·rw [if_pos c2] at H;have cK:decide (2000<(l0.length:Int))=true:=dt_ c2;have cO:decide (2000<l0.length)=true:=dt_ om_;clear c2;by_cases c3:2000≤(l0.length:Int)
  ·rw [if_pos c3] at H;have c3b0:=eq_true c3;have c3b1:decide (2000≤(l0.length:Int))=true:=dt_ c3;clear c3;simp only [Option.some.injEq,Prod.mk.injEq] at H;obtain ⟨rfl,rfl⟩:=H;obtain ⟨i04,bW,_,bX,_⟩:=info_parts info5;obtain ⟨hcut4,dF,dG⟩:=print_take_of (P:=Try.prog) (Value.int .u8) 0 34 5 .i64 Try.underlying34 bW bX A0 c0 l0 2000 om_ (od_ as_) dH.out;have bP:=Xa.mk (Kd.C_of_reads (h1:=fun _=>rfl) (dF _ (Kd.reads_of_C dC.out)));have HC264:=Xa.mk dG;clear dF dG bW bX;go_enter Try.func31,Try.ntmps31;go_wp2_with (first|((with_reducible refine Zc (N:=10) rfl ?_);refine Zy ?hg (N:=10) ?hd (cs:=#[.slice A0 (l0.take 2000).length c0,.int .i64 0]) (t:=83) ?hr ?_;(case hd|hg=>rfl);(case hr=>exact hr_);intro aL hg w5 hbox hb;replace HB:=Xa.mk (Xo (bl_ HB) hb);have bL:=Xa.mk (hbox);have GW265:=Xa.mk ((ge_ hg (Xr (bl_ HBW)):w.heap.size≤aL));have bN:=Xa.mk ((nt_ HW0.out (ge_ hg (Xr (bl_ HBW)):w.heap.size≤aL):w0.heap.size≤aL));replace HBW:=Xa.mk (Xo HBW.out hb);clear hb hbox hg));go_ret
   exact ⟨_,rfl,(show Xp w0 _ aL (l0.take 2000) 0 from ⟨_,_,ba_ bL,bN.out,bP.out⟩),bl_ HB,bl_ HBW⟩
  ·rw [if_neg c3] at H;exact absurd H sm_
 ·rw [if_neg c2] at H;have cK:decide (2000<(l0.length:Int))=false:=df_ c2;have cO:decide (2000<l0.length)=false:=df_ om_;clear c2;simp only [Option.some.injEq,Prod.mk.injEq] at H;obtain ⟨rfl,rfl⟩:=H;go_enter Try.func31,Try.ntmps31;go_wp2_with (first|((with_reducible refine Zc (N:=10) rfl ?_);refine Zy ?hg (N:=10) ?hd (cs:=#[.slice A0 l0.length c0,.int .i64 0]) (t:=83) ?hr ?_;(case hd|hg=>rfl);(case hr=>exact hr_);intro aM hg w6 hbox hb;replace HB:=Xa.mk (Xo (bl_ HB) hb);have bM:=Xa.mk (hbox);have GW266:=Xa.mk ((ge_ hg (Xr (bl_ HBW)):w.heap.size≤aM));have bO:=Xa.mk ((nt_ HW0.out (ge_ hg (Xr (bl_ HBW)):w.heap.size≤aM):w0.heap.size≤aM));replace HBW:=Xa.mk (Xo HBW.out hb);clear hb hbox hg));go_ret
  exact ⟨_,rfl,(show Xp w0 _ aM l0 0 from ⟨_,_,ba_ bM,bO.out,dC.out⟩),bl_ HB,bl_ HBW⟩
def Xg.j0:Nat→Int→Bool→List Int→Int→Option (Int × Int)
 |0,_,_,_,_=>none
 |k+1,x1,x24,x1000,aC=>if x24=true then (some (0,aC)) else (if (wrap64 (aC - 1))<(x1000.length:Int) then (if 0≤(wrap64 (aC - 1)) then (if x1=0 then (none) else (some (Int.tmod (wrap64 (rd x1000 (wrap64 (aC - 1)))) x1,aC))) else (none)) else (if (x1000.length:Int)=0 then (none) else (if 0≤(Int.tmod (wrap64 (aC - 1)) (x1000.length:Int)) then (if (Int.tmod (wrap64 (aC - 1)) (x1000.length:Int))<(x1000.length:Int) then (if 0≤(Int.tmod (wrap64 ((wrap64 ((wrap64 (aC - 1)) * 7))+3)) (x1000.length:Int)) then (if (Int.tmod (wrap64 ((wrap64 ((wrap64 (aC - 1)) * 7))+3)) (x1000.length:Int))<(x1000.length:Int) then (if x1=0 then (none) else (some (Int.tmod (Go.bits .xor .i64 (wrap64 ((wrap64 ((wrap64 ((wrap64 ((wrap64 (rd x1000 (Int.tmod (wrap64 (aC - 1)) (x1000.length:Int)))) * 131))+(wrap64 ((wrap64 (rd x1000 (Int.tmod (wrap64 ((wrap64 ((wrap64 (aC - 1)) * 7))+3)) (x1000.length:Int)))) * 1117))))+(wrap64 ((wrap64 (aC - 1)) * 29))))+(wrap64 ((wrap64 (Int.tdiv (wrap64 (aC - 1)) (x1000.length:Int))) * 53)))) (wrap64 (Int.tdiv (wrap64 ((wrap64 ((wrap64 ((wrap64 ((wrap64 (rd x1000 (Int.tmod (wrap64 (aC - 1)) (x1000.length:Int)))) * 131))+(wrap64 ((wrap64 (rd x1000 (Int.tmod (wrap64 ((wrap64 ((wrap64 (aC - 1)) * 7))+3)) (x1000.length:Int)))) * 1117))))+(wrap64 ((wrap64 (aC - 1)) * 29))))+(wrap64 ((wrap64 (Int.tdiv (wrap64 (aC - 1)) (x1000.length:Int))) * 53)))) 64))) x1,aC))) else (none)) else (none)) else (none)) else (none))))
def Xg.f (k:Nat) (aA:List Int) (aB:Int) (a1:Int):Option (Int × Int):=if a1<1 then (Xg.j0 k a1 true aA (wrap64 (aB+1))) else (Xg.j0 k a1 ((aA.length:Int) == 0) aA (wrap64 (aB+1)))
theorem Xg.mono_l:∀ k,(∀ y0 y1 y2 y3,LeO (Xg.j0 k y0 y1 y2 y3) (Xg.j0 (k+1) y0 y1 y2 y3))
 |0=>fun _ _ _ _ r h=>by simp [Xg.j0] at h
 |k+1=>by
  have bY:=Xg.mono_l k
  ·intro y0 y1 y2 y3;unfold Xg.j0
   repeat' first
   |(with_reducible exact bY _ _ _ _)
   |(with_reducible exact LeO.refl _)
   |(with_reducible exact LeO.none _)
   |(with_reducible refine LeO.ite ?_ ?_)
   |(with_reducible refine LeO.bind ?_ (fun _=>?_))
   |exact bY _ _ _ _
   |exact LeO.none _
   |refine LeO.ite ?_ ?_
   |refine LeO.bind ?_ (fun _=>?_)
theorem Xg.mono:∀ a0 a1 a2 k,LeO (Xg.f k a0 a1 a2) (Xg.f (k+1) a0 a1 a2):=by
 intro a0 a1 a2 k;have bY:=Xg.mono_l k;unfold Xg.f
 repeat' first
   |(with_reducible exact bY _ _ _ _)
   |(with_reducible exact LeO.refl _)
   |(with_reducible exact LeO.none _)
   |(with_reducible refine LeO.ite ?_ ?_)
   |(with_reducible refine LeO.bind ?_ (fun _=>?_))
   |exact bY _ _ _ _
   |exact LeO.none _
   |refine LeO.ite ?_ ?_
   |refine LeO.bind ?_ (fun _=>?_)
theorem Xg.calls (k:Nat) (g:Nat) (aA:List Int) (aB:Int) (a1:Int) (r1:Int) (r2:Int) (w0 w:World) (hI:Xp w0 w g aA aB) (hB:Below w0.heap.size w0 w) (h:Xg.f k aA aB a1=some (r1,r2)) :
  Calls Try.prog 45 #[.pointer (some ⟨g,0,none⟩),.int .i64 a1] w fun e w'=>e=.returned (.int .i64 r1)∧Xp w0 w' g aA r2∧Below w0.heap.size w0 w'∧Xj w w' g none:=by
 have HI0:=Xa.mk hI;have HK:=Xa.mk (Xj.refl w g none);have HL:=Xa.mk hB.size;clear hI;have HW0:=Xa.mk hB.size;have HB:=Xa.mk hB;clear hB;have H:(if a1<1 then (Xg.j0 k a1 true aA (wrap64 (aB+1))) else (Xg.j0 k a1 ((aA.length:Int) == 0) aA (wrap64 (aB+1))))=some (r1,r2):=h;clear h;have cB:=Xa.mk H;clear H;obtain ⟨ASz4_0,cSz4_0,aW,cZ,HSz4_0⟩:=HI0.out;have bA:=cellS83_0 aW;have bB:=cellS83_1 aW;have bC:=Xc aW 1;clear aW cZ;go_enter Try.func45,Try.ntmps45;go_upto_region 2 with (fail)
 repeat (go_quiet (fail);go_upto_region 2 with (fail))
 go_cut [24] (fun v24 wc=>∃ (kq:Nat) (aR:Bool),v24=.bool aR∧Xa (Xg.j0 kq a1 aR aA (wrap64 (aB+1))=some (r1,r2))∧Xa (kq≤k)∧Xa (Xp w0 wc g aA (wrap64 (aB+1)))∧Xa (Xj w wc g none)∧Xa (Below w0.heap.size w0 wc))
 case first=>
  have H:=cB.out;clear cB;by_cases c5:a1<1
  ·rw [if_pos c5] at H;have aS:decide (a1<1)=true:=dt_ c5;clear c5
   (first|rw [aS]|(simp only [i64_w,i32_w];rw [aS])|skip)
   have H':=Xa.mk H;clear H;go_wp2
   repeat (go_quiet (fail);try go_wp2)
   go_meet
   case rel=>exact ⟨_,(true),rg_,H',⟨by first|omega|exact nr_ _⟩,⟨Xw HI0⟩,⟨kp_ HK⟩,⟨Yl HB⟩⟩
  ·rw [if_neg c5] at H;have aS:decide (a1<1)=false:=df_ c5;clear c5
   (first|rw [aS]|(simp only [i64_w,i32_w];rw [aS])|skip)
   have H':=Xa.mk H;clear H;obtain ⟨ASz6_0,cSz6_0,aX,dA,HSz6_0⟩:=HI0.out;have hcz6_0:=cellS83_0 aX;have hcz6_1:=cellS83_1 aX;have hfz6_1:=Xc aX 1;clear aX dA;go_wp2
   repeat (go_quiet (fail);try go_wp2)
   go_meet
   case rel=>exact ⟨_,(((aA.length:Int) == 0)),rg_,H',⟨by first|omega|exact nr_ _⟩,⟨Xw HI0⟩,⟨kp_ HK⟩,⟨Yl HB⟩⟩
 case rest=>
  clear cB
  try clear bA
  try clear bB
  try clear bC
  obtain ⟨kq,aR,rfl,HA,HJ2,HI0,HK,HB⟩:=hcut
  cases kq with
  |zero=>exact absurd HA.out (by simp [Xg.j0])
  |succ kj2=>
   have H:=HA.out;clear HA;simp only [Xg.j0] at H;by_cases c7:aR=true
   ·subst c7
    replace H:(some (0,(wrap64 (aB+1))))=some (r1,r2):=ph_;simp only [Option.some.injEq,Prod.mk.injEq] at H;obtain ⟨rfl,rfl⟩:=H;go_wp2
    repeat (go_quiet (fail);try go_wp2)
    go_ret
    exact ⟨rf_,Xw HI0,Yl HB,kp_ HK⟩
   ·replace c7:=Bool.eq_false_iff.mpr c7;subst c7
    replace H:(if (wrap64 ((wrap64 (aB+1)) - 1))<(aA.length:Int) then (if 0≤(wrap64 ((wrap64 (aB+1)) - 1)) then (if a1=0 then (none) else (some (Int.tmod (wrap64 (rd aA (wrap64 ((wrap64 (aB+1)) - 1)))) a1,(wrap64 (aB+1))))) else (none)) else (if (aA.length:Int)=0 then (none) else (if 0≤(Int.tmod (wrap64 ((wrap64 (aB+1)) - 1)) (aA.length:Int)) then (if (Int.tmod (wrap64 ((wrap64 (aB+1)) - 1)) (aA.length:Int))<(aA.length:Int) then (if 0≤(Int.tmod (wrap64 ((wrap64 ((wrap64 ((wrap64 (aB+1)) - 1)) * 7))+3)) (aA.length:Int)) then (if (Int.tmod (wrap64 ((wrap64 ((wrap64 ((wrap64 (aB+1)) - 1)) * 7))+3)) (aA.length:Int))<(aA.length:Int) then (if a1=0 then (none) else (some (Int.tmod (Go.bits .xor .i64 (wrap64 ((wrap64 ((wrap64 ((wrap64 ((wrap64 (rd aA (Int.tmod (wrap64 ((wrap64 (aB+1)) - 1)) (aA.length:Int)))) * 131))+(wrap64 ((wrap64 (rd aA (Int.tmod (wrap64 ((wrap64 ((wrap64 ((wrap64 (aB+1)) - 1)) * 7))+3)) (aA.length:Int)))) * 1117))))+(wrap64 ((wrap64 ((wrap64 (aB+1)) - 1)) * 29))))+(wrap64 ((wrap64 (Int.tdiv (wrap64 ((wrap64 (aB+1)) - 1)) (aA.length:Int))) * 53)))) (wrap64 (Int.tdiv (wrap64 ((wrap64 ((wrap64 ((wrap64 ((wrap64 (rd aA (Int.tmod (wrap64 ((wrap64 (aB+1)) - 1)) (aA.length:Int)))) * 131))+(wrap64 ((wrap64 (rd aA (Int.tmod (wrap64 ((wrap64 ((wrap64 ((wrap64 (aB+1)) - 1)) * 7))+3)) (aA.length:Int)))) * 1117))))+(wrap64 ((wrap64 ((wrap64 (aB+1)) - 1)) * 29))))+(wrap64 ((wrap64 (Int.tdiv (wrap64 ((wrap64 (aB+1)) - 1)) (aA.length:Int))) * 53)))) 64))) a1,(wrap64 (aB+1))))) else (none)) else (none)) else (none)) else (none))))=some (r1,r2):=fh_;by_cases c8:(wrap64 ((wrap64 (aB+1)) - 1))<(aA.length:Int)
    ·rw [if_pos c8] at H;have bT:decide ((wrap64 ((wrap64 (aB+1)) - 1))<(aA.length:Int))=true:=dt_ c8;clear c8;obtain ⟨aZ,aV⟩:∃ j_:Int,(wrap64 ((wrap64 (aB+1)) - 1))=j_:=⟨_,rfl⟩
     replace H:(if 0≤(aZ) then (if a1=0 then (none) else (some (Int.tmod (wrap64 (rd aA (aZ))) a1,(wrap64 (aB+1))))) else (none))=some (r1,r2):=by first|(rw [aV] at H;exact H)|(simp only [aV] at H ⊢;exact H)
     (try rw [aV] at bT)
     have hji9w:(IntKind.i64.wrap ((wrap64 (aB+1)) - 1))=aZ:=(i64_w _).trans aV;by_cases c10:0≤(aZ)
     ·rw [if_pos c10] at H;have c10b0:decide (0≤(aZ))=true:=dt_ c10;clear c10;by_cases c11:a1=0
      ·rw [if_pos c11] at H;exact absurd H sm_
      ·rw [if_neg c11] at H;have c11b0:(a1 == 0)=false:=nb_ c11;have c11b1:(a1 != 0)=true:=nn_ c11;simp only [Option.some.injEq,Prod.mk.injEq] at H;obtain ⟨rfl,rfl⟩:=H;obtain ⟨ASz12_0,cSz12_0,aI,bU,aY⟩:=HI0.out;have hcz12_0:=cellS83_0 aI;have hcz12_1:=cellS83_1 aI;have hfz12_1:=Xc aI 1;clear aI bU;have bD:0≤((aZ):Int):=od_ as_;have bH:(aZ)<(aA.length:Int):=od_ as_;obtain ⟨ad267,e267,aN⟩:=Kd.at_int aY (aZ) bD bH;cases e267
       replace aN:=Xd HB.out aN;replace bD:=eq_true bD;replace bH:=eq_true bH;go_wp2
       repeat (go_quiet (fail);try go_wp2)
       go_ret
       exact ⟨by first|rfl|(simp [errW_none,errW_some] <;> rfl)|(simp only [← aV];first|rfl|(simp [errW_none,errW_some] <;> rfl))|(simp [*,errW_none,errW_some] <;> rfl),Xw HI0,Yl HB,kp_ HK⟩
     ·rw [if_neg c10] at H;exact absurd H sm_
    ·rw [if_neg c8] at H;have bT:decide ((wrap64 ((wrap64 (aB+1)) - 1))<(aA.length:Int))=false:=df_ c8;clear c8;by_cases c13:(aA.length:Int)=0
     ·rw [if_pos c13] at H;exact absurd H sm_
     ·rw [if_neg c13] at H;have c13b0:((aA.length:Int) == 0)=false:=nb_ c13;have c13b1:((aA.length:Int) != 0)=true:=nn_ c13;have c13b2:¬ (aA=[]):=fun h_=>c13 (by rw [h_];rfl);obtain ⟨aF,aT⟩:∃ j_:Int,(Int.tmod (wrap64 ((wrap64 (aB+1)) - 1)) (aA.length:Int))=j_:=⟨_,rfl⟩
      replace H:(if 0≤(aF) then (if (aF)<(aA.length:Int) then (if 0≤(Int.tmod (wrap64 ((wrap64 ((wrap64 ((wrap64 (aB+1)) - 1)) * 7))+3)) (aA.length:Int)) then (if (Int.tmod (wrap64 ((wrap64 ((wrap64 ((wrap64 (aB+1)) - 1)) * 7))+3)) (aA.length:Int))<(aA.length:Int) then (if a1=0 then (none) else (some (Int.tmod (Go.bits .xor .i64 (wrap64 ((wrap64 ((wrap64 ((wrap64 ((wrap64 (rd aA (aF))) * 131))+(wrap64 ((wrap64 (rd aA (Int.tmod (wrap64 ((wrap64 ((wrap64 ((wrap64 (aB+1)) - 1)) * 7))+3)) (aA.length:Int)))) * 1117))))+(wrap64 ((wrap64 ((wrap64 (aB+1)) - 1)) * 29))))+(wrap64 ((wrap64 (Int.tdiv (wrap64 ((wrap64 (aB+1)) - 1)) (aA.length:Int))) * 53)))) (wrap64 (Int.tdiv (wrap64 ((wrap64 ((wrap64 ((wrap64 ((wrap64 (rd aA (aF))) * 131))+(wrap64 ((wrap64 (rd aA (Int.tmod (wrap64 ((wrap64 ((wrap64 ((wrap64 (aB+1)) - 1)) * 7))+3)) (aA.length:Int)))) * 1117))))+(wrap64 ((wrap64 ((wrap64 (aB+1)) - 1)) * 29))))+(wrap64 ((wrap64 (Int.tdiv (wrap64 ((wrap64 (aB+1)) - 1)) (aA.length:Int))) * 53)))) 64))) a1,(wrap64 (aB+1))))) else (none)) else (none)) else (none)) else (none))=some (r1,r2):=by first|(rw [aT] at H;exact H)|(simp only [aT] at H ⊢;exact H)
      by_cases c15:0≤(aF)
      ·rw [if_pos c15] at H;have c15b0:decide (0≤(aF))=true:=dt_ c15;clear c15;by_cases c16:(aF)<(aA.length:Int)
       ·rw [if_pos c16] at H;have c16b0:decide ((aF)<(aA.length:Int))=true:=dt_ c16;clear c16;obtain ⟨aG,aU⟩:∃ j_:Int,(Int.tmod (wrap64 ((wrap64 ((wrap64 ((wrap64 (aB+1)) - 1)) * 7))+3)) (aA.length:Int))=j_:=⟨_,rfl⟩
        replace H:(if 0≤(aG) then (if (aG)<(aA.length:Int) then (if a1=0 then (none) else (some (Int.tmod (Go.bits .xor .i64 (wrap64 ((wrap64 ((wrap64 ((wrap64 ((wrap64 (rd aA (aF))) * 131))+(wrap64 ((wrap64 (rd aA (aG))) * 1117))))+(wrap64 ((wrap64 ((wrap64 (aB+1)) - 1)) * 29))))+(wrap64 ((wrap64 (Int.tdiv (wrap64 ((wrap64 (aB+1)) - 1)) (aA.length:Int))) * 53)))) (wrap64 (Int.tdiv (wrap64 ((wrap64 ((wrap64 ((wrap64 ((wrap64 (rd aA (aF))) * 131))+(wrap64 ((wrap64 (rd aA (aG))) * 1117))))+(wrap64 ((wrap64 ((wrap64 (aB+1)) - 1)) * 29))))+(wrap64 ((wrap64 (Int.tdiv (wrap64 ((wrap64 (aB+1)) - 1)) (aA.length:Int))) * 53)))) 64))) a1,(wrap64 (aB+1))))) else (none)) else (none))=some (r1,r2):=by first|(rw [aU] at H;exact H)|(simp only [aU] at H ⊢;exact H)
        by_cases c18:0≤(aG)
        ·rw [if_pos c18] at H;have c18b0:decide (0≤(aG))=true:=dt_ c18;clear c18;by_cases c19:(aG)<(aA.length:Int)
         ·rw [if_pos c19] at H;have c19b0:decide ((aG)<(aA.length:Int))=true:=dt_ c19;clear c19;by_cases c20:a1=0
          ·rw [if_pos c20] at H;exact absurd H sm_
          ·rw [if_neg c20] at H;have c20b0:(a1 == 0)=false:=nb_ c20;have c20b1:(a1 != 0)=true:=nn_ c20;simp only [Option.some.injEq,Prod.mk.injEq] at H;obtain ⟨rfl,rfl⟩:=H;obtain ⟨ASz21_0,cSz21_0,aJ,bV,aK⟩:=HI0.out;have hcz21_0:=cellS83_0 aJ;have hcz21_1:=cellS83_1 aJ;have hfz21_1:=Xc aJ 1;clear aJ bV;have bE:0≤((aF):Int):=od_ as_;have bI:(aF)<(aA.length:Int):=od_ as_;obtain ⟨bQ,e268,aO⟩:=Kd.at_int aK (aF) bE bI;cases e268
           replace aO:=Xd HB.out aO;replace bE:=eq_true bE;replace bI:=eq_true bI;have bF:0≤((aG):Int):=od_ as_;have bJ:(aG)<(aA.length:Int):=od_ as_;obtain ⟨bR,e269,aP⟩:=Kd.at_int aK (aG) bF bJ;obtain rfl:bQ=bR:=(by injection e269);replace aP:=Xd HB.out aP;replace bF:=eq_true bF;replace bJ:=eq_true bJ;go_wp2
           repeat (go_quiet (fail);try go_wp2)
           go_ret
           exact ⟨by first|rfl|(simp [errW_none,errW_some] <;> rfl)|(simp only [← aT,← aU];first|rfl|(simp [errW_none,errW_some] <;> rfl))|(simp [*,errW_none,errW_some] <;> rfl),Xw HI0,Yl HB,kp_ HK⟩
         ·rw [if_neg c19] at H;exact absurd H sm_
        ·rw [if_neg c18] at H;exact absurd H sm_
       ·rw [if_neg c16] at H;exact absurd H sm_
      ·rw [if_neg c15] at H;exact absurd H sm_
def Xk.f (k:Nat) (aA:List Int) (aB:Int) (l1:List Int):Option (Int × Int):=(Xg.f k aA aB (l1.length:Int)).bind fun aD=>(if 0≤aD.1 then (if aD.1<(l1.length:Int) then (some (rd l1 aD.1,aD.2)) else (none)) else (none))
theorem Xk.mono:∀ a0 a1 a2 k,LeO (Xk.f k a0 a1 a2) (Xk.f (k+1) a0 a1 a2):=by
 intro a0 a1 a2 k;unfold Xk.f
 repeat' first
   |(with_reducible exact Xg.mono _ _ _ _)
   |(with_reducible exact LeO.refl _)
   |(with_reducible exact LeO.none _)
   |(with_reducible refine LeO.ite ?_ ?_)
   |(with_reducible refine LeO.bind ?_ (fun _=>?_))
   |exact Xg.mono _ _ _ _
   |exact LeO.none _
   |refine LeO.ite ?_ ?_
   |refine LeO.bind ?_ (fun _=>?_)
theorem Xk.calls (k:Nat) (g:Nat) (aA:List Int) (aB:Int) (A1:Option Addr) (c1:Nat) (l1:List Int) (r1:Int) (r2:Int) (w0 w:World) (hI:Xp w0 w g aA aB) (hB:Below w0.heap.size w0 w) (hr1:Kd.C (Kd.int .i64) w A1 l1.length l1) (hc1:l1.length≤c1) (hf1:∀ ad,A1=some ad→0<l1.length→ad.block≠g) (h:Xk.f k aA aB l1=some (r1,r2)) :
  Calls Try.prog 48 #[.pointer (some ⟨g,0,none⟩),.slice A1 l1.length c1] w fun e w'=>e=.returned (.int .i64 r1)∧Xp w0 w' g aA r2∧Below w0.heap.size w0 w'∧Xj w w' g none:=by
 have HR1:=Xa.mk hr1;have HC1:=Xa.mk hc1;clear hr1 hc1;have HI0:=Xa.mk hI;have HK:=Xa.mk (Xj.refl w g none);have HL:=Xa.mk hB.size;clear hI;have HW0:=Xa.mk hB.size;have HB:=Xa.mk hB;clear hB;have H:((Xg.f k aA aB (l1.length:Int)).bind fun aD=>(if 0≤aD.1 then (if aD.1<(l1.length:Int) then (some (rd l1 aD.1,aD.2)) else (none)) else (none)))=some (r1,r2):=h;clear h;replace H:=bo_ H;obtain ⟨⟨aH,bZ⟩,dB,H⟩:=H;replace H:(if 0≤aH then (if aH<(l1.length:Int) then (some (rd l1 aH,bZ)) else (none)) else (none))=some (r1,r2):=H;have A3:=Xa.mk dB;clear dB;by_cases c4:0≤aH
 ·rw [if_pos c4] at H;have c4b0:decide (0≤aH)=true:=dt_ c4;clear c4;by_cases c5:aH<(l1.length:Int)
  ·rw [if_pos c5] at H;have aS:decide (aH<(l1.length:Int))=true:=dt_ c5;clear c5;simp only [Option.some.injEq,Prod.mk.injEq] at H;obtain ⟨rfl,rfl⟩:=H;go_enter Try.func48,Try.ntmps48;go_wp2_with (first|((with_reducible refine Xq (f:=45) rfl ?_);refine Zg (some 9) rfl rfl Try.func45 kr_ rfl #[.pointer (some ⟨g,0,none⟩),.int .i64 (l1.length:Int)] rfl ga_ ?_;(with_reducible refine (Xg.calls k g aA aB (l1.length:Int) aH bZ w0 _ ?side1 ?side2 A3.out).mono ?_);(case side1=>exact Xw HI0);(case side2=>exact Yl HB);rintro e w6 ⟨rfl,hi,hb,hk⟩;refine ⟨_,rfl,?_⟩;replace HK:=Xa.mk (Xj.trans (kp_ HK) hk (.inl rfl));replace HB:=Xa.mk (hb);replace HI0:=Xa.mk (hi);clear hb hk hi;have bG:0≤(aH:Int):=od_ as_;have bK:aH<(l1.length:Int):=od_ as_;obtain ⟨bS,e272,aQ⟩:=Kd.at_int HR1.out aH bG bK;cases e272;replace aQ:=keep_cell HK.out aQ (by first|(rw [add_block];exact hf1 _ rfl om_)|exact hf1 _ rfl om_|exact hf1 bS rfl om_);replace bG:=eq_true bG;replace bK:=eq_true bK));go_ret
   exact ⟨rf_,Xw HI0,Yl HB,kp_ HK⟩
  ·rw [if_neg c5] at H;exact absurd H sm_
 ·rw [if_neg c4] at H;exact absurd H sm_
end Go.Proofs.Ytlhogkfmdnpmkaa.GWhole
