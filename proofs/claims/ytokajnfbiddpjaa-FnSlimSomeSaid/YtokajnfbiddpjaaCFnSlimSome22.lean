import Derived.Test.YtokajnfbiddpjaaCFnSlimSome21
set_option maxHeartbeats 8000000
set_option maxRecDepth 100000
namespace Go.Proofs.Ytokajnfbiddpjaa.GSlim
open Go.RowKit Go.Proofs.YtokajnfbiddpjaaW.PrintWords Go.Proofs.YtokajnfbiddpjaaW.PrintLast Go.Proofs.YtokajnfbiddpjaaW.PrintMore
attribute [local go_sem] Zx Zz Ul Um Zl Zm Zy Ua
set_option linter.unusedVariables false
set_option linter.unusedSimpArgs false
def Xu (w0 W:World) (g:Nat) (f0:List Int) (f1:Int):Prop:=∃ A0 c0,W.heap[g]?=some (.cells #[.slice A0 f0.length c0,.int .i64 f1] 77 (0,0))∧w0.heap.size≤g∧Kd.C (Kd.int .u8) w0 A0 f0.length f0
theorem Xu.grown {w0 W:World} {g:Nat} {f0:List Int} {f1:Int} {W1:World} {row:Option Nat} (h:Xu w0 W g f0 f1) (hw:W.grownBy W1 row) (hne:some g≠row):Xu w0 W1 g f0 f1:=by
 obtain ⟨A0,c0,hb,hg,hr0⟩:=h;exact ⟨A0,c0,blk_grown hb hw hne,hg,hr0⟩
theorem Xu.own_neN {w0 W:World} {g:Nat} {f0:List Int} {f1:Int} {α:Type} {d:Kd α} {e:Nat} {base:Nat} {ok:Nat→Prop} {v:Value} {xs:List α} (h:Xu w0 W g f0 f1) (ho:Kd.N d e W base ok v xs) (ht:e≠77):some g≠v.ownBlock:=by
 obtain ⟨A0,c0,hb,hg,hr0⟩:=h;exact Kd.N_ne ho hb ht
theorem Xu.fresh {w0 W:World} {g:Nat} {f0:List Int} {f1:Int} (h:Xu w0 W g f0 f1):∀ k,W.heap.size≤k→k≠g:=by
 obtain ⟨A0,c0,hb,hg,hr0⟩:=h;exact Kd.freshB hb
theorem Xu.kept {w0 W:World} {g:Nat} {f0:List Int} {f1:Int} {W1:World} {S:Nat→Prop} (h:Xu w0 W g f0 f1) (hk:Kept W W1 S) (hne:¬ S g):Xu w0 W1 g f0 f1:=by
 obtain ⟨A0,c0,hb,hg,hr0⟩:=h;exact ⟨A0,c0,blk_kept hb hk hne,hg,hr0⟩
theorem Xu.below {w0 W:World} {g:Nat} {f0:List Int} {f1:Int} {W1:World} (h:Xu w0 W g f0 f1) (hw:Below W.heap.size W W1):Xu w0 W1 g f0 f1:=h.grown (grown_of_below hw none) (by simp)
theorem Xu.alloc {w0 W:World} {g:Nat} {f0:List Int} {f1:Int} (h:Xu w0 W g f0 f1) (o:Obj):Xu w0 (W.alloc o) g f0 f1:=h.below (Vj (Below.refl _ _) o)
theorem Xu.drewN {w0 W:World} {g:Nat} {f0:List Int} {f1:Int} (h:Xu w0 W g f0 f1) (m:Nat):Xu w0 (W.drewN m) g f0 f1:=h
theorem Xu.drew {w0 W:World} {g:Nat} {f0:List Int} {f1:Int} (h:Xu w0 W g f0 f1):Xu w0 W.drew g f0 f1:=h
theorem Xu.at_ {w0 W:World} {g:Nat} {f0:List Int} {f1:Int} {w':World} {m:Nat} (hq:W.drewN m=w') (h:Xu w0 W g f0 f1):Xu w0 w' g f0 f1:=by subst hq;exact Xu.drewN h m
theorem Xu.apart {w0 W:World} {g:Nat} {f0:List Int} {f1:Int} {α:Type} {d:Kd α} {e:Nat} {base:Nat} {ok:Nat→Prop} {v:Value} {xs:List α} (h:Xu w0 W g f0 f1) (ho:d.R e W base ok v xs) (ht:∀ q,q ∈ e :: d.E→q≠77):d.R e W base (fun k=>ok k∧k≠g) v xs:=by
 obtain ⟨A0,c0,hb,hg,hr0⟩:=h;exact Kd.R_types ho hb ht
theorem Xu.own_ne {w0 W:World} {g:Nat} {f0:List Int} {f1:Int} {α:Type} {d:Kd α} {e:Nat} {base:Nat} {ok:Nat→Prop} {v:Value} {xs:List α} (h:Xu w0 W g f0 f1) (ho:d.R e W base ok v xs) (ht:e≠77):some g≠v.ownBlock:=by
 obtain ⟨A0,c0,hb,hg,hr0⟩:=h;exact Kd.R_ne ho hb ht
theorem Xu.lt {w0 W:World} {g:Nat} {f0:List Int} {f1:Int} (h:Xu w0 W g f0 f1):g<W.heap.size:=by
 obtain ⟨A0,c0,hb,hg,hr0⟩:=h;exact blk_lt hb
theorem Xu.ge {w0 W:World} {g:Nat} {f0:List Int} {f1:Int} (h:Xu w0 W g f0 f1):w0.heap.size≤g:=by
 obtain ⟨A0,c0,hb,hg,hr0⟩:=h;exact hg
theorem Xu.far {w0 W:World} {g:Nat} {f0:List Int} {f1:Int} {p:Addr} (h:Xu w0 W g f0 f1) (hne:g≠p.block) (u:Value):Xu w0 (W.setCell p u) g f0 f1:=by
 obtain ⟨A0,c0,hb,hg,hr0⟩:=h;exact ⟨A0,c0,blk_far hb hne u,hg,hr0⟩
theorem cellS77_0 {W:World} {g:Nat} {A0:Option Addr} {c0:Nat} {f0:List Int} {f1:Int} (h:W.heap[g]?=some (.cells #[.slice A0 f0.length c0,.int .i64 f1] 77 (0,0))):W.cell? ⟨g,0,none⟩=some (.slice A0 f0.length c0):=(Yc h 0).trans rfl
theorem cellS77_1 {W:World} {g:Nat} {A0:Option Addr} {c0:Nat} {f0:List Int} {f1:Int} (h:W.heap[g]?=some (.cells #[.slice A0 f0.length c0,.int .i64 f1] 77 (0,0))):W.cell? ⟨g,1,none⟩=some (.int .i64 f1):=(Yc h 1).trans rfl
theorem Xu.set_1 {w0 W:World} {g:Nat} {f0:List Int} {f1:Int} (h:Xu w0 W g f0 f1) (x:Int):Xu w0 (W.setCell ⟨g,1,none⟩ (.int .i64 x)) g f0 x:=by
 obtain ⟨A0,c0,hb,hg,hr0⟩:=h;exact ⟨A0,c0,by simpa using blk_set hb 1 (.int .i64 x),hg,hr0⟩
theorem Xu.new (w0 W:World) (A0:Option Addr) (c0:Nat) (f0:List Int) (f1:Int) (hB:Below w0.heap.size w0 W) (hr0:Kd.C (Kd.int .u8) w0 A0 f0.length f0):Xu w0 (W.alloc (.cells #[.slice A0 f0.length c0,.int .i64 f1] 77)) W.heap.size f0 f1:=⟨A0,c0,by simpa using heap_alloc_new W _,hB.size,hr0⟩
theorem Yt {b:Nat} {w W W1:World} (h:Xa (Below b w W)) (s:Below b w W→Below b w W1:=by intro h_;repeat (first|(with_reducible first|exact h_|apply Vj|apply Xk|apply below_drew1|refine Vk ?_ (Xu.ge (Xa.out (by assumption)))|refine Vk ?_ (Xa.out (by assumption)))|exact h_)):Below b w W1:=s h.out
theorem Yd {w0 W W1:World} {g:Nat} {f0 dF:List Int} {f1 dG:Int} (h:Xa (Xu w0 W g f0 f1)) (s:Xu w0 W g f0 f1→Xu w0 W1 g dF dG:=by intro h_;repeat (first|(with_reducible first|exact h_|apply Xu.alloc|apply Xu.drewN|apply Xu.drew|apply Xu.set_1|refine Xu.far ?_ (Xa.out (by assumption)) _)|exact h_)):Xu w0 W1 g dF dG:=s h.out
def spec_l11Open.f (l0:List Int):Option (List Int × Int):=if (l0.length:Int) > 2000 then (if 2000≤(l0.length:Int) then (some (l0.take 2000,0)) else (none)) else (some (l0,0))
theorem spec_l11Open.calls (A0:Option Addr) (c0:Nat) (l0:List Int) (r1:List Int) (r2:Int) (w0 w:World) (hB:Below w0.heap.size w0 w) (hr0:Kd.C (Kd.int .u8) w0 A0 l0.length l0) (hc0:l0.length≤c0) (h:spec_l11Open.f l0=some (r1,r2)) :
  Calls Try.prog 28 #[.slice A0 l0.length c0] w fun e w'=>∃ g_:Nat,e=.returned (.pointer (some ⟨g_,0,none⟩))∧Xu w0 w' g_ r1 r2∧Below w0.heap.size w0 w'∧Below w.heap.size w w':=by
 have hu77:=Try.underlying77;have dE:=Xa.mk hr0;have dJ:=Xa.mk hc0;clear hr0 hc0;have HBW:=Xa.mk (Below.refl w.heap.size w);have HW0:=Xa.mk hB.size;have HB:=Xa.mk hB;clear hB;have H:(if (l0.length:Int) > 2000 then (if 2000≤(l0.length:Int) then (some (l0.take 2000,0)) else (none)) else (some (l0,0)))=some (r1,r2):=h;clear h;by_cases c2:(l0.length:Int) > 2000
 ·rw [if_pos c2] at H;have cB:=decide_eq_true c2;have cK:decide (2000<l0.length)=true:=decide_eq_true (by omega);clear c2;by_cases c3:2000≤(l0.length:Int)
  ·rw [if_pos c3] at H;have c3b0:=eq_true c3;replace c3:=decide_eq_true c3;simp only [Option.some.injEq,Prod.mk.injEq] at H;obtain ⟨rfl,rfl⟩:=H;obtain ⟨i04,bV,_,bW,_⟩:=info_parts info5;obtain ⟨hcut4,dH,dI⟩:=print_take_of (P:=Try.prog) (Value.int .u8) 0 22 5 .i64 Try.underlying22 bV bW A0 c0 l0 2000 (by omega) (of_decide_eq_true (by assumption)) dJ.out;have bO:=Xa.mk (Kd.C_of_reads (h1:=fun _=>rfl) (dH _ (Kd.reads_of_C dE.out)));have HC101:=Xa.mk dI;clear dH dI bV bW
   go_enter Try.func28,Try.ntmps28
   go_wp2_with (first|((with_reducible refine Xt (N:=10) rfl ?_);refine Ym ?hg (N:=10) ?hd (cs:=#[.slice A0 (l0.take 2000).length c0,.int .i64 0]) (t:=77) ?hr ?_;(case hd|hg=>rfl);(case hr=>exact hr_);intro aK hg w5 hbox hb;replace HB:=Xa.mk (Xe (bl_ HB) hb);have bK:=Xa.mk (hbox);have GW102:=Xa.mk ((ge_ hg (Xd (bl_ HBW)):w.heap.size≤aK));have bM:=Xa.mk ((Nat.le_trans HW0.out (ge_ hg (Xd (bl_ HBW)):w.heap.size≤aK):w0.heap.size≤aK));replace HBW:=Xa.mk (Xe HBW.out hb);clear hb hbox hg))
   go_ret
   exact ⟨_,rfl,(show Xu w0 _ aK (l0.take 2000) 0 from ⟨_,_,ba_ bK,bM.out,bO.out⟩),bl_ HB,bl_ HBW⟩
  ·rw [if_neg c3] at H;exact absurd H (by simp)
 ·rw [if_neg c2] at H;have cB:=decide_eq_false c2;have cK:decide (2000<l0.length)=false:=decide_eq_false (by omega);clear c2;simp only [Option.some.injEq,Prod.mk.injEq] at H;obtain ⟨rfl,rfl⟩:=H
  go_enter Try.func28,Try.ntmps28
  go_wp2_with (first|((with_reducible refine Xt (N:=10) rfl ?_);refine Ym ?hg (N:=10) ?hd (cs:=#[.slice A0 l0.length c0,.int .i64 0]) (t:=77) ?hr ?_;(case hd|hg=>rfl);(case hr=>exact hr_);intro aL hg w6 hbox hb;replace HB:=Xa.mk (Xe (bl_ HB) hb);have bL:=Xa.mk (hbox);have GW103:=Xa.mk ((ge_ hg (Xd (bl_ HBW)):w.heap.size≤aL));have bN:=Xa.mk ((Nat.le_trans HW0.out (ge_ hg (Xd (bl_ HBW)):w.heap.size≤aL):w0.heap.size≤aL));replace HBW:=Xa.mk (Xe HBW.out hb);clear hb hbox hg))
  go_ret
  exact ⟨_,rfl,(show Xu w0 _ aL l0 0 from ⟨_,_,ba_ bL,bN.out,dE.out⟩),bl_ HB,bl_ HBW⟩
def Xl.j0:Nat→Int→Bool→List Int→Int→Option (Int × Int)
 |0,_,_,_,_=>none
 |k+1,x1,x24,x1000,aC=>if x24=true then (some (0,aC)) else (if (wrap64 (aC - 1))<(x1000.length:Int) then (if 0≤(wrap64 (aC - 1)) then (if x1=0 then (none) else (some (Int.tmod (wrap64 (rd x1000 (wrap64 (aC - 1)))) x1,aC))) else (none)) else (if (x1000.length:Int)=0 then (none) else (if 0≤(Int.tmod (wrap64 (aC - 1)) (x1000.length:Int)) then (if (Int.tmod (wrap64 (aC - 1)) (x1000.length:Int))<(x1000.length:Int) then (if 0≤(Int.tmod (wrap64 ((wrap64 ((wrap64 (aC - 1)) * 7))+3)) (x1000.length:Int)) then (if (Int.tmod (wrap64 ((wrap64 ((wrap64 (aC - 1)) * 7))+3)) (x1000.length:Int))<(x1000.length:Int) then (if x1=0 then (none) else (some (Int.tmod (Go.bits .xor .i64 (wrap64 ((wrap64 ((wrap64 ((wrap64 ((wrap64 (rd x1000 (Int.tmod (wrap64 (aC - 1)) (x1000.length:Int)))) * 131))+(wrap64 ((wrap64 (rd x1000 (Int.tmod (wrap64 ((wrap64 ((wrap64 (aC - 1)) * 7))+3)) (x1000.length:Int)))) * 1117))))+(wrap64 ((wrap64 (aC - 1)) * 29))))+(wrap64 ((wrap64 (Int.tdiv (wrap64 (aC - 1)) (x1000.length:Int))) * 53)))) (wrap64 (Int.tdiv (wrap64 ((wrap64 ((wrap64 ((wrap64 ((wrap64 (rd x1000 (Int.tmod (wrap64 (aC - 1)) (x1000.length:Int)))) * 131))+(wrap64 ((wrap64 (rd x1000 (Int.tmod (wrap64 ((wrap64 ((wrap64 (aC - 1)) * 7))+3)) (x1000.length:Int)))) * 1117))))+(wrap64 ((wrap64 (aC - 1)) * 29))))+(wrap64 ((wrap64 (Int.tdiv (wrap64 (aC - 1)) (x1000.length:Int))) * 53)))) 64))) x1,aC))) else (none)) else (none)) else (none)) else (none))))
def Xl.f (k:Nat) (aA:List Int) (aB:Int) (a1:Int):Option (Int × Int):=if a1<1 then (Xl.j0 k a1 true aA (wrap64 (aB+1))) else (Xl.j0 k a1 ((aA.length:Int) == 0) aA (wrap64 (aB+1)))
theorem Xl.mono_l:∀ k,(∀ y0 y1 y2 y3,LeO (Xl.j0 k y0 y1 y2 y3) (Xl.j0 (k+1) y0 y1 y2 y3))
 |0=>fun _ _ _ _ r h=>by simp [Xl.j0] at h
 |k+1=>by
  have bX:=Xl.mono_l k
  ·intro y0 y1 y2 y3
   unfold Xl.j0
   repeat' first
   |(with_reducible exact bX _ _ _ _)
   |(with_reducible exact LeO.refl _)
   |(with_reducible exact LeO.none _)
   |(with_reducible refine LeO.ite ?_ ?_)
   |(with_reducible refine LeO.bind ?_ (fun _=>?_))
   |exact bX _ _ _ _
   |exact LeO.none _
   |refine LeO.ite ?_ ?_
   |refine LeO.bind ?_ (fun _=>?_)
theorem Xl.mono:∀ a0 a1 a2 k,LeO (Xl.f k a0 a1 a2) (Xl.f (k+1) a0 a1 a2):=by
 intro a0 a1 a2 k;have bX:=Xl.mono_l k
 unfold Xl.f
 repeat' first
   |(with_reducible exact bX _ _ _ _)
   |(with_reducible exact LeO.refl _)
   |(with_reducible exact LeO.none _)
   |(with_reducible refine LeO.ite ?_ ?_)
   |(with_reducible refine LeO.bind ?_ (fun _=>?_))
   |exact bX _ _ _ _
   |exact LeO.none _
   |refine LeO.ite ?_ ?_
   |refine LeO.bind ?_ (fun _=>?_)
theorem Xl.calls (k:Nat) (g:Nat) (aA:List Int) (aB:Int) (a1:Int) (r1:Int) (r2:Int) (w0 w:World) (hI:Xu w0 w g aA aB) (hB:Below w0.heap.size w0 w) (h:Xl.f k aA aB a1=some (r1,r2)) :
  Calls Try.prog 51 #[.pointer (some ⟨g,0,none⟩),.int .i64 a1] w fun e w'=>e=.returned (.int .i64 r1)∧Xu w0 w' g aA r2∧Below w0.heap.size w0 w'∧Xi w w' g none:=by
 have HI0:=Xa.mk hI;have HK:=Xa.mk (Xi.refl w g none);have HL:=Xa.mk hB.size;clear hI;have HW0:=Xa.mk hB.size;have HB:=Xa.mk hB;clear hB;have H:(if a1<1 then (Xl.j0 k a1 true aA (wrap64 (aB+1))) else (Xl.j0 k a1 ((aA.length:Int) == 0) aA (wrap64 (aB+1))))=some (r1,r2):=h;clear h;have bZ:=Xa.mk H;clear H;obtain ⟨ASz4_0,cSz4_0,aV,dB,HSz4_0⟩:=HI0.out;have aY:=cellS77_0 aV;have aZ:=cellS77_1 aV;have bA:=Vm aV 1;clear aV dB
 go_enter Try.func51,Try.ntmps51
 go_upto_region 2 with (fail)
 repeat (go_quiet (fail);go_upto_region 2 with (fail))
 go_cut [24] (fun v24 wc=>∃ (kq:Nat) (aQ:Bool),v24=.bool aQ∧Xa (Xl.j0 kq a1 aQ aA (wrap64 (aB+1))=some (r1,r2))∧Xa (kq≤k)∧Xa (Xu w0 wc g aA (wrap64 (aB+1)))∧Xa (Xi w wc g none)∧Xa (Below w0.heap.size w0 wc))
 case first=>
  have H:=bZ.out;clear bZ;by_cases c5:a1<1
  ·rw [if_pos c5] at H;have aR:=decide_eq_true c5;clear c5
   (first|rw [aR]|(simp only [Ub,Uf];rw [aR])|skip)
   have H':=Xa.mk H;clear H;go_wp2
   repeat (go_quiet (fail);try go_wp2)
   go_meet
   case rel=>exact ⟨_,(true),rg_,H',⟨by first|omega|exact Nat.le_refl _⟩,⟨Yd HI0⟩,⟨kp_ HK⟩,⟨Yt HB⟩⟩
  ·rw [if_neg c5] at H;have aR:=decide_eq_false c5;clear c5
   (first|rw [aR]|(simp only [Ub,Uf];rw [aR])|skip)
   have H':=Xa.mk H;clear H;obtain ⟨ASz6_0,cSz6_0,aW,dC,HSz6_0⟩:=HI0.out;have hcz6_0:=cellS77_0 aW;have hcz6_1:=cellS77_1 aW;have hfz6_1:=Vm aW 1;clear aW dC;go_wp2
   repeat (go_quiet (fail);try go_wp2)
   go_meet
   case rel=>exact ⟨_,(((aA.length:Int) == 0)),rg_,H',⟨by first|omega|exact Nat.le_refl _⟩,⟨Yd HI0⟩,⟨kp_ HK⟩,⟨Yt HB⟩⟩
 case rest=>
  clear bZ
  try clear aY
  try clear aZ
  try clear bA
  obtain ⟨kq,aQ,rfl,HA,HJ2,HI0,HK,HB⟩:=hcut
  cases kq with
  |zero=>exact absurd HA.out (by simp [Xl.j0])
  |succ kj2=>
   have H:=HA.out;clear HA;simp only [Xl.j0] at H;by_cases c7:aQ=true
   ·subst c7
    replace H:(some (0,(wrap64 (aB+1))))=some (r1,r2):=(by rw [if_pos rfl] at H;exact H);simp only [Option.some.injEq,Prod.mk.injEq] at H;obtain ⟨rfl,rfl⟩:=H;go_wp2
    repeat (go_quiet (fail);try go_wp2)
    go_ret
    exact ⟨rf_,Yd HI0,Yt HB,kp_ HK⟩
   ·replace c7:=Bool.eq_false_iff.mpr c7;subst c7
    replace H:(if (wrap64 ((wrap64 (aB+1)) - 1))<(aA.length:Int) then (if 0≤(wrap64 ((wrap64 (aB+1)) - 1)) then (if a1=0 then (none) else (some (Int.tmod (wrap64 (rd aA (wrap64 ((wrap64 (aB+1)) - 1)))) a1,(wrap64 (aB+1))))) else (none)) else (if (aA.length:Int)=0 then (none) else (if 0≤(Int.tmod (wrap64 ((wrap64 (aB+1)) - 1)) (aA.length:Int)) then (if (Int.tmod (wrap64 ((wrap64 (aB+1)) - 1)) (aA.length:Int))<(aA.length:Int) then (if 0≤(Int.tmod (wrap64 ((wrap64 ((wrap64 ((wrap64 (aB+1)) - 1)) * 7))+3)) (aA.length:Int)) then (if (Int.tmod (wrap64 ((wrap64 ((wrap64 ((wrap64 (aB+1)) - 1)) * 7))+3)) (aA.length:Int))<(aA.length:Int) then (if a1=0 then (none) else (some (Int.tmod (Go.bits .xor .i64 (wrap64 ((wrap64 ((wrap64 ((wrap64 ((wrap64 (rd aA (Int.tmod (wrap64 ((wrap64 (aB+1)) - 1)) (aA.length:Int)))) * 131))+(wrap64 ((wrap64 (rd aA (Int.tmod (wrap64 ((wrap64 ((wrap64 ((wrap64 (aB+1)) - 1)) * 7))+3)) (aA.length:Int)))) * 1117))))+(wrap64 ((wrap64 ((wrap64 (aB+1)) - 1)) * 29))))+(wrap64 ((wrap64 (Int.tdiv (wrap64 ((wrap64 (aB+1)) - 1)) (aA.length:Int))) * 53)))) (wrap64 (Int.tdiv (wrap64 ((wrap64 ((wrap64 ((wrap64 ((wrap64 (rd aA (Int.tmod (wrap64 ((wrap64 (aB+1)) - 1)) (aA.length:Int)))) * 131))+(wrap64 ((wrap64 (rd aA (Int.tmod (wrap64 ((wrap64 ((wrap64 ((wrap64 (aB+1)) - 1)) * 7))+3)) (aA.length:Int)))) * 1117))))+(wrap64 ((wrap64 ((wrap64 (aB+1)) - 1)) * 29))))+(wrap64 ((wrap64 (Int.tdiv (wrap64 ((wrap64 (aB+1)) - 1)) (aA.length:Int))) * 53)))) 64))) a1,(wrap64 (aB+1))))) else (none)) else (none)) else (none)) else (none))))=some (r1,r2):=(by rw [if_neg (show ¬ (false=true) by decide)] at H;exact H);by_cases c8:(wrap64 ((wrap64 (aB+1)) - 1))<(aA.length:Int)
    ·rw [if_pos c8] at H;have bS:=decide_eq_true c8;clear c8;obtain ⟨bB,aU⟩:∃ j_:Int,(wrap64 ((wrap64 (aB+1)) - 1))=j_:=⟨_,rfl⟩
     replace H:(if 0≤(bB) then (if a1=0 then (none) else (some (Int.tmod (wrap64 (rd aA (bB))) a1,(wrap64 (aB+1))))) else (none))=some (r1,r2):=by first|(rw [aU] at H;exact H)|(simp only [aU] at H ⊢;exact H)
     (try rw [aU] at bS)
     have hji9w:(IntKind.i64.wrap ((wrap64 (aB+1)) - 1))=bB:=(Ub _).trans aU;by_cases c10:0≤(bB)
     ·rw [if_pos c10] at H;replace c10:=decide_eq_true c10;by_cases c11:a1=0
      ·rw [if_pos c11] at H;exact absurd H (by simp)
      ·rw [if_neg c11] at H;have c11b0:=beq_eq_false_iff_ne.mpr c11;have c11b1:=bne_iff_ne.mpr c11;simp only [Option.some.injEq,Prod.mk.injEq] at H;obtain ⟨rfl,rfl⟩:=H;obtain ⟨ASz12_0,cSz12_0,aH,bT,aX⟩:=HI0.out;have hcz12_0:=cellS77_0 aH;have hcz12_1:=cellS77_1 aH;have hfz12_1:=Vm aH 1;clear aH bT;have bC:0≤((bB):Int):=of_decide_eq_true (by assumption);have bG:(bB)<(aA.length:Int):=of_decide_eq_true (by assumption);obtain ⟨ad104,cO,aM⟩:=Kd.Ur aX (bB) bC bG;cases cO
       replace aM:=pw_cell_below HB.out aM;replace bC:=eq_true bC;replace bG:=eq_true bG;go_wp2
       repeat (go_quiet (fail);try go_wp2)
       go_ret
       exact ⟨by first|rfl|(simp [errW_none,errW_some] <;> rfl)|(simp only [← aU];first|rfl|(simp [errW_none,errW_some] <;> rfl))|(simp [*,errW_none,errW_some] <;> rfl),Yd HI0,Yt HB,kp_ HK⟩
     ·rw [if_neg c10] at H;exact absurd H (by simp)
    ·rw [if_neg c8] at H;have bS:=decide_eq_false c8;clear c8;by_cases c13:(aA.length:Int)=0
     ·rw [if_pos c13] at H;exact absurd H (by simp)
     ·rw [if_neg c13] at H;have c13b0:=beq_eq_false_iff_ne.mpr c13;have c13b1:=bne_iff_ne.mpr c13;have c13b2:¬ (aA=[]):=fun h_=>c13 (by rw [h_];rfl);obtain ⟨aF,aS⟩:∃ j_:Int,(Int.tmod (wrap64 ((wrap64 (aB+1)) - 1)) (aA.length:Int))=j_:=⟨_,rfl⟩
      replace H:(if 0≤(aF) then (if (aF)<(aA.length:Int) then (if 0≤(Int.tmod (wrap64 ((wrap64 ((wrap64 ((wrap64 (aB+1)) - 1)) * 7))+3)) (aA.length:Int)) then (if (Int.tmod (wrap64 ((wrap64 ((wrap64 ((wrap64 (aB+1)) - 1)) * 7))+3)) (aA.length:Int))<(aA.length:Int) then (if a1=0 then (none) else (some (Int.tmod (Go.bits .xor .i64 (wrap64 ((wrap64 ((wrap64 ((wrap64 ((wrap64 (rd aA (aF))) * 131))+(wrap64 ((wrap64 (rd aA (Int.tmod (wrap64 ((wrap64 ((wrap64 ((wrap64 (aB+1)) - 1)) * 7))+3)) (aA.length:Int)))) * 1117))))+(wrap64 ((wrap64 ((wrap64 (aB+1)) - 1)) * 29))))+(wrap64 ((wrap64 (Int.tdiv (wrap64 ((wrap64 (aB+1)) - 1)) (aA.length:Int))) * 53)))) (wrap64 (Int.tdiv (wrap64 ((wrap64 ((wrap64 ((wrap64 ((wrap64 (rd aA (aF))) * 131))+(wrap64 ((wrap64 (rd aA (Int.tmod (wrap64 ((wrap64 ((wrap64 ((wrap64 (aB+1)) - 1)) * 7))+3)) (aA.length:Int)))) * 1117))))+(wrap64 ((wrap64 ((wrap64 (aB+1)) - 1)) * 29))))+(wrap64 ((wrap64 (Int.tdiv (wrap64 ((wrap64 (aB+1)) - 1)) (aA.length:Int))) * 53)))) 64))) a1,(wrap64 (aB+1))))) else (none)) else (none)) else (none)) else (none))=some (r1,r2):=by first|(rw [aS] at H;exact H)|(simp only [aS] at H ⊢;exact H)
      by_cases c15:0≤(aF)
      ·rw [if_pos c15] at H;replace c15:=decide_eq_true c15;by_cases c16:(aF)<(aA.length:Int)
       ·rw [if_pos c16] at H;replace c16:=decide_eq_true c16;obtain ⟨aG,aT⟩:∃ j_:Int,(Int.tmod (wrap64 ((wrap64 ((wrap64 ((wrap64 (aB+1)) - 1)) * 7))+3)) (aA.length:Int))=j_:=⟨_,rfl⟩
        replace H:(if 0≤(aG) then (if (aG)<(aA.length:Int) then (if a1=0 then (none) else (some (Int.tmod (Go.bits .xor .i64 (wrap64 ((wrap64 ((wrap64 ((wrap64 ((wrap64 (rd aA (aF))) * 131))+(wrap64 ((wrap64 (rd aA (aG))) * 1117))))+(wrap64 ((wrap64 ((wrap64 (aB+1)) - 1)) * 29))))+(wrap64 ((wrap64 (Int.tdiv (wrap64 ((wrap64 (aB+1)) - 1)) (aA.length:Int))) * 53)))) (wrap64 (Int.tdiv (wrap64 ((wrap64 ((wrap64 ((wrap64 ((wrap64 (rd aA (aF))) * 131))+(wrap64 ((wrap64 (rd aA (aG))) * 1117))))+(wrap64 ((wrap64 ((wrap64 (aB+1)) - 1)) * 29))))+(wrap64 ((wrap64 (Int.tdiv (wrap64 ((wrap64 (aB+1)) - 1)) (aA.length:Int))) * 53)))) 64))) a1,(wrap64 (aB+1))))) else (none)) else (none))=some (r1,r2):=by first|(rw [aT] at H;exact H)|(simp only [aT] at H ⊢;exact H)
        by_cases c18:0≤(aG)
        ·rw [if_pos c18] at H;replace c18:=decide_eq_true c18;by_cases c19:(aG)<(aA.length:Int)
         ·rw [if_pos c19] at H;replace c19:=decide_eq_true c19;by_cases c20:a1=0
          ·rw [if_pos c20] at H;exact absurd H (by simp)
          ·rw [if_neg c20] at H;have c20b0:=beq_eq_false_iff_ne.mpr c20;have c20b1:=bne_iff_ne.mpr c20;simp only [Option.some.injEq,Prod.mk.injEq] at H;obtain ⟨rfl,rfl⟩:=H;obtain ⟨ASz21_0,cSz21_0,aI,bU,aJ⟩:=HI0.out;have hcz21_0:=cellS77_0 aI;have hcz21_1:=cellS77_1 aI;have hfz21_1:=Vm aI 1;clear aI bU;have bD:0≤((aF):Int):=of_decide_eq_true (by assumption);have bH:(aF)<(aA.length:Int):=of_decide_eq_true (by assumption);obtain ⟨bP,cZ,aN⟩:=Kd.Ur aJ (aF) bD bH;cases cZ
           replace aN:=pw_cell_below HB.out aN;replace bD:=eq_true bD;replace bH:=eq_true bH;have bE:0≤((aG):Int):=of_decide_eq_true (by assumption);have bI:(aG)<(aA.length:Int):=of_decide_eq_true (by assumption);obtain ⟨bQ,dA,aO⟩:=Kd.Ur aJ (aG) bE bI;obtain rfl:bP=bQ:=(by injection dA);replace aO:=pw_cell_below HB.out aO;replace bE:=eq_true bE;replace bI:=eq_true bI;go_wp2
           repeat (go_quiet (fail);try go_wp2)
           go_ret
           exact ⟨by first|rfl|(simp [errW_none,errW_some] <;> rfl)|(simp only [← aS,← aT];first|rfl|(simp [errW_none,errW_some] <;> rfl))|(simp [*,errW_none,errW_some] <;> rfl),Yd HI0,Yt HB,kp_ HK⟩
         ·rw [if_neg c19] at H;exact absurd H (by simp)
        ·rw [if_neg c18] at H;exact absurd H (by simp)
       ·rw [if_neg c16] at H;exact absurd H (by simp)
      ·rw [if_neg c15] at H;exact absurd H (by simp)
def Xn.f (k:Nat) (aA:List Int) (aB:Int) (l1:List Int):Option (Int × Int):=(Xl.f k aA aB (l1.length:Int)).bind fun aD=>(if 0≤aD.1 then (if aD.1<(l1.length:Int) then (some (rd l1 aD.1,aD.2)) else (none)) else (none))
theorem Xn.mono:∀ a0 a1 a2 k,LeO (Xn.f k a0 a1 a2) (Xn.f (k+1) a0 a1 a2):=by
 intro a0 a1 a2 k
 unfold Xn.f
 repeat' first
   |(with_reducible exact Xl.mono _ _ _ _)
   |(with_reducible exact LeO.refl _)
   |(with_reducible exact LeO.none _)
   |(with_reducible refine LeO.ite ?_ ?_)
   |(with_reducible refine LeO.bind ?_ (fun _=>?_))
   |exact Xl.mono _ _ _ _
   |exact LeO.none _
   |refine LeO.ite ?_ ?_
   |refine LeO.bind ?_ (fun _=>?_)
theorem Xn.calls (k:Nat) (g:Nat) (aA:List Int) (aB:Int) (A1:Option Addr) (c1:Nat) (l1:List Int) (r1:Int) (r2:Int) (w0 w:World) (hI:Xu w0 w g aA aB) (hB:Below w0.heap.size w0 w) (hr1:Kd.C (Kd.int .i64) w A1 l1.length l1) (hc1:l1.length≤c1) (hf1:∀ ad,A1=some ad→0<l1.length→ad.block≠g) (h:Xn.f k aA aB l1=some (r1,r2)) :
  Calls Try.prog 52 #[.pointer (some ⟨g,0,none⟩),.slice A1 l1.length c1] w fun e w'=>e=.returned (.int .i64 r1)∧Xu w0 w' g aA r2∧Below w0.heap.size w0 w'∧Xi w w' g none:=by
 have HR1:=Xa.mk hr1;have HC1:=Xa.mk hc1;clear hr1 hc1;have HI0:=Xa.mk hI;have HK:=Xa.mk (Xi.refl w g none);have HL:=Xa.mk hB.size;clear hI;have HW0:=Xa.mk hB.size;have HB:=Xa.mk hB;clear hB;have H:((Xl.f k aA aB (l1.length:Int)).bind fun aD=>(if 0≤aD.1 then (if aD.1<(l1.length:Int) then (some (rd l1 aD.1,aD.2)) else (none)) else (none)))=some (r1,r2):=h;clear h;replace H:=Option.bind_eq_some_iff.mp H;obtain ⟨⟨t107,bY⟩,dD,H⟩:=H;replace H:(if 0≤t107 then (if t107<(l1.length:Int) then (some (rd l1 t107,bY)) else (none)) else (none))=some (r1,r2):=H;have A3:=Xa.mk dD;clear dD;by_cases c4:0≤t107
 ·rw [if_pos c4] at H;replace c4:=decide_eq_true c4;by_cases c5:t107<(l1.length:Int)
  ·rw [if_pos c5] at H;have aR:=decide_eq_true c5;clear c5;simp only [Option.some.injEq,Prod.mk.injEq] at H;obtain ⟨rfl,rfl⟩:=H
   go_enter Try.func52,Try.ntmps52
   go_wp2_with (first|((with_reducible refine Xh (f:=51) rfl ?_);refine Ye (some 9) rfl rfl Try.func51 (by kernel_rfl) rfl #[.pointer (some ⟨g,0,none⟩),.int .i64 (l1.length:Int)] rfl ga_ ?_;(with_reducible refine (Xl.calls k g aA aB (l1.length:Int) t107 bY w0 _ ?side1 ?side2 A3.out).mono ?_);(case side1=>exact Yd HI0);(case side2=>exact Yt HB);rintro e w6 ⟨rfl,hi,hb,hk⟩;refine ⟨_,rfl,?_⟩;replace HK:=Xa.mk (Xi.trans (kp_ HK) hk (.inl rfl));replace HB:=Xa.mk (hb);replace HI0:=Xa.mk (hi);clear hb hk hi;have bF:0≤(t107:Int):=of_decide_eq_true (by assumption);have bJ:t107<(l1.length:Int):=of_decide_eq_true (by assumption);obtain ⟨bR,e109,aP⟩:=Kd.Ur HR1.out t107 bF bJ;cases e109;replace aP:=keep_cell HK.out aP (by first|(rw [add_block];exact hf1 _ rfl (by omega))|exact hf1 _ rfl (by omega)|exact hf1 bR rfl (by omega));replace bF:=eq_true bF;replace bJ:=eq_true bJ))
   go_ret
   exact ⟨rf_,Yd HI0,Yt HB,kp_ HK⟩
  ·rw [if_neg c5] at H;exact absurd H (by simp)
 ·rw [if_neg c4] at H;exact absurd H (by simp)
end Go.Proofs.Ytokajnfbiddpjaa.GSlim
