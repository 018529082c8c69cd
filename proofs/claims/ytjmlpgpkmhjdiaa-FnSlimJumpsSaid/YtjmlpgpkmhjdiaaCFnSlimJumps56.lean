import Derived.Test.YtjmlpgpkmhjdiaaCFnSlimJumps21
import Derived.Test.YtjmlpgpkmhjdiaaCFnSlimJumps55
namespace Go.Proofs.Ytjmlpgpkmhjdiaa.GSlim
open Go.RowKit Go.Proofs.YtjmlpgpkmhjdiaaW.PrintWords Go.Proofs.YtjmlpgpkmhjdiaaW.PrintLast Go.Proofs.YtjmlpgpkmhjdiaaW.PrintMore
attribute [local go_sem] Zn Zp Ua Ub Zh Zi Zo Zq
set_option linter.unusedVariables false
set_option linter.unusedSimpArgs false
def Xu.f (k:Nat) (s0_0:List Int) (s0_1:Int) (l1:List Int):Option (Int × Int):=(Xg.f k s0_0 s0_1 (l1.length:Int)).bind fun bt466=>(if 0≤bt466.1 then (if bt466.1<(l1.length:Int) then (some (rd l1 bt466.1,bt466.2)) else (none)) else (none))
theorem Xu.mono:∀ a0 a1 a2 k,LeO (Xu.f k a0 a1 a2) (Xu.f (k+1) a0 a1 a2):=by
 intro a0 a1 a2 k
 unfold Xu.f
 repeat' first
   |(with_reducible exact Xg.mono _ _ _ _)
   |(with_reducible exact LeO.refl _)
   |(with_reducible exact LeO.none _)
   |(with_reducible refine LeO.ite ?_ ?_)
   |(with_reducible refine LeO.bind ?_ (fun _=>?_))
   |exact Xg.mono _ _ _ _
   |exact LeO.none _
   |refine LeO.ite ?_ ?_
   |refine LeO.bind ?_ (fun _=>?_)
set_option maxHeartbeats 8000000 in
set_option maxRecDepth 100000 in
theorem Xu.calls (k:Nat) (g:Nat) (s0_0:List Int) (s0_1:Int) (A1:Option Addr) (c1:Nat) (l1:List Int) (r1:Int) (r2:Int) (w0 w:World) (hI:Xl w0 w g s0_0 s0_1) (hB:Below w0.heap.size w0 w) (hr1:Kd.C (Kd.int .i64) w A1 l1.length l1) (hc1:l1.length≤c1) (hf1:∀ ad,A1=some ad→0<l1.length→ad.block≠g) (h:Xu.f k s0_0 s0_1 l1=some (r1,r2)) :
  Calls Try.prog 52 #[.pointer (some ⟨g,0,none⟩),.slice A1 l1.length c1] w fun e w'=>e=.returned (.int .i64 r1)∧Xl w0 w' g s0_0 r2∧Below w0.heap.size w0 w'∧Xf w w' g none:=by
 have HR1:=Xa.mk hr1;have HC1:=Xa.mk hc1;clear hr1 hc1;have HI0:=Xa.mk hI;have HK:=Xa.mk (Xf.refl w g none);have HL:=Xa.mk hB.size;clear hI;have HW0:=Xa.mk hB.size;have HB:=Xa.mk hB;clear hB;have H:((Xg.f k s0_0 s0_1 (l1.length:Int)).bind fun bt466=>(if 0≤bt466.1 then (if bt466.1<(l1.length:Int) then (some (rd l1 bt466.1,bt466.2)) else (none)) else (none)))=some (r1,r2):=h;clear h;replace H:=Option.bind_eq_some_iff.mp H;obtain ⟨⟨t466,t467⟩,A30,H⟩:=H;replace H:(if 0≤t466 then (if t466<(l1.length:Int) then (some (rd l1 t466,t467)) else (none)) else (none))=some (r1,r2):=H;have A3:=Xa.mk A30;clear A30;by_cases c4:0≤t466
 ·rw [if_pos c4] at H;have c4b0:decide (0≤t466)=true:=decide_eq_true c4;clear c4;by_cases c5:t466<(l1.length:Int)
  ·rw [if_pos c5] at H;have c5b0:decide (t466<(l1.length:Int))=true:=decide_eq_true c5;clear c5;simp only [Option.some.injEq,Prod.mk.injEq] at H;obtain ⟨rfl,rfl⟩:=H
   go_enter Try.func52,Try.ntmps52
   go_wp2_with (first|((with_reducible refine Xo (f:=74) rfl ?_);refine Yz (some 9) rfl rfl Try.func74 (by kernel_rfl) rfl #[.pointer (some ⟨g,0,none⟩),.int .i64 (l1.length:Int)] rfl ga_ ?_;(with_reducible refine (Xg.calls k g s0_0 s0_1 (l1.length:Int) t466 t467 w0 _ ?side1 ?side2 A3.out).mono ?_);(case side1=>exact Xw HI0);(case side2=>exact Yj HB);rintro e w6 ⟨rfl,hi,hb,hk⟩;refine ⟨_,rfl,?_⟩;have n0_:=Xa.mk (Xf.trans (kp_ HK) hk (.inl rfl));have n1_:=Xa.mk (hb);have n2_:=Xa.mk (hi);clear HK;clear HB;clear HI0;have HK:=n0_;have HB:=n1_;have HI0:=n2_;clear n0_ n1_ n2_;(try clear hb);(try clear hb2);(try clear hk);(try clear hi);have p468:0≤(t466:Int):=of_decide_eq_true (by first|(with_reducible assumption)|assumption);have q468:t466<(l1.length:Int):=of_decide_eq_true (by first|(with_reducible assumption)|assumption);obtain ⟨ad468,e468,hx468_0⟩:=Kd.Ui HR1.out t466 p468 q468;cases e468;replace hx468_0:=keep_cell HK.out hx468_0 (by first|(rw [add_block];exact hf1 _ rfl (by omega))|exact hf1 _ rfl (by omega)|exact hf1 ad468 rfl (by omega));replace p468:=eq_true p468;replace q468:=eq_true q468))
   go_ret
   exact ⟨rf_,Xw HI0,Yj HB,kp_ HK⟩
  ·rw [if_neg c5] at H;exact absurd H (by simp)
 ·rw [if_neg c4] at H;exact absurd H (by simp)
end Go.Proofs.Ytjmlpgpkmhjdiaa.GSlim
