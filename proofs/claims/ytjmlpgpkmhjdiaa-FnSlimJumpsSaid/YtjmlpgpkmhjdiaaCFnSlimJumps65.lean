import Derived.Test.YtjmlpgpkmhjdiaaCFnSlimJumps21
import Derived.Test.YtjmlpgpkmhjdiaaCFnSlimJumps54
namespace Go.Proofs.Ytjmlpgpkmhjdiaa.GSlim
open Go.RowKit Go.Proofs.YtjmlpgpkmhjdiaaW.PrintWords Go.Proofs.YtjmlpgpkmhjdiaaW.PrintLast Go.Proofs.YtjmlpgpkmhjdiaaW.PrintMore
attribute [local go_sem] Zn Zp Ua Ub Zh Zi Zo Zq
set_option linter.unusedVariables false
set_option linter.unusedSimpArgs false
def Zf.f (k:Nat) (l0:List (S47)) (l1:List (S47)):Option (Bool):=(Zy.f k l0 l1).bind fun t813=>(some t813)
set_option maxHeartbeats 8000000 in
set_option maxRecDepth 100000 in
theorem Zf.calls (k:Nat) (A0:Option Addr) (c0:Nat) (l0:List (S47)) (A1:Option Addr) (c1:Nat) (l1:List (S47)) (r:Bool) (w:World) (hr0:Kd.C k47 w A0 l0.length l0) (hc0:l0.length≤c0) (hr1:Kd.C k47 w A1 l1.length l1) (hc1:l1.length≤c1) (h:Zf.f k l0 l1=some r) :
  Calls Try.prog 39 #[.slice A0 l0.length c0,.slice A1 l1.length c1] w fun e w'=>e=.returned (.bool r)∧Zu w w':=by
 have HR0:=Xa.mk hr0;have HC0:=Xa.mk hc0;clear hr0 hc0;have HR1:=Xa.mk hr1;have HC1:=Xa.mk hc1;clear hr1 hc1;have H:((Zy.f k l0 l1).bind fun t813=>(some t813))=some r:=h;clear h;replace H:=Option.bind_eq_some_iff.mp H;obtain ⟨t813,A30,H⟩:=H;replace H:(some t813)=some r:=H;have A3:=Xa.mk A30;clear A30;obtain rfl:=Option.some.inj H
 go_enter Try.func39,Try.ntmps39
 go_wp2_with (first|((with_reducible refine Xo (f:=67) rfl ?_);refine Yz (some 7) rfl rfl Try.func67 (by kernel_rfl) rfl #[.slice A0 l0.length c0,.slice A1 l1.length c1] rfl ga_ ?_;(with_reducible refine (Zy.calls k _ _ l0 _ _ l1 t813 _ ?side1 ?side2 ?side3 ?side4 A3.out).mono ?_);(case side1=>repeat (first|exact HR0.out|(with_reducible refine Kd.Xm ?_ _)|(with_reducible refine Kd.Xn ?_ _)|(with_reducible refine Kd.Xv ?_)));(case side2=>exact HC0.out);(case side3=>repeat (first|exact HR1.out|(with_reducible refine Kd.Xm ?_ _)|(with_reducible refine Kd.Xn ?_ _)|(with_reducible refine Kd.Xv ?_)));(case side4=>exact HC1.out);rintro e w' ⟨rfl,⟨nd,rfl⟩⟩;refine ⟨_,rfl,?_⟩))
 go_ret
 exact ⟨by first|rfl|(simp;done)|(simp [*];done),by repeat (first|exact Zu.refl _|apply Zu.step)⟩
end Go.Proofs.Ytjmlpgpkmhjdiaa.GSlim
