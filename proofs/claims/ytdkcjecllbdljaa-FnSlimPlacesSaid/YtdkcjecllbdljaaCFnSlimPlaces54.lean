import Derived.Test.YtdkcjecllbdljaaCFnSlimPlaces21
import Derived.Test.YtdkcjecllbdljaaCFnSlimPlaces31
import Derived.Test.YtdkcjecllbdljaaCFnSlimPlaces40
import Derived.Test.YtdkcjecllbdljaaCFnSlimPlaces42
import Derived.Test.YtdkcjecllbdljaaCFnSlimPlaces47
import Derived.Test.YtdkcjecllbdljaaCFnSlimPlaces51
import Derived.Test.YtdkcjecllbdljaaCFnSlimPlaces53
namespace Go.Proofs.Ytdkcjecllbdljaa.GSlim
open Go.RowKit Go.Proofs.YtdkcjecllbdljaaW.PrintWords Go.Proofs.YtdkcjecllbdljaaW.PrintLast Go.Proofs.YtdkcjecllbdljaaW.PrintMore
attribute [local go_sem] Zq Zt Uh Ui Zi Zj Zr Zu
set_option linter.unusedVariables false
set_option linter.unusedSimpArgs false
def Vh.f (k:Nat) (l0:List (S31)):Option (List Bool):=(Yp.f k l0).bind fun t572=>(if t572=true then ((impl_reach.f k l0).bind fun t573=>(some t573)) else (some ([]:List Bool)))
set_option maxHeartbeats 8000000 in
set_option maxRecDepth 100000 in
theorem Vh.calls (k:Nat) (A0:Option Addr) (c0:Nat) (l0:List (S31)) (r:List Bool) (w:World) (hr0:Kd.C k31 w A0 l0.length l0) (hc0:l0.length≤c0) (h:Vh.f k l0=some r) :
  Calls Try.prog 11 #[.slice A0 l0.length c0] w fun e w'=>∃ v0_:Value,e=.returned (v0_)∧Kd.R Kd.bool 4 w' w.heap.size (fun _=>True) v0_ r∧Below w.heap.size w w':=by
 have HR0:=Xa.mk hr0;have HC0:=Xa.mk hc0;clear hr0 hc0;have HB:=Xa.mk (Below.refl w.heap.size w);have H:((Yp.f k l0).bind fun t572=>(if t572=true then ((impl_reach.f k l0).bind fun t573=>(some t573)) else (some ([]:List Bool))))=some r:=h;clear h;replace H:=Option.bind_eq_some_iff.mp H;obtain ⟨t572,A20,H⟩:=H;replace H:(if t572=true then ((impl_reach.f k l0).bind fun t573=>(some t573)) else (some ([]:List Bool)))=some r:=H;have A2:=Xa.mk A20;clear A20;by_cases c3:t572=true
 ·subst c3
  have H1:((impl_reach.f k l0).bind fun t573=>(some t573))=some r:=by rw [if_pos rfl] at H;exact H
  clear H;have H:=H1;clear H1;replace H:=Option.bind_eq_some_iff.mp H;obtain ⟨t573,A40,H⟩:=H;replace H:(some t573)=some r:=H;have A4:=Xa.mk A40;clear A40;obtain rfl:=Option.some.inj H
  go_enter Try.func11,Try.ntmps11
  go_wp2_with (first|((with_reducible refine Xi (f:=12) rfl ?_);refine Yl (some 4) rfl rfl Try.func12 (by kernel_rfl) rfl #[.slice A0 l0.length c0] rfl ga_ ?_;(with_reducible refine (Yp.calls k _ _ l0 true _ ?side1 ?side2 A2.out).mono ?_);(case side1=>repeat (first|exact HR0.out|(with_reducible refine Kd.Xx ?_ _)|(with_reducible refine Kd.Xy ?_ _)|(with_reducible refine Kd.Yf ?_)));(case side2=>exact HC0.out);rintro e w5 ⟨rfl,hb⟩;refine ⟨_,rfl,?_⟩;have n0_:=Xa.mk (Xd (bl_ HB) hb);clear HB;have HB:=n0_;clear n0_;(try clear hb);(try clear hb2);(try clear hk);(try clear hi))|((with_reducible refine Xi (f:=25) rfl ?_);refine Yl (some 7) rfl rfl Try.func25 (by kernel_rfl) rfl #[.slice A0 l0.length c0] rfl ga_ ?_;(with_reducible refine (impl_reach.calls k _ _ l0 t573 _ ?side1 ?side2 A4.out).mono ?_);(case side1=>repeat (first|exact (Kd.Zh HR0.out HB.out)|(with_reducible refine Kd.Xx ?_ _)|(with_reducible refine Kd.Xy ?_ _)|(with_reducible refine Kd.Yf ?_)));(case side2=>exact HC0.out);rintro e w6 ⟨v574,rfl,ho0,hb⟩;refine ⟨_,rfl,?_⟩;have n0_:=Xa.mk (Kd.Yi ho0 (Xc (bl_ HB)));have n1_:=Xa.mk (Xd (bl_ HB) hb);clear HB;have HO575:=n0_;have HB:=n1_;clear n0_ n1_;(try clear hb);(try clear hb2);(try clear hk);(try clear hi);(try clear ho0)))
  go_ret
  exact ⟨_,rf_,Kd.ra_ (HO575.out),bl_ HB⟩
 ·replace c3:=Bool.eq_false_iff.mpr c3;subst c3
  have H1:(some ([]:List Bool))=some r:=by rw [if_neg (show ¬ (false=true) by decide)] at H;exact H
  clear H;have H:=H1;clear H1;obtain rfl:=Option.some.inj H
  go_enter Try.func11,Try.ntmps11
  go_wp2_with (first|((with_reducible refine Xi (f:=12) rfl ?_);refine Yl (some 4) rfl rfl Try.func12 (by kernel_rfl) rfl #[.slice A0 l0.length c0] rfl ga_ ?_;(with_reducible refine (Yp.calls k _ _ l0 false _ ?side1 ?side2 A2.out).mono ?_);(case side1=>repeat (first|exact HR0.out|(with_reducible refine Kd.Xx ?_ _)|(with_reducible refine Kd.Xy ?_ _)|(with_reducible refine Kd.Yf ?_)));(case side2=>exact HC0.out);rintro e w7 ⟨rfl,hb⟩;refine ⟨_,rfl,?_⟩;have n0_:=Xa.mk (Xd (bl_ HB) hb);clear HB;have HB:=n0_;clear n0_;(try clear hb);(try clear hb2);(try clear hk);(try clear hi)))
  go_ret
  exact ⟨_,rf_,by first|exact Kd.R_nil _ _ _ _ _|exact Kd.N_nil _ _ _ _ _|exact Kd.V_nil _ _ _ _ _|exact Kd.Q_nil _ _ _ _ _|exact Kd.S_nil _ _ _ _ _,bl_ HB⟩
end Go.Proofs.Ytdkcjecllbdljaa.GSlim
