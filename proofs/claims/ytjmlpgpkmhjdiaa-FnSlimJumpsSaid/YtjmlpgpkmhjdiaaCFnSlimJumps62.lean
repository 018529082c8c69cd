import Derived.Test.YtjmlpgpkmhjdiaaCFnSlimJumps21
import Derived.Test.YtjmlpgpkmhjdiaaCFnSlimJumps60
import Derived.Test.YtjmlpgpkmhjdiaaCFnSlimJumps61
namespace Go.Proofs.Ytjmlpgpkmhjdiaa.GSlim
open Go.RowKit Go.Proofs.YtjmlpgpkmhjdiaaW.PrintWords Go.Proofs.YtjmlpgpkmhjdiaaW.PrintLast Go.Proofs.YtjmlpgpkmhjdiaaW.PrintMore
attribute [local go_sem] Zn Zp Ua Ub Zh Zi Zo Zq
set_option linter.unusedVariables false
set_option linter.unusedSimpArgs false
def spec_CodeOf.f (k:Nat) (l0:List (S82)):Option ((List (S47))):=(Un.f k l0).bind fun t661=>(if t661=true then ((Zj.f k l0 0).bind fun t662=>(if t662.length<4398046511104 then (some (t662 ++ [(⟨13,0,0,0⟩:S47)])) else (none))) else (some (([]:List (S47)))))
set_option maxHeartbeats 8000000 in
set_option maxRecDepth 100000 in
theorem spec_CodeOf.calls (k:Nat) (A0:Option Addr) (c0:Nat) (l0:List (S82)) (r:List (S47)) (w:World) (hr0:Kd.C k82 w A0 l0.length l0) (hc0:l0.length≤c0) (h:spec_CodeOf.f k l0=some r) :
  Calls Try.prog 65 #[.slice A0 l0.length c0] w fun e w'=>∃ v0_:Value,e=.returned (v0_)∧Kd.R k47 47 w' w.heap.size (fun _=>True) v0_ r∧Below w.heap.size w w':=by
 have hu47:=Try.underlying47;have HR0:=Xa.mk hr0;have HC0:=Xa.mk hc0;clear hr0 hc0;have HB:=Xa.mk (Below.refl w.heap.size w);have H:((Un.f k l0).bind fun t661=>(if t661=true then ((Zj.f k l0 0).bind fun t662=>(if t662.length<4398046511104 then (some (t662 ++ [(⟨13,0,0,0⟩:S47)])) else (none))) else (some (([]:List (S47))))))=some r:=h;clear h;replace H:=Option.bind_eq_some_iff.mp H;obtain ⟨t661,A20,H⟩:=H;replace H:(if t661=true then ((Zj.f k l0 0).bind fun t662=>(if t662.length<4398046511104 then (some (t662 ++ [(⟨13,0,0,0⟩:S47)])) else (none))) else (some (([]:List (S47)))))=some r:=H;have A2:=Xa.mk A20;clear A20;by_cases c3:t661=true
 ·subst c3
  have H1:((Zj.f k l0 0).bind fun t662=>(if t662.length<4398046511104 then (some (t662 ++ [(⟨13,0,0,0⟩:S47)])) else (none)))=some r:=by rw [if_pos rfl] at H;exact H
  clear H;have H:=H1;clear H1;replace H:=Option.bind_eq_some_iff.mp H;obtain ⟨t662,A40,H⟩:=H;replace H:(if t662.length<4398046511104 then (some (t662 ++ [(⟨13,0,0,0⟩:S47)])) else (none))=some r:=H;have A4:=Xa.mk A40;clear A40;by_cases c5:t662.length<4398046511104
  ·rw [if_pos c5] at H;have LMc5:=Xa.mk c5;clear c5;obtain ⟨y665,hy665⟩:∃ y_:List (S47),y_=(t662 ++ [(⟨13,0,0,0⟩:S47)]):=⟨_,rfl⟩
   replace H:(some y665)=some r:=by subst hy665;first|with_reducible exact H|(have z:=(Option.bind_some _ _).symm.trans H;with_reducible exact z)|exact H
   have Ny665:=Xa.mk hy665;clear hy665;obtain rfl:=Option.some.inj H
   go_enter Try.func65,Try.ntmps65
   go_wp2_with (first|((with_reducible refine Xo (f:=83) rfl ?_);refine Yz (some 4) rfl rfl Try.func83 (by kernel_rfl) rfl #[.slice A0 l0.length c0] rfl ga_ ?_;(with_reducible refine (Un.calls k _ _ l0 true _ ?side1 ?side2 A2.out).mono ?_);(case side1=>repeat (first|exact HR0.out|(with_reducible refine Kd.Xm ?_ _)|(with_reducible refine Kd.Xn ?_ _)|(with_reducible refine Kd.Xv ?_)));(case side2=>exact HC0.out);rintro e w6 ⟨rfl,hb⟩;refine ⟨_,rfl,?_⟩;have n0_:=Xa.mk (Xc (bl_ HB) hb);clear HB;have HB:=n0_;clear n0_;(try clear hb);(try clear hb2);(try clear hk);(try clear hi))|((with_reducible refine Xo (f:=84) rfl ?_);refine Yz (some 8) rfl rfl Try.func84 (by kernel_rfl) rfl #[.slice A0 l0.length c0,.int .i64 0] rfl ga_ ?_;(with_reducible refine (Zj.calls k _ _ l0 0 t662 _ ?side1 ?side2 A4.out).mono ?_);(case side1=>repeat (first|exact (Kd.Zt HR0.out HB.out)|(with_reducible refine Kd.Xm ?_ _)|(with_reducible refine Kd.Xn ?_ _)|(with_reducible refine Kd.Xv ?_)));(case side2=>exact HC0.out);rintro e w7 ⟨v663,rfl,ho0,hb⟩;refine ⟨_,rfl,?_⟩;have n0_:=Xa.mk (Kd.Ye ho0 (Xd (bl_ HB)));have n1_:=Xa.mk (Xc (bl_ HB) hb);clear HB;have HO664:=n0_;have HB:=n1_;clear n0_ n1_;(try clear hb);(try clear hb2);(try clear hk);(try clear hi);(try clear ho0))|((with_reducible refine Zk (b:=.append) (xs:=#[.tmp 8,.tmp 10]) rfl ?_);at_builtin;refine Kd.R_append k47 (w0:=w) w.heap.size rfl (.tmp 8) (.tmp 10) 36 47 (.agg #[(.int .i64 0),(.int .i64 0),(.int .i64 0),(.int .i64 0)]) 32 rfl Try.underlying36 Ve rfl (by decide) (by omega) v663 t662 (⟨13,0,0,0⟩:S47) [.int .i64 13,.int .i64 0,.int .i64 0,.int .i64 0] (fun _=>True) (fun _=>False) rfl rfl ?aP (fun _ hk=>hk.elim) ?aF ?aO ?aB ?aS ?aL ?_;(case aP=>exact Us _ _ _ (⟨13,0,0,0⟩:S47));(case aB=>exact (bl_ HB));(case aF=>exact (fun _ _=>trivial));(case aO=>exact (Kd.ra_ (HO664.out)));(case aS=>exact (Xd (bl_ HB)));(case aL=>have:=LMc5.out;omega);intro v666 w8 ho hb hg hat;rw [← Ny665.out] at ho;have n0_:=Xa.mk (hb);have n1_:=Xa.mk (ho);clear HB;clear HO664;have HB:=n0_;have HO667:=n1_;clear n0_ n1_;clear ho hb hg hat))
   go_ret
   exact ⟨_,rf_,Kd.ra_ (HO667.out),bl_ HB⟩
  ·rw [if_neg c5] at H;exact absurd H (by simp)
 ·replace c3:=Bool.eq_false_iff.mpr c3;subst c3
  have H1:(some (([]:List (S47))))=some r:=by rw [if_neg (show ¬ (false=true) by decide)] at H;exact H
  clear H;have H:=H1;clear H1;obtain ⟨y668,hy668⟩:∃ y_:List (S47),y_=(([]:List (S47))):=⟨_,rfl⟩
  replace H:(some y668)=some r:=by subst hy668;first|with_reducible exact H|(have z:=(Option.bind_some _ _).symm.trans H;with_reducible exact z)|exact H
  have Ny668:=Xa.mk hy668;clear hy668;obtain rfl:=Option.some.inj H
  go_enter Try.func65,Try.ntmps65
  go_wp2_with (first|((with_reducible refine Xo (f:=83) rfl ?_);refine Yz (some 4) rfl rfl Try.func83 (by kernel_rfl) rfl #[.slice A0 l0.length c0] rfl ga_ ?_;(with_reducible refine (Un.calls k _ _ l0 false _ ?side1 ?side2 A2.out).mono ?_);(case side1=>repeat (first|exact HR0.out|(with_reducible refine Kd.Xm ?_ _)|(with_reducible refine Kd.Xn ?_ _)|(with_reducible refine Kd.Xv ?_)));(case side2=>exact HC0.out);rintro e w9 ⟨rfl,hb⟩;refine ⟨_,rfl,?_⟩;have n0_:=Xa.mk (Xc (bl_ HB) hb);clear HB;have HB:=n0_;clear n0_;(try clear hb);(try clear hb2);(try clear hk);(try clear hi))|((with_reducible refine Yc (N:=6) rfl ?_);refine Kd.R_lit k47 _ 47 ?hg (N:=6) ?hd (xs:=([]:List (S47))) (inner:=[]) (ok:=fun _=>True) (okp:=fun _=>True) ?hr ?hp (fun _ hk=>hk) trivial (Below.refl _ _) (Nat.le_refl _) (by simp) ?_;(case hd=>rfl);(case hg=>rfl);(case hr=>first|(go_simp;done)|(go_simp;rfl));(case hp=>exact (Yn.none _ _));intro v669 w10 ho11 hb hg_ hnew_;clear hg_ hnew_;(first|rw [← Ny668.out] at ho11|(simp only [Int.reduceToNat] at ho11;rw [← Ny668.out] at ho11));have n0_:=Xa.mk (Kd.Ye ho11 (Xd (bl_ HB)));have n1_:=Xa.mk (Xc (bl_ HB) hb);clear HB;have HO670:=n0_;have HB:=n1_;clear n0_ n1_;clear hb ho11))
  go_ret
  exact ⟨_,rf_,Kd.ra_ (HO670.out),bl_ HB⟩
end Go.Proofs.Ytjmlpgpkmhjdiaa.GSlim
