import Derived.Test.YtdkcjecllbdljaaDoorCFnCodeLines22
import Derived.Test.YtdkcjecllbdljaaDoorCFnCodeLines46
import Derived.Test.YtdkcjecllbdljaaDoorCFnCodeLines47
namespace Go.Proofs.YtdkcjecllbdljaaDoor.GCode
open Go.RowKit Go.Proofs.YtdkcjecllbdljaaDoorW.PrintWords Go.Proofs.YtdkcjecllbdljaaDoorW.PrintLast Go.Proofs.YtdkcjecllbdljaaDoorW.PrintMore
attribute [local go_sem] Zy Ua Uo Uq Zp Zq Zz Ub
set_option linter.unusedVariables false
set_option linter.unusedSimpArgs false
def spec_CodeOf.f (k:Nat) (l0:List (S62)):Option ((List (S36))):=(Ue.f k l0).bind fun t453=>(if t453=true then ((Zc.f k l0 0).bind fun t454=>(if t454.length<4398046511104 then (some (t454 ++ [(⟨13,0,0,0⟩:S36)])) else (none))) else (some (([]:List (S36)))))
set_option maxHeartbeats 8000000 in
set_option maxRecDepth 100000 in
theorem spec_CodeOf.calls (k:Nat) (A0:Option Addr) (c0:Nat) (l0:List (S62)) (r:List (S36)) (w:World) (hr0:Kd.C k62 w A0 l0.length l0) (hc0:l0.length≤c0) (h:spec_CodeOf.f k l0=some r) :
  Calls Tryd.prog 29 #[.slice A0 l0.length c0] w fun e w'=>∃ v0_:Value,e=.returned (v0_)∧Kd.R k36 36 w' w.heap.size (fun _=>True) v0_ r∧Below w.heap.size w w':=by
 have hu36:=Tryd.underlying36;have HR0:=Xa.mk hr0;have HC0:=Xa.mk hc0;clear hr0 hc0;have HB:=Xa.mk (Below.refl w.heap.size w);have H:((Ue.f k l0).bind fun t453=>(if t453=true then ((Zc.f k l0 0).bind fun t454=>(if t454.length<4398046511104 then (some (t454 ++ [(⟨13,0,0,0⟩:S36)])) else (none))) else (some (([]:List (S36))))))=some r:=h;clear h;replace H:=Option.bind_eq_some_iff.mp H;obtain ⟨t453,A20,H⟩:=H;replace H:(if t453=true then ((Zc.f k l0 0).bind fun t454=>(if t454.length<4398046511104 then (some (t454 ++ [(⟨13,0,0,0⟩:S36)])) else (none))) else (some (([]:List (S36)))))=some r:=H;have A2:=Xa.mk A20;clear A20;by_cases c3:t453=true
 ·subst c3
  have H1:((Zc.f k l0 0).bind fun t454=>(if t454.length<4398046511104 then (some (t454 ++ [(⟨13,0,0,0⟩:S36)])) else (none)))=some r:=by rw [if_pos rfl] at H;exact H
  clear H;have H:=H1;clear H1;replace H:=Option.bind_eq_some_iff.mp H;obtain ⟨t454,A40,H⟩:=H;replace H:(if t454.length<4398046511104 then (some (t454 ++ [(⟨13,0,0,0⟩:S36)])) else (none))=some r:=H;have A4:=Xa.mk A40;clear A40;by_cases c5:t454.length<4398046511104
  ·rw [if_pos c5] at H;have LMc5:=Xa.mk c5;clear c5;obtain ⟨y457,hy457⟩:∃ y_:List (S36),y_=(t454 ++ [(⟨13,0,0,0⟩:S36)]):=⟨_,rfl⟩
   replace H:(some y457)=some r:=by subst hy457;first|with_reducible exact H|(have z:=(Option.bind_some _ _).symm.trans H;with_reducible exact z)|exact H
   have Ny457:=Xa.mk hy457;clear hy457;obtain rfl:=Option.some.inj H
   go_enter Tryd.func29,Tryd.ntmps29
   go_wp2_with (first|((with_reducible refine Xj (f:=46) rfl ?_);refine Yu (some 4) rfl rfl Tryd.func46 (by kernel_rfl) rfl #[.slice A0 l0.length c0] rfl ga_ ?_;(with_reducible refine (Ue.calls k _ _ l0 true _ ?side1 ?side2 A2.out).mono ?_);(case side1=>repeat (first|exact HR0.out|(with_reducible refine Kd.Yc ?_ _)|(with_reducible refine Kd.Yd ?_ _)|(with_reducible refine Kd.Yo ?_)));(case side2=>exact HC0.out);rintro e w6 ⟨rfl,hb⟩;refine ⟨_,rfl,?_⟩;have n0_:=Xa.mk (Xc (bl_ HB) hb);clear HB;have HB:=n0_;clear n0_;(try clear hb);(try clear hb2);(try clear hk);(try clear hi))|((with_reducible refine Xj (f:=47) rfl ?_);refine Yu (some 8) rfl rfl Tryd.func47 (by kernel_rfl) rfl #[.slice A0 l0.length c0,.int .i64 0] rfl ga_ ?_;(with_reducible refine (Zc.calls k _ _ l0 0 t454 _ ?side1 ?side2 A4.out).mono ?_);(case side1=>repeat (first|exact (Kd.Zl HR0.out HB.out)|(with_reducible refine Kd.Yc ?_ _)|(with_reducible refine Kd.Yd ?_ _)|(with_reducible refine Kd.Yo ?_)));(case side2=>exact HC0.out);rintro e w7 ⟨v455,rfl,ho0,hb⟩;refine ⟨_,rfl,?_⟩;have n0_:=Xa.mk (Kd.Ye ho0 (Xd (bl_ HB)));have n1_:=Xa.mk (Xc (bl_ HB) hb);clear HB;have HO456:=n0_;have HB:=n1_;clear n0_ n1_;(try clear hb);(try clear hb2);(try clear hk);(try clear hi);(try clear ho0))|((with_reducible refine Zi (b:=.append) (xs:=#[.tmp 8,.tmp 10]) rfl ?_);at_builtin;refine Kd.R_append k36 (w0:=w) w.heap.size rfl (.tmp 8) (.tmp 10) 25 36 (.agg #[(.int .i64 0),(.int .i64 0),(.int .i64 0),(.int .i64 0)]) 32 rfl Tryd.underlying25 info36 rfl (by decide) (by omega) v455 t454 (⟨13,0,0,0⟩:S36) [.int .i64 13,.int .i64 0,.int .i64 0,.int .i64 0] (fun _=>True) (fun _=>False) rfl rfl ?aP (fun _ hk=>hk.elim) ?aF ?aO ?aB ?aS ?aL ?_;(case aP=>exact k36_mkM _ _ _ (⟨13,0,0,0⟩:S36));(case aB=>exact (bl_ HB));(case aF=>exact (fun _ _=>trivial));(case aO=>exact (Kd.ra_ (HO456.out)));(case aS=>exact (Xd (bl_ HB)));(case aL=>have:=LMc5.out;omega);intro v458 w8 ho hb hg hat;rw [← Ny457.out] at ho;have n0_:=Xa.mk (hb);have n1_:=Xa.mk (ho);clear HB;clear HO456;have HB:=n0_;have HO459:=n1_;clear n0_ n1_;clear ho hb hg hat))
   go_ret
   exact ⟨_,rf_,Kd.ra_ (HO459.out),bl_ HB⟩
  ·rw [if_neg c5] at H;exact absurd H (by simp)
 ·replace c3:=Bool.eq_false_iff.mpr c3;subst c3
  have H1:(some (([]:List (S36))))=some r:=by rw [if_neg (show ¬ (false=true) by decide)] at H;exact H
  clear H;have H:=H1;clear H1;obtain ⟨y460,hy460⟩:∃ y_:List (S36),y_=(([]:List (S36))):=⟨_,rfl⟩
  replace H:(some y460)=some r:=by subst hy460;first|with_reducible exact H|(have z:=(Option.bind_some _ _).symm.trans H;with_reducible exact z)|exact H
  have Ny460:=Xa.mk hy460;clear hy460;obtain rfl:=Option.some.inj H
  go_enter Tryd.func29,Tryd.ntmps29
  go_wp2_with (first|((with_reducible refine Xj (f:=46) rfl ?_);refine Yu (some 4) rfl rfl Tryd.func46 (by kernel_rfl) rfl #[.slice A0 l0.length c0] rfl ga_ ?_;(with_reducible refine (Ue.calls k _ _ l0 false _ ?side1 ?side2 A2.out).mono ?_);(case side1=>repeat (first|exact HR0.out|(with_reducible refine Kd.Yc ?_ _)|(with_reducible refine Kd.Yd ?_ _)|(with_reducible refine Kd.Yo ?_)));(case side2=>exact HC0.out);rintro e w9 ⟨rfl,hb⟩;refine ⟨_,rfl,?_⟩;have n0_:=Xa.mk (Xc (bl_ HB) hb);clear HB;have HB:=n0_;clear n0_;(try clear hb);(try clear hb2);(try clear hk);(try clear hi))|((with_reducible refine Xq (N:=6) rfl ?_);refine Kd.Ug k36 _ 36 ?hg (N:=6) ?hd (xs:=([]:List (S36))) (inner:=[]) (ok:=fun _=>True) (okp:=fun _=>True) ?hr ?hp (fun _ hk=>hk) trivial (Below.refl _ _) (Nat.le_refl _) (by simp) ?_;(case hd=>rfl);(case hg=>rfl);(case hr=>first|(go_simp;done)|(go_simp;rfl));(case hp=>exact (Xl.none _ _));intro v461 w10 ho11 hb hg_ hnew_;clear hg_ hnew_;(first|rw [← Ny460.out] at ho11|(simp only [Int.reduceToNat] at ho11;rw [← Ny460.out] at ho11));have n0_:=Xa.mk (Kd.Ye ho11 (Xd (bl_ HB)));have n1_:=Xa.mk (Xc (bl_ HB) hb);clear HB;have HO462:=n0_;have HB:=n1_;clear n0_ n1_;clear hb ho11))
  go_ret
  exact ⟨_,rf_,Kd.ra_ (HO462.out),bl_ HB⟩
end Go.Proofs.YtdkcjecllbdljaaDoor.GCode
