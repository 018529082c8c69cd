import Derived.Test.YtdkcjecllbdljaaCFnSlim21
import Derived.Test.YtdkcjecllbdljaaCFnSlim27
import Derived.Test.YtdkcjecllbdljaaCFnSlim28
namespace Go.Proofs.Ytdkcjecllbdljaa.GSlim
open Go.RowKit Go.Proofs.YtdkcjecllbdljaaW.PrintWords Go.Proofs.YtdkcjecllbdljaaW.PrintLast Go.Proofs.YtdkcjecllbdljaaW.PrintMore
attribute [local go_sem] Zv Zx Un Uo Zm Zn Zw Zy
set_option linter.unusedVariables false
set_option linter.unusedSimpArgs false
def spec_CodeOf.f (k:Nat) (l0:List (S51)):Option ((List (S31))):=(Vd.f k l0).bind fun t304=>(if t304=true then ((Zg.f k l0 0).bind fun t305=>(if t305.length<4398046511104 then (some (t305 ++ [(⟨13,0,0,0⟩:S31)])) else (none))) else (some (([]:List (S31)))))
set_option maxHeartbeats 8000000 in
set_option maxRecDepth 100000 in
theorem spec_CodeOf.calls (k:Nat) (A0:Option Addr) (c0:Nat) (l0:List (S51)) (r:List (S31)) (w:World) (hr0:Kd.C k51 w A0 l0.length l0) (hc0:l0.length≤c0) (h:spec_CodeOf.f k l0=some r) :
  Calls Try.prog 34 #[.slice A0 l0.length c0] w fun e w'=>∃ v0_:Value,e=.returned (v0_)∧Kd.R k31 31 w' w.heap.size (fun _=>True) v0_ r∧Below w.heap.size w w':=by
 have hu31:=Try.underlying31;have HR0:=Xa.mk hr0;have HC0:=Xa.mk hc0;clear hr0 hc0;have HB:=Xa.mk (Below.refl w.heap.size w);have H:((Vd.f k l0).bind fun t304=>(if t304=true then ((Zg.f k l0 0).bind fun t305=>(if t305.length<4398046511104 then (some (t305 ++ [(⟨13,0,0,0⟩:S31)])) else (none))) else (some (([]:List (S31))))))=some r:=h;clear h;replace H:=Option.bind_eq_some_iff.mp H;obtain ⟨t304,A20,H⟩:=H;replace H:(if t304=true then ((Zg.f k l0 0).bind fun t305=>(if t305.length<4398046511104 then (some (t305 ++ [(⟨13,0,0,0⟩:S31)])) else (none))) else (some (([]:List (S31)))))=some r:=H;have A2:=Xa.mk A20;clear A20;by_cases c3:t304=true
 ·subst c3
  have H1:((Zg.f k l0 0).bind fun t305=>(if t305.length<4398046511104 then (some (t305 ++ [(⟨13,0,0,0⟩:S31)])) else (none)))=some r:=by rw [if_pos rfl] at H;exact H
  clear H;have H:=H1;clear H1;replace H:=Option.bind_eq_some_iff.mp H;obtain ⟨t305,A40,H⟩:=H;replace H:(if t305.length<4398046511104 then (some (t305 ++ [(⟨13,0,0,0⟩:S31)])) else (none))=some r:=H;have A4:=Xa.mk A40;clear A40;by_cases c5:t305.length<4398046511104
  ·rw [if_pos c5] at H;have LMc5:=Xa.mk c5;clear c5;obtain ⟨y308,hy308⟩:∃ y_:List (S31),y_=(t305 ++ [(⟨13,0,0,0⟩:S31)]):=⟨_,rfl⟩
   replace H:(some y308)=some r:=by subst hy308;first|with_reducible exact H|(have z:=(Option.bind_some _ _).symm.trans H;with_reducible exact z)|exact H
   have Ny308:=Xa.mk hy308;clear hy308;obtain rfl:=Option.some.inj H
   go_enter Try.func34,Try.ntmps34
   go_wp2_with (first|((with_reducible refine Xf (f:=53) rfl ?_);refine Yf (some 4) rfl rfl Try.func53 (by kernel_rfl) rfl #[.slice A0 l0.length c0] rfl ga_ ?_;(with_reducible refine (Vd.calls k _ _ l0 true _ ?side1 ?side2 A2.out).mono ?_);(case side1=>repeat (first|exact HR0.out|(with_reducible refine Kd.Xq ?_ _)|(with_reducible refine Kd.Xr ?_ _)|(with_reducible refine Kd.Yc ?_)));(case side2=>exact HC0.out);rintro e w6 ⟨rfl,hb⟩;refine ⟨_,rfl,?_⟩;have n0_:=Xa.mk (Xd (bl_ HB) hb);clear HB;have HB:=n0_;clear n0_;(try clear hb);(try clear hb2);(try clear hk);(try clear hi))|((with_reducible refine Xf (f:=54) rfl ?_);refine Yf (some 8) rfl rfl Try.func54 (by kernel_rfl) rfl #[.slice A0 l0.length c0,.int .i64 0] rfl ga_ ?_;(with_reducible refine (Zg.calls k _ _ l0 0 t305 _ ?side1 ?side2 A4.out).mono ?_);(case side1=>repeat (first|exact (Kd.Zi HR0.out HB.out)|(with_reducible refine Kd.Xq ?_ _)|(with_reducible refine Kd.Xr ?_ _)|(with_reducible refine Kd.Yc ?_)));(case side2=>exact HC0.out);rintro e w7 ⟨v306,rfl,ho0,hb⟩;refine ⟨_,rfl,?_⟩;have n0_:=Xa.mk (Kd.Yg ho0 (Xc (bl_ HB)));have n1_:=Xa.mk (Xd (bl_ HB) hb);clear HB;have HO307:=n0_;have HB:=n1_;clear n0_ n1_;(try clear hb);(try clear hb2);(try clear hk);(try clear hi);(try clear ho0))|((with_reducible refine Yp (b:=.append) (xs:=#[.tmp 8,.tmp 10]) rfl ?_);at_builtin;refine Kd.Vo k31 (w0:=w) w.heap.size rfl (.tmp 8) (.tmp 10) 23 31 (.agg #[(.int .i64 0),(.int .i64 0),(.int .i64 0),(.int .i64 0)]) 32 rfl Try.underlying23 Vf rfl (by decide) (by omega) v306 t305 (⟨13,0,0,0⟩:S31) [.int .i64 13,.int .i64 0,.int .i64 0,.int .i64 0] (fun _=>True) (fun _=>False) rfl rfl ?aP (fun _ hk=>hk.elim) ?aF ?aO ?aB ?aS ?aL ?_;(case aP=>exact Us _ _ _ (⟨13,0,0,0⟩:S31));(case aB=>exact (bl_ HB));(case aF=>exact (fun _ _=>trivial));(case aO=>exact (Kd.ra_ (HO307.out)));(case aS=>exact (Xc (bl_ HB)));(case aL=>have:=LMc5.out;omega);intro v309 w8 ho hb hg hat;rw [← Ny308.out] at ho;have n0_:=Xa.mk (hb);have n1_:=Xa.mk (ho);clear HB;clear HO307;have HB:=n0_;have HO310:=n1_;clear n0_ n1_;clear ho hb hg hat))
   go_ret
   exact ⟨_,rf_,Kd.ra_ (HO310.out),bl_ HB⟩
  ·rw [if_neg c5] at H;exact absurd H (by simp)
 ·replace c3:=Bool.eq_false_iff.mpr c3;subst c3
  have H1:(some (([]:List (S31))))=some r:=by rw [if_neg (show ¬ (false=true) by decide)] at H;exact H
  clear H;have H:=H1;clear H1;obtain ⟨y311,hy311⟩:∃ y_:List (S31),y_=(([]:List (S31))):=⟨_,rfl⟩
  replace H:(some y311)=some r:=by subst hy311;first|with_reducible exact H|(have z:=(Option.bind_some _ _).symm.trans H;with_reducible exact z)|exact H
  have Ny311:=Xa.mk hy311;clear hy311;obtain rfl:=Option.some.inj H
  go_enter Try.func34,Try.ntmps34
  go_wp2_with (first|((with_reducible refine Xf (f:=53) rfl ?_);refine Yf (some 4) rfl rfl Try.func53 (by kernel_rfl) rfl #[.slice A0 l0.length c0] rfl ga_ ?_;(with_reducible refine (Vd.calls k _ _ l0 false _ ?side1 ?side2 A2.out).mono ?_);(case side1=>repeat (first|exact HR0.out|(with_reducible refine Kd.Xq ?_ _)|(with_reducible refine Kd.Xr ?_ _)|(with_reducible refine Kd.Yc ?_)));(case side2=>exact HC0.out);rintro e w9 ⟨rfl,hb⟩;refine ⟨_,rfl,?_⟩;have n0_:=Xa.mk (Xd (bl_ HB) hb);clear HB;have HB:=n0_;clear n0_;(try clear hb);(try clear hb2);(try clear hk);(try clear hi))|((with_reducible refine Xx (N:=6) rfl ?_);refine Kd.Vq k31 _ 31 ?hg (N:=6) ?hd (xs:=([]:List (S31))) (inner:=[]) (ok:=fun _=>True) (okp:=fun _=>True) ?hr ?hp (fun _ hk=>hk) trivial (Below.refl _ _) (Nat.le_refl _) (by simp) ?_;(case hd=>rfl);(case hg=>rfl);(case hr=>first|(go_simp;done)|(go_simp;rfl));(case hp=>exact (Yl.none _ _));intro v312 w10 ho11 hb hg_ hnew_;clear hg_ hnew_;(first|rw [← Ny311.out] at ho11|(simp only [Int.reduceToNat] at ho11;rw [← Ny311.out] at ho11));have n0_:=Xa.mk (Kd.Yg ho11 (Xc (bl_ HB)));have n1_:=Xa.mk (Xd (bl_ HB) hb);clear HB;have HO313:=n0_;have HB:=n1_;clear n0_ n1_;clear hb ho11))
  go_ret
  exact ⟨_,rf_,Kd.ra_ (HO313.out),bl_ HB⟩
end Go.Proofs.Ytdkcjecllbdljaa.GSlim
