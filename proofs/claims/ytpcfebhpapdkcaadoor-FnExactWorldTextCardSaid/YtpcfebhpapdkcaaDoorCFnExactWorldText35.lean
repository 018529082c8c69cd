import Derived.Test.YtpcfebhpapdkcaaDoorCFnExactWorldText22
import Derived.Test.YtpcfebhpapdkcaaDoorCFnExactWorldText33
import Derived.Test.YtpcfebhpapdkcaaDoorCFnExactWorldText34
namespace Go.Proofs.YtpcfebhpapdkcaaDoor.GWorld
open Go.RowKit Go.Proofs.YtpcfebhpapdkcaaDoorW.PrintWords Go.Proofs.YtpcfebhpapdkcaaDoorW.PrintLast Go.Proofs.YtpcfebhpapdkcaaDoorW.PrintMore
attribute [local go_sem] max2_int min2_int max_two min_two Uc Ud max_four min_four
set_option linter.unusedVariables false
set_option linter.unusedSimpArgs false
def laws_eqProc.f (k:Nat) (l0_0:List Int) (l0_1:List (S63)) (a0_2:Int) (a0_3:Int) (a0_4:Int) (l1_0:List Int) (l1_1:List (S63)) (a1_2:Int) (a1_3:Int) (a1_4:Int):Option (Bool):=(Yd.f k l0_0 l1_0).bind fun t288=>(if t288=true then ((Xz.f k l0_1 l1_1).bind fun t289=>(if t289=true then (if a0_2=a1_2 then (if a0_3=a1_3 then (if a0_4=a1_4 then (some true) else (some false)) else (some false)) else (some false)) else (some false))) else (some false))
set_option maxHeartbeats 8000000 in
set_option maxRecDepth 100000 in
theorem laws_eqProc.calls (k:Nat) (A0_0:Option Addr) (c0_0:Nat) (l0_0:List Int) (A0_1:Option Addr) (c0_1:Nat) (l0_1:List (S63)) (a0_2:Int) (a0_3:Int) (a0_4:Int) (A1_0:Option Addr) (c1_0:Nat) (l1_0:List Int) (A1_1:Option Addr) (c1_1:Nat) (l1_1:List (S63)) (a1_2:Int) (a1_3:Int) (a1_4:Int) (r:Bool) (w:World) (hr0_0:Kd.C (Kd.int .i64) w A0_0 l0_0.length l0_0) (hc0_0:l0_0.length≤c0_0) (hr0_1:Kd.C k63 w A0_1 l0_1.length l0_1) (hc0_1:l0_1.length≤c0_1) (hr1_0:Kd.C (Kd.int .i64) w A1_0 l1_0.length l1_0) (hc1_0:l1_0.length≤c1_0) (hr1_1:Kd.C k63 w A1_1 l1_1.length l1_1) (hc1_1:l1_1.length≤c1_1) (h:laws_eqProc.f k l0_0 l0_1 a0_2 a0_3 a0_4 l1_0 l1_1 a1_2 a1_3 a1_4=some r) :
  Calls Tryd.prog 30 #[.agg #[.slice A0_0 l0_0.length c0_0,.slice A0_1 l0_1.length c0_1,.int .i64 a0_2,.int .i64 a0_3,.int .i64 a0_4],.agg #[.slice A1_0 l1_0.length c1_0,.slice A1_1 l1_1.length c1_1,.int .i64 a1_2,.int .i64 a1_3,.int .i64 a1_4]] w fun e w'=>e=.returned (.bool r)∧Below w.heap.size w w':=by
 have hu43:=Tryd.underlying43;have HR0_0:=Xa.mk hr0_0;have HC0_0:=Xa.mk hc0_0;clear hr0_0 hc0_0;have HR0_1:=Xa.mk hr0_1;have HC0_1:=Xa.mk hc0_1;clear hr0_1 hc0_1;have HR1_0:=Xa.mk hr1_0;have HC1_0:=Xa.mk hc1_0;clear hr1_0 hc1_0;have HR1_1:=Xa.mk hr1_1;have HC1_1:=Xa.mk hc1_1;clear hr1_1 hc1_1;have HB:=Xa.mk (Below.refl w.heap.size w);have H:((Yd.f k l0_0 l1_0).bind fun t288=>(if t288=true then ((Xz.f k l0_1 l1_1).bind fun t289=>(if t289=true then (if a0_2=a1_2 then (if a0_3=a1_3 then (if a0_4=a1_4 then (some true) else (some false)) else (some false)) else (some false)) else (some false))) else (some false)))=some r:=h;clear h;replace H:=Option.bind_eq_some_iff.mp H;obtain ⟨t288,A30,H⟩:=H;replace H:(if t288=true then ((Xz.f k l0_1 l1_1).bind fun t289=>(if t289=true then (if a0_2=a1_2 then (if a0_3=a1_3 then (if a0_4=a1_4 then (some true) else (some false)) else (some false)) else (some false)) else (some false))) else (some false))=some r:=H;have A3:=Xa.mk A30;clear A30;by_cases c4:t288=true
 ·subst c4
  have H1:((Xz.f k l0_1 l1_1).bind fun t289=>(if t289=true then (if a0_2=a1_2 then (if a0_3=a1_3 then (if a0_4=a1_4 then (some true) else (some false)) else (some false)) else (some false)) else (some false)))=some r:=by rw [if_pos rfl] at H;exact H
  clear H;have H:=H1;clear H1;replace H:=Option.bind_eq_some_iff.mp H;obtain ⟨t289,A50,H⟩:=H;replace H:(if t289=true then (if a0_2=a1_2 then (if a0_3=a1_3 then (if a0_4=a1_4 then (some true) else (some false)) else (some false)) else (some false)) else (some false))=some r:=H;have A5:=Xa.mk A50;clear A50;by_cases c6:t289=true
  ·subst c6
   have H1:(if a0_2=a1_2 then (if a0_3=a1_3 then (if a0_4=a1_4 then (some true) else (some false)) else (some false)) else (some false))=some r:=by rw [if_pos rfl] at H;exact H
   clear H;have H:=H1;clear H1;by_cases c7:a0_2=a1_2
   ·rw [if_pos c7] at H;have c7b0:(a0_2 == a1_2)=true:=beq_iff_eq.mpr c7;have c7b1:(a0_2 != a1_2)=false:=bne_eq_false_iff_eq.mpr c7;clear c7;by_cases c8:a0_3=a1_3
    ·rw [if_pos c8] at H;have c8b0:(a0_3 == a1_3)=true:=beq_iff_eq.mpr c8;have c8b1:(a0_3 != a1_3)=false:=bne_eq_false_iff_eq.mpr c8;clear c8;by_cases c9:a0_4=a1_4
     ·rw [if_pos c9] at H;have c9b0:(a0_4 == a1_4)=true:=beq_iff_eq.mpr c9;have c9b1:(a0_4 != a1_4)=false:=bne_eq_false_iff_eq.mpr c9;clear c9;obtain rfl:=Option.some.inj H
      go_enter Tryd.func30,Tryd.ntmps30
      go_wp2_with (first|((with_reducible refine Xy (N:=2) rfl ?_);refine Xw ?hg (N:=2) ?hd (cs:=#[.slice A0_0 l0_0.length c0_0,.slice A0_1 l0_1.length c0_1,.int .i64 a0_2,.int .i64 a0_3,.int .i64 a0_4]) (t:=43) ?hr ?_;(case hd=>rfl);(case hg=>rfl);(case hr=>first|(go_simp;done)|(go_simp;rfl));intro gb286 hg w10 hbox hb;have n0_:=Xa.mk (Xc (bl_ HB) hb);have n1_:=Xa.mk (hbox);have n2_:=Xa.mk ((by rw [hg];exact (Xb (bl_ HB)):w.heap.size≤gb286));have n3_:=Xa.mk ((by rw [hg];exact (Xb (bl_ HB)):w.heap.size≤gb286));clear HB;have HB:=n0_;have BK286:=n1_;have GW286:=n2_;have GE286:=n3_;clear n0_ n1_ n2_ n3_;clear hb hbox hg)|((with_reducible refine Xy (N:=3) rfl ?_);refine Xw ?hg (N:=3) ?hd (cs:=#[.slice A1_0 l1_0.length c1_0,.slice A1_1 l1_1.length c1_1,.int .i64 a1_2,.int .i64 a1_3,.int .i64 a1_4]) (t:=43) ?hr ?_;(case hd=>rfl);(case hg=>rfl);(case hr=>first|(go_simp;done)|(go_simp;rfl));intro gb287 hg w11 hbox hb;have n0_:=Xa.mk (Xh (g:=gb286) (o:=.cells #[.slice A0_0 l0_0.length c0_0,.slice A0_1 l0_1.length c0_1,.int .i64 a0_2,.int .i64 a0_3,.int .i64 a0_4] 43 (0,0)) (ba_ BK286) hb);have n1_:=Xa.mk (Xc (bl_ HB) hb);have n2_:=Xa.mk (hbox);have n3_:=Xa.mk ((by rw [hg];exact (Xb (bl_ HB)):w.heap.size≤gb287));have n4_:=Xa.mk ((by rw [hg];exact (Xb (bl_ HB)):w.heap.size≤gb287));have n5_:=Xa.mk ((by rw [hg];exact Nat.ne_of_lt (Ym (g:=gb286) (o:=.cells #[.slice A0_0 l0_0.length c0_0,.slice A0_1 l0_1.length c0_1,.int .i64 a0_2,.int .i64 a0_3,.int .i64 a0_4] 43 (0,0)) (ba_ BK286)):gb286≠gb287));have n6_:=Xa.mk ((by rw [hg];exact Nat.ne_of_gt (Ym (g:=gb286) (o:=.cells #[.slice A0_0 l0_0.length c0_0,.slice A0_1 l0_1.length c0_1,.int .i64 a0_2,.int .i64 a0_3,.int .i64 a0_4] 43 (0,0)) (ba_ BK286)):gb287≠gb286));clear BK286;clear HB;have BK286:=n0_;have HB:=n1_;have BK287:=n2_;have GW287:=n3_;have GE287:=n4_;have NB286_287:=n5_;have NB287_286:=n6_;clear n0_ n1_ n2_ n3_ n4_ n5_ n6_;clear hb hbox hg;have hnb12:=NB286_287.out;have hnc12:=NB287_286.out;obtain ⟨hcz13_0,hcz13_1,hcz13_2,hcz13_3,hcz13_4⟩:=Zm BK286.out;obtain ⟨hfz13_0,hfz13_1,hfz13_2,hfz13_3,hfz13_4⟩:=Zn BK286.out;obtain ⟨hcz14_0,hcz14_1,hcz14_2,hcz14_3,hcz14_4⟩:=Zm BK287.out;obtain ⟨hfz14_0,hfz14_1,hfz14_2,hfz14_3,hfz14_4⟩:=Zn BK287.out)|((with_reducible refine Xo (f:=22) rfl ?_);refine Ye (some 9) rfl rfl Tryd.func22 (by kernel_rfl) rfl #[.slice A0_0 l0_0.length c0_0,.slice A1_0 l1_0.length c1_0] rfl ga_ ?_;(with_reducible refine (Yd.calls k _ _ l0_0 _ _ l1_0 true _ ?side1 ?side2 ?side3 ?side4 A3.out).mono ?_);(case side1=>repeat (first|exact (Kd.Xl HR0_0.out HB.out)|(with_reducible refine Kd.Xe ?_ _)|(with_reducible refine Kd.Xf ?_ _)|(with_reducible refine Kd.Xn ?_)));(case side2=>exact HC0_0.out);(case side3=>repeat (first|exact (Kd.Xl HR1_0.out HB.out)|(with_reducible refine Kd.Xe ?_ _)|(with_reducible refine Kd.Xf ?_ _)|(with_reducible refine Kd.Xn ?_)));(case side4=>exact HC1_0.out);rintro e w' ⟨rfl,⟨nd,rfl⟩⟩;refine ⟨_,rfl,?_⟩)|((with_reducible refine Xo (f:=36) rfl ?_);refine Ye (some 15) rfl rfl Tryd.func36 (by kernel_rfl) rfl #[.slice A0_1 l0_1.length c0_1,.slice A1_1 l1_1.length c1_1] rfl ga_ ?_;(with_reducible refine (Xz.calls k _ _ l0_1 _ _ l1_1 true _ ?side1 ?side2 ?side3 ?side4 A5.out).mono ?_);(case side1=>repeat (first|exact (Kd.Xl HR0_1.out (bl_ HB))|(with_reducible refine Kd.Xe ?_ _)|(with_reducible refine Kd.Xf ?_ _)|(with_reducible refine Kd.Xn ?_)));(case side2=>exact HC0_1.out);(case side3=>repeat (first|exact (Kd.Xl HR1_1.out (bl_ HB))|(with_reducible refine Kd.Xe ?_ _)|(with_reducible refine Kd.Xf ?_ _)|(with_reducible refine Kd.Xn ?_)));(case side4=>exact HC1_1.out);rintro e w15 ⟨rfl,hb⟩;refine ⟨_,rfl,?_⟩;have n0_:=Xa.mk (Xh (g:=gb286) (o:=.cells #[.slice A0_0 l0_0.length c0_0,.slice A0_1 l0_1.length c0_1,.int .i64 a0_2,.int .i64 a0_3,.int .i64 a0_4] 43 (0,0)) (ba_ BK286) hb);have n1_:=Xa.mk (Xh (g:=gb287) (o:=.cells #[.slice A1_0 l1_0.length c1_0,.slice A1_1 l1_1.length c1_1,.int .i64 a1_2,.int .i64 a1_3,.int .i64 a1_4] 43 (0,0)) (ba_ BK287) hb);have n2_:=Xa.mk (Xc (bl_ HB) hb);clear BK286;clear BK287;clear HB;have BK286:=n0_;have BK287:=n1_;have HB:=n2_;clear n0_ n1_ n2_;(try clear hb);(try clear hb2);(try clear hk);(try clear hi);obtain ⟨hcz16_0,hcz16_1,hcz16_2,hcz16_3,hcz16_4⟩:=Zm BK286.out;obtain ⟨hfz16_0,hfz16_1,hfz16_2,hfz16_3,hfz16_4⟩:=Zn BK286.out;obtain ⟨hcz17_0,hcz17_1,hcz17_2,hcz17_3,hcz17_4⟩:=Zm BK287.out;obtain ⟨hfz17_0,hfz17_1,hfz17_2,hfz17_3,hfz17_4⟩:=Zn BK287.out))
      go_ret
      exact ⟨rf_,bl_ HB⟩
     ·rw [if_neg c9] at H;have c9b0:(a0_4 == a1_4)=false:=beq_eq_false_iff_ne.mpr c9;have c9b1:(a0_4 != a1_4)=true:=bne_iff_ne.mpr c9;obtain rfl:=Option.some.inj H
      go_enter Tryd.func30,Tryd.ntmps30
      go_wp2_with (first|((with_reducible refine Xy (N:=2) rfl ?_);refine Xw ?hg (N:=2) ?hd (cs:=#[.slice A0_0 l0_0.length c0_0,.slice A0_1 l0_1.length c0_1,.int .i64 a0_2,.int .i64 a0_3,.int .i64 a0_4]) (t:=43) ?hr ?_;(case hd=>rfl);(case hg=>rfl);(case hr=>first|(go_simp;done)|(go_simp;rfl));intro gb286 hg w18 hbox hb;have n0_:=Xa.mk (Xc (bl_ HB) hb);have n1_:=Xa.mk (hbox);have n2_:=Xa.mk ((by rw [hg];exact (Xb (bl_ HB)):w.heap.size≤gb286));have n3_:=Xa.mk ((by rw [hg];exact (Xb (bl_ HB)):w.heap.size≤gb286));clear HB;have HB:=n0_;have BK286:=n1_;have GW286:=n2_;have GE286:=n3_;clear n0_ n1_ n2_ n3_;clear hb hbox hg)|((with_reducible refine Xy (N:=3) rfl ?_);refine Xw ?hg (N:=3) ?hd (cs:=#[.slice A1_0 l1_0.length c1_0,.slice A1_1 l1_1.length c1_1,.int .i64 a1_2,.int .i64 a1_3,.int .i64 a1_4]) (t:=43) ?hr ?_;(case hd=>rfl);(case hg=>rfl);(case hr=>first|(go_simp;done)|(go_simp;rfl));intro gb287 hg w19 hbox hb;have n0_:=Xa.mk (Xh (g:=gb286) (o:=.cells #[.slice A0_0 l0_0.length c0_0,.slice A0_1 l0_1.length c0_1,.int .i64 a0_2,.int .i64 a0_3,.int .i64 a0_4] 43 (0,0)) (ba_ BK286) hb);have n1_:=Xa.mk (Xc (bl_ HB) hb);have n2_:=Xa.mk (hbox);have n3_:=Xa.mk ((by rw [hg];exact (Xb (bl_ HB)):w.heap.size≤gb287));have n4_:=Xa.mk ((by rw [hg];exact (Xb (bl_ HB)):w.heap.size≤gb287));have n5_:=Xa.mk ((by rw [hg];exact Nat.ne_of_lt (Ym (g:=gb286) (o:=.cells #[.slice A0_0 l0_0.length c0_0,.slice A0_1 l0_1.length c0_1,.int .i64 a0_2,.int .i64 a0_3,.int .i64 a0_4] 43 (0,0)) (ba_ BK286)):gb286≠gb287));have n6_:=Xa.mk ((by rw [hg];exact Nat.ne_of_gt (Ym (g:=gb286) (o:=.cells #[.slice A0_0 l0_0.length c0_0,.slice A0_1 l0_1.length c0_1,.int .i64 a0_2,.int .i64 a0_3,.int .i64 a0_4] 43 (0,0)) (ba_ BK286)):gb287≠gb286));clear BK286;clear HB;have BK286:=n0_;have HB:=n1_;have BK287:=n2_;have GW287:=n3_;have GE287:=n4_;have NB286_287:=n5_;have NB287_286:=n6_;clear n0_ n1_ n2_ n3_ n4_ n5_ n6_;clear hb hbox hg;have hnb20:=NB286_287.out;have hnc20:=NB287_286.out;obtain ⟨hcz21_0,hcz21_1,hcz21_2,hcz21_3,hcz21_4⟩:=Zm BK286.out;obtain ⟨hfz21_0,hfz21_1,hfz21_2,hfz21_3,hfz21_4⟩:=Zn BK286.out;obtain ⟨hcz22_0,hcz22_1,hcz22_2,hcz22_3,hcz22_4⟩:=Zm BK287.out;obtain ⟨hfz22_0,hfz22_1,hfz22_2,hfz22_3,hfz22_4⟩:=Zn BK287.out)|((with_reducible refine Xo (f:=22) rfl ?_);refine Ye (some 9) rfl rfl Tryd.func22 (by kernel_rfl) rfl #[.slice A0_0 l0_0.length c0_0,.slice A1_0 l1_0.length c1_0] rfl ga_ ?_;(with_reducible refine (Yd.calls k _ _ l0_0 _ _ l1_0 true _ ?side1 ?side2 ?side3 ?side4 A3.out).mono ?_);(case side1=>repeat (first|exact (Kd.Xl HR0_0.out HB.out)|(with_reducible refine Kd.Xe ?_ _)|(with_reducible refine Kd.Xf ?_ _)|(with_reducible refine Kd.Xn ?_)));(case side2=>exact HC0_0.out);(case side3=>repeat (first|exact (Kd.Xl HR1_0.out HB.out)|(with_reducible refine Kd.Xe ?_ _)|(with_reducible refine Kd.Xf ?_ _)|(with_reducible refine Kd.Xn ?_)));(case side4=>exact HC1_0.out);rintro e w' ⟨rfl,⟨nd,rfl⟩⟩;refine ⟨_,rfl,?_⟩)|((with_reducible refine Xo (f:=36) rfl ?_);refine Ye (some 15) rfl rfl Tryd.func36 (by kernel_rfl) rfl #[.slice A0_1 l0_1.length c0_1,.slice A1_1 l1_1.length c1_1] rfl ga_ ?_;(with_reducible refine (Xz.calls k _ _ l0_1 _ _ l1_1 true _ ?side1 ?side2 ?side3 ?side4 A5.out).mono ?_);(case side1=>repeat (first|exact (Kd.Xl HR0_1.out (bl_ HB))|(with_reducible refine Kd.Xe ?_ _)|(with_reducible refine Kd.Xf ?_ _)|(with_reducible refine Kd.Xn ?_)));(case side2=>exact HC0_1.out);(case side3=>repeat (first|exact (Kd.Xl HR1_1.out (bl_ HB))|(with_reducible refine Kd.Xe ?_ _)|(with_reducible refine Kd.Xf ?_ _)|(with_reducible refine Kd.Xn ?_)));(case side4=>exact HC1_1.out);rintro e w23 ⟨rfl,hb⟩;refine ⟨_,rfl,?_⟩;have n0_:=Xa.mk (Xh (g:=gb286) (o:=.cells #[.slice A0_0 l0_0.length c0_0,.slice A0_1 l0_1.length c0_1,.int .i64 a0_2,.int .i64 a0_3,.int .i64 a0_4] 43 (0,0)) (ba_ BK286) hb);have n1_:=Xa.mk (Xh (g:=gb287) (o:=.cells #[.slice A1_0 l1_0.length c1_0,.slice A1_1 l1_1.length c1_1,.int .i64 a1_2,.int .i64 a1_3,.int .i64 a1_4] 43 (0,0)) (ba_ BK287) hb);have n2_:=Xa.mk (Xc (bl_ HB) hb);clear BK286;clear BK287;clear HB;have BK286:=n0_;have BK287:=n1_;have HB:=n2_;clear n0_ n1_ n2_;(try clear hb);(try clear hb2);(try clear hk);(try clear hi);obtain ⟨hcz24_0,hcz24_1,hcz24_2,hcz24_3,hcz24_4⟩:=Zm BK286.out;obtain ⟨hfz24_0,hfz24_1,hfz24_2,hfz24_3,hfz24_4⟩:=Zn BK286.out;obtain ⟨hcz25_0,hcz25_1,hcz25_2,hcz25_3,hcz25_4⟩:=Zm BK287.out;obtain ⟨hfz25_0,hfz25_1,hfz25_2,hfz25_3,hfz25_4⟩:=Zn BK287.out))
      go_ret
      exact ⟨rf_,bl_ HB⟩
    ·rw [if_neg c8] at H;have c8b0:(a0_3 == a1_3)=false:=beq_eq_false_iff_ne.mpr c8;have c8b1:(a0_3 != a1_3)=true:=bne_iff_ne.mpr c8;obtain rfl:=Option.some.inj H
     go_enter Tryd.func30,Tryd.ntmps30
     go_wp2_with (first|((with_reducible refine Xy (N:=2) rfl ?_);refine Xw ?hg (N:=2) ?hd (cs:=#[.slice A0_0 l0_0.length c0_0,.slice A0_1 l0_1.length c0_1,.int .i64 a0_2,.int .i64 a0_3,.int .i64 a0_4]) (t:=43) ?hr ?_;(case hd=>rfl);(case hg=>rfl);(case hr=>first|(go_simp;done)|(go_simp;rfl));intro gb286 hg w26 hbox hb;have n0_:=Xa.mk (Xc (bl_ HB) hb);have n1_:=Xa.mk (hbox);have n2_:=Xa.mk ((by rw [hg];exact (Xb (bl_ HB)):w.heap.size≤gb286));have n3_:=Xa.mk ((by rw [hg];exact (Xb (bl_ HB)):w.heap.size≤gb286));clear HB;have HB:=n0_;have BK286:=n1_;have GW286:=n2_;have GE286:=n3_;clear n0_ n1_ n2_ n3_;clear hb hbox hg)|((with_reducible refine Xy (N:=3) rfl ?_);refine Xw ?hg (N:=3) ?hd (cs:=#[.slice A1_0 l1_0.length c1_0,.slice A1_1 l1_1.length c1_1,.int .i64 a1_2,.int .i64 a1_3,.int .i64 a1_4]) (t:=43) ?hr ?_;(case hd=>rfl);(case hg=>rfl);(case hr=>first|(go_simp;done)|(go_simp;rfl));intro gb287 hg w27 hbox hb;have n0_:=Xa.mk (Xh (g:=gb286) (o:=.cells #[.slice A0_0 l0_0.length c0_0,.slice A0_1 l0_1.length c0_1,.int .i64 a0_2,.int .i64 a0_3,.int .i64 a0_4] 43 (0,0)) (ba_ BK286) hb);have n1_:=Xa.mk (Xc (bl_ HB) hb);have n2_:=Xa.mk (hbox);have n3_:=Xa.mk ((by rw [hg];exact (Xb (bl_ HB)):w.heap.size≤gb287));have n4_:=Xa.mk ((by rw [hg];exact (Xb (bl_ HB)):w.heap.size≤gb287));have n5_:=Xa.mk ((by rw [hg];exact Nat.ne_of_lt (Ym (g:=gb286) (o:=.cells #[.slice A0_0 l0_0.length c0_0,.slice A0_1 l0_1.length c0_1,.int .i64 a0_2,.int .i64 a0_3,.int .i64 a0_4] 43 (0,0)) (ba_ BK286)):gb286≠gb287));have n6_:=Xa.mk ((by rw [hg];exact Nat.ne_of_gt (Ym (g:=gb286) (o:=.cells #[.slice A0_0 l0_0.length c0_0,.slice A0_1 l0_1.length c0_1,.int .i64 a0_2,.int .i64 a0_3,.int .i64 a0_4] 43 (0,0)) (ba_ BK286)):gb287≠gb286));clear BK286;clear HB;have BK286:=n0_;have HB:=n1_;have BK287:=n2_;have GW287:=n3_;have GE287:=n4_;have NB286_287:=n5_;have NB287_286:=n6_;clear n0_ n1_ n2_ n3_ n4_ n5_ n6_;clear hb hbox hg;have hnb28:=NB286_287.out;have hnc28:=NB287_286.out;obtain ⟨hcz29_0,hcz29_1,hcz29_2,hcz29_3,hcz29_4⟩:=Zm BK286.out;obtain ⟨hfz29_0,hfz29_1,hfz29_2,hfz29_3,hfz29_4⟩:=Zn BK286.out;obtain ⟨hcz30_0,hcz30_1,hcz30_2,hcz30_3,hcz30_4⟩:=Zm BK287.out;obtain ⟨hfz30_0,hfz30_1,hfz30_2,hfz30_3,hfz30_4⟩:=Zn BK287.out)|((with_reducible refine Xo (f:=22) rfl ?_);refine Ye (some 9) rfl rfl Tryd.func22 (by kernel_rfl) rfl #[.slice A0_0 l0_0.length c0_0,.slice A1_0 l1_0.length c1_0] rfl ga_ ?_;(with_reducible refine (Yd.calls k _ _ l0_0 _ _ l1_0 true _ ?side1 ?side2 ?side3 ?side4 A3.out).mono ?_);(case side1=>repeat (first|exact (Kd.Xl HR0_0.out HB.out)|(with_reducible refine Kd.Xe ?_ _)|(with_reducible refine Kd.Xf ?_ _)|(with_reducible refine Kd.Xn ?_)));(case side2=>exact HC0_0.out);(case side3=>repeat (first|exact (Kd.Xl HR1_0.out HB.out)|(with_reducible refine Kd.Xe ?_ _)|(with_reducible refine Kd.Xf ?_ _)|(with_reducible refine Kd.Xn ?_)));(case side4=>exact HC1_0.out);rintro e w' ⟨rfl,⟨nd,rfl⟩⟩;refine ⟨_,rfl,?_⟩)|((with_reducible refine Xo (f:=36) rfl ?_);refine Ye (some 15) rfl rfl Tryd.func36 (by kernel_rfl) rfl #[.slice A0_1 l0_1.length c0_1,.slice A1_1 l1_1.length c1_1] rfl ga_ ?_;(with_reducible refine (Xz.calls k _ _ l0_1 _ _ l1_1 true _ ?side1 ?side2 ?side3 ?side4 A5.out).mono ?_);(case side1=>repeat (first|exact (Kd.Xl HR0_1.out (bl_ HB))|(with_reducible refine Kd.Xe ?_ _)|(with_reducible refine Kd.Xf ?_ _)|(with_reducible refine Kd.Xn ?_)));(case side2=>exact HC0_1.out);(case side3=>repeat (first|exact (Kd.Xl HR1_1.out (bl_ HB))|(with_reducible refine Kd.Xe ?_ _)|(with_reducible refine Kd.Xf ?_ _)|(with_reducible refine Kd.Xn ?_)));(case side4=>exact HC1_1.out);rintro e w31 ⟨rfl,hb⟩;refine ⟨_,rfl,?_⟩;have n0_:=Xa.mk (Xh (g:=gb286) (o:=.cells #[.slice A0_0 l0_0.length c0_0,.slice A0_1 l0_1.length c0_1,.int .i64 a0_2,.int .i64 a0_3,.int .i64 a0_4] 43 (0,0)) (ba_ BK286) hb);have n1_:=Xa.mk (Xh (g:=gb287) (o:=.cells #[.slice A1_0 l1_0.length c1_0,.slice A1_1 l1_1.length c1_1,.int .i64 a1_2,.int .i64 a1_3,.int .i64 a1_4] 43 (0,0)) (ba_ BK287) hb);have n2_:=Xa.mk (Xc (bl_ HB) hb);clear BK286;clear BK287;clear HB;have BK286:=n0_;have BK287:=n1_;have HB:=n2_;clear n0_ n1_ n2_;(try clear hb);(try clear hb2);(try clear hk);(try clear hi);obtain ⟨hcz32_0,hcz32_1,hcz32_2,hcz32_3,hcz32_4⟩:=Zm BK286.out;obtain ⟨hfz32_0,hfz32_1,hfz32_2,hfz32_3,hfz32_4⟩:=Zn BK286.out;obtain ⟨hcz33_0,hcz33_1,hcz33_2,hcz33_3,hcz33_4⟩:=Zm BK287.out;obtain ⟨hfz33_0,hfz33_1,hfz33_2,hfz33_3,hfz33_4⟩:=Zn BK287.out))
     go_ret
     exact ⟨rf_,bl_ HB⟩
   ·rw [if_neg c7] at H;have c7b0:(a0_2 == a1_2)=false:=beq_eq_false_iff_ne.mpr c7;have c7b1:(a0_2 != a1_2)=true:=bne_iff_ne.mpr c7;obtain rfl:=Option.some.inj H
    go_enter Tryd.func30,Tryd.ntmps30
    go_wp2_with (first|((with_reducible refine Xy (N:=2) rfl ?_);refine Xw ?hg (N:=2) ?hd (cs:=#[.slice A0_0 l0_0.length c0_0,.slice A0_1 l0_1.length c0_1,.int .i64 a0_2,.int .i64 a0_3,.int .i64 a0_4]) (t:=43) ?hr ?_;(case hd=>rfl);(case hg=>rfl);(case hr=>first|(go_simp;done)|(go_simp;rfl));intro gb286 hg w34 hbox hb;have n0_:=Xa.mk (Xc (bl_ HB) hb);have n1_:=Xa.mk (hbox);have n2_:=Xa.mk ((by rw [hg];exact (Xb (bl_ HB)):w.heap.size≤gb286));have n3_:=Xa.mk ((by rw [hg];exact (Xb (bl_ HB)):w.heap.size≤gb286));clear HB;have HB:=n0_;have BK286:=n1_;have GW286:=n2_;have GE286:=n3_;clear n0_ n1_ n2_ n3_;clear hb hbox hg)|((with_reducible refine Xy (N:=3) rfl ?_);refine Xw ?hg (N:=3) ?hd (cs:=#[.slice A1_0 l1_0.length c1_0,.slice A1_1 l1_1.length c1_1,.int .i64 a1_2,.int .i64 a1_3,.int .i64 a1_4]) (t:=43) ?hr ?_;(case hd=>rfl);(case hg=>rfl);(case hr=>first|(go_simp;done)|(go_simp;rfl));intro gb287 hg w35 hbox hb;have n0_:=Xa.mk (Xh (g:=gb286) (o:=.cells #[.slice A0_0 l0_0.length c0_0,.slice A0_1 l0_1.length c0_1,.int .i64 a0_2,.int .i64 a0_3,.int .i64 a0_4] 43 (0,0)) (ba_ BK286) hb);have n1_:=Xa.mk (Xc (bl_ HB) hb);have n2_:=Xa.mk (hbox);have n3_:=Xa.mk ((by rw [hg];exact (Xb (bl_ HB)):w.heap.size≤gb287));have n4_:=Xa.mk ((by rw [hg];exact (Xb (bl_ HB)):w.heap.size≤gb287));have n5_:=Xa.mk ((by rw [hg];exact Nat.ne_of_lt (Ym (g:=gb286) (o:=.cells #[.slice A0_0 l0_0.length c0_0,.slice A0_1 l0_1.length c0_1,.int .i64 a0_2,.int .i64 a0_3,.int .i64 a0_4] 43 (0,0)) (ba_ BK286)):gb286≠gb287));have n6_:=Xa.mk ((by rw [hg];exact Nat.ne_of_gt (Ym (g:=gb286) (o:=.cells #[.slice A0_0 l0_0.length c0_0,.slice A0_1 l0_1.length c0_1,.int .i64 a0_2,.int .i64 a0_3,.int .i64 a0_4] 43 (0,0)) (ba_ BK286)):gb287≠gb286));clear BK286;clear HB;have BK286:=n0_;have HB:=n1_;have BK287:=n2_;have GW287:=n3_;have GE287:=n4_;have NB286_287:=n5_;have NB287_286:=n6_;clear n0_ n1_ n2_ n3_ n4_ n5_ n6_;clear hb hbox hg;have hnb36:=NB286_287.out;have hnc36:=NB287_286.out;obtain ⟨hcz37_0,hcz37_1,hcz37_2,hcz37_3,hcz37_4⟩:=Zm BK286.out;obtain ⟨hfz37_0,hfz37_1,hfz37_2,hfz37_3,hfz37_4⟩:=Zn BK286.out;obtain ⟨hcz38_0,hcz38_1,hcz38_2,hcz38_3,hcz38_4⟩:=Zm BK287.out;obtain ⟨hfz38_0,hfz38_1,hfz38_2,hfz38_3,hfz38_4⟩:=Zn BK287.out)|((with_reducible refine Xo (f:=22) rfl ?_);refine Ye (some 9) rfl rfl Tryd.func22 (by kernel_rfl) rfl #[.slice A0_0 l0_0.length c0_0,.slice A1_0 l1_0.length c1_0] rfl ga_ ?_;(with_reducible refine (Yd.calls k _ _ l0_0 _ _ l1_0 true _ ?side1 ?side2 ?side3 ?side4 A3.out).mono ?_);(case side1=>repeat (first|exact (Kd.Xl HR0_0.out HB.out)|(with_reducible refine Kd.Xe ?_ _)|(with_reducible refine Kd.Xf ?_ _)|(with_reducible refine Kd.Xn ?_)));(case side2=>exact HC0_0.out);(case side3=>repeat (first|exact (Kd.Xl HR1_0.out HB.out)|(with_reducible refine Kd.Xe ?_ _)|(with_reducible refine Kd.Xf ?_ _)|(with_reducible refine Kd.Xn ?_)));(case side4=>exact HC1_0.out);rintro e w' ⟨rfl,⟨nd,rfl⟩⟩;refine ⟨_,rfl,?_⟩)|((with_reducible refine Xo (f:=36) rfl ?_);refine Ye (some 15) rfl rfl Tryd.func36 (by kernel_rfl) rfl #[.slice A0_1 l0_1.length c0_1,.slice A1_1 l1_1.length c1_1] rfl ga_ ?_;(with_reducible refine (Xz.calls k _ _ l0_1 _ _ l1_1 true _ ?side1 ?side2 ?side3 ?side4 A5.out).mono ?_);(case side1=>repeat (first|exact (Kd.Xl HR0_1.out (bl_ HB))|(with_reducible refine Kd.Xe ?_ _)|(with_reducible refine Kd.Xf ?_ _)|(with_reducible refine Kd.Xn ?_)));(case side2=>exact HC0_1.out);(case side3=>repeat (first|exact (Kd.Xl HR1_1.out (bl_ HB))|(with_reducible refine Kd.Xe ?_ _)|(with_reducible refine Kd.Xf ?_ _)|(with_reducible refine Kd.Xn ?_)));(case side4=>exact HC1_1.out);rintro e w39 ⟨rfl,hb⟩;refine ⟨_,rfl,?_⟩;have n0_:=Xa.mk (Xh (g:=gb286) (o:=.cells #[.slice A0_0 l0_0.length c0_0,.slice A0_1 l0_1.length c0_1,.int .i64 a0_2,.int .i64 a0_3,.int .i64 a0_4] 43 (0,0)) (ba_ BK286) hb);have n1_:=Xa.mk (Xh (g:=gb287) (o:=.cells #[.slice A1_0 l1_0.length c1_0,.slice A1_1 l1_1.length c1_1,.int .i64 a1_2,.int .i64 a1_3,.int .i64 a1_4] 43 (0,0)) (ba_ BK287) hb);have n2_:=Xa.mk (Xc (bl_ HB) hb);clear BK286;clear BK287;clear HB;have BK286:=n0_;have BK287:=n1_;have HB:=n2_;clear n0_ n1_ n2_;(try clear hb);(try clear hb2);(try clear hk);(try clear hi);obtain ⟨hcz40_0,hcz40_1,hcz40_2,hcz40_3,hcz40_4⟩:=Zm BK286.out;obtain ⟨hfz40_0,hfz40_1,hfz40_2,hfz40_3,hfz40_4⟩:=Zn BK286.out;obtain ⟨hcz41_0,hcz41_1,hcz41_2,hcz41_3,hcz41_4⟩:=Zm BK287.out;obtain ⟨hfz41_0,hfz41_1,hfz41_2,hfz41_3,hfz41_4⟩:=Zn BK287.out))
    go_ret
    exact ⟨rf_,bl_ HB⟩
  ·replace c6:=Bool.eq_false_iff.mpr c6;subst c6
   have H1:(some false)=some r:=by rw [if_neg (show ¬ (false=true) by decide)] at H;exact H
   clear H;have H:=H1;clear H1;obtain rfl:=Option.some.inj H
   go_enter Tryd.func30,Tryd.ntmps30
   go_wp2_with (first|((with_reducible refine Xy (N:=2) rfl ?_);refine Xw ?hg (N:=2) ?hd (cs:=#[.slice A0_0 l0_0.length c0_0,.slice A0_1 l0_1.length c0_1,.int .i64 a0_2,.int .i64 a0_3,.int .i64 a0_4]) (t:=43) ?hr ?_;(case hd=>rfl);(case hg=>rfl);(case hr=>first|(go_simp;done)|(go_simp;rfl));intro gb286 hg w42 hbox hb;have n0_:=Xa.mk (Xc (bl_ HB) hb);have n1_:=Xa.mk (hbox);have n2_:=Xa.mk ((by rw [hg];exact (Xb (bl_ HB)):w.heap.size≤gb286));have n3_:=Xa.mk ((by rw [hg];exact (Xb (bl_ HB)):w.heap.size≤gb286));clear HB;have HB:=n0_;have BK286:=n1_;have GW286:=n2_;have GE286:=n3_;clear n0_ n1_ n2_ n3_;clear hb hbox hg)|((with_reducible refine Xy (N:=3) rfl ?_);refine Xw ?hg (N:=3) ?hd (cs:=#[.slice A1_0 l1_0.length c1_0,.slice A1_1 l1_1.length c1_1,.int .i64 a1_2,.int .i64 a1_3,.int .i64 a1_4]) (t:=43) ?hr ?_;(case hd=>rfl);(case hg=>rfl);(case hr=>first|(go_simp;done)|(go_simp;rfl));intro gb287 hg w43 hbox hb;have n0_:=Xa.mk (Xh (g:=gb286) (o:=.cells #[.slice A0_0 l0_0.length c0_0,.slice A0_1 l0_1.length c0_1,.int .i64 a0_2,.int .i64 a0_3,.int .i64 a0_4] 43 (0,0)) (ba_ BK286) hb);have n1_:=Xa.mk (Xc (bl_ HB) hb);have n2_:=Xa.mk (hbox);have n3_:=Xa.mk ((by rw [hg];exact (Xb (bl_ HB)):w.heap.size≤gb287));have n4_:=Xa.mk ((by rw [hg];exact (Xb (bl_ HB)):w.heap.size≤gb287));have n5_:=Xa.mk ((by rw [hg];exact Nat.ne_of_lt (Ym (g:=gb286) (o:=.cells #[.slice A0_0 l0_0.length c0_0,.slice A0_1 l0_1.length c0_1,.int .i64 a0_2,.int .i64 a0_3,.int .i64 a0_4] 43 (0,0)) (ba_ BK286)):gb286≠gb287));have n6_:=Xa.mk ((by rw [hg];exact Nat.ne_of_gt (Ym (g:=gb286) (o:=.cells #[.slice A0_0 l0_0.length c0_0,.slice A0_1 l0_1.length c0_1,.int .i64 a0_2,.int .i64 a0_3,.int .i64 a0_4] 43 (0,0)) (ba_ BK286)):gb287≠gb286));clear BK286;clear HB;have BK286:=n0_;have HB:=n1_;have BK287:=n2_;have GW287:=n3_;have GE287:=n4_;have NB286_287:=n5_;have NB287_286:=n6_;clear n0_ n1_ n2_ n3_ n4_ n5_ n6_;clear hb hbox hg;have hnb44:=NB286_287.out;have hnc44:=NB287_286.out;obtain ⟨hcz45_0,hcz45_1,hcz45_2,hcz45_3,hcz45_4⟩:=Zm BK286.out;obtain ⟨hfz45_0,hfz45_1,hfz45_2,hfz45_3,hfz45_4⟩:=Zn BK286.out;obtain ⟨hcz46_0,hcz46_1,hcz46_2,hcz46_3,hcz46_4⟩:=Zm BK287.out;obtain ⟨hfz46_0,hfz46_1,hfz46_2,hfz46_3,hfz46_4⟩:=Zn BK287.out)|((with_reducible refine Xo (f:=22) rfl ?_);refine Ye (some 9) rfl rfl Tryd.func22 (by kernel_rfl) rfl #[.slice A0_0 l0_0.length c0_0,.slice A1_0 l1_0.length c1_0] rfl ga_ ?_;(with_reducible refine (Yd.calls k _ _ l0_0 _ _ l1_0 true _ ?side1 ?side2 ?side3 ?side4 A3.out).mono ?_);(case side1=>repeat (first|exact (Kd.Xl HR0_0.out HB.out)|(with_reducible refine Kd.Xe ?_ _)|(with_reducible refine Kd.Xf ?_ _)|(with_reducible refine Kd.Xn ?_)));(case side2=>exact HC0_0.out);(case side3=>repeat (first|exact (Kd.Xl HR1_0.out HB.out)|(with_reducible refine Kd.Xe ?_ _)|(with_reducible refine Kd.Xf ?_ _)|(with_reducible refine Kd.Xn ?_)));(case side4=>exact HC1_0.out);rintro e w' ⟨rfl,⟨nd,rfl⟩⟩;refine ⟨_,rfl,?_⟩)|((with_reducible refine Xo (f:=36) rfl ?_);refine Ye (some 15) rfl rfl Tryd.func36 (by kernel_rfl) rfl #[.slice A0_1 l0_1.length c0_1,.slice A1_1 l1_1.length c1_1] rfl ga_ ?_;(with_reducible refine (Xz.calls k _ _ l0_1 _ _ l1_1 false _ ?side1 ?side2 ?side3 ?side4 A5.out).mono ?_);(case side1=>repeat (first|exact (Kd.Xl HR0_1.out (bl_ HB))|(with_reducible refine Kd.Xe ?_ _)|(with_reducible refine Kd.Xf ?_ _)|(with_reducible refine Kd.Xn ?_)));(case side2=>exact HC0_1.out);(case side3=>repeat (first|exact (Kd.Xl HR1_1.out (bl_ HB))|(with_reducible refine Kd.Xe ?_ _)|(with_reducible refine Kd.Xf ?_ _)|(with_reducible refine Kd.Xn ?_)));(case side4=>exact HC1_1.out);rintro e w47 ⟨rfl,hb⟩;refine ⟨_,rfl,?_⟩;have n0_:=Xa.mk (Xh (g:=gb286) (o:=.cells #[.slice A0_0 l0_0.length c0_0,.slice A0_1 l0_1.length c0_1,.int .i64 a0_2,.int .i64 a0_3,.int .i64 a0_4] 43 (0,0)) (ba_ BK286) hb);have n1_:=Xa.mk (Xh (g:=gb287) (o:=.cells #[.slice A1_0 l1_0.length c1_0,.slice A1_1 l1_1.length c1_1,.int .i64 a1_2,.int .i64 a1_3,.int .i64 a1_4] 43 (0,0)) (ba_ BK287) hb);have n2_:=Xa.mk (Xc (bl_ HB) hb);clear BK286;clear BK287;clear HB;have BK286:=n0_;have BK287:=n1_;have HB:=n2_;clear n0_ n1_ n2_;(try clear hb);(try clear hb2);(try clear hk);(try clear hi)))
   go_ret
   exact ⟨rf_,bl_ HB⟩
 ·replace c4:=Bool.eq_false_iff.mpr c4;subst c4
  have H1:(some false)=some r:=by rw [if_neg (show ¬ (false=true) by decide)] at H;exact H
  clear H;have H:=H1;clear H1;obtain rfl:=Option.some.inj H
  go_enter Tryd.func30,Tryd.ntmps30
  go_wp2_with (first|((with_reducible refine Xy (N:=2) rfl ?_);refine Xw ?hg (N:=2) ?hd (cs:=#[.slice A0_0 l0_0.length c0_0,.slice A0_1 l0_1.length c0_1,.int .i64 a0_2,.int .i64 a0_3,.int .i64 a0_4]) (t:=43) ?hr ?_;(case hd=>rfl);(case hg=>rfl);(case hr=>first|(go_simp;done)|(go_simp;rfl));intro gb286 hg w48 hbox hb;have n0_:=Xa.mk (Xc (bl_ HB) hb);have n1_:=Xa.mk (hbox);have n2_:=Xa.mk ((by rw [hg];exact (Xb (bl_ HB)):w.heap.size≤gb286));have n3_:=Xa.mk ((by rw [hg];exact (Xb (bl_ HB)):w.heap.size≤gb286));clear HB;have HB:=n0_;have BK286:=n1_;have GW286:=n2_;have GE286:=n3_;clear n0_ n1_ n2_ n3_;clear hb hbox hg)|((with_reducible refine Xy (N:=3) rfl ?_);refine Xw ?hg (N:=3) ?hd (cs:=#[.slice A1_0 l1_0.length c1_0,.slice A1_1 l1_1.length c1_1,.int .i64 a1_2,.int .i64 a1_3,.int .i64 a1_4]) (t:=43) ?hr ?_;(case hd=>rfl);(case hg=>rfl);(case hr=>first|(go_simp;done)|(go_simp;rfl));intro gb287 hg w49 hbox hb;have n0_:=Xa.mk (Xh (g:=gb286) (o:=.cells #[.slice A0_0 l0_0.length c0_0,.slice A0_1 l0_1.length c0_1,.int .i64 a0_2,.int .i64 a0_3,.int .i64 a0_4] 43 (0,0)) (ba_ BK286) hb);have n1_:=Xa.mk (Xc (bl_ HB) hb);have n2_:=Xa.mk (hbox);have n3_:=Xa.mk ((by rw [hg];exact (Xb (bl_ HB)):w.heap.size≤gb287));have n4_:=Xa.mk ((by rw [hg];exact (Xb (bl_ HB)):w.heap.size≤gb287));have n5_:=Xa.mk ((by rw [hg];exact Nat.ne_of_lt (Ym (g:=gb286) (o:=.cells #[.slice A0_0 l0_0.length c0_0,.slice A0_1 l0_1.length c0_1,.int .i64 a0_2,.int .i64 a0_3,.int .i64 a0_4] 43 (0,0)) (ba_ BK286)):gb286≠gb287));have n6_:=Xa.mk ((by rw [hg];exact Nat.ne_of_gt (Ym (g:=gb286) (o:=.cells #[.slice A0_0 l0_0.length c0_0,.slice A0_1 l0_1.length c0_1,.int .i64 a0_2,.int .i64 a0_3,.int .i64 a0_4] 43 (0,0)) (ba_ BK286)):gb287≠gb286));clear BK286;clear HB;have BK286:=n0_;have HB:=n1_;have BK287:=n2_;have GW287:=n3_;have GE287:=n4_;have NB286_287:=n5_;have NB287_286:=n6_;clear n0_ n1_ n2_ n3_ n4_ n5_ n6_;clear hb hbox hg;have hnb50:=NB286_287.out;have hnc50:=NB287_286.out;obtain ⟨hcz51_0,hcz51_1,hcz51_2,hcz51_3,hcz51_4⟩:=Zm BK286.out;obtain ⟨hfz51_0,hfz51_1,hfz51_2,hfz51_3,hfz51_4⟩:=Zn BK286.out;obtain ⟨hcz52_0,hcz52_1,hcz52_2,hcz52_3,hcz52_4⟩:=Zm BK287.out;obtain ⟨hfz52_0,hfz52_1,hfz52_2,hfz52_3,hfz52_4⟩:=Zn BK287.out)|((with_reducible refine Xo (f:=22) rfl ?_);refine Ye (some 9) rfl rfl Tryd.func22 (by kernel_rfl) rfl #[.slice A0_0 l0_0.length c0_0,.slice A1_0 l1_0.length c1_0] rfl ga_ ?_;(with_reducible refine (Yd.calls k _ _ l0_0 _ _ l1_0 false _ ?side1 ?side2 ?side3 ?side4 A3.out).mono ?_);(case side1=>repeat (first|exact (Kd.Xl HR0_0.out HB.out)|(with_reducible refine Kd.Xe ?_ _)|(with_reducible refine Kd.Xf ?_ _)|(with_reducible refine Kd.Xn ?_)));(case side2=>exact HC0_0.out);(case side3=>repeat (first|exact (Kd.Xl HR1_0.out HB.out)|(with_reducible refine Kd.Xe ?_ _)|(with_reducible refine Kd.Xf ?_ _)|(with_reducible refine Kd.Xn ?_)));(case side4=>exact HC1_0.out);rintro e w' ⟨rfl,⟨nd,rfl⟩⟩;refine ⟨_,rfl,?_⟩))
  go_ret
  exact ⟨rf_,bl_ HB⟩
def Yi.l0:Nat→List (S43)→List (S43)→Int→Option (Bool)
 |0,_,_,_=>none
 |k+1,x0,x1,x5=>if x5<(x0.length:Int) then (if 0≤x5 then (if x5<(x1.length:Int) then ((laws_eqProc.f k ((Xm x0 x5).f0) ((Xm x0 x5).f1) ((Xm x0 x5).f2) ((Xm x0 x5).f3) ((Xm x0 x5).f4) ((Xm x1 x5).f0) ((Xm x1 x5).f1) ((Xm x1 x5).f2) ((Xm x1 x5).f3) ((Xm x1 x5).f4)).bind fun t292=>(if t292=true then (Yi.l0 k x0 x1 (wrap64 (x5+1))) else (some false))) else (none)) else (none)) else (some true)
def Yi.f (k:Nat) (l0:List (S43)) (l1:List (S43)):Option (Bool):=if (l0.length:Int)=(l1.length:Int) then (Yi.l0 k l0 l1 0) else (some false)
def Yi.T6:Bool × List (List Nat × List Nat):=(true,[([],[]),([],[]),([0,1],[0,1]),([2],[2]),([],[]),([],[]),([4,5],[4,5]),([6],[6]),([3,7],[3,7]),([8],[8])])
def Yi.B6:List Nat:=[0,0,3,7,0,0,48,112,255,511]
theorem Yi.tab6:rtab .any (opsOf Tryd.f21 6)=Yi.T6:=by kernel_rfl
theorem Yi.bits6:waitsOk Yi.T6.2 Yi.B6=true:=by kernel_rfl
set_option maxHeartbeats 8000000 in
set_option maxRecDepth 100000 in
theorem Yi.calls (k:Nat) (A0:Option Addr) (c0:Nat) (l0:List (S43)) (A1:Option Addr) (c1:Nat) (l1:List (S43)) (r:Bool) (w:World) (hr0:Kd.C k43 w A0 l0.length l0) (hc0:l0.length≤c0) (hr1:Kd.C k43 w A1 l1.length l1) (hc1:l1.length≤c1) (h:Yi.f k l0 l1=some r) :
  Calls Tryd.prog 21 #[.slice A0 l0.length c0,.slice A1 l1.length c1] w fun e w'=>e=.returned (.bool r)∧Below w.heap.size w w':=by
 have hu43:=Tryd.underlying43;have HR0:=Xa.mk hr0;have HC0:=Xa.mk hc0;clear hr0 hc0;have HR1:=Xa.mk hr1;have HC1:=Xa.mk hc1;clear hr1 hc1;have HB:=Xa.mk (Below.refl w.heap.size w);have H:(if (l0.length:Int)=(l1.length:Int) then (Yi.l0 k l0 l1 0) else (some false))=some r:=h;clear h;by_cases c3:(l0.length:Int)=(l1.length:Int)
 ·rw [if_pos c3] at H;have c3b0:((l0.length:Int) == (l1.length:Int))=true:=beq_iff_eq.mpr c3;have c3b1:((l0.length:Int) != (l1.length:Int))=false:=bne_eq_false_iff_eq.mpr c3
  have c3b2:(l0.length == l1.length)=true:=by first|simpa using c3|(simp at c3 ⊢;omega)
  clear c3;have H':=Xa.mk H;clear H
  go_enter Tryd.func21,Tryd.ntmps21
  go_wp2
  go_loopg [5] k (fun kq v5 w'=>∃ (x5_1:Int),v5=.int .i64 x5_1∧Xa (Yi.l0 kq l0 l1 x5_1=some r)∧Xa (kq≤k)∧Xa (Below w.heap.size w w'))
  case atStart=>exact ⟨(0),(by first|rfl|(simp;done)|(simp [*];done)),H',⟨Nat.le_refl _⟩,⟨bl_ HB⟩⟩
  case round=>
   clear H'
   try clear c1
   try clear c2
   try clear p2
   try clear c3
   try clear c3b0
   try clear c3b1
   try clear c3b2
   obtain ⟨x5_1,rfl,HA,HK1,HB⟩:=hrel
   cases gk with
   |zero=>exact absurd HA.out (by simp [Yi.l0])
   |succ k1=>
    have H:=HA.out;clear HA;simp only [Yi.l0] at H;by_cases c4:x5_1<(l0.length:Int)
    ·rw [if_pos c4] at H;have c4b0:decide (x5_1<(l0.length:Int))=true:=decide_eq_true c4;clear c4;by_cases c5:0≤x5_1
     ·rw [if_pos c5] at H;have c5b0:decide (0≤x5_1)=true:=decide_eq_true c5;clear c5;by_cases c6:x5_1<(l1.length:Int)
      ·rw [if_pos c6] at H;have c6b0:decide (x5_1<(l1.length:Int))=true:=decide_eq_true c6;clear c6;replace H:=Option.bind_eq_some_iff.mp H;obtain ⟨t292,A70,H⟩:=H;replace H:(if t292=true then (Yi.l0 k1 l0 l1 (wrap64 (x5_1+1))) else (some false))=some r:=H;have A7:=Xa.mk A70;clear A70;by_cases c8:t292=true
       ·subst c8
        have H1:(Yi.l0 k1 l0 l1 (wrap64 (x5_1+1)))=some r:=by rw [if_pos rfl] at H;exact H
        clear H;have H:=H1;clear H1;have H':=Xa.mk H;clear H
        try go_wp2
        have n0_:=Xa.mk (Zt HB.out);clear HB;have HB:=n0_;clear n0_;have p290:0≤(x5_1:Int):=of_decide_eq_true (by first|(with_reducible assumption)|assumption);have q290:x5_1<(l0.length:Int):=of_decide_eq_true (by first|(with_reducible assumption)|assumption);obtain ⟨ad290,A290_0,c290_0,A290_1,c290_1,e290,hx290_0,hx290_1,hx290_2,hx290_3,hx290_4,hl290_0,hi290_0,hl290_1,hi290_1⟩:=at_T43 HR0.out x5_1 p290 q290;have hw290_4:=hx290_4;have hw290_3:=hx290_3;have hw290_2:=hx290_2;have hw290_1:=hx290_1;have hw290_0:=hx290_0;cases e290
        replace hx290_0:=(HB.out.cell (World.block_lt_of_cell? w _ hx290_0)).trans hx290_0;replace hx290_1:=(HB.out.cell (World.block_lt_of_cell? w _ hx290_1)).trans hx290_1;replace hx290_2:=(HB.out.cell (World.block_lt_of_cell? w _ hx290_2)).trans hx290_2;replace hx290_3:=(HB.out.cell (World.block_lt_of_cell? w _ hx290_3)).trans hx290_3;replace hx290_4:=(HB.out.cell (World.block_lt_of_cell? w _ hx290_4)).trans hx290_4;have HR290_0:=Xa.mk hi290_0;have HC290_0:=Xa.mk hl290_0;clear hi290_0 hl290_0;have HR290_1:=Xa.mk hi290_1;have HC290_1:=Xa.mk hl290_1;clear hi290_1 hl290_1;replace p290:=eq_true p290;replace q290:=eq_true q290;have p291:0≤(x5_1:Int):=of_decide_eq_true (by first|(with_reducible assumption)|assumption);have q291:x5_1<(l1.length:Int):=of_decide_eq_true (by first|(with_reducible assumption)|assumption);obtain ⟨ad291,A291_0,c291_0,A291_1,c291_1,e291,hx291_0,hx291_1,hx291_2,hx291_3,hx291_4,hl291_0,hi291_0,hl291_1,hi291_1⟩:=at_T43 HR1.out x5_1 p291 q291;have hw291_4:=hx291_4;have hw291_3:=hx291_3;have hw291_2:=hx291_2;have hw291_1:=hx291_1;have hw291_0:=hx291_0;cases e291
        replace hx291_0:=(HB.out.cell (World.block_lt_of_cell? w _ hx291_0)).trans hx291_0;replace hx291_1:=(HB.out.cell (World.block_lt_of_cell? w _ hx291_1)).trans hx291_1;replace hx291_2:=(HB.out.cell (World.block_lt_of_cell? w _ hx291_2)).trans hx291_2;replace hx291_3:=(HB.out.cell (World.block_lt_of_cell? w _ hx291_3)).trans hx291_3;replace hx291_4:=(HB.out.cell (World.block_lt_of_cell? w _ hx291_4)).trans hx291_4;have HR291_0:=Xa.mk hi291_0;have HC291_0:=Xa.mk hl291_0;clear hi291_0 hl291_0;have HR291_1:=Xa.mk hi291_1;have HC291_1:=Xa.mk hl291_1;clear hi291_1 hl291_1;replace p291:=eq_true p291;replace q291:=eq_true q291;refine start_ (n:=10) (S:=fun w'=>w'.cell? (ad290.add ((x5_1).toNat * 5))=some (.slice A290_0 ((Xm l0 x5_1).f0).length c290_0)∧w'.cell? ⟨(ad290.add ((x5_1).toNat * 5)).block,(ad290.add ((x5_1).toNat * 5)).off+1,none⟩=some (.slice A290_1 ((Xm l0 x5_1).f1).length c290_1)∧w'.cell? ⟨(ad290.add ((x5_1).toNat * 5)).block,(ad290.add ((x5_1).toNat * 5)).off+2,none⟩=some (.int .i64 ((Xm l0 x5_1).f2))∧w'.cell? ⟨(ad290.add ((x5_1).toNat * 5)).block,(ad290.add ((x5_1).toNat * 5)).off+3,none⟩=some (.int .i64 ((Xm l0 x5_1).f3))∧w'.cell? ⟨(ad290.add ((x5_1).toNat * 5)).block,(ad290.add ((x5_1).toNat * 5)).off+4,none⟩=some (.int .i64 ((Xm l0 x5_1).f4))∧w'.cell? (ad291.add ((x5_1).toNat * 5))=some (.slice A291_0 ((Xm l1 x5_1).f0).length c291_0)∧w'.cell? ⟨(ad291.add ((x5_1).toNat * 5)).block,(ad291.add ((x5_1).toNat * 5)).off+1,none⟩=some (.slice A291_1 ((Xm l1 x5_1).f1).length c291_1)∧w'.cell? ⟨(ad291.add ((x5_1).toNat * 5)).block,(ad291.add ((x5_1).toNat * 5)).off+2,none⟩=some (.int .i64 ((Xm l1 x5_1).f2))∧w'.cell? ⟨(ad291.add ((x5_1).toNat * 5)).block,(ad291.add ((x5_1).toNat * 5)).off+3,none⟩=some (.int .i64 ((Xm l1 x5_1).f3))∧w'.cell? ⟨(ad291.add ((x5_1).toNat * 5)).block,(ad291.add ((x5_1).toNat * 5)).off+4,none⟩=some (.int .i64 ((Xm l1 x5_1).f4))) (ds:=[]) #[false,false,false,false,false,false,false,false,false,false] (by kernel_rfl) rfl rfl ⟨((HB.out.cell (World.block_lt_of_cell? w _ hw290_0)).trans hw290_0),((HB.out.cell (World.block_lt_of_cell? w _ hw290_1)).trans hw290_1),((HB.out.cell (World.block_lt_of_cell? w _ hw290_2)).trans hw290_2),((HB.out.cell (World.block_lt_of_cell? w _ hw290_3)).trans hw290_3),((HB.out.cell (World.block_lt_of_cell? w _ hw290_4)).trans hw290_4),((HB.out.cell (World.block_lt_of_cell? w _ hw291_0)).trans hw291_0),((HB.out.cell (World.block_lt_of_cell? w _ hw291_1)).trans hw291_1),((HB.out.cell (World.block_lt_of_cell? w _ hw291_2)).trans hw291_2),((HB.out.cell (World.block_lt_of_cell? w _ hw291_3)).trans hw291_3),((HB.out.cell (World.block_lt_of_cell? w _ hw291_4)).trans hw291_4)⟩ (fun hHeld=>?_);refine with_tabW Yi.tab6 Yi.bits6 (fun HT_ HW_=>?_)
        generalize wr.drew=w9 at HB HR290_0 HR290_1 HR291_0 HR291_1 hx290_0 hx290_1 hx290_2 hx290_3 hx290_4 hx291_0 hx291_1 hx291_2 hx291_3 hx291_4 hHeld ⊢
        refine Yf (i:=0) (N:=some 17) (v:=?_) (a':=?_) #[true,false,false,false,false,false,false,false,false,false] rfl rfl (Ya HT_.out (by kernel_rfl)) (fun _ _ _ h=>h) (Or.inl ⟨by rfl,?_⟩) ?_ ?_
        rotate_left
        ·intro w';go_simp
         with_reducible rfl
        rotate_left
        ·simp only [Act.put,List.setIfInBounds_toArray,List.set_cons_zero,List.set_cons_succ,Xu,Xt];rfl
        refine Yf (i:=1) (N:=some 18) (v:=?_) (a':=?_) #[true,true,false,false,false,false,false,false,false,false] rfl rfl (Ya HT_.out (by kernel_rfl)) (fun _ _ _ h=>h) (Or.inl ⟨by rfl,?_⟩) ?_ ?_
        rotate_left
        ·intro w';go_simp
         with_reducible rfl
        rotate_left
        ·simp only [Act.put,List.setIfInBounds_toArray,List.set_cons_zero,List.set_cons_succ,Xu,Xt];rfl
        refine Yf (i:=2) (N:=some 19) (v:=?_) (a':=?_) #[true,true,true,false,false,false,false,false,false,false] rfl rfl (Ya HT_.out (by kernel_rfl)) (fun _ _ _ h=>h) (Or.inl ⟨by rfl,?_⟩) ?_ ?_
        rotate_left
        ·intro w';go_simp
         with_reducible rfl
        rotate_left
        ·simp only [Act.put,List.setIfInBounds_toArray,List.set_cons_zero,List.set_cons_succ,Xu,Xt];rfl
        refine Yf (i:=4) (N:=some 21) (v:=?_) (a':=?_) #[true,true,true,false,true,false,false,false,false,false] rfl rfl (Ya HT_.out (by kernel_rfl)) (fun _ _ _ h=>h) (Or.inl ⟨by rfl,?_⟩) ?_ ?_
        rotate_left
        ·intro w';go_simp
         with_reducible rfl
        rotate_left
        ·simp only [Act.put,List.setIfInBounds_toArray,List.set_cons_zero,List.set_cons_succ,Xu,Xt];rfl
        refine Yf (i:=5) (N:=some 22) (v:=?_) (a':=?_) #[true,true,true,false,true,true,false,false,false,false] rfl rfl (Ya HT_.out (by kernel_rfl)) (fun _ _ _ h=>h) (Or.inl ⟨by rfl,?_⟩) ?_ ?_
        rotate_left
        ·intro w';go_simp
         with_reducible rfl
        rotate_left
        ·simp only [Act.put,List.setIfInBounds_toArray,List.set_cons_zero,List.set_cons_succ,Xu,Xt];rfl
        refine Yf (i:=6) (N:=some 23) (v:=?_) (a':=?_) #[true,true,true,false,true,true,true,false,false,false] rfl rfl (Ya HT_.out (by kernel_rfl)) (fun _ _ _ h=>h) (Or.inl ⟨by rfl,?_⟩) ?_ ?_
        rotate_left
        ·intro w';go_simp
         with_reducible rfl
        rotate_left
        ·simp only [Act.put,List.setIfInBounds_toArray,List.set_cons_zero,List.set_cons_succ,Xu,Xt];rfl
        refine Zw (i:=3) (N:=some 20) (v:=?_) (a':=?_) #[true,true,true,true,true,true,true,false,false,false] rfl rfl (Zb HT_.out HW_.out (by kernel_rfl)) (fun _ _ _ h=>h) (Or.inl ⟨by rfl,?_⟩) hHeld ?_ ?_
        rotate_left
        ·rintro w' ⟨s0,s1,s2,s3,s4,s5,s6,s7,s8,s9⟩
         go_simp
         with_reducible rfl
        rotate_left
        ·simp only [Act.put,List.setIfInBounds_toArray,List.set_cons_zero,List.set_cons_succ,Xu,Xt];rfl
        refine Zw (i:=7) (N:=some 24) (v:=?_) (a':=?_) #[true,true,true,true,true,true,true,true,false,false] rfl rfl (Zb HT_.out HW_.out (by kernel_rfl)) (fun _ _ _ h=>h) (Or.inl ⟨by rfl,?_⟩) hHeld ?_ ?_
        rotate_left
        ·rintro w' ⟨s0,s1,s2,s3,s4,s5,s6,s7,s8,s9⟩
         go_simp
         with_reducible rfl
        rotate_left
        ·simp only [Act.put,List.setIfInBounds_toArray,List.set_cons_zero,List.set_cons_succ,Xu,Xt];rfl
        refine one_ (i:=8) (N:=some 25) #[true,true,true,true,true,true,true,true,true,false] rfl rfl (Ue HT_.out (by kernel_rfl)) (by decide) (fun K hK=>?_)
        refine goes_ Tryd.func30 (by kernel_rfl) rfl #[.agg #[.slice A290_0 ((Xm l0 x5_1).f0).length c290_0,.slice A290_1 ((Xm l0 x5_1).f1).length c290_1,.int .i64 ((Xm l0 x5_1).f2),.int .i64 ((Xm l0 x5_1).f3),.int .i64 ((Xm l0 x5_1).f4)],.agg #[.slice A291_0 ((Xm l1 x5_1).f0).length c291_0,.slice A291_1 ((Xm l1 x5_1).f1).length c291_1,.int .i64 ((Xm l1 x5_1).f2),.int .i64 ((Xm l1 x5_1).f3),.int .i64 ((Xm l1 x5_1).f4)]] (by rfl) rfl rfl ga_ ?_
        with_reducible refine (laws_eqProc.calls k1 _ _ ((Xm l0 x5_1).f0) _ _ ((Xm l0 x5_1).f1) ((Xm l0 x5_1).f2) ((Xm l0 x5_1).f3) ((Xm l0 x5_1).f4) _ _ ((Xm l1 x5_1).f0) _ _ ((Xm l1 x5_1).f1) ((Xm l1 x5_1).f2) ((Xm l1 x5_1).f3) ((Xm l1 x5_1).f4) true _ ?side1 ?side2 ?side3 ?side4 ?side5 ?side6 ?side7 ?side8 A7.out).mono ?_
        (case side1=>repeat (first|exact (Kd.Xl HR290_0.out HB.out)|(with_reducible refine Kd.Xe ?_ _)|(with_reducible refine Kd.Xf ?_ _)|(with_reducible refine Kd.Xn ?_)))
        (case side2=>exact HC290_0.out)
        (case side3=>repeat (first|exact (Kd.Xl HR290_1.out HB.out)|(with_reducible refine Kd.Xe ?_ _)|(with_reducible refine Kd.Xf ?_ _)|(with_reducible refine Kd.Xn ?_)))
        (case side4=>exact HC290_1.out)
        (case side5=>repeat (first|exact (Kd.Xl HR291_0.out HB.out)|(with_reducible refine Kd.Xe ?_ _)|(with_reducible refine Kd.Xf ?_ _)|(with_reducible refine Kd.Xn ?_)))
        (case side6=>exact HC291_0.out)
        (case side7=>repeat (first|exact (Kd.Xl HR291_1.out HB.out)|(with_reducible refine Kd.Xe ?_ _)|(with_reducible refine Kd.Xf ?_ _)|(with_reducible refine Kd.Xn ?_)))
        (case side8=>exact HC291_1.out)
        rintro e w10 ⟨rfl,hb⟩
        refine ⟨_,rfl,?_⟩
        have n0_:=Xa.mk (Xc (bl_ HB) hb);clear HB;have HB:=n0_;clear n0_
        (try clear hb)
        (try clear hb2)
        (try clear hk)
        (try clear hi)
        refine hK.out _ _ ⟨((HB.out.cell (World.block_lt_of_cell? w _ hw290_0)).trans hw290_0),((HB.out.cell (World.block_lt_of_cell? w _ hw290_1)).trans hw290_1),((HB.out.cell (World.block_lt_of_cell? w _ hw290_2)).trans hw290_2),((HB.out.cell (World.block_lt_of_cell? w _ hw290_3)).trans hw290_3),((HB.out.cell (World.block_lt_of_cell? w _ hw290_4)).trans hw290_4),((HB.out.cell (World.block_lt_of_cell? w _ hw291_0)).trans hw291_0),((HB.out.cell (World.block_lt_of_cell? w _ hw291_1)).trans hw291_1),((HB.out.cell (World.block_lt_of_cell? w _ hw291_2)).trans hw291_2),((HB.out.cell (World.block_lt_of_cell? w _ hw291_3)).trans hw291_3),((HB.out.cell (World.block_lt_of_cell? w _ hw291_4)).trans hw291_4)⟩ (fun hHeld=>?_)
        clear hK K;refine norm_ (a':=?_) ?_ ?_
        rotate_left
        ·show Act.put _ (some 25) _=_
         simp only [Act.put,List.setIfInBounds_toArray,List.set_cons_zero,List.set_cons_succ,Xu,Xt];rfl
        refine Yf (i:=9) (N:=some 26) (v:=?_) (a':=?_) #[true,true,true,true,true,true,true,true,true,true] rfl rfl (Ya HT_.out (by kernel_rfl)) (fun _ _ _ h=>h) (Or.inl ⟨by rfl,?_⟩) ?_ ?_
        rotate_left
        ·intro w';go_simp
         with_reducible rfl
        rotate_left
        ·simp only [Act.put,List.setIfInBounds_toArray,List.set_cons_zero,List.set_cons_succ,Xu,Xt];rfl
        refine done_ (done_of HT_.out (by kernel_rfl)) ?_
        try go_wp2
        go_roundg k1
        case measure=>have:=HK1.out;omega
        case rel=>exact ⟨(wrap64 (x5_1+1)),(by first|rfl|(simp;done)|(simp [*];done)),H',⟨by have:=HK1.out;omega⟩,⟨bl_ HB⟩⟩
       ·replace c8:=Bool.eq_false_iff.mpr c8;subst c8
        have H1:(some false)=some r:=by rw [if_neg (show ¬ (false=true) by decide)] at H;exact H
        clear H;have H:=H1;clear H1;obtain rfl:=Option.some.inj H
        try go_wp2
        have n0_:=Xa.mk (Zt HB.out);clear HB;have HB:=n0_;clear n0_;have p290:0≤(x5_1:Int):=of_decide_eq_true (by first|(with_reducible assumption)|assumption);have q290:x5_1<(l0.length:Int):=of_decide_eq_true (by first|(with_reducible assumption)|assumption);obtain ⟨ad290,A290_0,c290_0,A290_1,c290_1,e290,hx290_0,hx290_1,hx290_2,hx290_3,hx290_4,hl290_0,hi290_0,hl290_1,hi290_1⟩:=at_T43 HR0.out x5_1 p290 q290;have hw290_4:=hx290_4;have hw290_3:=hx290_3;have hw290_2:=hx290_2;have hw290_1:=hx290_1;have hw290_0:=hx290_0;cases e290
        replace hx290_0:=(HB.out.cell (World.block_lt_of_cell? w _ hx290_0)).trans hx290_0;replace hx290_1:=(HB.out.cell (World.block_lt_of_cell? w _ hx290_1)).trans hx290_1;replace hx290_2:=(HB.out.cell (World.block_lt_of_cell? w _ hx290_2)).trans hx290_2;replace hx290_3:=(HB.out.cell (World.block_lt_of_cell? w _ hx290_3)).trans hx290_3;replace hx290_4:=(HB.out.cell (World.block_lt_of_cell? w _ hx290_4)).trans hx290_4;have HR290_0:=Xa.mk hi290_0;have HC290_0:=Xa.mk hl290_0;clear hi290_0 hl290_0;have HR290_1:=Xa.mk hi290_1;have HC290_1:=Xa.mk hl290_1;clear hi290_1 hl290_1;replace p290:=eq_true p290;replace q290:=eq_true q290;have p291:0≤(x5_1:Int):=of_decide_eq_true (by first|(with_reducible assumption)|assumption);have q291:x5_1<(l1.length:Int):=of_decide_eq_true (by first|(with_reducible assumption)|assumption);obtain ⟨ad291,A291_0,c291_0,A291_1,c291_1,e291,hx291_0,hx291_1,hx291_2,hx291_3,hx291_4,hl291_0,hi291_0,hl291_1,hi291_1⟩:=at_T43 HR1.out x5_1 p291 q291;have hw291_4:=hx291_4;have hw291_3:=hx291_3;have hw291_2:=hx291_2;have hw291_1:=hx291_1;have hw291_0:=hx291_0;cases e291
        replace hx291_0:=(HB.out.cell (World.block_lt_of_cell? w _ hx291_0)).trans hx291_0;replace hx291_1:=(HB.out.cell (World.block_lt_of_cell? w _ hx291_1)).trans hx291_1;replace hx291_2:=(HB.out.cell (World.block_lt_of_cell? w _ hx291_2)).trans hx291_2;replace hx291_3:=(HB.out.cell (World.block_lt_of_cell? w _ hx291_3)).trans hx291_3;replace hx291_4:=(HB.out.cell (World.block_lt_of_cell? w _ hx291_4)).trans hx291_4;have HR291_0:=Xa.mk hi291_0;have HC291_0:=Xa.mk hl291_0;clear hi291_0 hl291_0;have HR291_1:=Xa.mk hi291_1;have HC291_1:=Xa.mk hl291_1;clear hi291_1 hl291_1;replace p291:=eq_true p291;replace q291:=eq_true q291;refine start_ (n:=10) (S:=fun w'=>w'.cell? (ad290.add ((x5_1).toNat * 5))=some (.slice A290_0 ((Xm l0 x5_1).f0).length c290_0)∧w'.cell? ⟨(ad290.add ((x5_1).toNat * 5)).block,(ad290.add ((x5_1).toNat * 5)).off+1,none⟩=some (.slice A290_1 ((Xm l0 x5_1).f1).length c290_1)∧w'.cell? ⟨(ad290.add ((x5_1).toNat * 5)).block,(ad290.add ((x5_1).toNat * 5)).off+2,none⟩=some (.int .i64 ((Xm l0 x5_1).f2))∧w'.cell? ⟨(ad290.add ((x5_1).toNat * 5)).block,(ad290.add ((x5_1).toNat * 5)).off+3,none⟩=some (.int .i64 ((Xm l0 x5_1).f3))∧w'.cell? ⟨(ad290.add ((x5_1).toNat * 5)).block,(ad290.add ((x5_1).toNat * 5)).off+4,none⟩=some (.int .i64 ((Xm l0 x5_1).f4))∧w'.cell? (ad291.add ((x5_1).toNat * 5))=some (.slice A291_0 ((Xm l1 x5_1).f0).length c291_0)∧w'.cell? ⟨(ad291.add ((x5_1).toNat * 5)).block,(ad291.add ((x5_1).toNat * 5)).off+1,none⟩=some (.slice A291_1 ((Xm l1 x5_1).f1).length c291_1)∧w'.cell? ⟨(ad291.add ((x5_1).toNat * 5)).block,(ad291.add ((x5_1).toNat * 5)).off+2,none⟩=some (.int .i64 ((Xm l1 x5_1).f2))∧w'.cell? ⟨(ad291.add ((x5_1).toNat * 5)).block,(ad291.add ((x5_1).toNat * 5)).off+3,none⟩=some (.int .i64 ((Xm l1 x5_1).f3))∧w'.cell? ⟨(ad291.add ((x5_1).toNat * 5)).block,(ad291.add ((x5_1).toNat * 5)).off+4,none⟩=some (.int .i64 ((Xm l1 x5_1).f4))) (ds:=[]) #[false,false,false,false,false,false,false,false,false,false] (by kernel_rfl) rfl rfl ⟨((HB.out.cell (World.block_lt_of_cell? w _ hw290_0)).trans hw290_0),((HB.out.cell (World.block_lt_of_cell? w _ hw290_1)).trans hw290_1),((HB.out.cell (World.block_lt_of_cell? w _ hw290_2)).trans hw290_2),((HB.out.cell (World.block_lt_of_cell? w _ hw290_3)).trans hw290_3),((HB.out.cell (World.block_lt_of_cell? w _ hw290_4)).trans hw290_4),((HB.out.cell (World.block_lt_of_cell? w _ hw291_0)).trans hw291_0),((HB.out.cell (World.block_lt_of_cell? w _ hw291_1)).trans hw291_1),((HB.out.cell (World.block_lt_of_cell? w _ hw291_2)).trans hw291_2),((HB.out.cell (World.block_lt_of_cell? w _ hw291_3)).trans hw291_3),((HB.out.cell (World.block_lt_of_cell? w _ hw291_4)).trans hw291_4)⟩ (fun hHeld=>?_);refine with_tabW Yi.tab6 Yi.bits6 (fun HT_ HW_=>?_)
        generalize wr.drew=w11 at HB HR290_0 HR290_1 HR291_0 HR291_1 hx290_0 hx290_1 hx290_2 hx290_3 hx290_4 hx291_0 hx291_1 hx291_2 hx291_3 hx291_4 hHeld ⊢
        refine Yf (i:=0) (N:=some 17) (v:=?_) (a':=?_) #[true,false,false,false,false,false,false,false,false,false] rfl rfl (Ya HT_.out (by kernel_rfl)) (fun _ _ _ h=>h) (Or.inl ⟨by rfl,?_⟩) ?_ ?_
        rotate_left
        ·intro w';go_simp
         with_reducible rfl
        rotate_left
        ·simp only [Act.put,List.setIfInBounds_toArray,List.set_cons_zero,List.set_cons_succ,Xu,Xt];rfl
        refine Yf (i:=1) (N:=some 18) (v:=?_) (a':=?_) #[true,true,false,false,false,false,false,false,false,false] rfl rfl (Ya HT_.out (by kernel_rfl)) (fun _ _ _ h=>h) (Or.inl ⟨by rfl,?_⟩) ?_ ?_
        rotate_left
        ·intro w';go_simp
         with_reducible rfl
        rotate_left
        ·simp only [Act.put,List.setIfInBounds_toArray,List.set_cons_zero,List.set_cons_succ,Xu,Xt];rfl
        refine Yf (i:=2) (N:=some 19) (v:=?_) (a':=?_) #[true,true,true,false,false,false,false,false,false,false] rfl rfl (Ya HT_.out (by kernel_rfl)) (fun _ _ _ h=>h) (Or.inl ⟨by rfl,?_⟩) ?_ ?_
        rotate_left
        ·intro w';go_simp
         with_reducible rfl
        rotate_left
        ·simp only [Act.put,List.setIfInBounds_toArray,List.set_cons_zero,List.set_cons_succ,Xu,Xt];rfl
        refine Yf (i:=4) (N:=some 21) (v:=?_) (a':=?_) #[true,true,true,false,true,false,false,false,false,false] rfl rfl (Ya HT_.out (by kernel_rfl)) (fun _ _ _ h=>h) (Or.inl ⟨by rfl,?_⟩) ?_ ?_
        rotate_left
        ·intro w';go_simp
         with_reducible rfl
        rotate_left
        ·simp only [Act.put,List.setIfInBounds_toArray,List.set_cons_zero,List.set_cons_succ,Xu,Xt];rfl
        refine Yf (i:=5) (N:=some 22) (v:=?_) (a':=?_) #[true,true,true,false,true,true,false,false,false,false] rfl rfl (Ya HT_.out (by kernel_rfl)) (fun _ _ _ h=>h) (Or.inl ⟨by rfl,?_⟩) ?_ ?_
        rotate_left
        ·intro w';go_simp
         with_reducible rfl
        rotate_left
        ·simp only [Act.put,List.setIfInBounds_toArray,List.set_cons_zero,List.set_cons_succ,Xu,Xt];rfl
        refine Yf (i:=6) (N:=some 23) (v:=?_) (a':=?_) #[true,true,true,false,true,true,true,false,false,false] rfl rfl (Ya HT_.out (by kernel_rfl)) (fun _ _ _ h=>h) (Or.inl ⟨by rfl,?_⟩) ?_ ?_
        rotate_left
        ·intro w';go_simp
         with_reducible rfl
        rotate_left
        ·simp only [Act.put,List.setIfInBounds_toArray,List.set_cons_zero,List.set_cons_succ,Xu,Xt];rfl
        refine Zw (i:=3) (N:=some 20) (v:=?_) (a':=?_) #[true,true,true,true,true,true,true,false,false,false] rfl rfl (Zb HT_.out HW_.out (by kernel_rfl)) (fun _ _ _ h=>h) (Or.inl ⟨by rfl,?_⟩) hHeld ?_ ?_
        rotate_left
        ·rintro w' ⟨s0,s1,s2,s3,s4,s5,s6,s7,s8,s9⟩
         go_simp
         with_reducible rfl
        rotate_left
        ·simp only [Act.put,List.setIfInBounds_toArray,List.set_cons_zero,List.set_cons_succ,Xu,Xt];rfl
        refine Zw (i:=7) (N:=some 24) (v:=?_) (a':=?_) #[true,true,true,true,true,true,true,true,false,false] rfl rfl (Zb HT_.out HW_.out (by kernel_rfl)) (fun _ _ _ h=>h) (Or.inl ⟨by rfl,?_⟩) hHeld ?_ ?_
        rotate_left
        ·rintro w' ⟨s0,s1,s2,s3,s4,s5,s6,s7,s8,s9⟩
         go_simp
         with_reducible rfl
        rotate_left
        ·simp only [Act.put,List.setIfInBounds_toArray,List.set_cons_zero,List.set_cons_succ,Xu,Xt];rfl
        refine one_ (i:=8) (N:=some 25) #[true,true,true,true,true,true,true,true,true,false] rfl rfl (Ue HT_.out (by kernel_rfl)) (by decide) (fun K hK=>?_)
        refine goes_ Tryd.func30 (by kernel_rfl) rfl #[.agg #[.slice A290_0 ((Xm l0 x5_1).f0).length c290_0,.slice A290_1 ((Xm l0 x5_1).f1).length c290_1,.int .i64 ((Xm l0 x5_1).f2),.int .i64 ((Xm l0 x5_1).f3),.int .i64 ((Xm l0 x5_1).f4)],.agg #[.slice A291_0 ((Xm l1 x5_1).f0).length c291_0,.slice A291_1 ((Xm l1 x5_1).f1).length c291_1,.int .i64 ((Xm l1 x5_1).f2),.int .i64 ((Xm l1 x5_1).f3),.int .i64 ((Xm l1 x5_1).f4)]] (by rfl) rfl rfl ga_ ?_
        with_reducible refine (laws_eqProc.calls k1 _ _ ((Xm l0 x5_1).f0) _ _ ((Xm l0 x5_1).f1) ((Xm l0 x5_1).f2) ((Xm l0 x5_1).f3) ((Xm l0 x5_1).f4) _ _ ((Xm l1 x5_1).f0) _ _ ((Xm l1 x5_1).f1) ((Xm l1 x5_1).f2) ((Xm l1 x5_1).f3) ((Xm l1 x5_1).f4) false _ ?side1 ?side2 ?side3 ?side4 ?side5 ?side6 ?side7 ?side8 A7.out).mono ?_
        (case side1=>repeat (first|exact (Kd.Xl HR290_0.out HB.out)|(with_reducible refine Kd.Xe ?_ _)|(with_reducible refine Kd.Xf ?_ _)|(with_reducible refine Kd.Xn ?_)))
        (case side2=>exact HC290_0.out)
        (case side3=>repeat (first|exact (Kd.Xl HR290_1.out HB.out)|(with_reducible refine Kd.Xe ?_ _)|(with_reducible refine Kd.Xf ?_ _)|(with_reducible refine Kd.Xn ?_)))
        (case side4=>exact HC290_1.out)
        (case side5=>repeat (first|exact (Kd.Xl HR291_0.out HB.out)|(with_reducible refine Kd.Xe ?_ _)|(with_reducible refine Kd.Xf ?_ _)|(with_reducible refine Kd.Xn ?_)))
        (case side6=>exact HC291_0.out)
        (case side7=>repeat (first|exact (Kd.Xl HR291_1.out HB.out)|(with_reducible refine Kd.Xe ?_ _)|(with_reducible refine Kd.Xf ?_ _)|(with_reducible refine Kd.Xn ?_)))
        (case side8=>exact HC291_1.out)
        rintro e w12 ⟨rfl,hb⟩
        refine ⟨_,rfl,?_⟩
        have n0_:=Xa.mk (Xc (bl_ HB) hb);clear HB;have HB:=n0_;clear n0_
        (try clear hb)
        (try clear hb2)
        (try clear hk)
        (try clear hi)
        refine hK.out _ _ ⟨((HB.out.cell (World.block_lt_of_cell? w _ hw290_0)).trans hw290_0),((HB.out.cell (World.block_lt_of_cell? w _ hw290_1)).trans hw290_1),((HB.out.cell (World.block_lt_of_cell? w _ hw290_2)).trans hw290_2),((HB.out.cell (World.block_lt_of_cell? w _ hw290_3)).trans hw290_3),((HB.out.cell (World.block_lt_of_cell? w _ hw290_4)).trans hw290_4),((HB.out.cell (World.block_lt_of_cell? w _ hw291_0)).trans hw291_0),((HB.out.cell (World.block_lt_of_cell? w _ hw291_1)).trans hw291_1),((HB.out.cell (World.block_lt_of_cell? w _ hw291_2)).trans hw291_2),((HB.out.cell (World.block_lt_of_cell? w _ hw291_3)).trans hw291_3),((HB.out.cell (World.block_lt_of_cell? w _ hw291_4)).trans hw291_4)⟩ (fun hHeld=>?_)
        clear hK K;refine norm_ (a':=?_) ?_ ?_
        rotate_left
        ·show Act.put _ (some 25) _=_
         simp only [Act.put,List.setIfInBounds_toArray,List.set_cons_zero,List.set_cons_succ,Xu,Xt];rfl
        refine Yf (i:=9) (N:=some 26) (v:=?_) (a':=?_) #[true,true,true,true,true,true,true,true,true,true] rfl rfl (Ya HT_.out (by kernel_rfl)) (fun _ _ _ h=>h) (Or.inl ⟨by rfl,?_⟩) ?_ ?_
        rotate_left
        ·intro w';go_simp
         with_reducible rfl
        rotate_left
        ·simp only [Act.put,List.setIfInBounds_toArray,List.set_cons_zero,List.set_cons_succ,Xu,Xt];rfl
        refine done_ (done_of HT_.out (by kernel_rfl)) ?_
        try go_wp2
        go_ret
        exact ⟨rf_,bl_ HB⟩
      ·rw [if_neg c6] at H;exact absurd H (by simp)
     ·rw [if_neg c5] at H;exact absurd H (by simp)
    ·rw [if_neg c4] at H;have c4b0:decide (x5_1<(l0.length:Int))=false:=decide_eq_false c4;clear c4;obtain rfl:=Option.some.inj H;go_wp2
     go_ret
     exact ⟨rf_,bl_ HB⟩
 ·rw [if_neg c3] at H;have c3b0:((l0.length:Int) == (l1.length:Int))=false:=beq_eq_false_iff_ne.mpr c3;have c3b1:((l0.length:Int) != (l1.length:Int))=true:=bne_iff_ne.mpr c3
  have c3b2:(l0.length == l1.length)=false:=by first|simpa using c3|(simp at c3 ⊢;omega)
  obtain rfl:=Option.some.inj H
  go_enter Tryd.func21,Tryd.ntmps21
  go_wp2
  go_ret
  exact ⟨rf_,bl_ HB⟩
end Go.Proofs.YtpcfebhpapdkcaaDoor.GWorld
