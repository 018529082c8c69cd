import Derived.Test.YtpcfebhpapdkcaaDoorCFnExactWorldText22
namespace Go.Proofs.YtpcfebhpapdkcaaDoor.GWorld
open Go.RowKit Go.Proofs.YtpcfebhpapdkcaaDoorW.PrintWords Go.Proofs.YtpcfebhpapdkcaaDoorW.PrintLast Go.Proofs.YtpcfebhpapdkcaaDoorW.PrintMore
attribute [local go_sem] max2_int min2_int max_two min_two Uc Ud max_four min_four
set_option linter.unusedVariables false
set_option linter.unusedSimpArgs false
def Za.f (l0:List Int) (a1:Int):Option (Int):=if (wrap64 (a1 - (l0.length:Int)))<0 then (some (-1)) else (some (wrap64 (a1 - (l0.length:Int))))
set_option maxHeartbeats 8000000 in
set_option maxRecDepth 100000 in
theorem Za.calls (A0:Option Addr) (c0:Nat) (l0:List Int) (a1:Int) (r:Int) (w:World) (hr0:Kd.C (Kd.int .i64) w A0 l0.length l0) (hc0:l0.length≤c0) (h:Za.f l0 a1=some r) :
  Calls Tryd.prog 10 #[.slice A0 l0.length c0,.int .i64 a1] w fun e w'=>e=.returned (.int .i64 r)∧Zh w w':=by
 have HR0:=Xa.mk hr0;have HC0:=Xa.mk hc0;clear hr0 hc0;have H:(if (wrap64 (a1 - (l0.length:Int)))<0 then (some (-1)) else (some (wrap64 (a1 - (l0.length:Int)))))=some r:=h;clear h;by_cases c3:(wrap64 (a1 - (l0.length:Int)))<0
 ·rw [if_pos c3] at H;have c3b0:decide ((wrap64 (a1 - (l0.length:Int)))<0)=true:=decide_eq_true c3;clear c3;obtain rfl:=Option.some.inj H
  go_enter Tryd.func10,Tryd.ntmps10
  go_wp2
  go_ret
  exact ⟨by first|rfl|(simp;done)|(simp [*];done),by repeat (first|exact Zh.refl _|apply Zh.step)⟩
 ·rw [if_neg c3] at H;have c3b0:decide ((wrap64 (a1 - (l0.length:Int)))<0)=false:=decide_eq_false c3;clear c3;obtain rfl:=Option.some.inj H
  go_enter Tryd.func10,Tryd.ntmps10
  go_wp2
  go_ret
  exact ⟨by first|rfl|(simp;done)|(simp [*];done),by repeat (first|exact Zh.refl _|apply Zh.step)⟩
mutual
def Zy.f:Nat→Int→Int→Int→Int→List (S78)→List (S78)→Int→Option (Int)
 |0,_,_,_,_,_,_,_=>none
 |k+1,a0_0,a0_1,a0_2,a0_3,l0_4,l0_5,a1=>(Yk.f k l0_4 a1).bind fun t102=>(if t102<0 then (some (-1)) else ((Yk.f k l0_5 t102).bind fun t103=>(if t103<0 then (some (-1)) else (some t103))))
def Yk.l0:Nat→List (S78)→Int→Int→Option (Int)
 |0,_,_,_=>none
 |k+1,x0,x1,x5=>if x5<(x0.length:Int) then (if 0≤x5 then ((Zy.f k ((Zc x0 x5).f0) ((Zc x0 x5).f1) ((Zc x0 x5).f2) ((Zc x0 x5).f3) ((Zc x0 x5).f4) ((Zc x0 x5).f5) x1).bind fun t105=>(if t105<0 then (some (-1)) else (Yk.l0 k x0 t105 (wrap64 (x5+1))))) else (none)) else (some x1)
def Yk.f:Nat→List (S78)→Int→Option (Int)
 |0,_,_=>none
 |k+1,l0,a1=>if (wrap64 (a1 - (l0.length:Int)))<0 then (some (-1)) else (Yk.l0 k l0 (wrap64 (a1 - (l0.length:Int))) 0)
end
set_option maxHeartbeats 8000000 in
set_option maxRecDepth 100000 in
theorem Zy.step (k:Nat) (ih:∀ m_,m_<k→∀ (a0_0:Int) (a0_1:Int) (a0_2:Int) (a0_3:Int) (A0_4:Option Addr) (c0_4:Nat) (l0_4:List (S78)) (A0_5:Option Addr) (c0_5:Nat) (l0_5:List (S78)) (a1:Int) (r:Int) (w:World) (hr0_4:Kd.C k78 w A0_4 l0_4.length l0_4) (hc0_4:l0_4.length≤c0_4) (hr0_5:Kd.C k78 w A0_5 l0_5.length l0_5) (hc0_5:l0_5.length≤c0_5) (h:Zy.f m_ a0_0 a0_1 a0_2 a0_3 l0_4 l0_5 a1=some r),
  Calls Tryd.prog 37 #[.agg #[.int .i64 a0_0,.int .i64 a0_1,.int .i64 a0_2,.int .i64 a0_3,.slice A0_4 l0_4.length c0_4,.slice A0_5 l0_5.length c0_5],.int .i64 a1] w fun e w'=>e=.returned (.int .i64 r)∧Below w.heap.size w w') (ih_laws_szStmtS:∀ m_,m_<k→∀ (A0:Option Addr) (c0:Nat) (l0:List (S78)) (a1:Int) (r:Int) (w:World) (hr0:Kd.C k78 w A0 l0.length l0) (hc0:l0.length≤c0) (h:Yk.f m_ l0 a1=some r),
  Calls Tryd.prog 32 #[.slice A0 l0.length c0,.int .i64 a1] w fun e w'=>e=.returned (.int .i64 r)∧Below w.heap.size w w'):∀ (a0_0:Int) (a0_1:Int) (a0_2:Int) (a0_3:Int) (A0_4:Option Addr) (c0_4:Nat) (l0_4:List (S78)) (A0_5:Option Addr) (c0_5:Nat) (l0_5:List (S78)) (a1:Int) (r:Int) (w:World) (hr0_4:Kd.C k78 w A0_4 l0_4.length l0_4) (hc0_4:l0_4.length≤c0_4) (hr0_5:Kd.C k78 w A0_5 l0_5.length l0_5) (hc0_5:l0_5.length≤c0_5) (h:Zy.f k a0_0 a0_1 a0_2 a0_3 l0_4 l0_5 a1=some r),
  Calls Tryd.prog 37 #[.agg #[.int .i64 a0_0,.int .i64 a0_1,.int .i64 a0_2,.int .i64 a0_3,.slice A0_4 l0_4.length c0_4,.slice A0_5 l0_5.length c0_5],.int .i64 a1] w fun e w'=>e=.returned (.int .i64 r)∧Below w.heap.size w w':=by
 intro a0_0 a0_1 a0_2 a0_3 A0_4 c0_4 l0_4 A0_5 c0_5 l0_5 a1 r w hr0_4 hc0_4 hr0_5 hc0_5 h
 cases k with
 |zero=>exact absurd h (by simp [Zy.f])
 |succ k=>
 simp only [Zy.f] at h;have hu78:=Tryd.underlying78;have HR0_4:=Xa.mk hr0_4;have HC0_4:=Xa.mk hc0_4;clear hr0_4 hc0_4;have HR0_5:=Xa.mk hr0_5;have HC0_5:=Xa.mk hc0_5;clear hr0_5 hc0_5;have HB:=Xa.mk (Below.refl w.heap.size w);have H:((Yk.f k l0_4 a1).bind fun t102=>(if t102<0 then (some (-1)) else ((Yk.f k l0_5 t102).bind fun t103=>(if t103<0 then (some (-1)) else (some t103)))))=some r:=h;clear h;replace H:=Option.bind_eq_some_iff.mp H;obtain ⟨t102,A30,H⟩:=H;replace H:(if t102<0 then (some (-1)) else ((Yk.f k l0_5 t102).bind fun t103=>(if t103<0 then (some (-1)) else (some t103))))=some r:=H;have A3:=Xa.mk A30;clear A30;by_cases c4:t102<0
 ·rw [if_pos c4] at H;have c4b0:decide (t102<0)=true:=decide_eq_true c4;clear c4;obtain rfl:=Option.some.inj H
  go_enter Tryd.func37,Tryd.ntmps37
  go_wp2_with (first|((with_reducible refine Xy (N:=2) rfl ?_);refine Xw ?hg (N:=2) ?hd (cs:=#[.int .i64 a0_0,.int .i64 a0_1,.int .i64 a0_2,.int .i64 a0_3,.slice A0_4 l0_4.length c0_4,.slice A0_5 l0_5.length c0_5]) (t:=78) ?hr ?_;(case hd=>rfl);(case hg=>rfl);(case hr=>first|(go_simp;done)|(go_simp;rfl));intro gb101 hg w5 hbox hb;have n0_:=Xa.mk (Xc (bl_ HB) hb);have n1_:=Xa.mk (hbox);have n2_:=Xa.mk ((by rw [hg];exact (Xb (bl_ HB)):w.heap.size≤gb101));have n3_:=Xa.mk ((by rw [hg];exact (Xb (bl_ HB)):w.heap.size≤gb101));clear HB;have HB:=n0_;have BK101:=n1_;have GW101:=n2_;have GE101:=n3_;clear n0_ n1_ n2_ n3_;clear hb hbox hg;obtain ⟨hcz6_0,hcz6_1,hcz6_2,hcz6_3,hcz6_4,hcz6_5⟩:=bc6_ BK101.out;obtain ⟨hfz6_0,hfz6_1,hfz6_2,hfz6_3,hfz6_4,hfz6_5⟩:=bf6_ BK101.out)|((with_reducible refine Xo (f:=32) rfl ?_);refine Ye (some 8) rfl rfl Tryd.func32 (by kernel_rfl) rfl #[.slice A0_4 l0_4.length c0_4,.int .i64 a1] rfl ga_ ?_;(with_reducible refine (ih_laws_szStmtS k (by omega) _ _ l0_4 a1 t102 _ ?side1 ?side2 A3.out).mono ?_);(case side1=>repeat (first|exact (Kd.Xl HR0_4.out HB.out)|(with_reducible refine Kd.Xe ?_ _)|(with_reducible refine Kd.Xf ?_ _)|(with_reducible refine Kd.Xn ?_)));(case side2=>exact HC0_4.out);rintro e w7 ⟨rfl,hb⟩;refine ⟨_,rfl,?_⟩;have n0_:=Xa.mk (Xh (g:=gb101) (o:=.cells #[.int .i64 a0_0,.int .i64 a0_1,.int .i64 a0_2,.int .i64 a0_3,.slice A0_4 l0_4.length c0_4,.slice A0_5 l0_5.length c0_5] 78 (0,0)) (ba_ BK101) hb);have n1_:=Xa.mk (Xc (bl_ HB) hb);clear BK101;clear HB;have BK101:=n0_;have HB:=n1_;clear n0_ n1_;(try clear hb);(try clear hb2);(try clear hk);(try clear hi)))
  go_ret
  exact ⟨rf_,bl_ HB⟩
 ·rw [if_neg c4] at H;have c4b0:decide (t102<0)=false:=decide_eq_false c4;clear c4;replace H:=Option.bind_eq_some_iff.mp H;obtain ⟨t103,A80,H⟩:=H;replace H:(if t103<0 then (some (-1)) else (some t103))=some r:=H;have A8:=Xa.mk A80;clear A80;by_cases c9:t103<0
  ·rw [if_pos c9] at H;have c9b0:decide (t103<0)=true:=decide_eq_true c9;clear c9;obtain rfl:=Option.some.inj H
   go_enter Tryd.func37,Tryd.ntmps37
   go_wp2_with (first|((with_reducible refine Xy (N:=2) rfl ?_);refine Xw ?hg (N:=2) ?hd (cs:=#[.int .i64 a0_0,.int .i64 a0_1,.int .i64 a0_2,.int .i64 a0_3,.slice A0_4 l0_4.length c0_4,.slice A0_5 l0_5.length c0_5]) (t:=78) ?hr ?_;(case hd=>rfl);(case hg=>rfl);(case hr=>first|(go_simp;done)|(go_simp;rfl));intro gb101 hg w10 hbox hb;have n0_:=Xa.mk (Xc (bl_ HB) hb);have n1_:=Xa.mk (hbox);have n2_:=Xa.mk ((by rw [hg];exact (Xb (bl_ HB)):w.heap.size≤gb101));have n3_:=Xa.mk ((by rw [hg];exact (Xb (bl_ HB)):w.heap.size≤gb101));clear HB;have HB:=n0_;have BK101:=n1_;have GW101:=n2_;have GE101:=n3_;clear n0_ n1_ n2_ n3_;clear hb hbox hg;obtain ⟨hcz11_0,hcz11_1,hcz11_2,hcz11_3,hcz11_4,hcz11_5⟩:=bc6_ BK101.out;obtain ⟨hfz11_0,hfz11_1,hfz11_2,hfz11_3,hfz11_4,hfz11_5⟩:=bf6_ BK101.out)|((with_reducible refine Xo (f:=32) rfl ?_);refine Ye (some 8) rfl rfl Tryd.func32 (by kernel_rfl) rfl #[.slice A0_4 l0_4.length c0_4,.int .i64 a1] rfl ga_ ?_;(with_reducible refine (ih_laws_szStmtS k (by omega) _ _ l0_4 a1 t102 _ ?side1 ?side2 A3.out).mono ?_);(case side1=>repeat (first|exact (Kd.Xl HR0_4.out HB.out)|(with_reducible refine Kd.Xe ?_ _)|(with_reducible refine Kd.Xf ?_ _)|(with_reducible refine Kd.Xn ?_)));(case side2=>exact HC0_4.out);rintro e w12 ⟨rfl,hb⟩;refine ⟨_,rfl,?_⟩;have n0_:=Xa.mk (Xh (g:=gb101) (o:=.cells #[.int .i64 a0_0,.int .i64 a0_1,.int .i64 a0_2,.int .i64 a0_3,.slice A0_4 l0_4.length c0_4,.slice A0_5 l0_5.length c0_5] 78 (0,0)) (ba_ BK101) hb);have n1_:=Xa.mk (Xc (bl_ HB) hb);clear BK101;clear HB;have BK101:=n0_;have HB:=n1_;clear n0_ n1_;(try clear hb);(try clear hb2);(try clear hk);(try clear hi);obtain ⟨hcz13_0,hcz13_1,hcz13_2,hcz13_3,hcz13_4,hcz13_5⟩:=bc6_ BK101.out;obtain ⟨hfz13_0,hfz13_1,hfz13_2,hfz13_3,hfz13_4,hfz13_5⟩:=bf6_ BK101.out)|((with_reducible refine Xo (f:=32) rfl ?_);refine Ye (some 14) rfl rfl Tryd.func32 (by kernel_rfl) rfl #[.slice A0_5 l0_5.length c0_5,.int .i64 t102] rfl ga_ ?_;(with_reducible refine (ih_laws_szStmtS k (by omega) _ _ l0_5 t102 t103 _ ?side1 ?side2 A8.out).mono ?_);(case side1=>repeat (first|exact (Kd.Xl HR0_5.out HB.out)|(with_reducible refine Kd.Xe ?_ _)|(with_reducible refine Kd.Xf ?_ _)|(with_reducible refine Kd.Xn ?_)));(case side2=>exact HC0_5.out);rintro e w14 ⟨rfl,hb⟩;refine ⟨_,rfl,?_⟩;have n0_:=Xa.mk (Xh (g:=gb101) (o:=.cells #[.int .i64 a0_0,.int .i64 a0_1,.int .i64 a0_2,.int .i64 a0_3,.slice A0_4 l0_4.length c0_4,.slice A0_5 l0_5.length c0_5] 78 (0,0)) (ba_ BK101) hb);have n1_:=Xa.mk (Xc (bl_ HB) hb);clear BK101;clear HB;have BK101:=n0_;have HB:=n1_;clear n0_ n1_;(try clear hb);(try clear hb2);(try clear hk);(try clear hi)))
   go_ret
   exact ⟨rf_,bl_ HB⟩
  ·rw [if_neg c9] at H;have c9b0:decide (t103<0)=false:=decide_eq_false c9;clear c9;obtain rfl:=Option.some.inj H
   go_enter Tryd.func37,Tryd.ntmps37
   go_wp2_with (first|((with_reducible refine Xy (N:=2) rfl ?_);refine Xw ?hg (N:=2) ?hd (cs:=#[.int .i64 a0_0,.int .i64 a0_1,.int .i64 a0_2,.int .i64 a0_3,.slice A0_4 l0_4.length c0_4,.slice A0_5 l0_5.length c0_5]) (t:=78) ?hr ?_;(case hd=>rfl);(case hg=>rfl);(case hr=>first|(go_simp;done)|(go_simp;rfl));intro gb101 hg w15 hbox hb;have n0_:=Xa.mk (Xc (bl_ HB) hb);have n1_:=Xa.mk (hbox);have n2_:=Xa.mk ((by rw [hg];exact (Xb (bl_ HB)):w.heap.size≤gb101));have n3_:=Xa.mk ((by rw [hg];exact (Xb (bl_ HB)):w.heap.size≤gb101));clear HB;have HB:=n0_;have BK101:=n1_;have GW101:=n2_;have GE101:=n3_;clear n0_ n1_ n2_ n3_;clear hb hbox hg;obtain ⟨hcz16_0,hcz16_1,hcz16_2,hcz16_3,hcz16_4,hcz16_5⟩:=bc6_ BK101.out;obtain ⟨hfz16_0,hfz16_1,hfz16_2,hfz16_3,hfz16_4,hfz16_5⟩:=bf6_ BK101.out)|((with_reducible refine Xo (f:=32) rfl ?_);refine Ye (some 8) rfl rfl Tryd.func32 (by kernel_rfl) rfl #[.slice A0_4 l0_4.length c0_4,.int .i64 a1] rfl ga_ ?_;(with_reducible refine (ih_laws_szStmtS k (by omega) _ _ l0_4 a1 t102 _ ?side1 ?side2 A3.out).mono ?_);(case side1=>repeat (first|exact (Kd.Xl HR0_4.out HB.out)|(with_reducible refine Kd.Xe ?_ _)|(with_reducible refine Kd.Xf ?_ _)|(with_reducible refine Kd.Xn ?_)));(case side2=>exact HC0_4.out);rintro e w17 ⟨rfl,hb⟩;refine ⟨_,rfl,?_⟩;have n0_:=Xa.mk (Xh (g:=gb101) (o:=.cells #[.int .i64 a0_0,.int .i64 a0_1,.int .i64 a0_2,.int .i64 a0_3,.slice A0_4 l0_4.length c0_4,.slice A0_5 l0_5.length c0_5] 78 (0,0)) (ba_ BK101) hb);have n1_:=Xa.mk (Xc (bl_ HB) hb);clear BK101;clear HB;have BK101:=n0_;have HB:=n1_;clear n0_ n1_;(try clear hb);(try clear hb2);(try clear hk);(try clear hi);obtain ⟨hcz18_0,hcz18_1,hcz18_2,hcz18_3,hcz18_4,hcz18_5⟩:=bc6_ BK101.out;obtain ⟨hfz18_0,hfz18_1,hfz18_2,hfz18_3,hfz18_4,hfz18_5⟩:=bf6_ BK101.out)|((with_reducible refine Xo (f:=32) rfl ?_);refine Ye (some 14) rfl rfl Tryd.func32 (by kernel_rfl) rfl #[.slice A0_5 l0_5.length c0_5,.int .i64 t102] rfl ga_ ?_;(with_reducible refine (ih_laws_szStmtS k (by omega) _ _ l0_5 t102 t103 _ ?side1 ?side2 A8.out).mono ?_);(case side1=>repeat (first|exact (Kd.Xl HR0_5.out HB.out)|(with_reducible refine Kd.Xe ?_ _)|(with_reducible refine Kd.Xf ?_ _)|(with_reducible refine Kd.Xn ?_)));(case side2=>exact HC0_5.out);rintro e w19 ⟨rfl,hb⟩;refine ⟨_,rfl,?_⟩;have n0_:=Xa.mk (Xh (g:=gb101) (o:=.cells #[.int .i64 a0_0,.int .i64 a0_1,.int .i64 a0_2,.int .i64 a0_3,.slice A0_4 l0_4.length c0_4,.slice A0_5 l0_5.length c0_5] 78 (0,0)) (ba_ BK101) hb);have n1_:=Xa.mk (Xc (bl_ HB) hb);clear BK101;clear HB;have BK101:=n0_;have HB:=n1_;clear n0_ n1_;(try clear hb);(try clear hb2);(try clear hk);(try clear hi)))
   go_ret
   exact ⟨rf_,bl_ HB⟩
set_option maxHeartbeats 8000000 in
set_option maxRecDepth 100000 in
theorem Yk.step (k:Nat) (ih_laws_szStmt:∀ m_,m_<k→∀ (a0_0:Int) (a0_1:Int) (a0_2:Int) (a0_3:Int) (A0_4:Option Addr) (c0_4:Nat) (l0_4:List (S78)) (A0_5:Option Addr) (c0_5:Nat) (l0_5:List (S78)) (a1:Int) (r:Int) (w:World) (hr0_4:Kd.C k78 w A0_4 l0_4.length l0_4) (hc0_4:l0_4.length≤c0_4) (hr0_5:Kd.C k78 w A0_5 l0_5.length l0_5) (hc0_5:l0_5.length≤c0_5) (h:Zy.f m_ a0_0 a0_1 a0_2 a0_3 l0_4 l0_5 a1=some r),
  Calls Tryd.prog 37 #[.agg #[.int .i64 a0_0,.int .i64 a0_1,.int .i64 a0_2,.int .i64 a0_3,.slice A0_4 l0_4.length c0_4,.slice A0_5 l0_5.length c0_5],.int .i64 a1] w fun e w'=>e=.returned (.int .i64 r)∧Below w.heap.size w w') (ih:∀ m_,m_<k→∀ (A0:Option Addr) (c0:Nat) (l0:List (S78)) (a1:Int) (r:Int) (w:World) (hr0:Kd.C k78 w A0 l0.length l0) (hc0:l0.length≤c0) (h:Yk.f m_ l0 a1=some r),
  Calls Tryd.prog 32 #[.slice A0 l0.length c0,.int .i64 a1] w fun e w'=>e=.returned (.int .i64 r)∧Below w.heap.size w w'):∀ (A0:Option Addr) (c0:Nat) (l0:List (S78)) (a1:Int) (r:Int) (w:World) (hr0:Kd.C k78 w A0 l0.length l0) (hc0:l0.length≤c0) (h:Yk.f k l0 a1=some r),
  Calls Tryd.prog 32 #[.slice A0 l0.length c0,.int .i64 a1] w fun e w'=>e=.returned (.int .i64 r)∧Below w.heap.size w w':=by
 intro A0 c0 l0 a1 r w hr0 hc0 h
 cases k with
 |zero=>exact absurd h (by simp [Yk.f])
 |succ k=>
 simp only [Yk.f] at h;have hu78:=Tryd.underlying78;have HR0:=Xa.mk hr0;have HC0:=Xa.mk hc0;clear hr0 hc0;have HB:=Xa.mk (Below.refl w.heap.size w);have H:(if (wrap64 (a1 - (l0.length:Int)))<0 then (some (-1)) else (Yk.l0 k l0 (wrap64 (a1 - (l0.length:Int))) 0))=some r:=h;clear h;by_cases c3:(wrap64 (a1 - (l0.length:Int)))<0
 ·rw [if_pos c3] at H;have c3b0:decide ((wrap64 (a1 - (l0.length:Int)))<0)=true:=decide_eq_true c3;clear c3;obtain rfl:=Option.some.inj H
  go_enter Tryd.func32,Tryd.ntmps32
  go_wp2
  go_ret
  exact ⟨rf_,bl_ HB⟩
 ·rw [if_neg c3] at H;have c3b0:decide ((wrap64 (a1 - (l0.length:Int)))<0)=false:=decide_eq_false c3;clear c3;have H':=Xa.mk H;clear H
  go_enter Tryd.func32,Tryd.ntmps32
  go_wp2
  go_loopg [1,5] k (fun kq v1 v5 w'=>∃ (x1_1:Int) (x5_1:Int),v1=.int .i64 x1_1∧v5=.int .i64 x5_1∧Xa (Yk.l0 kq l0 x1_1 x5_1=some r)∧Xa (kq≤k)∧Xa (Below w.heap.size w w'))
  case atStart=>exact ⟨(wrap64 (a1 - (l0.length:Int))),(0),(by first|rfl|(simp;done)|(simp [*];done)),(by first|rfl|(simp;done)|(simp [*];done)),H',⟨Nat.le_refl _⟩,⟨bl_ HB⟩⟩
  case round=>
   clear H'
   try clear p2
   try clear c3
   try clear c3b0
   obtain ⟨x1_1,x5_1,rfl,rfl,HA,HK1,HB⟩:=hrel
   cases gk with
   |zero=>exact absurd HA.out (by simp [Yk.l0])
   |succ k1=>
    have H:=HA.out;clear HA;simp only [Yk.l0] at H;by_cases c4:x5_1<(l0.length:Int)
    ·rw [if_pos c4] at H;have c4b0:decide (x5_1<(l0.length:Int))=true:=decide_eq_true c4;clear c4;by_cases c5:0≤x5_1
     ·rw [if_pos c5] at H;have c5b0:decide (0≤x5_1)=true:=decide_eq_true c5;clear c5;replace H:=Option.bind_eq_some_iff.mp H;obtain ⟨t105,A60,H⟩:=H;replace H:(if t105<0 then (some (-1)) else (Yk.l0 k1 l0 t105 (wrap64 (x5_1+1))))=some r:=H;have A6:=Xa.mk A60;clear A60;by_cases c7:t105<0
      ·rw [if_pos c7] at H;have c7b0:decide (t105<0)=true:=decide_eq_true c7;clear c7;obtain rfl:=Option.some.inj H;have p104:0≤(x5_1:Int):=of_decide_eq_true (by first|(with_reducible assumption)|assumption);have q104:x5_1<(l0.length:Int):=of_decide_eq_true (by first|(with_reducible assumption)|assumption);obtain ⟨ad104,A104_4,c104_4,A104_5,c104_5,e104,hx104_0,hx104_1,hx104_2,hx104_3,hx104_4,hx104_5,hl104_4,hi104_4,hl104_5,hi104_5⟩:=at_T78 HR0.out x5_1 p104 q104;cases e104
       replace hx104_0:=(HB.out.cell (World.block_lt_of_cell? w _ hx104_0)).trans hx104_0;replace hx104_1:=(HB.out.cell (World.block_lt_of_cell? w _ hx104_1)).trans hx104_1;replace hx104_2:=(HB.out.cell (World.block_lt_of_cell? w _ hx104_2)).trans hx104_2;replace hx104_3:=(HB.out.cell (World.block_lt_of_cell? w _ hx104_3)).trans hx104_3;replace hx104_4:=(HB.out.cell (World.block_lt_of_cell? w _ hx104_4)).trans hx104_4;replace hx104_5:=(HB.out.cell (World.block_lt_of_cell? w _ hx104_5)).trans hx104_5;have HR104_4:=Xa.mk hi104_4;have HC104_4:=Xa.mk hl104_4;clear hi104_4 hl104_4;have HR104_5:=Xa.mk hi104_5;have HC104_5:=Xa.mk hl104_5;clear hi104_5 hl104_5;replace p104:=eq_true p104;replace q104:=eq_true q104;go_wp2_with (first|((with_reducible refine Xo (f:=37) rfl ?_);refine Ye (some 23) rfl rfl Tryd.func37 (by kernel_rfl) rfl #[.agg #[.int .i64 ((Zc l0 x5_1).f0),.int .i64 ((Zc l0 x5_1).f1),.int .i64 ((Zc l0 x5_1).f2),.int .i64 ((Zc l0 x5_1).f3),.slice A104_4 ((Zc l0 x5_1).f4).length c104_4,.slice A104_5 ((Zc l0 x5_1).f5).length c104_5],.int .i64 x1_1] rfl ga_ ?_;(with_reducible refine (ih_laws_szStmt k1 (by have:=HK1.out;omega) ((Zc l0 x5_1).f0) ((Zc l0 x5_1).f1) ((Zc l0 x5_1).f2) ((Zc l0 x5_1).f3) _ _ ((Zc l0 x5_1).f4) _ _ ((Zc l0 x5_1).f5) x1_1 t105 _ ?side1 ?side2 ?side3 ?side4 A6.out).mono ?_);(case side1=>repeat (first|exact (Kd.Xl HR104_4.out HB.out)|(with_reducible refine Kd.Xe ?_ _)|(with_reducible refine Kd.Xf ?_ _)|(with_reducible refine Kd.Xn ?_)));(case side2=>exact HC104_4.out);(case side3=>repeat (first|exact (Kd.Xl HR104_5.out HB.out)|(with_reducible refine Kd.Xe ?_ _)|(with_reducible refine Kd.Xf ?_ _)|(with_reducible refine Kd.Xn ?_)));(case side4=>exact HC104_5.out);rintro e w8 ⟨rfl,hb⟩;refine ⟨_,rfl,?_⟩;have n0_:=Xa.mk (Xc (bl_ HB) hb);clear HB;have HB:=n0_;clear n0_;(try clear hb);(try clear hb2);(try clear hk);(try clear hi)))
       go_ret
       exact ⟨rf_,bl_ HB⟩
      ·rw [if_neg c7] at H;have c7b0:decide (t105<0)=false:=decide_eq_false c7;clear c7;have H':=Xa.mk H;clear H;have p104:0≤(x5_1:Int):=of_decide_eq_true (by first|(with_reducible assumption)|assumption);have q104:x5_1<(l0.length:Int):=of_decide_eq_true (by first|(with_reducible assumption)|assumption);obtain ⟨ad104,A104_4,c104_4,A104_5,c104_5,e104,hx104_0,hx104_1,hx104_2,hx104_3,hx104_4,hx104_5,hl104_4,hi104_4,hl104_5,hi104_5⟩:=at_T78 HR0.out x5_1 p104 q104;cases e104
       replace hx104_0:=(HB.out.cell (World.block_lt_of_cell? w _ hx104_0)).trans hx104_0;replace hx104_1:=(HB.out.cell (World.block_lt_of_cell? w _ hx104_1)).trans hx104_1;replace hx104_2:=(HB.out.cell (World.block_lt_of_cell? w _ hx104_2)).trans hx104_2;replace hx104_3:=(HB.out.cell (World.block_lt_of_cell? w _ hx104_3)).trans hx104_3;replace hx104_4:=(HB.out.cell (World.block_lt_of_cell? w _ hx104_4)).trans hx104_4;replace hx104_5:=(HB.out.cell (World.block_lt_of_cell? w _ hx104_5)).trans hx104_5;have HR104_4:=Xa.mk hi104_4;have HC104_4:=Xa.mk hl104_4;clear hi104_4 hl104_4;have HR104_5:=Xa.mk hi104_5;have HC104_5:=Xa.mk hl104_5;clear hi104_5 hl104_5;replace p104:=eq_true p104;replace q104:=eq_true q104;go_wp2_with (first|((with_reducible refine Xo (f:=37) rfl ?_);refine Ye (some 23) rfl rfl Tryd.func37 (by kernel_rfl) rfl #[.agg #[.int .i64 ((Zc l0 x5_1).f0),.int .i64 ((Zc l0 x5_1).f1),.int .i64 ((Zc l0 x5_1).f2),.int .i64 ((Zc l0 x5_1).f3),.slice A104_4 ((Zc l0 x5_1).f4).length c104_4,.slice A104_5 ((Zc l0 x5_1).f5).length c104_5],.int .i64 x1_1] rfl ga_ ?_;(with_reducible refine (ih_laws_szStmt k1 (by have:=HK1.out;omega) ((Zc l0 x5_1).f0) ((Zc l0 x5_1).f1) ((Zc l0 x5_1).f2) ((Zc l0 x5_1).f3) _ _ ((Zc l0 x5_1).f4) _ _ ((Zc l0 x5_1).f5) x1_1 t105 _ ?side1 ?side2 ?side3 ?side4 A6.out).mono ?_);(case side1=>repeat (first|exact (Kd.Xl HR104_4.out HB.out)|(with_reducible refine Kd.Xe ?_ _)|(with_reducible refine Kd.Xf ?_ _)|(with_reducible refine Kd.Xn ?_)));(case side2=>exact HC104_4.out);(case side3=>repeat (first|exact (Kd.Xl HR104_5.out HB.out)|(with_reducible refine Kd.Xe ?_ _)|(with_reducible refine Kd.Xf ?_ _)|(with_reducible refine Kd.Xn ?_)));(case side4=>exact HC104_5.out);rintro e w9 ⟨rfl,hb⟩;refine ⟨_,rfl,?_⟩;have n0_:=Xa.mk (Xc (bl_ HB) hb);clear HB;have HB:=n0_;clear n0_;(try clear hb);(try clear hb2);(try clear hk);(try clear hi)))
       go_roundg k1
       case measure=>have:=HK1.out;omega
       case rel=>exact ⟨(t105),(wrap64 (x5_1+1)),(by first|rfl|(simp;done)|(simp [*];done)),(by first|rfl|(simp;done)|(simp [*];done)),H',⟨by have:=HK1.out;omega⟩,⟨bl_ HB⟩⟩
     ·rw [if_neg c5] at H;exact absurd H (by simp)
    ·rw [if_neg c4] at H;have c4b0:decide (x5_1<(l0.length:Int))=false:=decide_eq_false c4;clear c4;obtain rfl:=Option.some.inj H;go_wp2
     go_ret
     exact ⟨rf_,bl_ HB⟩
theorem laws_szStmt_laws_szStmtS.all (k:Nat):(∀ (a0_0:Int) (a0_1:Int) (a0_2:Int) (a0_3:Int) (A0_4:Option Addr) (c0_4:Nat) (l0_4:List (S78)) (A0_5:Option Addr) (c0_5:Nat) (l0_5:List (S78)) (a1:Int) (r:Int) (w:World) (hr0_4:Kd.C k78 w A0_4 l0_4.length l0_4) (hc0_4:l0_4.length≤c0_4) (hr0_5:Kd.C k78 w A0_5 l0_5.length l0_5) (hc0_5:l0_5.length≤c0_5) (h:Zy.f k a0_0 a0_1 a0_2 a0_3 l0_4 l0_5 a1=some r),
  Calls Tryd.prog 37 #[.agg #[.int .i64 a0_0,.int .i64 a0_1,.int .i64 a0_2,.int .i64 a0_3,.slice A0_4 l0_4.length c0_4,.slice A0_5 l0_5.length c0_5],.int .i64 a1] w fun e w'=>e=.returned (.int .i64 r)∧Below w.heap.size w w')∧(∀ (A0:Option Addr) (c0:Nat) (l0:List (S78)) (a1:Int) (r:Int) (w:World) (hr0:Kd.C k78 w A0 l0.length l0) (hc0:l0.length≤c0) (h:Yk.f k l0 a1=some r),
  Calls Tryd.prog 32 #[.slice A0 l0.length c0,.int .i64 a1] w fun e w'=>e=.returned (.int .i64 r)∧Below w.heap.size w w'):=by
 induction k using Nat.strongRecOn with
 |_ k ih=>exact ⟨Zy.step k (fun m hm=>(ih m hm).1) (fun m hm=>(ih m hm).2),Yk.step k (fun m hm=>(ih m hm).1) (fun m hm=>(ih m hm).2)⟩
theorem Yk.calls (k:Nat):∀ (A0:Option Addr) (c0:Nat) (l0:List (S78)) (a1:Int) (r:Int) (w:World) (hr0:Kd.C k78 w A0 l0.length l0) (hc0:l0.length≤c0) (h:Yk.f k l0 a1=some r),
  Calls Tryd.prog 32 #[.slice A0 l0.length c0,.int .i64 a1] w fun e w'=>e=.returned (.int .i64 r)∧Below w.heap.size w w':=(laws_szStmt_laws_szStmtS.all k).2
def laws_szProc.f (k:Nat) (l0_0:List Int) (l0_1:List (S78)) (a0_2:Int) (a0_3:Int) (a0_4:Int) (a1:Int):Option (Int):=(Za.f l0_0 a1).bind fun t107=>(if t107<0 then (some (-1)) else ((Yk.f k l0_1 t107).bind fun t108=>(if t108<0 then (some (-1)) else (some t108))))
set_option maxHeartbeats 8000000 in
set_option maxRecDepth 100000 in
theorem laws_szProc.calls (k:Nat) (A0_0:Option Addr) (c0_0:Nat) (l0_0:List Int) (A0_1:Option Addr) (c0_1:Nat) (l0_1:List (S78)) (a0_2:Int) (a0_3:Int) (a0_4:Int) (a1:Int) (r:Int) (w:World) (hr0_0:Kd.C (Kd.int .i64) w A0_0 l0_0.length l0_0) (hc0_0:l0_0.length≤c0_0) (hr0_1:Kd.C k78 w A0_1 l0_1.length l0_1) (hc0_1:l0_1.length≤c0_1) (h:laws_szProc.f k l0_0 l0_1 a0_2 a0_3 a0_4 a1=some r) :
  Calls Tryd.prog 25 #[.agg #[.slice A0_0 l0_0.length c0_0,.slice A0_1 l0_1.length c0_1,.int .i64 a0_2,.int .i64 a0_3,.int .i64 a0_4],.int .i64 a1] w fun e w'=>e=.returned (.int .i64 r)∧Below w.heap.size w w':=by
 have hu60:=Tryd.underlying60;have HR0_0:=Xa.mk hr0_0;have HC0_0:=Xa.mk hc0_0;clear hr0_0 hc0_0;have HR0_1:=Xa.mk hr0_1;have HC0_1:=Xa.mk hc0_1;clear hr0_1 hc0_1;have HB:=Xa.mk (Below.refl w.heap.size w);have H:((Za.f l0_0 a1).bind fun t107=>(if t107<0 then (some (-1)) else ((Yk.f k l0_1 t107).bind fun t108=>(if t108<0 then (some (-1)) else (some t108)))))=some r:=h;clear h;replace H:=Option.bind_eq_some_iff.mp H;obtain ⟨t107,A30,H⟩:=H;replace H:(if t107<0 then (some (-1)) else ((Yk.f k l0_1 t107).bind fun t108=>(if t108<0 then (some (-1)) else (some t108))))=some r:=H;have A3:=Xa.mk A30;clear A30;by_cases c4:t107<0
 ·rw [if_pos c4] at H;have c4b0:decide (t107<0)=true:=decide_eq_true c4;clear c4;obtain rfl:=Option.some.inj H
  go_enter Tryd.func25,Tryd.ntmps25
  go_wp2_with (first|((with_reducible refine Xy (N:=2) rfl ?_);refine Xw ?hg (N:=2) ?hd (cs:=#[.slice A0_0 l0_0.length c0_0,.slice A0_1 l0_1.length c0_1,.int .i64 a0_2,.int .i64 a0_3,.int .i64 a0_4]) (t:=60) ?hr ?_;(case hd=>rfl);(case hg=>rfl);(case hr=>first|(go_simp;done)|(go_simp;rfl));intro gb106 hg w5 hbox hb;have n0_:=Xa.mk (Xc (bl_ HB) hb);have n1_:=Xa.mk (hbox);have n2_:=Xa.mk ((by rw [hg];exact (Xb (bl_ HB)):w.heap.size≤gb106));have n3_:=Xa.mk ((by rw [hg];exact (Xb (bl_ HB)):w.heap.size≤gb106));clear HB;have HB:=n0_;have BK106:=n1_;have GW106:=n2_;have GE106:=n3_;clear n0_ n1_ n2_ n3_;clear hb hbox hg;obtain ⟨hcz6_0,hcz6_1,hcz6_2,hcz6_3,hcz6_4⟩:=Zm BK106.out;obtain ⟨hfz6_0,hfz6_1,hfz6_2,hfz6_3,hfz6_4⟩:=Zn BK106.out)|((with_reducible refine Xo (f:=10) rfl ?_);refine Ye (some 8) rfl rfl Tryd.func10 (by kernel_rfl) rfl #[.slice A0_0 l0_0.length c0_0,.int .i64 a1] rfl ga_ ?_;(with_reducible refine (Za.calls _ _ l0_0 a1 t107 _ ?side1 ?side2 A3.out).mono ?_);(case side1=>repeat (first|exact (Kd.Xl HR0_0.out HB.out)|(with_reducible refine Kd.Xe ?_ _)|(with_reducible refine Kd.Xf ?_ _)|(with_reducible refine Kd.Xn ?_)));(case side2=>exact HC0_0.out);rintro e w' ⟨rfl,⟨nd,rfl⟩⟩;refine ⟨_,rfl,?_⟩))
  go_ret
  exact ⟨rf_,bl_ HB⟩
 ·rw [if_neg c4] at H;have c4b0:decide (t107<0)=false:=decide_eq_false c4;clear c4;replace H:=Option.bind_eq_some_iff.mp H;obtain ⟨t108,A70,H⟩:=H;replace H:(if t108<0 then (some (-1)) else (some t108))=some r:=H;have A7:=Xa.mk A70;clear A70;by_cases c8:t108<0
  ·rw [if_pos c8] at H;have c8b0:decide (t108<0)=true:=decide_eq_true c8;clear c8;obtain rfl:=Option.some.inj H
   go_enter Tryd.func25,Tryd.ntmps25
   go_wp2_with (first|((with_reducible refine Xy (N:=2) rfl ?_);refine Xw ?hg (N:=2) ?hd (cs:=#[.slice A0_0 l0_0.length c0_0,.slice A0_1 l0_1.length c0_1,.int .i64 a0_2,.int .i64 a0_3,.int .i64 a0_4]) (t:=60) ?hr ?_;(case hd=>rfl);(case hg=>rfl);(case hr=>first|(go_simp;done)|(go_simp;rfl));intro gb106 hg w9 hbox hb;have n0_:=Xa.mk (Xc (bl_ HB) hb);have n1_:=Xa.mk (hbox);have n2_:=Xa.mk ((by rw [hg];exact (Xb (bl_ HB)):w.heap.size≤gb106));have n3_:=Xa.mk ((by rw [hg];exact (Xb (bl_ HB)):w.heap.size≤gb106));clear HB;have HB:=n0_;have BK106:=n1_;have GW106:=n2_;have GE106:=n3_;clear n0_ n1_ n2_ n3_;clear hb hbox hg;obtain ⟨hcz10_0,hcz10_1,hcz10_2,hcz10_3,hcz10_4⟩:=Zm BK106.out;obtain ⟨hfz10_0,hfz10_1,hfz10_2,hfz10_3,hfz10_4⟩:=Zn BK106.out)|((with_reducible refine Xo (f:=10) rfl ?_);refine Ye (some 8) rfl rfl Tryd.func10 (by kernel_rfl) rfl #[.slice A0_0 l0_0.length c0_0,.int .i64 a1] rfl ga_ ?_;(with_reducible refine (Za.calls _ _ l0_0 a1 t107 _ ?side1 ?side2 A3.out).mono ?_);(case side1=>repeat (first|exact (Kd.Xl HR0_0.out HB.out)|(with_reducible refine Kd.Xe ?_ _)|(with_reducible refine Kd.Xf ?_ _)|(with_reducible refine Kd.Xn ?_)));(case side2=>exact HC0_0.out);rintro e w' ⟨rfl,⟨nd,rfl⟩⟩;refine ⟨_,rfl,?_⟩)|((with_reducible refine Xo (f:=32) rfl ?_);refine Ye (some 14) rfl rfl Tryd.func32 (by kernel_rfl) rfl #[.slice A0_1 l0_1.length c0_1,.int .i64 t107] rfl ga_ ?_;(with_reducible refine (Yk.calls k _ _ l0_1 t107 t108 _ ?side1 ?side2 A7.out).mono ?_);(case side1=>repeat (first|exact (Kd.Xl HR0_1.out (bl_ HB))|(with_reducible refine Kd.Xe ?_ _)|(with_reducible refine Kd.Xf ?_ _)|(with_reducible refine Kd.Xn ?_)));(case side2=>exact HC0_1.out);rintro e w11 ⟨rfl,hb⟩;refine ⟨_,rfl,?_⟩;have n0_:=Xa.mk (Xh (g:=gb106) (o:=.cells #[.slice A0_0 l0_0.length c0_0,.slice A0_1 l0_1.length c0_1,.int .i64 a0_2,.int .i64 a0_3,.int .i64 a0_4] 60 (0,0)) (ba_ BK106) hb);have n1_:=Xa.mk (Xc (bl_ HB) hb);clear BK106;clear HB;have BK106:=n0_;have HB:=n1_;clear n0_ n1_;(try clear hb);(try clear hb2);(try clear hk);(try clear hi)))
   go_ret
   exact ⟨rf_,bl_ HB⟩
  ·rw [if_neg c8] at H;have c8b0:decide (t108<0)=false:=decide_eq_false c8;clear c8;obtain rfl:=Option.some.inj H
   go_enter Tryd.func25,Tryd.ntmps25
   go_wp2_with (first|((with_reducible refine Xy (N:=2) rfl ?_);refine Xw ?hg (N:=2) ?hd (cs:=#[.slice A0_0 l0_0.length c0_0,.slice A0_1 l0_1.length c0_1,.int .i64 a0_2,.int .i64 a0_3,.int .i64 a0_4]) (t:=60) ?hr ?_;(case hd=>rfl);(case hg=>rfl);(case hr=>first|(go_simp;done)|(go_simp;rfl));intro gb106 hg w12 hbox hb;have n0_:=Xa.mk (Xc (bl_ HB) hb);have n1_:=Xa.mk (hbox);have n2_:=Xa.mk ((by rw [hg];exact (Xb (bl_ HB)):w.heap.size≤gb106));have n3_:=Xa.mk ((by rw [hg];exact (Xb (bl_ HB)):w.heap.size≤gb106));clear HB;have HB:=n0_;have BK106:=n1_;have GW106:=n2_;have GE106:=n3_;clear n0_ n1_ n2_ n3_;clear hb hbox hg;obtain ⟨hcz13_0,hcz13_1,hcz13_2,hcz13_3,hcz13_4⟩:=Zm BK106.out;obtain ⟨hfz13_0,hfz13_1,hfz13_2,hfz13_3,hfz13_4⟩:=Zn BK106.out)|((with_reducible refine Xo (f:=10) rfl ?_);refine Ye (some 8) rfl rfl Tryd.func10 (by kernel_rfl) rfl #[.slice A0_0 l0_0.length c0_0,.int .i64 a1] rfl ga_ ?_;(with_reducible refine (Za.calls _ _ l0_0 a1 t107 _ ?side1 ?side2 A3.out).mono ?_);(case side1=>repeat (first|exact (Kd.Xl HR0_0.out HB.out)|(with_reducible refine Kd.Xe ?_ _)|(with_reducible refine Kd.Xf ?_ _)|(with_reducible refine Kd.Xn ?_)));(case side2=>exact HC0_0.out);rintro e w' ⟨rfl,⟨nd,rfl⟩⟩;refine ⟨_,rfl,?_⟩)|((with_reducible refine Xo (f:=32) rfl ?_);refine Ye (some 14) rfl rfl Tryd.func32 (by kernel_rfl) rfl #[.slice A0_1 l0_1.length c0_1,.int .i64 t107] rfl ga_ ?_;(with_reducible refine (Yk.calls k _ _ l0_1 t107 t108 _ ?side1 ?side2 A7.out).mono ?_);(case side1=>repeat (first|exact (Kd.Xl HR0_1.out (bl_ HB))|(with_reducible refine Kd.Xe ?_ _)|(with_reducible refine Kd.Xf ?_ _)|(with_reducible refine Kd.Xn ?_)));(case side2=>exact HC0_1.out);rintro e w14 ⟨rfl,hb⟩;refine ⟨_,rfl,?_⟩;have n0_:=Xa.mk (Xh (g:=gb106) (o:=.cells #[.slice A0_0 l0_0.length c0_0,.slice A0_1 l0_1.length c0_1,.int .i64 a0_2,.int .i64 a0_3,.int .i64 a0_4] 60 (0,0)) (ba_ BK106) hb);have n1_:=Xa.mk (Xc (bl_ HB) hb);clear BK106;clear HB;have BK106:=n0_;have HB:=n1_;clear n0_ n1_;(try clear hb);(try clear hb2);(try clear hk);(try clear hi)))
   go_ret
   exact ⟨rf_,bl_ HB⟩
def Ze.l0:Nat→List (S60)→Int→Int→Option (Int)
 |0,_,_,_=>none
 |k+1,x0,x1,x5=>if x5<(x0.length:Int) then (if 0≤x5 then ((laws_szProc.f k ((Zi x0 x5).f0) ((Zi x0 x5).f1) ((Zi x0 x5).f2) ((Zi x0 x5).f3) ((Zi x0 x5).f4) x1).bind fun t110=>(if t110<0 then (some (-1)) else (Ze.l0 k x0 t110 (wrap64 (x5+1))))) else (none)) else (some x1)
def Ze.f (k:Nat) (l0:List (S60)) (a1:Int):Option (Int):=if (wrap64 (a1 - (l0.length:Int)))<0 then (some (-1)) else (Ze.l0 k l0 (wrap64 (a1 - (l0.length:Int))) 0)
set_option maxHeartbeats 8000000 in
set_option maxRecDepth 100000 in
theorem Ze.calls (k:Nat) (A0:Option Addr) (c0:Nat) (l0:List (S60)) (a1:Int) (r:Int) (w:World) (hr0:Kd.C k60 w A0 l0.length l0) (hc0:l0.length≤c0) (h:Ze.f k l0 a1=some r) :
  Calls Tryd.prog 9 #[.slice A0 l0.length c0,.int .i64 a1] w fun e w'=>e=.returned (.int .i64 r)∧Below w.heap.size w w':=by
 have hu60:=Tryd.underlying60;have HR0:=Xa.mk hr0;have HC0:=Xa.mk hc0;clear hr0 hc0;have HB:=Xa.mk (Below.refl w.heap.size w);have H:(if (wrap64 (a1 - (l0.length:Int)))<0 then (some (-1)) else (Ze.l0 k l0 (wrap64 (a1 - (l0.length:Int))) 0))=some r:=h;clear h;by_cases c3:(wrap64 (a1 - (l0.length:Int)))<0
 ·rw [if_pos c3] at H;have c3b0:decide ((wrap64 (a1 - (l0.length:Int)))<0)=true:=decide_eq_true c3;clear c3;obtain rfl:=Option.some.inj H
  go_enter Tryd.func9,Tryd.ntmps9
  go_wp2
  go_ret
  exact ⟨rf_,bl_ HB⟩
 ·rw [if_neg c3] at H;have c3b0:decide ((wrap64 (a1 - (l0.length:Int)))<0)=false:=decide_eq_false c3;clear c3;have H':=Xa.mk H;clear H
  go_enter Tryd.func9,Tryd.ntmps9
  go_wp2
  go_loopg [1,5] k (fun kq v1 v5 w'=>∃ (x1_1:Int) (x5_1:Int),v1=.int .i64 x1_1∧v5=.int .i64 x5_1∧Xa (Ze.l0 kq l0 x1_1 x5_1=some r)∧Xa (kq≤k)∧Xa (Below w.heap.size w w'))
  case atStart=>exact ⟨(wrap64 (a1 - (l0.length:Int))),(0),(by first|rfl|(simp;done)|(simp [*];done)),(by first|rfl|(simp;done)|(simp [*];done)),H',⟨Nat.le_refl _⟩,⟨bl_ HB⟩⟩
  case round=>
   clear H'
   try clear p2
   try clear c3
   try clear c3b0
   obtain ⟨x1_1,x5_1,rfl,rfl,HA,HK1,HB⟩:=hrel
   cases gk with
   |zero=>exact absurd HA.out (by simp [Ze.l0])
   |succ k1=>
    have H:=HA.out;clear HA;simp only [Ze.l0] at H;by_cases c4:x5_1<(l0.length:Int)
    ·rw [if_pos c4] at H;have c4b0:decide (x5_1<(l0.length:Int))=true:=decide_eq_true c4;clear c4;by_cases c5:0≤x5_1
     ·rw [if_pos c5] at H;have c5b0:decide (0≤x5_1)=true:=decide_eq_true c5;clear c5;replace H:=Option.bind_eq_some_iff.mp H;obtain ⟨t110,A60,H⟩:=H;replace H:(if t110<0 then (some (-1)) else (Ze.l0 k1 l0 t110 (wrap64 (x5_1+1))))=some r:=H;have A6:=Xa.mk A60;clear A60;by_cases c7:t110<0
      ·rw [if_pos c7] at H;have c7b0:decide (t110<0)=true:=decide_eq_true c7;clear c7;obtain rfl:=Option.some.inj H;have p109:0≤(x5_1:Int):=of_decide_eq_true (by first|(with_reducible assumption)|assumption);have q109:x5_1<(l0.length:Int):=of_decide_eq_true (by first|(with_reducible assumption)|assumption);obtain ⟨ad109,A109_0,c109_0,A109_1,c109_1,e109,hx109_0,hx109_1,hx109_2,hx109_3,hx109_4,hl109_0,hi109_0,hl109_1,hi109_1⟩:=at_T60 HR0.out x5_1 p109 q109;cases e109
       replace hx109_0:=(HB.out.cell (World.block_lt_of_cell? w _ hx109_0)).trans hx109_0;replace hx109_1:=(HB.out.cell (World.block_lt_of_cell? w _ hx109_1)).trans hx109_1;replace hx109_2:=(HB.out.cell (World.block_lt_of_cell? w _ hx109_2)).trans hx109_2;replace hx109_3:=(HB.out.cell (World.block_lt_of_cell? w _ hx109_3)).trans hx109_3;replace hx109_4:=(HB.out.cell (World.block_lt_of_cell? w _ hx109_4)).trans hx109_4;have HR109_0:=Xa.mk hi109_0;have HC109_0:=Xa.mk hl109_0;clear hi109_0 hl109_0;have HR109_1:=Xa.mk hi109_1;have HC109_1:=Xa.mk hl109_1;clear hi109_1 hl109_1;replace p109:=eq_true p109;replace q109:=eq_true q109;go_wp2_with (first|((with_reducible refine Xo (f:=25) rfl ?_);refine Ye (some 23) rfl rfl Tryd.func25 (by kernel_rfl) rfl #[.agg #[.slice A109_0 ((Zi l0 x5_1).f0).length c109_0,.slice A109_1 ((Zi l0 x5_1).f1).length c109_1,.int .i64 ((Zi l0 x5_1).f2),.int .i64 ((Zi l0 x5_1).f3),.int .i64 ((Zi l0 x5_1).f4)],.int .i64 x1_1] rfl ga_ ?_;(with_reducible refine (laws_szProc.calls k1 _ _ ((Zi l0 x5_1).f0) _ _ ((Zi l0 x5_1).f1) ((Zi l0 x5_1).f2) ((Zi l0 x5_1).f3) ((Zi l0 x5_1).f4) x1_1 t110 _ ?side1 ?side2 ?side3 ?side4 A6.out).mono ?_);(case side1=>repeat (first|exact (Kd.Xl HR109_0.out HB.out)|(with_reducible refine Kd.Xe ?_ _)|(with_reducible refine Kd.Xf ?_ _)|(with_reducible refine Kd.Xn ?_)));(case side2=>exact HC109_0.out);(case side3=>repeat (first|exact (Kd.Xl HR109_1.out HB.out)|(with_reducible refine Kd.Xe ?_ _)|(with_reducible refine Kd.Xf ?_ _)|(with_reducible refine Kd.Xn ?_)));(case side4=>exact HC109_1.out);rintro e w8 ⟨rfl,hb⟩;refine ⟨_,rfl,?_⟩;have n0_:=Xa.mk (Xc (bl_ HB) hb);clear HB;have HB:=n0_;clear n0_;(try clear hb);(try clear hb2);(try clear hk);(try clear hi)))
       go_ret
       exact ⟨rf_,bl_ HB⟩
      ·rw [if_neg c7] at H;have c7b0:decide (t110<0)=false:=decide_eq_false c7;clear c7;have H':=Xa.mk H;clear H;have p109:0≤(x5_1:Int):=of_decide_eq_true (by first|(with_reducible assumption)|assumption);have q109:x5_1<(l0.length:Int):=of_decide_eq_true (by first|(with_reducible assumption)|assumption);obtain ⟨ad109,A109_0,c109_0,A109_1,c109_1,e109,hx109_0,hx109_1,hx109_2,hx109_3,hx109_4,hl109_0,hi109_0,hl109_1,hi109_1⟩:=at_T60 HR0.out x5_1 p109 q109;cases e109
       replace hx109_0:=(HB.out.cell (World.block_lt_of_cell? w _ hx109_0)).trans hx109_0;replace hx109_1:=(HB.out.cell (World.block_lt_of_cell? w _ hx109_1)).trans hx109_1;replace hx109_2:=(HB.out.cell (World.block_lt_of_cell? w _ hx109_2)).trans hx109_2;replace hx109_3:=(HB.out.cell (World.block_lt_of_cell? w _ hx109_3)).trans hx109_3;replace hx109_4:=(HB.out.cell (World.block_lt_of_cell? w _ hx109_4)).trans hx109_4;have HR109_0:=Xa.mk hi109_0;have HC109_0:=Xa.mk hl109_0;clear hi109_0 hl109_0;have HR109_1:=Xa.mk hi109_1;have HC109_1:=Xa.mk hl109_1;clear hi109_1 hl109_1;replace p109:=eq_true p109;replace q109:=eq_true q109;go_wp2_with (first|((with_reducible refine Xo (f:=25) rfl ?_);refine Ye (some 23) rfl rfl Tryd.func25 (by kernel_rfl) rfl #[.agg #[.slice A109_0 ((Zi l0 x5_1).f0).length c109_0,.slice A109_1 ((Zi l0 x5_1).f1).length c109_1,.int .i64 ((Zi l0 x5_1).f2),.int .i64 ((Zi l0 x5_1).f3),.int .i64 ((Zi l0 x5_1).f4)],.int .i64 x1_1] rfl ga_ ?_;(with_reducible refine (laws_szProc.calls k1 _ _ ((Zi l0 x5_1).f0) _ _ ((Zi l0 x5_1).f1) ((Zi l0 x5_1).f2) ((Zi l0 x5_1).f3) ((Zi l0 x5_1).f4) x1_1 t110 _ ?side1 ?side2 ?side3 ?side4 A6.out).mono ?_);(case side1=>repeat (first|exact (Kd.Xl HR109_0.out HB.out)|(with_reducible refine Kd.Xe ?_ _)|(with_reducible refine Kd.Xf ?_ _)|(with_reducible refine Kd.Xn ?_)));(case side2=>exact HC109_0.out);(case side3=>repeat (first|exact (Kd.Xl HR109_1.out HB.out)|(with_reducible refine Kd.Xe ?_ _)|(with_reducible refine Kd.Xf ?_ _)|(with_reducible refine Kd.Xn ?_)));(case side4=>exact HC109_1.out);rintro e w9 ⟨rfl,hb⟩;refine ⟨_,rfl,?_⟩;have n0_:=Xa.mk (Xc (bl_ HB) hb);clear HB;have HB:=n0_;clear n0_;(try clear hb);(try clear hb2);(try clear hk);(try clear hi)))
       go_roundg k1
       case measure=>have:=HK1.out;omega
       case rel=>exact ⟨(t110),(wrap64 (x5_1+1)),(by first|rfl|(simp;done)|(simp [*];done)),(by first|rfl|(simp;done)|(simp [*];done)),H',⟨by have:=HK1.out;omega⟩,⟨bl_ HB⟩⟩
     ·rw [if_neg c5] at H;exact absurd H (by simp)
    ·rw [if_neg c4] at H;have c4b0:decide (x5_1<(l0.length:Int))=false:=decide_eq_false c4;clear c4;obtain rfl:=Option.some.inj H;go_wp2
     go_ret
     exact ⟨rf_,bl_ HB⟩
def Zd.l0:Nat→List (List Int)→Int→Int→Option (Int)
 |0,_,_,_=>none
 |k+1,x0,x1,x5=>if x5<(x0.length:Int) then (if 0≤x5 then ((Za.f (rd_L2 x0 x5) x1).bind fun t112=>(if t112<0 then (some (-1)) else (Zd.l0 k x0 t112 (wrap64 (x5+1))))) else (none)) else (some x1)
def Zd.f (k:Nat) (l0:List (List Int)) (a1:Int):Option (Int):=if (wrap64 (a1 - (l0.length:Int)))<0 then (some (-1)) else (Zd.l0 k l0 (wrap64 (a1 - (l0.length:Int))) 0)
set_option maxHeartbeats 8000000 in
set_option maxRecDepth 100000 in
theorem Zd.calls (k:Nat) (A0:Option Addr) (c0:Nat) (l0:List (List Int)) (a1:Int) (r:Int) (w:World) (hr0:Kd.C (Kd.slice 3 (Kd.int .i64)) w A0 l0.length l0) (hc0:l0.length≤c0) (h:Zd.f k l0 a1=some r) :
  Calls Tryd.prog 11 #[.slice A0 l0.length c0,.int .i64 a1] w fun e w'=>e=.returned (.int .i64 r)∧Zh w w':=by
 have HR0:=Xa.mk hr0;have HC0:=Xa.mk hc0;clear hr0 hc0;have H:(if (wrap64 (a1 - (l0.length:Int)))<0 then (some (-1)) else (Zd.l0 k l0 (wrap64 (a1 - (l0.length:Int))) 0))=some r:=h;clear h;by_cases c3:(wrap64 (a1 - (l0.length:Int)))<0
 ·rw [if_pos c3] at H;have c3b0:decide ((wrap64 (a1 - (l0.length:Int)))<0)=true:=decide_eq_true c3;clear c3;obtain rfl:=Option.some.inj H
  go_enter Tryd.func11,Tryd.ntmps11
  go_wp2
  go_ret
  exact ⟨by first|rfl|(simp;done)|(simp [*];done),by repeat (first|exact Zh.refl _|apply Zh.step)⟩
 ·rw [if_neg c3] at H;have c3b0:decide ((wrap64 (a1 - (l0.length:Int)))<0)=false:=decide_eq_false c3;clear c3;have H':=Xa.mk H;clear H
  go_enter Tryd.func11,Tryd.ntmps11
  go_wp2
  go_loopg [1,5] k (fun kq v1 v5 w'=>∃ (x1_1:Int) (x5_1:Int),v1=.int .i64 x1_1∧v5=.int .i64 x5_1∧Xa (Zd.l0 kq l0 x1_1 x5_1=some r)∧Xa (kq≤k)∧Zh w w')
  case atStart=>exact ⟨(wrap64 (a1 - (l0.length:Int))),(0),(by first|rfl|(simp;done)|(simp [*];done)),(by first|rfl|(simp;done)|(simp [*];done)),H',⟨Nat.le_refl _⟩,by repeat (first|exact Zh.refl _|apply Zh.step)⟩
  case round=>
   clear H'
   try clear c1
   try clear p2
   try clear c3
   try clear c3b0
   obtain ⟨x1_1,x5_1,rfl,rfl,HA,HK1,⟨m1,rfl⟩⟩:=hrel
   cases gk with
   |zero=>exact absurd HA.out (by simp [Zd.l0])
   |succ k1=>
    have H:=HA.out;clear HA;simp only [Zd.l0] at H;by_cases c4:x5_1<(l0.length:Int)
    ·rw [if_pos c4] at H;have c4b0:decide (x5_1<(l0.length:Int))=true:=decide_eq_true c4;clear c4;by_cases c5:0≤x5_1
     ·rw [if_pos c5] at H;have c5b0:decide (0≤x5_1)=true:=decide_eq_true c5;clear c5;replace H:=Option.bind_eq_some_iff.mp H;obtain ⟨t112,A60,H⟩:=H;replace H:(if t112<0 then (some (-1)) else (Zd.l0 k1 l0 t112 (wrap64 (x5_1+1))))=some r:=H;have A6:=Xa.mk A60;clear A60;by_cases c7:t112<0
      ·rw [if_pos c7] at H;have c7b0:decide (t112<0)=true:=decide_eq_true c7;clear c7;obtain rfl:=Option.some.inj H;have p111:0≤(x5_1:Int):=of_decide_eq_true (by first|(with_reducible assumption)|assumption);have q111:x5_1<(l0.length:Int):=of_decide_eq_true (by first|(with_reducible assumption)|assumption);obtain ⟨ad111,A111_0,c111_0,e111,hx111_0,hl111_0,hi111_0⟩:=at_L2 HR0.out x5_1 p111 q111;cases e111
       have HR111_0:=Xa.mk hi111_0;have HC111_0:=Xa.mk hl111_0;clear hi111_0 hl111_0;replace p111:=eq_true p111;replace q111:=eq_true q111;go_wp2_with (first|((with_reducible refine Xo (f:=10) rfl ?_);refine Ye (some 23) rfl rfl Tryd.func10 (by kernel_rfl) rfl #[.slice A111_0 (rd_L2 l0 x5_1).length c111_0,.int .i64 x1_1] rfl ga_ ?_;(with_reducible refine (Za.calls _ _ (rd_L2 l0 x5_1) x1_1 t112 _ ?side1 ?side2 A6.out).mono ?_);(case side1=>repeat (first|exact HR111_0.out|(with_reducible refine Kd.Xe ?_ _)|(with_reducible refine Kd.Xf ?_ _)|(with_reducible refine Kd.Xn ?_)));(case side2=>exact HC111_0.out);rintro e w' ⟨rfl,⟨nd,rfl⟩⟩;refine ⟨_,rfl,?_⟩))
       go_ret
       exact ⟨by first|rfl|(simp;done)|(simp [*];done),by repeat (first|exact Zh.refl _|apply Zh.step)⟩
      ·rw [if_neg c7] at H;have c7b0:decide (t112<0)=false:=decide_eq_false c7;clear c7;have H':=Xa.mk H;clear H;have p111:0≤(x5_1:Int):=of_decide_eq_true (by first|(with_reducible assumption)|assumption);have q111:x5_1<(l0.length:Int):=of_decide_eq_true (by first|(with_reducible assumption)|assumption);obtain ⟨ad111,A111_0,c111_0,e111,hx111_0,hl111_0,hi111_0⟩:=at_L2 HR0.out x5_1 p111 q111;cases e111
       have HR111_0:=Xa.mk hi111_0;have HC111_0:=Xa.mk hl111_0;clear hi111_0 hl111_0;replace p111:=eq_true p111;replace q111:=eq_true q111;go_wp2_with (first|((with_reducible refine Xo (f:=10) rfl ?_);refine Ye (some 23) rfl rfl Tryd.func10 (by kernel_rfl) rfl #[.slice A111_0 (rd_L2 l0 x5_1).length c111_0,.int .i64 x1_1] rfl ga_ ?_;(with_reducible refine (Za.calls _ _ (rd_L2 l0 x5_1) x1_1 t112 _ ?side1 ?side2 A6.out).mono ?_);(case side1=>repeat (first|exact HR111_0.out|(with_reducible refine Kd.Xe ?_ _)|(with_reducible refine Kd.Xf ?_ _)|(with_reducible refine Kd.Xn ?_)));(case side2=>exact HC111_0.out);rintro e w' ⟨rfl,⟨nd,rfl⟩⟩;refine ⟨_,rfl,?_⟩))
       go_roundg k1
       case measure=>have:=HK1.out;omega
       case rel=>exact ⟨(t112),(wrap64 (x5_1+1)),(by first|rfl|(simp;done)|(simp [*];done)),(by first|rfl|(simp;done)|(simp [*];done)),H',⟨by have:=HK1.out;omega⟩,by repeat (first|exact Zh.refl _|apply Zh.step)⟩
     ·rw [if_neg c5] at H;exact absurd H (by simp)
    ·rw [if_neg c4] at H;have c4b0:decide (x5_1<(l0.length:Int))=false:=decide_eq_false c4;clear c4;obtain rfl:=Option.some.inj H;go_wp2
     go_ret
     exact ⟨by first|rfl|(simp;done)|(simp [*];done),by repeat (first|exact Zh.refl _|apply Zh.step)⟩
def laws_szSayS.f (l0:List (S66)) (a1:Int):Option (Int):=if (wrap64 (a1 - (l0.length:Int)))<0 then (some (-1)) else (some (wrap64 (a1 - (l0.length:Int))))
set_option maxHeartbeats 8000000 in
set_option maxRecDepth 100000 in
theorem laws_szSayS.calls (A0:Option Addr) (c0:Nat) (l0:List (S66)) (a1:Int) (r:Int) (w:World) (hr0:Kd.C k66 w A0 l0.length l0) (hc0:l0.length≤c0) (h:laws_szSayS.f l0 a1=some r) :
  Calls Tryd.prog 12 #[.slice A0 l0.length c0,.int .i64 a1] w fun e w'=>e=.returned (.int .i64 r)∧Zh w w':=by
 have HR0:=Xa.mk hr0;have HC0:=Xa.mk hc0;clear hr0 hc0;have H:(if (wrap64 (a1 - (l0.length:Int)))<0 then (some (-1)) else (some (wrap64 (a1 - (l0.length:Int)))))=some r:=h;clear h;by_cases c3:(wrap64 (a1 - (l0.length:Int)))<0
 ·rw [if_pos c3] at H;have c3b0:decide ((wrap64 (a1 - (l0.length:Int)))<0)=true:=decide_eq_true c3;clear c3;obtain rfl:=Option.some.inj H
  go_enter Tryd.func12,Tryd.ntmps12
  go_wp2
  go_ret
  exact ⟨by first|rfl|(simp;done)|(simp [*];done),by repeat (first|exact Zh.refl _|apply Zh.step)⟩
 ·rw [if_neg c3] at H;have c3b0:decide ((wrap64 (a1 - (l0.length:Int)))<0)=false:=decide_eq_false c3;clear c3;obtain rfl:=Option.some.inj H
  go_enter Tryd.func12,Tryd.ntmps12
  go_wp2
  go_ret
  exact ⟨by first|rfl|(simp;done)|(simp [*];done),by repeat (first|exact Zh.refl _|apply Zh.step)⟩
end Go.Proofs.YtpcfebhpapdkcaaDoor.GWorld
