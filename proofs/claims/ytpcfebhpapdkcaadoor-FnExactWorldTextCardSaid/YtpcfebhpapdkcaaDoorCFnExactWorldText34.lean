import Derived.Test.YtpcfebhpapdkcaaDoorCFnExactWorldText22
namespace Go.Proofs.YtpcfebhpapdkcaaDoor.GWorld
open Go.RowKit Go.Proofs.YtpcfebhpapdkcaaDoorW.PrintWords Go.Proofs.YtpcfebhpapdkcaaDoorW.PrintLast Go.Proofs.YtpcfebhpapdkcaaDoorW.PrintMore
attribute [local go_sem] max2_int min2_int max_two min_two Uc Ud max_four min_four
set_option linter.unusedVariables false
set_option linter.unusedSimpArgs false
mutual
def Ub.f:Nat→Int→Int→Int→Int→List (S63)→List (S63)→Int→Int→Int→Int→List (S63)→List (S63)→Option (Bool)
 |0,_,_,_,_,_,_,_,_,_,_,_,_=>none
 |k+1,a0_0,a0_1,a0_2,a0_3,l0_4,l0_5,a1_0,a1_1,a1_2,a1_3,l1_4,l1_5=>if a0_0=a1_0 then (if a0_1=a1_1 then (if a0_2=a1_2 then (if a0_3=a1_3 then ((Xz.f k l0_4 l1_4).bind fun t281=>(if t281=true then ((Xz.f k l0_5 l1_5).bind fun t282=>(if t282=true then (some true) else (some false))) else (some false))) else (some false)) else (some false)) else (some false)) else (some false)
def Xz.l0:Nat→List (S63)→List (S63)→Int→Option (Bool)
 |0,_,_,_=>none
 |k+1,x0,x1,x5=>if x5<(x0.length:Int) then (if 0≤x5 then (if x5<(x1.length:Int) then ((Ub.f k ((Xg x0 x5).f0) ((Xg x0 x5).f1) ((Xg x0 x5).f2) ((Xg x0 x5).f3) ((Xg x0 x5).f4) ((Xg x0 x5).f5) ((Xg x1 x5).f0) ((Xg x1 x5).f1) ((Xg x1 x5).f2) ((Xg x1 x5).f3) ((Xg x1 x5).f4) ((Xg x1 x5).f5)).bind fun t285=>(if t285=true then (Xz.l0 k x0 x1 (wrap64 (x5+1))) else (some false))) else (none)) else (none)) else (some true)
def Xz.f:Nat→List (S63)→List (S63)→Option (Bool)
 |0,_,_=>none
 |k+1,l0,l1=>if (l0.length:Int)=(l1.length:Int) then (Xz.l0 k l0 l1 0) else (some false)
end
set_option maxHeartbeats 8000000 in
set_option maxRecDepth 100000 in
theorem Ub.step (k:Nat) (ih:∀ m_,m_<k→∀ (a0_0:Int) (a0_1:Int) (a0_2:Int) (a0_3:Int) (A0_4:Option Addr) (c0_4:Nat) (l0_4:List (S63)) (A0_5:Option Addr) (c0_5:Nat) (l0_5:List (S63)) (a1_0:Int) (a1_1:Int) (a1_2:Int) (a1_3:Int) (A1_4:Option Addr) (c1_4:Nat) (l1_4:List (S63)) (A1_5:Option Addr) (c1_5:Nat) (l1_5:List (S63)) (r:Bool) (w:World) (hr0_4:Kd.C k63 w A0_4 l0_4.length l0_4) (hc0_4:l0_4.length≤c0_4) (hr0_5:Kd.C k63 w A0_5 l0_5.length l0_5) (hc0_5:l0_5.length≤c0_5) (hr1_4:Kd.C k63 w A1_4 l1_4.length l1_4) (hc1_4:l1_4.length≤c1_4) (hr1_5:Kd.C k63 w A1_5 l1_5.length l1_5) (hc1_5:l1_5.length≤c1_5) (h:Ub.f m_ a0_0 a0_1 a0_2 a0_3 l0_4 l0_5 a1_0 a1_1 a1_2 a1_3 l1_4 l1_5=some r),
  Calls Tryd.prog 43 #[.agg #[.int .i64 a0_0,.int .i64 a0_1,.int .i64 a0_2,.int .i64 a0_3,.slice A0_4 l0_4.length c0_4,.slice A0_5 l0_5.length c0_5],.agg #[.int .i64 a1_0,.int .i64 a1_1,.int .i64 a1_2,.int .i64 a1_3,.slice A1_4 l1_4.length c1_4,.slice A1_5 l1_5.length c1_5]] w fun e w'=>e=.returned (.bool r)∧Below w.heap.size w w') (ih_laws_eqStmtS:∀ m_,m_<k→∀ (A0:Option Addr) (c0:Nat) (l0:List (S63)) (A1:Option Addr) (c1:Nat) (l1:List (S63)) (r:Bool) (w:World) (hr0:Kd.C k63 w A0 l0.length l0) (hc0:l0.length≤c0) (hr1:Kd.C k63 w A1 l1.length l1) (hc1:l1.length≤c1) (h:Xz.f m_ l0 l1=some r),
  Calls Tryd.prog 36 #[.slice A0 l0.length c0,.slice A1 l1.length c1] w fun e w'=>e=.returned (.bool r)∧Below w.heap.size w w'):∀ (a0_0:Int) (a0_1:Int) (a0_2:Int) (a0_3:Int) (A0_4:Option Addr) (c0_4:Nat) (l0_4:List (S63)) (A0_5:Option Addr) (c0_5:Nat) (l0_5:List (S63)) (a1_0:Int) (a1_1:Int) (a1_2:Int) (a1_3:Int) (A1_4:Option Addr) (c1_4:Nat) (l1_4:List (S63)) (A1_5:Option Addr) (c1_5:Nat) (l1_5:List (S63)) (r:Bool) (w:World) (hr0_4:Kd.C k63 w A0_4 l0_4.length l0_4) (hc0_4:l0_4.length≤c0_4) (hr0_5:Kd.C k63 w A0_5 l0_5.length l0_5) (hc0_5:l0_5.length≤c0_5) (hr1_4:Kd.C k63 w A1_4 l1_4.length l1_4) (hc1_4:l1_4.length≤c1_4) (hr1_5:Kd.C k63 w A1_5 l1_5.length l1_5) (hc1_5:l1_5.length≤c1_5) (h:Ub.f k a0_0 a0_1 a0_2 a0_3 l0_4 l0_5 a1_0 a1_1 a1_2 a1_3 l1_4 l1_5=some r),
  Calls Tryd.prog 43 #[.agg #[.int .i64 a0_0,.int .i64 a0_1,.int .i64 a0_2,.int .i64 a0_3,.slice A0_4 l0_4.length c0_4,.slice A0_5 l0_5.length c0_5],.agg #[.int .i64 a1_0,.int .i64 a1_1,.int .i64 a1_2,.int .i64 a1_3,.slice A1_4 l1_4.length c1_4,.slice A1_5 l1_5.length c1_5]] w fun e w'=>e=.returned (.bool r)∧Below w.heap.size w w':=by
 intro a0_0 a0_1 a0_2 a0_3 A0_4 c0_4 l0_4 A0_5 c0_5 l0_5 a1_0 a1_1 a1_2 a1_3 A1_4 c1_4 l1_4 A1_5 c1_5 l1_5 r w hr0_4 hc0_4 hr0_5 hc0_5 hr1_4 hc1_4 hr1_5 hc1_5 h
 cases k with
 |zero=>exact absurd h (by simp [Ub.f])
 |succ k=>
 simp only [Ub.f] at h;have hu63:=Tryd.underlying63;have HR0_4:=Xa.mk hr0_4;have HC0_4:=Xa.mk hc0_4;clear hr0_4 hc0_4;have HR0_5:=Xa.mk hr0_5;have HC0_5:=Xa.mk hc0_5;clear hr0_5 hc0_5;have HR1_4:=Xa.mk hr1_4;have HC1_4:=Xa.mk hc1_4;clear hr1_4 hc1_4;have HR1_5:=Xa.mk hr1_5;have HC1_5:=Xa.mk hc1_5;clear hr1_5 hc1_5;have HB:=Xa.mk (Below.refl w.heap.size w);have H:(if a0_0=a1_0 then (if a0_1=a1_1 then (if a0_2=a1_2 then (if a0_3=a1_3 then ((Xz.f k l0_4 l1_4).bind fun t281=>(if t281=true then ((Xz.f k l0_5 l1_5).bind fun t282=>(if t282=true then (some true) else (some false))) else (some false))) else (some false)) else (some false)) else (some false)) else (some false))=some r:=h;clear h;by_cases c3:a0_0=a1_0
 ·rw [if_pos c3] at H;have c3b0:(a0_0 == a1_0)=true:=beq_iff_eq.mpr c3;have c3b1:(a0_0 != a1_0)=false:=bne_eq_false_iff_eq.mpr c3;clear c3;by_cases c4:a0_1=a1_1
  ·rw [if_pos c4] at H;have c4b0:(a0_1 == a1_1)=true:=beq_iff_eq.mpr c4;have c4b1:(a0_1 != a1_1)=false:=bne_eq_false_iff_eq.mpr c4;clear c4;by_cases c5:a0_2=a1_2
   ·rw [if_pos c5] at H;have c5b0:(a0_2 == a1_2)=true:=beq_iff_eq.mpr c5;have c5b1:(a0_2 != a1_2)=false:=bne_eq_false_iff_eq.mpr c5;clear c5;by_cases c6:a0_3=a1_3
    ·rw [if_pos c6] at H;have c6b0:(a0_3 == a1_3)=true:=beq_iff_eq.mpr c6;have c6b1:(a0_3 != a1_3)=false:=bne_eq_false_iff_eq.mpr c6;clear c6;replace H:=Option.bind_eq_some_iff.mp H;obtain ⟨t281,A70,H⟩:=H;replace H:(if t281=true then ((Xz.f k l0_5 l1_5).bind fun t282=>(if t282=true then (some true) else (some false))) else (some false))=some r:=H;have A7:=Xa.mk A70;clear A70;by_cases c8:t281=true
     ·subst c8
      have H1:((Xz.f k l0_5 l1_5).bind fun t282=>(if t282=true then (some true) else (some false)))=some r:=by rw [if_pos rfl] at H;exact H
      clear H;have H:=H1;clear H1;replace H:=Option.bind_eq_some_iff.mp H;obtain ⟨t282,A90,H⟩:=H;replace H:(if t282=true then (some true) else (some false))=some r:=H;have A9:=Xa.mk A90;clear A90;by_cases c10:t282=true
      ·subst c10
       have H1:(some true)=some r:=by rw [if_pos rfl] at H;exact H
       clear H;have H:=H1;clear H1;obtain rfl:=Option.some.inj H
       go_enter Tryd.func43,Tryd.ntmps43
       go_wp2_with (first|((with_reducible refine Xy (N:=2) rfl ?_);refine Xw ?hg (N:=2) ?hd (cs:=#[.int .i64 a0_0,.int .i64 a0_1,.int .i64 a0_2,.int .i64 a0_3,.slice A0_4 l0_4.length c0_4,.slice A0_5 l0_5.length c0_5]) (t:=63) ?hr ?_;(case hd=>rfl);(case hg=>rfl);(case hr=>first|(go_simp;done)|(go_simp;rfl));intro gb279 hg w11 hbox hb;have n0_:=Xa.mk (Xc (bl_ HB) hb);have n1_:=Xa.mk (hbox);have n2_:=Xa.mk ((by rw [hg];exact (Xb (bl_ HB)):w.heap.size≤gb279));have n3_:=Xa.mk ((by rw [hg];exact (Xb (bl_ HB)):w.heap.size≤gb279));clear HB;have HB:=n0_;have BK279:=n1_;have GW279:=n2_;have GE279:=n3_;clear n0_ n1_ n2_ n3_;clear hb hbox hg)|((with_reducible refine Xy (N:=3) rfl ?_);refine Xw ?hg (N:=3) ?hd (cs:=#[.int .i64 a1_0,.int .i64 a1_1,.int .i64 a1_2,.int .i64 a1_3,.slice A1_4 l1_4.length c1_4,.slice A1_5 l1_5.length c1_5]) (t:=63) ?hr ?_;(case hd=>rfl);(case hg=>rfl);(case hr=>first|(go_simp;done)|(go_simp;rfl));intro gb280 hg w12 hbox hb;have n0_:=Xa.mk (Xh (g:=gb279) (o:=.cells #[.int .i64 a0_0,.int .i64 a0_1,.int .i64 a0_2,.int .i64 a0_3,.slice A0_4 l0_4.length c0_4,.slice A0_5 l0_5.length c0_5] 63 (0,0)) (ba_ BK279) hb);have n1_:=Xa.mk (Xc (bl_ HB) hb);have n2_:=Xa.mk (hbox);have n3_:=Xa.mk ((by rw [hg];exact (Xb (bl_ HB)):w.heap.size≤gb280));have n4_:=Xa.mk ((by rw [hg];exact (Xb (bl_ HB)):w.heap.size≤gb280));have n5_:=Xa.mk ((by rw [hg];exact Nat.ne_of_lt (Ym (g:=gb279) (o:=.cells #[.int .i64 a0_0,.int .i64 a0_1,.int .i64 a0_2,.int .i64 a0_3,.slice A0_4 l0_4.length c0_4,.slice A0_5 l0_5.length c0_5] 63 (0,0)) (ba_ BK279)):gb279≠gb280));have n6_:=Xa.mk ((by rw [hg];exact Nat.ne_of_gt (Ym (g:=gb279) (o:=.cells #[.int .i64 a0_0,.int .i64 a0_1,.int .i64 a0_2,.int .i64 a0_3,.slice A0_4 l0_4.length c0_4,.slice A0_5 l0_5.length c0_5] 63 (0,0)) (ba_ BK279)):gb280≠gb279));clear BK279;clear HB;have BK279:=n0_;have HB:=n1_;have BK280:=n2_;have GW280:=n3_;have GE280:=n4_;have NB279_280:=n5_;have NB280_279:=n6_;clear n0_ n1_ n2_ n3_ n4_ n5_ n6_;clear hb hbox hg;have hnb13:=NB279_280.out;have hnc13:=NB280_279.out;obtain ⟨hcz14_0,hcz14_1,hcz14_2,hcz14_3,hcz14_4,hcz14_5⟩:=bc6_ BK279.out;obtain ⟨hfz14_0,hfz14_1,hfz14_2,hfz14_3,hfz14_4,hfz14_5⟩:=bf6_ BK279.out;obtain ⟨hcz15_0,hcz15_1,hcz15_2,hcz15_3,hcz15_4,hcz15_5⟩:=bc6_ BK280.out;obtain ⟨hfz15_0,hfz15_1,hfz15_2,hfz15_3,hfz15_4,hfz15_5⟩:=bf6_ BK280.out)|((with_reducible refine Xo (f:=36) rfl ?_);refine Ye (some 29) rfl rfl Tryd.func36 (by kernel_rfl) rfl #[.slice A0_4 l0_4.length c0_4,.slice A1_4 l1_4.length c1_4] rfl ga_ ?_;(with_reducible refine (ih_laws_eqStmtS k (by omega) _ _ l0_4 _ _ l1_4 true _ ?side1 ?side2 ?side3 ?side4 A7.out).mono ?_);(case side1=>repeat (first|exact (Kd.Xl HR0_4.out HB.out)|(with_reducible refine Kd.Xe ?_ _)|(with_reducible refine Kd.Xf ?_ _)|(with_reducible refine Kd.Xn ?_)));(case side2=>exact HC0_4.out);(case side3=>repeat (first|exact (Kd.Xl HR1_4.out HB.out)|(with_reducible refine Kd.Xe ?_ _)|(with_reducible refine Kd.Xf ?_ _)|(with_reducible refine Kd.Xn ?_)));(case side4=>exact HC1_4.out);rintro e w16 ⟨rfl,hb⟩;refine ⟨_,rfl,?_⟩;have n0_:=Xa.mk (Xh (g:=gb279) (o:=.cells #[.int .i64 a0_0,.int .i64 a0_1,.int .i64 a0_2,.int .i64 a0_3,.slice A0_4 l0_4.length c0_4,.slice A0_5 l0_5.length c0_5] 63 (0,0)) (ba_ BK279) hb);have n1_:=Xa.mk (Xh (g:=gb280) (o:=.cells #[.int .i64 a1_0,.int .i64 a1_1,.int .i64 a1_2,.int .i64 a1_3,.slice A1_4 l1_4.length c1_4,.slice A1_5 l1_5.length c1_5] 63 (0,0)) (ba_ BK280) hb);have n2_:=Xa.mk (Xc (bl_ HB) hb);clear BK279;clear BK280;clear HB;have BK279:=n0_;have BK280:=n1_;have HB:=n2_;clear n0_ n1_ n2_;(try clear hb);(try clear hb2);(try clear hk);(try clear hi);obtain ⟨hcz17_0,hcz17_1,hcz17_2,hcz17_3,hcz17_4,hcz17_5⟩:=bc6_ BK279.out;obtain ⟨hfz17_0,hfz17_1,hfz17_2,hfz17_3,hfz17_4,hfz17_5⟩:=bf6_ BK279.out;obtain ⟨hcz18_0,hcz18_1,hcz18_2,hcz18_3,hcz18_4,hcz18_5⟩:=bc6_ BK280.out;obtain ⟨hfz18_0,hfz18_1,hfz18_2,hfz18_3,hfz18_4,hfz18_5⟩:=bf6_ BK280.out)|((with_reducible refine Xo (f:=36) rfl ?_);refine Ye (some 35) rfl rfl Tryd.func36 (by kernel_rfl) rfl #[.slice A0_5 l0_5.length c0_5,.slice A1_5 l1_5.length c1_5] rfl ga_ ?_;(with_reducible refine (ih_laws_eqStmtS k (by omega) _ _ l0_5 _ _ l1_5 true _ ?side1 ?side2 ?side3 ?side4 A9.out).mono ?_);(case side1=>repeat (first|exact (Kd.Xl HR0_5.out HB.out)|(with_reducible refine Kd.Xe ?_ _)|(with_reducible refine Kd.Xf ?_ _)|(with_reducible refine Kd.Xn ?_)));(case side2=>exact HC0_5.out);(case side3=>repeat (first|exact (Kd.Xl HR1_5.out HB.out)|(with_reducible refine Kd.Xe ?_ _)|(with_reducible refine Kd.Xf ?_ _)|(with_reducible refine Kd.Xn ?_)));(case side4=>exact HC1_5.out);rintro e w19 ⟨rfl,hb⟩;refine ⟨_,rfl,?_⟩;have n0_:=Xa.mk (Xh (g:=gb279) (o:=.cells #[.int .i64 a0_0,.int .i64 a0_1,.int .i64 a0_2,.int .i64 a0_3,.slice A0_4 l0_4.length c0_4,.slice A0_5 l0_5.length c0_5] 63 (0,0)) (ba_ BK279) hb);have n1_:=Xa.mk (Xh (g:=gb280) (o:=.cells #[.int .i64 a1_0,.int .i64 a1_1,.int .i64 a1_2,.int .i64 a1_3,.slice A1_4 l1_4.length c1_4,.slice A1_5 l1_5.length c1_5] 63 (0,0)) (ba_ BK280) hb);have n2_:=Xa.mk (Xc (bl_ HB) hb);clear BK279;clear BK280;clear HB;have BK279:=n0_;have BK280:=n1_;have HB:=n2_;clear n0_ n1_ n2_;(try clear hb);(try clear hb2);(try clear hk);(try clear hi)))
       go_ret
       exact ⟨rf_,bl_ HB⟩
      ·replace c10:=Bool.eq_false_iff.mpr c10;subst c10
       have H1:(some false)=some r:=by rw [if_neg (show ¬ (false=true) by decide)] at H;exact H
       clear H;have H:=H1;clear H1;obtain rfl:=Option.some.inj H
       go_enter Tryd.func43,Tryd.ntmps43
       go_wp2_with (first|((with_reducible refine Xy (N:=2) rfl ?_);refine Xw ?hg (N:=2) ?hd (cs:=#[.int .i64 a0_0,.int .i64 a0_1,.int .i64 a0_2,.int .i64 a0_3,.slice A0_4 l0_4.length c0_4,.slice A0_5 l0_5.length c0_5]) (t:=63) ?hr ?_;(case hd=>rfl);(case hg=>rfl);(case hr=>first|(go_simp;done)|(go_simp;rfl));intro gb279 hg w20 hbox hb;have n0_:=Xa.mk (Xc (bl_ HB) hb);have n1_:=Xa.mk (hbox);have n2_:=Xa.mk ((by rw [hg];exact (Xb (bl_ HB)):w.heap.size≤gb279));have n3_:=Xa.mk ((by rw [hg];exact (Xb (bl_ HB)):w.heap.size≤gb279));clear HB;have HB:=n0_;have BK279:=n1_;have GW279:=n2_;have GE279:=n3_;clear n0_ n1_ n2_ n3_;clear hb hbox hg)|((with_reducible refine Xy (N:=3) rfl ?_);refine Xw ?hg (N:=3) ?hd (cs:=#[.int .i64 a1_0,.int .i64 a1_1,.int .i64 a1_2,.int .i64 a1_3,.slice A1_4 l1_4.length c1_4,.slice A1_5 l1_5.length c1_5]) (t:=63) ?hr ?_;(case hd=>rfl);(case hg=>rfl);(case hr=>first|(go_simp;done)|(go_simp;rfl));intro gb280 hg w21 hbox hb;have n0_:=Xa.mk (Xh (g:=gb279) (o:=.cells #[.int .i64 a0_0,.int .i64 a0_1,.int .i64 a0_2,.int .i64 a0_3,.slice A0_4 l0_4.length c0_4,.slice A0_5 l0_5.length c0_5] 63 (0,0)) (ba_ BK279) hb);have n1_:=Xa.mk (Xc (bl_ HB) hb);have n2_:=Xa.mk (hbox);have n3_:=Xa.mk ((by rw [hg];exact (Xb (bl_ HB)):w.heap.size≤gb280));have n4_:=Xa.mk ((by rw [hg];exact (Xb (bl_ HB)):w.heap.size≤gb280));have n5_:=Xa.mk ((by rw [hg];exact Nat.ne_of_lt (Ym (g:=gb279) (o:=.cells #[.int .i64 a0_0,.int .i64 a0_1,.int .i64 a0_2,.int .i64 a0_3,.slice A0_4 l0_4.length c0_4,.slice A0_5 l0_5.length c0_5] 63 (0,0)) (ba_ BK279)):gb279≠gb280));have n6_:=Xa.mk ((by rw [hg];exact Nat.ne_of_gt (Ym (g:=gb279) (o:=.cells #[.int .i64 a0_0,.int .i64 a0_1,.int .i64 a0_2,.int .i64 a0_3,.slice A0_4 l0_4.length c0_4,.slice A0_5 l0_5.length c0_5] 63 (0,0)) (ba_ BK279)):gb280≠gb279));clear BK279;clear HB;have BK279:=n0_;have HB:=n1_;have BK280:=n2_;have GW280:=n3_;have GE280:=n4_;have NB279_280:=n5_;have NB280_279:=n6_;clear n0_ n1_ n2_ n3_ n4_ n5_ n6_;clear hb hbox hg;have hnb22:=NB279_280.out;have hnc22:=NB280_279.out;obtain ⟨hcz23_0,hcz23_1,hcz23_2,hcz23_3,hcz23_4,hcz23_5⟩:=bc6_ BK279.out;obtain ⟨hfz23_0,hfz23_1,hfz23_2,hfz23_3,hfz23_4,hfz23_5⟩:=bf6_ BK279.out;obtain ⟨hcz24_0,hcz24_1,hcz24_2,hcz24_3,hcz24_4,hcz24_5⟩:=bc6_ BK280.out;obtain ⟨hfz24_0,hfz24_1,hfz24_2,hfz24_3,hfz24_4,hfz24_5⟩:=bf6_ BK280.out)|((with_reducible refine Xo (f:=36) rfl ?_);refine Ye (some 29) rfl rfl Tryd.func36 (by kernel_rfl) rfl #[.slice A0_4 l0_4.length c0_4,.slice A1_4 l1_4.length c1_4] rfl ga_ ?_;(with_reducible refine (ih_laws_eqStmtS k (by omega) _ _ l0_4 _ _ l1_4 true _ ?side1 ?side2 ?side3 ?side4 A7.out).mono ?_);(case side1=>repeat (first|exact (Kd.Xl HR0_4.out HB.out)|(with_reducible refine Kd.Xe ?_ _)|(with_reducible refine Kd.Xf ?_ _)|(with_reducible refine Kd.Xn ?_)));(case side2=>exact HC0_4.out);(case side3=>repeat (first|exact (Kd.Xl HR1_4.out HB.out)|(with_reducible refine Kd.Xe ?_ _)|(with_reducible refine Kd.Xf ?_ _)|(with_reducible refine Kd.Xn ?_)));(case side4=>exact HC1_4.out);rintro e w25 ⟨rfl,hb⟩;refine ⟨_,rfl,?_⟩;have n0_:=Xa.mk (Xh (g:=gb279) (o:=.cells #[.int .i64 a0_0,.int .i64 a0_1,.int .i64 a0_2,.int .i64 a0_3,.slice A0_4 l0_4.length c0_4,.slice A0_5 l0_5.length c0_5] 63 (0,0)) (ba_ BK279) hb);have n1_:=Xa.mk (Xh (g:=gb280) (o:=.cells #[.int .i64 a1_0,.int .i64 a1_1,.int .i64 a1_2,.int .i64 a1_3,.slice A1_4 l1_4.length c1_4,.slice A1_5 l1_5.length c1_5] 63 (0,0)) (ba_ BK280) hb);have n2_:=Xa.mk (Xc (bl_ HB) hb);clear BK279;clear BK280;clear HB;have BK279:=n0_;have BK280:=n1_;have HB:=n2_;clear n0_ n1_ n2_;(try clear hb);(try clear hb2);(try clear hk);(try clear hi);obtain ⟨hcz26_0,hcz26_1,hcz26_2,hcz26_3,hcz26_4,hcz26_5⟩:=bc6_ BK279.out;obtain ⟨hfz26_0,hfz26_1,hfz26_2,hfz26_3,hfz26_4,hfz26_5⟩:=bf6_ BK279.out;obtain ⟨hcz27_0,hcz27_1,hcz27_2,hcz27_3,hcz27_4,hcz27_5⟩:=bc6_ BK280.out;obtain ⟨hfz27_0,hfz27_1,hfz27_2,hfz27_3,hfz27_4,hfz27_5⟩:=bf6_ BK280.out)|((with_reducible refine Xo (f:=36) rfl ?_);refine Ye (some 35) rfl rfl Tryd.func36 (by kernel_rfl) rfl #[.slice A0_5 l0_5.length c0_5,.slice A1_5 l1_5.length c1_5] rfl ga_ ?_;(with_reducible refine (ih_laws_eqStmtS k (by omega) _ _ l0_5 _ _ l1_5 false _ ?side1 ?side2 ?side3 ?side4 A9.out).mono ?_);(case side1=>repeat (first|exact (Kd.Xl HR0_5.out HB.out)|(with_reducible refine Kd.Xe ?_ _)|(with_reducible refine Kd.Xf ?_ _)|(with_reducible refine Kd.Xn ?_)));(case side2=>exact HC0_5.out);(case side3=>repeat (first|exact (Kd.Xl HR1_5.out HB.out)|(with_reducible refine Kd.Xe ?_ _)|(with_reducible refine Kd.Xf ?_ _)|(with_reducible refine Kd.Xn ?_)));(case side4=>exact HC1_5.out);rintro e w28 ⟨rfl,hb⟩;refine ⟨_,rfl,?_⟩;have n0_:=Xa.mk (Xh (g:=gb279) (o:=.cells #[.int .i64 a0_0,.int .i64 a0_1,.int .i64 a0_2,.int .i64 a0_3,.slice A0_4 l0_4.length c0_4,.slice A0_5 l0_5.length c0_5] 63 (0,0)) (ba_ BK279) hb);have n1_:=Xa.mk (Xh (g:=gb280) (o:=.cells #[.int .i64 a1_0,.int .i64 a1_1,.int .i64 a1_2,.int .i64 a1_3,.slice A1_4 l1_4.length c1_4,.slice A1_5 l1_5.length c1_5] 63 (0,0)) (ba_ BK280) hb);have n2_:=Xa.mk (Xc (bl_ HB) hb);clear BK279;clear BK280;clear HB;have BK279:=n0_;have BK280:=n1_;have HB:=n2_;clear n0_ n1_ n2_;(try clear hb);(try clear hb2);(try clear hk);(try clear hi)))
       go_ret
       exact ⟨rf_,bl_ HB⟩
     ·replace c8:=Bool.eq_false_iff.mpr c8;subst c8
      have H1:(some false)=some r:=by rw [if_neg (show ¬ (false=true) by decide)] at H;exact H
      clear H;have H:=H1;clear H1;obtain rfl:=Option.some.inj H
      go_enter Tryd.func43,Tryd.ntmps43
      go_wp2_with (first|((with_reducible refine Xy (N:=2) rfl ?_);refine Xw ?hg (N:=2) ?hd (cs:=#[.int .i64 a0_0,.int .i64 a0_1,.int .i64 a0_2,.int .i64 a0_3,.slice A0_4 l0_4.length c0_4,.slice A0_5 l0_5.length c0_5]) (t:=63) ?hr ?_;(case hd=>rfl);(case hg=>rfl);(case hr=>first|(go_simp;done)|(go_simp;rfl));intro gb279 hg w29 hbox hb;have n0_:=Xa.mk (Xc (bl_ HB) hb);have n1_:=Xa.mk (hbox);have n2_:=Xa.mk ((by rw [hg];exact (Xb (bl_ HB)):w.heap.size≤gb279));have n3_:=Xa.mk ((by rw [hg];exact (Xb (bl_ HB)):w.heap.size≤gb279));clear HB;have HB:=n0_;have BK279:=n1_;have GW279:=n2_;have GE279:=n3_;clear n0_ n1_ n2_ n3_;clear hb hbox hg)|((with_reducible refine Xy (N:=3) rfl ?_);refine Xw ?hg (N:=3) ?hd (cs:=#[.int .i64 a1_0,.int .i64 a1_1,.int .i64 a1_2,.int .i64 a1_3,.slice A1_4 l1_4.length c1_4,.slice A1_5 l1_5.length c1_5]) (t:=63) ?hr ?_;(case hd=>rfl);(case hg=>rfl);(case hr=>first|(go_simp;done)|(go_simp;rfl));intro gb280 hg w30 hbox hb;have n0_:=Xa.mk (Xh (g:=gb279) (o:=.cells #[.int .i64 a0_0,.int .i64 a0_1,.int .i64 a0_2,.int .i64 a0_3,.slice A0_4 l0_4.length c0_4,.slice A0_5 l0_5.length c0_5] 63 (0,0)) (ba_ BK279) hb);have n1_:=Xa.mk (Xc (bl_ HB) hb);have n2_:=Xa.mk (hbox);have n3_:=Xa.mk ((by rw [hg];exact (Xb (bl_ HB)):w.heap.size≤gb280));have n4_:=Xa.mk ((by rw [hg];exact (Xb (bl_ HB)):w.heap.size≤gb280));have n5_:=Xa.mk ((by rw [hg];exact Nat.ne_of_lt (Ym (g:=gb279) (o:=.cells #[.int .i64 a0_0,.int .i64 a0_1,.int .i64 a0_2,.int .i64 a0_3,.slice A0_4 l0_4.length c0_4,.slice A0_5 l0_5.length c0_5] 63 (0,0)) (ba_ BK279)):gb279≠gb280));have n6_:=Xa.mk ((by rw [hg];exact Nat.ne_of_gt (Ym (g:=gb279) (o:=.cells #[.int .i64 a0_0,.int .i64 a0_1,.int .i64 a0_2,.int .i64 a0_3,.slice A0_4 l0_4.length c0_4,.slice A0_5 l0_5.length c0_5] 63 (0,0)) (ba_ BK279)):gb280≠gb279));clear BK279;clear HB;have BK279:=n0_;have HB:=n1_;have BK280:=n2_;have GW280:=n3_;have GE280:=n4_;have NB279_280:=n5_;have NB280_279:=n6_;clear n0_ n1_ n2_ n3_ n4_ n5_ n6_;clear hb hbox hg;have hnb31:=NB279_280.out;have hnc31:=NB280_279.out;obtain ⟨hcz32_0,hcz32_1,hcz32_2,hcz32_3,hcz32_4,hcz32_5⟩:=bc6_ BK279.out;obtain ⟨hfz32_0,hfz32_1,hfz32_2,hfz32_3,hfz32_4,hfz32_5⟩:=bf6_ BK279.out;obtain ⟨hcz33_0,hcz33_1,hcz33_2,hcz33_3,hcz33_4,hcz33_5⟩:=bc6_ BK280.out;obtain ⟨hfz33_0,hfz33_1,hfz33_2,hfz33_3,hfz33_4,hfz33_5⟩:=bf6_ BK280.out)|((with_reducible refine Xo (f:=36) rfl ?_);refine Ye (some 29) rfl rfl Tryd.func36 (by kernel_rfl) rfl #[.slice A0_4 l0_4.length c0_4,.slice A1_4 l1_4.length c1_4] rfl ga_ ?_;(with_reducible refine (ih_laws_eqStmtS k (by omega) _ _ l0_4 _ _ l1_4 false _ ?side1 ?side2 ?side3 ?side4 A7.out).mono ?_);(case side1=>repeat (first|exact (Kd.Xl HR0_4.out HB.out)|(with_reducible refine Kd.Xe ?_ _)|(with_reducible refine Kd.Xf ?_ _)|(with_reducible refine Kd.Xn ?_)));(case side2=>exact HC0_4.out);(case side3=>repeat (first|exact (Kd.Xl HR1_4.out HB.out)|(with_reducible refine Kd.Xe ?_ _)|(with_reducible refine Kd.Xf ?_ _)|(with_reducible refine Kd.Xn ?_)));(case side4=>exact HC1_4.out);rintro e w34 ⟨rfl,hb⟩;refine ⟨_,rfl,?_⟩;have n0_:=Xa.mk (Xh (g:=gb279) (o:=.cells #[.int .i64 a0_0,.int .i64 a0_1,.int .i64 a0_2,.int .i64 a0_3,.slice A0_4 l0_4.length c0_4,.slice A0_5 l0_5.length c0_5] 63 (0,0)) (ba_ BK279) hb);have n1_:=Xa.mk (Xh (g:=gb280) (o:=.cells #[.int .i64 a1_0,.int .i64 a1_1,.int .i64 a1_2,.int .i64 a1_3,.slice A1_4 l1_4.length c1_4,.slice A1_5 l1_5.length c1_5] 63 (0,0)) (ba_ BK280) hb);have n2_:=Xa.mk (Xc (bl_ HB) hb);clear BK279;clear BK280;clear HB;have BK279:=n0_;have BK280:=n1_;have HB:=n2_;clear n0_ n1_ n2_;(try clear hb);(try clear hb2);(try clear hk);(try clear hi)))
      go_ret
      exact ⟨rf_,bl_ HB⟩
    ·rw [if_neg c6] at H;have c6b0:(a0_3 == a1_3)=false:=beq_eq_false_iff_ne.mpr c6;have c6b1:(a0_3 != a1_3)=true:=bne_iff_ne.mpr c6;obtain rfl:=Option.some.inj H
     go_enter Tryd.func43,Tryd.ntmps43
     go_wp2_with (first|((with_reducible refine Xy (N:=2) rfl ?_);refine Xw ?hg (N:=2) ?hd (cs:=#[.int .i64 a0_0,.int .i64 a0_1,.int .i64 a0_2,.int .i64 a0_3,.slice A0_4 l0_4.length c0_4,.slice A0_5 l0_5.length c0_5]) (t:=63) ?hr ?_;(case hd=>rfl);(case hg=>rfl);(case hr=>first|(go_simp;done)|(go_simp;rfl));intro gb279 hg w35 hbox hb;have n0_:=Xa.mk (Xc (bl_ HB) hb);have n1_:=Xa.mk (hbox);have n2_:=Xa.mk ((by rw [hg];exact (Xb (bl_ HB)):w.heap.size≤gb279));have n3_:=Xa.mk ((by rw [hg];exact (Xb (bl_ HB)):w.heap.size≤gb279));clear HB;have HB:=n0_;have BK279:=n1_;have GW279:=n2_;have GE279:=n3_;clear n0_ n1_ n2_ n3_;clear hb hbox hg)|((with_reducible refine Xy (N:=3) rfl ?_);refine Xw ?hg (N:=3) ?hd (cs:=#[.int .i64 a1_0,.int .i64 a1_1,.int .i64 a1_2,.int .i64 a1_3,.slice A1_4 l1_4.length c1_4,.slice A1_5 l1_5.length c1_5]) (t:=63) ?hr ?_;(case hd=>rfl);(case hg=>rfl);(case hr=>first|(go_simp;done)|(go_simp;rfl));intro gb280 hg w36 hbox hb;have n0_:=Xa.mk (Xh (g:=gb279) (o:=.cells #[.int .i64 a0_0,.int .i64 a0_1,.int .i64 a0_2,.int .i64 a0_3,.slice A0_4 l0_4.length c0_4,.slice A0_5 l0_5.length c0_5] 63 (0,0)) (ba_ BK279) hb);have n1_:=Xa.mk (Xc (bl_ HB) hb);have n2_:=Xa.mk (hbox);have n3_:=Xa.mk ((by rw [hg];exact (Xb (bl_ HB)):w.heap.size≤gb280));have n4_:=Xa.mk ((by rw [hg];exact (Xb (bl_ HB)):w.heap.size≤gb280));have n5_:=Xa.mk ((by rw [hg];exact Nat.ne_of_lt (Ym (g:=gb279) (o:=.cells #[.int .i64 a0_0,.int .i64 a0_1,.int .i64 a0_2,.int .i64 a0_3,.slice A0_4 l0_4.length c0_4,.slice A0_5 l0_5.length c0_5] 63 (0,0)) (ba_ BK279)):gb279≠gb280));have n6_:=Xa.mk ((by rw [hg];exact Nat.ne_of_gt (Ym (g:=gb279) (o:=.cells #[.int .i64 a0_0,.int .i64 a0_1,.int .i64 a0_2,.int .i64 a0_3,.slice A0_4 l0_4.length c0_4,.slice A0_5 l0_5.length c0_5] 63 (0,0)) (ba_ BK279)):gb280≠gb279));clear BK279;clear HB;have BK279:=n0_;have HB:=n1_;have BK280:=n2_;have GW280:=n3_;have GE280:=n4_;have NB279_280:=n5_;have NB280_279:=n6_;clear n0_ n1_ n2_ n3_ n4_ n5_ n6_;clear hb hbox hg;have hnb37:=NB279_280.out;have hnc37:=NB280_279.out;obtain ⟨hcz38_0,hcz38_1,hcz38_2,hcz38_3,hcz38_4,hcz38_5⟩:=bc6_ BK279.out;obtain ⟨hfz38_0,hfz38_1,hfz38_2,hfz38_3,hfz38_4,hfz38_5⟩:=bf6_ BK279.out;obtain ⟨hcz39_0,hcz39_1,hcz39_2,hcz39_3,hcz39_4,hcz39_5⟩:=bc6_ BK280.out;obtain ⟨hfz39_0,hfz39_1,hfz39_2,hfz39_3,hfz39_4,hfz39_5⟩:=bf6_ BK280.out))
     go_ret
     exact ⟨rf_,bl_ HB⟩
   ·rw [if_neg c5] at H;have c5b0:(a0_2 == a1_2)=false:=beq_eq_false_iff_ne.mpr c5;have c5b1:(a0_2 != a1_2)=true:=bne_iff_ne.mpr c5;obtain rfl:=Option.some.inj H
    go_enter Tryd.func43,Tryd.ntmps43
    go_wp2_with (first|((with_reducible refine Xy (N:=2) rfl ?_);refine Xw ?hg (N:=2) ?hd (cs:=#[.int .i64 a0_0,.int .i64 a0_1,.int .i64 a0_2,.int .i64 a0_3,.slice A0_4 l0_4.length c0_4,.slice A0_5 l0_5.length c0_5]) (t:=63) ?hr ?_;(case hd=>rfl);(case hg=>rfl);(case hr=>first|(go_simp;done)|(go_simp;rfl));intro gb279 hg w40 hbox hb;have n0_:=Xa.mk (Xc (bl_ HB) hb);have n1_:=Xa.mk (hbox);have n2_:=Xa.mk ((by rw [hg];exact (Xb (bl_ HB)):w.heap.size≤gb279));have n3_:=Xa.mk ((by rw [hg];exact (Xb (bl_ HB)):w.heap.size≤gb279));clear HB;have HB:=n0_;have BK279:=n1_;have GW279:=n2_;have GE279:=n3_;clear n0_ n1_ n2_ n3_;clear hb hbox hg)|((with_reducible refine Xy (N:=3) rfl ?_);refine Xw ?hg (N:=3) ?hd (cs:=#[.int .i64 a1_0,.int .i64 a1_1,.int .i64 a1_2,.int .i64 a1_3,.slice A1_4 l1_4.length c1_4,.slice A1_5 l1_5.length c1_5]) (t:=63) ?hr ?_;(case hd=>rfl);(case hg=>rfl);(case hr=>first|(go_simp;done)|(go_simp;rfl));intro gb280 hg w41 hbox hb;have n0_:=Xa.mk (Xh (g:=gb279) (o:=.cells #[.int .i64 a0_0,.int .i64 a0_1,.int .i64 a0_2,.int .i64 a0_3,.slice A0_4 l0_4.length c0_4,.slice A0_5 l0_5.length c0_5] 63 (0,0)) (ba_ BK279) hb);have n1_:=Xa.mk (Xc (bl_ HB) hb);have n2_:=Xa.mk (hbox);have n3_:=Xa.mk ((by rw [hg];exact (Xb (bl_ HB)):w.heap.size≤gb280));have n4_:=Xa.mk ((by rw [hg];exact (Xb (bl_ HB)):w.heap.size≤gb280));have n5_:=Xa.mk ((by rw [hg];exact Nat.ne_of_lt (Ym (g:=gb279) (o:=.cells #[.int .i64 a0_0,.int .i64 a0_1,.int .i64 a0_2,.int .i64 a0_3,.slice A0_4 l0_4.length c0_4,.slice A0_5 l0_5.length c0_5] 63 (0,0)) (ba_ BK279)):gb279≠gb280));have n6_:=Xa.mk ((by rw [hg];exact Nat.ne_of_gt (Ym (g:=gb279) (o:=.cells #[.int .i64 a0_0,.int .i64 a0_1,.int .i64 a0_2,.int .i64 a0_3,.slice A0_4 l0_4.length c0_4,.slice A0_5 l0_5.length c0_5] 63 (0,0)) (ba_ BK279)):gb280≠gb279));clear BK279;clear HB;have BK279:=n0_;have HB:=n1_;have BK280:=n2_;have GW280:=n3_;have GE280:=n4_;have NB279_280:=n5_;have NB280_279:=n6_;clear n0_ n1_ n2_ n3_ n4_ n5_ n6_;clear hb hbox hg;have hnb42:=NB279_280.out;have hnc42:=NB280_279.out;obtain ⟨hcz43_0,hcz43_1,hcz43_2,hcz43_3,hcz43_4,hcz43_5⟩:=bc6_ BK279.out;obtain ⟨hfz43_0,hfz43_1,hfz43_2,hfz43_3,hfz43_4,hfz43_5⟩:=bf6_ BK279.out;obtain ⟨hcz44_0,hcz44_1,hcz44_2,hcz44_3,hcz44_4,hcz44_5⟩:=bc6_ BK280.out;obtain ⟨hfz44_0,hfz44_1,hfz44_2,hfz44_3,hfz44_4,hfz44_5⟩:=bf6_ BK280.out))
    go_ret
    exact ⟨rf_,bl_ HB⟩
  ·rw [if_neg c4] at H;have c4b0:(a0_1 == a1_1)=false:=beq_eq_false_iff_ne.mpr c4;have c4b1:(a0_1 != a1_1)=true:=bne_iff_ne.mpr c4;obtain rfl:=Option.some.inj H
   go_enter Tryd.func43,Tryd.ntmps43
   go_wp2_with (first|((with_reducible refine Xy (N:=2) rfl ?_);refine Xw ?hg (N:=2) ?hd (cs:=#[.int .i64 a0_0,.int .i64 a0_1,.int .i64 a0_2,.int .i64 a0_3,.slice A0_4 l0_4.length c0_4,.slice A0_5 l0_5.length c0_5]) (t:=63) ?hr ?_;(case hd=>rfl);(case hg=>rfl);(case hr=>first|(go_simp;done)|(go_simp;rfl));intro gb279 hg w45 hbox hb;have n0_:=Xa.mk (Xc (bl_ HB) hb);have n1_:=Xa.mk (hbox);have n2_:=Xa.mk ((by rw [hg];exact (Xb (bl_ HB)):w.heap.size≤gb279));have n3_:=Xa.mk ((by rw [hg];exact (Xb (bl_ HB)):w.heap.size≤gb279));clear HB;have HB:=n0_;have BK279:=n1_;have GW279:=n2_;have GE279:=n3_;clear n0_ n1_ n2_ n3_;clear hb hbox hg)|((with_reducible refine Xy (N:=3) rfl ?_);refine Xw ?hg (N:=3) ?hd (cs:=#[.int .i64 a1_0,.int .i64 a1_1,.int .i64 a1_2,.int .i64 a1_3,.slice A1_4 l1_4.length c1_4,.slice A1_5 l1_5.length c1_5]) (t:=63) ?hr ?_;(case hd=>rfl);(case hg=>rfl);(case hr=>first|(go_simp;done)|(go_simp;rfl));intro gb280 hg w46 hbox hb;have n0_:=Xa.mk (Xh (g:=gb279) (o:=.cells #[.int .i64 a0_0,.int .i64 a0_1,.int .i64 a0_2,.int .i64 a0_3,.slice A0_4 l0_4.length c0_4,.slice A0_5 l0_5.length c0_5] 63 (0,0)) (ba_ BK279) hb);have n1_:=Xa.mk (Xc (bl_ HB) hb);have n2_:=Xa.mk (hbox);have n3_:=Xa.mk ((by rw [hg];exact (Xb (bl_ HB)):w.heap.size≤gb280));have n4_:=Xa.mk ((by rw [hg];exact (Xb (bl_ HB)):w.heap.size≤gb280));have n5_:=Xa.mk ((by rw [hg];exact Nat.ne_of_lt (Ym (g:=gb279) (o:=.cells #[.int .i64 a0_0,.int .i64 a0_1,.int .i64 a0_2,.int .i64 a0_3,.slice A0_4 l0_4.length c0_4,.slice A0_5 l0_5.length c0_5] 63 (0,0)) (ba_ BK279)):gb279≠gb280));have n6_:=Xa.mk ((by rw [hg];exact Nat.ne_of_gt (Ym (g:=gb279) (o:=.cells #[.int .i64 a0_0,.int .i64 a0_1,.int .i64 a0_2,.int .i64 a0_3,.slice A0_4 l0_4.length c0_4,.slice A0_5 l0_5.length c0_5] 63 (0,0)) (ba_ BK279)):gb280≠gb279));clear BK279;clear HB;have BK279:=n0_;have HB:=n1_;have BK280:=n2_;have GW280:=n3_;have GE280:=n4_;have NB279_280:=n5_;have NB280_279:=n6_;clear n0_ n1_ n2_ n3_ n4_ n5_ n6_;clear hb hbox hg;have hnb47:=NB279_280.out;have hnc47:=NB280_279.out;obtain ⟨hcz48_0,hcz48_1,hcz48_2,hcz48_3,hcz48_4,hcz48_5⟩:=bc6_ BK279.out;obtain ⟨hfz48_0,hfz48_1,hfz48_2,hfz48_3,hfz48_4,hfz48_5⟩:=bf6_ BK279.out;obtain ⟨hcz49_0,hcz49_1,hcz49_2,hcz49_3,hcz49_4,hcz49_5⟩:=bc6_ BK280.out;obtain ⟨hfz49_0,hfz49_1,hfz49_2,hfz49_3,hfz49_4,hfz49_5⟩:=bf6_ BK280.out))
   go_ret
   exact ⟨rf_,bl_ HB⟩
 ·rw [if_neg c3] at H;have c3b0:(a0_0 == a1_0)=false:=beq_eq_false_iff_ne.mpr c3;have c3b1:(a0_0 != a1_0)=true:=bne_iff_ne.mpr c3;obtain rfl:=Option.some.inj H
  go_enter Tryd.func43,Tryd.ntmps43
  go_wp2_with (first|((with_reducible refine Xy (N:=2) rfl ?_);refine Xw ?hg (N:=2) ?hd (cs:=#[.int .i64 a0_0,.int .i64 a0_1,.int .i64 a0_2,.int .i64 a0_3,.slice A0_4 l0_4.length c0_4,.slice A0_5 l0_5.length c0_5]) (t:=63) ?hr ?_;(case hd=>rfl);(case hg=>rfl);(case hr=>first|(go_simp;done)|(go_simp;rfl));intro gb279 hg w50 hbox hb;have n0_:=Xa.mk (Xc (bl_ HB) hb);have n1_:=Xa.mk (hbox);have n2_:=Xa.mk ((by rw [hg];exact (Xb (bl_ HB)):w.heap.size≤gb279));have n3_:=Xa.mk ((by rw [hg];exact (Xb (bl_ HB)):w.heap.size≤gb279));clear HB;have HB:=n0_;have BK279:=n1_;have GW279:=n2_;have GE279:=n3_;clear n0_ n1_ n2_ n3_;clear hb hbox hg)|((with_reducible refine Xy (N:=3) rfl ?_);refine Xw ?hg (N:=3) ?hd (cs:=#[.int .i64 a1_0,.int .i64 a1_1,.int .i64 a1_2,.int .i64 a1_3,.slice A1_4 l1_4.length c1_4,.slice A1_5 l1_5.length c1_5]) (t:=63) ?hr ?_;(case hd=>rfl);(case hg=>rfl);(case hr=>first|(go_simp;done)|(go_simp;rfl));intro gb280 hg w51 hbox hb;have n0_:=Xa.mk (Xh (g:=gb279) (o:=.cells #[.int .i64 a0_0,.int .i64 a0_1,.int .i64 a0_2,.int .i64 a0_3,.slice A0_4 l0_4.length c0_4,.slice A0_5 l0_5.length c0_5] 63 (0,0)) (ba_ BK279) hb);have n1_:=Xa.mk (Xc (bl_ HB) hb);have n2_:=Xa.mk (hbox);have n3_:=Xa.mk ((by rw [hg];exact (Xb (bl_ HB)):w.heap.size≤gb280));have n4_:=Xa.mk ((by rw [hg];exact (Xb (bl_ HB)):w.heap.size≤gb280));have n5_:=Xa.mk ((by rw [hg];exact Nat.ne_of_lt (Ym (g:=gb279) (o:=.cells #[.int .i64 a0_0,.int .i64 a0_1,.int .i64 a0_2,.int .i64 a0_3,.slice A0_4 l0_4.length c0_4,.slice A0_5 l0_5.length c0_5] 63 (0,0)) (ba_ BK279)):gb279≠gb280));have n6_:=Xa.mk ((by rw [hg];exact Nat.ne_of_gt (Ym (g:=gb279) (o:=.cells #[.int .i64 a0_0,.int .i64 a0_1,.int .i64 a0_2,.int .i64 a0_3,.slice A0_4 l0_4.length c0_4,.slice A0_5 l0_5.length c0_5] 63 (0,0)) (ba_ BK279)):gb280≠gb279));clear BK279;clear HB;have BK279:=n0_;have HB:=n1_;have BK280:=n2_;have GW280:=n3_;have GE280:=n4_;have NB279_280:=n5_;have NB280_279:=n6_;clear n0_ n1_ n2_ n3_ n4_ n5_ n6_;clear hb hbox hg;have hnb52:=NB279_280.out;have hnc52:=NB280_279.out;obtain ⟨hcz53_0,hcz53_1,hcz53_2,hcz53_3,hcz53_4,hcz53_5⟩:=bc6_ BK279.out;obtain ⟨hfz53_0,hfz53_1,hfz53_2,hfz53_3,hfz53_4,hfz53_5⟩:=bf6_ BK279.out;obtain ⟨hcz54_0,hcz54_1,hcz54_2,hcz54_3,hcz54_4,hcz54_5⟩:=bc6_ BK280.out;obtain ⟨hfz54_0,hfz54_1,hfz54_2,hfz54_3,hfz54_4,hfz54_5⟩:=bf6_ BK280.out))
  go_ret
  exact ⟨rf_,bl_ HB⟩
def Xz.T6:Bool × List (List Nat × List Nat):=(true,[([],[]),([],[]),([0,1],[0,1]),([2],[2]),([],[]),([],[]),([4,5],[4,5]),([6],[6]),([3,7],[3,7]),([8],[8])])
def Xz.B6:List Nat:=[0,0,3,7,0,0,48,112,255,511]
theorem Xz.tab6:rtab .any (opsOf Tryd.f36 6)=Xz.T6:=by kernel_rfl
theorem Xz.bits6:waitsOk Xz.T6.2 Xz.B6=true:=by kernel_rfl
set_option maxHeartbeats 8000000 in
set_option maxRecDepth 100000 in
theorem Xz.step (k:Nat) (ih_laws_eqStmt:∀ m_,m_<k→∀ (a0_0:Int) (a0_1:Int) (a0_2:Int) (a0_3:Int) (A0_4:Option Addr) (c0_4:Nat) (l0_4:List (S63)) (A0_5:Option Addr) (c0_5:Nat) (l0_5:List (S63)) (a1_0:Int) (a1_1:Int) (a1_2:Int) (a1_3:Int) (A1_4:Option Addr) (c1_4:Nat) (l1_4:List (S63)) (A1_5:Option Addr) (c1_5:Nat) (l1_5:List (S63)) (r:Bool) (w:World) (hr0_4:Kd.C k63 w A0_4 l0_4.length l0_4) (hc0_4:l0_4.length≤c0_4) (hr0_5:Kd.C k63 w A0_5 l0_5.length l0_5) (hc0_5:l0_5.length≤c0_5) (hr1_4:Kd.C k63 w A1_4 l1_4.length l1_4) (hc1_4:l1_4.length≤c1_4) (hr1_5:Kd.C k63 w A1_5 l1_5.length l1_5) (hc1_5:l1_5.length≤c1_5) (h:Ub.f m_ a0_0 a0_1 a0_2 a0_3 l0_4 l0_5 a1_0 a1_1 a1_2 a1_3 l1_4 l1_5=some r),
  Calls Tryd.prog 43 #[.agg #[.int .i64 a0_0,.int .i64 a0_1,.int .i64 a0_2,.int .i64 a0_3,.slice A0_4 l0_4.length c0_4,.slice A0_5 l0_5.length c0_5],.agg #[.int .i64 a1_0,.int .i64 a1_1,.int .i64 a1_2,.int .i64 a1_3,.slice A1_4 l1_4.length c1_4,.slice A1_5 l1_5.length c1_5]] w fun e w'=>e=.returned (.bool r)∧Below w.heap.size w w') (ih:∀ m_,m_<k→∀ (A0:Option Addr) (c0:Nat) (l0:List (S63)) (A1:Option Addr) (c1:Nat) (l1:List (S63)) (r:Bool) (w:World) (hr0:Kd.C k63 w A0 l0.length l0) (hc0:l0.length≤c0) (hr1:Kd.C k63 w A1 l1.length l1) (hc1:l1.length≤c1) (h:Xz.f m_ l0 l1=some r),
  Calls Tryd.prog 36 #[.slice A0 l0.length c0,.slice A1 l1.length c1] w fun e w'=>e=.returned (.bool r)∧Below w.heap.size w w'):∀ (A0:Option Addr) (c0:Nat) (l0:List (S63)) (A1:Option Addr) (c1:Nat) (l1:List (S63)) (r:Bool) (w:World) (hr0:Kd.C k63 w A0 l0.length l0) (hc0:l0.length≤c0) (hr1:Kd.C k63 w A1 l1.length l1) (hc1:l1.length≤c1) (h:Xz.f k l0 l1=some r),
  Calls Tryd.prog 36 #[.slice A0 l0.length c0,.slice A1 l1.length c1] w fun e w'=>e=.returned (.bool r)∧Below w.heap.size w w':=by
 intro A0 c0 l0 A1 c1 l1 r w hr0 hc0 hr1 hc1 h
 cases k with
 |zero=>exact absurd h (by simp [Xz.f])
 |succ k=>
 simp only [Xz.f] at h;have hu63:=Tryd.underlying63;have HR0:=Xa.mk hr0;have HC0:=Xa.mk hc0;clear hr0 hc0;have HR1:=Xa.mk hr1;have HC1:=Xa.mk hc1;clear hr1 hc1;have HB:=Xa.mk (Below.refl w.heap.size w);have H:(if (l0.length:Int)=(l1.length:Int) then (Xz.l0 k l0 l1 0) else (some false))=some r:=h;clear h;by_cases c3:(l0.length:Int)=(l1.length:Int)
 ·rw [if_pos c3] at H;have c3b0:((l0.length:Int) == (l1.length:Int))=true:=beq_iff_eq.mpr c3;have c3b1:((l0.length:Int) != (l1.length:Int))=false:=bne_eq_false_iff_eq.mpr c3
  have c3b2:(l0.length == l1.length)=true:=by first|simpa using c3|(simp at c3 ⊢;omega)
  clear c3;have H':=Xa.mk H;clear H
  go_enter Tryd.func36,Tryd.ntmps36
  go_wp2
  go_loopg [5] k (fun kq v5 w'=>∃ (x5_1:Int),v5=.int .i64 x5_1∧Xa (Xz.l0 kq l0 l1 x5_1=some r)∧Xa (kq≤k)∧Xa (Below w.heap.size w w'))
  case atStart=>exact ⟨(0),(by first|rfl|(simp;done)|(simp [*];done)),H',⟨Nat.le_refl _⟩,⟨bl_ HB⟩⟩
  case round=>
   clear H'
   try clear c1
   try clear p2
   try clear c3
   try clear c3b0
   try clear c3b1
   try clear c3b2
   obtain ⟨x5_1,rfl,HA,HK1,HB⟩:=hrel
   cases gk with
   |zero=>exact absurd HA.out (by simp [Xz.l0])
   |succ k1=>
    have H:=HA.out;clear HA;simp only [Xz.l0] at H;by_cases c4:x5_1<(l0.length:Int)
    ·rw [if_pos c4] at H;have c4b0:decide (x5_1<(l0.length:Int))=true:=decide_eq_true c4;clear c4;by_cases c5:0≤x5_1
     ·rw [if_pos c5] at H;have c5b0:decide (0≤x5_1)=true:=decide_eq_true c5;clear c5;by_cases c6:x5_1<(l1.length:Int)
      ·rw [if_pos c6] at H;have c6b0:decide (x5_1<(l1.length:Int))=true:=decide_eq_true c6;clear c6;replace H:=Option.bind_eq_some_iff.mp H;obtain ⟨t285,A70,H⟩:=H;replace H:(if t285=true then (Xz.l0 k1 l0 l1 (wrap64 (x5_1+1))) else (some false))=some r:=H;have A7:=Xa.mk A70;clear A70;by_cases c8:t285=true
       ·subst c8
        have H1:(Xz.l0 k1 l0 l1 (wrap64 (x5_1+1)))=some r:=by rw [if_pos rfl] at H;exact H
        clear H;have H:=H1;clear H1;have H':=Xa.mk H;clear H
        try go_wp2
        have n0_:=Xa.mk (Zt HB.out);clear HB;have HB:=n0_;clear n0_;have p283:0≤(x5_1:Int):=of_decide_eq_true (by first|(with_reducible assumption)|assumption);have q283:x5_1<(l0.length:Int):=of_decide_eq_true (by first|(with_reducible assumption)|assumption);obtain ⟨ad283,A283_4,c283_4,A283_5,c283_5,e283,hx283_0,hx283_1,hx283_2,hx283_3,hx283_4,hx283_5,hl283_4,hi283_4,hl283_5,hi283_5⟩:=at_T63 HR0.out x5_1 p283 q283;have hw283_5:=hx283_5;have hw283_4:=hx283_4;have hw283_3:=hx283_3;have hw283_2:=hx283_2;have hw283_1:=hx283_1;have hw283_0:=hx283_0;cases e283
        replace hx283_0:=(HB.out.cell (World.block_lt_of_cell? w _ hx283_0)).trans hx283_0;replace hx283_1:=(HB.out.cell (World.block_lt_of_cell? w _ hx283_1)).trans hx283_1;replace hx283_2:=(HB.out.cell (World.block_lt_of_cell? w _ hx283_2)).trans hx283_2;replace hx283_3:=(HB.out.cell (World.block_lt_of_cell? w _ hx283_3)).trans hx283_3;replace hx283_4:=(HB.out.cell (World.block_lt_of_cell? w _ hx283_4)).trans hx283_4;replace hx283_5:=(HB.out.cell (World.block_lt_of_cell? w _ hx283_5)).trans hx283_5;have HR283_4:=Xa.mk hi283_4;have HC283_4:=Xa.mk hl283_4;clear hi283_4 hl283_4;have HR283_5:=Xa.mk hi283_5;have HC283_5:=Xa.mk hl283_5;clear hi283_5 hl283_5;replace p283:=eq_true p283;replace q283:=eq_true q283;have p284:0≤(x5_1:Int):=of_decide_eq_true (by first|(with_reducible assumption)|assumption);have q284:x5_1<(l1.length:Int):=of_decide_eq_true (by first|(with_reducible assumption)|assumption);obtain ⟨ad284,A284_4,c284_4,A284_5,c284_5,e284,hx284_0,hx284_1,hx284_2,hx284_3,hx284_4,hx284_5,hl284_4,hi284_4,hl284_5,hi284_5⟩:=at_T63 HR1.out x5_1 p284 q284;have hw284_5:=hx284_5;have hw284_4:=hx284_4;have hw284_3:=hx284_3;have hw284_2:=hx284_2;have hw284_1:=hx284_1;have hw284_0:=hx284_0;cases e284
        replace hx284_0:=(HB.out.cell (World.block_lt_of_cell? w _ hx284_0)).trans hx284_0;replace hx284_1:=(HB.out.cell (World.block_lt_of_cell? w _ hx284_1)).trans hx284_1;replace hx284_2:=(HB.out.cell (World.block_lt_of_cell? w _ hx284_2)).trans hx284_2;replace hx284_3:=(HB.out.cell (World.block_lt_of_cell? w _ hx284_3)).trans hx284_3;replace hx284_4:=(HB.out.cell (World.block_lt_of_cell? w _ hx284_4)).trans hx284_4;replace hx284_5:=(HB.out.cell (World.block_lt_of_cell? w _ hx284_5)).trans hx284_5;have HR284_4:=Xa.mk hi284_4;have HC284_4:=Xa.mk hl284_4;clear hi284_4 hl284_4;have HR284_5:=Xa.mk hi284_5;have HC284_5:=Xa.mk hl284_5;clear hi284_5 hl284_5;replace p284:=eq_true p284;replace q284:=eq_true q284;refine start_ (n:=10) (S:=fun w'=>w'.cell? (ad283.add ((x5_1).toNat * 6))=some (.int .i64 ((Xg l0 x5_1).f0))∧w'.cell? ⟨(ad283.add ((x5_1).toNat * 6)).block,(ad283.add ((x5_1).toNat * 6)).off+1,none⟩=some (.int .i64 ((Xg l0 x5_1).f1))∧w'.cell? ⟨(ad283.add ((x5_1).toNat * 6)).block,(ad283.add ((x5_1).toNat * 6)).off+2,none⟩=some (.int .i64 ((Xg l0 x5_1).f2))∧w'.cell? ⟨(ad283.add ((x5_1).toNat * 6)).block,(ad283.add ((x5_1).toNat * 6)).off+3,none⟩=some (.int .i64 ((Xg l0 x5_1).f3))∧w'.cell? ⟨(ad283.add ((x5_1).toNat * 6)).block,(ad283.add ((x5_1).toNat * 6)).off+4,none⟩=some (.slice A283_4 ((Xg l0 x5_1).f4).length c283_4)∧w'.cell? ⟨(ad283.add ((x5_1).toNat * 6)).block,(ad283.add ((x5_1).toNat * 6)).off+5,none⟩=some (.slice A283_5 ((Xg l0 x5_1).f5).length c283_5)∧w'.cell? (ad284.add ((x5_1).toNat * 6))=some (.int .i64 ((Xg l1 x5_1).f0))∧w'.cell? ⟨(ad284.add ((x5_1).toNat * 6)).block,(ad284.add ((x5_1).toNat * 6)).off+1,none⟩=some (.int .i64 ((Xg l1 x5_1).f1))∧w'.cell? ⟨(ad284.add ((x5_1).toNat * 6)).block,(ad284.add ((x5_1).toNat * 6)).off+2,none⟩=some (.int .i64 ((Xg l1 x5_1).f2))∧w'.cell? ⟨(ad284.add ((x5_1).toNat * 6)).block,(ad284.add ((x5_1).toNat * 6)).off+3,none⟩=some (.int .i64 ((Xg l1 x5_1).f3))∧w'.cell? ⟨(ad284.add ((x5_1).toNat * 6)).block,(ad284.add ((x5_1).toNat * 6)).off+4,none⟩=some (.slice A284_4 ((Xg l1 x5_1).f4).length c284_4)∧w'.cell? ⟨(ad284.add ((x5_1).toNat * 6)).block,(ad284.add ((x5_1).toNat * 6)).off+5,none⟩=some (.slice A284_5 ((Xg l1 x5_1).f5).length c284_5)) (ds:=[]) #[false,false,false,false,false,false,false,false,false,false] (by kernel_rfl) rfl rfl ⟨((HB.out.cell (World.block_lt_of_cell? w _ hw283_0)).trans hw283_0),((HB.out.cell (World.block_lt_of_cell? w _ hw283_1)).trans hw283_1),((HB.out.cell (World.block_lt_of_cell? w _ hw283_2)).trans hw283_2),((HB.out.cell (World.block_lt_of_cell? w _ hw283_3)).trans hw283_3),((HB.out.cell (World.block_lt_of_cell? w _ hw283_4)).trans hw283_4),((HB.out.cell (World.block_lt_of_cell? w _ hw283_5)).trans hw283_5),((HB.out.cell (World.block_lt_of_cell? w _ hw284_0)).trans hw284_0),((HB.out.cell (World.block_lt_of_cell? w _ hw284_1)).trans hw284_1),((HB.out.cell (World.block_lt_of_cell? w _ hw284_2)).trans hw284_2),((HB.out.cell (World.block_lt_of_cell? w _ hw284_3)).trans hw284_3),((HB.out.cell (World.block_lt_of_cell? w _ hw284_4)).trans hw284_4),((HB.out.cell (World.block_lt_of_cell? w _ hw284_5)).trans hw284_5)⟩ (fun hHeld=>?_);refine with_tabW Xz.tab6 Xz.bits6 (fun HT_ HW_=>?_)
        generalize wr.drew=w9 at HB HR283_4 HR283_5 HR284_4 HR284_5 hx283_0 hx283_1 hx283_2 hx283_3 hx283_4 hx283_5 hx284_0 hx284_1 hx284_2 hx284_3 hx284_4 hx284_5 hHeld ⊢
        refine Yf (i:=0) (N:=some 17) (v:=?_) (a':=?_) #[true,false,false,false,false,false,false,false,false,false] rfl rfl (Ya HT_.out (by kernel_rfl)) (fun _ _ _ h=>h) (Or.inl ⟨by rfl,?_⟩) ?_ ?_
        rotate_left
        ·intro w';go_simp
         with_reducible rfl
        rotate_left
        ·simp only [Act.put,List.setIfInBounds_toArray,List.set_cons_zero,List.set_cons_succ,Xu,Xt];rfl
        refine Yf (i:=1) (N:=some 18) (v:=?_) (a':=?_) #[true,true,false,false,false,false,false,false,false,false] rfl rfl (Ya HT_.out (by kernel_rfl)) (fun _ _ _ h=>h) (Or.inl ⟨by rfl,?_⟩) ?_ ?_
        rotate_left
        ·intro w';go_simp
         with_reducible rfl
        rotate_left
        ·simp only [Act.put,List.setIfInBounds_toArray,List.set_cons_zero,List.set_cons_succ,Xu,Xt];rfl
        refine Yf (i:=2) (N:=some 19) (v:=?_) (a':=?_) #[true,true,true,false,false,false,false,false,false,false] rfl rfl (Ya HT_.out (by kernel_rfl)) (fun _ _ _ h=>h) (Or.inl ⟨by rfl,?_⟩) ?_ ?_
        rotate_left
        ·intro w';go_simp
         with_reducible rfl
        rotate_left
        ·simp only [Act.put,List.setIfInBounds_toArray,List.set_cons_zero,List.set_cons_succ,Xu,Xt];rfl
        refine Yf (i:=4) (N:=some 21) (v:=?_) (a':=?_) #[true,true,true,false,true,false,false,false,false,false] rfl rfl (Ya HT_.out (by kernel_rfl)) (fun _ _ _ h=>h) (Or.inl ⟨by rfl,?_⟩) ?_ ?_
        rotate_left
        ·intro w';go_simp
         with_reducible rfl
        rotate_left
        ·simp only [Act.put,List.setIfInBounds_toArray,List.set_cons_zero,List.set_cons_succ,Xu,Xt];rfl
        refine Yf (i:=5) (N:=some 22) (v:=?_) (a':=?_) #[true,true,true,false,true,true,false,false,false,false] rfl rfl (Ya HT_.out (by kernel_rfl)) (fun _ _ _ h=>h) (Or.inl ⟨by rfl,?_⟩) ?_ ?_
        rotate_left
        ·intro w';go_simp
         with_reducible rfl
        rotate_left
        ·simp only [Act.put,List.setIfInBounds_toArray,List.set_cons_zero,List.set_cons_succ,Xu,Xt];rfl
        refine Yf (i:=6) (N:=some 23) (v:=?_) (a':=?_) #[true,true,true,false,true,true,true,false,false,false] rfl rfl (Ya HT_.out (by kernel_rfl)) (fun _ _ _ h=>h) (Or.inl ⟨by rfl,?_⟩) ?_ ?_
        rotate_left
        ·intro w';go_simp
         with_reducible rfl
        rotate_left
        ·simp only [Act.put,List.setIfInBounds_toArray,List.set_cons_zero,List.set_cons_succ,Xu,Xt];rfl
        refine Zw (i:=3) (N:=some 20) (v:=?_) (a':=?_) #[true,true,true,true,true,true,true,false,false,false] rfl rfl (Zb HT_.out HW_.out (by kernel_rfl)) (fun _ _ _ h=>h) (Or.inl ⟨by rfl,?_⟩) hHeld ?_ ?_
        rotate_left
        ·rintro w' ⟨s0,s1,s2,s3,s4,s5,s6,s7,s8,s9,s10,s11⟩
         go_simp
         with_reducible rfl
        rotate_left
        ·simp only [Act.put,List.setIfInBounds_toArray,List.set_cons_zero,List.set_cons_succ,Xu,Xt];rfl
        refine Zw (i:=7) (N:=some 24) (v:=?_) (a':=?_) #[true,true,true,true,true,true,true,true,false,false] rfl rfl (Zb HT_.out HW_.out (by kernel_rfl)) (fun _ _ _ h=>h) (Or.inl ⟨by rfl,?_⟩) hHeld ?_ ?_
        rotate_left
        ·rintro w' ⟨s0,s1,s2,s3,s4,s5,s6,s7,s8,s9,s10,s11⟩
         go_simp
         with_reducible rfl
        rotate_left
        ·simp only [Act.put,List.setIfInBounds_toArray,List.set_cons_zero,List.set_cons_succ,Xu,Xt];rfl
        refine one_ (i:=8) (N:=some 25) #[true,true,true,true,true,true,true,true,true,false] rfl rfl (Ue HT_.out (by kernel_rfl)) (by decide) (fun K hK=>?_)
        refine goes_ Tryd.func43 (by kernel_rfl) rfl #[.agg #[.int .i64 ((Xg l0 x5_1).f0),.int .i64 ((Xg l0 x5_1).f1),.int .i64 ((Xg l0 x5_1).f2),.int .i64 ((Xg l0 x5_1).f3),.slice A283_4 ((Xg l0 x5_1).f4).length c283_4,.slice A283_5 ((Xg l0 x5_1).f5).length c283_5],.agg #[.int .i64 ((Xg l1 x5_1).f0),.int .i64 ((Xg l1 x5_1).f1),.int .i64 ((Xg l1 x5_1).f2),.int .i64 ((Xg l1 x5_1).f3),.slice A284_4 ((Xg l1 x5_1).f4).length c284_4,.slice A284_5 ((Xg l1 x5_1).f5).length c284_5]] (by rfl) rfl rfl ga_ ?_
        with_reducible refine (ih_laws_eqStmt k1 (by have:=HK1.out;omega) ((Xg l0 x5_1).f0) ((Xg l0 x5_1).f1) ((Xg l0 x5_1).f2) ((Xg l0 x5_1).f3) _ _ ((Xg l0 x5_1).f4) _ _ ((Xg l0 x5_1).f5) ((Xg l1 x5_1).f0) ((Xg l1 x5_1).f1) ((Xg l1 x5_1).f2) ((Xg l1 x5_1).f3) _ _ ((Xg l1 x5_1).f4) _ _ ((Xg l1 x5_1).f5) true _ ?side1 ?side2 ?side3 ?side4 ?side5 ?side6 ?side7 ?side8 A7.out).mono ?_
        (case side1=>repeat (first|exact (Kd.Xl HR283_4.out HB.out)|(with_reducible refine Kd.Xe ?_ _)|(with_reducible refine Kd.Xf ?_ _)|(with_reducible refine Kd.Xn ?_)))
        (case side2=>exact HC283_4.out)
        (case side3=>repeat (first|exact (Kd.Xl HR283_5.out HB.out)|(with_reducible refine Kd.Xe ?_ _)|(with_reducible refine Kd.Xf ?_ _)|(with_reducible refine Kd.Xn ?_)))
        (case side4=>exact HC283_5.out)
        (case side5=>repeat (first|exact (Kd.Xl HR284_4.out HB.out)|(with_reducible refine Kd.Xe ?_ _)|(with_reducible refine Kd.Xf ?_ _)|(with_reducible refine Kd.Xn ?_)))
        (case side6=>exact HC284_4.out)
        (case side7=>repeat (first|exact (Kd.Xl HR284_5.out HB.out)|(with_reducible refine Kd.Xe ?_ _)|(with_reducible refine Kd.Xf ?_ _)|(with_reducible refine Kd.Xn ?_)))
        (case side8=>exact HC284_5.out)
        rintro e w10 ⟨rfl,hb⟩
        refine ⟨_,rfl,?_⟩
        have n0_:=Xa.mk (Xc (bl_ HB) hb);clear HB;have HB:=n0_;clear n0_
        (try clear hb)
        (try clear hb2)
        (try clear hk)
        (try clear hi)
        refine hK.out _ _ ⟨((HB.out.cell (World.block_lt_of_cell? w _ hw283_0)).trans hw283_0),((HB.out.cell (World.block_lt_of_cell? w _ hw283_1)).trans hw283_1),((HB.out.cell (World.block_lt_of_cell? w _ hw283_2)).trans hw283_2),((HB.out.cell (World.block_lt_of_cell? w _ hw283_3)).trans hw283_3),((HB.out.cell (World.block_lt_of_cell? w _ hw283_4)).trans hw283_4),((HB.out.cell (World.block_lt_of_cell? w _ hw283_5)).trans hw283_5),((HB.out.cell (World.block_lt_of_cell? w _ hw284_0)).trans hw284_0),((HB.out.cell (World.block_lt_of_cell? w _ hw284_1)).trans hw284_1),((HB.out.cell (World.block_lt_of_cell? w _ hw284_2)).trans hw284_2),((HB.out.cell (World.block_lt_of_cell? w _ hw284_3)).trans hw284_3),((HB.out.cell (World.block_lt_of_cell? w _ hw284_4)).trans hw284_4),((HB.out.cell (World.block_lt_of_cell? w _ hw284_5)).trans hw284_5)⟩ (fun hHeld=>?_)
        clear hK K;refine norm_ (a':=?_) ?_ ?_
        rotate_left
        ·show Act.put _ (some 25) _=_
         simp only [Act.put,List.setIfInBounds_toArray,List.set_cons_zero,List.set_cons_succ,Xu,Xt];rfl
        refine Yf (i:=9) (N:=some 26) (v:=?_) (a':=?_) #[true,true,true,true,true,true,true,true,true,true] rfl rfl (Ya HT_.out (by kernel_rfl)) (fun _ _ _ h=>h) (Or.inl ⟨by rfl,?_⟩) ?_ ?_
        rotate_left
        ·intro w';go_simp
         with_reducible rfl
        rotate_left
        ·simp only [Act.put,List.setIfInBounds_toArray,List.set_cons_zero,List.set_cons_succ,Xu,Xt];rfl
        refine done_ (done_of HT_.out (by kernel_rfl)) ?_
        try go_wp2
        go_roundg k1
        case measure=>have:=HK1.out;omega
        case rel=>exact ⟨(wrap64 (x5_1+1)),(by first|rfl|(simp;done)|(simp [*];done)),H',⟨by have:=HK1.out;omega⟩,⟨bl_ HB⟩⟩
       ·replace c8:=Bool.eq_false_iff.mpr c8;subst c8
        have H1:(some false)=some r:=by rw [if_neg (show ¬ (false=true) by decide)] at H;exact H
        clear H;have H:=H1;clear H1;obtain rfl:=Option.some.inj H
        try go_wp2
        have n0_:=Xa.mk (Zt HB.out);clear HB;have HB:=n0_;clear n0_;have p283:0≤(x5_1:Int):=of_decide_eq_true (by first|(with_reducible assumption)|assumption);have q283:x5_1<(l0.length:Int):=of_decide_eq_true (by first|(with_reducible assumption)|assumption);obtain ⟨ad283,A283_4,c283_4,A283_5,c283_5,e283,hx283_0,hx283_1,hx283_2,hx283_3,hx283_4,hx283_5,hl283_4,hi283_4,hl283_5,hi283_5⟩:=at_T63 HR0.out x5_1 p283 q283;have hw283_5:=hx283_5;have hw283_4:=hx283_4;have hw283_3:=hx283_3;have hw283_2:=hx283_2;have hw283_1:=hx283_1;have hw283_0:=hx283_0;cases e283
        replace hx283_0:=(HB.out.cell (World.block_lt_of_cell? w _ hx283_0)).trans hx283_0;replace hx283_1:=(HB.out.cell (World.block_lt_of_cell? w _ hx283_1)).trans hx283_1;replace hx283_2:=(HB.out.cell (World.block_lt_of_cell? w _ hx283_2)).trans hx283_2;replace hx283_3:=(HB.out.cell (World.block_lt_of_cell? w _ hx283_3)).trans hx283_3;replace hx283_4:=(HB.out.cell (World.block_lt_of_cell? w _ hx283_4)).trans hx283_4;replace hx283_5:=(HB.out.cell (World.block_lt_of_cell? w _ hx283_5)).trans hx283_5;have HR283_4:=Xa.mk hi283_4;have HC283_4:=Xa.mk hl283_4;clear hi283_4 hl283_4;have HR283_5:=Xa.mk hi283_5;have HC283_5:=Xa.mk hl283_5;clear hi283_5 hl283_5;replace p283:=eq_true p283;replace q283:=eq_true q283;have p284:0≤(x5_1:Int):=of_decide_eq_true (by first|(with_reducible assumption)|assumption);have q284:x5_1<(l1.length:Int):=of_decide_eq_true (by first|(with_reducible assumption)|assumption);obtain ⟨ad284,A284_4,c284_4,A284_5,c284_5,e284,hx284_0,hx284_1,hx284_2,hx284_3,hx284_4,hx284_5,hl284_4,hi284_4,hl284_5,hi284_5⟩:=at_T63 HR1.out x5_1 p284 q284;have hw284_5:=hx284_5;have hw284_4:=hx284_4;have hw284_3:=hx284_3;have hw284_2:=hx284_2;have hw284_1:=hx284_1;have hw284_0:=hx284_0;cases e284
        replace hx284_0:=(HB.out.cell (World.block_lt_of_cell? w _ hx284_0)).trans hx284_0;replace hx284_1:=(HB.out.cell (World.block_lt_of_cell? w _ hx284_1)).trans hx284_1;replace hx284_2:=(HB.out.cell (World.block_lt_of_cell? w _ hx284_2)).trans hx284_2;replace hx284_3:=(HB.out.cell (World.block_lt_of_cell? w _ hx284_3)).trans hx284_3;replace hx284_4:=(HB.out.cell (World.block_lt_of_cell? w _ hx284_4)).trans hx284_4;replace hx284_5:=(HB.out.cell (World.block_lt_of_cell? w _ hx284_5)).trans hx284_5;have HR284_4:=Xa.mk hi284_4;have HC284_4:=Xa.mk hl284_4;clear hi284_4 hl284_4;have HR284_5:=Xa.mk hi284_5;have HC284_5:=Xa.mk hl284_5;clear hi284_5 hl284_5;replace p284:=eq_true p284;replace q284:=eq_true q284;refine start_ (n:=10) (S:=fun w'=>w'.cell? (ad283.add ((x5_1).toNat * 6))=some (.int .i64 ((Xg l0 x5_1).f0))∧w'.cell? ⟨(ad283.add ((x5_1).toNat * 6)).block,(ad283.add ((x5_1).toNat * 6)).off+1,none⟩=some (.int .i64 ((Xg l0 x5_1).f1))∧w'.cell? ⟨(ad283.add ((x5_1).toNat * 6)).block,(ad283.add ((x5_1).toNat * 6)).off+2,none⟩=some (.int .i64 ((Xg l0 x5_1).f2))∧w'.cell? ⟨(ad283.add ((x5_1).toNat * 6)).block,(ad283.add ((x5_1).toNat * 6)).off+3,none⟩=some (.int .i64 ((Xg l0 x5_1).f3))∧w'.cell? ⟨(ad283.add ((x5_1).toNat * 6)).block,(ad283.add ((x5_1).toNat * 6)).off+4,none⟩=some (.slice A283_4 ((Xg l0 x5_1).f4).length c283_4)∧w'.cell? ⟨(ad283.add ((x5_1).toNat * 6)).block,(ad283.add ((x5_1).toNat * 6)).off+5,none⟩=some (.slice A283_5 ((Xg l0 x5_1).f5).length c283_5)∧w'.cell? (ad284.add ((x5_1).toNat * 6))=some (.int .i64 ((Xg l1 x5_1).f0))∧w'.cell? ⟨(ad284.add ((x5_1).toNat * 6)).block,(ad284.add ((x5_1).toNat * 6)).off+1,none⟩=some (.int .i64 ((Xg l1 x5_1).f1))∧w'.cell? ⟨(ad284.add ((x5_1).toNat * 6)).block,(ad284.add ((x5_1).toNat * 6)).off+2,none⟩=some (.int .i64 ((Xg l1 x5_1).f2))∧w'.cell? ⟨(ad284.add ((x5_1).toNat * 6)).block,(ad284.add ((x5_1).toNat * 6)).off+3,none⟩=some (.int .i64 ((Xg l1 x5_1).f3))∧w'.cell? ⟨(ad284.add ((x5_1).toNat * 6)).block,(ad284.add ((x5_1).toNat * 6)).off+4,none⟩=some (.slice A284_4 ((Xg l1 x5_1).f4).length c284_4)∧w'.cell? ⟨(ad284.add ((x5_1).toNat * 6)).block,(ad284.add ((x5_1).toNat * 6)).off+5,none⟩=some (.slice A284_5 ((Xg l1 x5_1).f5).length c284_5)) (ds:=[]) #[false,false,false,false,false,false,false,false,false,false] (by kernel_rfl) rfl rfl ⟨((HB.out.cell (World.block_lt_of_cell? w _ hw283_0)).trans hw283_0),((HB.out.cell (World.block_lt_of_cell? w _ hw283_1)).trans hw283_1),((HB.out.cell (World.block_lt_of_cell? w _ hw283_2)).trans hw283_2),((HB.out.cell (World.block_lt_of_cell? w _ hw283_3)).trans hw283_3),((HB.out.cell (World.block_lt_of_cell? w _ hw283_4)).trans hw283_4),((HB.out.cell (World.block_lt_of_cell? w _ hw283_5)).trans hw283_5),((HB.out.cell (World.block_lt_of_cell? w _ hw284_0)).trans hw284_0),((HB.out.cell (World.block_lt_of_cell? w _ hw284_1)).trans hw284_1),((HB.out.cell (World.block_lt_of_cell? w _ hw284_2)).trans hw284_2),((HB.out.cell (World.block_lt_of_cell? w _ hw284_3)).trans hw284_3),((HB.out.cell (World.block_lt_of_cell? w _ hw284_4)).trans hw284_4),((HB.out.cell (World.block_lt_of_cell? w _ hw284_5)).trans hw284_5)⟩ (fun hHeld=>?_);refine with_tabW Xz.tab6 Xz.bits6 (fun HT_ HW_=>?_)
        generalize wr.drew=w11 at HB HR283_4 HR283_5 HR284_4 HR284_5 hx283_0 hx283_1 hx283_2 hx283_3 hx283_4 hx283_5 hx284_0 hx284_1 hx284_2 hx284_3 hx284_4 hx284_5 hHeld ⊢
        refine Yf (i:=0) (N:=some 17) (v:=?_) (a':=?_) #[true,false,false,false,false,false,false,false,false,false] rfl rfl (Ya HT_.out (by kernel_rfl)) (fun _ _ _ h=>h) (Or.inl ⟨by rfl,?_⟩) ?_ ?_
        rotate_left
        ·intro w';go_simp
         with_reducible rfl
        rotate_left
        ·simp only [Act.put,List.setIfInBounds_toArray,List.set_cons_zero,List.set_cons_succ,Xu,Xt];rfl
        refine Yf (i:=1) (N:=some 18) (v:=?_) (a':=?_) #[true,true,false,false,false,false,false,false,false,false] rfl rfl (Ya HT_.out (by kernel_rfl)) (fun _ _ _ h=>h) (Or.inl ⟨by rfl,?_⟩) ?_ ?_
        rotate_left
        ·intro w';go_simp
         with_reducible rfl
        rotate_left
        ·simp only [Act.put,List.setIfInBounds_toArray,List.set_cons_zero,List.set_cons_succ,Xu,Xt];rfl
        refine Yf (i:=2) (N:=some 19) (v:=?_) (a':=?_) #[true,true,true,false,false,false,false,false,false,false] rfl rfl (Ya HT_.out (by kernel_rfl)) (fun _ _ _ h=>h) (Or.inl ⟨by rfl,?_⟩) ?_ ?_
        rotate_left
        ·intro w';go_simp
         with_reducible rfl
        rotate_left
        ·simp only [Act.put,List.setIfInBounds_toArray,List.set_cons_zero,List.set_cons_succ,Xu,Xt];rfl
        refine Yf (i:=4) (N:=some 21) (v:=?_) (a':=?_) #[true,true,true,false,true,false,false,false,false,false] rfl rfl (Ya HT_.out (by kernel_rfl)) (fun _ _ _ h=>h) (Or.inl ⟨by rfl,?_⟩) ?_ ?_
        rotate_left
        ·intro w';go_simp
         with_reducible rfl
        rotate_left
        ·simp only [Act.put,List.setIfInBounds_toArray,List.set_cons_zero,List.set_cons_succ,Xu,Xt];rfl
        refine Yf (i:=5) (N:=some 22) (v:=?_) (a':=?_) #[true,true,true,false,true,true,false,false,false,false] rfl rfl (Ya HT_.out (by kernel_rfl)) (fun _ _ _ h=>h) (Or.inl ⟨by rfl,?_⟩) ?_ ?_
        rotate_left
        ·intro w';go_simp
         with_reducible rfl
        rotate_left
        ·simp only [Act.put,List.setIfInBounds_toArray,List.set_cons_zero,List.set_cons_succ,Xu,Xt];rfl
        refine Yf (i:=6) (N:=some 23) (v:=?_) (a':=?_) #[true,true,true,false,true,true,true,false,false,false] rfl rfl (Ya HT_.out (by kernel_rfl)) (fun _ _ _ h=>h) (Or.inl ⟨by rfl,?_⟩) ?_ ?_
        rotate_left
        ·intro w';go_simp
         with_reducible rfl
        rotate_left
        ·simp only [Act.put,List.setIfInBounds_toArray,List.set_cons_zero,List.set_cons_succ,Xu,Xt];rfl
        refine Zw (i:=3) (N:=some 20) (v:=?_) (a':=?_) #[true,true,true,true,true,true,true,false,false,false] rfl rfl (Zb HT_.out HW_.out (by kernel_rfl)) (fun _ _ _ h=>h) (Or.inl ⟨by rfl,?_⟩) hHeld ?_ ?_
        rotate_left
        ·rintro w' ⟨s0,s1,s2,s3,s4,s5,s6,s7,s8,s9,s10,s11⟩
         go_simp
         with_reducible rfl
        rotate_left
        ·simp only [Act.put,List.setIfInBounds_toArray,List.set_cons_zero,List.set_cons_succ,Xu,Xt];rfl
        refine Zw (i:=7) (N:=some 24) (v:=?_) (a':=?_) #[true,true,true,true,true,true,true,true,false,false] rfl rfl (Zb HT_.out HW_.out (by kernel_rfl)) (fun _ _ _ h=>h) (Or.inl ⟨by rfl,?_⟩) hHeld ?_ ?_
        rotate_left
        ·rintro w' ⟨s0,s1,s2,s3,s4,s5,s6,s7,s8,s9,s10,s11⟩
         go_simp
         with_reducible rfl
        rotate_left
        ·simp only [Act.put,List.setIfInBounds_toArray,List.set_cons_zero,List.set_cons_succ,Xu,Xt];rfl
        refine one_ (i:=8) (N:=some 25) #[true,true,true,true,true,true,true,true,true,false] rfl rfl (Ue HT_.out (by kernel_rfl)) (by decide) (fun K hK=>?_)
        refine goes_ Tryd.func43 (by kernel_rfl) rfl #[.agg #[.int .i64 ((Xg l0 x5_1).f0),.int .i64 ((Xg l0 x5_1).f1),.int .i64 ((Xg l0 x5_1).f2),.int .i64 ((Xg l0 x5_1).f3),.slice A283_4 ((Xg l0 x5_1).f4).length c283_4,.slice A283_5 ((Xg l0 x5_1).f5).length c283_5],.agg #[.int .i64 ((Xg l1 x5_1).f0),.int .i64 ((Xg l1 x5_1).f1),.int .i64 ((Xg l1 x5_1).f2),.int .i64 ((Xg l1 x5_1).f3),.slice A284_4 ((Xg l1 x5_1).f4).length c284_4,.slice A284_5 ((Xg l1 x5_1).f5).length c284_5]] (by rfl) rfl rfl ga_ ?_
        with_reducible refine (ih_laws_eqStmt k1 (by have:=HK1.out;omega) ((Xg l0 x5_1).f0) ((Xg l0 x5_1).f1) ((Xg l0 x5_1).f2) ((Xg l0 x5_1).f3) _ _ ((Xg l0 x5_1).f4) _ _ ((Xg l0 x5_1).f5) ((Xg l1 x5_1).f0) ((Xg l1 x5_1).f1) ((Xg l1 x5_1).f2) ((Xg l1 x5_1).f3) _ _ ((Xg l1 x5_1).f4) _ _ ((Xg l1 x5_1).f5) false _ ?side1 ?side2 ?side3 ?side4 ?side5 ?side6 ?side7 ?side8 A7.out).mono ?_
        (case side1=>repeat (first|exact (Kd.Xl HR283_4.out HB.out)|(with_reducible refine Kd.Xe ?_ _)|(with_reducible refine Kd.Xf ?_ _)|(with_reducible refine Kd.Xn ?_)))
        (case side2=>exact HC283_4.out)
        (case side3=>repeat (first|exact (Kd.Xl HR283_5.out HB.out)|(with_reducible refine Kd.Xe ?_ _)|(with_reducible refine Kd.Xf ?_ _)|(with_reducible refine Kd.Xn ?_)))
        (case side4=>exact HC283_5.out)
        (case side5=>repeat (first|exact (Kd.Xl HR284_4.out HB.out)|(with_reducible refine Kd.Xe ?_ _)|(with_reducible refine Kd.Xf ?_ _)|(with_reducible refine Kd.Xn ?_)))
        (case side6=>exact HC284_4.out)
        (case side7=>repeat (first|exact (Kd.Xl HR284_5.out HB.out)|(with_reducible refine Kd.Xe ?_ _)|(with_reducible refine Kd.Xf ?_ _)|(with_reducible refine Kd.Xn ?_)))
        (case side8=>exact HC284_5.out)
        rintro e w12 ⟨rfl,hb⟩
        refine ⟨_,rfl,?_⟩
        have n0_:=Xa.mk (Xc (bl_ HB) hb);clear HB;have HB:=n0_;clear n0_
        (try clear hb)
        (try clear hb2)
        (try clear hk)
        (try clear hi)
        refine hK.out _ _ ⟨((HB.out.cell (World.block_lt_of_cell? w _ hw283_0)).trans hw283_0),((HB.out.cell (World.block_lt_of_cell? w _ hw283_1)).trans hw283_1),((HB.out.cell (World.block_lt_of_cell? w _ hw283_2)).trans hw283_2),((HB.out.cell (World.block_lt_of_cell? w _ hw283_3)).trans hw283_3),((HB.out.cell (World.block_lt_of_cell? w _ hw283_4)).trans hw283_4),((HB.out.cell (World.block_lt_of_cell? w _ hw283_5)).trans hw283_5),((HB.out.cell (World.block_lt_of_cell? w _ hw284_0)).trans hw284_0),((HB.out.cell (World.block_lt_of_cell? w _ hw284_1)).trans hw284_1),((HB.out.cell (World.block_lt_of_cell? w _ hw284_2)).trans hw284_2),((HB.out.cell (World.block_lt_of_cell? w _ hw284_3)).trans hw284_3),((HB.out.cell (World.block_lt_of_cell? w _ hw284_4)).trans hw284_4),((HB.out.cell (World.block_lt_of_cell? w _ hw284_5)).trans hw284_5)⟩ (fun hHeld=>?_)
        clear hK K;refine norm_ (a':=?_) ?_ ?_
        rotate_left
        ·show Act.put _ (some 25) _=_
         simp only [Act.put,List.setIfInBounds_toArray,List.set_cons_zero,List.set_cons_succ,Xu,Xt];rfl
        refine Yf (i:=9) (N:=some 26) (v:=?_) (a':=?_) #[true,true,true,true,true,true,true,true,true,true] rfl rfl (Ya HT_.out (by kernel_rfl)) (fun _ _ _ h=>h) (Or.inl ⟨by rfl,?_⟩) ?_ ?_
        rotate_left
        ·intro w';go_simp
         with_reducible rfl
        rotate_left
        ·simp only [Act.put,List.setIfInBounds_toArray,List.set_cons_zero,List.set_cons_succ,Xu,Xt];rfl
        refine done_ (done_of HT_.out (by kernel_rfl)) ?_
        try go_wp2
        go_ret
        exact ⟨rf_,bl_ HB⟩
      ·rw [if_neg c6] at H;exact absurd H (by simp)
     ·rw [if_neg c5] at H;exact absurd H (by simp)
    ·rw [if_neg c4] at H;have c4b0:decide (x5_1<(l0.length:Int))=false:=decide_eq_false c4;clear c4;obtain rfl:=Option.some.inj H;go_wp2
     go_ret
     exact ⟨rf_,bl_ HB⟩
 ·rw [if_neg c3] at H;have c3b0:((l0.length:Int) == (l1.length:Int))=false:=beq_eq_false_iff_ne.mpr c3;have c3b1:((l0.length:Int) != (l1.length:Int))=true:=bne_iff_ne.mpr c3
  have c3b2:(l0.length == l1.length)=false:=by first|simpa using c3|(simp at c3 ⊢;omega)
  obtain rfl:=Option.some.inj H
  go_enter Tryd.func36,Tryd.ntmps36
  go_wp2
  go_ret
  exact ⟨rf_,bl_ HB⟩
theorem laws_eqStmt_laws_eqStmtS.all (k:Nat):(∀ (a0_0:Int) (a0_1:Int) (a0_2:Int) (a0_3:Int) (A0_4:Option Addr) (c0_4:Nat) (l0_4:List (S63)) (A0_5:Option Addr) (c0_5:Nat) (l0_5:List (S63)) (a1_0:Int) (a1_1:Int) (a1_2:Int) (a1_3:Int) (A1_4:Option Addr) (c1_4:Nat) (l1_4:List (S63)) (A1_5:Option Addr) (c1_5:Nat) (l1_5:List (S63)) (r:Bool) (w:World) (hr0_4:Kd.C k63 w A0_4 l0_4.length l0_4) (hc0_4:l0_4.length≤c0_4) (hr0_5:Kd.C k63 w A0_5 l0_5.length l0_5) (hc0_5:l0_5.length≤c0_5) (hr1_4:Kd.C k63 w A1_4 l1_4.length l1_4) (hc1_4:l1_4.length≤c1_4) (hr1_5:Kd.C k63 w A1_5 l1_5.length l1_5) (hc1_5:l1_5.length≤c1_5) (h:Ub.f k a0_0 a0_1 a0_2 a0_3 l0_4 l0_5 a1_0 a1_1 a1_2 a1_3 l1_4 l1_5=some r),
  Calls Tryd.prog 43 #[.agg #[.int .i64 a0_0,.int .i64 a0_1,.int .i64 a0_2,.int .i64 a0_3,.slice A0_4 l0_4.length c0_4,.slice A0_5 l0_5.length c0_5],.agg #[.int .i64 a1_0,.int .i64 a1_1,.int .i64 a1_2,.int .i64 a1_3,.slice A1_4 l1_4.length c1_4,.slice A1_5 l1_5.length c1_5]] w fun e w'=>e=.returned (.bool r)∧Below w.heap.size w w')∧(∀ (A0:Option Addr) (c0:Nat) (l0:List (S63)) (A1:Option Addr) (c1:Nat) (l1:List (S63)) (r:Bool) (w:World) (hr0:Kd.C k63 w A0 l0.length l0) (hc0:l0.length≤c0) (hr1:Kd.C k63 w A1 l1.length l1) (hc1:l1.length≤c1) (h:Xz.f k l0 l1=some r),
  Calls Tryd.prog 36 #[.slice A0 l0.length c0,.slice A1 l1.length c1] w fun e w'=>e=.returned (.bool r)∧Below w.heap.size w w'):=by
 induction k using Nat.strongRecOn with
 |_ k ih=>exact ⟨Ub.step k (fun m hm=>(ih m hm).1) (fun m hm=>(ih m hm).2),Xz.step k (fun m hm=>(ih m hm).1) (fun m hm=>(ih m hm).2)⟩
theorem Xz.calls (k:Nat):∀ (A0:Option Addr) (c0:Nat) (l0:List (S63)) (A1:Option Addr) (c1:Nat) (l1:List (S63)) (r:Bool) (w:World) (hr0:Kd.C k63 w A0 l0.length l0) (hc0:l0.length≤c0) (hr1:Kd.C k63 w A1 l1.length l1) (hc1:l1.length≤c1) (h:Xz.f k l0 l1=some r),
  Calls Tryd.prog 36 #[.slice A0 l0.length c0,.slice A1 l1.length c1] w fun e w'=>e=.returned (.bool r)∧Below w.heap.size w w':=(laws_eqStmt_laws_eqStmtS.all k).2
end Go.Proofs.YtpcfebhpapdkcaaDoor.GWorld
