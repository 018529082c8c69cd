import Derived.Test.YtdkcjecllbdljaaDoorCFnCodeLines22
namespace Go.Proofs.YtdkcjecllbdljaaDoor.GCode
open Go.RowKit Go.Proofs.YtdkcjecllbdljaaDoorW.PrintWords Go.Proofs.YtdkcjecllbdljaaDoorW.PrintLast Go.Proofs.YtdkcjecllbdljaaDoorW.PrintMore
attribute [local go_sem] Zy Ua Uo Uq Zp Zq Zz Ub
set_option linter.unusedVariables false
set_option linter.unusedSimpArgs false
mutual
def Yz.j0:Nat→Int→Bool→Int→Int→Int→Int→List (S62)→List (S62)→Option ((List (S36)))
 |0,_,_,_,_,_,_,_,_=>none
 |k+1,x12,x94,x380000,x380001,x380002,x380003,x380004,x380005=>if x94=true then (some (([(⟨x380000,x380001,x380002,x380003⟩:S36)]:List (S36)))) else (if x12=9 then (some (([(⟨10,x380001,0,0⟩:S36)]:List (S36)))) else (if x12=10 then (some (([(⟨11,x380001,0,0⟩:S36)]:List (S36)))) else (some (([(⟨12,0,0,0⟩:S36)]:List (S36))))))
def Yz.f:Nat→Int→Int→Int→Int→List (S62)→List (S62)→Int→Option ((List (S36)))
 |0,_,_,_,_,_,_,_=>none
 |k+1,a0_0,a0_1,a0_2,a0_3,l0_4,l0_5,a1=>if a0_0=6 then ((Zc.f k l0_4 (wrap64 (a1+1))).bind fun t380=>((Zc.f k l0_5 (wrap64 ((wrap64 (a1+2))+(t380.length:Int)))).bind fun t383=>((some (([(⟨6,a0_1,0,wrap64 ((wrap64 (a1+2))+(t380.length:Int))⟩:S36)]:List (S36)):List (S36))).bind fun y386=>(if y386.length+t380.length<4398046511104 then ((some (y386 ++ t380:List (S36))).bind fun y389=>((some (([(⟨7,0,0,wrap64 ((wrap64 ((wrap64 (a1+2))+(t380.length:Int)))+(t383.length:Int))⟩:S36)]:List (S36)):List (S36))).bind fun y392=>(if y389.length+y392.length<4398046511104 then ((some (y389 ++ y392:List (S36))).bind fun y395=>(if y395.length+t383.length<4398046511104 then (some (y395 ++ t383)) else (none))) else (none)))) else (none))))) else (if a0_0=7 then ((Zc.f k l0_4 (wrap64 (a1+1))).bind fun t401=>((some (([(⟨6,a0_1,0,wrap64 ((wrap64 (a1+2))+(t401.length:Int))⟩:S36)]:List (S36)):List (S36))).bind fun y404=>(if y404.length+t401.length<4398046511104 then ((some (y404 ++ t401:List (S36))).bind fun y407=>((some (([(⟨7,0,0,a1⟩:S36)]:List (S36)):List (S36))).bind fun y410=>(if y407.length+y410.length<4398046511104 then (some (y407 ++ y410)) else (none)))) else (none)))) else (if a0_0=8 then ((Zc.f k l0_4 (wrap64 (a1+1))).bind fun t416=>((some (([(⟨8,a0_1,0,0⟩:S36)]:List (S36)):List (S36))).bind fun y419=>(if y419.length+t416.length<4398046511104 then ((some (y419 ++ t416:List (S36))).bind fun y422=>((some (([(⟨9,a0_1,0,0⟩:S36)]:List (S36)):List (S36))).bind fun y425=>(if y422.length+y425.length<4398046511104 then (some (y422 ++ y425)) else (none)))) else (none)))) else (if a0_0=1 then (Yz.j0 k a0_0 (a0_0 == 1) a0_0 a0_1 a0_2 a0_3 l0_4 l0_5) else (if a0_0=2 then (Yz.j0 k a0_0 (a0_0 == 2) a0_0 a0_1 a0_2 a0_3 l0_4 l0_5) else (if a0_0=3 then (Yz.j0 k a0_0 (a0_0 == 3) a0_0 a0_1 a0_2 a0_3 l0_4 l0_5) else (if a0_0=4 then (Yz.j0 k a0_0 (a0_0 == 4) a0_0 a0_1 a0_2 a0_3 l0_4 l0_5) else (Yz.j0 k a0_0 (a0_0 == 5) a0_0 a0_1 a0_2 a0_3 l0_4 l0_5)))))))
def Zc.l0:Nat→List (S62)→Int→List (S36)→Int→Option ((List (S36)))
 |0,_,_,_,_=>none
 |k+1,x0,x1,x5,x6=>if x6<(x0.length:Int) then (if 0≤x6 then ((Yz.f k ((Yv x0 x6).f0) ((Yv x0 x6).f1) ((Yv x0 x6).f2) ((Yv x0 x6).f3) ((Yv x0 x6).f4) ((Yv x0 x6).f5) (wrap64 (x1+(x5.length:Int)))).bind fun t447=>(if x5.length+t447.length<4398046511104 then (Zc.l0 k x0 x1 (x5 ++ t447) (wrap64 (x6+1))) else (none))) else (none)) else (some x5)
def Zc.f:Nat→List (S62)→Int→Option ((List (S36)))
 |0,_,_=>none
 |k+1,l0,a1=>Zc.l0 k l0 a1 (([]:List (S36))) 0
end
def Yz.T13:Bool × List (List Nat × List Nat):=(true,[([],[]),([0],[0]),([1],[1]),([2],[2]),([],[]),([3,4],[3,4]),([],[]),([6],[6]),([7],[7]),([8],[8]),([5,9,5],[5,9]),([10,10,0,1,2,3,4,5,6,7,8,9,10],[10])])
def Yz.B13:List Nat:=[0,1,3,7,0,31,0,64,192,448,1023,2047]
theorem Yz.tab13:rtab .any (opsOf Tryd.f56 13)=Yz.T13:=by kernel_rfl
theorem Yz.bits13:waitsOk Yz.T13.2 Yz.B13=true:=by kernel_rfl
set_option maxHeartbeats 8000000 in
set_option maxRecDepth 100000 in
theorem Yz.step (k:Nat) (ih:∀ m_,m_<k→∀ (a0_0:Int) (a0_1:Int) (a0_2:Int) (a0_3:Int) (A0_4:Option Addr) (c0_4:Nat) (l0_4:List (S62)) (A0_5:Option Addr) (c0_5:Nat) (l0_5:List (S62)) (a1:Int) (r:List (S36)) (w:World) (hr0_4:Kd.C k62 w A0_4 l0_4.length l0_4) (hc0_4:l0_4.length≤c0_4) (hr0_5:Kd.C k62 w A0_5 l0_5.length l0_5) (hc0_5:l0_5.length≤c0_5) (h:Yz.f m_ a0_0 a0_1 a0_2 a0_3 l0_4 l0_5 a1=some r),
  Calls Tryd.prog 56 #[.agg #[.int .i64 a0_0,.int .i64 a0_1,.int .i64 a0_2,.int .i64 a0_3,.slice A0_4 l0_4.length c0_4,.slice A0_5 l0_5.length c0_5],.int .i64 a1] w fun e w'=>∃ v0_:Value,e=.returned (v0_)∧Kd.R k36 36 w' w.heap.size (fun _=>True) v0_ r∧Below w.heap.size w w') (ih_spec_l4Of:∀ m_,m_<k→∀ (A0:Option Addr) (c0:Nat) (l0:List (S62)) (a1:Int) (r:List (S36)) (w:World) (hr0:Kd.C k62 w A0 l0.length l0) (hc0:l0.length≤c0) (h:Zc.f m_ l0 a1=some r),
  Calls Tryd.prog 47 #[.slice A0 l0.length c0,.int .i64 a1] w fun e w'=>∃ v0_:Value,e=.returned (v0_)∧Kd.R k36 36 w' w.heap.size (fun _=>True) v0_ r∧Below w.heap.size w w'):∀ (a0_0:Int) (a0_1:Int) (a0_2:Int) (a0_3:Int) (A0_4:Option Addr) (c0_4:Nat) (l0_4:List (S62)) (A0_5:Option Addr) (c0_5:Nat) (l0_5:List (S62)) (a1:Int) (r:List (S36)) (w:World) (hr0_4:Kd.C k62 w A0_4 l0_4.length l0_4) (hc0_4:l0_4.length≤c0_4) (hr0_5:Kd.C k62 w A0_5 l0_5.length l0_5) (hc0_5:l0_5.length≤c0_5) (h:Yz.f k a0_0 a0_1 a0_2 a0_3 l0_4 l0_5 a1=some r),
  Calls Tryd.prog 56 #[.agg #[.int .i64 a0_0,.int .i64 a0_1,.int .i64 a0_2,.int .i64 a0_3,.slice A0_4 l0_4.length c0_4,.slice A0_5 l0_5.length c0_5],.int .i64 a1] w fun e w'=>∃ v0_:Value,e=.returned (v0_)∧Kd.R k36 36 w' w.heap.size (fun _=>True) v0_ r∧Below w.heap.size w w':=by
 intro a0_0 a0_1 a0_2 a0_3 A0_4 c0_4 l0_4 A0_5 c0_5 l0_5 a1 r w hr0_4 hc0_4 hr0_5 hc0_5 h
 cases k with
 |zero=>exact absurd h (by simp [Yz.f])
 |succ k=>
 simp only [Yz.f] at h;have hu62:=Tryd.underlying62;have hu36:=Tryd.underlying36;have HR0_4:=Xa.mk hr0_4;have HC0_4:=Xa.mk hc0_4;clear hr0_4 hc0_4;have HR0_5:=Xa.mk hr0_5;have HC0_5:=Xa.mk hc0_5;clear hr0_5 hc0_5;have HB:=Xa.mk (Below.refl w.heap.size w);have H:(if a0_0=6 then ((Zc.f k l0_4 (wrap64 (a1+1))).bind fun t380=>((Zc.f k l0_5 (wrap64 ((wrap64 (a1+2))+(t380.length:Int)))).bind fun t383=>((some (([(⟨6,a0_1,0,wrap64 ((wrap64 (a1+2))+(t380.length:Int))⟩:S36)]:List (S36)):List (S36))).bind fun y386=>(if y386.length+t380.length<4398046511104 then ((some (y386 ++ t380:List (S36))).bind fun y389=>((some (([(⟨7,0,0,wrap64 ((wrap64 ((wrap64 (a1+2))+(t380.length:Int)))+(t383.length:Int))⟩:S36)]:List (S36)):List (S36))).bind fun y392=>(if y389.length+y392.length<4398046511104 then ((some (y389 ++ y392:List (S36))).bind fun y395=>(if y395.length+t383.length<4398046511104 then (some (y395 ++ t383)) else (none))) else (none)))) else (none))))) else (if a0_0=7 then ((Zc.f k l0_4 (wrap64 (a1+1))).bind fun t401=>((some (([(⟨6,a0_1,0,wrap64 ((wrap64 (a1+2))+(t401.length:Int))⟩:S36)]:List (S36)):List (S36))).bind fun y404=>(if y404.length+t401.length<4398046511104 then ((some (y404 ++ t401:List (S36))).bind fun y407=>((some (([(⟨7,0,0,a1⟩:S36)]:List (S36)):List (S36))).bind fun y410=>(if y407.length+y410.length<4398046511104 then (some (y407 ++ y410)) else (none)))) else (none)))) else (if a0_0=8 then ((Zc.f k l0_4 (wrap64 (a1+1))).bind fun t416=>((some (([(⟨8,a0_1,0,0⟩:S36)]:List (S36)):List (S36))).bind fun y419=>(if y419.length+t416.length<4398046511104 then ((some (y419 ++ t416:List (S36))).bind fun y422=>((some (([(⟨9,a0_1,0,0⟩:S36)]:List (S36)):List (S36))).bind fun y425=>(if y422.length+y425.length<4398046511104 then (some (y422 ++ y425)) else (none)))) else (none)))) else (if a0_0=1 then (Yz.j0 k a0_0 (a0_0 == 1) a0_0 a0_1 a0_2 a0_3 l0_4 l0_5) else (if a0_0=2 then (Yz.j0 k a0_0 (a0_0 == 2) a0_0 a0_1 a0_2 a0_3 l0_4 l0_5) else (if a0_0=3 then (Yz.j0 k a0_0 (a0_0 == 3) a0_0 a0_1 a0_2 a0_3 l0_4 l0_5) else (if a0_0=4 then (Yz.j0 k a0_0 (a0_0 == 4) a0_0 a0_1 a0_2 a0_3 l0_4 l0_5) else (Yz.j0 k a0_0 (a0_0 == 5) a0_0 a0_1 a0_2 a0_3 l0_4 l0_5))))))))=some r:=h;clear h;by_cases c3:a0_0=6
 ·rw [if_pos c3] at H;have c3b0:(a0_0 == 6)=true:=beq_iff_eq.mpr c3;have c3b1:(a0_0 != 6)=false:=bne_eq_false_iff_eq.mpr c3;clear c3;replace H:=Option.bind_eq_some_iff.mp H;obtain ⟨t380,A40,H⟩:=H;replace H:((Zc.f k l0_5 (wrap64 ((wrap64 (a1+2))+(t380.length:Int)))).bind fun t383=>((some (([(⟨6,a0_1,0,wrap64 ((wrap64 (a1+2))+(t380.length:Int))⟩:S36)]:List (S36)):List (S36))).bind fun y386=>(if y386.length+t380.length<4398046511104 then ((some (y386 ++ t380:List (S36))).bind fun y389=>((some (([(⟨7,0,0,wrap64 ((wrap64 ((wrap64 (a1+2))+(t380.length:Int)))+(t383.length:Int))⟩:S36)]:List (S36)):List (S36))).bind fun y392=>(if y389.length+y392.length<4398046511104 then ((some (y389 ++ y392:List (S36))).bind fun y395=>(if y395.length+t383.length<4398046511104 then (some (y395 ++ t383)) else (none))) else (none)))) else (none))))=some r:=H;have A4:=Xa.mk A40;clear A40;replace H:=Option.bind_eq_some_iff.mp H;obtain ⟨t383,A50,H⟩:=H;replace H:((some (([(⟨6,a0_1,0,wrap64 ((wrap64 (a1+2))+(t380.length:Int))⟩:S36)]:List (S36)):List (S36))).bind fun y386=>(if y386.length+t380.length<4398046511104 then ((some (y386 ++ t380:List (S36))).bind fun y389=>((some (([(⟨7,0,0,wrap64 ((wrap64 ((wrap64 (a1+2))+(t380.length:Int)))+(t383.length:Int))⟩:S36)]:List (S36)):List (S36))).bind fun y392=>(if y389.length+y392.length<4398046511104 then ((some (y389 ++ y392:List (S36))).bind fun y395=>(if y395.length+t383.length<4398046511104 then (some (y395 ++ t383)) else (none))) else (none)))) else (none)))=some r:=H;have A5:=Xa.mk A50;clear A50;obtain ⟨y386,hy386⟩:∃ y_:List (S36),y_=(([(⟨6,a0_1,0,wrap64 ((wrap64 (a1+2))+(t380.length:Int))⟩:S36)]:List (S36))):=⟨_,rfl⟩
  replace H:(if y386.length+t380.length<4398046511104 then ((some (y386 ++ t380:List (S36))).bind fun y389=>((some (([(⟨7,0,0,wrap64 ((wrap64 ((wrap64 (a1+2))+(t380.length:Int)))+(t383.length:Int))⟩:S36)]:List (S36)):List (S36))).bind fun y392=>(if y389.length+y392.length<4398046511104 then ((some (y389 ++ y392:List (S36))).bind fun y395=>(if y395.length+t383.length<4398046511104 then (some (y395 ++ t383)) else (none))) else (none)))) else (none))=some r:=by subst hy386;first|with_reducible exact H|(have z:=(Option.bind_some _ _).symm.trans H;with_reducible exact z)|exact H
  have Ny386:=Xa.mk hy386;clear hy386;by_cases c6:y386.length+t380.length<4398046511104
  ·rw [if_pos c6] at H;have LMc6:=Xa.mk c6;clear c6;obtain ⟨y389,hy389⟩:∃ y_:List (S36),y_=(y386 ++ t380):=⟨_,rfl⟩
   replace H:((some (([(⟨7,0,0,wrap64 ((wrap64 ((wrap64 (a1+2))+(t380.length:Int)))+(t383.length:Int))⟩:S36)]:List (S36)):List (S36))).bind fun y392=>(if y389.length+y392.length<4398046511104 then ((some (y389 ++ y392:List (S36))).bind fun y395=>(if y395.length+t383.length<4398046511104 then (some (y395 ++ t383)) else (none))) else (none)))=some r:=by subst hy389;first|with_reducible exact H|(have z:=(Option.bind_some _ _).symm.trans H;with_reducible exact z)|exact H
   have Ny389:=Xa.mk hy389;clear hy389;obtain ⟨y392,hy392⟩:∃ y_:List (S36),y_=(([(⟨7,0,0,wrap64 ((wrap64 ((wrap64 (a1+2))+(t380.length:Int)))+(t383.length:Int))⟩:S36)]:List (S36))):=⟨_,rfl⟩
   replace H:(if y389.length+y392.length<4398046511104 then ((some (y389 ++ y392:List (S36))).bind fun y395=>(if y395.length+t383.length<4398046511104 then (some (y395 ++ t383)) else (none))) else (none))=some r:=by subst hy392;first|with_reducible exact H|(have z:=(Option.bind_some _ _).symm.trans H;with_reducible exact z)|exact H
   have Ny392:=Xa.mk hy392;clear hy392;by_cases c7:y389.length+y392.length<4398046511104
   ·rw [if_pos c7] at H;have LMc7:=Xa.mk c7;clear c7;obtain ⟨y395,hy395⟩:∃ y_:List (S36),y_=(y389 ++ y392):=⟨_,rfl⟩
    replace H:(if y395.length+t383.length<4398046511104 then (some (y395 ++ t383)) else (none))=some r:=by subst hy395;first|with_reducible exact H|(have z:=(Option.bind_some _ _).symm.trans H;with_reducible exact z)|exact H
    have Ny395:=Xa.mk hy395;clear hy395;by_cases c8:y395.length+t383.length<4398046511104
    ·rw [if_pos c8] at H;have LMc8:=Xa.mk c8;clear c8;obtain ⟨y398,hy398⟩:∃ y_:List (S36),y_=(y395 ++ t383):=⟨_,rfl⟩
     replace H:(some y398)=some r:=by subst hy398;first|with_reducible exact H|(have z:=(Option.bind_some _ _).symm.trans H;with_reducible exact z)|exact H
     have Ny398:=Xa.mk hy398;clear hy398;obtain rfl:=Option.some.inj H
     go_enter Tryd.func56,Tryd.ntmps56
     go_wp2_with (first|((with_reducible refine Xq (N:=2) rfl ?_);refine Yq ?hg (N:=2) ?hd (cs:=#[.int .i64 a0_0,.int .i64 a0_1,.int .i64 a0_2,.int .i64 a0_3,.slice A0_4 l0_4.length c0_4,.slice A0_5 l0_5.length c0_5]) (t:=62) ?hr ?_;(case hd=>rfl);(case hg=>rfl);(case hr=>first|(go_simp;done)|(go_simp;rfl));intro gb379 hg w9 hbox hb;have n0_:=Xa.mk (Xc (bl_ HB) hb);have n1_:=Xa.mk (hbox);have n2_:=Xa.mk ((by rw [hg];exact (Xd (bl_ HB)):w.heap.size≤gb379));have n3_:=Xa.mk ((by rw [hg];exact (Xd (bl_ HB)):w.heap.size≤gb379));clear HB;have HB:=n0_;have BK379:=n1_;have GW379:=n2_;have GE379:=n3_;clear n0_ n1_ n2_ n3_;clear hb hbox hg;obtain ⟨hcz10_0,hcz10_1,hcz10_2,hcz10_3,hcz10_4,hcz10_5⟩:=Uk BK379.out;obtain ⟨hfz10_0,hfz10_1,hfz10_2,hfz10_3,hfz10_4,hfz10_5⟩:=Ul BK379.out)|((with_reducible refine Xj (f:=47) rfl ?_);refine Yu (some 19) rfl rfl Tryd.func47 (by kernel_rfl) rfl #[.slice A0_4 l0_4.length c0_4,.int .i64 (wrap64 (a1+1))] rfl ga_ ?_;(with_reducible refine (ih_spec_l4Of k (by omega) _ _ l0_4 (wrap64 (a1+1)) t380 _ ?side1 ?side2 A4.out).mono ?_);(case side1=>repeat (first|exact (Kd.Zl HR0_4.out HB.out)|(with_reducible refine Kd.Yc ?_ _)|(with_reducible refine Kd.Yd ?_ _)|(with_reducible refine Kd.Yo ?_)));(case side2=>exact HC0_4.out);rintro e w11 ⟨v381,rfl,ho0,hb⟩;refine ⟨_,rfl,?_⟩;have n0_:=Xa.mk (Kd.Ye ho0 (Xd (bl_ HB)));have n1_:=Xa.mk (Ym (g:=gb379) (o:=.cells #[.int .i64 a0_0,.int .i64 a0_1,.int .i64 a0_2,.int .i64 a0_3,.slice A0_4 l0_4.length c0_4,.slice A0_5 l0_5.length c0_5] 62 (0,0)) (ba_ BK379) hb);have n2_:=Xa.mk (Xc (bl_ HB) hb);clear BK379;clear HB;have HO382:=n0_;have BK379:=n1_;have HB:=n2_;clear n0_ n1_ n2_;(try clear hb);(try clear hb2);(try clear hk);(try clear hi);(try clear ho0);obtain ⟨hcz12_0,hcz12_1,hcz12_2,hcz12_3,hcz12_4,hcz12_5⟩:=Uk BK379.out;obtain ⟨hfz12_0,hfz12_1,hfz12_2,hfz12_3,hfz12_4,hfz12_5⟩:=Ul BK379.out;obtain ⟨Ao13,co13,eo13⟩:=Kd.Zd HO382.out;subst eo13)|((with_reducible refine Xj (f:=47) rfl ?_);refine Yu (some 27) rfl rfl Tryd.func47 (by kernel_rfl) rfl #[.slice A0_5 l0_5.length c0_5,.int .i64 (wrap64 ((wrap64 (a1+2))+(t380.length:Int)))] rfl ga_ ?_;(with_reducible refine (ih_spec_l4Of k (by omega) _ _ l0_5 (wrap64 ((wrap64 (a1+2))+(t380.length:Int))) t383 _ ?side1 ?side2 A5.out).mono ?_);(case side1=>repeat (first|exact (Kd.Zl HR0_5.out HB.out)|(with_reducible refine Kd.Yc ?_ _)|(with_reducible refine Kd.Yd ?_ _)|(with_reducible refine Kd.Yo ?_)));(case side2=>exact HC0_5.out);rintro e w14 ⟨v384,rfl,ho0,hb⟩;refine ⟨_,rfl,?_⟩;have n0_:=Xa.mk (Kd.R_elder' (Kd.ra_ (HO382.out)) (Kd.Zh ho0) hb);have n1_:=Xa.mk (Kd.Ye (Kd.R_new' ho0 (Kd.Uh (Kd.ra_ (HO382.out)))) (Xd (bl_ HB)));have n2_:=Xa.mk (Ym (g:=gb379) (o:=.cells #[.int .i64 a0_0,.int .i64 a0_1,.int .i64 a0_2,.int .i64 a0_3,.slice A0_4 l0_4.length c0_4,.slice A0_5 l0_5.length c0_5] 62 (0,0)) (ba_ BK379) hb);have n3_:=Xa.mk (Xc (bl_ HB) hb);clear HO382;clear BK379;clear HB;have HO382:=n0_;have HO385:=n1_;have BK379:=n2_;have HB:=n3_;clear n0_ n1_ n2_ n3_;(try clear hb);(try clear hb2);(try clear hk);(try clear hi);(try clear ho0);obtain ⟨hcz15_0,hcz15_1,hcz15_2,hcz15_3,hcz15_4,hcz15_5⟩:=Uk BK379.out;obtain ⟨hfz15_0,hfz15_1,hfz15_2,hfz15_3,hfz15_4,hfz15_5⟩:=Ul BK379.out)|((with_reducible refine Xq (N:=36) rfl ?_);refine Kd.Ug k36 _ 36 ?hg (N:=36) ?hd (xs:=([(⟨6,a0_1,0,wrap64 ((wrap64 (a1+2))+(t380.length:Int))⟩:S36)]:List (S36))) (inner:=[.int .i64 6,.int .i64 a0_1,.int .i64 0,.int .i64 (wrap64 ((wrap64 (a1+2))+(t380.length:Int)))]) (ok:=fun _=>True) (okp:=fun _=>True) ?hr ?hp (fun _ hk=>hk) trivial (Below.refl _ _) (Nat.le_refl _) (by simp) ?_;(case hd=>rfl);(case hg=>rfl);(case hr=>first|(go_simp;done)|(go_simp;rfl));(case hp=>exact (Xl.c4 (show Kd.M k36 _ _ _ (⟨6,a0_1,0,wrap64 ((wrap64 (a1+2))+(t380.length:Int))⟩:S36) [.int .i64 6,.int .i64 a0_1,.int .i64 0,.int .i64 (wrap64 ((wrap64 (a1+2))+(t380.length:Int)))] from (k36_mkM _ _ _ (⟨6,a0_1,0,wrap64 ((wrap64 (a1+2))+(t380.length:Int))⟩:S36) )) (Xl.none _ _)));intro v387 w16 ho17 hb hg_ hnew_;clear hg_ hnew_;(first|rw [← Ny386.out] at ho17|(simp only [Int.reduceToNat] at ho17;rw [← Ny386.out] at ho17));have n0_:=Xa.mk (Kd.R_elder' (Kd.ra_ (HO382.out)) (Kd.Zh ho17) hb);have n1_:=Xa.mk (Kd.R_elder' (Kd.ra_ (HO385.out)) (Kd.Zh ho17) hb);have n2_:=Xa.mk (Kd.Ye (Kd.R_new' (Kd.R_new' ho17 (Kd.Uh (Kd.ra_ (HO382.out)))) (Kd.Uh (Kd.ra_ (HO385.out)))) (Xd (bl_ HB)));have n3_:=Xa.mk (Ym (g:=gb379) (o:=.cells #[.int .i64 a0_0,.int .i64 a0_1,.int .i64 a0_2,.int .i64 a0_3,.slice A0_4 l0_4.length c0_4,.slice A0_5 l0_5.length c0_5] 62 (0,0)) (ba_ BK379) hb);have n4_:=Xa.mk (Xc (bl_ HB) hb);clear HO382;clear HO385;clear BK379;clear HB;have HO382:=n0_;have HO385:=n1_;have HO388:=n2_;have BK379:=n3_;have HB:=n4_;clear n0_ n1_ n2_ n3_ n4_;clear hb ho17)|((with_reducible refine Zi (b:=.append) (xs:=#[.tmp 36,.tmp 37]) rfl ?_);at_builtin;refine Kd.R_append_rows k36 (w0:=w) w.heap.size rfl (.tmp 36) (.tmp 37) 25 36 (.agg #[(.int .i64 0),(.int .i64 0),(.int .i64 0),(.int .i64 0)]) 32 rfl Tryd.underlying25 info36 rfl (by decide) (by omega) v387 y386 t380 _ _ _ (fun k_=>some k_≠(.slice Ao13 t380.length co13:Value).ownBlock∧some k_≠(v384:Value).ownBlock) (fun _=>False) rfl rfl ?aO ?aR (fun _ _ h=>h) (fun _ h=>h.elim) ?aF ?aB ?aS ?aL ?_;(case aR=>repeat (first|exact (Kd.R_reads' HO382.out).2.2|(with_reducible refine Kd.Yc ?_ _)|(with_reducible refine Kd.Yd ?_ _)|(with_reducible refine Kd.Yo ?_)));(case aB=>exact (bl_ HB));(case aF=>exact (fun k_ hk=>⟨Kd.fresh' (Kd.Uh (Kd.ra_ (HO382.out))) k_ hk,Kd.fresh' (Kd.Uh (Kd.ra_ (HO385.out))) k_ hk⟩));(case aO=>exact (Kd.ra_ (Kd.Xv HO388.out (fun _ hk=>⟨hk.1.2,hk.2⟩))));(case aS=>exact (Xd (bl_ HB)));(case aL=>have:=LMc6.out;omega);intro v390 w18 ho hb hg hat;rw [← Ny389.out] at ho;have n0_:=Xa.mk (blk_grown (g:=gb379) (o:=.cells #[.int .i64 a0_0,.int .i64 a0_1,.int .i64 a0_2,.int .i64 a0_3,.slice A0_4 l0_4.length c0_4,.slice A0_5 l0_5.length c0_5] 62 (0,0)) (ba_ BK379) hg (Kd.R_ne HO388.out BK379.out (by decide)));have n1_:=Xa.mk (Kd.Yx (ok:=(fun k_=>some k_≠(v384:Value).ownBlock)) (Kd.ra_ (Kd.Xv HO382.out (fun _ hk=>⟨hk.1.2,hk.2⟩))) hg hat);have n2_:=Xa.mk (Kd.Yx (ok:=(fun k_=>some k_≠(.slice Ao13 t380.length co13:Value).ownBlock)) (Kd.ra_ (Kd.Xv HO385.out (fun _ hk=>⟨hk.1.2,hk.2⟩))) hg hat);have n3_:=Xa.mk (hb);have n4_:=Xa.mk (ho);clear BK379;clear HO382;clear HO385;clear HB;clear HO388;have BK379:=n0_;have HO382:=n1_;have HO385:=n2_;have HB:=n3_;have HO391:=n4_;clear n0_ n1_ n2_ n3_ n4_;clear ho hb hg hat;obtain ⟨Ao19,co19,eo19⟩:=Kd.Zd HO385.out;subst eo19)|((with_reducible refine Xq (N:=49) rfl ?_);refine Kd.Ug k36 _ 36 ?hg (N:=49) ?hd (xs:=([(⟨7,0,0,wrap64 ((wrap64 ((wrap64 (a1+2))+(t380.length:Int)))+(t383.length:Int))⟩:S36)]:List (S36))) (inner:=[.int .i64 7,.int .i64 0,.int .i64 0,.int .i64 (wrap64 ((wrap64 ((wrap64 (a1+2))+(t380.length:Int)))+(t383.length:Int)))]) (ok:=fun _=>True) (okp:=fun _=>True) ?hr ?hp (fun _ hk=>hk) trivial (Below.refl _ _) (Nat.le_refl _) (by simp) ?_;(case hd=>rfl);(case hg=>rfl);(case hr=>first|(go_simp;done)|(go_simp;rfl));(case hp=>exact (Xl.c4 (show Kd.M k36 _ _ _ (⟨7,0,0,wrap64 ((wrap64 ((wrap64 (a1+2))+(t380.length:Int)))+(t383.length:Int))⟩:S36) [.int .i64 7,.int .i64 0,.int .i64 0,.int .i64 (wrap64 ((wrap64 ((wrap64 (a1+2))+(t380.length:Int)))+(t383.length:Int)))] from (k36_mkM _ _ _ (⟨7,0,0,wrap64 ((wrap64 ((wrap64 (a1+2))+(t380.length:Int)))+(t383.length:Int))⟩:S36) )) (Xl.none _ _)));intro v393 w20 ho21 hb hg_ hnew_;clear hg_ hnew_;(first|rw [← Ny392.out] at ho21|(simp only [Int.reduceToNat] at ho21;rw [← Ny392.out] at ho21));have n0_:=Xa.mk (Kd.R_elder' (Kd.ra_ (HO382.out)) (Kd.Zh ho21) hb);have n1_:=Xa.mk (Kd.R_elder' (Kd.ra_ (HO385.out)) (Kd.Zh ho21) hb);have n2_:=Xa.mk (Kd.R_elder' (Kd.ra_ (HO391.out)) (Kd.Zh ho21) hb);have n3_:=Xa.mk (Kd.Ye (Kd.R_new' (Kd.R_new' (Kd.R_new' ho21 (Kd.Uh (Kd.ra_ (HO382.out)))) (Kd.Uh (Kd.ra_ (HO385.out)))) (Kd.Uh (Kd.ra_ (HO391.out)))) (Xd (bl_ HB)));have n4_:=Xa.mk (Ym (g:=gb379) (o:=.cells #[.int .i64 a0_0,.int .i64 a0_1,.int .i64 a0_2,.int .i64 a0_3,.slice A0_4 l0_4.length c0_4,.slice A0_5 l0_5.length c0_5] 62 (0,0)) (ba_ BK379) hb);have n5_:=Xa.mk (Xc (bl_ HB) hb);clear HO382;clear HO385;clear HO391;clear BK379;clear HB;have HO382:=n0_;have HO385:=n1_;have HO391:=n2_;have HO394:=n3_;have BK379:=n4_;have HB:=n5_;clear n0_ n1_ n2_ n3_ n4_ n5_;clear hb ho21;obtain ⟨Ao23,co23,eo23⟩:=Kd.Zd HO394.out;subst eo23)|((with_reducible refine Zi (b:=.append) (xs:=#[.tmp 39,.tmp 49]) rfl ?_);at_builtin;refine Kd.R_append_rows k36 (w0:=w) w.heap.size rfl (.tmp 39) (.tmp 49) 25 36 (.agg #[(.int .i64 0),(.int .i64 0),(.int .i64 0),(.int .i64 0)]) 32 rfl Tryd.underlying25 info36 rfl (by decide) (by omega) v390 y389 y392 _ _ _ (fun k_=>some k_≠(.slice Ao13 t380.length co13:Value).ownBlock∧some k_≠(.slice Ao19 t383.length co19:Value).ownBlock∧some k_≠(.slice Ao23 y392.length co23:Value).ownBlock) (fun _=>False) rfl rfl ?aO ?aR (fun _ _ h=>h) (fun _ h=>h.elim) ?aF ?aB ?aS ?aL ?_;(case aR=>repeat (first|exact (Kd.R_reads' HO394.out).2.2|(with_reducible refine Kd.Yc ?_ _)|(with_reducible refine Kd.Yd ?_ _)|(with_reducible refine Kd.Yo ?_)));(case aB=>exact (bl_ HB));(case aF=>exact (fun k_ hk=>⟨Kd.fresh' (Kd.Uh (Kd.ra_ (HO382.out))) k_ hk,Kd.fresh' (Kd.Uh (Kd.ra_ (HO385.out))) k_ hk,Kd.fresh' (Kd.Uh (Kd.ra_ (HO394.out))) k_ hk⟩));(case aO=>exact (Kd.ra_ (Kd.Xv HO391.out (fun _ hk=>⟨hk.1.1,⟨hk.1.2,hk.2⟩⟩))));(case aS=>exact (Xd (bl_ HB)));(case aL=>have:=LMc7.out;omega);intro v396 w22 ho hb hg hat;rw [← Ny395.out] at ho;have n0_:=Xa.mk (blk_grown (g:=gb379) (o:=.cells #[.int .i64 a0_0,.int .i64 a0_1,.int .i64 a0_2,.int .i64 a0_3,.slice A0_4 l0_4.length c0_4,.slice A0_5 l0_5.length c0_5] 62 (0,0)) (ba_ BK379) hg (Kd.R_ne HO391.out BK379.out (by decide)));have n1_:=Xa.mk (Kd.Yx (ok:=(fun k_=>some k_≠(.slice Ao19 t383.length co19:Value).ownBlock∧some k_≠(.slice Ao23 y392.length co23:Value).ownBlock)) (Kd.ra_ (Kd.Xv HO382.out (fun _ hk=>⟨⟨hk.1.1,hk.2⟩,hk.1.2⟩))) hg hat);have n2_:=Xa.mk (Kd.Yx (ok:=(fun k_=>some k_≠(.slice Ao13 t380.length co13:Value).ownBlock∧some k_≠(.slice Ao23 y392.length co23:Value).ownBlock)) (Kd.ra_ (Kd.Xv HO385.out (fun _ hk=>⟨⟨hk.1.1,hk.2⟩,hk.1.2⟩))) hg hat);have n3_:=Xa.mk (Kd.Yx (ok:=(fun k_=>some k_≠(.slice Ao13 t380.length co13:Value).ownBlock∧some k_≠(.slice Ao19 t383.length co19:Value).ownBlock)) (Kd.ra_ (Kd.Xv HO394.out (fun _ hk=>⟨⟨hk.1.1.2,hk.1.2⟩,hk.2⟩))) hg hat);have n4_:=Xa.mk (hb);have n5_:=Xa.mk (ho);clear BK379;clear HO382;clear HO385;clear HO394;clear HB;clear HO391;have BK379:=n0_;have HO382:=n1_;have HO385:=n2_;have HO394:=n3_;have HB:=n4_;have HO397:=n5_;clear n0_ n1_ n2_ n3_ n4_ n5_;clear ho hb hg hat)|((with_reducible refine Zi (b:=.append) (xs:=#[.tmp 50,.tmp 51]) rfl ?_);at_builtin;refine Kd.R_append_rows k36 (w0:=w) w.heap.size rfl (.tmp 50) (.tmp 51) 25 36 (.agg #[(.int .i64 0),(.int .i64 0),(.int .i64 0),(.int .i64 0)]) 32 rfl Tryd.underlying25 info36 rfl (by decide) (by omega) v396 y395 t383 _ _ _ (fun k_=>some k_≠(.slice Ao13 t380.length co13:Value).ownBlock∧some k_≠(.slice Ao19 t383.length co19:Value).ownBlock∧some k_≠(.slice Ao23 y392.length co23:Value).ownBlock) (fun _=>False) rfl rfl ?aO ?aR (fun _ _ h=>h) (fun _ h=>h.elim) ?aF ?aB ?aS ?aL ?_;(case aR=>repeat (first|exact (Kd.R_reads' HO385.out).2.2|(with_reducible refine Kd.Yc ?_ _)|(with_reducible refine Kd.Yd ?_ _)|(with_reducible refine Kd.Yo ?_)));(case aB=>exact (bl_ HB));(case aF=>exact (fun k_ hk=>⟨Kd.fresh' (Kd.Uh (Kd.ra_ (HO382.out))) k_ hk,Kd.fresh' (Kd.Uh (Kd.ra_ (HO385.out))) k_ hk,Kd.fresh' (Kd.Uh (Kd.ra_ (HO394.out))) k_ hk⟩));(case aO=>exact (Kd.ra_ (HO397.out)));(case aS=>exact (Xd (bl_ HB)));(case aL=>have:=LMc8.out;omega);intro v399 w24 ho hb hg hat;rw [← Ny398.out] at ho;have n0_:=Xa.mk (blk_grown (g:=gb379) (o:=.cells #[.int .i64 a0_0,.int .i64 a0_1,.int .i64 a0_2,.int .i64 a0_3,.slice A0_4 l0_4.length c0_4,.slice A0_5 l0_5.length c0_5] 62 (0,0)) (ba_ BK379) hg (Kd.R_ne HO397.out BK379.out (by decide)));have n1_:=Xa.mk (Kd.Yx (ok:=(fun k_=>some k_≠(.slice Ao19 t383.length co19:Value).ownBlock∧some k_≠(.slice Ao23 y392.length co23:Value).ownBlock)) (Kd.ra_ (HO382.out)) hg hat);have n2_:=Xa.mk (Kd.Yx (ok:=(fun k_=>some k_≠(.slice Ao13 t380.length co13:Value).ownBlock∧some k_≠(.slice Ao23 y392.length co23:Value).ownBlock)) (Kd.ra_ (HO385.out)) hg hat);have n3_:=Xa.mk (Kd.Yx (ok:=(fun k_=>some k_≠(.slice Ao13 t380.length co13:Value).ownBlock∧some k_≠(.slice Ao19 t383.length co19:Value).ownBlock)) (Kd.ra_ (HO394.out)) hg hat);have n4_:=Xa.mk (hb);have n5_:=Xa.mk (ho);clear BK379;clear HO382;clear HO385;clear HO394;clear HB;clear HO397;have BK379:=n0_;have HO382:=n1_;have HO385:=n2_;have HO394:=n3_;have HB:=n4_;have HO400:=n5_;clear n0_ n1_ n2_ n3_ n4_ n5_;clear ho hb hg hat))
     go_ret
     exact ⟨_,rf_,Kd.ra_ (Kd.Xv HO400.out (fun _ hk=>trivial)),bl_ HB⟩
    ·rw [if_neg c8] at H;exact absurd H (by simp)
   ·rw [if_neg c7] at H;exact absurd H (by simp)
  ·rw [if_neg c6] at H;exact absurd H (by simp)
 ·rw [if_neg c3] at H;have c3b0:(a0_0 == 6)=false:=beq_eq_false_iff_ne.mpr c3;have c3b1:(a0_0 != 6)=true:=bne_iff_ne.mpr c3;by_cases c25:a0_0=7
  ·rw [if_pos c25] at H;have c25b0:(a0_0 == 7)=true:=beq_iff_eq.mpr c25;have c25b1:(a0_0 != 7)=false:=bne_eq_false_iff_eq.mpr c25;clear c25;replace H:=Option.bind_eq_some_iff.mp H;obtain ⟨t401,A260,H⟩:=H;replace H:((some (([(⟨6,a0_1,0,wrap64 ((wrap64 (a1+2))+(t401.length:Int))⟩:S36)]:List (S36)):List (S36))).bind fun y404=>(if y404.length+t401.length<4398046511104 then ((some (y404 ++ t401:List (S36))).bind fun y407=>((some (([(⟨7,0,0,a1⟩:S36)]:List (S36)):List (S36))).bind fun y410=>(if y407.length+y410.length<4398046511104 then (some (y407 ++ y410)) else (none)))) else (none)))=some r:=H;have A26:=Xa.mk A260;clear A260;obtain ⟨y404,hy404⟩:∃ y_:List (S36),y_=(([(⟨6,a0_1,0,wrap64 ((wrap64 (a1+2))+(t401.length:Int))⟩:S36)]:List (S36))):=⟨_,rfl⟩
   replace H:(if y404.length+t401.length<4398046511104 then ((some (y404 ++ t401:List (S36))).bind fun y407=>((some (([(⟨7,0,0,a1⟩:S36)]:List (S36)):List (S36))).bind fun y410=>(if y407.length+y410.length<4398046511104 then (some (y407 ++ y410)) else (none)))) else (none))=some r:=by subst hy404;first|with_reducible exact H|(have z:=(Option.bind_some _ _).symm.trans H;with_reducible exact z)|exact H
   have Ny404:=Xa.mk hy404;clear hy404;by_cases c27:y404.length+t401.length<4398046511104
   ·rw [if_pos c27] at H;have LMc27:=Xa.mk c27;clear c27;obtain ⟨y407,hy407⟩:∃ y_:List (S36),y_=(y404 ++ t401):=⟨_,rfl⟩
    replace H:((some (([(⟨7,0,0,a1⟩:S36)]:List (S36)):List (S36))).bind fun y410=>(if y407.length+y410.length<4398046511104 then (some (y407 ++ y410)) else (none)))=some r:=by subst hy407;first|with_reducible exact H|(have z:=(Option.bind_some _ _).symm.trans H;with_reducible exact z)|exact H
    have Ny407:=Xa.mk hy407;clear hy407;obtain ⟨y410,hy410⟩:∃ y_:List (S36),y_=(([(⟨7,0,0,a1⟩:S36)]:List (S36))):=⟨_,rfl⟩
    replace H:(if y407.length+y410.length<4398046511104 then (some (y407 ++ y410)) else (none))=some r:=by subst hy410;first|with_reducible exact H|(have z:=(Option.bind_some _ _).symm.trans H;with_reducible exact z)|exact H
    have Ny410:=Xa.mk hy410;clear hy410;by_cases c28:y407.length+y410.length<4398046511104
    ·rw [if_pos c28] at H;have LMc28:=Xa.mk c28;clear c28;obtain ⟨y413,hy413⟩:∃ y_:List (S36),y_=(y407 ++ y410):=⟨_,rfl⟩
     replace H:(some y413)=some r:=by subst hy413;first|with_reducible exact H|(have z:=(Option.bind_some _ _).symm.trans H;with_reducible exact z)|exact H
     have Ny413:=Xa.mk hy413;clear hy413;obtain rfl:=Option.some.inj H
     go_enter Tryd.func56,Tryd.ntmps56
     go_wp2_with (first|((with_reducible refine Xq (N:=2) rfl ?_);refine Yq ?hg (N:=2) ?hd (cs:=#[.int .i64 a0_0,.int .i64 a0_1,.int .i64 a0_2,.int .i64 a0_3,.slice A0_4 l0_4.length c0_4,.slice A0_5 l0_5.length c0_5]) (t:=62) ?hr ?_;(case hd=>rfl);(case hg=>rfl);(case hr=>first|(go_simp;done)|(go_simp;rfl));intro gb379 hg w29 hbox hb;have n0_:=Xa.mk (Xc (bl_ HB) hb);have n1_:=Xa.mk (hbox);have n2_:=Xa.mk ((by rw [hg];exact (Xd (bl_ HB)):w.heap.size≤gb379));have n3_:=Xa.mk ((by rw [hg];exact (Xd (bl_ HB)):w.heap.size≤gb379));clear HB;have HB:=n0_;have BK379:=n1_;have GW379:=n2_;have GE379:=n3_;clear n0_ n1_ n2_ n3_;clear hb hbox hg;obtain ⟨hcz30_0,hcz30_1,hcz30_2,hcz30_3,hcz30_4,hcz30_5⟩:=Uk BK379.out;obtain ⟨hfz30_0,hfz30_1,hfz30_2,hfz30_3,hfz30_4,hfz30_5⟩:=Ul BK379.out)|((with_reducible refine Xj (f:=47) rfl ?_);refine Yu (some 59) rfl rfl Tryd.func47 (by kernel_rfl) rfl #[.slice A0_4 l0_4.length c0_4,.int .i64 (wrap64 (a1+1))] rfl ga_ ?_;(with_reducible refine (ih_spec_l4Of k (by omega) _ _ l0_4 (wrap64 (a1+1)) t401 _ ?side1 ?side2 A26.out).mono ?_);(case side1=>repeat (first|exact (Kd.Zl HR0_4.out HB.out)|(with_reducible refine Kd.Yc ?_ _)|(with_reducible refine Kd.Yd ?_ _)|(with_reducible refine Kd.Yo ?_)));(case side2=>exact HC0_4.out);rintro e w31 ⟨v402,rfl,ho0,hb⟩;refine ⟨_,rfl,?_⟩;have n0_:=Xa.mk (Kd.Ye ho0 (Xd (bl_ HB)));have n1_:=Xa.mk (Ym (g:=gb379) (o:=.cells #[.int .i64 a0_0,.int .i64 a0_1,.int .i64 a0_2,.int .i64 a0_3,.slice A0_4 l0_4.length c0_4,.slice A0_5 l0_5.length c0_5] 62 (0,0)) (ba_ BK379) hb);have n2_:=Xa.mk (Xc (bl_ HB) hb);clear BK379;clear HB;have HO403:=n0_;have BK379:=n1_;have HB:=n2_;clear n0_ n1_ n2_;(try clear hb);(try clear hb2);(try clear hk);(try clear hi);(try clear ho0);obtain ⟨hcz32_0,hcz32_1,hcz32_2,hcz32_3,hcz32_4,hcz32_5⟩:=Uk BK379.out;obtain ⟨hfz32_0,hfz32_1,hfz32_2,hfz32_3,hfz32_4,hfz32_5⟩:=Ul BK379.out;obtain ⟨Ao33,co33,eo33⟩:=Kd.Zd HO403.out;subst eo33)|((with_reducible refine Xq (N:=68) rfl ?_);refine Kd.Ug k36 _ 36 ?hg (N:=68) ?hd (xs:=([(⟨6,a0_1,0,wrap64 ((wrap64 (a1+2))+(t401.length:Int))⟩:S36)]:List (S36))) (inner:=[.int .i64 6,.int .i64 a0_1,.int .i64 0,.int .i64 (wrap64 ((wrap64 (a1+2))+(t401.length:Int)))]) (ok:=fun _=>True) (okp:=fun _=>True) ?hr ?hp (fun _ hk=>hk) trivial (Below.refl _ _) (Nat.le_refl _) (by simp) ?_;(case hd=>rfl);(case hg=>rfl);(case hr=>first|(go_simp;done)|(go_simp;rfl));(case hp=>exact (Xl.c4 (show Kd.M k36 _ _ _ (⟨6,a0_1,0,wrap64 ((wrap64 (a1+2))+(t401.length:Int))⟩:S36) [.int .i64 6,.int .i64 a0_1,.int .i64 0,.int .i64 (wrap64 ((wrap64 (a1+2))+(t401.length:Int)))] from (k36_mkM _ _ _ (⟨6,a0_1,0,wrap64 ((wrap64 (a1+2))+(t401.length:Int))⟩:S36) )) (Xl.none _ _)));intro v405 w34 ho35 hb hg_ hnew_;clear hg_ hnew_;(first|rw [← Ny404.out] at ho35|(simp only [Int.reduceToNat] at ho35;rw [← Ny404.out] at ho35));have n0_:=Xa.mk (Kd.R_elder' (Kd.ra_ (HO403.out)) (Kd.Zh ho35) hb);have n1_:=Xa.mk (Kd.Ye (Kd.R_new' ho35 (Kd.Uh (Kd.ra_ (HO403.out)))) (Xd (bl_ HB)));have n2_:=Xa.mk (Ym (g:=gb379) (o:=.cells #[.int .i64 a0_0,.int .i64 a0_1,.int .i64 a0_2,.int .i64 a0_3,.slice A0_4 l0_4.length c0_4,.slice A0_5 l0_5.length c0_5] 62 (0,0)) (ba_ BK379) hb);have n3_:=Xa.mk (Xc (bl_ HB) hb);clear HO403;clear BK379;clear HB;have HO403:=n0_;have HO406:=n1_;have BK379:=n2_;have HB:=n3_;clear n0_ n1_ n2_ n3_;clear hb ho35)|((with_reducible refine Zi (b:=.append) (xs:=#[.tmp 68,.tmp 69]) rfl ?_);at_builtin;refine Kd.R_append_rows k36 (w0:=w) w.heap.size rfl (.tmp 68) (.tmp 69) 25 36 (.agg #[(.int .i64 0),(.int .i64 0),(.int .i64 0),(.int .i64 0)]) 32 rfl Tryd.underlying25 info36 rfl (by decide) (by omega) v405 y404 t401 _ _ _ (fun k_=>some k_≠(.slice Ao33 t401.length co33:Value).ownBlock) (fun _=>False) rfl rfl ?aO ?aR (fun _ _ h=>h) (fun _ h=>h.elim) ?aF ?aB ?aS ?aL ?_;(case aR=>repeat (first|exact (Kd.R_reads' HO403.out).2.2|(with_reducible refine Kd.Yc ?_ _)|(with_reducible refine Kd.Yd ?_ _)|(with_reducible refine Kd.Yo ?_)));(case aB=>exact (bl_ HB));(case aF=>exact (fun k_ hk=>Kd.fresh' (Kd.Uh (Kd.ra_ (HO403.out))) k_ hk));(case aO=>exact (Kd.ra_ (Kd.Xv HO406.out (fun _ hk=>hk.2))));(case aS=>exact (Xd (bl_ HB)));(case aL=>have:=LMc27.out;omega);intro v408 w36 ho hb hg hat;rw [← Ny407.out] at ho;have n0_:=Xa.mk (blk_grown (g:=gb379) (o:=.cells #[.int .i64 a0_0,.int .i64 a0_1,.int .i64 a0_2,.int .i64 a0_3,.slice A0_4 l0_4.length c0_4,.slice A0_5 l0_5.length c0_5] 62 (0,0)) (ba_ BK379) hg (Kd.R_ne HO406.out BK379.out (by decide)));have n1_:=Xa.mk (Kd.Yx (ok:=(fun _=>True)) (Kd.ra_ (HO403.out)) hg hat);have n2_:=Xa.mk (hb);have n3_:=Xa.mk (ho);clear BK379;clear HO403;clear HB;clear HO406;have BK379:=n0_;have HO403:=n1_;have HB:=n2_;have HO409:=n3_;clear n0_ n1_ n2_ n3_;clear ho hb hg hat)|((with_reducible refine Xq (N:=74) rfl ?_);refine Kd.Ug k36 _ 36 ?hg (N:=74) ?hd (xs:=([(⟨7,0,0,a1⟩:S36)]:List (S36))) (inner:=[.int .i64 7,.int .i64 0,.int .i64 0,.int .i64 a1]) (ok:=fun _=>True) (okp:=fun _=>True) ?hr ?hp (fun _ hk=>hk) trivial (Below.refl _ _) (Nat.le_refl _) (by simp) ?_;(case hd=>rfl);(case hg=>rfl);(case hr=>first|(go_simp;done)|(go_simp;rfl));(case hp=>exact (Xl.c4 (show Kd.M k36 _ _ _ (⟨7,0,0,a1⟩:S36) [.int .i64 7,.int .i64 0,.int .i64 0,.int .i64 a1] from (k36_mkM _ _ _ (⟨7,0,0,a1⟩:S36) )) (Xl.none _ _)));intro v411 w37 ho38 hb hg_ hnew_;clear hg_ hnew_;(first|rw [← Ny410.out] at ho38|(simp only [Int.reduceToNat] at ho38;rw [← Ny410.out] at ho38));have n0_:=Xa.mk (Kd.R_elder' (Kd.ra_ (HO403.out)) (Kd.Zh ho38) hb);have n1_:=Xa.mk (Kd.R_elder' (Kd.ra_ (HO409.out)) (Kd.Zh ho38) hb);have n2_:=Xa.mk (Kd.Ye (Kd.R_new' (Kd.R_new' ho38 (Kd.Uh (Kd.ra_ (HO403.out)))) (Kd.Uh (Kd.ra_ (HO409.out)))) (Xd (bl_ HB)));have n3_:=Xa.mk (Ym (g:=gb379) (o:=.cells #[.int .i64 a0_0,.int .i64 a0_1,.int .i64 a0_2,.int .i64 a0_3,.slice A0_4 l0_4.length c0_4,.slice A0_5 l0_5.length c0_5] 62 (0,0)) (ba_ BK379) hb);have n4_:=Xa.mk (Xc (bl_ HB) hb);clear HO403;clear HO409;clear BK379;clear HB;have HO403:=n0_;have HO409:=n1_;have HO412:=n2_;have BK379:=n3_;have HB:=n4_;clear n0_ n1_ n2_ n3_ n4_;clear hb ho38;obtain ⟨Ao40,co40,eo40⟩:=Kd.Zd HO412.out;subst eo40)|((with_reducible refine Zi (b:=.append) (xs:=#[.tmp 71,.tmp 74]) rfl ?_);at_builtin;refine Kd.R_append_rows k36 (w0:=w) w.heap.size rfl (.tmp 71) (.tmp 74) 25 36 (.agg #[(.int .i64 0),(.int .i64 0),(.int .i64 0),(.int .i64 0)]) 32 rfl Tryd.underlying25 info36 rfl (by decide) (by omega) v408 y407 y410 _ _ _ (fun k_=>some k_≠(.slice Ao33 t401.length co33:Value).ownBlock∧some k_≠(.slice Ao40 y410.length co40:Value).ownBlock) (fun _=>False) rfl rfl ?aO ?aR (fun _ _ h=>h) (fun _ h=>h.elim) ?aF ?aB ?aS ?aL ?_;(case aR=>repeat (first|exact (Kd.R_reads' HO412.out).2.2|(with_reducible refine Kd.Yc ?_ _)|(with_reducible refine Kd.Yd ?_ _)|(with_reducible refine Kd.Yo ?_)));(case aB=>exact (bl_ HB));(case aF=>exact (fun k_ hk=>⟨Kd.fresh' (Kd.Uh (Kd.ra_ (HO403.out))) k_ hk,Kd.fresh' (Kd.Uh (Kd.ra_ (HO412.out))) k_ hk⟩));(case aO=>exact (Kd.ra_ (HO409.out)));(case aS=>exact (Xd (bl_ HB)));(case aL=>have:=LMc28.out;omega);intro v414 w39 ho hb hg hat;rw [← Ny413.out] at ho;have n0_:=Xa.mk (blk_grown (g:=gb379) (o:=.cells #[.int .i64 a0_0,.int .i64 a0_1,.int .i64 a0_2,.int .i64 a0_3,.slice A0_4 l0_4.length c0_4,.slice A0_5 l0_5.length c0_5] 62 (0,0)) (ba_ BK379) hg (Kd.R_ne HO409.out BK379.out (by decide)));have n1_:=Xa.mk (Kd.Yx (ok:=(fun k_=>some k_≠(.slice Ao40 y410.length co40:Value).ownBlock)) (Kd.ra_ (Kd.Xv HO403.out (fun _ hk=>⟨hk.2,hk.1.2⟩))) hg hat);have n2_:=Xa.mk (Kd.Yx (ok:=(fun k_=>some k_≠(.slice Ao33 t401.length co33:Value).ownBlock)) (Kd.ra_ (Kd.Xv HO412.out (fun _ hk=>⟨hk.1.2,hk.2⟩))) hg hat);have n3_:=Xa.mk (hb);have n4_:=Xa.mk (ho);clear BK379;clear HO403;clear HO412;clear HB;clear HO409;have BK379:=n0_;have HO403:=n1_;have HO412:=n2_;have HB:=n3_;have HO415:=n4_;clear n0_ n1_ n2_ n3_ n4_;clear ho hb hg hat))
     go_ret
     exact ⟨_,rf_,Kd.ra_ (Kd.Xv HO415.out (fun _ hk=>trivial)),bl_ HB⟩
    ·rw [if_neg c28] at H;exact absurd H (by simp)
   ·rw [if_neg c27] at H;exact absurd H (by simp)
  ·rw [if_neg c25] at H;have c25b0:(a0_0 == 7)=false:=beq_eq_false_iff_ne.mpr c25;have c25b1:(a0_0 != 7)=true:=bne_iff_ne.mpr c25;by_cases c41:a0_0=8
   ·rw [if_pos c41] at H;have c41b0:(a0_0 == 8)=true:=beq_iff_eq.mpr c41;have c41b1:(a0_0 != 8)=false:=bne_eq_false_iff_eq.mpr c41;clear c41;replace H:=Option.bind_eq_some_iff.mp H;obtain ⟨t416,A420,H⟩:=H;replace H:((some (([(⟨8,a0_1,0,0⟩:S36)]:List (S36)):List (S36))).bind fun y419=>(if y419.length+t416.length<4398046511104 then ((some (y419 ++ t416:List (S36))).bind fun y422=>((some (([(⟨9,a0_1,0,0⟩:S36)]:List (S36)):List (S36))).bind fun y425=>(if y422.length+y425.length<4398046511104 then (some (y422 ++ y425)) else (none)))) else (none)))=some r:=H;have A42:=Xa.mk A420;clear A420;obtain ⟨y419,hy419⟩:∃ y_:List (S36),y_=(([(⟨8,a0_1,0,0⟩:S36)]:List (S36))):=⟨_,rfl⟩
    replace H:(if y419.length+t416.length<4398046511104 then ((some (y419 ++ t416:List (S36))).bind fun y422=>((some (([(⟨9,a0_1,0,0⟩:S36)]:List (S36)):List (S36))).bind fun y425=>(if y422.length+y425.length<4398046511104 then (some (y422 ++ y425)) else (none)))) else (none))=some r:=by subst hy419;first|with_reducible exact H|(have z:=(Option.bind_some _ _).symm.trans H;with_reducible exact z)|exact H
    have Ny419:=Xa.mk hy419;clear hy419;by_cases c43:y419.length+t416.length<4398046511104
    ·rw [if_pos c43] at H;have LMc43:=Xa.mk c43;clear c43;obtain ⟨y422,hy422⟩:∃ y_:List (S36),y_=(y419 ++ t416):=⟨_,rfl⟩
     replace H:((some (([(⟨9,a0_1,0,0⟩:S36)]:List (S36)):List (S36))).bind fun y425=>(if y422.length+y425.length<4398046511104 then (some (y422 ++ y425)) else (none)))=some r:=by subst hy422;first|with_reducible exact H|(have z:=(Option.bind_some _ _).symm.trans H;with_reducible exact z)|exact H
     have Ny422:=Xa.mk hy422;clear hy422;obtain ⟨y425,hy425⟩:∃ y_:List (S36),y_=(([(⟨9,a0_1,0,0⟩:S36)]:List (S36))):=⟨_,rfl⟩
     replace H:(if y422.length+y425.length<4398046511104 then (some (y422 ++ y425)) else (none))=some r:=by subst hy425;first|with_reducible exact H|(have z:=(Option.bind_some _ _).symm.trans H;with_reducible exact z)|exact H
     have Ny425:=Xa.mk hy425;clear hy425;by_cases c44:y422.length+y425.length<4398046511104
     ·rw [if_pos c44] at H;have LMc44:=Xa.mk c44;clear c44;obtain ⟨y428,hy428⟩:∃ y_:List (S36),y_=(y422 ++ y425):=⟨_,rfl⟩
      replace H:(some y428)=some r:=by subst hy428;first|with_reducible exact H|(have z:=(Option.bind_some _ _).symm.trans H;with_reducible exact z)|exact H
      have Ny428:=Xa.mk hy428;clear hy428;obtain rfl:=Option.some.inj H
      go_enter Tryd.func56,Tryd.ntmps56
      try go_wp2_with (first|((with_reducible refine Xq (N:=2) rfl ?_);refine Yq ?hg (N:=2) ?hd (cs:=#[.int .i64 a0_0,.int .i64 a0_1,.int .i64 a0_2,.int .i64 a0_3,.slice A0_4 l0_4.length c0_4,.slice A0_5 l0_5.length c0_5]) (t:=62) ?hr ?_;(case hd=>rfl);(case hg=>rfl);(case hr=>first|(go_simp;done)|(go_simp;rfl));intro gb379 hg w45 hbox hb;have n0_:=Xa.mk (Xc (bl_ HB) hb);have n1_:=Xa.mk (hbox);have n2_:=Xa.mk ((by rw [hg];exact (Xd (bl_ HB)):w.heap.size≤gb379));have n3_:=Xa.mk ((by rw [hg];exact (Xd (bl_ HB)):w.heap.size≤gb379));clear HB;have HB:=n0_;have BK379:=n1_;have GW379:=n2_;have GE379:=n3_;clear n0_ n1_ n2_ n3_;clear hb hbox hg;obtain ⟨hcz46_0,hcz46_1,hcz46_2,hcz46_3,hcz46_4,hcz46_5⟩:=Uk BK379.out;obtain ⟨hfz46_0,hfz46_1,hfz46_2,hfz46_3,hfz46_4,hfz46_5⟩:=Ul BK379.out)|((with_reducible refine Xj (f:=47) rfl ?_);refine Yu (some 82) rfl rfl Tryd.func47 (by kernel_rfl) rfl #[.slice A0_4 l0_4.length c0_4,.int .i64 (wrap64 (a1+1))] rfl ga_ ?_;(with_reducible refine (ih_spec_l4Of k (by omega) _ _ l0_4 (wrap64 (a1+1)) t416 _ ?side1 ?side2 A42.out).mono ?_);(case side1=>repeat (first|exact (Kd.Zl HR0_4.out HB.out)|(with_reducible refine Kd.Yc ?_ _)|(with_reducible refine Kd.Yd ?_ _)|(with_reducible refine Kd.Yo ?_)));(case side2=>exact HC0_4.out);rintro e w47 ⟨v417,rfl,ho0,hb⟩;refine ⟨_,rfl,?_⟩;have n0_:=Xa.mk (Kd.Ye ho0 (Xd (bl_ HB)));have n1_:=Xa.mk (Ym (g:=gb379) (o:=.cells #[.int .i64 a0_0,.int .i64 a0_1,.int .i64 a0_2,.int .i64 a0_3,.slice A0_4 l0_4.length c0_4,.slice A0_5 l0_5.length c0_5] 62 (0,0)) (ba_ BK379) hb);have n2_:=Xa.mk (Xc (bl_ HB) hb);clear BK379;clear HB;have HO418:=n0_;have BK379:=n1_;have HB:=n2_;clear n0_ n1_ n2_;(try clear hb);(try clear hb2);(try clear hk);(try clear hi);(try clear ho0);obtain ⟨Ao48,co48,eo48⟩:=Kd.Zd HO418.out;subst eo48))
      have n0_:=Xa.mk (Kd.R_drew HO418.out);have n1_:=Xa.mk (Xx BK379.out);have n2_:=Xa.mk (below_drew1 HB.out);clear HO418;clear BK379;clear HB;have HO418:=n0_;have BK379:=n1_;have HB:=n2_;clear n0_ n1_ n2_;refine start_ (n:=12) (S:=fun w'=>w'.cell? ⟨gb379,0,none⟩=some (.int .i64 a0_0)∧w'.cell? ⟨gb379,1,none⟩=some (.int .i64 a0_1)∧w'.cell? ⟨gb379,2,none⟩=some (.int .i64 a0_2)∧w'.cell? ⟨gb379,3,none⟩=some (.int .i64 a0_3)∧w'.cell? ⟨gb379,4,none⟩=some (.slice A0_4 l0_4.length c0_4)∧w'.cell? ⟨gb379,5,none⟩=some (.slice A0_5 l0_5.length c0_5)) (ds:=[]) #[false,false,false,false,false,false,false,false,false,false,false,false] (by kernel_rfl) rfl rfl ⟨(Ya BK379.out 0).trans rfl,(Ya BK379.out 1).trans rfl,(Ya BK379.out 2).trans rfl,(Ya BK379.out 3).trans rfl,(Ya BK379.out 4).trans rfl,(Ya BK379.out 5).trans rfl⟩ (fun hHeld=>?_);refine with_tabW Yz.tab13 Yz.bits13 (fun HT_ HW_=>?_)
      generalize w47.drew=w49 at HO418 BK379 HB hHeld ⊢
      refine Zb (i:=0) (N:=some 83) (v:=?_) (a':=?_) #[true,false,false,false,false,false,false,false,false,false,false,false] rfl rfl (Yr HT_.out (by kernel_rfl)) (fun _ _ _ h=>h) (Or.inl ⟨by rfl,?_⟩) ?_ ?_
      rotate_left
      ·intro w';go_simp
       with_reducible rfl
      rotate_left
      ·simp only [Act.put,List.setIfInBounds_toArray,List.set_cons_zero,List.set_cons_succ,Xt,Xu];rfl
      refine Zb (i:=4) (N:=some 87) (v:=?_) (a':=?_) #[true,false,false,false,true,false,false,false,false,false,false,false] rfl rfl (Yr HT_.out (by kernel_rfl)) (fun _ _ _ h=>h) (Or.inl ⟨by rfl,?_⟩) ?_ ?_
      rotate_left
      ·intro w';go_simp
       with_reducible rfl
      rotate_left
      ·simp only [Act.put,List.setIfInBounds_toArray,List.set_cons_zero,List.set_cons_succ,Xt,Xu];rfl
      refine Zb (i:=6) (N:=some 89) (v:=?_) (a':=?_) #[true,false,false,false,true,false,true,false,false,false,false,false] rfl rfl (Yr HT_.out (by kernel_rfl)) (fun _ _ _ h=>h) (Or.inl ⟨by rfl,?_⟩) ?_ ?_
      rotate_left
      ·intro w';go_simp
       with_reducible rfl
      rotate_left
      ·simp only [Act.put,List.setIfInBounds_toArray,List.set_cons_zero,List.set_cons_succ,Xt,Xu];rfl
      refine take_ (i:=1) (N:=some 84) (v:=?_) (a':=?_) #[true,true,false,false,true,false,true,false,false,false,false,false] rfl rfl (take_ofW HT_.out HW_.out (by kernel_rfl)) (fun _ _ _ h=>h) (Or.inl ⟨by rfl,?_⟩) hHeld ?_ ?_
      rotate_left
      ·rintro w' ⟨s0,s1,s2,s3,s4,s5⟩
       go_simp
       with_reducible rfl
      rotate_left
      ·simp only [Act.put,List.setIfInBounds_toArray,List.set_cons_zero,List.set_cons_succ,Xt,Xu];rfl
      refine Zb (i:=2) (N:=some 85) (v:=?_) (a':=?_) #[true,true,true,false,true,false,true,false,false,false,false,false] rfl rfl (Yr HT_.out (by kernel_rfl)) (fun _ _ _ h=>h) (Or.inl ⟨by rfl,?_⟩) ?_ ?_
      rotate_left
      ·intro w';go_simp
       with_reducible rfl
      rotate_left
      ·simp only [Act.put,List.setIfInBounds_toArray,List.set_cons_zero,List.set_cons_succ,Xt,Xu];rfl
      refine take_ (i:=7) (N:=some 90) (v:=?_) (a':=?_) #[true,true,true,false,true,false,true,true,false,false,false,false] rfl rfl (take_ofW HT_.out HW_.out (by kernel_rfl)) (fun _ _ _ h=>h) (Or.inl ⟨by rfl,?_⟩) hHeld ?_ ?_
      rotate_left
      ·rintro w' ⟨s0,s1,s2,s3,s4,s5⟩
       go_simp
       with_reducible rfl
      rotate_left
      ·simp only [Act.put,List.setIfInBounds_toArray,List.set_cons_zero,List.set_cons_succ,Xt,Xu];rfl
      refine Zb (i:=8) (N:=some 91) (v:=?_) (a':=?_) #[true,true,true,false,true,false,true,true,true,false,false,false] rfl rfl (Yr HT_.out (by kernel_rfl)) (fun _ _ _ h=>h) (Or.inl ⟨by rfl,?_⟩) ?_ ?_
      rotate_left
      ·intro w';go_simp
       with_reducible rfl
      rotate_left
      ·simp only [Act.put,List.setIfInBounds_toArray,List.set_cons_zero,List.set_cons_succ,Xt,Xu];rfl
      refine join_ (σ:=Value × Value × Value) 2 #[true,true,true,true,true,true,true,true,true,true,false,false] (fun s_=>[(86,s_.1),(88,s_.2.1),(92,s_.2.2)]) (fun s_ w'=>(w'.cell? ⟨gb379,0,none⟩=some (.int .i64 a0_0)∧w'.cell? ⟨gb379,1,none⟩=some (.int .i64 a0_1)∧w'.cell? ⟨gb379,2,none⟩=some (.int .i64 a0_2)∧w'.cell? ⟨gb379,3,none⟩=some (.int .i64 a0_3)∧w'.cell? ⟨gb379,4,none⟩=some (.slice A0_4 l0_4.length c0_4)∧w'.cell? ⟨gb379,5,none⟩=some (.slice A0_5 l0_5.length c0_5))∧(Kd.R k36 36 w' w.heap.size (fun k_=>some k_≠(s_.2.1:Value).ownBlock∧some k_≠(s_.2.2:Value).ownBlock) (.slice Ao48 t416.length co48) t416)∧(Kd.R k36 36 w' w.heap.size (fun k_=>some k_≠(.slice Ao48 t416.length co48:Value).ownBlock∧some k_≠(s_.2.2:Value).ownBlock) s_.2.1 y422)∧(Kd.R k36 36 w' w.heap.size (fun k_=>some k_≠(.slice Ao48 t416.length co48:Value).ownBlock∧some k_≠(s_.2.1:Value).ownBlock) s_.2.2 y425)∧(w'.heap[gb379]?=some (.cells #[.int .i64 a0_0,.int .i64 a0_1,.int .i64 a0_2,.int .i64 a0_3,.slice A0_4 l0_4.length c0_4,.slice A0_5 l0_5.length c0_5] 62 (0,0)))∧(Below w.heap.size w w')) ?_ ?_
      rotate_left
      ·intro hCont;refine two_ (i:=3) (j:=9) (Ni:=some 86) (Nj:=some 92) #[true,true,true,true,true,false,true,true,true,false,false,false] #[true,true,true,false,true,false,true,true,true,true,false,false] rfl rfl rfl rfl (two_of HT_.out (by kernel_rfl)) (by decide) (by decide) (fun K hK=>?_) (fun K hK=>?_)
       ·skip
        refine Kd.R_lit_step k36 _ 36 ?hg (N:=86) ?hd (xs:=([(⟨8,a0_1,0,0⟩:S36)]:List (S36))) (inner:=[.int .i64 8,.int .i64 a0_1,.int .i64 0,.int .i64 0]) (ok:=fun _=>True) (okp:=fun _=>True) ?hr ?hp (fun _ hk=>hk) trivial (Below.refl _ _) (Nat.le_refl _) (by simp) ?_;(case hd=>rfl);(case hg=>rfl);(case hr=>first|(go_simp;done)|(go_simp;rfl));(case hp=>exact (Xl.c4 (show Kd.M k36 _ _ _ (⟨8,a0_1,0,0⟩:S36) [.int .i64 8,.int .i64 a0_1,.int .i64 0,.int .i64 0] from (k36_mkM _ _ _ (⟨8,a0_1,0,0⟩:S36) )) (Xl.none _ _)))
        intro v420 w50 ho51 hb hg_ hnew_;clear hg_ hnew_
        (first|rw [← Ny419.out] at ho51|(simp only [Int.reduceToNat] at ho51;rw [← Ny419.out] at ho51))
        have n0_:=Xa.mk (Kd.R_elder' (Kd.ra_ (HO418.out)) (Kd.Zh ho51) hb);have n1_:=Xa.mk (Kd.Ye (Kd.R_new' ho51 (Kd.Uh (Kd.ra_ (HO418.out)))) (Xd (bl_ HB)));have n2_:=Xa.mk (Ym (g:=gb379) (o:=.cells #[.int .i64 a0_0,.int .i64 a0_1,.int .i64 a0_2,.int .i64 a0_3,.slice A0_4 l0_4.length c0_4,.slice A0_5 l0_5.length c0_5] 62 (0,0)) (ba_ BK379) hb);have n3_:=Xa.mk (Xc (bl_ HB) hb);clear HO418;clear BK379;clear HB;have HO418:=n0_;have HO421:=n1_;have BK379:=n2_;have HB:=n3_;clear n0_ n1_ n2_ n3_;clear hb ho51;refine hK.out _ _ ⟨(Ya BK379.out 0).trans rfl,(Ya BK379.out 1).trans rfl,(Ya BK379.out 2).trans rfl,(Ya BK379.out 3).trans rfl,(Ya BK379.out 4).trans rfl,(Ya BK379.out 5).trans rfl⟩ (fun hHeld=>?_)
        clear hK K;refine Uf (a':=?_) ?_ ?_
        rotate_left
        ·show Act.put _ (some 86) _=_
         simp only [Act.put,List.setIfInBounds_toArray,List.set_cons_zero,List.set_cons_succ,Xt,Xu];rfl
        refine two_ (i:=5) (j:=9) (Ni:=some 88) (Nj:=some 92) #[true,true,true,true,true,true,true,true,true,false,false,false] #[true,true,true,true,true,false,true,true,true,true,false,false] rfl rfl rfl rfl (two_of HT_.out (by kernel_rfl)) (by decide) (by decide) (fun K hK=>?_) (fun K hK=>?_)
        ·skip
         refine Kd.Zn k36 (w0:=w) w.heap.size (by rfl) (.tmp 86) (.tmp 87) 25 36 (.agg #[(.int .i64 0),(.int .i64 0),(.int .i64 0),(.int .i64 0)]) 32 rfl Tryd.underlying25 info36 rfl (by decide) (by omega) v420 y419 t416 _ _ _ (fun k_=>some k_≠(.slice Ao48 t416.length co48:Value).ownBlock) (fun _=>False) rfl rfl ?aO ?aR (fun _ _ h=>h) (fun _ h=>h.elim) ?aF ?aB ?aS ?aL ?_
         (case aR=>repeat (first|exact (Kd.R_reads' HO418.out).2.2|(with_reducible refine Kd.Yc ?_ _)|(with_reducible refine Kd.Yd ?_ _)|(with_reducible refine Kd.Yo ?_)))
         (case aB=>exact (bl_ HB))
         (case aF=>exact (fun k_ hk=>Kd.fresh' (Kd.Uh (Kd.ra_ (HO418.out))) k_ hk))
         (case aO=>exact (Kd.ra_ (Kd.Xv HO421.out (fun _ hk=>hk.2))))
         (case aS=>exact (Xd (bl_ HB)))
         (case aL=>have:=LMc43.out;omega)
         intro v423 w52 ho hb hg hat;rw [← Ny422.out] at ho;have n0_:=Xa.mk (blk_grown (g:=gb379) (o:=.cells #[.int .i64 a0_0,.int .i64 a0_1,.int .i64 a0_2,.int .i64 a0_3,.slice A0_4 l0_4.length c0_4,.slice A0_5 l0_5.length c0_5] 62 (0,0)) (ba_ BK379) hg (Kd.R_ne HO421.out BK379.out (by decide)));have n1_:=Xa.mk (Kd.Yx (ok:=(fun _=>True)) (Kd.ra_ (HO418.out)) hg hat);have n2_:=Xa.mk (hb);have n3_:=Xa.mk (ho);clear BK379;clear HO418;clear HB;clear HO421;have BK379:=n0_;have HO418:=n1_;have HB:=n2_;have HO424:=n3_;clear n0_ n1_ n2_ n3_;clear ho hb hg hat;refine hK.out _ _ ⟨(Ya BK379.out 0).trans rfl,(Ya BK379.out 1).trans rfl,(Ya BK379.out 2).trans rfl,(Ya BK379.out 3).trans rfl,(Ya BK379.out 4).trans rfl,(Ya BK379.out 5).trans rfl⟩ (fun hHeld=>?_)
         clear hK K;refine Uf (a':=?_) ?_ ?_
         rotate_left
         ·show Act.put _ (some 88) _=_
          simp only [Act.put,List.setIfInBounds_toArray,List.set_cons_zero,List.set_cons_succ,Xt,Xu];rfl
         refine one_ (i:=9) (N:=some 92) #[true,true,true,true,true,true,true,true,true,true,false,false] rfl rfl (one_of HT_.out (by kernel_rfl)) (by decide) (fun K hK=>?_)
         refine Kd.R_lit_step k36 _ 36 ?hg (N:=92) ?hd (xs:=([(⟨9,a0_1,0,0⟩:S36)]:List (S36))) (inner:=[.int .i64 9,.int .i64 a0_1,.int .i64 0,.int .i64 0]) (ok:=fun _=>True) (okp:=fun _=>True) ?hr ?hp (fun _ hk=>hk) trivial (Below.refl _ _) (Nat.le_refl _) (by simp) ?_;(case hd=>rfl);(case hg=>rfl);(case hr=>first|(go_simp;done)|(go_simp;rfl));(case hp=>exact (Xl.c4 (show Kd.M k36 _ _ _ (⟨9,a0_1,0,0⟩:S36) [.int .i64 9,.int .i64 a0_1,.int .i64 0,.int .i64 0] from (k36_mkM _ _ _ (⟨9,a0_1,0,0⟩:S36) )) (Xl.none _ _)))
         intro v426 w53 ho54 hb hg_ hnew_;clear hg_ hnew_
         (first|rw [← Ny425.out] at ho54|(simp only [Int.reduceToNat] at ho54;rw [← Ny425.out] at ho54))
         have n0_:=Xa.mk (Kd.R_elder' (Kd.ra_ (HO418.out)) (Kd.Zh ho54) hb);have n1_:=Xa.mk (Kd.R_elder' (Kd.ra_ (HO424.out)) (Kd.Zh ho54) hb);have n2_:=Xa.mk (Kd.Ye (Kd.R_new' (Kd.R_new' ho54 (Kd.Uh (Kd.ra_ (HO418.out)))) (Kd.Uh (Kd.ra_ (HO424.out)))) (Xd (bl_ HB)));have n3_:=Xa.mk (Ym (g:=gb379) (o:=.cells #[.int .i64 a0_0,.int .i64 a0_1,.int .i64 a0_2,.int .i64 a0_3,.slice A0_4 l0_4.length c0_4,.slice A0_5 l0_5.length c0_5] 62 (0,0)) (ba_ BK379) hb);have n4_:=Xa.mk (Xc (bl_ HB) hb);clear HO418;clear HO424;clear BK379;clear HB;have HO418:=n0_;have HO424:=n1_;have HO427:=n2_;have BK379:=n3_;have HB:=n4_;clear n0_ n1_ n2_ n3_ n4_;clear hb ho54;refine hK.out _ _ ⟨(Ya BK379.out 0).trans rfl,(Ya BK379.out 1).trans rfl,(Ya BK379.out 2).trans rfl,(Ya BK379.out 3).trans rfl,(Ya BK379.out 4).trans rfl,(Ya BK379.out 5).trans rfl⟩ (fun hHeld=>?_)
         clear hK K;refine Uf (a':=?_) ?_ ?_
         rotate_left
         ·show Act.put _ (some 92) _=_
          simp only [Act.put,List.setIfInBounds_toArray,List.set_cons_zero,List.set_cons_succ,Xt,Xu];rfl
         exact Uf (by simp only [putAll,Act.put,List.setIfInBounds_toArray,List.set_cons_zero,List.set_cons_succ]) (hCont (v420,v423,v426) _ ⟨hHeld,(Kd.ra_ (Kd.Xv HO418.out (fun _ hk=>⟨hk.1.2,hk.2⟩))),(Kd.ra_ (HO424.out)),(Kd.ra_ (Kd.Xv HO427.out (fun _ hk=>⟨hk.1.2,hk.2⟩))),(ba_ BK379),(bl_ HB)⟩)
        ·skip
         refine Kd.R_lit_step k36 _ 36 ?hg (N:=92) ?hd (xs:=([(⟨9,a0_1,0,0⟩:S36)]:List (S36))) (inner:=[.int .i64 9,.int .i64 a0_1,.int .i64 0,.int .i64 0]) (ok:=fun _=>True) (okp:=fun _=>True) ?hr ?hp (fun _ hk=>hk) trivial (Below.refl _ _) (Nat.le_refl _) (by simp) ?_;(case hd=>rfl);(case hg=>rfl);(case hr=>first|(go_simp;done)|(go_simp;rfl));(case hp=>exact (Xl.c4 (show Kd.M k36 _ _ _ (⟨9,a0_1,0,0⟩:S36) [.int .i64 9,.int .i64 a0_1,.int .i64 0,.int .i64 0] from (k36_mkM _ _ _ (⟨9,a0_1,0,0⟩:S36) )) (Xl.none _ _)))
         intro v426 w52 ho53 hb hg_ hnew_;clear hg_ hnew_
         (first|rw [← Ny425.out] at ho53|(simp only [Int.reduceToNat] at ho53;rw [← Ny425.out] at ho53))
         have n0_:=Xa.mk (Kd.R_elder' (Kd.ra_ (HO418.out)) (Kd.Zh ho53) hb);have n1_:=Xa.mk (Kd.R_elder' (Kd.ra_ (HO421.out)) (Kd.Zh ho53) hb);have n2_:=Xa.mk (Kd.Ye (Kd.R_new' (Kd.R_new' ho53 (Kd.Uh (Kd.ra_ (HO418.out)))) (Kd.Uh (Kd.ra_ (HO421.out)))) (Xd (bl_ HB)));have n3_:=Xa.mk (Ym (g:=gb379) (o:=.cells #[.int .i64 a0_0,.int .i64 a0_1,.int .i64 a0_2,.int .i64 a0_3,.slice A0_4 l0_4.length c0_4,.slice A0_5 l0_5.length c0_5] 62 (0,0)) (ba_ BK379) hb);have n4_:=Xa.mk (Xc (bl_ HB) hb);clear HO418;clear HO421;clear BK379;clear HB;have HO418:=n0_;have HO421:=n1_;have HO427:=n2_;have BK379:=n3_;have HB:=n4_;clear n0_ n1_ n2_ n3_ n4_;clear hb ho53;refine hK.out _ _ ⟨(Ya BK379.out 0).trans rfl,(Ya BK379.out 1).trans rfl,(Ya BK379.out 2).trans rfl,(Ya BK379.out 3).trans rfl,(Ya BK379.out 4).trans rfl,(Ya BK379.out 5).trans rfl⟩ (fun hHeld=>?_)
         clear hK K;refine Uf (a':=?_) ?_ ?_
         rotate_left
         ·show Act.put _ (some 92) _=_
          simp only [Act.put,List.setIfInBounds_toArray,List.set_cons_zero,List.set_cons_succ,Xt,Xu];rfl
         refine one_ (i:=5) (N:=some 88) #[true,true,true,true,true,true,true,true,true,true,false,false] rfl rfl (one_of HT_.out (by kernel_rfl)) (by decide) (fun K hK=>?_)
         refine Kd.Zn k36 (w0:=w) w.heap.size (by rfl) (.tmp 86) (.tmp 87) 25 36 (.agg #[(.int .i64 0),(.int .i64 0),(.int .i64 0),(.int .i64 0)]) 32 rfl Tryd.underlying25 info36 rfl (by decide) (by omega) v420 y419 t416 _ _ _ (fun k_=>some k_≠(.slice Ao48 t416.length co48:Value).ownBlock∧some k_≠(v426:Value).ownBlock) (fun _=>False) rfl rfl ?aO ?aR (fun _ _ h=>h) (fun _ h=>h.elim) ?aF ?aB ?aS ?aL ?_
         (case aR=>repeat (first|exact (Kd.R_reads' HO418.out).2.2|(with_reducible refine Kd.Yc ?_ _)|(with_reducible refine Kd.Yd ?_ _)|(with_reducible refine Kd.Yo ?_)))
         (case aB=>exact (bl_ HB))
         (case aF=>exact (fun k_ hk=>⟨Kd.fresh' (Kd.Uh (Kd.ra_ (HO418.out))) k_ hk,Kd.fresh' (Kd.Uh (Kd.ra_ (HO427.out))) k_ hk⟩))
         (case aO=>exact (Kd.ra_ (Kd.Xv HO421.out (fun _ hk=>⟨hk.1.2,hk.2⟩))))
         (case aS=>exact (Xd (bl_ HB)))
         (case aL=>have:=LMc43.out;omega)
         intro v423 w54 ho hb hg hat;rw [← Ny422.out] at ho;have n0_:=Xa.mk (blk_grown (g:=gb379) (o:=.cells #[.int .i64 a0_0,.int .i64 a0_1,.int .i64 a0_2,.int .i64 a0_3,.slice A0_4 l0_4.length c0_4,.slice A0_5 l0_5.length c0_5] 62 (0,0)) (ba_ BK379) hg (Kd.R_ne HO421.out BK379.out (by decide)));have n1_:=Xa.mk (Kd.Yx (ok:=(fun k_=>some k_≠(v426:Value).ownBlock)) (Kd.ra_ (Kd.Xv HO418.out (fun _ hk=>⟨hk.2,hk.1.2⟩))) hg hat);have n2_:=Xa.mk (Kd.Yx (ok:=(fun k_=>some k_≠(.slice Ao48 t416.length co48:Value).ownBlock)) (Kd.ra_ (Kd.Xv HO427.out (fun _ hk=>⟨hk.1.2,hk.2⟩))) hg hat);have n3_:=Xa.mk (hb);have n4_:=Xa.mk (ho);clear BK379;clear HO418;clear HO427;clear HB;clear HO421;have BK379:=n0_;have HO418:=n1_;have HO427:=n2_;have HB:=n3_;have HO424:=n4_;clear n0_ n1_ n2_ n3_ n4_;clear ho hb hg hat;refine hK.out _ _ ⟨(Ya BK379.out 0).trans rfl,(Ya BK379.out 1).trans rfl,(Ya BK379.out 2).trans rfl,(Ya BK379.out 3).trans rfl,(Ya BK379.out 4).trans rfl,(Ya BK379.out 5).trans rfl⟩ (fun hHeld=>?_)
         clear hK K;refine Uf (a':=?_) ?_ ?_
         rotate_left
         ·show Act.put _ (some 88) _=_
          simp only [Act.put,List.setIfInBounds_toArray,List.set_cons_zero,List.set_cons_succ,Xt,Xu];rfl
         exact Uf (by simp only [putAll,Act.put,List.setIfInBounds_toArray,List.set_cons_zero,List.set_cons_succ]) (hCont (v420,v423,v426) _ ⟨hHeld,(Kd.ra_ (Kd.Xv HO418.out (fun _ hk=>⟨hk.2,hk.1⟩))),(Kd.ra_ (HO424.out)),(Kd.ra_ (HO427.out)),(ba_ BK379),(bl_ HB)⟩)
       ·skip
        refine Kd.R_lit_step k36 _ 36 ?hg (N:=92) ?hd (xs:=([(⟨9,a0_1,0,0⟩:S36)]:List (S36))) (inner:=[.int .i64 9,.int .i64 a0_1,.int .i64 0,.int .i64 0]) (ok:=fun _=>True) (okp:=fun _=>True) ?hr ?hp (fun _ hk=>hk) trivial (Below.refl _ _) (Nat.le_refl _) (by simp) ?_;(case hd=>rfl);(case hg=>rfl);(case hr=>first|(go_simp;done)|(go_simp;rfl));(case hp=>exact (Xl.c4 (show Kd.M k36 _ _ _ (⟨9,a0_1,0,0⟩:S36) [.int .i64 9,.int .i64 a0_1,.int .i64 0,.int .i64 0] from (k36_mkM _ _ _ (⟨9,a0_1,0,0⟩:S36) )) (Xl.none _ _)))
        intro v426 w50 ho51 hb hg_ hnew_;clear hg_ hnew_
        (first|rw [← Ny425.out] at ho51|(simp only [Int.reduceToNat] at ho51;rw [← Ny425.out] at ho51))
        have n0_:=Xa.mk (Kd.R_elder' (Kd.ra_ (HO418.out)) (Kd.Zh ho51) hb);have n1_:=Xa.mk (Kd.Ye (Kd.R_new' ho51 (Kd.Uh (Kd.ra_ (HO418.out)))) (Xd (bl_ HB)));have n2_:=Xa.mk (Ym (g:=gb379) (o:=.cells #[.int .i64 a0_0,.int .i64 a0_1,.int .i64 a0_2,.int .i64 a0_3,.slice A0_4 l0_4.length c0_4,.slice A0_5 l0_5.length c0_5] 62 (0,0)) (ba_ BK379) hb);have n3_:=Xa.mk (Xc (bl_ HB) hb);clear HO418;clear BK379;clear HB;have HO418:=n0_;have HO427:=n1_;have BK379:=n2_;have HB:=n3_;clear n0_ n1_ n2_ n3_;clear hb ho51;refine hK.out _ _ ⟨(Ya BK379.out 0).trans rfl,(Ya BK379.out 1).trans rfl,(Ya BK379.out 2).trans rfl,(Ya BK379.out 3).trans rfl,(Ya BK379.out 4).trans rfl,(Ya BK379.out 5).trans rfl⟩ (fun hHeld=>?_)
        clear hK K;refine Uf (a':=?_) ?_ ?_
        rotate_left
        ·show Act.put _ (some 92) _=_
         simp only [Act.put,List.setIfInBounds_toArray,List.set_cons_zero,List.set_cons_succ,Xt,Xu];rfl
        refine one_ (i:=3) (N:=some 86) #[true,true,true,true,true,false,true,true,true,true,false,false] rfl rfl (one_of HT_.out (by kernel_rfl)) (by decide) (fun K hK=>?_)
        refine Kd.R_lit_step k36 _ 36 ?hg (N:=86) ?hd (xs:=([(⟨8,a0_1,0,0⟩:S36)]:List (S36))) (inner:=[.int .i64 8,.int .i64 a0_1,.int .i64 0,.int .i64 0]) (ok:=fun _=>True) (okp:=fun _=>True) ?hr ?hp (fun _ hk=>hk) trivial (Below.refl _ _) (Nat.le_refl _) (by simp) ?_;(case hd=>rfl);(case hg=>rfl);(case hr=>first|(go_simp;done)|(go_simp;rfl));(case hp=>exact (Xl.c4 (show Kd.M k36 _ _ _ (⟨8,a0_1,0,0⟩:S36) [.int .i64 8,.int .i64 a0_1,.int .i64 0,.int .i64 0] from (k36_mkM _ _ _ (⟨8,a0_1,0,0⟩:S36) )) (Xl.none _ _)))
        intro v420 w52 ho53 hb hg_ hnew_;clear hg_ hnew_
        (first|rw [← Ny419.out] at ho53|(simp only [Int.reduceToNat] at ho53;rw [← Ny419.out] at ho53))
        have n0_:=Xa.mk (Kd.R_elder' (Kd.ra_ (HO418.out)) (Kd.Zh ho53) hb);have n1_:=Xa.mk (Kd.R_elder' (Kd.ra_ (HO427.out)) (Kd.Zh ho53) hb);have n2_:=Xa.mk (Kd.Ye (Kd.R_new' (Kd.R_new' ho53 (Kd.Uh (Kd.ra_ (HO418.out)))) (Kd.Uh (Kd.ra_ (HO427.out)))) (Xd (bl_ HB)));have n3_:=Xa.mk (Ym (g:=gb379) (o:=.cells #[.int .i64 a0_0,.int .i64 a0_1,.int .i64 a0_2,.int .i64 a0_3,.slice A0_4 l0_4.length c0_4,.slice A0_5 l0_5.length c0_5] 62 (0,0)) (ba_ BK379) hb);have n4_:=Xa.mk (Xc (bl_ HB) hb);clear HO418;clear HO427;clear BK379;clear HB;have HO418:=n0_;have HO427:=n1_;have HO421:=n2_;have BK379:=n3_;have HB:=n4_;clear n0_ n1_ n2_ n3_ n4_;clear hb ho53;refine hK.out _ _ ⟨(Ya BK379.out 0).trans rfl,(Ya BK379.out 1).trans rfl,(Ya BK379.out 2).trans rfl,(Ya BK379.out 3).trans rfl,(Ya BK379.out 4).trans rfl,(Ya BK379.out 5).trans rfl⟩ (fun hHeld=>?_)
        clear hK K;refine Uf (a':=?_) ?_ ?_
        rotate_left
        ·show Act.put _ (some 86) _=_
         simp only [Act.put,List.setIfInBounds_toArray,List.set_cons_zero,List.set_cons_succ,Xt,Xu];rfl
        refine one_ (i:=5) (N:=some 88) #[true,true,true,true,true,true,true,true,true,true,false,false] rfl rfl (one_of HT_.out (by kernel_rfl)) (by decide) (fun K hK=>?_)
        refine Kd.Zn k36 (w0:=w) w.heap.size (by rfl) (.tmp 86) (.tmp 87) 25 36 (.agg #[(.int .i64 0),(.int .i64 0),(.int .i64 0),(.int .i64 0)]) 32 rfl Tryd.underlying25 info36 rfl (by decide) (by omega) v420 y419 t416 _ _ _ (fun k_=>some k_≠(.slice Ao48 t416.length co48:Value).ownBlock∧some k_≠(v426:Value).ownBlock) (fun _=>False) rfl rfl ?aO ?aR (fun _ _ h=>h) (fun _ h=>h.elim) ?aF ?aB ?aS ?aL ?_
        (case aR=>repeat (first|exact (Kd.R_reads' HO418.out).2.2|(with_reducible refine Kd.Yc ?_ _)|(with_reducible refine Kd.Yd ?_ _)|(with_reducible refine Kd.Yo ?_)))
        (case aB=>exact (bl_ HB))
        (case aF=>exact (fun k_ hk=>⟨Kd.fresh' (Kd.Uh (Kd.ra_ (HO418.out))) k_ hk,Kd.fresh' (Kd.Uh (Kd.ra_ (HO427.out))) k_ hk⟩))
        (case aO=>exact (Kd.ra_ (Kd.Xv HO421.out (fun _ hk=>⟨hk.1.2,hk.2⟩))))
        (case aS=>exact (Xd (bl_ HB)))
        (case aL=>have:=LMc43.out;omega)
        intro v423 w54 ho hb hg hat;rw [← Ny422.out] at ho;have n0_:=Xa.mk (blk_grown (g:=gb379) (o:=.cells #[.int .i64 a0_0,.int .i64 a0_1,.int .i64 a0_2,.int .i64 a0_3,.slice A0_4 l0_4.length c0_4,.slice A0_5 l0_5.length c0_5] 62 (0,0)) (ba_ BK379) hg (Kd.R_ne HO421.out BK379.out (by decide)));have n1_:=Xa.mk (Kd.Yx (ok:=(fun k_=>some k_≠(v426:Value).ownBlock)) (Kd.ra_ (Kd.Xv HO418.out (fun _ hk=>⟨hk.1.2,hk.2⟩))) hg hat);have n2_:=Xa.mk (Kd.Yx (ok:=(fun k_=>some k_≠(.slice Ao48 t416.length co48:Value).ownBlock)) (Kd.ra_ (Kd.Xv HO427.out (fun _ hk=>⟨hk.1.2,hk.2⟩))) hg hat);have n3_:=Xa.mk (hb);have n4_:=Xa.mk (ho);clear BK379;clear HO418;clear HO427;clear HB;clear HO421;have BK379:=n0_;have HO418:=n1_;have HO427:=n2_;have HB:=n3_;have HO424:=n4_;clear n0_ n1_ n2_ n3_ n4_;clear ho hb hg hat;refine hK.out _ _ ⟨(Ya BK379.out 0).trans rfl,(Ya BK379.out 1).trans rfl,(Ya BK379.out 2).trans rfl,(Ya BK379.out 3).trans rfl,(Ya BK379.out 4).trans rfl,(Ya BK379.out 5).trans rfl⟩ (fun hHeld=>?_)
        clear hK K;refine Uf (a':=?_) ?_ ?_
        rotate_left
        ·show Act.put _ (some 88) _=_
         simp only [Act.put,List.setIfInBounds_toArray,List.set_cons_zero,List.set_cons_succ,Xt,Xu];rfl
        exact Uf (by simp only [putAll,Act.put,List.setIfInBounds_toArray,List.set_cons_zero,List.set_cons_succ]) (hCont (v420,v423,v426) _ ⟨hHeld,(Kd.ra_ (Kd.Xv HO418.out (fun _ hk=>⟨hk.2,hk.1⟩))),(Kd.ra_ (HO424.out)),(Kd.ra_ (HO427.out)),(ba_ BK379),(bl_ HB)⟩)
      rintro ⟨v420,v423,v426⟩ w55 ⟨hS_,h0_,h1_,h2_,h3_,h4_⟩
      have n0_:Xa (Kd.R k36 36 w55 w.heap.size (fun k_=>some k_≠(v423:Value).ownBlock∧some k_≠(v426:Value).ownBlock) (.slice Ao48 t416.length co48) t416):=⟨h0_⟩;have n1_:Xa (Kd.R k36 36 w55 w.heap.size (fun k_=>some k_≠(.slice Ao48 t416.length co48:Value).ownBlock∧some k_≠(v426:Value).ownBlock) v423 y422):=⟨h1_⟩;have n2_:Xa (Kd.R k36 36 w55 w.heap.size (fun k_=>some k_≠(.slice Ao48 t416.length co48:Value).ownBlock∧some k_≠(v423:Value).ownBlock) v426 y425):=⟨h2_⟩;have n3_:Xa (w55.heap[gb379]?=some (.cells #[.int .i64 a0_0,.int .i64 a0_1,.int .i64 a0_2,.int .i64 a0_3,.slice A0_4 l0_4.length c0_4,.slice A0_5 l0_5.length c0_5] 62 (0,0))):=⟨h3_⟩;have n4_:Xa (Below w.heap.size w w55):=⟨h4_⟩;clear HO418;clear BK379;clear HB;clear h0_ h1_ h2_ h3_ h4_;have HO418:=n0_;have HO424:=n1_;have HO427:=n2_;have BK379:=n3_;have HB:=n4_;clear n0_ n1_ n2_ n3_ n4_;have hHeld:w55.cell? ⟨gb379,0,none⟩=some (.int .i64 a0_0)∧w55.cell? ⟨gb379,1,none⟩=some (.int .i64 a0_1)∧w55.cell? ⟨gb379,2,none⟩=some (.int .i64 a0_2)∧w55.cell? ⟨gb379,3,none⟩=some (.int .i64 a0_3)∧w55.cell? ⟨gb379,4,none⟩=some (.slice A0_4 l0_4.length c0_4)∧w55.cell? ⟨gb379,5,none⟩=some (.slice A0_5 l0_5.length c0_5):=hS_;obtain ⟨Ao57,co57,eo57⟩:=Kd.Zd HO427.out
      (first|subst eo57|(injection eo57 with f1_ f2_ f3_;have f4_:=f1_.symm;have f5_:=f3_.symm;clear f1_ f2_ f3_;subst f4_;subst f5_))
      refine Uf (a':=?_) ?_ ?_
      rotate_left
      ·simp only [putAll,Act.put,List.setIfInBounds_toArray,List.set_cons_zero,List.set_cons_succ];rfl
      refine one_ (i:=10) (N:=some 93) #[true,true,true,true,true,true,true,true,true,true,true,false] rfl rfl (one_of HT_.out (by kernel_rfl)) (by decide) (fun K hK=>?_)
      refine Kd.Zn k36 (w0:=w) w.heap.size (by rfl) (.tmp 88) (.tmp 92) 25 36 (.agg #[(.int .i64 0),(.int .i64 0),(.int .i64 0),(.int .i64 0)]) 32 rfl Tryd.underlying25 info36 rfl (by decide) (by omega) v423 y422 y425 _ _ _ (fun k_=>some k_≠(.slice Ao48 t416.length co48:Value).ownBlock∧some k_≠(.slice Ao57 y425.length co57:Value).ownBlock) (fun _=>False) rfl rfl ?aO ?aR (fun _ _ h=>h) (fun _ h=>h.elim) ?aF ?aB ?aS ?aL ?_
      (case aR=>repeat (first|exact (Kd.R_reads' HO427.out).2.2|(with_reducible refine Kd.Yc ?_ _)|(with_reducible refine Kd.Yd ?_ _)|(with_reducible refine Kd.Yo ?_)))
      (case aB=>exact (bl_ HB))
      (case aF=>exact (fun k_ hk=>⟨Kd.fresh' (Kd.Uh (Kd.ra_ (HO418.out))) k_ hk,Kd.fresh' (Kd.Uh (Kd.ra_ (HO427.out))) k_ hk⟩))
      (case aO=>exact (Kd.ra_ (HO424.out)))
      (case aS=>exact (Xd (bl_ HB)))
      (case aL=>have:=LMc44.out;omega)
      intro v429 w56 ho hb hg hat;rw [← Ny428.out] at ho;have n0_:=Xa.mk (blk_grown (g:=gb379) (o:=.cells #[.int .i64 a0_0,.int .i64 a0_1,.int .i64 a0_2,.int .i64 a0_3,.slice A0_4 l0_4.length c0_4,.slice A0_5 l0_5.length c0_5] 62 (0,0)) (ba_ BK379) hg (Kd.R_ne HO424.out BK379.out (by decide)));have n1_:=Xa.mk (Kd.Yx (ok:=(fun k_=>some k_≠(.slice Ao57 y425.length co57:Value).ownBlock)) (Kd.ra_ (Kd.Xv HO418.out (fun _ hk=>⟨hk.2,hk.1⟩))) hg hat);have n2_:=Xa.mk (Kd.Yx (ok:=(fun k_=>some k_≠(.slice Ao48 t416.length co48:Value).ownBlock)) (Kd.ra_ (HO427.out)) hg hat);have n3_:=Xa.mk (hb);have n4_:=Xa.mk (ho);clear BK379;clear HO418;clear HO427;clear HB;clear HO424;have BK379:=n0_;have HO418:=n1_;have HO427:=n2_;have HB:=n3_;have HO430:=n4_;clear n0_ n1_ n2_ n3_ n4_;clear ho hb hg hat;refine hK.out _ _ ⟨(Ya BK379.out 0).trans rfl,(Ya BK379.out 1).trans rfl,(Ya BK379.out 2).trans rfl,(Ya BK379.out 3).trans rfl,(Ya BK379.out 4).trans rfl,(Ya BK379.out 5).trans rfl⟩ (fun hHeld=>?_)
      clear hK K;refine Uf (a':=?_) ?_ ?_
      rotate_left
      ·show Act.put _ (some 93) _=_
       simp only [Act.put,List.setIfInBounds_toArray,List.set_cons_zero,List.set_cons_succ,Xt,Xu];rfl
      refine Zb (i:=11) (N:=some 4) (v:=?_) (a':=?_) #[true,true,true,true,true,true,true,true,true,true,true,true] rfl rfl (Yr HT_.out (by kernel_rfl)) (fun _ _ _ h=>h) (Or.inl ⟨by rfl,?_⟩) ?_ ?_
      rotate_left
      ·intro w';go_simp
       with_reducible rfl
      rotate_left
      ·simp only [Act.put,List.setIfInBounds_toArray,List.set_cons_zero,List.set_cons_succ,Xt,Xu];rfl
      refine done_ (done_of HT_.out (by kernel_rfl)) ?_
      try go_wp2
      go_ret
      exact ⟨_,rf_,Kd.ra_ (Kd.Xv HO430.out (fun _ hk=>trivial)),bl_ HB⟩
     ·rw [if_neg c44] at H;exact absurd H (by simp)
    ·rw [if_neg c43] at H;exact absurd H (by simp)
   ·rw [if_neg c41] at H;have c41b0:(a0_0 == 8)=false:=beq_eq_false_iff_ne.mpr c41;have c41b1:(a0_0 != 8)=true:=bne_iff_ne.mpr c41;have HC58:=Xa.mk H;clear H
    go_enter Tryd.func56,Tryd.ntmps56
    go_upto_if 94 with (first|((with_reducible refine Xq (N:=2) rfl ?_);refine Yq ?hg (N:=2) ?hd (cs:=#[.int .i64 a0_0,.int .i64 a0_1,.int .i64 a0_2,.int .i64 a0_3,.slice A0_4 l0_4.length c0_4,.slice A0_5 l0_5.length c0_5]) (t:=62) ?hr ?_;(case hd=>rfl);(case hg=>rfl);(case hr=>first|(go_simp;done)|(go_simp;rfl));intro gb379 hg w59 hbox hb;have n0_:=Xa.mk (Xc (bl_ HB) hb);have n1_:=Xa.mk (hbox);have n2_:=Xa.mk ((by rw [hg];exact (Xd (bl_ HB)):w.heap.size≤gb379));have n3_:=Xa.mk ((by rw [hg];exact (Xd (bl_ HB)):w.heap.size≤gb379));clear HB;have HB:=n0_;have BK379:=n1_;have GW379:=n2_;have GE379:=n3_;clear n0_ n1_ n2_ n3_;clear hb hbox hg;obtain ⟨hcz60_0,hcz60_1,hcz60_2,hcz60_3,hcz60_4,hcz60_5⟩:=Uk BK379.out;obtain ⟨hfz60_0,hfz60_1,hfz60_2,hfz60_3,hfz60_4,hfz60_5⟩:=Ul BK379.out))
    (try simp only [Act.put,List.setIfInBounds_toArray,List.set_cons_zero,List.set_cons_succ])
    go_cut [94] (fun v94 wc=>∃ (kq:Nat) (x94_57:Bool),v94=.bool x94_57∧Xa (Yz.j0 kq a0_0 x94_57 a0_0 a0_1 a0_2 a0_3 l0_4 l0_5=some r)∧Xa (kq≤k)∧Xa (wc.heap[gb379]?=some (.cells #[.int .i64 a0_0,.int .i64 a0_1,.int .i64 a0_2,.int .i64 a0_3,(.slice A0_4 l0_4.length c0_4),(.slice A0_5 l0_5.length c0_5)] 62 (0,0)))∧Xa (Below w.heap.size w wc))
    case first=>
     have H:=HC58.out;clear HC58;by_cases c61:a0_0=1
     ·rw [if_pos c61] at H;have c61b0:(a0_0 == 1)=true:=beq_iff_eq.mpr c61;have c61b1:(a0_0 != 1)=false:=bne_eq_false_iff_eq.mpr c61;clear c61
      (first|rw [c61b0]|(simp only [Xt,Xu];rw [c61b0])|skip)
      have H':=Xa.mk H;clear H;go_wp2
      go_meet
      case rel=>exact ⟨_,((a0_0 == 1)),(by first|rfl|(simp;done)|(simp [*];done)),H',⟨by first|omega|exact Nat.le_refl _⟩,⟨ba_ BK379⟩,⟨bl_ HB⟩⟩
     ·rw [if_neg c61] at H;have c61b0:(a0_0 == 1)=false:=beq_eq_false_iff_ne.mpr c61;have c61b1:(a0_0 != 1)=true:=bne_iff_ne.mpr c61
      (first|rw [c61b0]|(simp only [Xt,Xu];rw [c61b0])|skip)
      by_cases c62:a0_0=2
      ·rw [if_pos c62] at H;have c62b0:(a0_0 == 2)=true:=beq_iff_eq.mpr c62;have c62b1:(a0_0 != 2)=false:=bne_eq_false_iff_eq.mpr c62;clear c62;have H':=Xa.mk H;clear H;go_wp2
       go_meet
       case rel=>exact ⟨_,((a0_0 == 2)),(by first|rfl|(simp;done)|(simp [*];done)),H',⟨by first|omega|exact Nat.le_refl _⟩,⟨ba_ BK379⟩,⟨bl_ HB⟩⟩
      ·rw [if_neg c62] at H;have c62b0:(a0_0 == 2)=false:=beq_eq_false_iff_ne.mpr c62;have c62b1:(a0_0 != 2)=true:=bne_iff_ne.mpr c62;by_cases c63:a0_0=3
       ·rw [if_pos c63] at H;have c63b0:(a0_0 == 3)=true:=beq_iff_eq.mpr c63;have c63b1:(a0_0 != 3)=false:=bne_eq_false_iff_eq.mpr c63;clear c63;have H':=Xa.mk H;clear H;go_wp2
        go_meet
        case rel=>exact ⟨_,((a0_0 == 3)),(by first|rfl|(simp;done)|(simp [*];done)),H',⟨by first|omega|exact Nat.le_refl _⟩,⟨ba_ BK379⟩,⟨bl_ HB⟩⟩
       ·rw [if_neg c63] at H;have c63b0:(a0_0 == 3)=false:=beq_eq_false_iff_ne.mpr c63;have c63b1:(a0_0 != 3)=true:=bne_iff_ne.mpr c63;by_cases c64:a0_0=4
        ·rw [if_pos c64] at H;have c64b0:(a0_0 == 4)=true:=beq_iff_eq.mpr c64;have c64b1:(a0_0 != 4)=false:=bne_eq_false_iff_eq.mpr c64;clear c64;have H':=Xa.mk H;clear H;go_wp2
         go_meet
         case rel=>exact ⟨_,((a0_0 == 4)),(by first|rfl|(simp;done)|(simp [*];done)),H',⟨by first|omega|exact Nat.le_refl _⟩,⟨ba_ BK379⟩,⟨bl_ HB⟩⟩
        ·rw [if_neg c64] at H;have c64b0:(a0_0 == 4)=false:=beq_eq_false_iff_ne.mpr c64;have c64b1:(a0_0 != 4)=true:=bne_iff_ne.mpr c64;have H':=Xa.mk H;clear H;go_wp2
         go_meet
         case rel=>exact ⟨_,((a0_0 == 5)),(by first|rfl|(simp;done)|(simp [*];done)),H',⟨by first|omega|exact Nat.le_refl _⟩,⟨ba_ BK379⟩,⟨bl_ HB⟩⟩
    case rest=>
     clear HC58
     try clear c2
     try clear p2
     try clear c3
     try clear c3b0
     try clear c3b1
     try clear c4
     try clear c5
     try clear c6
     try clear p6
     try clear c7
     try clear c8
     try clear c25
     try clear c25b0
     try clear c25b1
     try clear c27
     try clear c28
     try clear c41
     try clear c41b0
     try clear c41b1
     try clear c43
     try clear c44
     try clear c47
     try clear c56
     try clear c61
     try clear c61b0
     try clear c61b1
     try clear c62
     try clear c62b0
     try clear c62b1
     try clear c63
     try clear c63b0
     try clear c63b1
     try clear c64
     try clear c64b0
     try clear c64b1
     try clear p64
     try clear hcz10_0
     try clear hcz10_1
     try clear hcz10_2
     try clear hcz10_3
     try clear hcz10_4
     try clear hcz10_5
     try clear hcz12_0
     try clear hcz12_1
     try clear hcz12_2
     try clear hcz12_3
     try clear hcz12_4
     try clear hcz12_5
     try clear hcz15_0
     try clear hcz15_1
     try clear hcz15_2
     try clear hcz15_3
     try clear hcz15_4
     try clear hcz15_5
     try clear hcz30_0
     try clear hcz30_1
     try clear hcz30_2
     try clear hcz30_3
     try clear hcz30_4
     try clear hcz30_5
     try clear hcz32_0
     try clear hcz32_1
     try clear hcz32_2
     try clear hcz32_3
     try clear hcz32_4
     try clear hcz32_5
     try clear hcz46_0
     try clear hcz46_1
     try clear hcz46_2
     try clear hcz46_3
     try clear hcz46_4
     try clear hcz46_5
     try clear hcz60_0
     try clear hcz60_1
     try clear hcz60_2
     try clear hcz60_3
     try clear hcz60_4
     try clear hcz60_5
     try clear hfz10_0
     try clear hfz10_1
     try clear hfz10_2
     try clear hfz10_3
     try clear hfz10_4
     try clear hfz10_5
     try clear hfz12_0
     try clear hfz12_1
     try clear hfz12_2
     try clear hfz12_3
     try clear hfz12_4
     try clear hfz12_5
     try clear hfz15_0
     try clear hfz15_1
     try clear hfz15_2
     try clear hfz15_3
     try clear hfz15_4
     try clear hfz15_5
     try clear hfz30_0
     try clear hfz30_1
     try clear hfz30_2
     try clear hfz30_3
     try clear hfz30_4
     try clear hfz30_5
     try clear hfz32_0
     try clear hfz32_1
     try clear hfz32_2
     try clear hfz32_3
     try clear hfz32_4
     try clear hfz32_5
     try clear hfz46_0
     try clear hfz46_1
     try clear hfz46_2
     try clear hfz46_3
     try clear hfz46_4
     try clear hfz46_5
     try clear hfz60_0
     try clear hfz60_1
     try clear hfz60_2
     try clear hfz60_3
     try clear hfz60_4
     try clear hfz60_5
     obtain ⟨kq,x94_57,rfl,HA,HJ57,BK379,HB⟩:=hcut
     cases kq with
     |zero=>exact absurd HA.out (by simp [Yz.j0])
     |succ kj57=>
      have H:=HA.out;clear HA;simp only [Yz.j0] at H;by_cases c65:x94_57=true
      ·subst c65
       have H1:(some (([(⟨a0_0,a0_1,a0_2,a0_3⟩:S36)]:List (S36))))=some r:=by rw [if_pos rfl] at H;exact H
       clear H;have H:=H1;clear H1;obtain ⟨y431,hy431⟩:∃ y_:List (S36),y_=(([(⟨a0_0,a0_1,a0_2,a0_3⟩:S36)]:List (S36))):=⟨_,rfl⟩
       replace H:(some y431)=some r:=by subst hy431;first|with_reducible exact H|(have z:=(Option.bind_some _ _).symm.trans H;with_reducible exact z)|exact H
       have Ny431:=Xa.mk hy431;clear hy431;obtain rfl:=Option.some.inj H;obtain ⟨hcz66_0,hcz66_1,hcz66_2,hcz66_3,hcz66_4,hcz66_5⟩:=Uk BK379.out;obtain ⟨hfz66_0,hfz66_1,hfz66_2,hfz66_3,hfz66_4,hfz66_5⟩:=Ul BK379.out;go_wp2_with (first|((with_reducible refine Xq (N:=109) rfl ?_);refine Kd.Ug k36 _ 36 ?hg (N:=109) ?hd (xs:=([(⟨a0_0,a0_1,a0_2,a0_3⟩:S36)]:List (S36))) (inner:=[.int .i64 a0_0,.int .i64 a0_1,.int .i64 a0_2,.int .i64 a0_3]) (ok:=fun _=>True) (okp:=fun _=>True) ?hr ?hp (fun _ hk=>hk) trivial (Below.refl _ _) (Nat.le_refl _) (by simp) ?_;(case hd=>rfl);(case hg=>rfl);(case hr=>first|(go_simp;done)|(go_simp;rfl));(case hp=>exact (Xl.c4 (show Kd.M k36 _ _ _ (⟨a0_0,a0_1,a0_2,a0_3⟩:S36) [.int .i64 a0_0,.int .i64 a0_1,.int .i64 a0_2,.int .i64 a0_3] from (k36_mkM _ _ _ (⟨a0_0,a0_1,a0_2,a0_3⟩:S36) )) (Xl.none _ _)));intro v432 w67 ho68 hb hg_ hnew_;clear hg_ hnew_;(first|rw [← Ny431.out] at ho68|(simp only [Int.reduceToNat] at ho68;rw [← Ny431.out] at ho68));have n0_:=Xa.mk (Kd.Ye ho68 (Xd (bl_ HB)));have n1_:=Xa.mk (Ym (g:=gb379) (o:=.cells #[.int .i64 a0_0,.int .i64 a0_1,.int .i64 a0_2,.int .i64 a0_3,.slice A0_4 l0_4.length c0_4,.slice A0_5 l0_5.length c0_5] 62 (0,0)) (ba_ BK379) hb);have n2_:=Xa.mk (Xc (bl_ HB) hb);clear BK379;clear HB;have HO433:=n0_;have BK379:=n1_;have HB:=n2_;clear n0_ n1_ n2_;clear hb ho68))
       go_ret
       exact ⟨_,rf_,Kd.ra_ (HO433.out),bl_ HB⟩
      ·replace c65:=Bool.eq_false_iff.mpr c65;subst c65
       have H1:(if a0_0=9 then (some (([(⟨10,a0_1,0,0⟩:S36)]:List (S36)))) else (if a0_0=10 then (some (([(⟨11,a0_1,0,0⟩:S36)]:List (S36)))) else (some (([(⟨12,0,0,0⟩:S36)]:List (S36))))))=some r:=by rw [if_neg (show ¬ (false=true) by decide)] at H;exact H
       clear H;have H:=H1;clear H1;by_cases c69:a0_0=9
       ·rw [if_pos c69] at H;have c69b0:(a0_0 == 9)=true:=beq_iff_eq.mpr c69;have c69b1:(a0_0 != 9)=false:=bne_eq_false_iff_eq.mpr c69;clear c69;obtain ⟨y434,hy434⟩:∃ y_:List (S36),y_=(([(⟨10,a0_1,0,0⟩:S36)]:List (S36))):=⟨_,rfl⟩
        replace H:(some y434)=some r:=by subst hy434;first|with_reducible exact H|(have z:=(Option.bind_some _ _).symm.trans H;with_reducible exact z)|exact H
        have Ny434:=Xa.mk hy434;clear hy434;obtain rfl:=Option.some.inj H;obtain ⟨hcz70_0,hcz70_1,hcz70_2,hcz70_3,hcz70_4,hcz70_5⟩:=Uk BK379.out;obtain ⟨hfz70_0,hfz70_1,hfz70_2,hfz70_3,hfz70_4,hfz70_5⟩:=Ul BK379.out;go_wp2_with (first|((with_reducible refine Xq (N:=115) rfl ?_);refine Kd.Ug k36 _ 36 ?hg (N:=115) ?hd (xs:=([(⟨10,a0_1,0,0⟩:S36)]:List (S36))) (inner:=[.int .i64 10,.int .i64 a0_1,.int .i64 0,.int .i64 0]) (ok:=fun _=>True) (okp:=fun _=>True) ?hr ?hp (fun _ hk=>hk) trivial (Below.refl _ _) (Nat.le_refl _) (by simp) ?_;(case hd=>rfl);(case hg=>rfl);(case hr=>first|(go_simp;done)|(go_simp;rfl));(case hp=>exact (Xl.c4 (show Kd.M k36 _ _ _ (⟨10,a0_1,0,0⟩:S36) [.int .i64 10,.int .i64 a0_1,.int .i64 0,.int .i64 0] from (k36_mkM _ _ _ (⟨10,a0_1,0,0⟩:S36) )) (Xl.none _ _)));intro v435 w71 ho72 hb hg_ hnew_;clear hg_ hnew_;(first|rw [← Ny434.out] at ho72|(simp only [Int.reduceToNat] at ho72;rw [← Ny434.out] at ho72));have n0_:=Xa.mk (Kd.Ye ho72 (Xd (bl_ HB)));have n1_:=Xa.mk (Ym (g:=gb379) (o:=.cells #[.int .i64 a0_0,.int .i64 a0_1,.int .i64 a0_2,.int .i64 a0_3,.slice A0_4 l0_4.length c0_4,.slice A0_5 l0_5.length c0_5] 62 (0,0)) (ba_ BK379) hb);have n2_:=Xa.mk (Xc (bl_ HB) hb);clear BK379;clear HB;have HO436:=n0_;have BK379:=n1_;have HB:=n2_;clear n0_ n1_ n2_;clear hb ho72))
        go_ret
        exact ⟨_,rf_,Kd.ra_ (HO436.out),bl_ HB⟩
       ·rw [if_neg c69] at H;have c69b0:(a0_0 == 9)=false:=beq_eq_false_iff_ne.mpr c69;have c69b1:(a0_0 != 9)=true:=bne_iff_ne.mpr c69;by_cases c73:a0_0=10
        ·rw [if_pos c73] at H;have c73b0:(a0_0 == 10)=true:=beq_iff_eq.mpr c73;have c73b1:(a0_0 != 10)=false:=bne_eq_false_iff_eq.mpr c73;clear c73;obtain ⟨y437,hy437⟩:∃ y_:List (S36),y_=(([(⟨11,a0_1,0,0⟩:S36)]:List (S36))):=⟨_,rfl⟩
         replace H:(some y437)=some r:=by subst hy437;first|with_reducible exact H|(have z:=(Option.bind_some _ _).symm.trans H;with_reducible exact z)|exact H
         have Ny437:=Xa.mk hy437;clear hy437;obtain rfl:=Option.some.inj H;obtain ⟨hcz74_0,hcz74_1,hcz74_2,hcz74_3,hcz74_4,hcz74_5⟩:=Uk BK379.out;obtain ⟨hfz74_0,hfz74_1,hfz74_2,hfz74_3,hfz74_4,hfz74_5⟩:=Ul BK379.out;go_wp2_with (first|((with_reducible refine Xq (N:=121) rfl ?_);refine Kd.Ug k36 _ 36 ?hg (N:=121) ?hd (xs:=([(⟨11,a0_1,0,0⟩:S36)]:List (S36))) (inner:=[.int .i64 11,.int .i64 a0_1,.int .i64 0,.int .i64 0]) (ok:=fun _=>True) (okp:=fun _=>True) ?hr ?hp (fun _ hk=>hk) trivial (Below.refl _ _) (Nat.le_refl _) (by simp) ?_;(case hd=>rfl);(case hg=>rfl);(case hr=>first|(go_simp;done)|(go_simp;rfl));(case hp=>exact (Xl.c4 (show Kd.M k36 _ _ _ (⟨11,a0_1,0,0⟩:S36) [.int .i64 11,.int .i64 a0_1,.int .i64 0,.int .i64 0] from (k36_mkM _ _ _ (⟨11,a0_1,0,0⟩:S36) )) (Xl.none _ _)));intro v438 w75 ho76 hb hg_ hnew_;clear hg_ hnew_;(first|rw [← Ny437.out] at ho76|(simp only [Int.reduceToNat] at ho76;rw [← Ny437.out] at ho76));have n0_:=Xa.mk (Kd.Ye ho76 (Xd (bl_ HB)));have n1_:=Xa.mk (Ym (g:=gb379) (o:=.cells #[.int .i64 a0_0,.int .i64 a0_1,.int .i64 a0_2,.int .i64 a0_3,.slice A0_4 l0_4.length c0_4,.slice A0_5 l0_5.length c0_5] 62 (0,0)) (ba_ BK379) hb);have n2_:=Xa.mk (Xc (bl_ HB) hb);clear BK379;clear HB;have HO439:=n0_;have BK379:=n1_;have HB:=n2_;clear n0_ n1_ n2_;clear hb ho76))
         go_ret
         exact ⟨_,rf_,Kd.ra_ (HO439.out),bl_ HB⟩
        ·rw [if_neg c73] at H;have c73b0:(a0_0 == 10)=false:=beq_eq_false_iff_ne.mpr c73;have c73b1:(a0_0 != 10)=true:=bne_iff_ne.mpr c73;obtain ⟨y440,hy440⟩:∃ y_:List (S36),y_=(([(⟨12,0,0,0⟩:S36)]:List (S36))):=⟨_,rfl⟩
         replace H:(some y440)=some r:=by subst hy440;first|with_reducible exact H|(have z:=(Option.bind_some _ _).symm.trans H;with_reducible exact z)|exact H
         have Ny440:=Xa.mk hy440;clear hy440;obtain rfl:=Option.some.inj H;go_wp2_with (first|((with_reducible refine Xq (N:=123) rfl ?_);refine Kd.Ug k36 _ 36 ?hg (N:=123) ?hd (xs:=([(⟨12,0,0,0⟩:S36)]:List (S36))) (inner:=[.int .i64 12,.int .i64 0,.int .i64 0,.int .i64 0]) (ok:=fun _=>True) (okp:=fun _=>True) ?hr ?hp (fun _ hk=>hk) trivial (Below.refl _ _) (Nat.le_refl _) (by simp) ?_;(case hd=>rfl);(case hg=>rfl);(case hr=>first|(go_simp;done)|(go_simp;rfl));(case hp=>exact (Xl.c4 (show Kd.M k36 _ _ _ (⟨12,0,0,0⟩:S36) [.int .i64 12,.int .i64 0,.int .i64 0,.int .i64 0] from (k36_mkM _ _ _ (⟨12,0,0,0⟩:S36) )) (Xl.none _ _)));intro v441 w77 ho78 hb hg_ hnew_;clear hg_ hnew_;(first|rw [← Ny440.out] at ho78|(simp only [Int.reduceToNat] at ho78;rw [← Ny440.out] at ho78));have n0_:=Xa.mk (Kd.Ye ho78 (Xd (bl_ HB)));have n1_:=Xa.mk (Ym (g:=gb379) (o:=.cells #[.int .i64 a0_0,.int .i64 a0_1,.int .i64 a0_2,.int .i64 a0_3,.slice A0_4 l0_4.length c0_4,.slice A0_5 l0_5.length c0_5] 62 (0,0)) (ba_ BK379) hb);have n2_:=Xa.mk (Xc (bl_ HB) hb);clear BK379;clear HB;have HO442:=n0_;have BK379:=n1_;have HB:=n2_;clear n0_ n1_ n2_;clear hb ho78))
         go_ret
         exact ⟨_,rf_,Kd.ra_ (HO442.out),bl_ HB⟩
set_option maxHeartbeats 8000000 in
set_option maxRecDepth 100000 in
theorem Zc.step (k:Nat) (ih_spec_l4One:∀ m_,m_<k→∀ (a0_0:Int) (a0_1:Int) (a0_2:Int) (a0_3:Int) (A0_4:Option Addr) (c0_4:Nat) (l0_4:List (S62)) (A0_5:Option Addr) (c0_5:Nat) (l0_5:List (S62)) (a1:Int) (r:List (S36)) (w:World) (hr0_4:Kd.C k62 w A0_4 l0_4.length l0_4) (hc0_4:l0_4.length≤c0_4) (hr0_5:Kd.C k62 w A0_5 l0_5.length l0_5) (hc0_5:l0_5.length≤c0_5) (h:Yz.f m_ a0_0 a0_1 a0_2 a0_3 l0_4 l0_5 a1=some r),
  Calls Tryd.prog 56 #[.agg #[.int .i64 a0_0,.int .i64 a0_1,.int .i64 a0_2,.int .i64 a0_3,.slice A0_4 l0_4.length c0_4,.slice A0_5 l0_5.length c0_5],.int .i64 a1] w fun e w'=>∃ v0_:Value,e=.returned (v0_)∧Kd.R k36 36 w' w.heap.size (fun _=>True) v0_ r∧Below w.heap.size w w') (ih:∀ m_,m_<k→∀ (A0:Option Addr) (c0:Nat) (l0:List (S62)) (a1:Int) (r:List (S36)) (w:World) (hr0:Kd.C k62 w A0 l0.length l0) (hc0:l0.length≤c0) (h:Zc.f m_ l0 a1=some r),
  Calls Tryd.prog 47 #[.slice A0 l0.length c0,.int .i64 a1] w fun e w'=>∃ v0_:Value,e=.returned (v0_)∧Kd.R k36 36 w' w.heap.size (fun _=>True) v0_ r∧Below w.heap.size w w'):∀ (A0:Option Addr) (c0:Nat) (l0:List (S62)) (a1:Int) (r:List (S36)) (w:World) (hr0:Kd.C k62 w A0 l0.length l0) (hc0:l0.length≤c0) (h:Zc.f k l0 a1=some r),
  Calls Tryd.prog 47 #[.slice A0 l0.length c0,.int .i64 a1] w fun e w'=>∃ v0_:Value,e=.returned (v0_)∧Kd.R k36 36 w' w.heap.size (fun _=>True) v0_ r∧Below w.heap.size w w':=by
 intro A0 c0 l0 a1 r w hr0 hc0 h
 cases k with
 |zero=>exact absurd h (by simp [Zc.f])
 |succ k=>
 simp only [Zc.f] at h;have hu62:=Tryd.underlying62;have HR0:=Xa.mk hr0;have HC0:=Xa.mk hc0;clear hr0 hc0;have HB:=Xa.mk (Below.refl w.heap.size w);have H:(Zc.l0 k l0 a1 (([]:List (S36))) 0)=some r:=h;clear h;obtain ⟨y443,hy443⟩:∃ y_:List (S36),y_=(([]:List (S36))):=⟨_,rfl⟩
 replace H:(Zc.l0 k l0 a1 y443 0)=some r:=by subst hy443;first|with_reducible exact H|(have z:=(Option.bind_some _ _).symm.trans H;with_reducible exact z)|exact H
 have Ny443:=Xa.mk hy443;clear hy443;have H':=Xa.mk H;clear H
 go_enter Tryd.func47,Tryd.ntmps47
 go_wp2_with (first|((with_reducible refine Xq (N:=7) rfl ?_);refine Kd.Ug k36 _ 36 ?hg (N:=7) ?hd (xs:=([]:List (S36))) (inner:=[]) (ok:=fun _=>True) (okp:=fun _=>True) ?hr ?hp (fun _ hk=>hk) trivial (Below.refl _ _) (Nat.le_refl _) (by simp) ?_;(case hd=>rfl);(case hg=>rfl);(case hr=>first|(go_simp;done)|(go_simp;rfl));(case hp=>exact (Xl.none _ _));intro v444 w3 ho4 hb hg_ hnew_;clear hg_ hnew_;(first|rw [← Ny443.out] at ho4|(simp only [Int.reduceToNat] at ho4;rw [← Ny443.out] at ho4));have n0_:=Xa.mk (Kd.Ye ho4 (Xd (bl_ HB)));have n1_:=Xa.mk (Xc (bl_ HB) hb);clear HB;have HO445:=n0_;have HB:=n1_;clear n0_ n1_;clear hb ho4))
 go_loopg [5,6] k (fun kq v5 v6 w'=>∃ (x5_1:List (S36)) (x6_1:Int),v6=.int .i64 x6_1∧Xa (Zc.l0 kq l0 a1 x5_1 x6_1=some r)∧Xa (kq≤k)∧Xa (Kd.R k36 36 w' w.heap.size (fun _=>True) v5 x5_1)∧Xa (Below w.heap.size w w'))
 case atStart=>exact ⟨(y443),(0),(by first|rfl|(simp;done)|(simp [*];done)),H',⟨Nat.le_refl _⟩,⟨Kd.ra_ (HO445.out)⟩,⟨bl_ HB⟩⟩
 case round=>
  clear H'
  try clear p2
  try clear c4
  obtain ⟨x5_1,x6_1,rfl,HA,HK1,HO_5,HB⟩:=hrel
  cases gk with
  |zero=>exact absurd HA.out (by simp [Zc.l0])
  |succ k1=>
   have H:=HA.out;clear HA;simp only [Zc.l0] at H;by_cases c5:x6_1<(l0.length:Int)
   ·rw [if_pos c5] at H;have c5b0:decide (x6_1<(l0.length:Int))=true:=decide_eq_true c5;clear c5;by_cases c6:0≤x6_1
    ·rw [if_pos c6] at H;have c6b0:decide (0≤x6_1)=true:=decide_eq_true c6;clear c6;replace H:=Option.bind_eq_some_iff.mp H;obtain ⟨t447,A70,H⟩:=H;replace H:(if x5_1.length+t447.length<4398046511104 then (Zc.l0 k1 l0 a1 (x5_1 ++ t447) (wrap64 (x6_1+1))) else (none))=some r:=H;have A7:=Xa.mk A70;clear A70;by_cases c8:x5_1.length+t447.length<4398046511104
     ·rw [if_pos c8] at H;have LMc8:=Xa.mk c8;clear c8;obtain ⟨y450,hy450⟩:∃ y_:List (S36),y_=(x5_1 ++ t447):=⟨_,rfl⟩
      replace H:(Zc.l0 k1 l0 a1 y450 (wrap64 (x6_1+1)))=some r:=by subst hy450;first|with_reducible exact H|(have z:=(Option.bind_some _ _).symm.trans H;with_reducible exact z)|exact H
      have Ny450:=Xa.mk hy450;clear hy450;have H':=Xa.mk H;clear H;have p446:0≤(x6_1:Int):=of_decide_eq_true (by first|(with_reducible assumption)|assumption);have q446:x6_1<(l0.length:Int):=of_decide_eq_true (by first|(with_reducible assumption)|assumption);obtain ⟨ad446,A446_4,c446_4,A446_5,c446_5,e446,hx446_0,hx446_1,hx446_2,hx446_3,hx446_4,hx446_5,hl446_4,hi446_4,hl446_5,hi446_5⟩:=at_T62 HR0.out x6_1 p446 q446;cases e446
      replace hx446_0:=(HB.out.cell (World.block_lt_of_cell? w _ hx446_0)).trans hx446_0;replace hx446_1:=(HB.out.cell (World.block_lt_of_cell? w _ hx446_1)).trans hx446_1;replace hx446_2:=(HB.out.cell (World.block_lt_of_cell? w _ hx446_2)).trans hx446_2;replace hx446_3:=(HB.out.cell (World.block_lt_of_cell? w _ hx446_3)).trans hx446_3;replace hx446_4:=(HB.out.cell (World.block_lt_of_cell? w _ hx446_4)).trans hx446_4;replace hx446_5:=(HB.out.cell (World.block_lt_of_cell? w _ hx446_5)).trans hx446_5;have HR446_4:=Xa.mk hi446_4;have HC446_4:=Xa.mk hl446_4;clear hi446_4 hl446_4;have HR446_5:=Xa.mk hi446_5;have HC446_5:=Xa.mk hl446_5;clear hi446_5 hl446_5;replace p446:=eq_true p446;replace q446:=eq_true q446;obtain ⟨Ao9,co9,eo9⟩:=Kd.Zd HO_5.out;subst eo9;go_wp2_with (first|((with_reducible refine Xj (f:=56) rfl ?_);refine Yu (some 23) rfl rfl Tryd.func56 (by kernel_rfl) rfl #[.agg #[.int .i64 ((Yv l0 x6_1).f0),.int .i64 ((Yv l0 x6_1).f1),.int .i64 ((Yv l0 x6_1).f2),.int .i64 ((Yv l0 x6_1).f3),.slice A446_4 ((Yv l0 x6_1).f4).length c446_4,.slice A446_5 ((Yv l0 x6_1).f5).length c446_5],.int .i64 (wrap64 (a1+(x5_1.length:Int)))] rfl ga_ ?_;(with_reducible refine (ih_spec_l4One k1 (by have:=HK1.out;omega) ((Yv l0 x6_1).f0) ((Yv l0 x6_1).f1) ((Yv l0 x6_1).f2) ((Yv l0 x6_1).f3) _ _ ((Yv l0 x6_1).f4) _ _ ((Yv l0 x6_1).f5) (wrap64 (a1+(x5_1.length:Int))) t447 _ ?side1 ?side2 ?side3 ?side4 A7.out).mono ?_);(case side1=>repeat (first|exact (Kd.Zl HR446_4.out HB.out)|(with_reducible refine Kd.Yc ?_ _)|(with_reducible refine Kd.Yd ?_ _)|(with_reducible refine Kd.Yo ?_)));(case side2=>exact HC446_4.out);(case side3=>repeat (first|exact (Kd.Zl HR446_5.out HB.out)|(with_reducible refine Kd.Yc ?_ _)|(with_reducible refine Kd.Yd ?_ _)|(with_reducible refine Kd.Yo ?_)));(case side4=>exact HC446_5.out);rintro e w10 ⟨v448,rfl,ho0,hb⟩;refine ⟨_,rfl,?_⟩;have n0_:=Xa.mk (Kd.R_elder' (Kd.ra_ (HO_5.out)) (Kd.Zh ho0) hb);have n1_:=Xa.mk (Kd.Ye (Kd.R_new' ho0 (Kd.Uh (Kd.ra_ (HO_5.out)))) (Xd (bl_ HB)));have n2_:=Xa.mk (Xc (bl_ HB) hb);clear HO_5;clear HB;have HO_5:=n0_;have HO449:=n1_;have HB:=n2_;clear n0_ n1_ n2_;(try clear hb);(try clear hb2);(try clear hk);(try clear hi);(try clear ho0);obtain ⟨Ao12,co12,eo12⟩:=Kd.Zd HO449.out;subst eo12)|((with_reducible refine Zi (b:=.append) (xs:=#[.tmp 14,.tmp 23]) rfl ?_);at_builtin;refine Kd.R_append_rows k36 (w0:=w) w.heap.size rfl (.tmp 14) (.tmp 23) 25 36 (.agg #[(.int .i64 0),(.int .i64 0),(.int .i64 0),(.int .i64 0)]) 32 rfl Tryd.underlying25 info36 rfl (by decide) (by omega) (.slice Ao9 x5_1.length co9) x5_1 t447 _ _ _ (fun k_=>some k_≠(.slice Ao12 t447.length co12:Value).ownBlock) (fun _=>False) rfl rfl ?aO ?aR (fun _ _ h=>h) (fun _ h=>h.elim) ?aF ?aB ?aS ?aL ?_;(case aR=>repeat (first|exact (Kd.R_reads' HO449.out).2.2|(with_reducible refine Kd.Yc ?_ _)|(with_reducible refine Kd.Yd ?_ _)|(with_reducible refine Kd.Yo ?_)));(case aB=>exact (bl_ HB));(case aF=>exact (fun k_ hk=>Kd.fresh' (Kd.Uh (Kd.ra_ (HO449.out))) k_ hk));(case aO=>exact (Kd.ra_ (Kd.Xv HO_5.out (fun _ hk=>hk.2))));(case aS=>exact (Xd (bl_ HB)));(case aL=>have:=LMc8.out;omega);intro v451 w11 ho hb hg hat;rw [← Ny450.out] at ho;have n0_:=Xa.mk (Kd.Yx (ok:=(fun _=>True)) (Kd.ra_ (HO449.out)) hg hat);have n1_:=Xa.mk (hb);have n2_:=Xa.mk (ho);clear HO449;clear HB;clear HO_5;have HO449:=n0_;have HB:=n1_;have HO452:=n2_;clear n0_ n1_ n2_;clear ho hb hg hat))
      go_roundg k1
      case measure=>have:=HK1.out;omega
      case rel=>exact ⟨(y450),(wrap64 (x6_1+1)),(by first|rfl|(simp;done)|(simp [*];done)),H',⟨by have:=HK1.out;omega⟩,⟨Kd.ra_ (Kd.Xv HO452.out (fun _ hk=>trivial))⟩,⟨bl_ HB⟩⟩
     ·rw [if_neg c8] at H;exact absurd H (by simp)
    ·rw [if_neg c6] at H;exact absurd H (by simp)
   ·rw [if_neg c5] at H;have c5b0:decide (x6_1<(l0.length:Int))=false:=decide_eq_false c5;clear c5;obtain rfl:=Option.some.inj H;go_wp2
    go_ret
    exact ⟨_,rf_,Kd.ra_ (HO_5.out),bl_ HB⟩
theorem spec_l4One_spec_l4Of.all (k:Nat):(∀ (a0_0:Int) (a0_1:Int) (a0_2:Int) (a0_3:Int) (A0_4:Option Addr) (c0_4:Nat) (l0_4:List (S62)) (A0_5:Option Addr) (c0_5:Nat) (l0_5:List (S62)) (a1:Int) (r:List (S36)) (w:World) (hr0_4:Kd.C k62 w A0_4 l0_4.length l0_4) (hc0_4:l0_4.length≤c0_4) (hr0_5:Kd.C k62 w A0_5 l0_5.length l0_5) (hc0_5:l0_5.length≤c0_5) (h:Yz.f k a0_0 a0_1 a0_2 a0_3 l0_4 l0_5 a1=some r),
  Calls Tryd.prog 56 #[.agg #[.int .i64 a0_0,.int .i64 a0_1,.int .i64 a0_2,.int .i64 a0_3,.slice A0_4 l0_4.length c0_4,.slice A0_5 l0_5.length c0_5],.int .i64 a1] w fun e w'=>∃ v0_:Value,e=.returned (v0_)∧Kd.R k36 36 w' w.heap.size (fun _=>True) v0_ r∧Below w.heap.size w w')∧(∀ (A0:Option Addr) (c0:Nat) (l0:List (S62)) (a1:Int) (r:List (S36)) (w:World) (hr0:Kd.C k62 w A0 l0.length l0) (hc0:l0.length≤c0) (h:Zc.f k l0 a1=some r),
  Calls Tryd.prog 47 #[.slice A0 l0.length c0,.int .i64 a1] w fun e w'=>∃ v0_:Value,e=.returned (v0_)∧Kd.R k36 36 w' w.heap.size (fun _=>True) v0_ r∧Below w.heap.size w w'):=by
 induction k using Nat.strongRecOn with
 |_ k ih=>exact ⟨Yz.step k (fun m hm=>(ih m hm).1) (fun m hm=>(ih m hm).2),Zc.step k (fun m hm=>(ih m hm).1) (fun m hm=>(ih m hm).2)⟩
theorem Zc.calls (k:Nat):∀ (A0:Option Addr) (c0:Nat) (l0:List (S62)) (a1:Int) (r:List (S36)) (w:World) (hr0:Kd.C k62 w A0 l0.length l0) (hc0:l0.length≤c0) (h:Zc.f k l0 a1=some r),
  Calls Tryd.prog 47 #[.slice A0 l0.length c0,.int .i64 a1] w fun e w'=>∃ v0_:Value,e=.returned (v0_)∧Kd.R k36 36 w' w.heap.size (fun _=>True) v0_ r∧Below w.heap.size w w':=(spec_l4One_spec_l4Of.all k).2
end Go.Proofs.YtdkcjecllbdljaaDoor.GCode
